/- Contracts of chapter 03's small number and of the answers that it fixes. -/
import Derived.Test.YtdjnhnfofajpcaaFc
namespace Go.Proofs.Ytdjnhnfofajpcaa
open Go Go.Proofs Av

def eOf3 : Entry := mk 59 [.u .u64] fun (n : Nat) => (.pv (.words .u64 4 n), True)
def eAlive3 : Entry := mk 60 [] (.pv (.blit true), True)

theorem of3_p (n : Nat) (R : AV → Prop) (h : (R (AV.pv (PV.words IntKind.u64 (4 : Nat) n)))) :
    awp [eOf] [] [] [] 200 (Try.f59.body.getD .skip) (fnPost Try.f59.results.toList R) (begins [.pv (.nat .u64 n)] Try.f59.ntmps) :=
  Eq.mp (by kernel_rfl) (ai t2 (ai (ai t2 (ai t2 t2)) h))


theorem eOf3_ok : eOf3.OK := mk_ok Try.func59 (by kernel_rfl) (by kernel_rfl) (TOK.cons eOf_ok .nil) (by rw [Try.ntmps59]; decide) (by
  intro n hn _
  exact ⟨[], [], [], 200, of3_p n _ (rw_words rfl)⟩)
theorem alive3_p (R : AV → Prop) (h : (R (AV.pv (PV.bool (decide ((0 : Nat) = (0 : Nat))))))) :
    awp [eOf3, eDiv, eWide, eCommon] [(61, true), (66, true), (70, true), (75, true), (80, true), (84, true), (88, true), (93, true), (97, true), (102, true), (106, true), (110, true), (117, true), (124, true)] [] [] 200 (Try.f60.body.getD .skip) (fnPost Try.f60.results.toList R) (begins [] Try.f60.ntmps) :=
  Eq.mp (by kernel_rfl) (ai (ai t2 tr) (ai (ai t2 (ai t2 (ai t2 (ai t2 (ai t2 (ai t2 (ai t2 (ai tr (ai tr (ai tr (ai tr (ai t2 tr)))))))))))) (ai (ai t2 (ai t2 (ai t2 (ai t2 (ai t2 (ai t2 (ai t2 (ai tr (ai tr (ai tr (ai tr (ai t2 tr)))))))))))) (ai (ai t2 (ai t2 (ai t2 (ai t2 (ai t2 (ai t2 (ai t2 (ai tr (ai tr (ai tr (ai tr (ai t2 tr)))))))))))) (ai (ai t2 (ai t2 (ai t2 (ai t2 (ai t2 (ai t2 (ai t2 (ai tr (ai tr (ai t2 tr)))))))))) (ai (ai t2 (ai t2 (ai t2 (ai t2 (ai t2 (ai t2 (ai t2 (ai tr (ai tr (ai t2 tr)))))))))) (ai (ai t2 (ai t2 (ai t2 (ai t2 (ai t2 (ai t2 (ai t2 (ai tr (ai tr (ai t2 tr)))))))))) (ai (ai t2 (ai t2 (ai t2 (ai (ai tr (show ((decide ((3 : Nat) = (3 : Nat))) = Bool.true) from by decide)) (ai t2 (ai t2 (ai t2 (ai t2 (ai (ai tr (show ((decide ((2 : Nat) = (2 : Nat))) = Bool.true) from by decide)) (ai t2 (ai t2 (ai t2 (ai (ai tr (show ((decide ((0 : Int) = (0 : Int))) = Bool.true) from by decide)) (ai t2 (ai t2 (ai t2 (ai t2 (ai (ai tr (show ((decide ((1267650600228229401496703205376 : Nat) = (1267650600228229401496703205376 : Nat))) = Bool.true) from by decide)) (ai t2 (ai t2 (ai t2 (ai t2 (ai (ai tr (show ((decide ((0 : Nat) = (0 : Nat))) = Bool.true) from by decide)) (ai t2 (ai t2 (ai t2 (ai (ai tr (show ((decide ((0 : Int) = (0 : Int))) = Bool.true) from by decide)) (ai t2 (ai t2 (ai t2 (ai (ai tr (show ((decide ((1 : Int) = (1 : Int))) = Bool.true) from by decide)) (ai t2 (ai t2 (ai t2 (ai t2 (ai (ai tr (show ((decide ((5 : Nat) = (5 : Nat))) = Bool.true) from by decide)) (ai t2 (ai t2 (ai t2 (ai (ai tr (show ((decide ((0 : Int) = (0 : Int))) = Bool.true) from by decide)) (ai t2 (ai t2 (ai t2 (ai t2 (ai (ai tr (show ((decide ((0 : Nat) = (0 : Nat))) = Bool.true) from by decide)) (ai t2 (ai t2 (ai t2 (ai (ai tr (show ((decide ((0 : Int) = (0 : Int))) = Bool.true) from by decide)) (ai t2 (ai t2 (ai t2 (ai (ai tr (show ((decide ((1 : Int) = (1 : Int))) = Bool.true) from by decide)) (ai t2 (ai t2 (ai t2 (ai t2 (ai t2 (ai t2 (ai (ai tr (show ((decide ((6 : Nat) = (6 : Nat))) = Bool.true) from by decide)) (ai t2 (ai t2 (ai t2 (ai t2 (ai t2 (ai t2 (ai (ai tr (show ((decide ((5 : Nat) = (5 : Nat))) = Bool.true) from by decide)) (ai t2 (ai t2 (ai t2 (ai t2 (ai t2 (ai t2 (ai t2 tr)))))))))))))))))))))))))))))))))))))))))))))))))))))))))))))))))))))))))) h))))))))


theorem eAlive3_ok : eAlive3.OK := mk_ok Try.func60 (by kernel_rfl) (by kernel_rfl)
  (TOK.cons eOf3_ok (.cons eDiv_ok (.cons eWide_ok (.cons eCommon_ok .nil)))) (by rw [Try.ntmps60]; decide)
  (fun _ => ⟨_, [], [], 200, alive3_p _ rfl⟩)
end Go.Proofs.Ytdjnhnfofajpcaa
