/- Contracts of the greatest number and of the answers that chapter 02 fixes. -/
import Derived.Test.YtdjnhnfofajpcaaF4
namespace Go.Proofs.Ytdjnhnfofajpcaa
open Go Go.Proofs Av

def eAll : Entry := mk 86 [] (.pv (.words .u64 4 115792089237316195423570985008687907853269984665640564039457584007913129639935), True)
def eAlive2 : Entry := mk 46 [] (.pv (.blit true), True)

theorem all_p (R : AV → Prop) (h : (R (AV.pv (PV.words IntKind.u64 (4 : Nat) (115792089237316195423570985008687907853269984665640564039457584007913129639935 : Nat))))) :
    awp [] [] [] [] 200 (Try.f86.body.getD .skip) (fnPost Try.f86.results.toList R) (begins [] Try.f86.ntmps) :=
  Eq.mp (by kernel_rfl) (ai t2 (ai (ai t2 t2) h))


theorem alive2_p (R : AV → Prop) (h : (R (AV.pv (PV.bool (decide ((0 : Nat) = (0 : Nat))))))) :
    awp [eAll, eOf, eAdd, eSub, eMul, eShift, eCmp, eBits, eBit] [(28, true), (32, true), (37, true), (41, true), (46, true), (51, true), (57, true), (63, true), (69, true), (74, true), (79, true), (84, true)] [] [] 200 (Try.f46.body.getD .skip) (fnPost Try.f46.results.toList R) (begins [] Try.f46.ntmps) :=
  Eq.mp (by kernel_rfl) (ai (ai t2 tr) (ai (ai t2 (ai t2 (ai t2 (ai t2 (ai t2 (ai t2 (ai tr (ai tr (ai t2 tr))))))))) (ai (ai t2 (ai t2 (ai t2 (ai t2 (ai t2 (ai t2 (ai tr (ai tr (ai t2 tr))))))))) (ai (ai t2 (ai t2 (ai t2 (ai t2 (ai t2 (ai t2 (ai tr (ai tr (ai tr t2))))))))) (ai (ai t2 (ai t2 (ai t2 (ai (ai tr (show ((decide ((0 : Nat) = (0 : Nat))) = Bool.true) from by decide)) (ai t2 (ai t2 (ai t2 (ai (ai tr (show ((decide ((1 : Nat) = (1 : Nat))) = Bool.true) from by decide)) (ai t2 (ai t2 (ai t2 (ai t2 (ai (ai tr (show ((decide ((115792089237316195423570985008687907853269984665640564039457584007913129639935 : Nat) = (115792089237316195423570985008687907853269984665640564039457584007913129639935 : Nat))) = Bool.true) from by decide)) (ai t2 (ai t2 (ai t2 (ai (ai tr (show ((decide ((1 : Nat) = (1 : Nat))) = Bool.true) from by decide)) (ai t2 (ai t2 (ai t2 (ai t2 (ai (ai tr (show ((decide ((0 : Nat) = (0 : Nat))) = Bool.true) from by decide)) (ai t2 (ai t2 (ai t2 (ai t2 (ai (ai tr (show ((decide ((1 : Nat) = (1 : Nat))) = Bool.true) from by decide)) (ai t2 (ai t2 (ai t2 (ai t2 (ai t2 (ai (ai tr (show ((decide ((92233720368547758080 : Nat) = (92233720368547758080 : Nat))) = Bool.true) from by decide)) (ai t2 (ai t2 (ai t2 (ai t2 (ai t2 (ai (ai tr (show ((decide ((1 : Nat) = (1 : Nat))) = Bool.true) from by decide)) (ai t2 (ai t2 (ai t2 (ai t2 (ai t2 (ai (ai tr (show ((decide ((-1 : Int) = (-1 : Int))) = Bool.true) from by decide)) (ai t2 (ai t2 (ai t2 (ai t2 (ai (ai tr (show ((decide ((0 : Int) = (0 : Int))) = Bool.true) from by decide)) (ai t2 (ai t2 (ai t2 (ai t2 (ai (ai tr (show ((decide ((65 : Int) = (65 : Int))) = Bool.true) from by decide)) (ai t2 (ai t2 (ai t2 (ai t2 (ai (ai tr (show ((decide ((1 : Nat) = (1 : Nat))) = Bool.true) from by decide)) (ai t2 (ai t2 (ai t2 (ai t2 (ai t2 tr))))))))))))))))))))))))))))))))))))))))))))))))))))))))))))))))) h)))))


theorem eAll_ok : eAll.OK := mk_ok Try.func86 (by kernel_rfl) (by kernel_rfl) .nil (by rw [Try.ntmps86]; decide) (fun _ => ⟨[], [], [], 200, all_p _ (rw_words rfl)⟩)
theorem eAlive2_ok : eAlive2.OK := mk_ok Try.func46 (by kernel_rfl) (by kernel_rfl)
  (TOK.cons eAll_ok (.cons eOf_ok (.cons eAdd_ok (.cons eSub_ok (.cons eMul_ok (.cons eShift_ok (.cons eCmp_ok (.cons eBits_ok (.cons eBit_ok .nil))))))))) (by rw [Try.ntmps46]; decide)
  (fun _ => ⟨_, [], [], 200, alive2_p _ rfl⟩)
end Go.Proofs.Ytdjnhnfofajpcaa
