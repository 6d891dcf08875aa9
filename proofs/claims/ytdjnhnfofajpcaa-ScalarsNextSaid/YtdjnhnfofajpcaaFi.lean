/- Contracts of chapter 04's reference's Inv, and of the laws' own of, Below, is, alive. -/
import Derived.Test.YtdjnhnfofajpcaaFh
namespace Go.Proofs.Ytdjnhnfofajpcaa
open Go Go.Proofs Av Go.RowKit

noncomputable def eRMInv : Entry := mk 70 [.n 4, .n 4] fun (a m : Nat) => (.tup2 (.words .u64 4 (invM a m)) (.int .i64 (errI a m)), True)
def remN (a b : Nat) : Nat := if b = 0 then 0 else a % b
def eDivN : Entry := mk 53 [.n 4, .n 4] fun (a b : Nat) => (.tup3 (.words .u64 4 (a / b)) (.words .u64 4 (remN a b)) (.int .i64 (if b = 0 then 1 else 0)), True)
theorem eDivN_ok : eDivN.OK := eDiv_ok
def eOf4 : Entry := mk 71 [.u .u64] fun (n : Nat) => (.pv (.words .u64 4 n), True)
def eBelow : Entry := mk 73 [.n 4, .n 4] fun (a m : Nat) => (.pv (.words .u64 4 (remN a m)), True)
def eIs4 : Entry := mk 109 [.n 4, .z .i64, .u .u64] fun (a : Nat) (e : Int) (n : Nat) => (.pv (.bool (decide (e = 0 ∧ a = n))), True)
def eAlive4 : Entry := mk 72 [] (.pv (.blit true), True)
theorem rminv_p (a m : Nat) (R : AV → Prop) (h : ((((Bool.not (decide (Proofs.Ytdjnhnfofajpcaa.may a a m))) = Bool.true) → (R (AV.tup2 (PV.words IntKind.u64 (4 : Nat) (0 : Nat)) (PV.lit IntKind.i64 (1 : Int))))) ∧ (((Bool.not (decide (Proofs.Ytdjnhnfofajpcaa.may a a m))) = Bool.false) → ((((Bool.not (decide ((Nat.gcd a m) = (1 : Nat)))) = Bool.true) → (R (AV.tup2 (PV.words IntKind.u64 (4 : Nat) (0 : Nat)) (PV.lit IntKind.i64 (7 : Int))))) ∧ (((Bool.not (decide ((Nat.gcd a m) = (1 : Nat)))) = Bool.false) → (∃ o5 : (Nat × (Nat × (Nat × Nat))), ((Proofs.Ytdjnhnfofajpcaa.InvS a m o5.1 o5.2.1 o5.2.2.1 o5.2.2.2) ∧ (((m = o5.1) ∧ ((a = o5.2.1) ∧ (((0 : Nat) = o5.2.2.1) ∧ ((1 : Nat) = o5.2.2.2)))) ∧ (∀ x6 : (Nat × (Nat × (Nat × Nat))), ((Proofs.Ytdjnhnfofajpcaa.InvS a m x6.1 x6.2.1 x6.2.2.1 x6.2.2.2) → ((((Bool.not (decide (x6.2.1 = (1 : Nat)))) = Bool.true) → (((((if (m = (0 : Nat)) then (0 : Nat) else ((x6.1 / x6.2.1) % m)) + (1 : Nat)) ≤ m) ∧ ((x6.2.2.2 + (1 : Nat)) ≤ m)) ∧ (∃ y9 : (Nat × (Nat × (Nat × Nat))), ((Proofs.Ytdjnhnfofajpcaa.InvS a m y9.1 y9.2.1 y9.2.2.1 y9.2.2.2) ∧ (((y9.2.1 + (1 : Nat)) ≤ x6.2.1) ∧ ((x6.2.1 = y9.1) ∧ (((if (x6.2.1 = (0 : Nat)) then (0 : Nat) else (x6.1 % x6.2.1)) = y9.2.1) ∧ ((x6.2.2.2 = y9.2.2.1) ∧ ((Proofs.Ytdjnhnfofajpcaa.subM x6.2.2.1 (((if (m = (0 : Nat)) then (0 : Nat) else ((x6.1 / x6.2.1) % m)) * x6.2.2.2) % m) m) = y9.2.2.2))))))))) ∧ (((Bool.not (decide (x6.2.1 = (1 : Nat)))) = Bool.false) → (R (AV.tup2 (PV.words IntKind.u64 (4 : Nat) x6.2.2.2) (PV.lit IntKind.i64 (0 : Int)))))))))))))))) :
    awp [eMay, eRCommon, eROf, eRDiv, eRTimes, eRMSub] [] [] [⟨0, Nat × Nat × Nat × Nat, fun _ x => InvS a m x.1 x.2.1 x.2.2.1 x.2.2.2, fun x => shp 62 0 [(2, .box .u64 4 a), (3, .box .u64 4 m), (4, .box .u64 4 0), (6, .box .u64 4 x.1), (7, .box .u64 4 x.2.1), (8, .box .u64 4 x.2.2.1), (9, .box .u64 4 x.2.2.2)], fun x => x.2.1⟩]  400 (Try.f70.body.getD .skip) (fnPost Try.f70.results.toList R) (begins [.pv (.words .u64 4 a), .pv (.words .u64 4 m)] Try.f70.ntmps) :=
  Eq.mp (by kernel_rfl) (ai (ai tr (ai tr (ai tr (ai t2 tr)))) (ai (ai t2 (ai t2 (ai t2 (ai t2 (ai t2 tr))))) (ai (fun (hk1 : ((Bool.not (decide (Proofs.Ytdjnhnfofajpcaa.may a a m))) = Bool.true)) => (ai (ai t2 (ai tr (ai t2 tr))) (h.1 hk1))) (fun (hk2 : ((Bool.not (decide (Proofs.Ytdjnhnfofajpcaa.may a a m))) = Bool.false)) => (ai (ai t2 (ai t2 (ai t2 (ai t2 (ai t2 tr))))) (ai (fun (hk3 : ((Bool.not (decide ((Nat.gcd a m) = (1 : Nat)))) = Bool.true)) => (ai (ai t2 (ai tr (ai t2 tr))) ((h.2 hk2).1 hk3))) (fun (hk4 : ((Bool.not (decide ((Nat.gcd a m) = (1 : Nat)))) = Bool.false)) => (ai (ai t2 (ai tr t2)) (ai (ai t2 (ai tr t2)) (ai t2 (ai (ai t2 (ai tr t2)) (Exists.imp (fun o5 hq12 => (ai hq12.1 (ai (ai (Eq.refl a) (ai (Eq.refl m) (ai (Eq.refl (0 : Nat)) (ai hq12.2.1.1 (ai hq12.2.1.2.1 (ai hq12.2.1.2.2.1 (ai hq12.2.1.2.2.2 tr))))))) (fun (x6 : (Nat × (Nat × (Nat × Nat)))) => (fun (hk7 : (Proofs.Ytdjnhnfofajpcaa.InvS a m x6.1 x6.2.1 x6.2.2.1 x6.2.2.2)) => (ai (ai t2 (ai t2 (ai t2 tr))) (ai (fun (hk8 : ((Bool.not (decide (x6.2.1 = (1 : Nat)))) = Bool.true)) => (ai (ai t2 (ai t2 (ai t2 (ai t2 (ai t2 (ai t2 (ai t2 (ai tr (ai tr (ai tr (ai tr (ai t2 tr)))))))))))) (ai (ai t2 (ai t2 (ai t2 (ai t2 (ai t2 (ai t2 (ai t2 t2))))))) (ai (ai t2 (ai t2 (ai t2 (ai t2 (ai (ai (ai (((hq12.2.2 x6) hk7).1 hk8).1.1 (((hq12.2.2 x6) hk7).1 hk8).1.2) tr) (ai t2 (ai t2 (ai t2 (ai t2 (ai t2 (ai tr (ai tr (ai t2 tr))))))))))))) (ai (ai t2 t2) (ai (ai t2 t2) (ai (ai t2 t2) (ai (ai t2 t2) (Exists.imp (fun y9 hq10 => (ai hq10.1 (ai hq10.2.1 (ai (Eq.refl a) (ai (Eq.refl m) (ai (Eq.refl (0 : Nat)) (ai hq10.2.2.1 (ai hq10.2.2.2.1 (ai hq10.2.2.2.2.1 (ai hq10.2.2.2.2.2 tr)))))))))) (((hq12.2.2 x6) hk7).1 hk8).2))))))))) (fun (hk11 : ((Bool.not (decide (x6.2.1 = (1 : Nat)))) = Bool.false)) => (ai (ai t2 (ai tr (ai t2 tr))) (((hq12.2.2 x6) hk7).2 hk11)))))))))) ((h.2 hk2).2 hk4)))))))))))))


theorem of4_p (n : Nat) (R : AV → Prop) (h : (R (AV.pv (PV.words IntKind.u64 (4 : Nat) n)))) :
    awp [eOf] [] [] [] 200 (Try.f71.body.getD .skip) (fnPost Try.f71.results.toList R) (begins [.pv (.nat .u64 n)] Try.f71.ntmps) :=
  Eq.mp (by kernel_rfl) (ai t2 (ai (ai t2 (ai t2 t2)) h))


theorem eOf4_ok : eOf4.OK := mk_ok Try.func71 (by kernel_rfl) (by kernel_rfl) (TOK.cons eOf_ok .nil) (by rw [Try.ntmps71]; decide) (by
  intro n hn _
  exact ⟨[], [], [], 200, of4_p n _ (rw_words rfl)⟩)
theorem below_p (a m : Nat) (R : AV → Prop) (h : (R (AV.pv (PV.words IntKind.u64 (4 : Nat) (Proofs.Ytdjnhnfofajpcaa.remN a m))))) :
    awp [eDivN] [] [] [] 200 (Try.f73.body.getD .skip) (fnPost Try.f73.results.toList R) (begins [.pv (.words .u64 4 a), .pv (.words .u64 4 m)] Try.f73.ntmps) :=
  Eq.mp (by kernel_rfl) (ai (ai tr (ai tr t2)) (ai (ai t2 (ai t2 (ai t2 (ai t2 (ai t2 (ai t2 (ai t2 (ai tr (ai tr (ai tr (ai tr (ai t2 tr)))))))))))) (ai (ai t2 t2) h)))


theorem eBelow_ok : eBelow.OK := mk_ok Try.func73 (by kernel_rfl) (by kernel_rfl) (TOK.cons eDivN_ok .nil) (by rw [Try.ntmps73]; decide) (by
  intro a _ m _ _
  exact ⟨[], [], [], 200, below_p a m _ (rw_words rfl)⟩)
theorem is4_p (a : Nat) (e : Int) (n : Nat) (R : AV → Prop) (h : ((((decide (e = (0 : Int))) = Bool.true) → (R (AV.pv (PV.bool (decide (a = n)))))) ∧ (((decide (e = (0 : Int))) = Bool.false) → (R (AV.pv (PV.blit Bool.false)))))) :
    awp [eOf4] [] [9] [] 200 (Try.f109.body.getD .skip) (fnPost Try.f109.results.toList R) (begins [.pv (.words .u64 4 a), .pv (.int .i64 e), .pv (.nat .u64 n)] Try.f109.ntmps) :=
  Eq.mp (by kernel_rfl) (ai (ai tr (ai t2 tr)) (ai (fun (hk13 : ((decide (e = (0 : Int))) = Bool.true)) => (ai (ai t2 (ai t2 (ai (ai tr hk13) (ai t2 (ai t2 (ai t2 (ai t2 (ai t2 (ai t2 tr))))))))) (h.1 hk13))) (fun (hk14 : ((decide (e = (0 : Int))) = Bool.false)) => (ai (ai t2 (ai t2 (ai (ai tr hk14) (ai tr (ai tr (ai tr (ai tr (ai t2 (ai t2 tr))))))))) (h.2 hk14)))))


theorem eIs4_ok : eIs4.OK := mk_ok Try.func109 (by kernel_rfl) (by kernel_rfl) (TOK.cons eOf4_ok .nil) (by rw [Try.ntmps109]; decide) (by
  intro a _ e _ n _ _
  refine ⟨[], [9], [], 200, is4_p a e n _ ⟨fun h => rw_bool (decide_eq_decide.2 ?_), fun h => rw_blit (decide_eq_false ?_).symm⟩⟩
  · have h := of_decide_eq_true h
    exact ⟨fun h1 => ⟨h, h1⟩, fun h1 => h1.2⟩
  · exact fun h1 => of_decide_eq_false h h1.1)
theorem alive4_p (R : AV → Prop) (h : (((decide (((Proofs.Ytdjnhnfofajpcaa.errI (3 : Nat) (7 : Nat)) = (0 : Int)) ∧ ((Proofs.Ytdjnhnfofajpcaa.invM (3 : Nat) (7 : Nat)) = (5 : Nat)))) = Bool.true) ∧ (R (AV.pv (PV.bool (decide (((0 : Int) = (0 : Int)) ∧ ((1 : Nat) = (1 : Nat))))))))) :
    awp [eOf4, eMAdd, eMSub, eMMul, eMExp, eMInv, eIs4] [(91, true), (96, true), (101, true), (106, true), (111, true), (115, true), (119, true), (123, true), (127, true)] [] [] 200 (Try.f72.body.getD .skip) (fnPost Try.f72.results.toList R) (begins [] Try.f72.ntmps) :=
  Eq.mp (by kernel_rfl) (ai (ai t2 tr) (ai (ai t2 (ai t2 (ai t2 (ai t2 (ai t2 (ai t2 (ai t2 (ai tr (ai tr (ai t2 tr)))))))))) (ai (ai t2 (ai t2 (ai t2 (ai t2 (ai t2 (ai t2 (ai t2 (ai tr (ai tr (ai t2 tr)))))))))) (ai (ai t2 (ai t2 (ai t2 (ai t2 (ai t2 (ai t2 (ai t2 (ai tr (ai tr (ai t2 tr)))))))))) (ai (ai t2 (ai t2 (ai t2 (ai t2 (ai t2 (ai t2 (ai t2 (ai tr (ai tr (ai t2 tr)))))))))) (ai (ai t2 (ai t2 (ai t2 (ai t2 (ai t2 (ai t2 (ai tr (ai tr (ai t2 tr))))))))) (ai (ai t2 (ai t2 (ai t2 (ai t2 (ai t2 (ai t2 (ai t2 (ai tr (ai tr (ai t2 tr)))))))))) (ai (ai t2 (ai t2 (ai t2 (ai t2 (ai t2 (ai t2 (ai t2 (ai tr (ai tr (ai t2 tr)))))))))) (ai (ai t2 (ai t2 (ai t2 (ai t2 (ai t2 (ai t2 (ai tr (ai tr (ai t2 tr))))))))) (ai (ai t2 (ai t2 (ai t2 (ai t2 (ai t2 (ai t2 (ai tr (ai tr (ai t2 tr))))))))) (ai (ai t2 (ai t2 (ai t2 (ai t2 (ai t2 (ai t2 (ai t2 (ai tr (ai tr (ai t2 tr)))))))))) (ai (ai t2 (ai t2 (ai t2 (ai (ai tr (show ((decide (((0 : Int) = (0 : Int)) ∧ ((4 : Nat) = (4 : Nat)))) = Bool.true) from by decide)) (ai t2 (ai t2 (ai t2 (ai t2 (ai (ai tr (show ((decide (((0 : Int) = (0 : Int)) ∧ ((3 : Nat) = (3 : Nat)))) = Bool.true) from by decide)) (ai t2 (ai t2 (ai t2 (ai t2 (ai (ai tr (show ((decide (((0 : Int) = (0 : Int)) ∧ ((2 : Nat) = (2 : Nat)))) = Bool.true) from by decide)) (ai t2 (ai t2 (ai t2 (ai t2 (ai (ai tr (show ((decide (((0 : Int) = (0 : Int)) ∧ ((1 : Nat) = (1 : Nat)))) = Bool.true) from by decide)) (ai t2 (ai t2 (ai t2 (ai t2 (ai (ai tr h.1) (ai t2 (ai t2 (ai t2 (ai (ai tr (show ((decide ((1 : Int) = (1 : Int))) = Bool.true) from by decide)) (ai t2 (ai t2 (ai t2 (ai (ai tr (show ((decide ((1 : Int) = (1 : Int))) = Bool.true) from by decide)) (ai t2 (ai t2 (ai t2 (ai (ai tr (show ((decide ((7 : Int) = (7 : Int))) = Bool.true) from by decide)) (ai t2 (ai t2 (ai t2 (ai (ai tr (show ((decide ((7 : Int) = (7 : Int))) = Bool.true) from by decide)) (ai t2 (ai t2 (ai t2 (ai t2 (ai t2 tr))))))))))))))))))))))))))))))))))))))))))))) h.2))))))))))))


theorem eRMInv_ok : eRMInv.OK := mk_ok Try.func70 (by kernel_rfl) (by kernel_rfl) (TOK.cons eMay_ok (.cons eRCommon_ok (.cons eROf_ok (.cons eRDiv_ok (.cons eRTimes_ok (.cons eRMSub_ok .nil)))))) (by rw [Try.ntmps70]; decide) (by
  intro a _ m _ _
  refine ⟨[], [], _, 400, rminv_p a m _ ⟨fun h => ?_, fun h => ⟨fun h1 => ?_, fun h1 => ⟨⟨m, a, 0, 1⟩, .start (yes_may h).1 (yes_may h).2.1 ?_, ⟨rfl, rfl, rfl, rfl⟩, ?_⟩⟩⟩⟩
  · have h := not_may h
    exact rw_2 (rw_words (if_neg h).symm) (rw_lit (if_neg h).symm)
  · have h := yes_may h
    have h1 : invN a m = 0 := invN_none (not_may h1)
    refine rw_2 (rw_words ((if_pos h).trans h1).symm) (rw_lit ((if_pos h).trans (if_pos h1)).symm)
  · exact yes_may h1
  · have h := yes_may h
    obtain ⟨hm, ha, _⟩ := id h
    rintro ⟨r, s, x, y⟩ hI
    dsimp only at *
    refine ⟨fun h2 => ?_, fun h2 => ?_⟩
    · have h2 : s ≠ 1 := by simpa using h2
      obtain ⟨g1, g2, g3⟩ := hI.step h2
      have hs := hI.hs
      have e : subM x (r / s % m * y % m) m = (x + (m - r / s * y % m)) % m := by rw [Nat.mod_mul_mod]; exact if_pos ⟨hm, hI.hx, Nat.mod_lt _ (by omega)⟩
      rw [if_neg (show ¬ m = 0 by omega)]
      exact ⟨⟨Nat.mod_lt _ (by omega), hI.hy⟩, ⟨s, r % s, y, _⟩, g1, g3, rfl, if_neg (by omega), rfl, e⟩
    · have h2 : s = 1 := by simpa using h2
      subst h2
      have hy : invN a m ≠ 0 := (inv_there hm ha (yes_may h1)).2.2
      exact rw_2 (rw_words (((if_pos h).trans hI.done).symm)) (rw_lit ((if_pos h).trans (if_neg hy)).symm))
theorem inv37 : errI 3 7 = 0 ∧ invM 3 7 = 5 := by
  have h : invN 3 7 = 5 := invN_eq (by decide) (by decide)
  have hm : may 3 3 7 := ⟨by decide, by decide, by decide⟩
  unfold errI invM
  rw [if_pos hm, if_pos hm, h]
  exact ⟨rfl, rfl⟩
theorem eAlive4_ok : eAlive4.OK := mk_ok Try.func72 (by kernel_rfl) (by kernel_rfl)
  (TOK.cons eOf4_ok (.cons eMAdd_ok (.cons eMSub_ok (.cons eMMul_ok (.cons eMExp_ok (.cons eMInv_ok (.cons eIs4_ok .nil))))))) (by rw [Try.ntmps72]; decide)
  (fun _ => ⟨_, [], [], 200, alive4_p _ ⟨decide_eq_true inv37, rfl⟩⟩)
end Go.Proofs.Ytdjnhnfofajpcaa
