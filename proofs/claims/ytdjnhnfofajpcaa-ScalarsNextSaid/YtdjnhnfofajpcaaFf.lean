/- Contracts of mods.Add, Sub, Mul, and of what Inv does. -/
import Derived.Test.YtdjnhnfofajpcaaK7
import Derived.Test.YtdjnhnfofajpcaaN9
namespace Go.Proofs.Ytdjnhnfofajpcaa
open Go Go.Proofs Av Go.RowKit

def addM (a b m : Nat) : Nat := if may a b m then (a + b) % m else 0
def subM (a b m : Nat) : Nat := if may a b m then (a + (m - b)) % m else 0
def mulM (a b m : Nat) : Nat := if may a b m then a * b % m else 0
def eMAdd : Entry := mk 61 [.n 4, .n 4, .n 4] fun (a b m : Nat) => (.tup2 (.words .u64 4 (addM a b m)) (.int .i64 (errM a b m)), True)
def eMSub : Entry := mk 62 [.n 4, .n 4, .n 4] fun (a b m : Nat) => (.tup2 (.words .u64 4 (subM a b m)) (.int .i64 (errM a b m)), True)
def eMMul : Entry := mk 63 [.n 4, .n 4, .n 4] fun (a b m : Nat) => (.tup2 (.words .u64 4 (mulM a b m)) (.int .i64 (errM a b m)), True)
theorem mod_small {x m : Nat} {c : Prop} [Decidable c] (h : c → 1 < m) (hm : m < B ^ 4) : (if c then x % m else 0) < B ^ 4 := by
  split
  · rename_i hc
    have := h hc
    exact Nat.lt_trans (Nat.mod_lt _ (by omega)) hm
  · exact Nat.pow_pos (by decide)
theorem errM_ok (a b m : Nat) : inR .i64 (errM a b m) := by
  unfold errM
  split <;> rfl
theorem eMAdd_ok : eMAdd.OK := mk_ok_calls (c := Try.f61.body.getD .skip) Try.func61 (by kernel_rfl) (by kernel_rfl) (by intro a ha b hb m hm _ w vs hv; obtain ⟨x, y, z, rfl, ⟨rfl, _⟩, ⟨rfl, _⟩, ⟨rfl, _⟩⟩ := three_vals hv; rw [cells_dg, cells_dg, cells_dg]; refine (madd_calls a b m ha hb hm w).mono ?_; rintro e w' ⟨rfl, h2⟩; exact ⟨_, rfl, ⟨_, _, rfl, ⟨(cells_dg _).symm, WF4 (mod_small (fun h => h.1) hm)⟩, ⟨rfl, errM_ok a b m⟩⟩, h2⟩)
theorem eMSub_ok : eMSub.OK := mk_ok_calls (c := Try.f62.body.getD .skip) Try.func62 (by kernel_rfl) (by kernel_rfl) (by intro a ha b hb m hm _ w vs hv; obtain ⟨x, y, z, rfl, ⟨rfl, _⟩, ⟨rfl, _⟩, ⟨rfl, _⟩⟩ := three_vals hv; rw [cells_dg, cells_dg, cells_dg]; refine (msub_calls a b m ha hb hm w).mono ?_; rintro e w' ⟨rfl, h2⟩; exact ⟨_, rfl, ⟨_, _, rfl, ⟨(cells_dg _).symm, WF4 (mod_small (fun h => h.1) hm)⟩, ⟨rfl, errM_ok a b m⟩⟩, h2⟩)
theorem eMMul_ok : eMMul.OK := mk_ok_calls (c := Try.f63.body.getD .skip) Try.func63 (by kernel_rfl) (by kernel_rfl) (by intro a ha b hb m hm _ w vs hv; obtain ⟨x, y, z, rfl, ⟨rfl, _⟩, ⟨rfl, _⟩, ⟨rfl, _⟩⟩ := three_vals hv; rw [cells_dg, cells_dg, cells_dg]; refine (mmul_calls a b m ha hb hm w).mono ?_; rintro e w' ⟨rfl, h2⟩; exact ⟨_, rfl, ⟨_, _, rfl, ⟨(cells_dg _).symm, WF4 (mod_small (fun h => h.1) hm)⟩, ⟨rfl, errM_ok a b m⟩⟩, h2⟩)

noncomputable def eInvB : Entry := mk 105 [.n 4, .n 4, .n 4] fun (a _ m : Nat) => (.pv (.words .u64 4 (invN a m)), 1 < m ∧ a < m)
theorem invb_p (a b m : Nat) (R : AV → Prop) (h : ((((Bool.not (decide ((Nat.gcd a m) = (1 : Nat)))) = Bool.true) → (R (AV.pv (PV.words IntKind.u64 (4 : Nat) (0 : Nat))))) ∧ (((Bool.not (decide ((Nat.gcd a m) = (1 : Nat)))) = Bool.false) → (∃ o3 : (Nat × (Nat × (Nat × Nat))), ((Proofs.Ytdjnhnfofajpcaa.InvS a m o3.1 o3.2.1 o3.2.2.1 o3.2.2.2) ∧ (((m = o3.1) ∧ ((a = o3.2.1) ∧ (((0 : Nat) = o3.2.2.1) ∧ ((1 : Nat) = o3.2.2.2)))) ∧ (∀ x4 : (Nat × (Nat × (Nat × Nat))), ((Proofs.Ytdjnhnfofajpcaa.InvS a m x4.1 x4.2.1 x4.2.2.1 x4.2.2.2) → ((((Bool.not (decide (x4.2.1 = (1 : Nat)))) = Bool.true) → ((((x4.1 / x4.2.1) ≤ m) ∧ ((x4.2.2.2 + (1 : Nat)) ≤ m)) ∧ (∃ y7 : (Nat × (Nat × (Nat × Nat))), ((Proofs.Ytdjnhnfofajpcaa.InvS a m y7.1 y7.2.1 y7.2.2.1 y7.2.2.2) ∧ (((y7.2.1 + (1 : Nat)) ≤ x4.2.1) ∧ ((x4.2.1 = y7.1) ∧ (((if (x4.2.1 = (0 : Nat)) then (0 : Nat) else (x4.1 % x4.2.1)) = y7.2.1) ∧ ((x4.2.2.2 = y7.2.2.1) ∧ ((Proofs.Ytdjnhnfofajpcaa.subM x4.2.2.1 (((x4.1 / x4.2.1) * x4.2.2.2) % m) m) = y7.2.2.2))))))))) ∧ (((Bool.not (decide (x4.2.1 = (1 : Nat)))) = Bool.false) → (R (AV.pv (PV.words IntKind.u64 (4 : Nat) x4.2.2.2))))))))))))) :
    awp [eCommon, eOf, eDiv, eTimesB, eMSub] [] [] [⟨0, Nat × Nat × Nat × Nat, fun _ x => InvS a m x.1 x.2.1 x.2.2.1 x.2.2.2, fun x => shp 51 0 [(3, .box .u64 4 a), (5, .box .u64 4 m), (6, .box .u64 4 0), (7, .box .u64 4 x.1), (8, .box .u64 4 x.2.1), (9, .box .u64 4 x.2.2.1), (10, .box .u64 4 x.2.2.2)], fun x => x.2.1⟩]  400 (Try.f105.body.getD .skip) (fnPost Try.f105.results.toList R) (begins [.pv (.words .u64 4 a), .pv (.words .u64 4 b), .pv (.words .u64 4 m)] Try.f105.ntmps) :=
  Eq.mp (by kernel_rfl) (ai (ai tr (ai tr (ai tr t2))) (ai (ai t2 (ai t2 (ai t2 (ai t2 (ai t2 tr))))) (ai (fun (hk1 : ((Bool.not (decide ((Nat.gcd a m) = (1 : Nat)))) = Bool.true)) => (ai (ai t2 t2) (h.1 hk1))) (fun (hk2 : ((Bool.not (decide ((Nat.gcd a m) = (1 : Nat)))) = Bool.false)) => (ai (ai t2 (ai t2 (ai t2 (ai t2 (ai tr (ai tr (ai tr (ai tr (ai tr (ai tr (ai tr t2))))))))))) (Exists.imp (fun o3 hq10 => (ai hq10.1 (ai (ai (Eq.refl a) (ai (Eq.refl m) (ai (Eq.refl (0 : Nat)) (ai hq10.2.1.1 (ai hq10.2.1.2.1 (ai hq10.2.1.2.2.1 (ai hq10.2.1.2.2.2 tr))))))) (fun (x4 : (Nat × (Nat × (Nat × Nat)))) => (fun (hk5 : (Proofs.Ytdjnhnfofajpcaa.InvS a m x4.1 x4.2.1 x4.2.2.1 x4.2.2.2)) => (ai (ai t2 (ai t2 (ai t2 tr))) (ai (fun (hk6 : ((Bool.not (decide (x4.2.1 = (1 : Nat)))) = Bool.true)) => (ai (ai t2 (ai t2 (ai t2 (ai t2 (ai t2 (ai t2 (ai t2 (ai tr (ai tr (ai tr (ai tr (ai t2 tr)))))))))))) (ai (ai t2 (ai t2 (ai t2 (ai t2 (ai (ai (ai (((hq10.2.2 x4) hk5).1 hk6).1.1 (((hq10.2.2 x4) hk5).1 hk6).1.2) tr) (ai t2 (ai t2 (ai t2 (ai t2 (ai t2 (ai tr (ai tr (ai t2 tr))))))))))))) (ai (ai t2 (ai t2 (ai t2 (ai t2 (ai tr (ai tr (ai tr t2))))))) (Exists.imp (fun y7 hq8 => (ai hq8.1 (ai hq8.2.1 (ai (Eq.refl a) (ai (Eq.refl m) (ai (Eq.refl (0 : Nat)) (ai hq8.2.2.1 (ai hq8.2.2.2.1 (ai hq8.2.2.2.2.1 (ai hq8.2.2.2.2.2 tr)))))))))) (((hq10.2.2 x4) hk5).1 hk6).2))))) (fun (hk9 : ((Bool.not (decide (x4.2.1 = (1 : Nat)))) = Bool.false)) => (ai (ai t2 t2) (((hq10.2.2 x4) hk5).2 hk9)))))))))) (h.2 hk2)))))))


theorem eInvB_ok : eInvB.OK := mk_ok Try.func105 (by kernel_rfl) (by kernel_rfl) (TOK.cons eCommon_ok (.cons eOf_ok (.cons eDiv_ok (.cons eTimesB_ok (.cons eMSub_ok .nil))))) (by rw [Try.ntmps105]; decide) (by
  intro a _ b _ m _ hp
  obtain ⟨hm, ha⟩ : 1 < m ∧ a < m := hp
  refine ⟨[], [], _, 400, invb_p a b m _ ⟨fun h => rw_words ?_, fun h => ⟨⟨m, a, 0, 1⟩, .start hm ha ?_, ⟨rfl, rfl, rfl, rfl⟩, ?_⟩⟩⟩
  · refine (invN_none fun h1 => ?_).symm
    rw [decide_eq_true h1] at h
    cases h
  · refine Decidable.byContradiction fun h1 => ?_
    rw [decide_eq_false h1] at h
    cases h
  · rintro ⟨r, s, x, y⟩ hI
    dsimp only at *
    refine ⟨fun h1 => ?_, fun h1 => rw_words ?_⟩
    · have h1 : s ≠ 1 := by simpa using h1
      obtain ⟨g1, g2, g3⟩ := hI.step h1
      have hs := hI.hs
      have e : subM x (r / s * y % m) m = (x + (m - r / s * y % m)) % m := if_pos ⟨hm, hI.hx, Nat.mod_lt _ (by omega)⟩
      exact ⟨⟨g2, hI.hy⟩, ⟨s, r % s, y, _⟩, g1, g3, rfl, if_neg (by omega), rfl, e⟩
    · have h1 : s = 1 := by simpa using h1
      subst h1
      exact hI.done.symm)
end Go.Proofs.Ytdjnhnfofajpcaa
