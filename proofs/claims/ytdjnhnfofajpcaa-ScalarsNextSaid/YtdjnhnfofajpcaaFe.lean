/- Contracts of chapter 04's plain functions: what Add and Sub do, word, times. -/
import Derived.Test.YtdjnhnfofajpcaaFd
namespace Go.Proofs.Ytdjnhnfofajpcaa
open Go Go.Proofs Av

def eAddB : Entry := mk 95 [.n 4, .n 4, .n 4] fun (a b m : Nat) => (.pv (.words .u64 4 ((a + b) % m)), a < m ∧ b < m)
def eSubB : Entry := mk 97 [.n 4, .n 4, .n 4] fun (a b m : Nat) => (.pv (.words .u64 4 ((a + (m - b)) % m)), a < m ∧ b < m)
def eWordB : Entry := mk 102 [.u .u64, .u .u64, .u .u64] fun (a b m : Nat) => (.pv (.nat .u64 (a * b % m)), a ≤ m ∧ b < m)
def eTimesB : Entry := mk 98 [.n 4, .n 4, .n 4] fun (a b m : Nat) => (.pv (.words .u64 4 (a * b % m)), a ≤ m ∧ b < m)

theorem addb_p (a b m : Nat) (R : AV → Prop) (h : ((((decide (((a + b) / (115792089237316195423570985008687907853269984665640564039457584007913129639936 : Nat)) = (1 : Nat))) = Bool.true) → (R (AV.pv (PV.words IntKind.u64 (4 : Nat) ((((a + b) % (115792089237316195423570985008687907853269984665640564039457584007913129639936 : Nat)) + ((115792089237316195423570985008687907853269984665640564039457584007913129639936 : Nat) - m)) % (115792089237316195423570985008687907853269984665640564039457584007913129639936 : Nat)))))) ∧ (((decide (((a + b) / (115792089237316195423570985008687907853269984665640564039457584007913129639936 : Nat)) = (1 : Nat))) = Bool.false) → ((((decide ((if (((a + b) % (115792089237316195423570985008687907853269984665640564039457584007913129639936 : Nat)) < m) then (1 : Nat) else (0 : Nat)) = (0 : Nat))) = Bool.true) → (R (AV.pv (PV.words IntKind.u64 (4 : Nat) ((((a + b) % (115792089237316195423570985008687907853269984665640564039457584007913129639936 : Nat)) + ((115792089237316195423570985008687907853269984665640564039457584007913129639936 : Nat) - m)) % (115792089237316195423570985008687907853269984665640564039457584007913129639936 : Nat)))))) ∧ (((decide ((if (((a + b) % (115792089237316195423570985008687907853269984665640564039457584007913129639936 : Nat)) < m) then (1 : Nat) else (0 : Nat)) = (0 : Nat))) = Bool.false) → (R (AV.pv (PV.words IntKind.u64 (4 : Nat) ((a + b) % (115792089237316195423570985008687907853269984665640564039457584007913129639936 : Nat)))))))))) :
    awp [eAdd, eSub] [] [25] [] 200 (Try.f95.body.getD .skip) (fnPost Try.f95.results.toList R) (begins [.pv (.words .u64 4 a), .pv (.words .u64 4 b), .pv (.words .u64 4 m)] Try.f95.ntmps) :=
  Eq.mp (by kernel_rfl) (ai (ai tr (ai tr (ai tr t2))) (ai (ai t2 (ai t2 (ai t2 (ai t2 (ai t2 (ai t2 (ai tr (ai tr (ai t2 tr))))))))) (ai (ai t2 (ai t2 (ai t2 (ai t2 (ai t2 (ai t2 (ai tr (ai tr (ai t2 tr))))))))) (ai (fun (hk1 : ((decide (((a + b) / (115792089237316195423570985008687907853269984665640564039457584007913129639936 : Nat)) = (1 : Nat))) = Bool.true)) => (ai (ai t2 (ai t2 (ai (ai tr hk1) (ai tr (ai tr (ai t2 tr)))))) (ai (ai t2 t2) (h.1 hk1)))) (fun (hk2 : ((decide (((a + b) / (115792089237316195423570985008687907853269984665640564039457584007913129639936 : Nat)) = (1 : Nat))) = Bool.false)) => (ai (ai t2 (ai t2 (ai (ai tr hk2) (ai t2 (ai t2 (ai t2 tr)))))) (ai (fun (hk3 : ((decide ((if (((a + b) % (115792089237316195423570985008687907853269984665640564039457584007913129639936 : Nat)) < m) then (1 : Nat) else (0 : Nat)) = (0 : Nat))) = Bool.true)) => (ai (ai t2 t2) ((h.2 hk2).1 hk3))) (fun (hk4 : ((decide ((if (((a + b) % (115792089237316195423570985008687907853269984665640564039457584007913129639936 : Nat)) < m) then (1 : Nat) else (0 : Nat)) = (0 : Nat))) = Bool.false)) => (ai (ai t2 t2) ((h.2 hk2).2 hk4))))))))))


theorem subb_p (a b m : Nat) (R : AV → Prop) (h : ((((decide ((if (a < b) then (1 : Nat) else (0 : Nat)) = (1 : Nat))) = Bool.true) → (R (AV.pv (PV.words IntKind.u64 (4 : Nat) ((((a + ((115792089237316195423570985008687907853269984665640564039457584007913129639936 : Nat) - b)) % (115792089237316195423570985008687907853269984665640564039457584007913129639936 : Nat)) + m) % (115792089237316195423570985008687907853269984665640564039457584007913129639936 : Nat)))))) ∧ (((decide ((if (a < b) then (1 : Nat) else (0 : Nat)) = (1 : Nat))) = Bool.false) → (R (AV.pv (PV.words IntKind.u64 (4 : Nat) ((a + ((115792089237316195423570985008687907853269984665640564039457584007913129639936 : Nat) - b)) % (115792089237316195423570985008687907853269984665640564039457584007913129639936 : Nat)))))))) :
    awp [eAdd, eSub] [] [] [] 200 (Try.f97.body.getD .skip) (fnPost Try.f97.results.toList R) (begins [.pv (.words .u64 4 a), .pv (.words .u64 4 b), .pv (.words .u64 4 m)] Try.f97.ntmps) :=
  Eq.mp (by kernel_rfl) (ai (ai tr (ai tr (ai tr t2))) (ai (ai t2 (ai t2 (ai t2 (ai t2 (ai t2 (ai t2 (ai tr (ai tr (ai t2 tr))))))))) (ai (ai t2 (ai t2 tr)) (ai (fun (hk5 : ((decide ((if (a < b) then (1 : Nat) else (0 : Nat)) = (1 : Nat))) = Bool.true)) => (ai (ai t2 (ai t2 (ai t2 (ai t2 (ai t2 (ai t2 t2)))))) (ai (ai t2 t2) (h.1 hk5)))) (fun (hk6 : ((decide ((if (a < b) then (1 : Nat) else (0 : Nat)) = (1 : Nat))) = Bool.false)) => (ai (ai t2 t2) (h.2 hk6)))))))


theorem wordb_p (a b m : Nat) (R : AV → Prop) (h : (((((a * b) / (18446744073709551616 : Nat)) + (1 : Nat)) ≤ m) ∧ (R (AV.pv (PV.nat IntKind.u64 (((((a * b) / (18446744073709551616 : Nat)) * (18446744073709551616 : Nat)) + ((a * b) % (18446744073709551616 : Nat))) % m)))))) :
    awp [eMul64, eDiv64] [] [] [] 200 (Try.f102.body.getD .skip) (fnPost Try.f102.results.toList R) (begins [.pv (.nat .u64 a), .pv (.nat .u64 b), .pv (.nat .u64 m)] Try.f102.ntmps) :=
  Eq.mp (by kernel_rfl) (ai (ai t2 tr) (ai (ai t2 (ai t2 (ai t2 (ai t2 (ai t2 (ai t2 (ai t2 (ai t2 tr)))))))) (ai (ai t2 (ai t2 (ai t2 (ai (ai h.1 tr) (ai t2 (ai t2 (ai t2 (ai t2 (ai t2 tr))))))))) (ai (ai t2 (ai t2 tr)) h.2))))


theorem timesb_p (a b m : Nat) (R : AV → Prop) (h : ((((decide ((((bitLen m) : Nat) : Int) ≤ (64 : Int))) = Bool.true) → (((((a / (1 : Nat)) % (18446744073709551616 : Nat)) ≤ ((m / (1 : Nat)) % (18446744073709551616 : Nat))) ∧ ((((b / (1 : Nat)) % (18446744073709551616 : Nat)) + (1 : Nat)) ≤ ((m / (1 : Nat)) % (18446744073709551616 : Nat)))) ∧ (R (AV.pv (PV.words IntKind.u64 (4 : Nat) ((((a / (1 : Nat)) % (18446744073709551616 : Nat)) * ((b / (1 : Nat)) % (18446744073709551616 : Nat))) % ((m / (1 : Nat)) % (18446744073709551616 : Nat)))))))) ∧ (((decide ((((bitLen m) : Nat) : Int) ≤ (64 : Int))) = Bool.false) → (R (AV.pv (PV.words IntKind.u64 (4 : Nat) (if (m = (0 : Nat)) then (0 : Nat) else (((((a * b) / (115792089237316195423570985008687907853269984665640564039457584007913129639936 : Nat)) * (115792089237316195423570985008687907853269984665640564039457584007913129639936 : Nat)) + ((a * b) % (115792089237316195423570985008687907853269984665640564039457584007913129639936 : Nat))) % m)))))))) :
    awp [eBits, eWordB, eOf, eMul, eWide] [] [] [] 200 (Try.f98.body.getD .skip) (fnPost Try.f98.results.toList R) (begins [.pv (.words .u64 4 a), .pv (.words .u64 4 b), .pv (.words .u64 4 m)] Try.f98.ntmps) :=
  Eq.mp (by kernel_rfl) (ai (ai tr (ai tr (ai tr t2))) (ai (ai t2 (ai t2 (ai t2 tr))) (ai (fun (hk7 : ((decide ((((bitLen m) : Nat) : Int) ≤ (64 : Int))) = Bool.true)) => (ai (ai (ai (ai (show ((0 : Int) ≤ (0 : Int)) from by decide) (show ((1 : Int) ≤ (4 : Int)) from by decide)) tr) (ai (ai (show ((1 : Nat) ≤ (4 : Nat)) from by decide) tr) (ai (ai (ai (show ((0 : Int) ≤ (0 : Int)) from by decide) (show ((1 : Int) ≤ (4 : Int)) from by decide)) tr) (ai (ai (show ((1 : Nat) ≤ (4 : Nat)) from by decide) tr) (ai (ai (ai (show ((0 : Int) ≤ (0 : Int)) from by decide) (show ((1 : Int) ≤ (4 : Int)) from by decide)) tr) (ai (ai (show ((1 : Nat) ≤ (4 : Nat)) from by decide) tr) (ai (ai (ai (h.1 hk7).1.1 (h.1 hk7).1.2) tr) (ai t2 t2)))))))) (h.1 hk7).2)) (fun (hk8 : ((decide ((((bitLen m) : Nat) : Int) ≤ (64 : Int))) = Bool.false)) => (ai (ai t2 (ai t2 (ai t2 (ai t2 (ai t2 (ai t2 (ai tr (ai tr (ai tr t2))))))))) (ai (ai t2 (ai t2 (ai t2 (ai t2 (ai t2 (ai t2 (ai t2 (ai tr (ai tr (ai t2 tr)))))))))) (ai (ai t2 t2) (h.2 hk8))))))))


theorem once_over {x m : Nat} (h : m ≤ x) (h2 : x < m + m) : x % m = x - m := by
  rw [Nat.mod_eq_sub_mod h, Nat.mod_eq_of_lt (by omega)]
theorem eAddB_ok : eAddB.OK := mk_ok Try.func95 (by kernel_rfl) (by kernel_rfl) (TOK.cons eAdd_ok (.cons eSub_ok .nil)) (by rw [Try.ntmps95]; decide) (by
  intro a _ b _ m hm hp
  obtain ⟨ha, hb⟩ : a < m ∧ b < m := hp
  have hm := ltW hm
  refine ⟨[], [25], [], 200, addb_p a b m _ ⟨fun h1 => rw_words ?_, fun h1 => ⟨fun h2 => rw_words ?_, fun h2 => rw_words ?_⟩⟩⟩
  · have h1 := of_decide_eq_true h1
    rw [once_over (x := a + b) (m := m) (by simp only [W] at *; omega) (by omega)]
    simp only [W] at *; omega
  · have h1 := of_decide_eq_false h1
    have h2 := lt_bit h2
    rw [once_over (x := a + b) (m := m) (by simp only [W] at *; omega) (by omega)]
    simp only [W] at *; omega
  · have h1 := of_decide_eq_false h1
    have h2 := lt_bit' h2
    rw [Nat.mod_eq_of_lt (a := a + b) (b := m) (by simp only [W] at *; omega)]
    simp only [W] at *; omega)
theorem eSubB_ok : eSubB.OK := mk_ok Try.func97 (by kernel_rfl) (by kernel_rfl) (TOK.cons eAdd_ok (.cons eSub_ok .nil)) (by rw [Try.ntmps97]; decide) (by
  intro a _ b _ m hm hp
  obtain ⟨ha, hb⟩ : a < m ∧ b < m := hp
  have hm := ltW hm
  refine ⟨[], [], [], 200, subb_p a b m _ ⟨fun h1 => rw_words ?_, fun h1 => rw_words ?_⟩⟩
  · have h1 : a < b := by
      refine Decidable.byContradiction fun h => ?_
      rw [if_neg h] at h1
      simp at h1
    rw [Nat.mod_eq_of_lt (a := a + (m - b)) (b := m) (by omega)]
    simp only [W] at *; omega
  · have h1 : ¬ a < b := by
      intro h
      rw [if_pos h] at h1
      simp at h1
    rw [once_over (x := a + (m - b)) (m := m) (by omega) (by omega)]
    simp only [W] at *; omega)
theorem high_lt {a b m : Nat} (ha : a ≤ m) (hb : b < m) (hm : m < B) : a * b / B < m := by
  rw [Nat.div_lt_iff_lt_mul B_pos]
  have h1 := Nat.mul_le_mul ha (show b ≤ m from Nat.le_of_lt hb)
  have h2 := Nat.mul_lt_mul_of_pos_left (k := m) hm (by omega)
  omega
theorem eWordB_ok : eWordB.OK := mk_ok Try.func102 (by kernel_rfl) (by kernel_rfl) (TOK.cons eMul64_ok (.cons eDiv64_ok .nil)) (by rw [Try.ntmps102]; decide) (by
  intro a _ b _ m hm hp
  obtain ⟨ha, hb⟩ : a ≤ m ∧ b < m := hp
  refine ⟨[], [], [], 200, wordb_p a b m _ ⟨high_lt ha hb hm, rw_nat ?_⟩⟩
  rw [Nat.mul_comm (a * b / 18446744073709551616), Nat.div_add_mod])
theorem eTimesB_ok : eTimesB.OK := mk_ok Try.func98 (by kernel_rfl) (by kernel_rfl) (TOK.cons eBits_ok (.cons eWordB_ok (.cons eOf_ok (.cons eMul_ok (.cons eWide_ok .nil))))) (by rw [Try.ntmps98]; decide) (by
  intro a _ b _ m hm hp
  obtain ⟨ha, hb⟩ : a ≤ m ∧ b < m := hp
  have hm := ltW hm
  refine ⟨[], [], [], 200, timesb_p a b m _ ⟨fun h => ?_, fun h => rw_words ?_⟩⟩
  · rw [short_math] at h
    have h : m < 18446744073709551616 := of_decide_eq_true h
    rw [Nat.div_one, Nat.div_one, Nat.div_one, Nat.mod_eq_of_lt h, Nat.mod_eq_of_lt (a := a) (by omega), Nat.mod_eq_of_lt (a := b) (by omega)]
    exact ⟨⟨ha, hb⟩, rw_words rfl⟩
  · rw [if_neg (by omega), Nat.mul_comm (a * b / 115792089237316195423570985008687907853269984665640564039457584007913129639936), Nat.div_add_mod])
end Go.Proofs.Ytdjnhnfofajpcaa
