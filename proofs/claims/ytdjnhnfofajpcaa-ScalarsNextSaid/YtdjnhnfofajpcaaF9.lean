/- Contracts of the bits of division: short, Word, next, twice. -/
import Derived.Test.YtdjnhnfofajpcaaF8
import Derived.Test.YtdjnhnfofajpcaaF7
import Derived.Test.YtdjnhnfofajpcaaN8
namespace Go.Proofs.Ytdjnhnfofajpcaa
open Go Go.Proofs Av

def eShort : Entry := mk 88 [.n 4] fun (a : Nat) => (.pv (.bool (decide (a < B))), True)
def eWord : Entry := mk 91 [.n 4] fun (a : Nat) => (.pv (.bool (decide (a < B))), True)
def eNext : Entry := mk 90 [.n 4, .u .u64, .n 4] fun (r bit m : Nat) => (.tup2 (.words .u64 4 ((r * 2 + bit) % m)) (.nat .u64 ((r * 2 + bit) / m)), r < m ∧ bit ≤ 1)
def eTwice : Entry := mk 94 [.n 4, .u .u64, .n 4] fun (r bit m : Nat) => (.pv (.words .u64 4 ((r * 2 + bit) % m)), r < m ∧ bit ≤ 1)

theorem short_p (a : Nat) (R : AV → Prop) (h : (R (AV.pv (PV.bool (decide ((((bitLen a) : Nat) : Int) ≤ (64 : Int))))))) :
    awp [eBits] [] [] [] 200 (Try.f88.body.getD .skip) (fnPost Try.f88.results.toList R) (begins [.pv (.words .u64 4 a)] Try.f88.ntmps) :=
  Eq.mp (by kernel_rfl) (ai (ai tr (ai t2 tr)) (ai (ai t2 (ai t2 (ai t2 (ai t2 tr)))) h))


theorem word_p (a : Nat) (R : AV → Prop) (h : ((((decide (((a / (18446744073709551616 : Nat)) % (18446744073709551616 : Nat)) = (0 : Nat))) = Bool.true) → ((((decide (((a / (340282366920938463463374607431768211456 : Nat)) % (18446744073709551616 : Nat)) = (0 : Nat))) = Bool.true) → (R (AV.pv (PV.bool (decide (((a / (6277101735386680763835789423207666416102355444464034512896 : Nat)) % (18446744073709551616 : Nat)) = (0 : Nat))))))) ∧ (((decide (((a / (340282366920938463463374607431768211456 : Nat)) % (18446744073709551616 : Nat)) = (0 : Nat))) = Bool.false) → (R (AV.pv (PV.blit Bool.false)))))) ∧ (((decide (((a / (18446744073709551616 : Nat)) % (18446744073709551616 : Nat)) = (0 : Nat))) = Bool.false) → (R (AV.pv (PV.blit Bool.false)))))) :
    awp [] [] [6, 11] [] 200 (Try.f91.body.getD .skip) (fnPost Try.f91.results.toList R) (begins [.pv (.words .u64 4 a)] Try.f91.ntmps) :=
  Eq.mp (by kernel_rfl) (ai (ai tr (ai t2 tr)) (ai (fun (hk1 : ((decide (((a / (18446744073709551616 : Nat)) % (18446744073709551616 : Nat)) = (0 : Nat))) = Bool.true)) => (ai (fun (hk2 : ((decide (((a / (340282366920938463463374607431768211456 : Nat)) % (18446744073709551616 : Nat)) = (0 : Nat))) = Bool.true)) => (ai (ai (ai (ai (show ((0 : Int) ≤ (1 : Int)) from by decide) (show ((2 : Int) ≤ (4 : Int)) from by decide)) tr) (ai (ai (show ((2 : Nat) ≤ (4 : Nat)) from by decide) tr) (ai t2 (ai (ai tr hk1) (ai (ai (ai (show ((0 : Int) ≤ (2 : Int)) from by decide) (show ((3 : Int) ≤ (4 : Int)) from by decide)) tr) (ai (ai (show ((3 : Nat) ≤ (4 : Nat)) from by decide) tr) (ai t2 (ai t2 (ai (ai tr hk2) (ai (ai (ai (show ((0 : Int) ≤ (3 : Int)) from by decide) (show ((4 : Int) ≤ (4 : Int)) from by decide)) tr) (ai (ai (show ((4 : Nat) ≤ (4 : Nat)) from by decide) tr) (ai t2 (ai t2 (ai t2 tr)))))))))))))) ((h.1 hk1).1 hk2))) (fun (hk3 : ((decide (((a / (340282366920938463463374607431768211456 : Nat)) % (18446744073709551616 : Nat)) = (0 : Nat))) = Bool.false)) => (ai (ai (ai (ai (show ((0 : Int) ≤ (1 : Int)) from by decide) (show ((2 : Int) ≤ (4 : Int)) from by decide)) tr) (ai (ai (show ((2 : Nat) ≤ (4 : Nat)) from by decide) tr) (ai t2 (ai (ai tr hk1) (ai (ai (ai (show ((0 : Int) ≤ (2 : Int)) from by decide) (show ((3 : Int) ≤ (4 : Int)) from by decide)) tr) (ai (ai (show ((3 : Nat) ≤ (4 : Nat)) from by decide) tr) (ai t2 (ai t2 (ai (ai tr hk3) (ai tr (ai tr (ai tr (ai t2 (ai t2 tr)))))))))))))) ((h.1 hk1).2 hk3))))) (fun (hk4 : ((decide (((a / (18446744073709551616 : Nat)) % (18446744073709551616 : Nat)) = (0 : Nat))) = Bool.false)) => (ai (ai (ai (ai (show ((0 : Int) ≤ (1 : Int)) from by decide) (show ((2 : Int) ≤ (4 : Int)) from by decide)) tr) (ai (ai (show ((2 : Nat) ≤ (4 : Nat)) from by decide) tr) (ai t2 (ai (ai tr hk4) (ai tr (ai tr (ai tr (ai t2 (ai t2 (ai tr (ai tr (ai tr (ai t2 (ai t2 tr)))))))))))))) (h.2 hk4)))))


theorem next_p (r bit m : Nat) (R : AV → Prop) (h : ((((decide (((r + r) / (115792089237316195423570985008687907853269984665640564039457584007913129639936 : Nat)) = (1 : Nat))) = Bool.true) → (R (AV.tup2 (PV.words IntKind.u64 (4 : Nat) (((setw ((r + r) % (115792089237316195423570985008687907853269984665640564039457584007913129639936 : Nat)) (0 : Nat) (1 : Nat) (((((r + r) % (115792089237316195423570985008687907853269984665640564039457584007913129639936 : Nat)) / (1 : Nat)) % (18446744073709551616 : Nat)) ||| bit)) + ((115792089237316195423570985008687907853269984665640564039457584007913129639936 : Nat) - m)) % (115792089237316195423570985008687907853269984665640564039457584007913129639936 : Nat))) (PV.lit IntKind.u64 (1 : Int))))) ∧ (((decide (((r + r) / (115792089237316195423570985008687907853269984665640564039457584007913129639936 : Nat)) = (1 : Nat))) = Bool.false) → ((((decide ((if ((setw ((r + r) % (115792089237316195423570985008687907853269984665640564039457584007913129639936 : Nat)) (0 : Nat) (1 : Nat) (((((r + r) % (115792089237316195423570985008687907853269984665640564039457584007913129639936 : Nat)) / (1 : Nat)) % (18446744073709551616 : Nat)) ||| bit)) < m) then (1 : Nat) else (0 : Nat)) = (0 : Nat))) = Bool.true) → (R (AV.tup2 (PV.words IntKind.u64 (4 : Nat) (((setw ((r + r) % (115792089237316195423570985008687907853269984665640564039457584007913129639936 : Nat)) (0 : Nat) (1 : Nat) (((((r + r) % (115792089237316195423570985008687907853269984665640564039457584007913129639936 : Nat)) / (1 : Nat)) % (18446744073709551616 : Nat)) ||| bit)) + ((115792089237316195423570985008687907853269984665640564039457584007913129639936 : Nat) - m)) % (115792089237316195423570985008687907853269984665640564039457584007913129639936 : Nat))) (PV.lit IntKind.u64 (1 : Int))))) ∧ (((decide ((if ((setw ((r + r) % (115792089237316195423570985008687907853269984665640564039457584007913129639936 : Nat)) (0 : Nat) (1 : Nat) (((((r + r) % (115792089237316195423570985008687907853269984665640564039457584007913129639936 : Nat)) / (1 : Nat)) % (18446744073709551616 : Nat)) ||| bit)) < m) then (1 : Nat) else (0 : Nat)) = (0 : Nat))) = Bool.false) → (R (AV.tup2 (PV.words IntKind.u64 (4 : Nat) (setw ((r + r) % (115792089237316195423570985008687907853269984665640564039457584007913129639936 : Nat)) (0 : Nat) (1 : Nat) (((((r + r) % (115792089237316195423570985008687907853269984665640564039457584007913129639936 : Nat)) / (1 : Nat)) % (18446744073709551616 : Nat)) ||| bit))) (PV.lit IntKind.u64 (0 : Int))))))))) :
    awp [eAdd, eSub] [] [31] [] 200 (Try.f90.body.getD .skip) (fnPost Try.f90.results.toList R) (begins [.pv (.words .u64 4 r), .pv (.nat .u64 bit), .pv (.words .u64 4 m)] Try.f90.ntmps) :=
  Eq.mp (by kernel_rfl) (ai (ai tr (ai tr (ai tr (ai t2 tr)))) (ai (ai t2 (ai t2 (ai t2 (ai t2 (ai t2 (ai t2 (ai tr (ai tr (ai t2 tr))))))))) (ai (ai (ai (ai (show ((0 : Int) ≤ (0 : Int)) from by decide) (show ((1 : Int) ≤ (4 : Int)) from by decide)) tr) (ai (ai (show ((1 : Nat) ≤ (4 : Nat)) from by decide) tr) (ai t2 (ai t2 (ai (ai (ai (show ((0 : Int) ≤ (0 : Int)) from by decide) (show ((1 : Int) ≤ (4 : Int)) from by decide)) tr) (ai (show ((1 : Nat) ≤ (4 : Nat)) from by decide) tr)))))) (ai (ai t2 (ai t2 (ai t2 (ai t2 (ai t2 (ai t2 (ai tr (ai tr (ai t2 tr))))))))) (ai (fun (hk5 : ((decide (((r + r) / (115792089237316195423570985008687907853269984665640564039457584007913129639936 : Nat)) = (1 : Nat))) = Bool.true)) => (ai (ai t2 (ai t2 (ai (ai tr hk5) (ai tr (ai tr (ai t2 tr)))))) (ai (ai t2 (ai tr (ai t2 tr))) (h.1 hk5)))) (fun (hk6 : ((decide (((r + r) / (115792089237316195423570985008687907853269984665640564039457584007913129639936 : Nat)) = (1 : Nat))) = Bool.false)) => (ai (ai t2 (ai t2 (ai (ai tr hk6) (ai t2 (ai t2 (ai t2 tr)))))) (ai (fun (hk7 : ((decide ((if ((setw ((r + r) % (115792089237316195423570985008687907853269984665640564039457584007913129639936 : Nat)) (0 : Nat) (1 : Nat) (((((r + r) % (115792089237316195423570985008687907853269984665640564039457584007913129639936 : Nat)) / (1 : Nat)) % (18446744073709551616 : Nat)) ||| bit)) < m) then (1 : Nat) else (0 : Nat)) = (0 : Nat))) = Bool.true)) => (ai (ai t2 (ai tr (ai t2 tr))) ((h.2 hk6).1 hk7))) (fun (hk8 : ((decide ((if ((setw ((r + r) % (115792089237316195423570985008687907853269984665640564039457584007913129639936 : Nat)) (0 : Nat) (1 : Nat) (((((r + r) % (115792089237316195423570985008687907853269984665640564039457584007913129639936 : Nat)) / (1 : Nat)) % (18446744073709551616 : Nat)) ||| bit)) < m) then (1 : Nat) else (0 : Nat)) = (0 : Nat))) = Bool.false)) => (ai (ai t2 (ai tr (ai t2 tr))) ((h.2 hk6).2 hk8)))))))))))


theorem twice_p (r bit m : Nat) (R : AV → Prop) (h : ((((decide (((r + r) / (115792089237316195423570985008687907853269984665640564039457584007913129639936 : Nat)) = (1 : Nat))) = Bool.true) → (R (AV.pv (PV.words IntKind.u64 (4 : Nat) (((setw ((r + r) % (115792089237316195423570985008687907853269984665640564039457584007913129639936 : Nat)) (0 : Nat) (1 : Nat) ((((((r + r) % (115792089237316195423570985008687907853269984665640564039457584007913129639936 : Nat)) / (1 : Nat)) % (18446744073709551616 : Nat)) + bit) % (18446744073709551616 : Nat))) + ((115792089237316195423570985008687907853269984665640564039457584007913129639936 : Nat) - m)) % (115792089237316195423570985008687907853269984665640564039457584007913129639936 : Nat)))))) ∧ (((decide (((r + r) / (115792089237316195423570985008687907853269984665640564039457584007913129639936 : Nat)) = (1 : Nat))) = Bool.false) → ((((decide ((0 : Int) ≤ (if ((setw ((r + r) % (115792089237316195423570985008687907853269984665640564039457584007913129639936 : Nat)) (0 : Nat) (1 : Nat) ((((((r + r) % (115792089237316195423570985008687907853269984665640564039457584007913129639936 : Nat)) / (1 : Nat)) % (18446744073709551616 : Nat)) + bit) % (18446744073709551616 : Nat))) < m) then (-1 : Int) else (if ((setw ((r + r) % (115792089237316195423570985008687907853269984665640564039457584007913129639936 : Nat)) (0 : Nat) (1 : Nat) ((((((r + r) % (115792089237316195423570985008687907853269984665640564039457584007913129639936 : Nat)) / (1 : Nat)) % (18446744073709551616 : Nat)) + bit) % (18446744073709551616 : Nat))) = m) then (0 : Int) else (1 : Int))))) = Bool.true) → (R (AV.pv (PV.words IntKind.u64 (4 : Nat) (((setw ((r + r) % (115792089237316195423570985008687907853269984665640564039457584007913129639936 : Nat)) (0 : Nat) (1 : Nat) ((((((r + r) % (115792089237316195423570985008687907853269984665640564039457584007913129639936 : Nat)) / (1 : Nat)) % (18446744073709551616 : Nat)) + bit) % (18446744073709551616 : Nat))) + ((115792089237316195423570985008687907853269984665640564039457584007913129639936 : Nat) - m)) % (115792089237316195423570985008687907853269984665640564039457584007913129639936 : Nat)))))) ∧ (((decide ((0 : Int) ≤ (if ((setw ((r + r) % (115792089237316195423570985008687907853269984665640564039457584007913129639936 : Nat)) (0 : Nat) (1 : Nat) ((((((r + r) % (115792089237316195423570985008687907853269984665640564039457584007913129639936 : Nat)) / (1 : Nat)) % (18446744073709551616 : Nat)) + bit) % (18446744073709551616 : Nat))) < m) then (-1 : Int) else (if ((setw ((r + r) % (115792089237316195423570985008687907853269984665640564039457584007913129639936 : Nat)) (0 : Nat) (1 : Nat) ((((((r + r) % (115792089237316195423570985008687907853269984665640564039457584007913129639936 : Nat)) / (1 : Nat)) % (18446744073709551616 : Nat)) + bit) % (18446744073709551616 : Nat))) = m) then (0 : Int) else (1 : Int))))) = Bool.false) → (R (AV.pv (PV.words IntKind.u64 (4 : Nat) (setw ((r + r) % (115792089237316195423570985008687907853269984665640564039457584007913129639936 : Nat)) (0 : Nat) (1 : Nat) ((((((r + r) % (115792089237316195423570985008687907853269984665640564039457584007913129639936 : Nat)) / (1 : Nat)) % (18446744073709551616 : Nat)) + bit) % (18446744073709551616 : Nat))))))))))) :
    awp [eRAdd, eRSub, eRCmp] [] [22] [] 200 (Try.f94.body.getD .skip) (fnPost Try.f94.results.toList R) (begins [.pv (.words .u64 4 r), .pv (.nat .u64 bit), .pv (.words .u64 4 m)] Try.f94.ntmps) :=
  Eq.mp (by kernel_rfl) (ai (ai tr (ai tr t2)) (ai (ai t2 (ai t2 (ai t2 (ai t2 (ai t2 (ai t2 (ai tr (ai tr (ai t2 tr))))))))) (ai (ai (ai (ai (show ((0 : Int) ≤ (0 : Int)) from by decide) (show ((1 : Int) ≤ (4 : Int)) from by decide)) tr) (ai (ai (show ((1 : Nat) ≤ (4 : Nat)) from by decide) tr) (ai t2 (ai t2 (ai (ai (ai (show ((0 : Int) ≤ (0 : Int)) from by decide) (show ((1 : Int) ≤ (4 : Int)) from by decide)) tr) (ai (show ((1 : Nat) ≤ (4 : Nat)) from by decide) tr)))))) (ai (fun (hk9 : ((decide (((r + r) / (115792089237316195423570985008687907853269984665640564039457584007913129639936 : Nat)) = (1 : Nat))) = Bool.true)) => (ai (ai t2 (ai t2 (ai (ai tr hk9) (ai tr (ai tr (ai tr (ai tr (ai t2 tr)))))))) (ai (ai t2 (ai t2 (ai t2 (ai t2 (ai t2 (ai t2 t2)))))) (ai (ai t2 t2) (h.1 hk9))))) (fun (hk10 : ((decide (((r + r) / (115792089237316195423570985008687907853269984665640564039457584007913129639936 : Nat)) = (1 : Nat))) = Bool.false)) => (ai (ai t2 (ai t2 (ai (ai tr hk10) (ai t2 (ai t2 (ai t2 (ai t2 (ai t2 tr)))))))) (ai (fun (hk11 : ((decide ((0 : Int) ≤ (if ((setw ((r + r) % (115792089237316195423570985008687907853269984665640564039457584007913129639936 : Nat)) (0 : Nat) (1 : Nat) ((((((r + r) % (115792089237316195423570985008687907853269984665640564039457584007913129639936 : Nat)) / (1 : Nat)) % (18446744073709551616 : Nat)) + bit) % (18446744073709551616 : Nat))) < m) then (-1 : Int) else (if ((setw ((r + r) % (115792089237316195423570985008687907853269984665640564039457584007913129639936 : Nat)) (0 : Nat) (1 : Nat) ((((((r + r) % (115792089237316195423570985008687907853269984665640564039457584007913129639936 : Nat)) / (1 : Nat)) % (18446744073709551616 : Nat)) + bit) % (18446744073709551616 : Nat))) = m) then (0 : Int) else (1 : Int))))) = Bool.true)) => (ai (ai t2 (ai t2 (ai t2 (ai t2 (ai t2 (ai t2 t2)))))) (ai (ai t2 t2) ((h.2 hk10).1 hk11)))) (fun (hk12 : ((decide ((0 : Int) ≤ (if ((setw ((r + r) % (115792089237316195423570985008687907853269984665640564039457584007913129639936 : Nat)) (0 : Nat) (1 : Nat) ((((((r + r) % (115792089237316195423570985008687907853269984665640564039457584007913129639936 : Nat)) / (1 : Nat)) % (18446744073709551616 : Nat)) + bit) % (18446744073709551616 : Nat))) < m) then (-1 : Int) else (if ((setw ((r + r) % (115792089237316195423570985008687907853269984665640564039457584007913129639936 : Nat)) (0 : Nat) (1 : Nat) ((((((r + r) % (115792089237316195423570985008687907853269984665640564039457584007913129639936 : Nat)) / (1 : Nat)) % (18446744073709551616 : Nat)) + bit) % (18446744073709551616 : Nat))) = m) then (0 : Int) else (1 : Int))))) = Bool.false)) => (ai (ai t2 t2) ((h.2 hk10).2 hk12))))))))))



theorem short_math (a : Nat) : decide ((bitLen a : Int) ≤ 64) = decide (a < B) := by
  have h1 := bitLen_le 64 a
  have h2 := (bitLen_spec a).1
  refine decide_eq_decide.2 ⟨fun h => ?_, fun h => ?_⟩
  · exact Nat.lt_of_lt_of_le h2 (Nat.pow_le_pow_right (by decide) (show bitLen a ≤ 64 by omega))
  · have := h1 h; omega
theorem eShort_ok : eShort.OK := mk_ok Try.func88 (by kernel_rfl) (by kernel_rfl) (TOK.cons eBits_ok .nil) (by rw [Try.ntmps88]; decide) (by
  intro a ha _
  exact ⟨[], [], [], 200, short_p a _ (rw_bool (short_math a))⟩)

theorem eWord_ok : eWord.OK := mk_ok Try.func91 (by kernel_rfl) (by kernel_rfl) .nil (by rw [Try.ntmps91]; decide) (by
  intro a ha _
  have ha := ltW ha
  refine ⟨[], [6, 11], [], 200, word_p a _ ⟨fun h1 => ⟨fun h2 => rw_bool ?_, fun h2 => rw_blit ?_⟩, fun h1 => rw_blit ?_⟩⟩
  · have h1 := of_decide_eq_true h1
    have h2 := of_decide_eq_true h2
    refine decide_eq_decide.2 ?_
    simp only [W, B] at *
    omega
  · have h1 := of_decide_eq_true h1
    have h2 := of_decide_eq_false h2
    refine (decide_eq_false ?_).symm
    simp only [W, B] at *
    omega
  · have h1 := of_decide_eq_false h1
    refine (decide_eq_false ?_).symm
    simp only [W, B] at *
    omega)

theorem lt_bit {x m : Nat} (h : decide ((if x < m then 1 else 0) = 0) = true) : ¬ x < m := by
  intro h1
  rw [if_pos h1] at h
  simp at h
theorem lt_bit' {x m : Nat} (h : decide ((if x < m then 1 else 0) = 0) = false) : x < m := by
  refine Decidable.byContradiction fun h1 => ?_
  rw [if_neg h1] at h
  simp at h
theorem lt_cmp {x m : Nat} (h : decide ((0 : Int) ≤ (if x < m then -1 else if x = m then 0 else 1)) = true) : ¬ x < m := by
  intro h1
  rw [if_pos h1] at h
  simp at h
theorem lt_cmp' {x m : Nat} (h : decide ((0 : Int) ≤ (if x < m then -1 else if x = m then 0 else 1)) = false) : x < m := by
  refine Decidable.byContradiction fun h1 => ?_
  rw [if_neg h1] at h
  split at h <;> simp at h

theorem eNext_ok : eNext.OK := mk_ok Try.func90 (by kernel_rfl) (by kernel_rfl) (TOK.cons eAdd_ok (.cons eSub_ok .nil)) (by rw [Try.ntmps90]; decide) (by
  intro r _ bit _ m hm hp
  obtain ⟨hr, hb⟩ : r < m ∧ bit ≤ 1 := hp
  have hm := ltW hm
  refine ⟨[], [31], [], 200, next_p r bit m _ ?_⟩
  rw [low_or r bit hb]
  refine ⟨fun h1 => ?_, fun h1 => ⟨fun h2 => ?_, fun h2 => ?_⟩⟩
  · obtain ⟨e1, e2⟩ := twice_yes hm hr hb (.inl (of_decide_eq_true h1))
    exact rw_2 (rw_words e1) (rw_litn e2.symm)
  · obtain ⟨e1, e2⟩ := twice_yes hm hr hb (.inr (lt_bit h2))
    exact rw_2 (rw_words e1) (rw_litn e2.symm)
  · obtain ⟨e1, e2⟩ := twice_no hm hr hb (of_decide_eq_false h1) (lt_bit' h2)
    exact rw_2 (rw_words e1) (rw_litn e2.symm))

theorem eTwice_ok : eTwice.OK := mk_ok Try.func94 (by kernel_rfl) (by kernel_rfl) (TOK.cons eRAdd_ok (.cons eRSub_ok (.cons eRCmp_ok .nil))) (by rw [Try.ntmps94]; decide) (by
  intro r _ bit _ m hm hp
  obtain ⟨hr, hb⟩ : r < m ∧ bit ≤ 1 := hp
  have hm := ltW hm
  refine ⟨[], [22], [], 200, twice_p r bit m _ ?_⟩
  rw [low_add r bit hb]
  refine ⟨fun h1 => ?_, fun h1 => ⟨fun h2 => ?_, fun h2 => ?_⟩⟩
  · exact rw_words (twice_yes hm hr hb (.inl (of_decide_eq_true h1))).1
  · exact rw_words (twice_yes hm hr hb (.inr (lt_cmp h2))).1
  · exact rw_words (twice_no hm hr hb (of_decide_eq_false h1) (lt_cmp' h2)).1)
end Go.Proofs.Ytdjnhnfofajpcaa
