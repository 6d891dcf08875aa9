/- Plain facts: a number of four words moved by some places, word by word. No program in sight. -/
import Derived.Test.YtdjnhnfofajpcaaN3
namespace Go.Proofs.Ytdjnhnfofajpcaa
open Go Av

/-- A number of four words, moved by n places. -/
def shiftN (a : Nat) (n : Int) : Nat := if 0 ≤ n then a * 2 ^ n.toNat % W else a / 2 ^ (-n).toNat

theorem Bpow (k : Nat) : B ^ k = 2 ^ (64 * k) := by rw [Nat.pow_mul]
theorem W_pow : W = 2 ^ 256 := by decide

theorem digit_bit (a k t : Nat) : (a / B ^ k % B).testBit t = (decide (t < 64) && a.testBit (64 * k + t)) := by
  rw [Bpow, show B = 2 ^ 64 from rfl, Nat.testBit_mod_two_pow, Nat.testBit_div_two_pow, Nat.add_comm]

theorem shift_bit (a : Nat) (n : Int) (j : Nat) (hj : j < 256) : (shiftN a n).testBit j = (decide (0 ≤ (j : Int) - n) && a.testBit ((j : Int) - n).toNat) := by
  unfold shiftN
  split
  · rename_i h
    rw [W_pow, Nat.testBit_mod_two_pow, Nat.testBit_mul_two_pow]
    simp only [hj, decide_true, Bool.true_and]
    congr 1
    · exact decide_eq_decide.2 (by omega)
    · congr 1; omega
  · rw [Nat.testBit_div_two_pow]
    rw [decide_eq_true (by omega), Bool.true_and]
    congr 1; omega

theorem shift_high {a : Nat} {n : Int} (h : 256 ≤ n) : shiftN a n = 0 := by
  unfold shiftN
  rw [if_pos (by omega)]
  obtain ⟨m, hm⟩ : ∃ m, n.toNat = 256 + m := ⟨n.toNat - 256, by omega⟩
  rw [hm, Nat.pow_add, ← W_pow, show a * (W * 2 ^ m) = a * 2 ^ m * W by rw [Nat.mul_comm W, Nat.mul_assoc], Nat.mul_mod_left]
theorem shift_low {a : Nat} {n : Int} (ha : a < W) (h : n ≤ -256) : shiftN a n = 0 := by
  unfold shiftN
  rw [if_neg (by omega)]
  apply Nat.div_eq_of_lt
  rw [W_pow] at ha
  exact Nat.lt_of_lt_of_le ha (Nat.pow_le_pow_right (by decide) (by omega))
theorem shift_lt {a : Nat} {n : Int} (ha : a < W) : shiftN a n < W := by
  unfold shiftN
  split
  · exact Nat.mod_lt _ (by decide)
  · exact Nat.lt_of_le_of_lt (Nat.div_le_self _ _) ha

/-- What two words of a give to a word. -/
def partA (a : Nat) (n k : Int) : Nat := if 0 ≤ k ∧ k < 4 then a / B ^ k.toNat % B * 2 ^ (n % 64).toNat % B else 0
def partB (a : Nat) (n k : Int) : Nat := if 0 ≤ k ∧ k < 4 then a / B ^ k.toNat % B / 2 ^ ((64 : Int) - n % 64).toNat else 0

theorem partA_lt (a : Nat) (n k : Int) : partA a n k < B := by
  unfold partA; split
  · exact Nat.mod_lt _ B_pos
  · exact B_pos
theorem partB_lt (a : Nat) (n k : Int) : partB a n k < B := by
  unfold partB; split
  · exact Nat.lt_of_le_of_lt (Nat.div_le_self _ _) (Nat.mod_lt _ B_pos)
  · exact B_pos

theorem high_bit {a t : Nat} (ha : a < W) (h : 256 ≤ t) : a.testBit t = false := by
  rw [W_pow] at ha
  exact Nat.testBit_lt_two_pow (Nat.lt_of_lt_of_le ha (Nat.pow_le_pow_right (by decide) h))

theorem shift_digit (a : Nat) (n : Int) (ha : a < W) (i : Nat) (hi : i < 4) :
    shiftN a n / B ^ i % B = (partA a n (i - n / 64) ||| partB a n (i - n / 64 - 1)) := by
  apply Nat.eq_of_testBit_eq
  intro t
  rw [digit_bit, Nat.testBit_or]
  by_cases ht : t < 64
  · rw [shift_bit _ _ _ (by omega), decide_eq_true ht, Bool.true_and]
    unfold partA partB
    generalize hk : (i : Int) - n / 64 = k
    have hr : 0 ≤ n % 64 ∧ n % 64 < 64 := ⟨by omega, by omega⟩
    have e : ((64 * i + t : Nat) : Int) - n = 64 * k + (t - n % 64) := by omega
    rw [e]
    generalize hrr : (n % 64).toNat = r at *
    have e2 : n % 64 = r := by omega
    rw [e2] at hr ⊢
    by_cases hb : r ≤ t
    · have z : (if 0 ≤ k - 1 ∧ k - 1 < 4 then a / B ^ (k - 1).toNat % B / 2 ^ ((64 : Int) - (r : Int)).toNat else 0).testBit t = false := by
        split
        · rw [Nat.testBit_div_two_pow, digit_bit, decide_eq_false (by omega), Bool.false_and]
        · exact Nat.zero_testBit t
      rw [z, Bool.or_false]
      by_cases h1 : 0 ≤ k
      · rw [decide_eq_true (by omega), Bool.true_and]
        by_cases h2 : k < 4
        · rw [if_pos ⟨h1, h2⟩, show B = 2 ^ 64 from rfl, Nat.testBit_mod_two_pow, decide_eq_true ht, Bool.true_and, Nat.testBit_mul_two_pow, decide_eq_true hb, Bool.true_and]
          have := digit_bit a k.toNat (t - r)
          rw [show B = 2 ^ 64 from rfl] at this
          rw [this, decide_eq_true (by omega), Bool.true_and]
          congr 1; omega
        · rw [if_neg (by omega), Nat.zero_testBit]
          exact high_bit ha (by omega)
      · rw [decide_eq_false (by omega), Bool.false_and, if_neg (by omega), Nat.zero_testBit]
    · have z : (if 0 ≤ k ∧ k < 4 then a / B ^ k.toNat % B * 2 ^ r % B else 0).testBit t = false := by
        split
        · rw [show B = 2 ^ 64 from rfl, Nat.testBit_mod_two_pow, Nat.testBit_mul_two_pow, decide_eq_false hb, Bool.false_and, Bool.and_false]
        · exact Nat.zero_testBit t
      rw [z, Bool.false_or]
      by_cases h1 : 0 ≤ k - 1
      · rw [decide_eq_true (by omega), Bool.true_and]
        by_cases h2 : k - 1 < 4
        · rw [if_pos ⟨h1, h2⟩, Nat.testBit_div_two_pow, digit_bit, decide_eq_true (by omega), Bool.true_and]
          congr 1; omega
        · rw [if_neg (by omega), Nat.zero_testBit]
          exact high_bit ha (by omega)
      · rw [decide_eq_false (by omega), Bool.false_and, if_neg (by omega), Nat.zero_testBit]
  · have l : ∀ x, x < B → x.testBit t = false := fun x hx => Nat.testBit_lt_two_pow (Nat.lt_of_lt_of_le hx (by rw [show B = 2 ^ 64 from rfl]; exact Nat.pow_le_pow_right (by decide) (by omega)))
    rw [decide_eq_false ht, Bool.false_and, l _ (partA_lt _ _ _), l _ (partB_lt _ _ _)]; rfl

/-- One word more. -/
theorem word_zero (S i : Nat) : S % B ^ i / B ^ i % B = 0 := by
  rw [Nat.div_eq_of_lt (Nat.mod_lt _ (Bp i))]; rfl
theorem word_set (S i v : Nat) (h : S / B ^ i % B = v) : setw (S % B ^ i) i 1 v = S % B ^ (i + 1) := by
  rw [setw_snoc _ _ _ _ (Nat.mod_lt _ (Bp i)), Nat.mod_pow_succ, h, Nat.mul_comm]
theorem word_back (S i v : Nat) (h : v < B) : setw (S % B ^ i) i 1 v / B ^ i % B = v := by
  rw [setw_digit _ _ _ _ _ (by rw [Nat.pow_one]; exact h), if_pos ⟨Nat.le_refl _, by omega⟩, Nat.sub_self]
  simp [Nat.mod_eq_of_lt h]
theorem word_over (S i v u : Nat) (hv : v < B) : setw (setw (S % B ^ i) i 1 v) i 1 u = setw (S % B ^ i) i 1 u := by
  have h1 := Nat.mod_lt S (Bp i)
  rw [setw_snoc _ _ _ v h1, setw_snoc _ _ _ u h1]
  generalize S % B ^ i = N at *
  unfold setw
  rw [Nat.add_mul_mod_self_right, Nat.mod_eq_of_lt h1, Nat.div_eq_of_lt]
  · simp
  · rw [Nat.pow_succ]
    have := Nat.mul_le_mul_right (B ^ i) (show v + 1 ≤ B from hv)
    rw [Nat.mul_comm (B ^ i) B]
    rw [Nat.add_mul] at this
    omega
theorem word_same (S i : Nat) (h : S / B ^ i % B = 0) : S % B ^ i = S % B ^ (i + 1) := by
  rw [Nat.mod_pow_succ, h]; simp
theorem word_both {S i u v : Nat} (hu : u < B) (h : S / B ^ i % B = (u ||| v)) :
    setw (setw (S % B ^ i) i 1 (S % B ^ i / B ^ i % B ||| u)) i 1 (setw (S % B ^ i) i 1 (S % B ^ i / B ^ i % B ||| u) / B ^ i % B ||| v) = S % B ^ (i + 1) := by
  rw [word_zero, Nat.zero_or, word_back _ _ _ hu, word_over _ _ _ _ hu, word_set _ _ _ h]
theorem word_one {S i u : Nat} (h : S / B ^ i % B = u) : setw (S % B ^ i) i 1 (S % B ^ i / B ^ i % B ||| u) = S % B ^ (i + 1) := by
  rw [word_zero, Nat.zero_or, word_set _ _ _ h]

theorem tdiv_pos {n : Int} (h : 0 ≤ n) : Int.tdiv n 64 = n / 64 ∧ Int.tmod n 64 = n % 64 := ⟨Int.tdiv_eq_ediv_of_nonneg h, Int.tmod_eq_emod_of_nonneg h⟩
theorem tdiv_neg {n : Int} (h : n < 0) : Int.tdiv n 64 = -((-n) / 64) ∧ Int.tmod n 64 = -((-n) % 64) := by
  obtain ⟨h1, h2⟩ := tdiv_pos (n := -n) (by omega)
  rw [Int.neg_tdiv] at h1
  rw [Int.neg_tmod] at h2
  omega
end Go.Proofs.Ytdjnhnfofajpcaa
