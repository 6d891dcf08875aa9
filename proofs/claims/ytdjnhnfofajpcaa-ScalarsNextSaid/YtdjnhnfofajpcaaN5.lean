/- Plain facts: numbers in digits of 16 bits, one digit a word; sums, differences and products digit by digit. No program in sight. -/
import Derived.Test.YtdjnhnfofajpcaaN4
namespace Go.Proofs.Ytdjnhnfofajpcaa
open Go Av

/-- Digit o of N becomes d. -/
def gset (β N o d : Nat) : Nat := N % β ^ o + (d + N / β ^ (o + 1) * β) * β ^ o

theorem gset_add (β N o d : Nat) : gset β N o d + N / β ^ o % β * β ^ o = N + d * β ^ o := by
  have h1 : N / β ^ (o + 1) = N / β ^ o / β := by rw [Nat.pow_succ, Nat.div_div_eq_div_mul]
  have h2 := Nat.div_add_mod N (β ^ o)
  have h3 := Nat.div_add_mod (N / β ^ o) β
  unfold gset
  rw [h1]
  generalize N / β ^ o = q at *
  generalize N % β ^ o = r at *
  generalize q / β = q' at *
  generalize q % β = r' at *
  generalize β ^ o = P at *
  rw [← h2, ← h3]
  grind

theorem gset_lt {β N o d K : Nat} (hβ : 0 < β) (hN : N < β ^ K) (hd : d < β) (ho : o < K) : gset β N o d < β ^ K := by
  have e : β ^ K = β ^ (K - (o + 1)) * β * β ^ o := by rw [← Nat.pow_succ, ← Nat.pow_add]; congr 1; omega
  have h1 : N / β ^ (o + 1) < β ^ (K - (o + 1)) := by
    rw [Nat.div_lt_iff_lt_mul (Nat.pow_pos hβ), ← Nat.pow_add, show K - (o + 1) + (o + 1) = K by omega]; exact hN
  have h2 : N % β ^ o < β ^ o := Nat.mod_lt _ (Nat.pow_pos hβ)
  unfold gset
  rw [e]
  generalize N / β ^ (o + 1) = q at *
  generalize N % β ^ o = r at *
  generalize β ^ (K - (o + 1)) = Q at *
  generalize β ^ o = P at *
  have h3 : (q + 1) * β ≤ Q * β := Nat.mul_le_mul_right β h1
  have h4 : d + q * β + 1 ≤ Q * β := by rw [Nat.add_mul] at h3; omega
  have h5 : (d + q * β + 1) * P ≤ Q * β * P := Nat.mul_le_mul_right P h4
  rw [Nat.add_mul, Nat.one_mul] at h5
  omega

theorem gset_digit {β : Nat} (hβ : 0 < β) (N o d j : Nat) (hd : d < β) : gset β N o d / β ^ j % β = if j = o then d else N / β ^ j % β := by
  have pos := fun k => Nat.pow_pos (n := k) hβ
  unfold gset
  by_cases h1 : j < o
  · rw [if_neg (by omega)]
    obtain ⟨k, rfl⟩ : ∃ k, o = j + 1 + k := ⟨o - j - 1, by omega⟩
    have e : β ^ (j + 1 + k) = β ^ j * (β * β ^ k) := by rw [Nat.pow_add, Nat.pow_succ, Nat.mul_assoc]
    rw [e, Nat.mul_comm (d + _) _, Nat.mul_assoc (β ^ j), Nat.add_mul_div_left _ _ (pos j), Nat.mod_mul_right_div_self, Nat.mul_assoc β, Nat.add_mul_mod_self_left, Nat.mod_mul_right_mod]
  · have h0 : (N % β ^ o + (d + N / β ^ (o + 1) * β) * β ^ o) / β ^ o = d + N / β ^ (o + 1) * β := by
      rw [Nat.add_mul_div_right _ _ (pos o), Nat.div_eq_of_lt (Nat.mod_lt _ (pos o)), Nat.zero_add]
    by_cases h2 : j = o
    · subst h2
      rw [if_pos rfl, h0, Nat.add_mul_mod_self_right, Nat.mod_eq_of_lt hd]
    · rw [if_neg h2]
      obtain ⟨k, rfl⟩ : ∃ k, j = o + 1 + k := ⟨j - o - 1, by omega⟩
      have e : β ^ (o + 1 + k) = β ^ o * (β * β ^ k) := by rw [Nat.pow_add, Nat.pow_succ, Nat.mul_assoc]
      rw [e, ← Nat.div_div_eq_div_mul, h0, ← Nat.div_div_eq_div_mul, Nat.add_mul_div_right _ _ hβ, Nat.div_eq_of_lt hd, Nat.zero_add, Nat.div_div_eq_div_mul, ← Nat.pow_add, ← e]

/-- The row D of n words holds the digits of v. -/
structure Dig (D n v : Nat) : Prop where
  lt : D < B ^ n
  vlt : v < 65536 ^ n
  dig : ∀ j, j < n → D / B ^ j % B = v / 65536 ^ j % 65536

theorem Dig.set {D n v o d : Nat} (h : Dig D n v) (ho : o < n) (hd : d < 65536) : Dig (setw D o 1 d) n (gset 65536 v o d) := by
  have hB : d < B ^ 1 := by rw [Nat.pow_one]; simp only [B]; omega
  refine ⟨setw_lt h.lt hB (by omega), gset_lt (by decide) h.vlt hd ho, fun j hj => ?_⟩
  rw [setw_digit _ _ _ _ _ hB, gset_digit (by decide) _ _ _ _ hd]
  by_cases e : j = o
  · subst e
    rw [if_pos ⟨Nat.le_refl _, by omega⟩, if_pos rfl, Nat.sub_self, Nat.pow_zero, Nat.div_one, Nat.mod_eq_of_lt (by simp only [B]; omega)]
  · rw [if_neg (by omega), if_neg e, h.dig j hj]

/-- The row of the first n digits of v. -/
def spr (v : Nat) : Nat → Nat
  | 0 => 0
  | n + 1 => setw (spr v n) n 1 (v / 65536 ^ n % 65536)

theorem digit_lt (x : Nat) : x % 65536 < B ^ 1 := Nat.lt_of_lt_of_le (Nat.mod_lt x (by decide)) (by decide)

theorem spr_lt (v : Nat) : ∀ n, spr v n < B ^ n
  | 0 => by simp [spr]
  | n + 1 => by
    have h := spr_lt v n
    refine setw_lt (Nat.lt_of_lt_of_le h (Nat.pow_le_pow_right (by decide) (by omega))) (digit_lt _) (by omega)
theorem spr_dig (v : Nat) : ∀ n j, j < n → spr v n / B ^ j % B = v / 65536 ^ j % 65536
  | 0, _, h => absurd h (by omega)
  | n + 1, j, h => by
    simp only [spr]
    rw [setw_digit _ _ _ _ _ (digit_lt _)]
    by_cases e : j = n
    · subst e
      have := digit_lt (v / 65536 ^ j)
      rw [Nat.pow_one] at this
      rw [if_pos ⟨Nat.le_refl _, by omega⟩, Nat.sub_self, Nat.pow_zero, Nat.div_one, Nat.mod_eq_of_lt this]
    · rw [if_neg (by omega), spr_dig v n j (by omega)]
theorem spr_ok {v n : Nat} (h : v < 65536 ^ n) : Dig (spr v n) n v := ⟨spr_lt v n, h, spr_dig v n⟩

/-- What the digits from off on are worth. -/
def gat (N off : Nat) : Nat → Nat
  | 0 => 0
  | i + 1 => gat N off i + N / B ^ (off + i) % B * 65536 ^ i

theorem gat_eq {N off v : Nat} : ∀ i, (∀ j, j < i → N / B ^ (off + j) % B = v / 65536 ^ j % 65536) → gat N off i = v % 65536 ^ i
  | 0, _ => by simp [gat, Nat.mod_one]
  | i + 1, h => by
    rw [gat, gat_eq i fun j hj => h j (by omega), h i (by omega), Nat.mod_pow_succ, Nat.mul_comm]
theorem gat_lt {N off : Nat} : ∀ i, (∀ j, j < i → N / B ^ (off + j) % B < 65536) → gat N off i < 65536 ^ i
  | 0, _ => by simp [gat]
  | i + 1, h => by
    have h1 := gat_lt i fun j hj => h j (by omega)
    have h2 := Nat.mul_le_mul_right (65536 ^ i) (show N / B ^ (off + i) % B + 1 ≤ 65536 from h i (by omega))
    rw [gat, Nat.pow_succ, Nat.mul_comm (65536 ^ i)]
    rw [Nat.add_mul] at h2
    omega
theorem Dig.gat {D n v : Nat} (h : Dig D n v) (off : Nat) (k : Nat) (hk : off + k ≤ n) : gat D off k = v / 65536 ^ off % 65536 ^ k :=
  gat_eq k fun j hj => by rw [h.dig (off + j) (by omega), Nat.pow_add, Nat.div_div_eq_div_mul]
theorem Dig.small {D n v : Nat} (h : Dig D n v) (j : Nat) (hj : j < n) : D / B ^ j % B < 65536 := by
  rw [h.dig j hj]; exact Nat.mod_lt _ (by decide)

theorem bpow (k : Nat) : 65536 ^ k = 2 ^ (16 * k) := by rw [Nat.pow_mul]
theorem b16 : 65536 ^ 16 = 115792089237316195423570985008687907853269984665640564039457584007913129639936 := by decide
/-- A digit of a number, out of its word. -/
theorem digit_math (a i : Nat) : a / B ^ (i / 4) % B / 2 ^ (16 * (i % 4)) % 65536 = a / 65536 ^ i % 65536 := by
  have hr : i % 4 < 4 := Nat.mod_lt _ (by decide)
  rw [Bpow, bpow, show 16 * i = 64 * (i / 4) + 16 * (i % 4) by omega, Nat.pow_add, ← Nat.div_div_eq_div_mul]
  generalize a / 2 ^ (64 * (i / 4)) = x
  generalize i % 4 = r at *
  have e : B = 2 ^ (16 * r) * (65536 * 2 ^ (48 - 16 * r)) := by
    rw [show (65536 : Nat) = 2 ^ 16 from rfl, ← Nat.pow_add, ← Nat.pow_add]
    rw [show 16 * r + (16 + (48 - 16 * r)) = 64 by omega]
  rw [e, Nat.mod_mul_right_div_self, Nat.mod_mul_right_mod]

/-- One digit more, gathered in its word. -/
theorem gather_math (a d i : Nat) (ha : a < 65536 ^ i) (hd : d < 65536) :
    setw a (i / 4) 1 ((a / B ^ (i / 4) % B + d * 2 ^ (16 * (i % 4)) % B) % B) = a + d * 65536 ^ i := by
  have hr : i % 4 < 4 := Nat.mod_lt _ (by decide)
  have e : 65536 ^ i = 2 ^ (16 * (i % 4)) * B ^ (i / 4) := by rw [Bpow, bpow, ← Nat.pow_add]; congr 1; omega
  have h1 : a / B ^ (i / 4) < 2 ^ (16 * (i % 4)) := by rw [Nat.div_lt_iff_lt_mul (Bp _), ← e]; exact ha
  have h2 : 2 ^ (16 * (i % 4)) * 65536 ≤ B := by
    rw [show (65536 : Nat) = 2 ^ 16 from rfl, ← Nat.pow_add]
    exact Nat.pow_le_pow_right (by decide) (show 16 * (i % 4) + 16 ≤ 64 by omega)
  have h3 := Nat.mul_le_mul_right (2 ^ (16 * (i % 4))) (show d + 1 ≤ 65536 from hd)
  have hs := setw_add a (i / 4) (a / B ^ (i / 4) % B + d * 2 ^ (16 * (i % 4)))
  rw [e]
  generalize 2 ^ (16 * (i % 4)) = P at *
  rw [Nat.add_mul, Nat.one_mul, Nat.mul_comm 65536] at h3
  have h4 : a / B ^ (i / 4) % B = a / B ^ (i / 4) := Nat.mod_eq_of_lt (by omega)
  rw [h4] at hs ⊢
  rw [Nat.mod_eq_of_lt (show d * P < B by omega), Nat.mod_eq_of_lt (show a / B ^ (i / 4) + d * P < B by omega)]
  rw [Nat.add_mul, Nat.mul_assoc] at hs
  omega
end Go.Proofs.Ytdjnhnfofajpcaa
