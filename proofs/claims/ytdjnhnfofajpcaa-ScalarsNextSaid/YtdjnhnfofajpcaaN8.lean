/- Plain facts: division bit by bit and word by word. No program in sight. -/
import Derived.Test.YtdjnhnfofajpcaaN4
namespace Go.Proofs.Ytdjnhnfofajpcaa
open Go Av

/-- One place more behind a number that is divided. -/
theorem place_div (x K d b : Nat) (hb : 0 < b) : (x * K + d) / b = x / b * K + (x % b * K + d) / b := by
  have h := Nat.div_add_mod x b
  have e : x * K + d = b * (x / b * K) + (x % b * K + d) := by
    conv => lhs; rw [← h]
    grind
  rw [e, Nat.mul_add_div hb]
theorem place_mod (x K d b : Nat) : (x * K + d) % b = (x % b * K + d) % b := by
  have h := Nat.div_add_mod x b
  have e : x * K + d = b * (x / b * K) + (x % b * K + d) := by
    conv => lhs; rw [← h]
    grind
  rw [e, Nat.mul_add_mod]

theorem place_lt {x K d b : Nat} (h : x < b) (hd : d < K) : (x * K + d) / b < K := by
  rw [Nat.div_lt_iff_lt_mul (by omega)]
  have := Nat.mul_le_mul_right K (show x + 1 ≤ b from h)
  rw [Nat.add_mul, Nat.one_mul] at this
  rw [Nat.mul_comm K]
  omega

/-- The lowest word of a number that is even, and one bit. -/
theorem low_or (r bit : Nat) (hb : bit ≤ 1) : setw ((r + r) % W) 0 1 ((r + r) % W / 1 % 18446744073709551616 ||| bit) = (r + r) % W + bit := by
  have hs := setw_add ((r + r) % W) 0 ((r + r) % W / 1 % 18446744073709551616 ||| bit)
  have e : ((r + r) % W / 1 % 18446744073709551616 ||| bit) = (r + r) % W / 1 % 18446744073709551616 + bit := by
    have h2 : (r + r) % W / 1 % 18446744073709551616 = 2 ^ 1 * ((r + r) % W / 1 % 18446744073709551616 / 2) := by simp only [W]; omega
    rw [h2, ← Nat.two_pow_add_eq_or_of_lt (by omega)]
  rw [e] at hs ⊢
  simp only [Nat.pow_zero, Nat.mul_one, B] at hs
  omega
theorem low_add (r bit : Nat) (hb : bit ≤ 1) : setw ((r + r) % W) 0 1 (((r + r) % W / 1 % 18446744073709551616 + bit) % 18446744073709551616) = (r + r) % W + bit := by
  have e : ((r + r) % W / 1 % 18446744073709551616 + bit) % 18446744073709551616 = (r + r) % W / 1 % 18446744073709551616 + bit := by simp only [W]; omega
  have hs := setw_add ((r + r) % W) 0 ((r + r) % W / 1 % 18446744073709551616 + bit)
  rw [e]
  simp only [Nat.pow_zero, Nat.mul_one, B] at hs
  omega

/-- A bit more, less m, if that is not above it. -/
theorem twice_yes {r bit m : Nat} (hm : m < W) (hr : r < m) (hb : bit ≤ 1) (h : (r + r) / W = 1 ∨ ¬ (r + r) % W + bit < m) :
    ((r + r) % W + bit + (W - m)) % W = (r * 2 + bit) % m ∧ (r * 2 + bit) / m = 1 := by
  have e : r * 2 + bit = m * 1 + (r * 2 + bit - m) := by simp only [W] at *; omega
  have hl : r * 2 + bit - m < m := by omega
  constructor
  · rw [e, Nat.mul_add_mod, Nat.mod_eq_of_lt hl]
    simp only [W] at *
    omega
  · rw [e, Nat.mul_add_div (by omega), Nat.div_eq_of_lt hl]
theorem twice_no {r bit m : Nat} (hm : m < W) (hr : r < m) (_ : bit ≤ 1) (h1 : ¬ (r + r) / W = 1) (h2 : (r + r) % W + bit < m) :
    (r + r) % W + bit = (r * 2 + bit) % m ∧ (r * 2 + bit) / m = 0 := by
  have e : (r + r) % W + bit = r * 2 + bit := by simp only [W] at *; omega
  rw [e] at h2 ⊢
  exact ⟨(Nat.mod_eq_of_lt h2).symm, Nat.div_eq_of_lt h2⟩

/-- The bit in place i of a number that has none below i + 1 is set. -/
theorem place_word {Q i s : Nat} (hs : s ≤ 1) : ∃ d, Q * 2 ^ (i + 1) / B ^ (i / 64) % B = d ∧ d + s * 2 ^ (i % 64) < B ∧ (d ||| s * 2 ^ (i % 64)) = d + s * 2 ^ (i % 64) ∧ s * 2 ^ (i % 64) < B ∧
    setw (Q * 2 ^ (i + 1)) (i / 64) 1 (d + s * 2 ^ (i % 64)) = Q * 2 ^ (i + 1) + s * 2 ^ i := by
  have hr : i % 64 < 64 := Nat.mod_lt _ (by decide)
  have ei : 2 ^ i = 2 ^ (i % 64) * B ^ (i / 64) := by rw [Bpow, ← Nat.pow_add]; congr 1; omega
  have eB : B = 2 ^ (i % 64 + 1) * 2 ^ (63 - i % 64) := by rw [← Nat.pow_add, show i % 64 + 1 + (63 - i % 64) = 64 by omega]
  have e2 : Q * 2 ^ (i + 1) = Q * 2 ^ (i % 64 + 1) * B ^ (i / 64) := by
    rw [Nat.pow_succ, ei, Nat.pow_succ]; ac_rfl
  have e3 : Q * 2 ^ (i + 1) / B ^ (i / 64) % B = 2 ^ (i % 64 + 1) * (Q % 2 ^ (63 - i % 64)) := by
    rw [e2, Nat.mul_div_cancel _ (Bp _), Nat.mul_comm Q]
    conv => lhs; rw [eB]
    rw [Nat.mul_mod_mul_left]
  refine ⟨_, rfl, ?_⟩
  have hs2 := setw_add (Q * 2 ^ (i + 1)) (i / 64) (Q * 2 ^ (i + 1) / B ^ (i / 64) % B + s * 2 ^ (i % 64))
  have hsP : s * 2 ^ (i % 64) < 2 ^ (i % 64 + 1) := by
    have := Nat.mul_le_mul_right (2 ^ (i % 64)) hs
    have := Nat.two_pow_pos (i % 64)
    rw [Nat.pow_succ]; omega
  have hlt : Q % 2 ^ (63 - i % 64) < 2 ^ (63 - i % 64) := Nat.mod_lt _ (Nat.two_pow_pos _)
  rw [e3] at hs2 ⊢
  have hm := Nat.mul_le_mul_left (2 ^ (i % 64 + 1)) (show Q % 2 ^ (63 - i % 64) + 1 ≤ 2 ^ (63 - i % 64) from hlt)
  rw [← eB, Nat.mul_add, Nat.mul_one] at hm
  refine ⟨by omega, (Nat.two_pow_add_eq_or_of_lt hsP _).symm, by omega, ?_⟩
  rw [Nat.add_mul, Nat.mul_assoc s, ← ei] at hs2
  omega

/-- A number less its lowest places, by one place more. -/
theorem bit_step (a i : Nat) : a / 2 ^ i = a / 2 ^ (i + 1) * 2 + a / 2 ^ i % 2 := by
  rw [Nat.pow_succ, ← Nat.div_div_eq_div_mul]; omega
theorem word_step (a j : Nat) : a / B ^ j = a / B ^ (j + 1) * B + a / B ^ j % B := by
  rw [Nat.pow_succ, ← Nat.div_div_eq_div_mul, Nat.mul_comm]; exact (Nat.div_add_mod _ _).symm

/-- Dividing word by word: the places from j on are done. -/
structure DivW (a b j q r : Nat) : Prop where
  hj : j ≤ 4
  hq : q = a / B ^ j / b * B ^ j
  hr : r = a / B ^ j % b
theorem DivW.start {a b : Nat} (ha : a < W) : DivW a b 4 0 0 := by
  have h : a / B ^ 4 = 0 := Nat.div_eq_of_lt (by rw [B4]; exact ha)
  exact ⟨Nat.le_refl _, by rw [h]; simp, by rw [h]; simp⟩
theorem DivW.step {a b j q r : Nat} (h : DivW a b (j + 1) q r) (hb : 0 < b) :
    DivW a b j (setw q j 1 ((r * B + a / B ^ j % B) / b)) ((r * B + a / B ^ j % B) % b) ∧ r < b := by
  obtain ⟨hj, hq, hr⟩ := h
  have hrb : r < b := by rw [hr]; exact Nat.mod_lt _ hb
  have hd : a / B ^ j % B < B := Nat.mod_lt _ B_pos
  have hl := place_lt hrb hd
  refine ⟨⟨by omega, ?_, ?_⟩, hrb⟩
  · have hs := setw_add q j ((r * B + a / B ^ j % B) / b)
    have h0 : q / B ^ j % B = 0 := by
      rw [hq, Nat.pow_succ, Nat.mul_comm (B ^ j) B, ← Nat.mul_assoc, Nat.mul_div_cancel _ (Bp _), Nat.mul_mod_left]
    rw [h0, Nat.zero_mul, Nat.add_zero] at hs
    rw [hs]
    conv => rhs; rw [word_step a j, place_div _ _ _ _ hb, ← hr]
    rw [hq, Nat.pow_succ, Nat.add_mul]
    ac_rfl
  · conv => rhs; rw [word_step a j, place_mod, ← hr]
theorem DivW.done {a b q r : Nat} (h : DivW a b 0 q r) : q = a / b ∧ r = a % b := by
  obtain ⟨_, hq, hr⟩ := h
  simpa using And.intro hq hr

/-- Dividing bit by bit: the places from j on are done. -/
structure DivB (a b n j q r : Nat) : Prop where
  hj : j ≤ n
  hq : q = a / 2 ^ j / b * 2 ^ j
  hr : r = a / 2 ^ j % b
theorem DivB.start {a b n : Nat} (ha : a < 2 ^ n) : DivB a b n n 0 0 := by
  have h : a / 2 ^ n = 0 := Nat.div_eq_of_lt ha
  exact ⟨Nat.le_refl _, by rw [h]; simp, by rw [h]; simp⟩
theorem DivB.lt {a b n j q r : Nat} (h : DivB a b n j q r) (hb : 0 < b) : r < b := by rw [h.hr]; exact Nat.mod_lt _ hb
theorem DivB.step {a b n j q r : Nat} (h : DivB a b n (j + 1) q r) (hb : 0 < b) :
    DivB a b n j (q + (r * 2 + a / 2 ^ j % 2) / b * 2 ^ j) ((r * 2 + a / 2 ^ j % 2) % b) ∧ (r * 2 + a / 2 ^ j % 2) / b ≤ 1 ∧ ∃ Q, q = Q * 2 ^ (j + 1) := by
  have hrb := h.lt hb
  obtain ⟨hj, hq, hr⟩ := h
  have hd : a / 2 ^ j % 2 < 2 := Nat.mod_lt _ (by decide)
  have hl := place_lt hrb hd
  refine ⟨⟨by omega, ?_, ?_⟩, by omega, _, hq⟩
  · conv => rhs; rw [bit_step a j, place_div _ _ _ _ hb, ← hr]
    rw [hq, Nat.pow_succ, Nat.add_mul]
    ac_rfl
  · conv => rhs; rw [bit_step a j, place_mod, ← hr]
theorem DivB.done {a b n q r : Nat} (h : DivB a b n 0 q r) : q = a / b ∧ r = a % b := by
  obtain ⟨_, hq, hr⟩ := h
  simpa using And.intro hq hr
theorem DivB.or {a b n j q r : Nat} (h : DivB a b n (j + 1) q r) (hb : 0 < b) :
    DivB a b n j (setw q (j / 64) 1 (q / B ^ (j / 64) % B ||| (r * 2 + a / 2 ^ j % 2) / b * 2 ^ (j % 64) % B)) ((r * 2 + a / 2 ^ j % 2) % b) := by
  obtain ⟨h1, h2, Q, rfl⟩ := h.step hb
  obtain ⟨d, e1, e2, e3, e4, e5⟩ := place_word (Q := Q) (i := j) h2
  rw [e1, Nat.mod_eq_of_lt e4, e3, e5]
  exact h1
theorem DivB.add {a b n j q r : Nat} (h : DivB a b n (j + 1) q r) (hb : 0 < b) (h1 : (r * 2 + a / 2 ^ j % 2) / b = 1) :
    DivB a b n j (setw q (j / 64) 1 ((q / B ^ (j / 64) % B + 1 * 2 ^ (j % 64) % B) % B)) ((r * 2 + a / 2 ^ j % 2) % b) := by
  obtain ⟨h3, h2, Q, rfl⟩ := h.step hb
  obtain ⟨d, e1, e2, e3, e4, e5⟩ := place_word (Q := Q) (i := j) h2
  rw [h1] at e2 e4 e5 h3
  rw [e1, Nat.mod_eq_of_lt e4, Nat.mod_eq_of_lt e2, e5]
  exact h3
theorem DivB.none {a b n j q r : Nat} (h : DivB a b n (j + 1) q r) (hb : 0 < b) (h1 : (r * 2 + a / 2 ^ j % 2) / b = 0) :
    DivB a b n j q ((r * 2 + a / 2 ^ j % 2) % b) := by
  obtain ⟨h3, _⟩ := h.step hb
  rw [h1, Nat.zero_mul, Nat.add_zero] at h3
  exact h3

/-- What is left of a number, its places from j on being done. -/
structure Left (V m j r : Nat) : Prop where
  hr : r = V / 2 ^ j % m
theorem Left.start {V m j : Nat} (h : V < 2 ^ j) : Left V m j 0 := ⟨by rw [Nat.div_eq_of_lt h]; simp⟩
theorem Left.lt {V m j r : Nat} (h : Left V m j r) (hm : 0 < m) : r < m := by rw [h.hr]; exact Nat.mod_lt _ hm
theorem Left.step {V m j r : Nat} (h : Left V m (j + 1) r) : Left V m j ((r * 2 + V / 2 ^ j % 2) % m) :=
  ⟨by conv => rhs; rw [bit_step V j, place_mod, ← h.hr]⟩
theorem Left.done {V m r : Nat} (h : Left V m 0 r) : r = V % m := by have := h.hr; simpa using this
/-- Two numbers of 256 bits, one behind the other. -/
theorem wide_bit_hi {high low j : Nat} (hl : low < W) : (high * W + low) / 2 ^ (256 + j) % 2 = high / 2 ^ j % 2 := by
  rw [Nat.pow_add, ← W_pow, ← Nat.div_div_eq_div_mul, Nat.mul_comm, Nat.mul_add_div (by decide), Nat.div_eq_of_lt hl, Nat.add_zero]
theorem wide_bit_lo {high low j : Nat} (hj : j < 256) : (high * W + low) / 2 ^ j % 2 = low / 2 ^ j % 2 := by
  have e : high * W = high * 2 ^ (255 - j) * 2 * 2 ^ j := by
    rw [W_pow, Nat.mul_assoc, ← Nat.pow_succ', Nat.mul_assoc, ← Nat.pow_add, show 255 - j + (j + 1) = 256 by omega]
  rw [e, Nat.add_comm, Nat.add_mul_div_right _ _ (Nat.two_pow_pos j), Nat.mul_comm _ 2, Nat.add_mul_mod_self_left]

/-- The same, word by word. -/
structure LeftW (V m j r : Nat) : Prop where
  hr : r = V / B ^ j % m
theorem LeftW.start {V m j : Nat} (h : V < B ^ j) : LeftW V m j 0 := ⟨by rw [Nat.div_eq_of_lt h]; simp⟩
theorem LeftW.lt {V m j r : Nat} (h : LeftW V m j r) (hm : 0 < m) : r < m := by rw [h.hr]; exact Nat.mod_lt _ hm
theorem LeftW.step {V m j r : Nat} (h : LeftW V m (j + 1) r) : LeftW V m j ((r * B + V / B ^ j % B) % m) :=
  ⟨by conv => rhs; rw [word_step V j, place_mod, ← h.hr]⟩
theorem LeftW.done {V m r : Nat} (h : LeftW V m 0 r) : r = V % m := by have := h.hr; simpa using this
theorem wide_word_hi {high low j : Nat} (hl : low < W) : (high * W + low) / B ^ (4 + j) % B = high / B ^ j % B := by
  rw [Nat.pow_add, B4, ← Nat.div_div_eq_div_mul, Nat.mul_comm, Nat.mul_add_div (by decide), Nat.div_eq_of_lt hl, Nat.add_zero]
theorem wide_word_lo {high low j : Nat} (hj : j < 4) : (high * W + low) / B ^ j % B = low / B ^ j % B := by
  have e : high * W = high * B ^ (3 - j) * B * B ^ j := by
    rw [← B4, Nat.mul_assoc, ← Nat.pow_succ', Nat.mul_assoc, ← Nat.pow_add, show 3 - j + (j + 1) = 4 by omega]
  rw [e, Nat.add_comm, Nat.add_mul_div_right _ _ (Bp j), Nat.mul_comm _ B, Nat.add_mul_mod_self_left]
end Go.Proofs.Ytdjnhnfofajpcaa
