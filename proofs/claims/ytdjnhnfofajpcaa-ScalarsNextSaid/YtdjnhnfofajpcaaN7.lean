/- Plain facts: the division of two words by one (math/bits.Div64): the guesses of half a word and how they are mended. No program in sight. -/
import Derived.Test.YtdjnhnfofajpcaaN4
namespace Go.Proofs.Ytdjnhnfofajpcaa
open Go Av

/-- What holds at the head of a loop of Div64: Y of two halves, normed; u below it and v, a half, are divided by it; q is the guess, r what it leaves. -/
structure Guess (Y n1 n0 u v q r : Nat) : Prop where
  hY : Y = n1 * 4294967296 + n0
  h0 : n0 < 4294967296
  h1 : 2147483648 ≤ n1
  h2 : n1 < 4294967296
  hu : u < Y
  hv : v < 4294967296
  hr : r < 4294967296
  hq : q ≤ 4294967297
  he : q * n1 + r = u
  hN : u * 4294967296 + v < q * Y + Y

/-- The guess is right. -/
structure Right (Y u v q : Nat) : Prop where
  lo : q * Y ≤ u * 4294967296 + v
  hi : u * 4294967296 + v < q * Y + Y

theorem split_q {Y n1 n0 q : Nat} (hY : Y = n1 * 4294967296 + n0) : q * Y = q * n1 * 4294967296 + q * n0 := by rw [hY, Nat.mul_add, Nat.mul_assoc]

theorem Guess.small {Y n1 n0 u v q r : Nat} (h : Guess Y n1 n0 u v q r) (hq : ¬ 4294967296 ≤ q) : (4294967296 * r % B + v) % B = 4294967296 * r + v ∧ q * n0 % B = q * n0 := by
  have h0 := h.h0
  have hv := h.hv
  have hr := h.hr
  have := Nat.mul_le_mul (show q ≤ 4294967295 by omega) (show n0 ≤ 4294967295 by omega)
  simp only [B]
  constructor
  · omega
  · generalize q * n0 = x at *; omega

theorem Guess.right {Y n1 n0 u v q r : Nat} (h : Guess Y n1 n0 u v q r) (hq : ¬ 4294967296 ≤ q) (hc : ¬ (4294967296 * r % B + v) % B < q * n0 % B) : Right Y u v q := by
  obtain ⟨e1, e2⟩ := h.small hq
  rw [e1, e2] at hc
  have he := h.he
  refine ⟨?_, h.hN⟩
  rw [split_q h.hY]
  generalize q * n1 = x at *
  generalize q * n0 = z at *
  omega

theorem Guess.over {Y n1 n0 u v q r : Nat} (h : Guess Y n1 n0 u v q r) (hc : 4294967296 ≤ q ∨ (¬ 4294967296 ≤ q ∧ (4294967296 * r % B + v) % B < q * n0 % B)) : u * 4294967296 + v < q * Y := by
  rcases hc with hq | ⟨hq, hc⟩
  · have h1 := Nat.mul_le_mul_right Y hq
    have h2 := h.hu
    have h3 := h.hv
    omega
  · obtain ⟨e1, e2⟩ := h.small hq
    rw [e1, e2] at hc
    have he := h.he
    rw [split_q h.hY]
    generalize q * n1 = x at *
    generalize q * n0 = z at *
    omega

theorem less_one {q : Nat} (h1 : 0 < q) (h2 : q ≤ 4294967297) : (q + 18446744073709551615) % B = q - 1 := by simp only [B]; omega

theorem Guess.pos {Y n1 n0 u v q r : Nat} (_ : Guess Y n1 n0 u v q r) (ho : u * 4294967296 + v < q * Y) : 0 < q := by
  refine Nat.pos_of_ne_zero fun h0 => ?_
  subst h0
  rw [Nat.zero_mul] at ho
  omega

theorem Guess.sum {Y n1 n0 u v q r : Nat} (h : Guess Y n1 n0 u v q r) : (r + n1) % B = r + n1 := by
  have := h.hr
  have := h.h2
  simp only [B]; omega

theorem Guess.stop {Y n1 n0 u v q r : Nat} (h : Guess Y n1 n0 u v q r) (ho : u * 4294967296 + v < q * Y) (hc : 4294967296 ≤ (r + n1) % B) : Right Y u v ((q + 18446744073709551615) % B) := by
  have hp := h.pos ho
  rw [less_one hp h.hq]
  rw [h.sum] at hc
  obtain ⟨p, rfl⟩ : ∃ p, q = p + 1 := ⟨q - 1, by omega⟩
  have hq := h.hq
  have he := h.he
  have h0 := h.h0
  have hl := Nat.mul_le_mul (show p ≤ 4294967296 by omega) (show n0 ≤ 4294967295 by omega)
  rw [show p + 1 - 1 = p by omega]
  rw [Nat.add_mul, Nat.one_mul] at ho he
  refine ⟨?_, ho⟩
  rw [split_q h.hY]
  generalize p * n1 = x at *
  generalize p * n0 = z at *
  omega

theorem Guess.next {Y n1 n0 u v q r : Nat} (h : Guess Y n1 n0 u v q r) (ho : u * 4294967296 + v < q * Y) (hc : ¬ 4294967296 ≤ (r + n1) % B) :
    Guess Y n1 n0 u v ((q + 18446744073709551615) % B) ((r + n1) % B) ∧ (q + 18446744073709551615) % B + 1 ≤ q := by
  have hp := h.pos ho
  rw [less_one hp h.hq]
  rw [h.sum] at hc ⊢
  obtain ⟨p, rfl⟩ : ∃ p, q = p + 1 := ⟨q - 1, by omega⟩
  have hq := h.hq
  have he := h.he
  rw [show p + 1 - 1 = p by omega]
  rw [Nat.add_mul, Nat.one_mul] at ho he
  exact ⟨⟨h.hY, h.h0, h.h1, h.h2, h.hu, h.hv, by omega, by omega, by omega, ho⟩, Nat.le_refl _⟩

theorem Guess.start {Y n1 n0 u v : Nat} (hY : Y = n1 * 4294967296 + n0) (h0 : n0 < 4294967296) (h1 : 2147483648 ≤ n1) (h2 : n1 < 4294967296) (hu : u < Y) (hv : v < 4294967296) :
    Guess Y n1 n0 u v (u / n1) ((u + (B - u / n1 * n1 % B)) % B) := by
  have hd := Nat.div_add_mod u n1
  have hm : u % n1 < n1 := Nat.mod_lt _ (by omega)
  rw [Nat.mul_comm] at hd
  have hr : (u + (B - u / n1 * n1 % B)) % B = u % n1 := by
    generalize u / n1 * n1 = x at *
    simp only [B]
    omega
  rw [hr]
  have hq : u / n1 ≤ 4294967297 := by
    refine Nat.le_of_lt_succ ((Nat.div_lt_iff_lt_mul (by omega)).2 ?_)
    omega
  refine ⟨hY, h0, h1, h2, hu, hv, by omega, hq, hd, ?_⟩
  have h3 : u < u / n1 * n1 + n1 := by omega
  have h4 : u * 4294967296 + 4294967296 ≤ (u / n1 * n1 + n1) * 4294967296 := by
    have := Nat.mul_le_mul_right 4294967296 (show u + 1 ≤ u / n1 * n1 + n1 from h3)
    omega
  rw [split_q hY]
  generalize u / n1 * n1 = x at *
  generalize u / n1 * n0 = z at *
  omega

/-- What is left behind the first half. -/
theorem Right.left {Y u v q : Nat} (h : Right Y u v q) (hY : Y < B) (hu : u < Y) (hv : v < 4294967296) :
    ((u * 4294967296 % B + v) % B + (B - q * Y % B)) % B = u * 4294967296 + v - q * Y ∧ u * 4294967296 + v - q * Y < Y ∧ q < 4294967296 := by
  obtain ⟨h1, h2⟩ := h
  refine ⟨?_, by omega, ?_⟩
  · generalize q * Y = x at *
    simp only [B] at *
    omega
  · refine Nat.lt_of_not_le fun hq => ?_
    have := Nat.mul_le_mul_right Y hq
    omega

/-- The division, normed by s places. -/
theorem norm_math (hi lo y : Nat) (h : hi < y) (hy : y < B) (hl : lo < B) :
    Int.toNat ((64 - (bitLen y : Int)) % 18446744073709551616) = 64 - bitLen y ∧
    2147483648 ≤ y * 2 ^ (64 - bitLen y) % B / 4294967296 ∧ y * 2 ^ (64 - bitLen y) % B = y * 2 ^ (64 - bitLen y) ∧
    ((hi * 2 ^ (64 - bitLen y) % B ||| lo / 2 ^ ((64 + (B - (64 - bitLen y))) % B))) < y * 2 ^ (64 - bitLen y) ∧
    ((hi * 2 ^ (64 - bitLen y) % B ||| lo / 2 ^ ((64 + (B - (64 - bitLen y))) % B))) * B + lo * 2 ^ (64 - bitLen y) % B = (hi * B + lo) * 2 ^ (64 - bitLen y) := by
  have hb := bitLen_le 64 y hy
  obtain ⟨h1, h2⟩ := bitLen_spec y
  have h2 := h2 (by omega)
  have hn : bitLen y ≠ 0 := by
    intro h0
    rw [h0] at h1
    simp at h1
    omega
  obtain ⟨s, hs⟩ : ∃ s, 64 - bitLen y = s := ⟨_, rfl⟩
  have hs64 : s < 64 := by omega
  have e1 : Int.toNat ((64 - (bitLen y : Int)) % 18446744073709551616) = s := by omega
  have e2 : (64 + (B - s)) % B = 64 - s := by simp only [B]; omega
  have eB : B = 2 ^ (64 - s) * 2 ^ s := by rw [← Nat.pow_add, show 64 - s + s = 64 by omega]
  have eB2 : B = 2 ^ bitLen y * 2 ^ s := by rw [← Nat.pow_add, show bitLen y + s = 64 by omega]
  have eH : 9223372036854775808 = 2 ^ (bitLen y - 1) * 2 ^ s := by rw [← Nat.pow_add, show bitLen y - 1 + s = 63 by omega]
  have pos := Nat.two_pow_pos s
  have k1 : y * 2 ^ s < B := by rw [eB2]; exact Nat.mul_lt_mul_of_pos_right h1 pos
  have k2 : 9223372036854775808 ≤ y * 2 ^ s := by rw [eH]; exact Nat.mul_le_mul_right _ h2
  have k3 : hi * 2 ^ s < B := Nat.lt_of_le_of_lt (Nat.mul_le_mul_right _ (Nat.le_of_lt h)) k1
  have k4 : lo / 2 ^ (64 - s) < 2 ^ s := by rw [Nat.div_lt_iff_lt_mul (Nat.two_pow_pos _), Nat.mul_comm, ← eB]; exact hl
  have k5 : (hi * 2 ^ s ||| lo / 2 ^ (64 - s)) = hi * 2 ^ s + lo / 2 ^ (64 - s) := by
    rw [Nat.mul_comm, Nat.two_pow_add_eq_or_of_lt k4]
  rw [hs, e2, Nat.mod_eq_of_lt k1, Nat.mod_eq_of_lt k3, k5]
  refine ⟨e1, by omega, rfl, ?_, ?_⟩
  · have := Nat.mul_le_mul_right (2 ^ s) (show hi + 1 ≤ y from h)
    rw [Nat.add_mul] at this
    omega
  · have d1 := Nat.div_add_mod lo (2 ^ (64 - s))
    have d2 : lo * 2 ^ s % B = lo % 2 ^ (64 - s) * 2 ^ s := by rw [eB, Nat.mul_mod_mul_right]
    rw [d2, Nat.add_mul, Nat.add_mul]
    have d3 : lo * 2 ^ s = lo / 2 ^ (64 - s) * B + lo % 2 ^ (64 - s) * 2 ^ s := by
      conv => lhs; rw [← d1]
      rw [eB, Nat.add_mul, Nat.mul_comm (2 ^ (64 - s)) (lo / 2 ^ (64 - s)), Nat.mul_assoc]
    rw [d3]
    have d4 : hi * 2 ^ s * B = hi * B * 2 ^ s := by rw [Nat.mul_assoc, Nat.mul_comm (2 ^ s), Nat.mul_assoc]
    rw [d4]
    omega

theorem halves_sum (x1 x0 u v w : Nat) (l1 : x1 ≤ u * 4294967296 + v) (l0 : x0 ≤ (u * 4294967296 + v - x1) * 4294967296 + w) :
    x1 * 4294967296 + x0 + ((u * 4294967296 + v - x1) * 4294967296 + w - x0) = u * 18446744073709551616 + (v * 4294967296 + w) := by
  omega

/-- Both halves together. -/
theorem whole_math {M Y y P u v w q1 q0 : Nat} (hP : 0 < P) (hY : Y = y * P) (hYB : Y < B) (hM : u * B + (v * 4294967296 + w) = M * P) (hu : u < Y) (hv : v < 4294967296) (hw : w < 4294967296)
    (h1 : Right Y u v q1) (h0 : Right Y (u * 4294967296 + v - q1 * Y) w q0) :
    (q1 * 4294967296 % B + q0) % B = M / y ∧
    ((((u * 4294967296 + v - q1 * Y) * 4294967296 % B + w) % B + (B - q0 * Y % B)) % B) / P = M % y := by
  obtain ⟨_, a2, a3⟩ := h1.left hYB hu hv
  obtain ⟨b1, b2, b3⟩ := h0.left hYB a2 hw
  rw [b1]
  have l1 := h1.lo
  have l0 := h0.lo
  have y0 : 0 < y := by
    refine Nat.pos_of_ne_zero fun h => ?_
    rw [h, Nat.zero_mul] at hY
    omega
  have e : (q1 * 4294967296 + q0) * Y + ((u * 4294967296 + v - q1 * Y) * 4294967296 + w - q0 * Y) = M * P := by
    rw [← hM, Nat.add_mul]
    have e1 : q1 * 4294967296 * Y = q1 * Y * 4294967296 := by rw [Nat.mul_assoc, Nat.mul_comm 4294967296, Nat.mul_assoc]
    rw [e1]
    exact halves_sum _ _ u v w l1 l0
  obtain ⟨R, hR⟩ : ∃ R, (u * 4294967296 + v - q1 * Y) * 4294967296 + w - q0 * Y = R := ⟨_, rfl⟩
  rw [hR] at e b2 ⊢
  have e3 : M * P = (q1 * 4294967296 + q0) * y * P + R := by rw [← e, hY, Nat.mul_assoc]
  have e4 : R = (M - (q1 * 4294967296 + q0) * y) * P := by rw [Nat.sub_mul, e3, Nat.add_sub_cancel_left]
  have e5 : (q1 * 4294967296 + q0) * y ≤ M := Nat.le_of_mul_le_mul_right (show (q1 * 4294967296 + q0) * y * P ≤ M * P by rw [e3]; exact Nat.le_add_right _ _) hP
  have e6 : R / P = M - (q1 * 4294967296 + q0) * y := by rw [e4, Nat.mul_div_cancel _ hP]
  have e7 : M - (q1 * 4294967296 + q0) * y < y := by
    rw [← e6, Nat.div_lt_iff_lt_mul hP, ← hY]; exact b2
  have e8 : (q1 * 4294967296 % B + q0) % B = q1 * 4294967296 + q0 := by simp only [B]; omega
  rw [e8, e6]
  have e9 : M - (q1 * 4294967296 + q0) * y + y * (q1 * 4294967296 + q0) = M := by rw [Nat.mul_comm y]; exact Nat.sub_add_cancel e5
  obtain ⟨k1, k2⟩ := (Nat.div_mod_unique y0).2 ⟨e9, e7⟩
  exact ⟨k1.symm, k2.symm⟩
end Go.Proofs.Ytdjnhnfofajpcaa
