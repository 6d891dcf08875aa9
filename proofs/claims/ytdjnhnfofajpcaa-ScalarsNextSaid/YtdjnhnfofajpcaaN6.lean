/- Plain facts: sums, differences and products of numbers of 16 digits, digit by digit. No program in sight. -/
import Derived.Test.YtdjnhnfofajpcaaN5
namespace Go.Proofs.Ytdjnhnfofajpcaa
open Go Av

theorem bp (k : Nat) : 0 < 65536 ^ k := Nat.pow_pos (by decide)

structure RAdd (a b i D V m : Nat) : Prop where
  hi : i ≤ 16
  hd : Dig D 16 V
  hm : m ≤ 1
  he : V + m * 65536 ^ i = a + b % 65536 ^ i
structure RSub (a b i D V m : Nat) : Prop where
  hi : i ≤ 16
  hd : Dig D 16 V
  hm : m ≤ 1
  he : V + b % 65536 ^ i = a + m * 65536 ^ i
structure RMul (a b i k D V m : Nat) : Prop where
  hi : i < 16
  hk : k ≤ 16
  hd : Dig D 32 V
  hV : V < 65536 ^ (i + 16)
  hm : m < 65536
  he : V + m * 65536 ^ (i + k) = a % 65536 ^ i * b + a / 65536 ^ i % 65536 * (b % 65536 ^ k) * 65536 ^ i

/-- What a step in one digit does to the whole. -/
theorem gset_step {V i x d q n P : Nat} (hP : P = 65536 ^ i) (hx : V / 65536 ^ i % 65536 = x) (hn : n = d + 65536 * q) : gset 65536 V i d + q * (P * 65536) + x * P = V + n * P := by
  have h := gset_add 65536 V i d
  rw [hx, ← hP] at h
  rw [hn]
  generalize gset 65536 V i d = V' at *
  grind

theorem RAdd.step {a b i D V m E : Nat} (h : RAdd a b i D V m) (hi : i < 16) (hb : Dig E 16 b) :
    RAdd a b (i + 1) (setw D i 1 (((D / B ^ i % B + E / B ^ i % B) % B + m) % B % 65536)) (gset 65536 V i (((D / B ^ i % B + E / B ^ i % B) % B + m) % B % 65536)) (((D / B ^ i % B + E / B ^ i % B) % B + m) % B / 65536) := by
  obtain ⟨_, hd, hm, he⟩ := h
  have e1 := hd.dig i hi
  have e2 := hb.dig i hi
  have l1 := hd.small i hi
  have l2 := hb.small i hi
  have e3 : b % 65536 ^ (i + 1) = b % 65536 ^ i + 65536 ^ i * (b / 65536 ^ i % 65536) := Nat.mod_pow_succ
  rw [← e2] at e3
  obtain ⟨x, hx⟩ : ∃ x, D / B ^ i % B = x := ⟨_, rfl⟩
  obtain ⟨y, hy⟩ : ∃ y, E / B ^ i % B = y := ⟨_, rfl⟩
  rw [hx] at e1 l1 ⊢
  rw [hy] at e2 l2 e3 ⊢
  have hn : ((x + y) % B + m) % B = x + y + m := by simp only [B]; omega
  rw [hn]
  refine ⟨hi, hd.set hi (Nat.mod_lt _ (by decide)), by omega, ?_⟩
  have hs := gset_step (V := V) (i := i) (d := (x + y + m) % 65536) (q := (x + y + m) / 65536) rfl e1.symm (n := x + y + m) (by omega)
  rw [e3, Nat.pow_succ]
  generalize gset 65536 V i ((x + y + m) % 65536) = V' at *
  generalize (x + y + m) / 65536 = q at *
  generalize 65536 ^ i = P at *
  generalize b % P = s at *
  clear e1 e2 e3 hx hy hn hd hb l1 l2
  rw [Nat.add_mul, Nat.add_mul] at hs
  have : P * y = y * P := Nat.mul_comm _ _
  omega
theorem RAdd.done {a b D V m : Nat} (h : RAdd a b 16 D V m) (hb : b < 65536 ^ 16) : gat D 0 16 = (a + b) % 115792089237316195423570985008687907853269984665640564039457584007913129639936 ∧ m = (a + b) / 115792089237316195423570985008687907853269984665640564039457584007913129639936 := by
  have e := h.hd.gat 0 16 (by decide)
  have he := h.he
  have hl := h.hd.vlt
  rw [Nat.mod_eq_of_lt hb] at he
  rw [Nat.pow_zero, Nat.div_one, Nat.mod_eq_of_lt hl] at e
  rw [e]
  rw [b16] at he hl
  omega

theorem RSub.step {a b i D V m E : Nat} (h : RSub a b i D V m) (hi : i < 16) (hb : Dig E 16 b) :
    RSub a b (i + 1) (setw D i 1 ((((D / B ^ i % B + 65536) % B + (B - E / B ^ i % B)) % B + (B - m)) % B % 65536)) (gset 65536 V i ((((D / B ^ i % B + 65536) % B + (B - E / B ^ i % B)) % B + (B - m)) % B % 65536))
      ((1 + (B - (((D / B ^ i % B + 65536) % B + (B - E / B ^ i % B)) % B + (B - m)) % B / 65536)) % B) := by
  obtain ⟨_, hd, hm, he⟩ := h
  have e1 := hd.dig i hi
  have e2 := hb.dig i hi
  have l1 := hd.small i hi
  have l2 := hb.small i hi
  have e3 : b % 65536 ^ (i + 1) = b % 65536 ^ i + 65536 ^ i * (b / 65536 ^ i % 65536) := Nat.mod_pow_succ
  rw [← e2] at e3
  obtain ⟨x, hx⟩ : ∃ x, D / B ^ i % B = x := ⟨_, rfl⟩
  obtain ⟨y, hy⟩ : ∃ y, E / B ^ i % B = y := ⟨_, rfl⟩
  rw [hx] at e1 l1 ⊢
  rw [hy] at e2 l2 e3 ⊢
  obtain ⟨n, hn, hn'⟩ : ∃ n, (((x + 65536) % B + (B - y)) % B + (B - m)) % B = n ∧ n + y + m = x + 65536 := ⟨_, rfl, by simp only [B]; omega⟩
  rw [hn]
  have hq : (1 + (B - n / 65536)) % B = 1 - n / 65536 := by simp only [B]; omega
  rw [hq]
  refine ⟨hi, hd.set hi (Nat.mod_lt _ (by decide)), by omega, ?_⟩
  have hs := gset_step (V := V) (i := i) (d := n % 65536) (q := n / 65536) rfl e1.symm (n := n) (by omega)
  have hq1 : n / 65536 ≤ 1 := by omega
  rw [e3, Nat.pow_succ]
  generalize gset 65536 V i (n % 65536) = V' at *
  generalize n / 65536 = q at *
  generalize 65536 ^ i = P at *
  generalize b % P = s at *
  clear e1 e2 e3 hx hy hn hd hb l1 l2 hq
  have k1 : (n + y + m) * P = (x + 65536) * P := by rw [hn']
  rw [Nat.add_mul, Nat.add_mul, Nat.add_mul] at k1
  have k2 : P * y = y * P := Nat.mul_comm _ _
  obtain rfl | rfl : q = 0 ∨ q = 1 := by omega
  · simp only [Nat.zero_mul, Nat.sub_zero, Nat.one_mul] at *
    omega
  · simp only [Nat.zero_mul, Nat.sub_self, Nat.one_mul] at *
    omega
theorem RSub.done {a b D V m : Nat} (h : RSub a b 16 D V m) (ha : a < 65536 ^ 16) (hb : b < 65536 ^ 16) :
    gat D 0 16 = (a + (115792089237316195423570985008687907853269984665640564039457584007913129639936 - b)) % 115792089237316195423570985008687907853269984665640564039457584007913129639936 ∧ m = if a < b then 1 else 0 := by
  have e := h.hd.gat 0 16 (by decide)
  have he := h.he
  have hl := h.hd.vlt
  have hm := h.hm
  rw [Nat.mod_eq_of_lt hb] at he
  rw [Nat.pow_zero, Nat.div_one, Nat.mod_eq_of_lt hl] at e
  rw [e]
  rw [b16] at he hl ha hb
  split <;> omega

theorem RMul.start {a b i D : Nat} (h : Dig D 32 (a % 65536 ^ i * b)) (hi : i < 16) (hb : b < 65536 ^ 16) : RMul a b i 0 D (a % 65536 ^ i * b) 0 := by
  refine ⟨hi, by omega, h, ?_, by decide, by simp [Nat.mod_one]⟩
  rw [Nat.pow_add]
  exact Nat.mul_lt_mul_of_lt_of_le (Nat.mod_lt _ (bp i)) (Nat.le_of_lt hb) (bp 16)

theorem digits_fit {x y d m : Nat} (hx : x < 65536) (hy : y < 65536) (hd : d < 65536) (hm : m < 65536) : ((d + x * y % B) % B + m) % B = d + x * y + m ∧ (d + x * y + m) / 65536 < 65536 := by
  have := Nat.mul_le_mul (show x ≤ 65535 by omega) (show y ≤ 65535 by omega)
  simp only [B]
  generalize x * y = p at *
  omega

theorem RMul.step {a b i k D V m E F : Nat} (h : RMul a b i k D V m) (hk : k < 16) (ha : Dig E 16 a) (hb : Dig F 16 b) :
    RMul a b i (k + 1) (setw D (i + k) 1 (((D / B ^ (i + k) % B + E / B ^ i % B * (F / B ^ k % B) % B) % B + m) % B % 65536))
      (gset 65536 V (i + k) (((D / B ^ (i + k) % B + E / B ^ i % B * (F / B ^ k % B) % B) % B + m) % B % 65536)) (((D / B ^ (i + k) % B + E / B ^ i % B * (F / B ^ k % B) % B) % B + m) % B / 65536) := by
  obtain ⟨hi, _, hd, hV, hm, he⟩ := h
  have e1 := hd.dig (i + k) (by omega)
  have e2 := ha.dig i hi
  have e4 := hb.dig k hk
  have l1 := hd.small (i + k) (by omega)
  have l2 := ha.small i hi
  have l4 := hb.small k hk
  have e3 : b % 65536 ^ (k + 1) = b % 65536 ^ k + 65536 ^ k * (b / 65536 ^ k % 65536) := Nat.mod_pow_succ
  rw [← e4] at e3
  rw [← e2] at he
  obtain ⟨d, hdd⟩ : ∃ d, D / B ^ (i + k) % B = d := ⟨_, rfl⟩
  obtain ⟨x, hx⟩ : ∃ x, E / B ^ i % B = x := ⟨_, rfl⟩
  obtain ⟨y, hy⟩ : ∃ y, F / B ^ k % B = y := ⟨_, rfl⟩
  rw [hdd] at e1 l1 ⊢
  rw [hx] at e2 l2 he ⊢
  rw [hy] at e4 l4 e3 ⊢
  obtain ⟨n1, n2⟩ := digits_fit l2 l4 l1 hm
  rw [n1]
  refine ⟨hi, hk, hd.set (by omega) (Nat.mod_lt _ (by decide)), gset_lt (by decide) hV (Nat.mod_lt _ (by decide)) (by omega), n2, ?_⟩
  rw [← e2]
  have hs := gset_step (V := V) (i := i + k) (d := (d + x * y + m) % 65536) (q := (d + x * y + m) / 65536) rfl e1.symm (n := d + x * y + m) (by omega)
  have e5 : 65536 ^ (i + (k + 1)) = 65536 ^ i * 65536 ^ k * 65536 := by rw [← Nat.add_assoc, Nat.pow_succ, Nat.pow_add]
  rw [e3, e5]
  rw [Nat.pow_add] at he hs
  generalize gset 65536 V (i + k) ((d + x * y + m) % 65536) = V' at *
  generalize (d + x * y + m) / 65536 = q at *
  generalize 65536 ^ i = P at *
  generalize 65536 ^ k = Q at *
  generalize b % Q = s at *
  generalize a % P = t at *
  clear e1 e2 e3 e4 e5 hx hy hdd hd ha hb l1 l2 l4 n1 n2 hV
  grind

theorem gset_snoc {V o d : Nat} (h : V < 65536 ^ o) : gset 65536 V o d = V + d * 65536 ^ o := by
  unfold gset
  rw [Nat.mod_eq_of_lt h, Nat.div_eq_of_lt (Nat.lt_of_lt_of_le h (Nat.pow_le_pow_right (by decide) (by omega)))]
  simp

theorem RMul.done {a b i D V m : Nat} (h : RMul a b i 16 D V m) (hb : b < 65536 ^ 16) : Dig (setw D (i + 16) 1 m) 32 (a % 65536 ^ (i + 1) * b) := by
  obtain ⟨hi, _, hd, hV, hm, he⟩ := h
  have h1 := hd.set (o := i + 16) (d := m) (by omega) hm
  rw [gset_snoc hV, he, Nat.mod_eq_of_lt hb] at h1
  have e3 : a % 65536 ^ (i + 1) = a % 65536 ^ i + 65536 ^ i * (a / 65536 ^ i % 65536) := Nat.mod_pow_succ
  have e4 : a % 65536 ^ (i + 1) * b = a % 65536 ^ i * b + a / 65536 ^ i % 65536 * b * 65536 ^ i := by
    rw [e3]
    generalize 65536 ^ i = P
    grind
  rw [e4]; exact h1
end Go.Proofs.Ytdjnhnfofajpcaa
