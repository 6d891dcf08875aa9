/- Plain facts: inverses by m, as Euclid finds them; powers by m. No program in sight. -/
import Derived.Test.YtdjnhnfofajpcaaN8
namespace Go.Proofs.Ytdjnhnfofajpcaa
open Go Av

/-- What a must be multiplied with for 1, by m; 0, if there is none. -/
noncomputable def invN (a m : Nat) : Nat := open Classical in if h : ∃ y, y < m ∧ a * y % m = 1 then h.choose else 0

theorem inv_unique {a m y z : Nat} (hy : y < m) (hz : z < m) (h1 : a * y % m = 1) (h2 : a * z % m = 1) : y = z := by
  have e1 : y * (a * z) % m = y := by rw [Nat.mul_mod, h2, Nat.mul_one, Nat.mod_mod, Nat.mod_eq_of_lt hy]
  have e2 : y * (a * z) % m = z := by rw [← Nat.mul_assoc, Nat.mul_comm y a, Nat.mul_mod, h1, Nat.one_mul, Nat.mod_mod, Nat.mod_eq_of_lt hz]
  rw [← e1, e2]
theorem invN_eq {a m y : Nat} (hy : y < m) (h : a * y % m = 1) : invN a m = y := by
  have he : ∃ y, y < m ∧ a * y % m = 1 := ⟨y, hy, h⟩
  unfold invN
  rw [dif_pos he]
  exact inv_unique he.choose_spec.1 hy he.choose_spec.2 h
theorem invN_none {a m : Nat} (h : Nat.gcd a m ≠ 1) : invN a m = 0 := by
  unfold invN
  rw [dif_neg]
  rintro ⟨y, _, hy⟩
  apply h
  have h1 : Nat.gcd a m ∣ a * y := Nat.dvd_trans (Nat.gcd_dvd_left a m) (Nat.dvd_mul_right a y)
  have h2 : Nat.gcd a m ∣ a * y % m := (Nat.dvd_mod_iff (Nat.gcd_dvd_right a m)).2 h1
  rw [hy] at h2
  exact Nat.dvd_one.1 h2

/-- What holds while Euclid's rounds go: x times a leaves r, y times a leaves s. -/
structure InvS (a m r s x y : Nat) : Prop where
  hr : r ≤ m
  hs : 1 ≤ s
  hm : s < m
  hg : Nat.gcd r s = 1
  hx : x < m
  hy : y < m
  ex : ∃ k : Int, (x : Int) * a = r + m * k
  ey : ∃ k : Int, (y : Int) * a = s + m * k

theorem InvS.start {a m : Nat} (hm : 1 < m) (ha : a < m) (h : Nat.gcd a m = 1) : InvS a m m a 0 1 := by
  refine ⟨Nat.le_refl _, ?_, ha, by rw [Nat.gcd_comm]; exact h, by omega, hm, ⟨-1, by grind⟩, ⟨0, by grind⟩⟩
  refine Nat.pos_of_ne_zero fun h0 => ?_
  subst h0
  rw [Nat.gcd_zero_left] at h
  omega

theorem sub_back {x m q y : Nat} (hm : 0 < m) : ∃ k : Int, (((x + (m - q * y % m)) % m : Nat) : Int) = x - q * y + m * k := by
  have h1 := Nat.div_add_mod (q * y) m
  have h2 := Nat.div_add_mod (x + (m - q * y % m)) m
  have h3 : q * y % m < m := Nat.mod_lt _ hm
  refine ⟨1 + ((q * y / m : Nat) : Int) - (((x + (m - q * y % m)) / m : Nat) : Int), ?_⟩
  have e1 : ((m * (q * y / m) + q * y % m : Nat) : Int) = ((q * y : Nat) : Int) := by rw [h1]
  have e2 : ((m * ((x + (m - q * y % m)) / m) + (x + (m - q * y % m)) % m : Nat) : Int) = ((x + (m - q * y % m) : Nat) : Int) := by rw [h2]
  have e3 : ((x + (m - q * y % m) : Nat) : Int) = (x : Int) + (m : Int) - ((q * y % m : Nat) : Int) := by omega
  rw [e3] at e2
  generalize (x + (m - q * y % m)) % m = u at *
  generalize (x + (m - q * y % m)) / m = c at *
  generalize q * y % m = t at *
  generalize q * y / m = d at *
  simp only [Int.natCast_add, Int.natCast_mul] at e1 e2 ⊢
  grind

theorem InvS.step {a m r s x y : Nat} (h : InvS a m r s x y) (h1 : s ≠ 1) : InvS a m s (r % s) y ((x + (m - r / s * y % m)) % m) ∧ r / s ≤ m ∧ r % s + 1 ≤ s := by
  obtain ⟨hr, hs, hm, hg, hx, hy, ⟨k1, ex⟩, ⟨k2, ey⟩⟩ := h
  have hlt : r % s < s := Nat.mod_lt _ (by omega)
  have hq : r / s ≤ m := Nat.le_trans (Nat.div_le_self _ _) hr
  have hgc : Nat.gcd s (r % s) = 1 := by rw [Nat.gcd_comm, ← Nat.gcd_rec, Nat.gcd_comm]; exact hg
  refine ⟨⟨by omega, ?_, by omega, hgc, hy, Nat.mod_lt _ (by omega), ⟨k2, ey⟩, ?_⟩, hq, hlt⟩
  · refine Nat.pos_of_ne_zero fun h0 => h1 ?_
    rw [h0, Nat.gcd_zero_right] at hgc
    exact hgc
  · obtain ⟨k3, e3⟩ := sub_back (x := x) (q := r / s) (y := y) (m := m) (by omega)
    have e4 := Nat.div_add_mod r s
    have e5 : ((s * (r / s) + r % s : Nat) : Int) = (r : Int) := by rw [e4]
    rw [e3]
    refine ⟨k1 - ((r / s : Nat) : Int) * k2 + k3 * a, ?_⟩
    simp only [Int.natCast_add, Int.natCast_mul] at e5
    generalize ((r / s : Nat) : Int) = q at *
    generalize ((r % s : Nat) : Int) = t at *
    grind

theorem InvS.done {a m r x y : Nat} (h : InvS a m r 1 x y) : invN a m = y := by
  obtain ⟨_, _, hm, _, _, hy, _, ⟨k, ey⟩⟩ := h
  refine invN_eq hy ?_
  have e : ((a * y : Nat) : Int) % (m : Int) = 1 := by
    have : ((a * y : Nat) : Int) = 1 + m * k := by simp only [Int.natCast_mul]; rw [Int.mul_comm]; simpa using ey
    rw [this, Int.add_mul_emod_self_left]
    exact Int.emod_eq_of_lt (by decide) (by omega)
  omega

theorem inv_there {a m : Nat} (hm : 1 < m) (ha : a < m) (h : Nat.gcd a m = 1) : invN a m < m ∧ a * invN a m % m = 1 ∧ invN a m ≠ 0 := by
  have key : ∀ (n r s x y : Nat), s ≤ n → InvS a m r s x y → ∃ y, y < m ∧ a * y % m = 1 := by
    intro n
    induction n with
    | zero => intro r s x y hn hI; have := hI.hs; omega
    | succ n ih =>
      intro r s x y hn hI
      by_cases h1 : s = 1
      · subst h1
        have := hI.done
        refine ⟨y, hI.hy, ?_⟩
        obtain ⟨k, ey⟩ := hI.ey
        have e : ((a * y : Nat) : Int) % (m : Int) = 1 := by
          have : ((a * y : Nat) : Int) = 1 + m * k := by simp only [Int.natCast_mul]; rw [Int.mul_comm]; simpa using ey
          rw [this, Int.add_mul_emod_self_left]
          exact Int.emod_eq_of_lt (by decide) (by omega)
        omega
      · obtain ⟨g1, _, g3⟩ := hI.step h1
        exact ih _ _ _ _ (by omega) g1
  obtain ⟨y, hy, he⟩ := key a m a 0 1 (Nat.le_refl _) (.start hm ha h)
  rw [invN_eq hy he]
  refine ⟨hy, he, fun h0 => ?_⟩
  subst h0
  rw [Nat.mul_zero, Nat.zero_mod] at he
  cases he
theorem inv_iff {a m : Nat} (hm : 1 < m) (ha : a < m) : invN a m = 0 ↔ Nat.gcd a m ≠ 1 :=
  ⟨fun h hg => (inv_there hm ha hg).2.2 h, invN_none⟩

/-- A power by its places: those from j on are done. -/
structure Pow (a n m j r : Nat) : Prop where
  he : r = a ^ (n / 2 ^ j) % m
theorem Pow.start {a n m j : Nat} (hm : 1 < m) (h : n < 2 ^ j) : Pow a n m j 1 := ⟨by rw [Nat.div_eq_of_lt h, Nat.pow_zero, Nat.mod_eq_of_lt hm]⟩
theorem Pow.lt {a n m j r : Nat} (h : Pow a n m j r) (hm : 0 < m) : r < m := by rw [h.he]; exact Nat.mod_lt _ hm
theorem Pow.even {a n m j r : Nat} (h : Pow a n m (j + 1) r) (hb : n / 2 ^ j % 2 = 0) : Pow a n m j (r * r % m) := by
  refine ⟨?_⟩
  rw [bit_step n j, hb, Nat.add_zero, Nat.mul_comm _ 2, Nat.two_mul, Nat.pow_add, Nat.mul_mod (a ^ _), ← h.he]
theorem Pow.odd {a n m j r : Nat} (h : Pow a n m (j + 1) r) (hb : n / 2 ^ j % 2 = 1) : Pow a n m j (r * r % m * a % m) := by
  have e : a ^ (n / 2 ^ j) = a ^ (n / 2 ^ (j + 1)) * a ^ (n / 2 ^ (j + 1)) * a := by
    rw [bit_step n j, hb, Nat.pow_succ, Nat.mul_comm _ 2, Nat.two_mul, Nat.pow_add]
  refine ⟨?_⟩
  rw [e, Nat.mul_mod (a ^ _ * a ^ _), Nat.mul_mod (a ^ _) (a ^ _), ← h.he, Nat.mul_mod_mod]
theorem Pow.done {a n m r : Nat} (h : Pow a n m 0 r) : r = a ^ n % m := by have := h.he; simpa using this
end Go.Proofs.Ytdjnhnfofajpcaa
