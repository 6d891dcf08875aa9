/- Plain facts on sums, differences, products, powers and inverses by m, as chapter 04's laws say them. No program in sight. -/
import Derived.Test.YtdjnhnfofajpcaaFi
namespace Go.Proofs.Ytdjnhnfofajpcaa
open Go Go.Proofs Av

theorem top_le {m : Nat} (h : decide ((if m < 1 then (-1 : Int) else if m = 1 then 0 else 1) ≤ 0) = false) : 1 < m := by
  have h := of_decide_eq_false h
  by_cases h1 : m < 1
  · rw [if_pos h1] at h; exact (h (by decide)).elim
  · rw [if_neg h1] at h
    by_cases h2 : m = 1
    · rw [if_pos h2] at h; exact (h (by decide)).elim
    · omega
theorem nb {p : Prop} [Decidable p] (h : p) : (!(decide p)) = false := by rw [decide_eq_true h]; rfl
theorem remN_eq {a m : Nat} (hm : 1 < m) : remN a m = a % m := if_neg (by omega)
theorem remN_lt {a m : Nat} (hm : 1 < m) : remN a m < m := by rw [remN_eq hm]; exact Nat.mod_lt _ (by omega)
theorem errM_in {a b m : Nat} (hm : 1 < m) (ha : a < m) (hb : b < m) : errM a b m = 0 := if_pos ⟨hm, ha, hb⟩
theorem addM_in {a b m : Nat} (hm : 1 < m) (ha : a < m) (hb : b < m) : addM a b m = (a + b) % m := if_pos ⟨hm, ha, hb⟩
theorem subM_in {a b m : Nat} (hm : 1 < m) (ha : a < m) (hb : b < m) : subM a b m = (a + (m - b)) % m := if_pos ⟨hm, ha, hb⟩
theorem mulM_in {a b m : Nat} (hm : 1 < m) (ha : a < m) (hb : b < m) : mulM a b m = a * b % m := if_pos ⟨hm, ha, hb⟩
theorem expM_in {a n m : Nat} (hm : 1 < m) (ha : a < m) : expM a n m = a ^ n % m := if_pos ⟨hm, ha, ha⟩
theorem invM_in {a m : Nat} (hm : 1 < m) (ha : a < m) : invM a m = invN a m := if_pos ⟨hm, ha, ha⟩
theorem if_lt {c : Prop} [Decidable c] {x m : Nat} (hm : 1 < m) : (if c then x % m else 0) < m := by
  split
  · exact Nat.mod_lt _ (by omega)
  · omega
theorem addM_lt {a b m : Nat} (hm : 1 < m) : addM a b m < m := if_lt hm
theorem subM_lt {a b m : Nat} (hm : 1 < m) : subM a b m < m := if_lt hm
theorem mulM_lt {a b m : Nat} (hm : 1 < m) : mulM a b m < m := if_lt hm
theorem expM_lt {a n m : Nat} (hm : 1 < m) : expM a n m < m := if_lt hm
theorem e_nb {a b m : Nat} (hm : 1 < m) (ha : a < m) (hb : b < m) : (!(decide (errM a b m = 0))) = false := nb (errM_in hm ha hb)
theorem e_ok {a b m : Nat} (hm : 1 < m) (ha : a < m) (hb : b < m) : decide (errM a b m = 0) = true := decide_eq_true (errM_in hm ha hb)

theorem addM_comm {a b m : Nat} (hm : 1 < m) (ha : a < m) (hb : b < m) : addM a b m = addM b a m := by
  rw [addM_in hm ha hb, addM_in hm hb ha, Nat.add_comm]
theorem addM_assoc {a b c m : Nat} (hm : 1 < m) (ha : a < m) (hb : b < m) (hc : c < m) : addM (addM a b m) c m = addM a (addM b c m) m := by
  rw [addM_in hm (addM_lt hm) hc, addM_in hm ha (addM_lt hm), addM_in hm ha hb, addM_in hm hb hc, Nat.mod_add_mod, Nat.add_mod_mod, Nat.add_assoc]
theorem sub_addM {a b m : Nat} (hm : 1 < m) (ha : a < m) (hb : b < m) : subM (addM a b m) b m = a := by
  rw [subM_in hm (addM_lt hm) hb, addM_in hm ha hb, Nat.mod_add_mod, show a + b + (m - b) = a + m by omega, Nat.add_mod_right, Nat.mod_eq_of_lt ha]
theorem add_subM {a b m : Nat} (hm : 1 < m) (ha : a < m) (hb : b < m) : addM (subM a b m) b m = a := by
  rw [addM_in hm (subM_lt hm) hb, subM_in hm ha hb, Nat.mod_add_mod, show a + (m - b) + b = a + m by omega, Nat.add_mod_right, Nat.mod_eq_of_lt ha]
theorem mulM_comm {a b m : Nat} (hm : 1 < m) (ha : a < m) (hb : b < m) : mulM a b m = mulM b a m := by
  rw [mulM_in hm ha hb, mulM_in hm hb ha, Nat.mul_comm]
theorem mulM_assoc {a b c m : Nat} (hm : 1 < m) (ha : a < m) (hb : b < m) (hc : c < m) : mulM (mulM a b m) c m = mulM a (mulM b c m) m := by
  rw [mulM_in hm (mulM_lt hm) hc, mulM_in hm ha (mulM_lt hm), mulM_in hm ha hb, mulM_in hm hb hc, Nat.mod_mul_mod, Nat.mul_mod_mod, Nat.mul_assoc]
theorem mulM_add {a b c m : Nat} (hm : 1 < m) (ha : a < m) (hb : b < m) (hc : c < m) : mulM a (addM b c m) m = addM (mulM a b m) (mulM a c m) m := by
  rw [mulM_in hm ha (addM_lt hm), addM_in hm (mulM_lt hm) (mulM_lt hm), addM_in hm hb hc, mulM_in hm ha hb, mulM_in hm ha hc, Nat.mul_mod_mod, Nat.mul_add, Nat.mod_add_mod, Nat.add_mod_mod]
theorem exp_add {a i k m : Nat} (hm : 1 < m) (ha : a < m) : mulM (expM a i m) (expM a k m) m = expM a (i + k) m := by
  rw [mulM_in hm (expM_lt hm) (expM_lt hm), expM_in hm ha, expM_in hm ha, expM_in hm ha, Nat.pow_add, ← Nat.mul_mod]
theorem exp_exp {a i k m : Nat} (hm : 1 < m) (ha : a < m) : expM (expM a i m) k m = expM a (i * k) m := by
  rw [expM_in hm (expM_lt hm), expM_in hm ha, expM_in hm ha, Nat.pow_mul, ← Nat.pow_mod]
theorem exp_mul {a b i m : Nat} (hm : 1 < m) (ha : a < m) (hb : b < m) : expM (mulM a b m) i m = mulM (expM a i m) (expM b i m) m := by
  rw [mulM_in hm (expM_lt hm) (expM_lt hm), expM_in hm (mulM_lt hm), mulM_in hm ha hb, expM_in hm ha, expM_in hm hb, ← Nat.pow_mod, Nat.mul_pow, Nat.mul_mod]
theorem exp_one {a m : Nat} (hm : 1 < m) (ha : a < m) : expM a 1 m = a := by rw [expM_in hm ha, Nat.pow_one, Nat.mod_eq_of_lt ha]
theorem exp_none {a m : Nat} (hm : 1 < m) (ha : a < m) : expM a 0 m = 1 := by rw [expM_in hm ha, Nat.pow_zero, Nat.mod_eq_of_lt hm]

theorem errI_zero {a m : Nat} (hm : 1 < m) (ha : a < m) : errI a m = 0 ↔ Nat.gcd a m = 1 := by
  unfold errI
  rw [if_pos ⟨hm, ha, ha⟩]
  by_cases h : invN a m = 0
  · rw [if_pos h]
    exact ⟨fun h1 => absurd h1 (by decide), fun h1 => absurd h1 ((inv_iff hm ha).1 h)⟩
  · rw [if_neg h]
    exact ⟨fun _ => Decidable.byContradiction fun h1 => h (invN_none h1), fun _ => rfl⟩
theorem errI_seven {a m : Nat} (hm : 1 < m) (ha : a < m) (h : Nat.gcd a m ≠ 1) : errI a m = 7 ∧ invM a m = 0 := by
  unfold errI
  rw [if_pos ⟨hm, ha, ha⟩, if_pos (invN_none h), invM_in hm ha]
  exact ⟨rfl, invN_none h⟩
theorem inv_mul {a m : Nat} (hm : 1 < m) (ha : a < m) (h : Nat.gcd a m = 1) : invM a m < m ∧ mulM a (invM a m) m = 1 := by
  obtain ⟨h1, h2, _⟩ := inv_there hm ha h
  rw [invM_in hm ha]
  exact ⟨h1, by rw [mulM_in hm ha h1, h2]⟩
theorem inv_is {a x m : Nat} (hm : 1 < m) (ha : a < m) (hx : x < m) (h : mulM a x m = 1) : Nat.gcd a m = 1 ∧ invM a m = x := by
  rw [mulM_in hm ha hx] at h
  have h1 : invN a m = x := invN_eq hx h
  refine ⟨Decidable.byContradiction fun hg => ?_, by rw [invM_in hm ha, h1]⟩
  have h2 := invN_none hg
  rw [h1] at h2
  subst h2
  rw [Nat.mul_zero, Nat.zero_mod] at h
  cases h
theorem inv_inv {a m : Nat} (hm : 1 < m) (ha : a < m) (h : Nat.gcd a m = 1) : Nat.gcd (invM a m) m = 1 ∧ invM (invM a m) m = a := by
  obtain ⟨h1, h2⟩ := inv_mul hm ha h
  exact inv_is hm h1 ha (by rw [mulM_comm hm h1 ha]; exact h2)
theorem gcd_mulM {a b m : Nat} (hm : 1 < m) (ha : a < m) (hb : b < m) : Nat.gcd (mulM a b m) m = 1 ↔ Nat.gcd a m = 1 ∧ Nat.gcd b m = 1 := by
  rw [mulM_in hm ha hb, ← Nat.gcd_rec, Nat.gcd_comm m]
  constructor
  · exact fun h => ⟨Nat.Coprime.coprime_mul_right h, Nat.Coprime.coprime_mul_left h⟩
  · exact fun h => Nat.Coprime.mul_left h.1 h.2
theorem inv_mulM {a b m : Nat} (hm : 1 < m) (ha : a < m) (hb : b < m) (h1 : Nat.gcd a m = 1) (h2 : Nat.gcd b m = 1) : mulM (invM a m) (invM b m) m = invM (mulM a b m) m := by
  obtain ⟨xl, hx⟩ := inv_mul hm ha h1
  obtain ⟨yl, hy⟩ := inv_mul hm hb h2
  refine (inv_is hm (mulM_lt hm) (mulM_lt hm) ?_).2.symm
  rw [mulM_assoc hm ha hb (mulM_lt hm), mulM_comm hm xl yl, ← mulM_assoc hm hb yl xl, hy, ← mulM_assoc hm ha hm xl, mulM_comm hm ha hm, mulM_assoc hm hm ha xl, hx, mulM_in hm hm hm, Nat.mod_eq_of_lt hm]

/-- The sentence of the Chinese. -/
theorem two_sub {u a n : Nat} (hn : 0 < n) : ((u + a) % n + (n - a % n)) % n = u % n := by
  have h1 := Nat.div_add_mod a n
  have h2 : a % n < n := Nat.mod_lt _ hn
  rw [Nat.mod_add_mod, show u + a + (n - a % n) = u + n * (a / n + 1) by rw [Nat.mul_add]; omega, Nat.add_mul_mod_self_left]
theorem two_all {m n x : Nat} (hm : 1 < m) (hn : 1 < n) (hg : Nat.gcd m n = 1) (hx : x < m * n) :
    mulM (subM (remN x n) (remN (remN x m) n) n) (invM (remN m n) n) n < n ∧ errI (remN m n) n = 0 ∧ errM (remN x n) (remN (remN x m) n) n = 0 ∧ errM (subM (remN x n) (remN (remN x m) n) n) (invM (remN m n) n) n = 0 ∧
    m * mulM (subM (remN x n) (remN (remN x m) n) n) (invM (remN m n) n) n + remN x m = x := by
  have hg2 : Nat.gcd (remN m n) n = 1 := by rw [remN_eq hn, ← Nat.gcd_rec, Nat.gcd_comm]; exact hg
  obtain ⟨yl, hy⟩ := inv_mul hn (remN_lt (a := m) hn) hg2
  refine ⟨mulM_lt hn, (errI_zero hn (remN_lt hn)).2 hg2, errM_in hn (remN_lt hn) (remN_lt hn), errM_in hn (subM_lt hn) yl, ?_⟩
  have hq : x / m < n := by rw [Nat.div_lt_iff_lt_mul (by omega), Nat.mul_comm]; exact hx
  have e0 : m * (x / m) + x % m = x := Nat.div_add_mod x m
  rw [mulM_in hn (remN_lt hn) yl, remN_eq hn, Nat.mod_mul_mod] at hy
  have e1 : subM (remN x n) (remN (remN x m) n) n = m * (x / m) % n := by
    rw [subM_in hn (remN_lt hn) (remN_lt hn), remN_eq hn, remN_eq hn, remN_eq hm]
    have h := two_sub (u := m * (x / m)) (a := x % m) (n := n) (by omega)
    rw [e0] at h
    exact h
  rw [mulM_in hn (subM_lt hn) yl, e1, Nat.mod_mul_mod, Nat.mul_comm m (x / m), Nat.mul_assoc, Nat.mul_mod, remN_eq hn]
  rw [hy, Nat.mul_one, Nat.mod_mod, Nat.mod_eq_of_lt hq, remN_eq hm, e0]
end Go.Proofs.Ytdjnhnfofajpcaa
