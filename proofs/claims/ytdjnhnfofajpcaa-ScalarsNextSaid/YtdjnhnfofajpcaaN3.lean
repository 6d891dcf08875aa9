/- Plain facts: products of numbers of four words, gathered word by word; shifts. No program in sight. -/
import Derived.Test.YtdjnhnfofajpcaaN2
namespace Go.Proofs.Ytdjnhnfofajpcaa
open Go Av

theorem B_pos : 0 < B := by decide
theorem Bp (k : Nat) : 0 < B ^ k := Nat.pow_pos B_pos

/-- Setting one word. -/
theorem setw_add (N o M : Nat) : setw N o 1 M + N / B ^ o % B * B ^ o = N + M * B ^ o := by
  have h1 : N / B ^ (o + 1) = N / B ^ o / B := by rw [Nat.pow_succ, Nat.div_div_eq_div_mul]
  have h2 := Nat.div_add_mod N (B ^ o)
  have h3 := Nat.div_add_mod (N / B ^ o) B
  unfold setw
  rw [h1, Nat.pow_one]
  generalize N / B ^ o = q at *
  generalize N % B ^ o = r at *
  generalize q / B = q' at *
  generalize q % B = r' at *
  generalize B ^ o = P at *
  rw [← h2, ← h3]
  generalize B = β
  grind

/-- What holds at the head of the inner loop of Mul: word i of a, words below k of b; N is what is gathered, m the carry. -/
structure MulIn (a b i k N m : Nat) : Prop where
  hi : i < 4
  hk : k ≤ 4
  hm : m < B
  hN : N < B ^ (i + 4)
  he : N + m * B ^ (i + k) = (a % B ^ i) * b + a / B ^ i % B * (b % B ^ k) * B ^ i

theorem MulIn.start {a b i : Nat} (hb : b < B ^ 4) (hi : i < 4) : MulIn a b i 0 (a % B ^ i * b) 0 := by
  refine ⟨hi, by omega, B_pos, ?_, by simp [Nat.mod_one]⟩
  rw [Nat.pow_add]
  have h1 : a % B ^ i < B ^ i := Nat.mod_lt _ (Bp i)
  exact Nat.mul_lt_mul_of_lt_of_le h1 (Nat.le_of_lt hb) (Bp 4)

theorem sum_lt {x y d m : Nat} (hx : x < B) (hy : y < B) (hd : d < B) (hm : m < B) : (x * y + d + m) / B < B := by
  have := mul_bound hx hy
  rw [Nat.div_lt_iff_lt_mul B_pos]
  simp only [B] at *
  omega

theorem MulIn.step {a b i k N m : Nat} (h : MulIn a b i k N m) (hk : k < 4) :
    MulIn a b i (k + 1) (setw N (i + k) 1 ((a / B ^ i % B * (b / B ^ k % B) + N / B ^ (i + k) % B + m) % B)) ((a / B ^ i % B * (b / B ^ k % B) + N / B ^ (i + k) % B + m) / B) := by
  obtain ⟨hi, _, hm, hN, he⟩ := h
  have lt := fun x : Nat => Nat.mod_lt x B_pos
  refine ⟨hi, by omega, sum_lt (lt _) (lt _) (lt _) hm, ?_, ?_⟩
  · refine setw_lt hN ?_ (by omega)
    rw [Nat.pow_one]; exact lt _
  · have e1 := setw_add N (i + k) ((a / B ^ i % B * (b / B ^ k % B) + N / B ^ (i + k) % B + m) % B)
    have e2 := Nat.div_add_mod (a / B ^ i % B * (b / B ^ k % B) + N / B ^ (i + k) % B + m) B
    have e3 : b % B ^ (k + 1) = b % B ^ k + B ^ k * (b / B ^ k % B) := Nat.mod_pow_succ
    have e4 : B ^ (i + (k + 1)) = B ^ i * B ^ k * B := by rw [← Nat.add_assoc, Nat.pow_succ, Nat.pow_add]
    rw [e3, e4]
    rw [Nat.pow_add] at he e1 e2 ⊢
    generalize setw N (i + k) 1 _ = N' at *
    generalize a / B ^ i % B = x at *
    generalize b / B ^ k % B = y at *
    generalize N / (B ^ i * B ^ k) % B = d at *
    generalize (x * y + d + m) / B = q at *
    generalize (x * y + d + m) % B = r at *
    generalize B ^ i = P at *
    generalize B ^ k = Q at *
    generalize b % Q = s at *
    generalize a % P = t at *
    generalize B = β at *
    clear lt e3 e4
    grind

theorem MulIn.done {a b i N m : Nat} (h : MulIn a b i 4 N m) (hb : b < B ^ 4) : setw N (i + 4) 1 m = a % B ^ (i + 1) * b := by
  rw [setw_snoc _ _ _ _ h.hN, h.he, Nat.mod_eq_of_lt hb]
  have e3 : a % B ^ (i + 1) = a % B ^ i + B ^ i * (a / B ^ i % B) := Nat.mod_pow_succ
  rw [e3]
  grind
theorem top_word {a p c : Nat} (hp : p = 2 ^ c) (h : a < 18446744073709551616 * p) :
    (0 < a / p % 18446744073709551616 → bitLen a = c + bitLen (a / p % 18446744073709551616)) ∧ (¬ 0 < a / p % 18446744073709551616 → a < p) := by
  have h0 : 0 < p := by rw [hp]; exact Nat.two_pow_pos c
  have h1 : a / p < 18446744073709551616 := (Nat.div_lt_iff_lt_mul h0).2 h
  rw [Nat.mod_eq_of_lt h1]
  refine ⟨fun h2 => ?_, fun h2 => ?_⟩
  · subst hp; exact bitLen_shift a c (by omega)
  · have h3 : a / p = 0 := Nat.eq_zero_of_not_pos h2
    rcases Nat.div_eq_zero_iff.1 h3 with h | h
    · omega
    · exact h

theorem bits_fin {a x c : Nat} (z : Int) (hz : z = c) (hx : x < 18446744073709551616) (hc : c ≤ 192) (e : bitLen a = c + bitLen x) :
    IntKind.wrap IntKind.i64 (z + ((bitLen x : Nat) : Int)) = z + ((bitLen x : Nat) : Int) ∧ retW (.pv (.int .i64 (z + ((bitLen x : Nat) : Int)))) (.pv (.int .i64 (bitLen a))) := by
  have := bitLen_le 64 x hx
  exact ⟨i64_ok (by omega) (by omega), rw_int (by omega)⟩
end Go.Proofs.Ytdjnhnfofajpcaa
