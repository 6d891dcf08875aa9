/- Plain facts: products of words, how many bits a number needs, its bits. No program in sight. -/
import Derived.Test.YtdjnhnfofajpcaaN1
import Derived.Test.YtdjnhnfofajpcaaAve
namespace Go.Proofs.Ytdjnhnfofajpcaa
open Go Av

theorem and32 (x : Nat) : x &&& 4294967295 = x % 4294967296 := Nat.and_two_pow_sub_one_eq_mod x 32

theorem mul64_math (a b : Nat) (ha : a < 18446744073709551616) (hb : b < 18446744073709551616) :
    (a / 4294967296 * (b / 4294967296) % 18446744073709551616 +
        (a / 4294967296 * (b % 4294967296) % 18446744073709551616 + a % 4294967296 * (b % 4294967296) % 18446744073709551616 / 4294967296) % 18446744073709551616 / 4294967296) % 18446744073709551616 +
      ((a / 4294967296 * (b % 4294967296) % 18446744073709551616 + a % 4294967296 * (b % 4294967296) % 18446744073709551616 / 4294967296) % 18446744073709551616 % 4294967296 +
        a % 4294967296 * (b / 4294967296) % 18446744073709551616) % 18446744073709551616 / 4294967296 = a * b / 18446744073709551616 ∧ a * b / 18446744073709551616 < 18446744073709551616 := by
  obtain ⟨a1, a0, h1, h2, h3, h4, h5⟩ : ∃ a1 a0, a / 4294967296 = a1 ∧ a % 4294967296 = a0 ∧ a1 ≤ 4294967295 ∧ a0 ≤ 4294967295 ∧ a = a1 * 4294967296 + a0 := ⟨_, _, rfl, rfl, by omega, by omega, by omega⟩
  obtain ⟨b1, b0, k1, k2, k3, k4, k5⟩ : ∃ b1 b0, b / 4294967296 = b1 ∧ b % 4294967296 = b0 ∧ b1 ≤ 4294967295 ∧ b0 ≤ 4294967295 ∧ b = b1 * 4294967296 + b0 := ⟨_, _, rfl, rfl, by omega, by omega, by omega⟩
  rw [h1, h2, k1, k2]
  have e : a * b = a1 * b1 * 18446744073709551616 + (a1 * b0 + a0 * b1) * 4294967296 + a0 * b0 := by rw [h5, k5]; grind
  rw [e]
  have m := fun (x y : Nat) (hx : x ≤ 4294967295) (hy : y ≤ 4294967295) => Nat.mul_le_mul hx hy
  have p1 := m a1 b1 h3 k3
  have p2 := m a1 b0 h3 k4
  have p3 := m a0 b1 h4 k3
  have p4 := m a0 b0 h4 k4
  generalize a1 * b1 = A at *
  generalize a1 * b0 = C at *
  generalize a0 * b1 = D at *
  generalize a0 * b0 = E at *
  clear h1 h2 h5 k1 k2 k5 e ha hb m
  constructor <;> omega

theorem mul_bound {a b : Nat} (ha : a < 18446744073709551616) (hb : b < 18446744073709551616) : a * b ≤ 340282366920938463426481119284349108225 := by
  have := Nat.mul_le_mul (show a ≤ 18446744073709551615 by omega) (show b ≤ 18446744073709551615 by omega)
  simpa using this

theorem times_math (p s m : Nat) (hp : p ≤ 340282366920938463426481119284349108225) (hs : s < 18446744073709551616) (hm : m < 18446744073709551616) :
    ((p % 18446744073709551616 + s) % 18446744073709551616 + m) % 18446744073709551616 = (p + s + m) % 18446744073709551616 ∧
    ((p / 18446744073709551616 + (p % 18446744073709551616 + s) / 18446744073709551616) % 18446744073709551616 + ((p % 18446744073709551616 + s) % 18446744073709551616 + m) / 18446744073709551616) % 18446744073709551616 = (p + s + m) / 18446744073709551616 ∧
    (p + s + m) / 18446744073709551616 < 18446744073709551616 := by
  refine ⟨?_, ?_, ?_⟩ <;> omega

theorem bitLen_le (k x : Nat) (h : x < 2 ^ k) : bitLen x ≤ k := by
  unfold bitLen
  split
  · omega
  · rename_i h0
    have := (Nat.log2_lt h0).2 h
    omega

theorem i64_ok {z : Int} (h1 : -9223372036854775808 ≤ z) (h2 : z ≤ 9223372036854775807) : IntKind.i64.wrap z = z := IntWalk.i64_in z ⟨h1, h2⟩

/-- A bit of a word of a number. -/
theorem bit_math (a i : Nat) : (a / 18446744073709551616 ^ (i / 64) % 18446744073709551616) / 2 ^ (i % 64) &&& 1 = a / 2 ^ i % 2 := by
  rw [Nat.and_one_is_mod]
  have e1 : (18446744073709551616 : Nat) ^ (i / 64) = 2 ^ (64 * (i / 64)) := by rw [Nat.pow_mul]
  rw [e1]
  have hr : i % 64 < 64 := Nat.mod_lt _ (by decide)
  have ei : 2 ^ i = 2 ^ (64 * (i / 64)) * 2 ^ (i % 64) := by rw [← Nat.pow_add]; congr 1; omega
  rw [ei, ← Nat.div_div_eq_div_mul]
  generalize a / 2 ^ (64 * (i / 64)) = x
  generalize i % 64 = r at hr
  have e2 : (18446744073709551616 : Nat) = 2 ^ r * 2 ^ (64 - r) := by rw [← Nat.pow_add, show r + (64 - r) = 64 by omega]
  rw [e2, Nat.mod_mul_right_div_self, Nat.mod_mod_of_dvd]
  obtain ⟨d, hd⟩ : ∃ d, 64 - r = d + 1 := ⟨63 - r, by omega⟩
  rw [hd, Nat.pow_succ]
  exact ⟨_, Nat.mul_comm _ _⟩

theorem len_step {a k : Nat} (m : Nat) (hm : m = 2 ^ k) (h : m ≤ a) : bitLen a = k + bitLen (a / m) := by
  subst hm
  refine bitLen_shift a k ?_
  have := (Nat.le_div_iff_mul_le (Nat.two_pow_pos k)).2 (show 1 * 2 ^ k ≤ a by omega)
  omega

/-- The end of the search for a word's length. -/
theorem len_fin {a x c : Nat} (z : Int) (hz : z = c) (hx : x < 256) (hc : c ≤ 56) (e : bitLen a = c + bitLen x) :
    (((0 : Int) ≤ (((x % 256 : Nat)) : Int) ∧ (((x % 256 : Nat) : Int) + 1) ≤ 256) ∧
      IntKind.wrap IntKind.i64 (z + ((bitLen (Int.toNat ((x % 256 : Nat) : Int)) : Nat) : Int)) = z + ((bitLen (Int.toNat ((x % 256 : Nat) : Int)) : Nat) : Int)) ∧
    retW (.pv (.int .i64 (z + ((bitLen (Int.toNat ((x % 256 : Nat) : Int)) : Nat) : Int)))) (.pv (.int .i64 (bitLen a))) := by
  rw [Nat.mod_eq_of_lt hx, Int.toNat_natCast]
  have := bitLen_le8 x hx
  refine ⟨⟨⟨by omega, by omega⟩, i64_ok (by omega) (by omega)⟩, rw_int (by omega)⟩

end Go.Proofs.Ytdjnhnfofajpcaa
