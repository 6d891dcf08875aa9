/- scalars.Of: its closure, which adds into a variable of Of's own. -/
import Derived.WalkSmall
import Derived.Test.YtdjnhnfofajpcaaFg
namespace Go.Proofs.Ytdjnhnfofajpcaa
open Go Go.Proofs Av Go.RowKit

def eAmount : Entry := mk 110 [.z .i64] fun (n : Int) => (.tup2 (.nat .u64 n.natAbs) (.int .i64 (if n < 0 then 1 else 0)), True)
theorem amount_p (n : Int) (R : AV → Prop) (h : ((((decide (n < (0 : Int))) = Bool.true) → (R (AV.tup2 (PV.nat IntKind.u64 (((18446744073709551616 : Nat) - (Int.toNat (n % (18446744073709551616 : Int)))) % (18446744073709551616 : Nat))) (PV.lit IntKind.i64 (1 : Int))))) ∧ (((decide (n < (0 : Int))) = Bool.false) → (R (AV.tup2 (PV.nat IntKind.u64 (Int.toNat (n % (18446744073709551616 : Int)))) (PV.lit IntKind.i64 (0 : Int))))))) :
    awp [] [] [] [] 200 (Try.f110.body.getD .skip) (fnPost Try.f110.results.toList R) (begins [.pv (.int .i64 n)] Try.f110.ntmps) :=
  Eq.mp (by kernel_rfl) (ai (ai t2 (ai t2 tr)) (ai (ai t2 (ai t2 tr)) (ai (fun (hk1 : ((decide (n < (0 : Int))) = Bool.true)) => (ai (ai t2 (ai t2 (ai t2 (ai t2 (ai t2 tr))))) (h.1 hk1))) (fun (hk2 : ((decide (n < (0 : Int))) = Bool.false)) => (ai (ai t2 (ai t2 (ai t2 (ai t2 tr)))) (h.2 hk2))))))



def put4 (W : World) (b r : Nat) : World :=
  (((W.setCell ⟨b, 0, none⟩ (.int .u64 (dg r 0))).setCell ⟨b, 1, none⟩ (.int .u64 (dg r 1))).setCell ⟨b, 2, none⟩ (.int .u64 (dg r 2))).setCell ⟨b, 3, none⟩ (.int .u64 (dg r 3))
/-- The words of a group, q in its second place. -/
def grow (N q : Nat) : Array Value := #[.int .u64 (dg N 0), .int .u64 (dg N 1), .int .u64 (dg N 2), .int .u64 (dg N 3), .int .u64 (dg q 0), .int .u64 (dg q 1), .int .u64 (dg q 2), .int .u64 (dg q 3),
  .int .u64 (dg N 8), .int .u64 (dg N 9), .int .u64 (dg N 10), .int .u64 (dg N 11), .int .u64 (dg N 12), .int .u64 (dg N 13), .int .u64 (dg N 14), .int .u64 (dg N 15)]

set_option maxRecDepth 100000 in
set_option maxHeartbeats 2000000 in
theorem add_at (x y q N bx bg : Nat) (ex eg : TypeId) (hx : x < B ^ 4) (hy : y < B ^ 4) (hq : q < B ^ 4) (w : World)
    (dx : w.heap[bx]? = some (.cells #[.int .u64 (dg x 0), .int .u64 (dg x 1), .int .u64 (dg x 2), .int .u64 (dg x 3)] ex (0, 0))) (dr : w.heap[bg]? = some (.cells (grow N q) eg (0, 0))) :
    Calls PP 111 #[.agg #[.int .u64 (dg y 0), .int .u64 (dg y 1), .int .u64 (dg y 2), .int .u64 (dg y 3)], .pointer (some ⟨bx, 0, none⟩), .pointer (some ⟨bg, 0, none⟩)] w fun e w' =>
      e = .returned (.tuple #[]) ∧ ∃ W, Below w.heap.size w W ∧ w' = put4 W bx (if may x y q then (x + y) % q else 0) := by
  have hbx : bx < w.heap.size := (Array.getElem?_eq_some_iff.1 dx).1
  have hbg : bg < w.heap.size := (Array.getElem?_eq_some_iff.1 dr).1
  obtain ⟨r, hr⟩ : ∃ r, (if may x y q then (x + y) % q else 0) = r := ⟨_, rfl⟩
  obtain ⟨c, hc⟩ : ∃ c, errM x y q = c := ⟨_, rfl⟩
  have hadd := madd_calls x y q hx hy hq
  rw [hr, hc] at hadd
  rw [hr]
  have ax := alloc_old w (.cells #[.int .u64 (dg y 0), .int .u64 (dg y 1), .int .u64 (dg y 2), .int .u64 (dg y 3)] 24) bx hbx dx
  have ar := alloc_old w (.cells #[.int .u64 (dg y 0), .int .u64 (dg y 1), .int .u64 (dg y 2), .int .u64 (dg y 3)] 24) bg hbg dr
  have x0 := row_cell (i := 0) ax rfl
  have x1 := row_cell (i := 1) ax rfl
  have x2 := row_cell (i := 2) ax rfl
  have x3 := row_cell (i := 3) ax rfl
  have r0 := row_cell (i := 4) (v := .int .u64 (dg q 0)) ar rfl
  have r1 := row_cell (i := 5) (v := .int .u64 (dg q 1)) ar rfl
  have r2 := row_cell (i := 6) (v := .int .u64 (dg q 2)) ar rfl
  have r3 := row_cell (i := 7) (v := .int .u64 (dg q 3)) ar rfl
  go_enter Try.func111, Try.ntmps111
  go_wp2_with (go_at_call 61; refine (hadd _).mono ?_; rintro e W ⟨rfl, hBx⟩; have dW := (hBx.block bx (by simp <;> omega)).trans ax; have hBw : Below w.heap.size w W := (((Below.refl _ w).alloc (by simp <;> omega) _).trans (hBx.mono (by simp <;> omega))); have y0 := frozen_of_row W _ 0 _ _ dW; have y1 := frozen_of_row W _ 1 _ _ dW; have y2 := frozen_of_row W _ 2 _ _ dW; have y3 := frozen_of_row W _ 3 _ _ dW; have z0 := row_cell (i := 0) dW rfl; have z1 := row_cell (i := 1) dW rfl; have z2 := row_cell (i := 2) dW rfl; have z3 := row_cell (i := 3) dW rfl)
  go_end0
  exact ⟨rfl, W, hBw, rfl⟩

theorem add_to (x y q N bx bg : Nat) (ex eg : TypeId) (h1 : 1 < q) (hx : x < q) (hy : y < q) (hq : q < B ^ 4) (w : World)
    (dx : w.heap[bx]? = some (.cells #[.int .u64 (dg x 0), .int .u64 (dg x 1), .int .u64 (dg x 2), .int .u64 (dg x 3)] ex (0, 0))) (dr : w.heap[bg]? = some (.cells (grow N q) eg (0, 0))) (r : Nat) (hr : (x + y) % q = r) :
    Calls PP 111 #[.agg #[.int .u64 (dg y 0), .int .u64 (dg y 1), .int .u64 (dg y 2), .int .u64 (dg y 3)], .pointer (some ⟨bx, 0, none⟩), .pointer (some ⟨bg, 0, none⟩)] w fun e w' =>
      e = .returned (.tuple #[]) ∧ w'.heap[bx]? = some (.cells #[.int .u64 (dg r 0), .int .u64 (dg r 1), .int .u64 (dg r 2), .int .u64 (dg r 3)] ex (0, 0)) ∧ Below bx w w' := by
  have h := add_at x y q N bx bg ex eg (by omega) (by omega) hq w dx dr
  rw [if_pos ⟨h1, hx, hy⟩, hr] at h
  have hbx : bx < w.heap.size := (Array.getElem?_eq_some_iff.1 dx).1
  refine h.mono ?_
  rintro e w' ⟨rfl, W, hB, rfl⟩
  exact ⟨rfl, four_set ((hB.block bx hbx).trans dx) _ _ _ _, four_below (hB.mono (Nat.le_of_lt hbx)) (Nat.le_refl _) _ _ _ _⟩

theorem dbl {many j q v r : Nat} (hv : many / 2 ^ (j + 1) % q = v) (hr : (v + v) % q = r) : (many / 2 ^ j % 2 = 0 → many / 2 ^ j % q = r) ∧ (many / 2 ^ j % 2 = 1 → (r + 1) % q = many / 2 ^ j % q) := by
  subst hv hr
  constructor
  · intro h
    rw [bit_step many j, h, Nat.add_zero, Nat.mul_two, Nat.add_mod]
  · intro h
    rw [bit_step many j, h, Nat.mul_two, ← Nat.add_mod, Nat.mod_add_mod]
theorem bit_one {many j : Nat} (h : many < B) : bits BinOp.and IntKind.u64 ((many : Int) / 2 ^ j) 1 = ((many / 2 ^ j % 2 : Nat) : Int) := by
  have h1 : many / 2 ^ j ≤ many := Nat.div_le_self _ _
  have e : (many : Int) / 2 ^ j = ((many / 2 ^ j : Nat) : Int) := by simp
  rw [e]
  clear e
  generalize many / 2 ^ j = c at *
  rw [and_one_u64 _ (by omega) (by simp only [B] at h; omega)]
  omega
theorem four_other {W : World} {b c : Nat} {o : Option Obj} (h : W.heap[c]? = o) (hn : c ≠ b) (x0 x1 x2 x3 : Value) :
    ((((W.setCell ⟨b, 0, none⟩ x0).setCell ⟨b, 1, none⟩ x1).setCell ⟨b, 2, none⟩ x2).setCell ⟨b, 3, none⟩ x3).heap[c]? = o := by
  rw [heap_setCell_other _ _ _ _ (by dsimp only; omega), heap_setCell_other _ _ _ _ (by dsimp only; omega), heap_setCell_other _ _ _ _ (by dsimp only; omega), heap_setCell_other _ _ _ _ (by dsimp only; omega)]
  exact h

theorem inR_i64 {n : Int} (h : inR .i64 n) : -9223372036854775808 ≤ n ∧ n < 9223372036854775808 := by
  unfold inR IntKind.wrap at h
  simp only [IntKind.signed, IntKind.bits] at h
  simp at h
  omega
theorem eAmount_ok : eAmount.OK := mk_ok Try.func110 (by kernel_rfl) (by kernel_rfl) .nil (by rw [Try.ntmps110]; decide) (by
  intro n hn _
  have := inR_i64 hn
  refine ⟨[], [], [], 200, amount_p n _ ⟨fun h => ?_, fun h => ?_⟩⟩
  · have h := of_decide_eq_true h
    exact rw_2 (rw_nat (by omega)) (rw_lit (if_pos h).symm)
  · have h := of_decide_eq_false h
    exact rw_2 (rw_nat (by omega)) (rw_lit (if_neg h).symm))
theorem amount_at (n : Int) (hn : inR .i64 n) (w : World) : Calls PP 110 #[.int .i64 n] w fun e w' => e = .returned (.tuple #[.int .u64 (n.natAbs : Int), .int .i64 (if n < 0 then 1 else 0)]) ∧ Below w.heap.size w w' := by
  refine (eAmount_ok.calls (args := [(.pv (.int .i64 n), .junk)]) rfl trivial Try.func110 (by kernel_rfl) (by kernel_rfl) (vs := [.int .i64 n]) (.cons ⟨rfl, hn⟩ .nil)).mono ?_
  rintro e w' ⟨v, rfl, ⟨_, _, rfl, ⟨rfl, _⟩, ⟨rfl, _⟩⟩, h2⟩
  exact ⟨rfl, h2⟩
theorem len64_at (a : Nat) (ha : a < B) (w : World) : Calls PP 85 #[.int .u64 (a : Int)] w fun e w' => e = .returned (.int .i64 (bitLen a : Int)) ∧ Below w.heap.size w w' := by
  refine (eLen64_ok.calls (args := [(.pv (.nat .u64 a), .junk)]) rfl trivial Try.func85 (by kernel_rfl) (by kernel_rfl) (vs := [.int .u64 (a : Int)]) (.cons (PV.natR rfl ha) .nil)).mono ?_
  rintro e w' ⟨v, rfl, ⟨rfl, _⟩, h2⟩
  exact ⟨rfl, h2⟩
theorem bits9_at (m : Nat) (hm : m < B ^ 4) (w : World) : Calls PP 40 #[.agg #[.int .u64 (dg m 0), .int .u64 (dg m 1), .int .u64 (dg m 2), .int .u64 (dg m 3)]] w fun e w' => e = .returned (.int .i64 (bitLen m : Int)) ∧ Below w.heap.size w w' := by
  rw [← cells_dg]
  refine (eBits_ok.calls (args := [(.pv (.words .u64 4 m), .junk)]) rfl trivial Try.func40 (by kernel_rfl) (by kernel_rfl) (vs := [.agg (cells .u64 4 m)]) (.cons ⟨rfl, WF4 hm⟩ .nil)).mono ?_
  rintro e w' ⟨v, rfl, ⟨rfl, _⟩, h2⟩
  exact ⟨rfl, h2⟩

set_option maxRecDepth 100000 in
set_option maxHeartbeats 2000000 in
theorem sof_small (N q : Nat) (n : Int) (hq : q < B ^ 4) (h1 : q < 2) (w : World) :
    Calls PP 78 #[.agg (grow N q), .int .i64 n] w fun e w' => e = .returned (.agg #[.int .u64 0, .int .u64 0, .int .u64 0, .int .u64 0]) ∧ Below w.heap.size w w' := by
  obtain ⟨bl, hbl, hle⟩ : ∃ bl : Int, (bitLen q : Int) = bl ∧ bl < 2 := ⟨_, rfl, by have := bitLen_le 1 q (by omega); omega⟩
  have hbits := bits9_at q hq
  rw [hbl] at hbits
  unfold grow
  go_enter Try.func78, Try.ntmps78
  go_wp2_with (go_at_call 40; refine (hbits _).mono ?_; rintro e W ⟨rfl, hBx⟩; have dz : W.heap[w.heap.size + 1]? = some (.cells #[.int .u64 0, .int .u64 0, .int .u64 0, .int .u64 0] 24 (0, 0)) := ((hBx.block (w.heap.size + 1) (by simp <;> omega)).trans (alloc_new _ _ _ (by simp))); have hBw : Below w.heap.size w W := ((((Below.refl _ w).alloc (by simp <;> omega) _).alloc (by simp <;> omega) _).trans (hBx.mono (by simp <;> omega))); have z0 := row_cell (i := 0) dz rfl; have z1 := row_cell (i := 1) dz rfl; have z2 := row_cell (i := 2) dz rfl; have z3 := row_cell (i := 3) dz rfl; have y0 := frozen_of_row W _ 0 _ _ dz; have y1 := frozen_of_row W _ 1 _ _ dz; have y2 := frozen_of_row W _ 2 _ _ dz; have y3 := frozen_of_row W _ 3 _ _ dz)
  have d8 := four_set dz (.int .u64 0) (.int .u64 0) (.int .u64 0) (.int .u64 0)
  have q0 := row_cell (i := 0) d8 rfl
  have q1 := row_cell (i := 1) d8 rfl
  have q2 := row_cell (i := 2) d8 rfl
  have q3 := row_cell (i := 3) d8 rfl
  refine bodyPost_ret (v := .agg #[.int .u64 0, .int .u64 0, .int .u64 0, .int .u64 0]) ?_ rfl ⟨rfl, four_below hBw (by omega) _ _ _ _⟩
  simp [results, go_sem, q0, q1, q2, q3]

set_option maxRecDepth 100000 in
set_option maxHeartbeats 2000000 in
theorem sof_great (N q : Nat) (n : Int) (hn : inR .i64 n) (hq : q < B ^ 4) (h1 : 1 < q) (r0 : Nat) (hr0 : (if n < 0 then (q - n.natAbs % q) % q else n.natAbs % q) = r0) (w : World) :
    Calls PP 78 #[.agg (grow N q), .int .i64 n] w fun e w' => e = .returned (.agg #[.int .u64 (dg r0 0), .int .u64 (dg r0 1), .int .u64 (dg r0 2), .int .u64 (dg r0 3)]) ∧ Below w.heap.size w w' := by
  obtain ⟨bl, hbl, hle⟩ : ∃ bl : Int, (bitLen q : Int) = bl ∧ 2 ≤ bl := ⟨_, rfl, by
    have := (bitLen_spec q).1
    by_cases h : bitLen q < 2
    · have : q < 2 ^ 1 := Nat.lt_of_lt_of_le (bitLen_spec q).1 (Nat.pow_le_pow_right (by decide) (by omega))
      omega
    · omega⟩
  have hbits := bits9_at q hq
  rw [hbl] at hbits
  have hnn := inR_i64 hn
  obtain ⟨many, hmany, hm64⟩ : ∃ many : Nat, n.natAbs = many ∧ many < B := ⟨_, rfl, by simp only [B]; omega⟩
  obtain ⟨sg, hsg⟩ : ∃ sg : Int, (if n < 0 then (1 : Int) else 0) = sg := ⟨_, rfl⟩
  have ham := amount_at n hn
  rw [hmany, hsg] at ham
  rw [hmany] at hr0
  obtain ⟨L, hL, hL64⟩ : ∃ L : Nat, bitLen many = L ∧ L ≤ 64 := ⟨_, rfl, bitLen_le 64 many hm64⟩
  have hlen := len64_at many hm64
  rw [hL] at hlen
  unfold grow
  go_enter Try.func78, Try.ntmps78
  go_wp2_with (first | (go_at_call 40; refine (hbits _).mono ?_; rintro e W ⟨rfl, hBx⟩; have dr : W.heap[w.heap.size]? = some (.cells (grow N q) 42 (0, 0)) := ((hBx.block (w.heap.size) (by simp <;> omega)).trans (alloc_old _ _ _ (by simp <;> omega) (alloc_new _ _ _ (by simp)))); have dz : W.heap[w.heap.size + 1]? = some (.cells #[.int .u64 0, .int .u64 0, .int .u64 0, .int .u64 0] 24 (0, 0)) := ((hBx.block (w.heap.size + 1) (by simp <;> omega)).trans (alloc_new _ _ _ (by simp))); have hBw : Below w.heap.size w W := ((((Below.refl _ w).alloc (by simp <;> omega) _).alloc (by simp <;> omega) _).trans (hBx.mono (by simp <;> omega)))) | (go_at_call 110; refine (ham _).mono ?_; rintro e W1 ⟨rfl, hB1⟩; have dr1 := (hB1.block _ (Array.getElem?_eq_some_iff.1 dr).1).trans dr; have dz1 := (hB1.block _ (Array.getElem?_eq_some_iff.1 dz).1).trans dz; have hBw1 := hBw.trans (hB1.mono hBw.size)) | (go_at_call 36; refine (of_nil _).mono ?_; rintro e W2 ⟨rfl, hB2⟩; have dr2 := (hB2.block _ (Array.getElem?_eq_some_iff.1 dr1).1).trans dr1; have dz2 := (hB2.block _ (Array.getElem?_eq_some_iff.1 dz1).1).trans dz1; have hBw2 := hBw1.trans (hB2.mono hBw1.size)) | (go_at_call 85; refine (hlen _).mono ?_; rintro e W3 ⟨rfl, hB3⟩))
  obtain ⟨bx, hbx⟩ : ∃ bx, W2.heap.size = bx := ⟨_, rfl⟩
  have hbw : w.heap.size + 1 < bx := by rw [← hbx]; exact (Array.getElem?_eq_some_iff.1 dz2).1
  have dx3 : W3.heap[bx]? = some (.cells #[.int .u64 (dg 0 0), .int .u64 (dg 0 1), .int .u64 (dg 0 2), .int .u64 (dg 0 3)] 24 (0, 0)) := (hB3.block _ (by simp <;> omega)).trans (alloc_new _ _ _ hbx.symm)
  have dr3 : W3.heap[w.heap.size]? = some (.cells (grow N q) 42 (0, 0)) := (hB3.block _ (by simp <;> omega)).trans (alloc_old _ _ _ (by omega) dr2)
  have dz3 : W3.heap[w.heap.size + 1]? = some (.cells #[.int .u64 0, .int .u64 0, .int .u64 0, .int .u64 0] 24 (0, 0)) := (hB3.block _ (by simp <;> omega)).trans (alloc_old _ _ _ (by omega) dz2)
  have hBw3 : Below w.heap.size w W3 := (hBw2.alloc hBw2.size _).trans (hB3.mono (by simp; have := hBw2.size; omega))
  rw [hbx]
  generalize hN0 : w.heap.size = n0 at *
  go_loopw [24] (fun i wr => ∃ k : Nat, k ≤ L ∧ i = .int .i64 (k : Int) ∧ wr.heap[bx]? = some (.cells #[.int .u64 (dg (many / 2 ^ (L - k) % q) 0), .int .u64 (dg (many / 2 ^ (L - k) % q) 1), .int .u64 (dg (many / 2 ^ (L - k) % q) 2), .int .u64 (dg (many / 2 ^ (L - k) % q) 3)] 24 (0, 0)) ∧ Below bx W3 wr)
    (fun i _ => ((L : Int) - intOf i).toNat)
  case atStart =>
    refine ⟨0, Nat.zero_le _, rfl, ?_, Below.refl _ _⟩
    rw [Nat.sub_zero, Nat.div_eq_of_lt (by rw [← hL]; exact (bitLen_spec many).1), Nat.zero_mod]; exact dx3
  case round =>
    obtain ⟨k, hk, rfl, dx, hBr⟩ := hrel
    have dr := (hBr.block n0 (by omega)).trans dr3
    have dz := (hBr.block (n0 + 1) (by omega)).trans dz3
    by_cases hlt : k < L
    · obtain ⟨j, hj⟩ : ∃ j, L - k = j + 1 := ⟨L - k - 1, by omega⟩
      have hlt' : (k : Int) < (L : Int) := by omega
      obtain ⟨v, hv, hvq⟩ : ∃ v, many / 2 ^ (L - k) % q = v ∧ v < q := ⟨_, rfl, Nat.mod_lt _ (by omega)⟩
      rw [hv] at dx
      have x0 := row_cell (i := 0) dx rfl
      have x1 := row_cell (i := 1) dx rfl
      have x2 := row_cell (i := 2) dx rfl
      have x3 := row_cell (i := 3) dx rfl
      obtain ⟨r, hr⟩ : ∃ r, (v + v) % q = r := ⟨_, rfl⟩
      have hrq : r < q := by rw [← hr]; exact Nat.mod_lt _ (by omega)
      have hadd := add_to v v q N bx n0 24 42 h1 hvq hvq hq wr dx dr r hr
      go_wp2
      refine hadd.mono ?_
      rintro e W4 ⟨rfl, dx4, hB4⟩
      go_wp2_with (go_at_call 85; refine (hlen _).mono ?_; rintro e W5 ⟨rfl, hB5⟩; have dx5 := (hB5.block _ (Array.getElem?_eq_some_iff.1 dx4).1).trans dx4; have hBr5 := (hBr.trans hB4).trans (hB5.mono (Nat.le_of_lt (Array.getElem?_eq_some_iff.1 dx4).1)))
      all_goals rw [hj] at hv
      · have hbit := ‹(bits BinOp.and IntKind.u64 ((many : Int) / 2 ^ (L - 1 - k)) 1 == 1) = true›
        rw [show L - 1 - k = j by omega, bit_one hm64] at hbit
        have hbit : many / 2 ^ j % 2 = 1 := by have := eq_of_beq hbit; omega
        refine (of_one _).mono ?_
        rintro e W6 ⟨rfl, hB6⟩
        have dx6 := (hB6.block _ (Array.getElem?_eq_some_iff.1 dx5).1).trans dx5
        have hBr6 := hBr5.trans (hB6.mono (Nat.le_of_lt (Array.getElem?_eq_some_iff.1 dx5).1))
        have dr6 := (hBr6.block n0 (by omega)).trans dr3
        have hadd1 := add_to r 1 q N bx n0 24 42 h1 hrq h1 hq W6 dx6 dr6 _ ((dbl hv hr).2 hbit)
        go_wp2
        refine hadd1.mono ?_
        rintro e W7 ⟨rfl, dx7, hB7⟩
        go_wp2
        refine ⟨⟨k + 1, by omega, by simp, ?_, hBr6.trans hB7⟩, by simp [intOf]; omega⟩
        rw [show L - (k + 1) = j by omega]
        exact dx7
      · have hbit := ‹(bits BinOp.and IntKind.u64 ((many : Int) / 2 ^ (L - 1 - k)) 1 == 1) = false›
        rw [show L - 1 - k = j by omega, bit_one hm64] at hbit
        have hbit : many / 2 ^ j % 2 = 0 := by have := ne_of_beq_false hbit; omega
        refine ⟨⟨k + 1, by omega, by simp, ?_, hBr5⟩, by simp [intOf]; omega⟩
        rw [show L - (k + 1) = j by omega, (dbl hv hr).1 hbit]
        exact dx5
    · obtain rfl : k = L := by omega
      rw [Nat.sub_self, Nat.pow_zero, Nat.div_one] at dx
      obtain ⟨v, hv, hvq⟩ : ∃ v, many % q = v ∧ v < q := ⟨_, rfl, Nat.mod_lt _ (by omega)⟩
      rw [hv] at dx
      have x0 := row_cell (i := 0) dx rfl
      have x1 := row_cell (i := 1) dx rfl
      have x2 := row_cell (i := 2) dx rfl
      have x3 := row_cell (i := 3) dx rfl
      have hBr' := hBw3.trans (hBr.mono (by omega))
      by_cases hneg : n < 0
      · rw [if_pos hneg] at hsg
        subst hsg
        rw [if_pos hneg, hv] at hr0
        have hs : (0 + (q - v)) % q = r0 := by rw [Nat.zero_add]; exact hr0
        obtain ⟨c, hc⟩ : ∃ c, errM 0 v q = c := ⟨_, rfl⟩
        have hsub := msub_calls 0 v q (by decide) (by omega) hq
        rw [if_pos ⟨h1, by omega, hvq⟩, hs, hc] at hsub
        have hB0 : Below wr.heap.size wr wr := Below.refl _ _
        have hBd : Below wr.heap.size wr wr.drew := (Below.refl _ _).drew
        clear x0 x1 x2 x3
        have dxk0 := keep_cell (i := 0) dx rfl
        have dxk1 := keep_cell (i := 1) dx rfl
        have dxk2 := keep_cell (i := 2) dx rfl
        have dxk3 := keep_cell (i := 3) dx rfl
        have drk0 := keep_cell (i := 4) (v := .int .u64 (dg q 0)) dr rfl
        have drk1 := keep_cell (i := 5) (v := .int .u64 (dg q 1)) dr rfl
        have drk2 := keep_cell (i := 6) (v := .int .u64 (dg q 2)) dr rfl
        have drk3 := keep_cell (i := 7) (v := .int .u64 (dg q 3)) dr rfl
        have xf0 := keep_free 0 dx
        have xf1 := keep_free 1 dx
        have xf2 := keep_free 2 dx
        have xf3 := keep_free 3 dx
        have hge : n0 ≤ wr.heap.size := by have := hBr'.size; omega
        have hzz : ∀ W, Below wr.heap.size wr W → ((((W.setCell ⟨bx, 0, none⟩ (.int .u64 (dg r0 0))).setCell ⟨bx, 1, none⟩ (.int .u64 (dg r0 1))).setCell ⟨bx, 2, none⟩ (.int .u64 (dg r0 2))).setCell ⟨bx, 3, none⟩ (.int .u64 (dg r0 3))).heap[n0 + 1]? = some (.cells #[.int .u64 0, .int .u64 0, .int .u64 0, .int .u64 0] 24 (0, 0)) := fun W hW => four_other ((hW.block _ (Array.getElem?_eq_some_iff.1 dz).1).trans dz) (by omega) _ _ _ _
        have q0 := keep_set dx (.int .u64 (dg r0 0)) (.int .u64 (dg r0 1)) (.int .u64 (dg r0 2)) (.int .u64 (dg r0 3)) (i := 0) rfl
        have q1 := keep_set dx (.int .u64 (dg r0 0)) (.int .u64 (dg r0 1)) (.int .u64 (dg r0 2)) (.int .u64 (dg r0 3)) (i := 1) rfl
        have q2 := keep_set dx (.int .u64 (dg r0 0)) (.int .u64 (dg r0 1)) (.int .u64 (dg r0 2)) (.int .u64 (dg r0 3)) (i := 2) rfl
        have q3 := keep_set dx (.int .u64 (dg r0 0)) (.int .u64 (dg r0 1)) (.int .u64 (dg r0 2)) (.int .u64 (dg r0 3)) (i := 3) rfl
        have zc0 := fun W hW => row_cell (i := 0) (hzz W hW) rfl
        have zg0 := fun W hW => frozen_of_row _ _ 0 _ _ (hzz W hW)
        have zc1 := fun W hW => row_cell (i := 1) (hzz W hW) rfl
        have zg1 := fun W hW => frozen_of_row _ _ 1 _ _ (hzz W hW)
        have zc2 := fun W hW => row_cell (i := 2) (hzz W hW) rfl
        have zg2 := fun W hW => frozen_of_row _ _ 2 _ _ (hzz W hW)
        have zc3 := fun W hW => row_cell (i := 3) (hzz W hW) rfl
        have zg3 := fun W hW => frozen_of_row _ _ 3 _ _ (hzz W hW)
        have zs0 := fun W hW => row_cell (i := 0) (four_set (hzz W hW) (.int .u64 (dg r0 0)) (.int .u64 (dg r0 1)) (.int .u64 (dg r0 2)) (.int .u64 (dg r0 3))) rfl
        have zs1 := fun W hW => row_cell (i := 1) (four_set (hzz W hW) (.int .u64 (dg r0 0)) (.int .u64 (dg r0 1)) (.int .u64 (dg r0 2)) (.int .u64 (dg r0 3))) rfl
        have zs2 := fun W hW => row_cell (i := 2) (four_set (hzz W hW) (.int .u64 (dg r0 0)) (.int .u64 (dg r0 1)) (.int .u64 (dg r0 2)) (.int .u64 (dg r0 3))) rfl
        have zs3 := fun W hW => row_cell (i := 3) (four_set (hzz W hW) (.int .u64 (dg r0 0)) (.int .u64 (dg r0 1)) (.int .u64 (dg r0 2)) (.int .u64 (dg r0 3))) rfl
        go_wp2
        go_region_with (first | (go_at_call 36; refine (of_nil _).mono ?_; rintro e W2 ⟨rfl, hBx2⟩; have hBy := below_next (W0 := wr) (by assumption) hBx2) | (go_at_call 62; refine (hsub _).mono ?_; rintro e W3 ⟨rfl, hBx3⟩; have hBz := below_next (W0 := wr) (by assumption) hBx3))
        all_goals
          clear hzz
          go_wp2
          refine bodyPost_ret (v := .agg #[.int .u64 (dg r0 0), .int .u64 (dg r0 1), .int .u64 (dg r0 2), .int .u64 (dg r0 3)]) ?_ rfl ⟨rfl, by rw [hN0]; exact four_below (four_below (hBr'.trans ((by assumption : Below wr.heap.size wr _).mono hge)) (by omega) _ _ _ _) (by omega) _ _ _ _⟩
          simp [results, go_sem, *]
      · rw [if_neg hneg] at hsg
        subst hsg
        rw [if_neg hneg, hv] at hr0
        subst hr0
        have z0 := row_cell (i := 0) dz rfl
        have z1 := row_cell (i := 1) dz rfl
        have z2 := row_cell (i := 2) dz rfl
        have z3 := row_cell (i := 3) dz rfl
        have y0 := frozen_of_row wr _ 0 _ _ dz
        have y1 := frozen_of_row wr _ 1 _ _ dz
        have y2 := frozen_of_row wr _ 2 _ _ dz
        have y3 := frozen_of_row wr _ 3 _ _ dz
        have d8 := four_set dz (.int .u64 (dg v 0)) (.int .u64 (dg v 1)) (.int .u64 (dg v 2)) (.int .u64 (dg v 3))
        have q0 := row_cell (i := 0) d8 rfl
        have q1 := row_cell (i := 1) d8 rfl
        have q2 := row_cell (i := 2) d8 rfl
        have q3 := row_cell (i := 3) d8 rfl
        go_wp2
        refine bodyPost_ret (v := .agg #[.int .u64 (dg v 0), .int .u64 (dg v 1), .int .u64 (dg v 2), .int .u64 (dg v 3)]) ?_ rfl ⟨rfl, four_below hBr' (by omega) _ _ _ _⟩
        simp [results, go_sem, q0, q1, q2, q3]
end Go.Proofs.Ytdjnhnfofajpcaa
