/- The functions Add, Sub, Mul of chapter 04. -/
import Derived.Test.YtdjnhnfofajpcaaK4
namespace Go.Proofs.Ytdjnhnfofajpcaa
open Go Go.Proofs Av Go.RowKit

/-- Numbers below m, which is above 1. -/
def may (a b m : Nat) : Prop := 1 < m ∧ a < m ∧ b < m
instance (a b m : Nat) : Decidable (may a b m) := by unfold may; infer_instance
def errM (a b m : Nat) : Int := if may a b m then 0 else 1
theorem dg_zero (i : Nat) : dg 0 i = 0 := by simp [dg]

theorem deed_calls (g : FuncId) (cap : Array Value) (a b m r : Nat) (ha : a < B ^ 4) (hb : b < B ^ 4) (hm : m < B ^ 4) (w : World)
    (hg : ∀ args w, (callFunc g args).run PP w = .ok (.enter g args) w)
    (hf : may a b m → ∀ w', Below w.heap.size w w' → Calls PP g (#[.agg #[.int .u64 (dg a 0), .int .u64 (dg a 1), .int .u64 (dg a 2), .int .u64 (dg a 3)], .agg #[.int .u64 (dg b 0), .int .u64 (dg b 1), .int .u64 (dg b 2), .int .u64 (dg b 3)], .agg #[.int .u64 (dg m 0), .int .u64 (dg m 1), .int .u64 (dg m 2), .int .u64 (dg m 3)]] ++ cap) w' fun e w'' => e = .returned (.agg #[.int .u64 (dg r 0), .int .u64 (dg r 1), .int .u64 (dg r 2), .int .u64 (dg r 3)]) ∧ Below w'.heap.size w' w'') :
    Calls PP 96 #[.agg #[.func (.func g) #[] cap], .agg #[.int .u64 (dg a 0), .int .u64 (dg a 1), .int .u64 (dg a 2), .int .u64 (dg a 3)], .agg #[.int .u64 (dg b 0), .int .u64 (dg b 1), .int .u64 (dg b 2), .int .u64 (dg b 3)], .agg #[.int .u64 (dg m 0), .int .u64 (dg m 1), .int .u64 (dg m 2), .int .u64 (dg m 3)]] w fun e w' =>
      e = .returned (.tuple #[.agg #[.int .u64 (dg (if may a b m then r else 0) 0), .int .u64 (dg (if may a b m then r else 0) 1), .int .u64 (dg (if may a b m then r else 0) 2), .int .u64 (dg (if may a b m then r else 0) 3)], .int .i64 (errM a b m)]) ∧ Below w.heap.size w w' := by
  unfold errM
  by_cases h : may a b m
  · rw [if_pos h, if_pos h]
    exact deed_ok g cap a b m r h.1 h.2.1 h.2.2 ha hb hm w hg (hf h)
  · rw [if_neg h, if_neg h]
    simp only [dg_zero]
    by_cases h1 : 1 < m
    · by_cases h2 : a < m
      · exact deed_bad3 _ a b m h1 h2 (Nat.le_of_not_lt fun h3 => h ⟨h1, h2, h3⟩) ha hb hm w
      · exact deed_bad2 _ a b m h1 (Nat.le_of_not_lt h2) ha hb hm w
    · exact deed_bad1 _ a b m (Nat.le_of_not_lt h1) ha hb hm w

theorem madd_at (a b m : Nat) (h1 : may a b m) (ha : a < B ^ 4) (hb : b < B ^ 4) (hm : m < B ^ 4) (w : World) : Calls PP 95 #[.agg #[.int .u64 (dg a 0), .int .u64 (dg a 1), .int .u64 (dg a 2), .int .u64 (dg a 3)], .agg #[.int .u64 (dg b 0), .int .u64 (dg b 1), .int .u64 (dg b 2), .int .u64 (dg b 3)], .agg #[.int .u64 (dg m 0), .int .u64 (dg m 1), .int .u64 (dg m 2), .int .u64 (dg m 3)]] w fun e w' => e = .returned (.agg #[.int .u64 (dg ((a + b) % m) 0), .int .u64 (dg ((a + b) % m) 1), .int .u64 (dg ((a + b) % m) 2), .int .u64 (dg ((a + b) % m) 3)]) ∧ Below w.heap.size w w' := by
  rw [← cells_dg, ← cells_dg, ← cells_dg, ← cells_dg]
  refine (eAddB_ok.calls (args := [(.pv (.words .u64 4 a), .junk), (.pv (.words .u64 4 b), .junk), (.pv (.words .u64 4 m), .junk)]) rfl (h1.2) Try.func95 (by kernel_rfl) (by kernel_rfl) (vs := [.agg (cells .u64 4 a), .agg (cells .u64 4 b), .agg (cells .u64 4 m)]) (.cons ⟨rfl, WF4 ha⟩ (.cons ⟨rfl, WF4 hb⟩ (.cons ⟨rfl, WF4 hm⟩ .nil)))).mono ?_
  rintro e w' ⟨v, rfl, ⟨rfl, _⟩, h2⟩
  exact ⟨rfl, h2⟩

set_option maxRecDepth 100000 in
set_option maxHeartbeats 2000000 in
theorem madd_calls (a b m : Nat) (ha : a < B ^ 4) (hb : b < B ^ 4) (hm : m < B ^ 4) (w : World) :
    Calls PP 61 #[.agg #[.int .u64 (dg a 0), .int .u64 (dg a 1), .int .u64 (dg a 2), .int .u64 (dg a 3)], .agg #[.int .u64 (dg b 0), .int .u64 (dg b 1), .int .u64 (dg b 2), .int .u64 (dg b 3)], .agg #[.int .u64 (dg m 0), .int .u64 (dg m 1), .int .u64 (dg m 2), .int .u64 (dg m 3)]] w fun e w' => e = .returned (.tuple #[.agg #[.int .u64 (dg (if may a b m then (a + b) % m else 0) 0), .int .u64 (dg (if may a b m then (a + b) % m else 0) 1), .int .u64 (dg (if may a b m then (a + b) % m else 0) 2), .int .u64 (dg (if may a b m then (a + b) % m else 0) 3)], .int .i64 (errM a b m)]) ∧ Below w.heap.size w w' := by
  go_enter Try.func61, Try.ntmps61
  obtain ⟨c, hc⟩ : ∃ c, errM a b m = c := ⟨_, rfl⟩
  obtain ⟨r, hr⟩ : ∃ r, (if may a b m then (a + b) % m else 0) = r := ⟨_, rfl⟩
  rw [hc, hr]
  go_wp2_with (go_at_call 96; refine (deed_calls 95 #[] a b m ((a + b) % m) ha hb hm _ (enters_of Try.func95 (by kernel_rfl) rfl) (fun h w' _ => madd_at a b m h ha hb hm w')).mono ?_; rw [hc, hr]; rintro e W ⟨rfl, hBx⟩; have d3 : W.heap[w.heap.size + 1 + 1 + 1]? = some (.cells #[.int .u64 0, .int .u64 0, .int .u64 0, .int .u64 0] 24 (0, 0)) := ((hBx.block (w.heap.size + 1 + 1 + 1) (by simp)).trans (alloc_new _ _ _ (by simp))); have z0 := row_cell (i := 0) d3 rfl; have z1 := row_cell (i := 1) d3 rfl; have z2 := row_cell (i := 2) d3 rfl; have z3 := row_cell (i := 3) d3 rfl; have y0 := frozen_of_row W _ 0 _ _ d3; have y1 := frozen_of_row W _ 1 _ _ d3; have y2 := frozen_of_row W _ 2 _ _ d3; have y3 := frozen_of_row W _ 3 _ _ d3)
  have hBw : Below w.heap.size w W := (((((Below.refl _ w).alloc (by simp <;> omega) _).alloc (by simp <;> omega) _).alloc (by simp <;> omega) _).alloc (by simp <;> omega) _).trans (hBx.mono (by simp <;> omega))
  have d8 := four_set d3 (.int .u64 (dg r 0)) (.int .u64 (dg r 1)) (.int .u64 (dg r 2)) (.int .u64 (dg r 3))
  have q0 := row_cell (i := 0) d8 rfl
  have q1 := row_cell (i := 1) d8 rfl
  have q2 := row_cell (i := 2) d8 rfl
  have q3 := row_cell (i := 3) d8 rfl
  refine bodyPost_ret (v := .tuple #[.agg #[.int .u64 (dg r 0), .int .u64 (dg r 1), .int .u64 (dg r 2), .int .u64 (dg r 3)], .int .i64 c]) ?_ rfl ⟨rfl, four_below hBw (by omega) _ _ _ _⟩
  simp [results, go_sem, q0, q1, q2, q3]

theorem msub_at (a b m : Nat) (h1 : may a b m) (ha : a < B ^ 4) (hb : b < B ^ 4) (hm : m < B ^ 4) (w : World) : Calls PP 97 #[.agg #[.int .u64 (dg a 0), .int .u64 (dg a 1), .int .u64 (dg a 2), .int .u64 (dg a 3)], .agg #[.int .u64 (dg b 0), .int .u64 (dg b 1), .int .u64 (dg b 2), .int .u64 (dg b 3)], .agg #[.int .u64 (dg m 0), .int .u64 (dg m 1), .int .u64 (dg m 2), .int .u64 (dg m 3)]] w fun e w' => e = .returned (.agg #[.int .u64 (dg ((a + (m - b)) % m) 0), .int .u64 (dg ((a + (m - b)) % m) 1), .int .u64 (dg ((a + (m - b)) % m) 2), .int .u64 (dg ((a + (m - b)) % m) 3)]) ∧ Below w.heap.size w w' := by
  rw [← cells_dg, ← cells_dg, ← cells_dg, ← cells_dg]
  refine (eSubB_ok.calls (args := [(.pv (.words .u64 4 a), .junk), (.pv (.words .u64 4 b), .junk), (.pv (.words .u64 4 m), .junk)]) rfl (h1.2) Try.func97 (by kernel_rfl) (by kernel_rfl) (vs := [.agg (cells .u64 4 a), .agg (cells .u64 4 b), .agg (cells .u64 4 m)]) (.cons ⟨rfl, WF4 ha⟩ (.cons ⟨rfl, WF4 hb⟩ (.cons ⟨rfl, WF4 hm⟩ .nil)))).mono ?_
  rintro e w' ⟨v, rfl, ⟨rfl, _⟩, h2⟩
  exact ⟨rfl, h2⟩

set_option maxRecDepth 100000 in
set_option maxHeartbeats 2000000 in
theorem msub_calls (a b m : Nat) (ha : a < B ^ 4) (hb : b < B ^ 4) (hm : m < B ^ 4) (w : World) :
    Calls PP 62 #[.agg #[.int .u64 (dg a 0), .int .u64 (dg a 1), .int .u64 (dg a 2), .int .u64 (dg a 3)], .agg #[.int .u64 (dg b 0), .int .u64 (dg b 1), .int .u64 (dg b 2), .int .u64 (dg b 3)], .agg #[.int .u64 (dg m 0), .int .u64 (dg m 1), .int .u64 (dg m 2), .int .u64 (dg m 3)]] w fun e w' => e = .returned (.tuple #[.agg #[.int .u64 (dg (if may a b m then (a + (m - b)) % m else 0) 0), .int .u64 (dg (if may a b m then (a + (m - b)) % m else 0) 1), .int .u64 (dg (if may a b m then (a + (m - b)) % m else 0) 2), .int .u64 (dg (if may a b m then (a + (m - b)) % m else 0) 3)], .int .i64 (errM a b m)]) ∧ Below w.heap.size w w' := by
  go_enter Try.func62, Try.ntmps62
  obtain ⟨c, hc⟩ : ∃ c, errM a b m = c := ⟨_, rfl⟩
  obtain ⟨r, hr⟩ : ∃ r, (if may a b m then (a + (m - b)) % m else 0) = r := ⟨_, rfl⟩
  rw [hc, hr]
  go_wp2_with (go_at_call 96; refine (deed_calls 97 #[] a b m ((a + (m - b)) % m) ha hb hm _ (enters_of Try.func97 (by kernel_rfl) rfl) (fun h w' _ => msub_at a b m h ha hb hm w')).mono ?_; rw [hc, hr]; rintro e W ⟨rfl, hBx⟩; have d3 : W.heap[w.heap.size + 1 + 1 + 1]? = some (.cells #[.int .u64 0, .int .u64 0, .int .u64 0, .int .u64 0] 24 (0, 0)) := ((hBx.block (w.heap.size + 1 + 1 + 1) (by simp)).trans (alloc_new _ _ _ (by simp))); have z0 := row_cell (i := 0) d3 rfl; have z1 := row_cell (i := 1) d3 rfl; have z2 := row_cell (i := 2) d3 rfl; have z3 := row_cell (i := 3) d3 rfl; have y0 := frozen_of_row W _ 0 _ _ d3; have y1 := frozen_of_row W _ 1 _ _ d3; have y2 := frozen_of_row W _ 2 _ _ d3; have y3 := frozen_of_row W _ 3 _ _ d3)
  have hBw : Below w.heap.size w W := (((((Below.refl _ w).alloc (by simp <;> omega) _).alloc (by simp <;> omega) _).alloc (by simp <;> omega) _).alloc (by simp <;> omega) _).trans (hBx.mono (by simp <;> omega))
  have d8 := four_set d3 (.int .u64 (dg r 0)) (.int .u64 (dg r 1)) (.int .u64 (dg r 2)) (.int .u64 (dg r 3))
  have q0 := row_cell (i := 0) d8 rfl
  have q1 := row_cell (i := 1) d8 rfl
  have q2 := row_cell (i := 2) d8 rfl
  have q3 := row_cell (i := 3) d8 rfl
  refine bodyPost_ret (v := .tuple #[.agg #[.int .u64 (dg r 0), .int .u64 (dg r 1), .int .u64 (dg r 2), .int .u64 (dg r 3)], .int .i64 c]) ?_ rfl ⟨rfl, four_below hBw (by omega) _ _ _ _⟩
  simp [results, go_sem, q0, q1, q2, q3]

theorem mmul_at (a b m : Nat) (h1 : may a b m) (ha : a < B ^ 4) (hb : b < B ^ 4) (hm : m < B ^ 4) (w : World) : Calls PP 98 #[.agg #[.int .u64 (dg a 0), .int .u64 (dg a 1), .int .u64 (dg a 2), .int .u64 (dg a 3)], .agg #[.int .u64 (dg b 0), .int .u64 (dg b 1), .int .u64 (dg b 2), .int .u64 (dg b 3)], .agg #[.int .u64 (dg m 0), .int .u64 (dg m 1), .int .u64 (dg m 2), .int .u64 (dg m 3)]] w fun e w' => e = .returned (.agg #[.int .u64 (dg (a * b % m) 0), .int .u64 (dg (a * b % m) 1), .int .u64 (dg (a * b % m) 2), .int .u64 (dg (a * b % m) 3)]) ∧ Below w.heap.size w w' := by
  rw [← cells_dg, ← cells_dg, ← cells_dg, ← cells_dg]
  refine (eTimesB_ok.calls (args := [(.pv (.words .u64 4 a), .junk), (.pv (.words .u64 4 b), .junk), (.pv (.words .u64 4 m), .junk)]) rfl (⟨Nat.le_of_lt h1.2.1, h1.2.2⟩) Try.func98 (by kernel_rfl) (by kernel_rfl) (vs := [.agg (cells .u64 4 a), .agg (cells .u64 4 b), .agg (cells .u64 4 m)]) (.cons ⟨rfl, WF4 ha⟩ (.cons ⟨rfl, WF4 hb⟩ (.cons ⟨rfl, WF4 hm⟩ .nil)))).mono ?_
  rintro e w' ⟨v, rfl, ⟨rfl, _⟩, h2⟩
  exact ⟨rfl, h2⟩

set_option maxRecDepth 100000 in
set_option maxHeartbeats 2000000 in
theorem mmul_calls (a b m : Nat) (ha : a < B ^ 4) (hb : b < B ^ 4) (hm : m < B ^ 4) (w : World) :
    Calls PP 63 #[.agg #[.int .u64 (dg a 0), .int .u64 (dg a 1), .int .u64 (dg a 2), .int .u64 (dg a 3)], .agg #[.int .u64 (dg b 0), .int .u64 (dg b 1), .int .u64 (dg b 2), .int .u64 (dg b 3)], .agg #[.int .u64 (dg m 0), .int .u64 (dg m 1), .int .u64 (dg m 2), .int .u64 (dg m 3)]] w fun e w' => e = .returned (.tuple #[.agg #[.int .u64 (dg (if may a b m then a * b % m else 0) 0), .int .u64 (dg (if may a b m then a * b % m else 0) 1), .int .u64 (dg (if may a b m then a * b % m else 0) 2), .int .u64 (dg (if may a b m then a * b % m else 0) 3)], .int .i64 (errM a b m)]) ∧ Below w.heap.size w w' := by
  go_enter Try.func63, Try.ntmps63
  obtain ⟨c, hc⟩ : ∃ c, errM a b m = c := ⟨_, rfl⟩
  obtain ⟨r, hr⟩ : ∃ r, (if may a b m then a * b % m else 0) = r := ⟨_, rfl⟩
  rw [hc, hr]
  go_wp2_with (go_at_call 96; refine (deed_calls 98 #[] a b m (a * b % m) ha hb hm _ (enters_of Try.func98 (by kernel_rfl) rfl) (fun h w' _ => mmul_at a b m h ha hb hm w')).mono ?_; rw [hc, hr]; rintro e W ⟨rfl, hBx⟩; have d3 : W.heap[w.heap.size + 1 + 1 + 1]? = some (.cells #[.int .u64 0, .int .u64 0, .int .u64 0, .int .u64 0] 24 (0, 0)) := ((hBx.block (w.heap.size + 1 + 1 + 1) (by simp)).trans (alloc_new _ _ _ (by simp))); have z0 := row_cell (i := 0) d3 rfl; have z1 := row_cell (i := 1) d3 rfl; have z2 := row_cell (i := 2) d3 rfl; have z3 := row_cell (i := 3) d3 rfl; have y0 := frozen_of_row W _ 0 _ _ d3; have y1 := frozen_of_row W _ 1 _ _ d3; have y2 := frozen_of_row W _ 2 _ _ d3; have y3 := frozen_of_row W _ 3 _ _ d3)
  have hBw : Below w.heap.size w W := (((((Below.refl _ w).alloc (by simp <;> omega) _).alloc (by simp <;> omega) _).alloc (by simp <;> omega) _).alloc (by simp <;> omega) _).trans (hBx.mono (by simp <;> omega))
  have d8 := four_set d3 (.int .u64 (dg r 0)) (.int .u64 (dg r 1)) (.int .u64 (dg r 2)) (.int .u64 (dg r 3))
  have q0 := row_cell (i := 0) d8 rfl
  have q1 := row_cell (i := 1) d8 rfl
  have q2 := row_cell (i := 2) d8 rfl
  have q3 := row_cell (i := 3) d8 rfl
  refine bodyPost_ret (v := .tuple #[.agg #[.int .u64 (dg r 0), .int .u64 (dg r 1), .int .u64 (dg r 2), .int .u64 (dg r 3)], .int .i64 c]) ?_ rfl ⟨rfl, four_below hBw (by omega) _ _ _ _⟩
  simp [results, go_sem, q0, q1, q2, q3]
end Go.Proofs.Ytdjnhnfofajpcaa
