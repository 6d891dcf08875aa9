/- Exp and Inv, and their contracts. -/
import Derived.Test.YtdjnhnfofajpcaaK8
namespace Go.Proofs.Ytdjnhnfofajpcaa
open Go Go.Proofs Av Go.RowKit

theorem expb_calls (a b m n bn : Nat) (en : TypeId) (h1 : 1 < m) (h2 : a < m) (hm : m < B ^ 4) (hn : n < B ^ 4) (w : World) (hn0 : w.heap[bn]? = some (.cells #[.int .u64 (dg n 0), .int .u64 (dg n 1), .int .u64 (dg n 2), .int .u64 (dg n 3)] en (0, 0))) :
    Calls PP 99 #[.agg #[.int .u64 (dg a 0), .int .u64 (dg a 1), .int .u64 (dg a 2), .int .u64 (dg a 3)], .agg #[.int .u64 (dg b 0), .int .u64 (dg b 1), .int .u64 (dg b 2), .int .u64 (dg b 3)], .agg #[.int .u64 (dg m 0), .int .u64 (dg m 1), .int .u64 (dg m 2), .int .u64 (dg m 3)], .pointer (some ⟨bn, 0, none⟩)] w fun e w' => e = .returned (.agg #[.int .u64 (dg (a ^ n % m) 0), .int .u64 (dg (a ^ n % m) 1), .int .u64 (dg (a ^ n % m) 2), .int .u64 (dg (a ^ n % m) 3)]) ∧ Below w.heap.size w w' := by
  by_cases hB : m < B
  · exact expb_short a b m n bn en h1 h2 hB hm hn w hn0
  · exact expb_long a b m n bn en h1 h2 hB hm hn w hn0

set_option maxRecDepth 100000 in
set_option maxHeartbeats 2000000 in
theorem mexp_calls (a n m : Nat) (ha : a < B ^ 4) (hn : n < B ^ 4) (hm : m < B ^ 4) (w : World) :
    Calls PP 64 #[.agg #[.int .u64 (dg a 0), .int .u64 (dg a 1), .int .u64 (dg a 2), .int .u64 (dg a 3)], .agg #[.int .u64 (dg n 0), .int .u64 (dg n 1), .int .u64 (dg n 2), .int .u64 (dg n 3)], .agg #[.int .u64 (dg m 0), .int .u64 (dg m 1), .int .u64 (dg m 2), .int .u64 (dg m 3)]] w fun e w' => e = .returned (.tuple #[.agg #[.int .u64 (dg (if may a a m then a ^ n % m else 0) 0), .int .u64 (dg (if may a a m then a ^ n % m else 0) 1), .int .u64 (dg (if may a a m then a ^ n % m else 0) 2), .int .u64 (dg (if may a a m then a ^ n % m else 0) 3)], .int .i64 (errM a a m)]) ∧ Below w.heap.size w w' := by
  obtain ⟨c, hc⟩ : ∃ c, errM a a m = c := ⟨_, rfl⟩
  obtain ⟨r, hr⟩ : ∃ r, (if may a a m then a ^ n % m else 0) = r := ⟨_, rfl⟩
  rw [hc, hr]
  go_enter Try.func64, Try.ntmps64
  go_wp2_with (go_at_call 96; refine (deed_calls 99 #[.pointer (some ⟨w.heap.size + 1, 0, none⟩)] a a m (a ^ n % m) ha ha hm _ (enters_of Try.func99 (by kernel_rfl) rfl) (fun h w' hB' => expb_calls a a m n (w.heap.size + 1) 24 h.1 h.2.1 hm hn w' ((hB'.block _ (by simp <;> omega)).trans (alloc_old _ _ _ (by simp <;> omega) (alloc_old _ _ _ (by simp <;> omega) (alloc_new _ _ _ (by simp))))))).mono ?_; rw [hc, hr]; rintro e W ⟨rfl, hBx⟩; have da : W.heap[w.heap.size]? = some (.cells #[.int .u64 (dg a 0), .int .u64 (dg a 1), .int .u64 (dg a 2), .int .u64 (dg a 3)] 24 (0, 0)) := ((hBx.block (w.heap.size) (by simp <;> omega)).trans (alloc_old _ _ _ (by simp <;> omega) (alloc_old _ _ _ (by simp <;> omega) (alloc_old _ _ _ (by simp <;> omega) (alloc_new _ _ _ (by simp)))))); have dn : W.heap[w.heap.size + 1]? = some (.cells #[.int .u64 (dg n 0), .int .u64 (dg n 1), .int .u64 (dg n 2), .int .u64 (dg n 3)] 24 (0, 0)) := ((hBx.block (w.heap.size + 1) (by simp <;> omega)).trans (alloc_old _ _ _ (by simp <;> omega) (alloc_old _ _ _ (by simp <;> omega) (alloc_new _ _ _ (by simp))))); have dm : W.heap[w.heap.size + 1 + 1]? = some (.cells #[.int .u64 (dg m 0), .int .u64 (dg m 1), .int .u64 (dg m 2), .int .u64 (dg m 3)] 24 (0, 0)) := ((hBx.block (w.heap.size + 1 + 1) (by simp <;> omega)).trans (alloc_old _ _ _ (by simp <;> omega) (alloc_new _ _ _ (by simp)))); have dz : W.heap[w.heap.size + 1 + 1 + 1]? = some (.cells #[.int .u64 0, .int .u64 0, .int .u64 0, .int .u64 0] 24 (0, 0)) := ((hBx.block (w.heap.size + 1 + 1 + 1) (by simp <;> omega)).trans (alloc_new _ _ _ (by simp))); have z0 := row_cell (i := 0) dz rfl; have z1 := row_cell (i := 1) dz rfl; have z2 := row_cell (i := 2) dz rfl; have z3 := row_cell (i := 3) dz rfl; have y0 := frozen_of_row W _ 0 _ _ dz; have y1 := frozen_of_row W _ 1 _ _ dz; have y2 := frozen_of_row W _ 2 _ _ dz; have y3 := frozen_of_row W _ 3 _ _ dz)
  have hBw : Below w.heap.size w W := (((((Below.refl _ w).alloc (by simp <;> omega) _).alloc (by simp <;> omega) _).alloc (by simp <;> omega) _).alloc (by simp <;> omega) _).trans (hBx.mono (by simp <;> omega))
  have d8 := four_set dz (.int .u64 (dg r 0)) (.int .u64 (dg r 1)) (.int .u64 (dg r 2)) (.int .u64 (dg r 3))
  have q0 := row_cell (i := 0) d8 rfl
  have q1 := row_cell (i := 1) d8 rfl
  have q2 := row_cell (i := 2) d8 rfl
  have q3 := row_cell (i := 3) d8 rfl
  refine bodyPost_ret (v := .tuple #[.agg #[.int .u64 (dg r 0), .int .u64 (dg r 1), .int .u64 (dg r 2), .int .u64 (dg r 3)], .int .i64 c]) ?_ rfl ⟨rfl, four_below hBw (by omega) _ _ _ _⟩
  simp [results, go_sem, q0, q1, q2, q3]
end Go.Proofs.Ytdjnhnfofajpcaa
namespace Go.Proofs.Ytdjnhnfofajpcaa
open Go Go.Proofs Av Go.RowKit

theorem invb_at (a m : Nat) (h1 : 1 < m) (h2 : a < m) (ha : a < B ^ 4) (hm : m < B ^ 4) (w : World) : Calls PP 105 #[.agg #[.int .u64 (dg a 0), .int .u64 (dg a 1), .int .u64 (dg a 2), .int .u64 (dg a 3)], .agg #[.int .u64 (dg a 0), .int .u64 (dg a 1), .int .u64 (dg a 2), .int .u64 (dg a 3)], .agg #[.int .u64 (dg m 0), .int .u64 (dg m 1), .int .u64 (dg m 2), .int .u64 (dg m 3)]] w fun e w' => e = .returned (.agg #[.int .u64 (dg (invN a m) 0), .int .u64 (dg (invN a m) 1), .int .u64 (dg (invN a m) 2), .int .u64 (dg (invN a m) 3)]) ∧ Below w.heap.size w w' := by
  rw [← cells_dg, ← cells_dg, ← cells_dg]
  refine (eInvB_ok.calls (args := [(.pv (.words .u64 4 a), .junk), (.pv (.words .u64 4 a), .junk), (.pv (.words .u64 4 m), .junk)]) rfl ⟨h1, h2⟩ Try.func105 (by kernel_rfl) (by kernel_rfl) (vs := [.agg (cells .u64 4 a), .agg (cells .u64 4 a), .agg (cells .u64 4 m)]) (.cons ⟨rfl, WF4 ha⟩ (.cons ⟨rfl, WF4 ha⟩ (.cons ⟨rfl, WF4 hm⟩ .nil)))).mono ?_
  rintro e w' ⟨v, rfl, ⟨rfl, _⟩, h2⟩
  exact ⟨rfl, h2⟩
theorem eq_dg (r : Nat) (hr : r < B ^ 4) (w : World) : (Op.equalIn 10000 24 (.agg #[.int .u64 (dg r 0), .int .u64 (dg r 1), .int .u64 (dg r 2), .int .u64 (dg r 3)]) (.agg #[.int .u64 (dg 0 0), .int .u64 (dg 0 1), .int .u64 (dg 0 2), .int .u64 (dg 0 3)])).run PP w = .ok (decide (r = 0)) w := by
  rw [← cells_dg, ← cells_dg]
  exact run_eq24 r 0 hr (by decide) w
theorem inv_lt {a m : Nat} (h1 : 1 < m) (hm : m < B ^ 4) : invN a m < B ^ 4 := by
  unfold invN
  split
  · rename_i h
    exact Nat.lt_trans h.choose_spec.1 hm
  · exact Nat.lt_trans (by omega) hm

set_option maxRecDepth 100000 in
set_option maxHeartbeats 2000000 in
theorem minv_bad (a m r : Nat) (ha : a < B ^ 4) (hm : m < B ^ 4) (hr : (if may a a m then invN a m else 0) = r) (h : ¬ may a a m) (w : World) :
    Calls PP 65 #[.agg #[.int .u64 (dg a 0), .int .u64 (dg a 1), .int .u64 (dg a 2), .int .u64 (dg a 3)], .agg #[.int .u64 (dg m 0), .int .u64 (dg m 1), .int .u64 (dg m 2), .int .u64 (dg m 3)]] w fun e w' => e = .returned (.tuple #[.agg #[.int .u64 (dg r 0), .int .u64 (dg r 1), .int .u64 (dg r 2), .int .u64 (dg r 3)], .int .i64 1]) ∧ Below w.heap.size w w' := by
  have hc : errM a a m = 1 := if_neg h
  go_enter Try.func65, Try.ntmps65
  go_wp2_with (go_at_call 96; refine (deed_calls 105 #[] a a m (invN a m) ha ha hm _ (enters_of Try.func105 (by kernel_rfl) rfl) (fun h w' _ => invb_at a m h.1 h.2.1 ha hm w')).mono ?_; rw [hc, hr]; rintro e W ⟨rfl, hBx⟩; have da : W.heap[w.heap.size]? = some (.cells #[.int .u64 (dg a 0), .int .u64 (dg a 1), .int .u64 (dg a 2), .int .u64 (dg a 3)] 24 (0, 0)) := ((hBx.block (w.heap.size) (by simp <;> omega)).trans (alloc_old _ _ _ (by simp <;> omega) (alloc_old _ _ _ (by simp <;> omega) (alloc_new _ _ _ (by simp))))); have dm : W.heap[w.heap.size + 1]? = some (.cells #[.int .u64 (dg m 0), .int .u64 (dg m 1), .int .u64 (dg m 2), .int .u64 (dg m 3)] 24 (0, 0)) := ((hBx.block (w.heap.size + 1) (by simp <;> omega)).trans (alloc_old _ _ _ (by simp <;> omega) (alloc_new _ _ _ (by simp)))); have dz : W.heap[w.heap.size + 1 + 1]? = some (.cells #[.int .u64 0, .int .u64 0, .int .u64 0, .int .u64 0] 24 (0, 0)) := ((hBx.block (w.heap.size + 1 + 1) (by simp <;> omega)).trans (alloc_new _ _ _ (by simp))))
  have hBw : Below w.heap.size w W := ((((Below.refl _ w).alloc (by simp <;> omega) _).alloc (by simp <;> omega) _).alloc (by simp <;> omega) _).trans (hBx.mono (by simp <;> omega))
  have hlt : w.heap.size + 1 + 1 < W.heap.size := (Array.getElem?_eq_some_iff.1 dz).1
  obtain ⟨W2, hW2⟩ : ∃ W2, W.alloc (.cells #[.int .u64 (dg r 0), .int .u64 (dg r 1), .int .u64 (dg r 2), .int .u64 (dg r 3)] 24) = W2 := ⟨_, rfl⟩
  have dx : W2.heap[W.heap.size]? = some (.cells #[.int .u64 (dg r 0), .int .u64 (dg r 1), .int .u64 (dg r 2), .int .u64 (dg r 3)] 24 (0, 0)) := by rw [← hW2]; exact alloc_new _ _ _ rfl
  have dz2 : W2.heap[w.heap.size + 1 + 1]? = some (.cells #[.int .u64 0, .int .u64 0, .int .u64 0, .int .u64 0] 24 (0, 0)) := by rw [← hW2]; exact alloc_old _ _ _ hlt dz
  have hBw2 : Below w.heap.size w W2 := by rw [← hW2]; exact hBw.alloc (by omega) _
  rw [hW2]
  have hB0 : Below W2.heap.size W2 W2 := Below.refl _ _
  have hBd : Below W2.heap.size W2 W2.drew := (Below.refl _ _).drew
  have hge : w.heap.size ≤ w.heap.size + 1 + 1 := by omega
  have hneq : w.heap.size + 1 + 1 ≠ W.heap.size := by omega
  clear hW2 hlt hBw hBx da dm dz
  have dxk0 := keep_cell (i := 0) dx rfl
  have dxk1 := keep_cell (i := 1) dx rfl
  have dxk2 := keep_cell (i := 2) dx rfl
  have dxk3 := keep_cell (i := 3) dx rfl
  have dz2k0 := keep_cell (i := 0) dz2 rfl
  have dz2k1 := keep_cell (i := 1) dz2 rfl
  have dz2k2 := keep_cell (i := 2) dz2 rfl
  have dz2k3 := keep_cell (i := 3) dz2 rfl
  have zf0 := keep_free 0 dz2
  have zf1 := keep_free 1 dz2
  have zf2 := keep_free 2 dz2
  have zf3 := keep_free 3 dz2
  go_region_with (go_at_call 36; refine (of_nil _).mono ?_; rintro e W3 ⟨rfl, hBx⟩; have hBy := below_next (W0 := W2) (by assumption) hBx)
  all_goals
    go_wp2
    have q0 := keep_set dz2 (.int .u64 (dg r 0)) (.int .u64 (dg r 1)) (.int .u64 (dg r 2)) (.int .u64 (dg r 3)) (i := 0) rfl
    have q1 := keep_set dz2 (.int .u64 (dg r 0)) (.int .u64 (dg r 1)) (.int .u64 (dg r 2)) (.int .u64 (dg r 3)) (i := 1) rfl
    have q2 := keep_set dz2 (.int .u64 (dg r 0)) (.int .u64 (dg r 1)) (.int .u64 (dg r 2)) (.int .u64 (dg r 3)) (i := 2) rfl
    have q3 := keep_set dz2 (.int .u64 (dg r 0)) (.int .u64 (dg r 1)) (.int .u64 (dg r 2)) (.int .u64 (dg r 3)) (i := 3) rfl
    refine bodyPost_ret (v := .tuple #[.agg #[.int .u64 (dg r 0), .int .u64 (dg r 1), .int .u64 (dg r 2), .int .u64 (dg r 3)], .int .i64 1]) ?_ rfl ⟨rfl, ?_⟩
    · simp [results, go_sem, *]
    · first | exact four_below (hBw2.trans ((by assumption : Below W2.heap.size W2 _).mono hBw2.size)) hge _ _ _ _ | exact (four_below (hBw2.trans ((by assumption : Below W2.heap.size W2 _).mono hBw2.size)) hge _ _ _ _).drew

set_option maxRecDepth 100000 in
set_option maxHeartbeats 2000000 in
theorem minv_none (a m r : Nat) (ha : a < B ^ 4) (hm : m < B ^ 4) (hr : (if may a a m then invN a m else 0) = r) (h : may a a m) (h0 : r = 0) (w : World) :
    Calls PP 65 #[.agg #[.int .u64 (dg a 0), .int .u64 (dg a 1), .int .u64 (dg a 2), .int .u64 (dg a 3)], .agg #[.int .u64 (dg m 0), .int .u64 (dg m 1), .int .u64 (dg m 2), .int .u64 (dg m 3)]] w fun e w' => e = .returned (.tuple #[.agg #[.int .u64 (dg r 0), .int .u64 (dg r 1), .int .u64 (dg r 2), .int .u64 (dg r 3)], .int .i64 7]) ∧ Below w.heap.size w w' := by
  have hc : errM a a m = 0 := if_pos h
  have hq := eq_dg r (by rw [h0]; decide)
  rw [decide_eq_true h0] at hq
  clear h0
  go_enter Try.func65, Try.ntmps65
  go_wp2_with (go_at_call 96; refine (deed_calls 105 #[] a a m (invN a m) ha ha hm _ (enters_of Try.func105 (by kernel_rfl) rfl) (fun h w' _ => invb_at a m h.1 h.2.1 ha hm w')).mono ?_; rw [hc, hr]; rintro e W ⟨rfl, hBx⟩; have da : W.heap[w.heap.size]? = some (.cells #[.int .u64 (dg a 0), .int .u64 (dg a 1), .int .u64 (dg a 2), .int .u64 (dg a 3)] 24 (0, 0)) := ((hBx.block (w.heap.size) (by simp <;> omega)).trans (alloc_old _ _ _ (by simp <;> omega) (alloc_old _ _ _ (by simp <;> omega) (alloc_new _ _ _ (by simp))))); have dm : W.heap[w.heap.size + 1]? = some (.cells #[.int .u64 (dg m 0), .int .u64 (dg m 1), .int .u64 (dg m 2), .int .u64 (dg m 3)] 24 (0, 0)) := ((hBx.block (w.heap.size + 1) (by simp <;> omega)).trans (alloc_old _ _ _ (by simp <;> omega) (alloc_new _ _ _ (by simp)))); have dz : W.heap[w.heap.size + 1 + 1]? = some (.cells #[.int .u64 0, .int .u64 0, .int .u64 0, .int .u64 0] 24 (0, 0)) := ((hBx.block (w.heap.size + 1 + 1) (by simp <;> omega)).trans (alloc_new _ _ _ (by simp))))
  have hBw : Below w.heap.size w W := ((((Below.refl _ w).alloc (by simp <;> omega) _).alloc (by simp <;> omega) _).alloc (by simp <;> omega) _).trans (hBx.mono (by simp <;> omega))
  have hlt : w.heap.size + 1 + 1 < W.heap.size := (Array.getElem?_eq_some_iff.1 dz).1
  obtain ⟨W2, hW2⟩ : ∃ W2, W.alloc (.cells #[.int .u64 (dg r 0), .int .u64 (dg r 1), .int .u64 (dg r 2), .int .u64 (dg r 3)] 24) = W2 := ⟨_, rfl⟩
  have dx : W2.heap[W.heap.size]? = some (.cells #[.int .u64 (dg r 0), .int .u64 (dg r 1), .int .u64 (dg r 2), .int .u64 (dg r 3)] 24 (0, 0)) := by rw [← hW2]; exact alloc_new _ _ _ rfl
  have dz2 : W2.heap[w.heap.size + 1 + 1]? = some (.cells #[.int .u64 0, .int .u64 0, .int .u64 0, .int .u64 0] 24 (0, 0)) := by rw [← hW2]; exact alloc_old _ _ _ hlt dz
  have hBw2 : Below w.heap.size w W2 := by rw [← hW2]; exact hBw.alloc (by omega) _
  rw [hW2]
  have hB0 : Below W2.heap.size W2 W2 := Below.refl _ _
  have hBd : Below W2.heap.size W2 W2.drew := (Below.refl _ _).drew
  have hge : w.heap.size ≤ w.heap.size + 1 + 1 := by omega
  have hneq : w.heap.size + 1 + 1 ≠ W.heap.size := by omega
  clear hW2 hlt hBw hBx da dm dz
  have dxk0 := keep_cell (i := 0) dx rfl
  have dxk1 := keep_cell (i := 1) dx rfl
  have dxk2 := keep_cell (i := 2) dx rfl
  have dxk3 := keep_cell (i := 3) dx rfl
  have dz2k0 := keep_cell (i := 0) dz2 rfl
  have dz2k1 := keep_cell (i := 1) dz2 rfl
  have dz2k2 := keep_cell (i := 2) dz2 rfl
  have dz2k3 := keep_cell (i := 3) dz2 rfl
  have zf0 := keep_free 0 dz2
  have zf1 := keep_free 1 dz2
  have zf2 := keep_free 2 dz2
  have zf3 := keep_free 3 dz2
  go_region_with (go_at_call 36; refine (of_nil _).mono ?_; rintro e W3 ⟨rfl, hBx⟩; have hBy := below_next (W0 := W2) (by assumption) hBx)
  all_goals
    go_wp2
    have q0 := keep_set dz2 (.int .u64 (dg r 0)) (.int .u64 (dg r 1)) (.int .u64 (dg r 2)) (.int .u64 (dg r 3)) (i := 0) rfl
    have q1 := keep_set dz2 (.int .u64 (dg r 0)) (.int .u64 (dg r 1)) (.int .u64 (dg r 2)) (.int .u64 (dg r 3)) (i := 1) rfl
    have q2 := keep_set dz2 (.int .u64 (dg r 0)) (.int .u64 (dg r 1)) (.int .u64 (dg r 2)) (.int .u64 (dg r 3)) (i := 2) rfl
    have q3 := keep_set dz2 (.int .u64 (dg r 0)) (.int .u64 (dg r 1)) (.int .u64 (dg r 2)) (.int .u64 (dg r 3)) (i := 3) rfl
    refine bodyPost_ret (v := .tuple #[.agg #[.int .u64 (dg r 0), .int .u64 (dg r 1), .int .u64 (dg r 2), .int .u64 (dg r 3)], .int .i64 7]) ?_ rfl ⟨rfl, ?_⟩
    · simp [results, go_sem, *]
    · first | exact four_below (hBw2.trans ((by assumption : Below W2.heap.size W2 _).mono hBw2.size)) hge _ _ _ _ | exact (four_below (hBw2.trans ((by assumption : Below W2.heap.size W2 _).mono hBw2.size)) hge _ _ _ _).drew

set_option maxRecDepth 100000 in
set_option maxHeartbeats 2000000 in
theorem minv_some (a m r : Nat) (ha : a < B ^ 4) (hm : m < B ^ 4) (hr : (if may a a m then invN a m else 0) = r) (h : may a a m) (h0 : ¬ r = 0) (w : World) :
    Calls PP 65 #[.agg #[.int .u64 (dg a 0), .int .u64 (dg a 1), .int .u64 (dg a 2), .int .u64 (dg a 3)], .agg #[.int .u64 (dg m 0), .int .u64 (dg m 1), .int .u64 (dg m 2), .int .u64 (dg m 3)]] w fun e w' => e = .returned (.tuple #[.agg #[.int .u64 (dg r 0), .int .u64 (dg r 1), .int .u64 (dg r 2), .int .u64 (dg r 3)], .int .i64 0]) ∧ Below w.heap.size w w' := by
  have hc : errM a a m = 0 := if_pos h
  have hq := eq_dg r (by rw [← hr, if_pos h]; exact inv_lt h.1 hm)
  rw [decide_eq_false h0] at hq
  clear h0
  go_enter Try.func65, Try.ntmps65
  go_wp2_with (go_at_call 96; refine (deed_calls 105 #[] a a m (invN a m) ha ha hm _ (enters_of Try.func105 (by kernel_rfl) rfl) (fun h w' _ => invb_at a m h.1 h.2.1 ha hm w')).mono ?_; rw [hc, hr]; rintro e W ⟨rfl, hBx⟩; have da : W.heap[w.heap.size]? = some (.cells #[.int .u64 (dg a 0), .int .u64 (dg a 1), .int .u64 (dg a 2), .int .u64 (dg a 3)] 24 (0, 0)) := ((hBx.block (w.heap.size) (by simp <;> omega)).trans (alloc_old _ _ _ (by simp <;> omega) (alloc_old _ _ _ (by simp <;> omega) (alloc_new _ _ _ (by simp))))); have dm : W.heap[w.heap.size + 1]? = some (.cells #[.int .u64 (dg m 0), .int .u64 (dg m 1), .int .u64 (dg m 2), .int .u64 (dg m 3)] 24 (0, 0)) := ((hBx.block (w.heap.size + 1) (by simp <;> omega)).trans (alloc_old _ _ _ (by simp <;> omega) (alloc_new _ _ _ (by simp)))); have dz : W.heap[w.heap.size + 1 + 1]? = some (.cells #[.int .u64 0, .int .u64 0, .int .u64 0, .int .u64 0] 24 (0, 0)) := ((hBx.block (w.heap.size + 1 + 1) (by simp <;> omega)).trans (alloc_new _ _ _ (by simp))))
  have hBw : Below w.heap.size w W := ((((Below.refl _ w).alloc (by simp <;> omega) _).alloc (by simp <;> omega) _).alloc (by simp <;> omega) _).trans (hBx.mono (by simp <;> omega))
  have hlt : w.heap.size + 1 + 1 < W.heap.size := (Array.getElem?_eq_some_iff.1 dz).1
  obtain ⟨W2, hW2⟩ : ∃ W2, W.alloc (.cells #[.int .u64 (dg r 0), .int .u64 (dg r 1), .int .u64 (dg r 2), .int .u64 (dg r 3)] 24) = W2 := ⟨_, rfl⟩
  have dx : W2.heap[W.heap.size]? = some (.cells #[.int .u64 (dg r 0), .int .u64 (dg r 1), .int .u64 (dg r 2), .int .u64 (dg r 3)] 24 (0, 0)) := by rw [← hW2]; exact alloc_new _ _ _ rfl
  have dz2 : W2.heap[w.heap.size + 1 + 1]? = some (.cells #[.int .u64 0, .int .u64 0, .int .u64 0, .int .u64 0] 24 (0, 0)) := by rw [← hW2]; exact alloc_old _ _ _ hlt dz
  have hBw2 : Below w.heap.size w W2 := by rw [← hW2]; exact hBw.alloc (by omega) _
  rw [hW2]
  have hB0 : Below W2.heap.size W2 W2 := Below.refl _ _
  have hBd : Below W2.heap.size W2 W2.drew := (Below.refl _ _).drew
  have hge : w.heap.size ≤ w.heap.size + 1 + 1 := by omega
  have hneq : w.heap.size + 1 + 1 ≠ W.heap.size := by omega
  clear hW2 hlt hBw hBx da dm dz
  have dxk0 := keep_cell (i := 0) dx rfl
  have dxk1 := keep_cell (i := 1) dx rfl
  have dxk2 := keep_cell (i := 2) dx rfl
  have dxk3 := keep_cell (i := 3) dx rfl
  have dz2k0 := keep_cell (i := 0) dz2 rfl
  have dz2k1 := keep_cell (i := 1) dz2 rfl
  have dz2k2 := keep_cell (i := 2) dz2 rfl
  have dz2k3 := keep_cell (i := 3) dz2 rfl
  have zf0 := keep_free 0 dz2
  have zf1 := keep_free 1 dz2
  have zf2 := keep_free 2 dz2
  have zf3 := keep_free 3 dz2
  go_region_with (go_at_call 36; refine (of_nil _).mono ?_; rintro e W3 ⟨rfl, hBx⟩; have hBy := below_next (W0 := W2) (by assumption) hBx)
  all_goals
    go_wp2
    have q0 := keep_set dz2 (.int .u64 (dg r 0)) (.int .u64 (dg r 1)) (.int .u64 (dg r 2)) (.int .u64 (dg r 3)) (i := 0) rfl
    have q1 := keep_set dz2 (.int .u64 (dg r 0)) (.int .u64 (dg r 1)) (.int .u64 (dg r 2)) (.int .u64 (dg r 3)) (i := 1) rfl
    have q2 := keep_set dz2 (.int .u64 (dg r 0)) (.int .u64 (dg r 1)) (.int .u64 (dg r 2)) (.int .u64 (dg r 3)) (i := 2) rfl
    have q3 := keep_set dz2 (.int .u64 (dg r 0)) (.int .u64 (dg r 1)) (.int .u64 (dg r 2)) (.int .u64 (dg r 3)) (i := 3) rfl
    refine bodyPost_ret (v := .tuple #[.agg #[.int .u64 (dg r 0), .int .u64 (dg r 1), .int .u64 (dg r 2), .int .u64 (dg r 3)], .int .i64 0]) ?_ rfl ⟨rfl, ?_⟩
    · simp [results, go_sem, *]
    · first | exact four_below (hBw2.trans ((by assumption : Below W2.heap.size W2 _).mono hBw2.size)) hge _ _ _ _ | exact (four_below (hBw2.trans ((by assumption : Below W2.heap.size W2 _).mono hBw2.size)) hge _ _ _ _).drew
end Go.Proofs.Ytdjnhnfofajpcaa
namespace Go.Proofs.Ytdjnhnfofajpcaa
open Go Go.Proofs Av Go.RowKit

def expM (a n m : Nat) : Nat := if may a a m then a ^ n % m else 0
noncomputable def invM (a m : Nat) : Nat := if may a a m then invN a m else 0
noncomputable def errI (a m : Nat) : Int := if may a a m then (if invN a m = 0 then 7 else 0) else 1
def eMExp : Entry := mk 64 [.n 4, .n 4, .n 4] fun (a n m : Nat) => (.tup2 (.words .u64 4 (expM a n m)) (.int .i64 (errM a a m)), True)
noncomputable def eMInv : Entry := mk 65 [.n 4, .n 4] fun (a m : Nat) => (.tup2 (.words .u64 4 (invM a m)) (.int .i64 (errI a m)), True)
theorem eMExp_ok : eMExp.OK := mk_ok_calls (c := Try.f64.body.getD .skip) Try.func64 (by kernel_rfl) (by kernel_rfl) (by
  intro a ha n hn m hm _ w vs hv
  obtain ⟨x, y, z, rfl, ⟨rfl, _⟩, ⟨rfl, _⟩, ⟨rfl, _⟩⟩ := three_vals hv
  rw [cells_dg, cells_dg, cells_dg]
  refine (mexp_calls a n m ha hn hm w).mono ?_
  rintro e w' ⟨rfl, h2⟩
  exact ⟨_, rfl, ⟨_, _, rfl, ⟨(cells_dg _).symm, WF4 (mod_small (fun h => h.1) hm)⟩, ⟨rfl, errM_ok a a m⟩⟩, h2⟩)
theorem two_vals {w : World} {a b : PV} {vs : List Value} (h : All2 (ArgV w) ([a, b].map .pv) vs) : ∃ x y, vs = [x, y] ∧ a.R x ∧ b.R y := by
  cases h with
  | cons h1 h => cases h with
    | cons h2 h => cases h; exact ⟨_, _, rfl, h1.2.2.2, h2.2.2.2⟩
theorem minv_calls (a m : Nat) (ha : a < B ^ 4) (hm : m < B ^ 4) (w : World) : Calls PP 65 #[.agg #[.int .u64 (dg a 0), .int .u64 (dg a 1), .int .u64 (dg a 2), .int .u64 (dg a 3)], .agg #[.int .u64 (dg m 0), .int .u64 (dg m 1), .int .u64 (dg m 2), .int .u64 (dg m 3)]] w fun e w' => e = .returned (.tuple #[.agg #[.int .u64 (dg (invM a m) 0), .int .u64 (dg (invM a m) 1), .int .u64 (dg (invM a m) 2), .int .u64 (dg (invM a m) 3)], .int .i64 (errI a m)]) ∧ Below w.heap.size w w' := by
  by_cases h : may a a m
  · by_cases h0 : invN a m = 0
    · have e1 : errI a m = 7 := by unfold errI; rw [if_pos h, if_pos h0]
      rw [e1]
      exact minv_none a m (invM a m) ha hm rfl h (by unfold invM; rw [if_pos h, h0]) w
    · have e1 : errI a m = 0 := by unfold errI; rw [if_pos h, if_neg h0]
      rw [e1]
      exact minv_some a m (invM a m) ha hm rfl h (by unfold invM; rw [if_pos h]; exact h0) w
  · have e1 : errI a m = 1 := if_neg h
    rw [e1]
    exact minv_bad a m (invM a m) ha hm rfl h w
theorem eMInv_ok : eMInv.OK := mk_ok_calls (c := Try.f65.body.getD .skip) Try.func65 (by kernel_rfl) (by kernel_rfl) (by
  intro a ha m hm _ w vs hv
  obtain ⟨x, y, rfl, ⟨rfl, _⟩, ⟨rfl, _⟩⟩ := two_vals hv
  rw [cells_dg, cells_dg]
  refine (minv_calls a m ha hm w).mono ?_
  rintro e w' ⟨rfl, h2⟩
  refine ⟨_, rfl, ⟨_, _, rfl, ⟨(cells_dg _).symm, WF4 ?_⟩, ⟨rfl, ?_⟩⟩, h2⟩
  · unfold invM
    split
    · rename_i h
      exact inv_lt h.1 hm
    · exact Nat.pow_pos (by decide)
  · unfold errI
    split
    · split <;> rfl
    · rfl)
end Go.Proofs.Ytdjnhnfofajpcaa
