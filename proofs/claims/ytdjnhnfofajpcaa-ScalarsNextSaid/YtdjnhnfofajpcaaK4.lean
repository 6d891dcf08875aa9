/- What deed does, for each of the three bad cases and the good one. -/
import Derived.Test.YtdjnhnfofajpcaaK3
namespace Go.Proofs.Ytdjnhnfofajpcaa
open Go Go.Proofs Av Go.RowKit

set_option maxRecDepth 100000 in
set_option maxHeartbeats 2000000 in
theorem deed_bad1 (fv : Value) (a b m : Nat) (h1 : m ≤ 1) (_ha : a < B ^ 4) (_hb : b < B ^ 4) (hm : m < B ^ 4) (w : World) :
    Calls PP 96 #[.agg #[fv], .agg #[.int .u64 (dg a 0), .int .u64 (dg a 1), .int .u64 (dg a 2), .int .u64 (dg a 3)], .agg #[.int .u64 (dg b 0), .int .u64 (dg b 1), .int .u64 (dg b 2), .int .u64 (dg b 3)], .agg #[.int .u64 (dg m 0), .int .u64 (dg m 1), .int .u64 (dg m 2), .int .u64 (dg m 3)]] w fun e w' => e = .returned (.tuple #[.agg #[.int .u64 0, .int .u64 0, .int .u64 0, .int .u64 0], .int .i64 1]) ∧ Below w.heap.size w w' := by
  obtain ⟨c, c1, c1'⟩ : ∃ c, cmpI m 1 = c ∧ c ≤ 0 := ⟨_, rfl, by unfold cmpI; split <;> (try split) <;> omega⟩
  go_enter Try.func96, Try.ntmps96
  go_wp2
  obtain ⟨W0, hW0⟩ : ∃ W0, (((((w).alloc (.cells #[fv] 90)).alloc (.cells #[.int .u64 (dg a 0), .int .u64 (dg a 1), .int .u64 (dg a 2), .int .u64 (dg a 3)] 24)).alloc (.cells #[.int .u64 (dg b 0), .int .u64 (dg b 1), .int .u64 (dg b 2), .int .u64 (dg b 3)] 24)).alloc (.cells #[.int .u64 (dg m 0), .int .u64 (dg m 1), .int .u64 (dg m 2), .int .u64 (dg m 3)] 24)).alloc (.cells #[.int .u64 0, .int .u64 0, .int .u64 0, .int .u64 0] 24) = W0 := ⟨_, rfl⟩
  rw [hW0]
  have hS : W0.heap.size = w.heap.size + 1 + 1 + 1 + 1 + 1 := by rw [← hW0]; simp
  have d0 : W0.heap[w.heap.size]? = some (.cells #[fv] 90 (0, 0)) := by rw [← hW0]; exact alloc_old _ _ _ (by simp <;> omega) (alloc_old _ _ _ (by simp <;> omega) (alloc_old _ _ _ (by simp <;> omega) (alloc_old _ _ _ (by simp <;> omega) (alloc_new _ _ _ (by simp)))))
  have d1 : W0.heap[w.heap.size + 1]? = some (.cells #[.int .u64 (dg a 0), .int .u64 (dg a 1), .int .u64 (dg a 2), .int .u64 (dg a 3)] 24 (0, 0)) := by rw [← hW0]; exact alloc_old _ _ _ (by simp <;> omega) (alloc_old _ _ _ (by simp <;> omega) (alloc_old _ _ _ (by simp <;> omega) (alloc_new _ _ _ (by simp))))
  have d2 : W0.heap[w.heap.size + 1 + 1]? = some (.cells #[.int .u64 (dg b 0), .int .u64 (dg b 1), .int .u64 (dg b 2), .int .u64 (dg b 3)] 24 (0, 0)) := by rw [← hW0]; exact alloc_old _ _ _ (by simp <;> omega) (alloc_old _ _ _ (by simp <;> omega) (alloc_new _ _ _ (by simp)))
  have d3 : W0.heap[w.heap.size + 1 + 1 + 1]? = some (.cells #[.int .u64 (dg m 0), .int .u64 (dg m 1), .int .u64 (dg m 2), .int .u64 (dg m 3)] 24 (0, 0)) := by rw [← hW0]; exact alloc_old _ _ _ (by simp <;> omega) (alloc_new _ _ _ (by simp))
  have d4 : W0.heap[w.heap.size + 1 + 1 + 1 + 1]? = some (.cells #[.int .u64 0, .int .u64 0, .int .u64 0, .int .u64 0] 24 (0, 0)) := by rw [← hW0]; exact alloc_new _ _ _ (by simp)
  have hBw : Below w.heap.size w W0 := by rw [← hW0]; exact (((((Below.refl _ w).alloc (by simp <;> omega) _).alloc (by simp <;> omega) _).alloc (by simp <;> omega) _).alloc (by simp <;> omega) _).alloc (by simp <;> omega) _
  clear hW0 hS
  have hB0 : Below W0.heap.size W0 W0 := Below.refl _ _
  have hBd : Below W0.heap.size W0 W0.drew := (Below.refl _ _).drew
  have q00 := keep_cell (i := 0) d0 rfl
  have q10 := keep_cell (i := 0) d1 rfl
  have q11 := keep_cell (i := 1) d1 rfl
  have q12 := keep_cell (i := 2) d1 rfl
  have q13 := keep_cell (i := 3) d1 rfl
  have q20 := keep_cell (i := 0) d2 rfl
  have q21 := keep_cell (i := 1) d2 rfl
  have q22 := keep_cell (i := 2) d2 rfl
  have q23 := keep_cell (i := 3) d2 rfl
  have q30 := keep_cell (i := 0) d3 rfl
  have q31 := keep_cell (i := 1) d3 rfl
  have q32 := keep_cell (i := 2) d3 rfl
  have q33 := keep_cell (i := 3) d3 rfl
  have q40 := keep_cell (i := 0) d4 rfl
  have q41 := keep_cell (i := 1) d4 rfl
  have q42 := keep_cell (i := 2) d4 rfl
  have q43 := keep_cell (i := 3) d4 rfl
  have f40 := keep_free 0 d4
  have f41 := keep_free 1 d4
  have f42 := keep_free 2 d4
  have f43 := keep_free 3 d4
  go_region_with (first | (go_at_call 36; refine (of_one _).mono ?_; rintro e W ⟨rfl, hBx⟩; have hBy := below_next (W0 := W0) (by assumption) hBx) | (go_at_call 38; refine (cmp_at _ _ (by first | assumption | exact one_lt4) (by first | assumption | exact one_lt4) _).mono ?_; rintro e W ⟨rfl, hBx⟩; have hBy := below_next (W0 := W0) (by assumption) hBx))
  all_goals
    go_wp2
    have q0 := keep_set d4 (.int .u64 0) (.int .u64 0) (.int .u64 0) (.int .u64 0) (i := 0) rfl
    have q1 := keep_set d4 (.int .u64 0) (.int .u64 0) (.int .u64 0) (.int .u64 0) (i := 1) rfl
    have q2 := keep_set d4 (.int .u64 0) (.int .u64 0) (.int .u64 0) (.int .u64 0) (i := 2) rfl
    have q3 := keep_set d4 (.int .u64 0) (.int .u64 0) (.int .u64 0) (.int .u64 0) (i := 3) rfl
    refine bodyPost_ret (v := .tuple #[.agg #[.int .u64 0, .int .u64 0, .int .u64 0, .int .u64 0], .int .i64 1]) ?_ rfl ⟨rfl, four_below (hBw.trans ((by assumption : Below W0.heap.size W0 _).mono hBw.size)) (by omega) _ _ _ _⟩
    simp [results, go_sem, *]
end Go.Proofs.Ytdjnhnfofajpcaa
namespace Go.Proofs.Ytdjnhnfofajpcaa
open Go Go.Proofs Av Go.RowKit

set_option maxRecDepth 100000 in
set_option maxHeartbeats 2000000 in
theorem deed_bad2 (fv : Value) (a b m : Nat) (h1 : 1 < m) (h2 : m ≤ a) (ha : a < B ^ 4) (_hb : b < B ^ 4) (hm : m < B ^ 4) (w : World) :
    Calls PP 96 #[.agg #[fv], .agg #[.int .u64 (dg a 0), .int .u64 (dg a 1), .int .u64 (dg a 2), .int .u64 (dg a 3)], .agg #[.int .u64 (dg b 0), .int .u64 (dg b 1), .int .u64 (dg b 2), .int .u64 (dg b 3)], .agg #[.int .u64 (dg m 0), .int .u64 (dg m 1), .int .u64 (dg m 2), .int .u64 (dg m 3)]] w fun e w' => e = .returned (.tuple #[.agg #[.int .u64 0, .int .u64 0, .int .u64 0, .int .u64 0], .int .i64 1]) ∧ Below w.heap.size w w' := by
  have c1 : cmpI m 1 = 1 := by unfold cmpI; rw [if_neg (by omega), if_neg (by omega)]
  obtain ⟨c, c2, c2'⟩ : ∃ c, cmpI a m = c ∧ 0 ≤ c := ⟨_, rfl, by unfold cmpI; rw [if_neg (by omega)]; split <;> decide⟩
  go_enter Try.func96, Try.ntmps96
  go_wp2
  obtain ⟨W0, hW0⟩ : ∃ W0, (((((w).alloc (.cells #[fv] 90)).alloc (.cells #[.int .u64 (dg a 0), .int .u64 (dg a 1), .int .u64 (dg a 2), .int .u64 (dg a 3)] 24)).alloc (.cells #[.int .u64 (dg b 0), .int .u64 (dg b 1), .int .u64 (dg b 2), .int .u64 (dg b 3)] 24)).alloc (.cells #[.int .u64 (dg m 0), .int .u64 (dg m 1), .int .u64 (dg m 2), .int .u64 (dg m 3)] 24)).alloc (.cells #[.int .u64 0, .int .u64 0, .int .u64 0, .int .u64 0] 24) = W0 := ⟨_, rfl⟩
  rw [hW0]
  have hS : W0.heap.size = w.heap.size + 1 + 1 + 1 + 1 + 1 := by rw [← hW0]; simp
  have d0 : W0.heap[w.heap.size]? = some (.cells #[fv] 90 (0, 0)) := by rw [← hW0]; exact alloc_old _ _ _ (by simp <;> omega) (alloc_old _ _ _ (by simp <;> omega) (alloc_old _ _ _ (by simp <;> omega) (alloc_old _ _ _ (by simp <;> omega) (alloc_new _ _ _ (by simp)))))
  have d1 : W0.heap[w.heap.size + 1]? = some (.cells #[.int .u64 (dg a 0), .int .u64 (dg a 1), .int .u64 (dg a 2), .int .u64 (dg a 3)] 24 (0, 0)) := by rw [← hW0]; exact alloc_old _ _ _ (by simp <;> omega) (alloc_old _ _ _ (by simp <;> omega) (alloc_old _ _ _ (by simp <;> omega) (alloc_new _ _ _ (by simp))))
  have d2 : W0.heap[w.heap.size + 1 + 1]? = some (.cells #[.int .u64 (dg b 0), .int .u64 (dg b 1), .int .u64 (dg b 2), .int .u64 (dg b 3)] 24 (0, 0)) := by rw [← hW0]; exact alloc_old _ _ _ (by simp <;> omega) (alloc_old _ _ _ (by simp <;> omega) (alloc_new _ _ _ (by simp)))
  have d3 : W0.heap[w.heap.size + 1 + 1 + 1]? = some (.cells #[.int .u64 (dg m 0), .int .u64 (dg m 1), .int .u64 (dg m 2), .int .u64 (dg m 3)] 24 (0, 0)) := by rw [← hW0]; exact alloc_old _ _ _ (by simp <;> omega) (alloc_new _ _ _ (by simp))
  have d4 : W0.heap[w.heap.size + 1 + 1 + 1 + 1]? = some (.cells #[.int .u64 0, .int .u64 0, .int .u64 0, .int .u64 0] 24 (0, 0)) := by rw [← hW0]; exact alloc_new _ _ _ (by simp)
  have hBw : Below w.heap.size w W0 := by rw [← hW0]; exact (((((Below.refl _ w).alloc (by simp <;> omega) _).alloc (by simp <;> omega) _).alloc (by simp <;> omega) _).alloc (by simp <;> omega) _).alloc (by simp <;> omega) _
  clear hW0 hS
  have hB0 : Below W0.heap.size W0 W0 := Below.refl _ _
  have hBd : Below W0.heap.size W0 W0.drew := (Below.refl _ _).drew
  have q00 := keep_cell (i := 0) d0 rfl
  have q10 := keep_cell (i := 0) d1 rfl
  have q11 := keep_cell (i := 1) d1 rfl
  have q12 := keep_cell (i := 2) d1 rfl
  have q13 := keep_cell (i := 3) d1 rfl
  have q20 := keep_cell (i := 0) d2 rfl
  have q21 := keep_cell (i := 1) d2 rfl
  have q22 := keep_cell (i := 2) d2 rfl
  have q23 := keep_cell (i := 3) d2 rfl
  have q30 := keep_cell (i := 0) d3 rfl
  have q31 := keep_cell (i := 1) d3 rfl
  have q32 := keep_cell (i := 2) d3 rfl
  have q33 := keep_cell (i := 3) d3 rfl
  have q40 := keep_cell (i := 0) d4 rfl
  have q41 := keep_cell (i := 1) d4 rfl
  have q42 := keep_cell (i := 2) d4 rfl
  have q43 := keep_cell (i := 3) d4 rfl
  have f40 := keep_free 0 d4
  have f41 := keep_free 1 d4
  have f42 := keep_free 2 d4
  have f43 := keep_free 3 d4
  go_region_with (first | (go_at_call 36; refine (of_one _).mono ?_; rintro e W ⟨rfl, hBx⟩; have hBy := below_next (W0 := W0) (by assumption) hBx) | (go_at_call 38; refine (cmp_at _ _ (by first | assumption | exact one_lt4) (by first | assumption | exact one_lt4) _).mono ?_; rintro e W ⟨rfl, hBx⟩; have hBy := below_next (W0 := W0) (by assumption) hBx))
  all_goals
    go_wp2
    have q0 := keep_set d4 (.int .u64 0) (.int .u64 0) (.int .u64 0) (.int .u64 0) (i := 0) rfl
    have q1 := keep_set d4 (.int .u64 0) (.int .u64 0) (.int .u64 0) (.int .u64 0) (i := 1) rfl
    have q2 := keep_set d4 (.int .u64 0) (.int .u64 0) (.int .u64 0) (.int .u64 0) (i := 2) rfl
    have q3 := keep_set d4 (.int .u64 0) (.int .u64 0) (.int .u64 0) (.int .u64 0) (i := 3) rfl
    refine bodyPost_ret (v := .tuple #[.agg #[.int .u64 0, .int .u64 0, .int .u64 0, .int .u64 0], .int .i64 1]) ?_ rfl ⟨rfl, four_below (hBw.trans ((by assumption : Below W0.heap.size W0 _).mono hBw.size)) (by omega) _ _ _ _⟩
    simp [results, go_sem, *]
end Go.Proofs.Ytdjnhnfofajpcaa
namespace Go.Proofs.Ytdjnhnfofajpcaa
open Go Go.Proofs Av Go.RowKit

set_option maxRecDepth 100000 in
set_option maxHeartbeats 2000000 in
theorem deed_bad3 (fv : Value) (a b m : Nat) (h1 : 1 < m) (h2 : a < m) (h3 : m ≤ b) (ha : a < B ^ 4) (hb : b < B ^ 4) (hm : m < B ^ 4) (w : World) :
    Calls PP 96 #[.agg #[fv], .agg #[.int .u64 (dg a 0), .int .u64 (dg a 1), .int .u64 (dg a 2), .int .u64 (dg a 3)], .agg #[.int .u64 (dg b 0), .int .u64 (dg b 1), .int .u64 (dg b 2), .int .u64 (dg b 3)], .agg #[.int .u64 (dg m 0), .int .u64 (dg m 1), .int .u64 (dg m 2), .int .u64 (dg m 3)]] w fun e w' => e = .returned (.tuple #[.agg #[.int .u64 0, .int .u64 0, .int .u64 0, .int .u64 0], .int .i64 1]) ∧ Below w.heap.size w w' := by
  have c1 : cmpI m 1 = 1 := by unfold cmpI; rw [if_neg (by omega), if_neg (by omega)]
  have c2 : cmpI a m = -1 := by unfold cmpI; rw [if_pos h2]
  obtain ⟨c, c3, c3'⟩ : ∃ c, cmpI b m = c ∧ 0 ≤ c := ⟨_, rfl, by unfold cmpI; rw [if_neg (by omega)]; split <;> decide⟩
  go_enter Try.func96, Try.ntmps96
  go_wp2
  obtain ⟨W0, hW0⟩ : ∃ W0, (((((w).alloc (.cells #[fv] 90)).alloc (.cells #[.int .u64 (dg a 0), .int .u64 (dg a 1), .int .u64 (dg a 2), .int .u64 (dg a 3)] 24)).alloc (.cells #[.int .u64 (dg b 0), .int .u64 (dg b 1), .int .u64 (dg b 2), .int .u64 (dg b 3)] 24)).alloc (.cells #[.int .u64 (dg m 0), .int .u64 (dg m 1), .int .u64 (dg m 2), .int .u64 (dg m 3)] 24)).alloc (.cells #[.int .u64 0, .int .u64 0, .int .u64 0, .int .u64 0] 24) = W0 := ⟨_, rfl⟩
  rw [hW0]
  have hS : W0.heap.size = w.heap.size + 1 + 1 + 1 + 1 + 1 := by rw [← hW0]; simp
  have d0 : W0.heap[w.heap.size]? = some (.cells #[fv] 90 (0, 0)) := by rw [← hW0]; exact alloc_old _ _ _ (by simp <;> omega) (alloc_old _ _ _ (by simp <;> omega) (alloc_old _ _ _ (by simp <;> omega) (alloc_old _ _ _ (by simp <;> omega) (alloc_new _ _ _ (by simp)))))
  have d1 : W0.heap[w.heap.size + 1]? = some (.cells #[.int .u64 (dg a 0), .int .u64 (dg a 1), .int .u64 (dg a 2), .int .u64 (dg a 3)] 24 (0, 0)) := by rw [← hW0]; exact alloc_old _ _ _ (by simp <;> omega) (alloc_old _ _ _ (by simp <;> omega) (alloc_old _ _ _ (by simp <;> omega) (alloc_new _ _ _ (by simp))))
  have d2 : W0.heap[w.heap.size + 1 + 1]? = some (.cells #[.int .u64 (dg b 0), .int .u64 (dg b 1), .int .u64 (dg b 2), .int .u64 (dg b 3)] 24 (0, 0)) := by rw [← hW0]; exact alloc_old _ _ _ (by simp <;> omega) (alloc_old _ _ _ (by simp <;> omega) (alloc_new _ _ _ (by simp)))
  have d3 : W0.heap[w.heap.size + 1 + 1 + 1]? = some (.cells #[.int .u64 (dg m 0), .int .u64 (dg m 1), .int .u64 (dg m 2), .int .u64 (dg m 3)] 24 (0, 0)) := by rw [← hW0]; exact alloc_old _ _ _ (by simp <;> omega) (alloc_new _ _ _ (by simp))
  have d4 : W0.heap[w.heap.size + 1 + 1 + 1 + 1]? = some (.cells #[.int .u64 0, .int .u64 0, .int .u64 0, .int .u64 0] 24 (0, 0)) := by rw [← hW0]; exact alloc_new _ _ _ (by simp)
  have hBw : Below w.heap.size w W0 := by rw [← hW0]; exact (((((Below.refl _ w).alloc (by simp <;> omega) _).alloc (by simp <;> omega) _).alloc (by simp <;> omega) _).alloc (by simp <;> omega) _).alloc (by simp <;> omega) _
  clear hW0 hS
  have hB0 : Below W0.heap.size W0 W0 := Below.refl _ _
  have hBd : Below W0.heap.size W0 W0.drew := (Below.refl _ _).drew
  have q00 := keep_cell (i := 0) d0 rfl
  have q10 := keep_cell (i := 0) d1 rfl
  have q11 := keep_cell (i := 1) d1 rfl
  have q12 := keep_cell (i := 2) d1 rfl
  have q13 := keep_cell (i := 3) d1 rfl
  have q20 := keep_cell (i := 0) d2 rfl
  have q21 := keep_cell (i := 1) d2 rfl
  have q22 := keep_cell (i := 2) d2 rfl
  have q23 := keep_cell (i := 3) d2 rfl
  have q30 := keep_cell (i := 0) d3 rfl
  have q31 := keep_cell (i := 1) d3 rfl
  have q32 := keep_cell (i := 2) d3 rfl
  have q33 := keep_cell (i := 3) d3 rfl
  have q40 := keep_cell (i := 0) d4 rfl
  have q41 := keep_cell (i := 1) d4 rfl
  have q42 := keep_cell (i := 2) d4 rfl
  have q43 := keep_cell (i := 3) d4 rfl
  have f40 := keep_free 0 d4
  have f41 := keep_free 1 d4
  have f42 := keep_free 2 d4
  have f43 := keep_free 3 d4
  go_region_with (first | (go_at_call 36; refine (of_one _).mono ?_; rintro e W ⟨rfl, hBx⟩; have hBy := below_next (W0 := W0) (by assumption) hBx) | (go_at_call 38; refine (cmp_at _ _ (by first | assumption | exact one_lt4) (by first | assumption | exact one_lt4) _).mono ?_; rintro e W ⟨rfl, hBx⟩; have hBy := below_next (W0 := W0) (by assumption) hBx))
  all_goals
    go_wp2
    have q0 := keep_set d4 (.int .u64 0) (.int .u64 0) (.int .u64 0) (.int .u64 0) (i := 0) rfl
    have q1 := keep_set d4 (.int .u64 0) (.int .u64 0) (.int .u64 0) (.int .u64 0) (i := 1) rfl
    have q2 := keep_set d4 (.int .u64 0) (.int .u64 0) (.int .u64 0) (.int .u64 0) (i := 2) rfl
    have q3 := keep_set d4 (.int .u64 0) (.int .u64 0) (.int .u64 0) (.int .u64 0) (i := 3) rfl
    refine bodyPost_ret (v := .tuple #[.agg #[.int .u64 0, .int .u64 0, .int .u64 0, .int .u64 0], .int .i64 1]) ?_ rfl ⟨rfl, four_below (hBw.trans ((by assumption : Below W0.heap.size W0 _).mono hBw.size)) (by omega) _ _ _ _⟩
    simp [results, go_sem, *]
end Go.Proofs.Ytdjnhnfofajpcaa
