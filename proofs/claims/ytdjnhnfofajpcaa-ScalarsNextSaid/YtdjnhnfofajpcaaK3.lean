/- mods' method of, and the functions of chapter 04 that go by it. -/
import Derived.Deep.RegionWith
import Derived.Test.YtdjnhnfofajpcaaK2
import Derived.Test.YtdjnhnfofajpcaaFe
namespace Go.Proofs.Ytdjnhnfofajpcaa
open Go Go.Proofs Av Go.RowKit

theorem cells_dg (a : Nat) : Value.agg (cells .u64 4 a) = .agg #[.int .u64 (dg a 0), .int .u64 (dg a 1), .int .u64 (dg a 2), .int .u64 (dg a 3)] := by
  rw [cells4]
  simp only [dg, Nat.pow_zero, Nat.div_one, Nat.pow_one]

def cmpI (a b : Nat) : Int := if a < b then -1 else if a = b then 0 else 1
theorem cmp_at (a b : Nat) (ha : a < B ^ 4) (hb : b < B ^ 4) (w : World) : Calls PP 38 #[.agg #[.int .u64 (dg a 0), .int .u64 (dg a 1), .int .u64 (dg a 2), .int .u64 (dg a 3)], .agg #[.int .u64 (dg b 0), .int .u64 (dg b 1), .int .u64 (dg b 2), .int .u64 (dg b 3)]] w fun e w' => e = .returned (.int .i64 (cmpI a b)) ∧ Below w.heap.size w w' := by
  rw [← cells_dg, ← cells_dg]
  refine (eCmp_ok.calls (args := [(.pv (.words .u64 4 a), .junk), (.pv (.words .u64 4 b), .junk)]) rfl trivial Try.func38 (by kernel_rfl) (by kernel_rfl) (vs := [.agg (cells .u64 4 a), .agg (cells .u64 4 b)]) (.cons ⟨rfl, WF4 ha⟩ (.cons ⟨rfl, WF4 hb⟩ .nil))).mono ?_
  rintro e w' ⟨v, rfl, ⟨rfl, _⟩, h2⟩
  exact ⟨rfl, h2⟩
theorem of_at (n : Nat) (hn : n < B) (w : World) : Calls PP 36 #[.int .u64 (n : Int)] w fun e w' => e = .returned (.agg #[.int .u64 (dg n 0), .int .u64 (dg n 1), .int .u64 (dg n 2), .int .u64 (dg n 3)]) ∧ Below w.heap.size w w' := by
  rw [← cells_dg]
  refine (eOf_ok.calls (args := [(.pv (.nat .u64 n), .junk)]) rfl trivial Try.func36 (by kernel_rfl) (by kernel_rfl) (vs := [.int .u64 (n : Int)]) (.cons (PV.natR rfl hn) .nil)).mono ?_
  rintro e w' ⟨v, rfl, ⟨rfl, _⟩, h2⟩
  exact ⟨rfl, h2⟩
theorem of_one (w : World) : Calls PP 36 #[.int .u64 1] w fun e w' => e = .returned (.agg #[.int .u64 (dg 1 0), .int .u64 (dg 1 1), .int .u64 (dg 1 2), .int .u64 (dg 1 3)]) ∧ Below w.heap.size w w' := of_at 1 (by decide) w
theorem of_nil (w : World) : Calls PP 36 #[.int .u64 0] w fun e w' => e = .returned (.agg #[.int .u64 (dg 0 0), .int .u64 (dg 0 1), .int .u64 (dg 0 2), .int .u64 (dg 0 3)]) ∧ Below w.heap.size w w' := of_at 0 (by decide) w
theorem one_lt4 : 1 < B ^ 4 := by decide

theorem below_next {W0 W W' : World} (h : Below W0.heap.size W0 W) (h' : Below W.heap.size W W') : Below W0.heap.size W0 W' := h.trans (h'.mono h.size)
theorem keep_cell {W0 : World} {b i : Nat} {cs : Array Value} {e : TypeId} {v : Value} (h : W0.heap[b]? = some (.cells cs e (0, 0))) (hv : cs[i]? = some v) : ∀ W, Below W0.heap.size W0 W → W.cell? ⟨b, i, none⟩ = some v := fun W hW => by
  rw [cell_of_row W b i cs e (0, 0) ((hW.block b (Array.getElem?_eq_some_iff.1 h).1).trans h), hv]
theorem keep_free {W0 : World} {b : Nat} {cs : Array Value} {e : TypeId} (i : Nat) (h : W0.heap[b]? = some (.cells cs e (0, 0))) : ∀ W, Below W0.heap.size W0 W → W.frozen? ⟨b, i, none⟩ = false := fun W hW =>
  frozen_of_row W b i cs e ((hW.block b (Array.getElem?_eq_some_iff.1 h).1).trans h)
theorem alloc_new (w : World) (o : Obj) (k : Nat) (h : k = w.heap.size) : (w.alloc o).heap[k]? = some o := by rw [h]; exact World.alloc_heap_new w o
theorem alloc_old (w : World) (o : Obj) (k : Nat) (h : k < w.heap.size) {x : Obj} (hx : w.heap[k]? = some x) : (w.alloc o).heap[k]? = some x := (Below.heap_alloc w o k h).trans hx

theorem four_set {W : World} {b : Nat} {c0 c1 c2 c3 : Value} {e : TypeId} (h : W.heap[b]? = some (.cells #[c0, c1, c2, c3] e (0, 0))) (x0 x1 x2 x3 : Value) :
    ((((W.setCell ⟨b, 0, none⟩ x0).setCell ⟨b, 1, none⟩ x1).setCell ⟨b, 2, none⟩ x2).setCell ⟨b, 3, none⟩ x3).heap[b]? = some (.cells #[x0, x1, x2, x3] e (0, 0)) :=
  heap_setCell_same _ _ 3 _ _ _ (heap_setCell_same _ _ 2 _ _ _ (heap_setCell_same _ _ 1 _ _ _ (heap_setCell_same _ _ 0 _ _ _ h)))
theorem four_below {n b : Nat} {w W : World} (h : Below n w W) (hb : n ≤ b) (x0 x1 x2 x3 : Value) :
    Below n w ((((W.setCell ⟨b, 0, none⟩ x0).setCell ⟨b, 1, none⟩ x1).setCell ⟨b, 2, none⟩ x2).setCell ⟨b, 3, none⟩ x3) :=
  (((h.setCell (p := ⟨b, 0, none⟩) hb _).setCell (p := ⟨b, 1, none⟩) hb _).setCell (p := ⟨b, 2, none⟩) hb _).setCell (p := ⟨b, 3, none⟩) hb _
theorem row_cell {W : World} {b i : Nat} {cs : Array Value} {e : TypeId} {v : Value} (h : W.heap[b]? = some (.cells cs e (0, 0))) (hv : cs[i]? = some v) : W.cell? ⟨b, i, none⟩ = some v := by
  rw [cell_of_row W b i cs e (0, 0) h, hv]
theorem keep_set {W0 : World} {b : Nat} {c0 c1 c2 c3 : Value} {e : TypeId} (d : W0.heap[b]? = some (.cells #[c0, c1, c2, c3] e (0, 0))) (x0 x1 x2 x3 : Value) {i : Nat} {v : Value} (hv : #[x0, x1, x2, x3][i]? = some v) :
    ∀ W, Below W0.heap.size W0 W → ((((W.setCell ⟨b, 0, none⟩ x0).setCell ⟨b, 1, none⟩ x1).setCell ⟨b, 2, none⟩ x2).setCell ⟨b, 3, none⟩ x3).cell? ⟨b, i, none⟩ = some v := fun _ hW =>
  row_cell (four_set ((hW.block _ (Array.getElem?_eq_some_iff.1 d).1).trans d) x0 x1 x2 x3) hv
theorem size4 {W : World} {b i : Nat} {v : Value} : (W.setCell ⟨b, i, none⟩ v).heap.size = W.heap.size := World.size_setCell _ _ _

set_option maxRecDepth 100000 in
set_option maxHeartbeats 2000000 in
/-- The method of, where the numbers may be: what the function value does. -/
theorem deed_ok (g : FuncId) (cap : Array Value) (a b m r : Nat) (h1 : 1 < m) (h2 : a < m) (h3 : b < m) (ha : a < B ^ 4) (hb : b < B ^ 4) (hm : m < B ^ 4) (w : World)
    (hg : ∀ args w, (callFunc g args).run PP w = .ok (.enter g args) w)
    (hf : ∀ w', Below w.heap.size w w' → Calls PP g (#[.agg #[.int .u64 (dg a 0), .int .u64 (dg a 1), .int .u64 (dg a 2), .int .u64 (dg a 3)], .agg #[.int .u64 (dg b 0), .int .u64 (dg b 1), .int .u64 (dg b 2), .int .u64 (dg b 3)], .agg #[.int .u64 (dg m 0), .int .u64 (dg m 1), .int .u64 (dg m 2), .int .u64 (dg m 3)]] ++ cap) w' fun e w'' => e = .returned (.agg #[.int .u64 (dg r 0), .int .u64 (dg r 1), .int .u64 (dg r 2), .int .u64 (dg r 3)]) ∧ Below w'.heap.size w' w'') :
    Calls PP 96 #[.agg #[.func (.func g) #[] cap], .agg #[.int .u64 (dg a 0), .int .u64 (dg a 1), .int .u64 (dg a 2), .int .u64 (dg a 3)], .agg #[.int .u64 (dg b 0), .int .u64 (dg b 1), .int .u64 (dg b 2), .int .u64 (dg b 3)], .agg #[.int .u64 (dg m 0), .int .u64 (dg m 1), .int .u64 (dg m 2), .int .u64 (dg m 3)]] w fun e w' => e = .returned (.tuple #[.agg #[.int .u64 (dg r 0), .int .u64 (dg r 1), .int .u64 (dg r 2), .int .u64 (dg r 3)], .int .i64 0]) ∧ Below w.heap.size w w' := by
  have c1 : cmpI m 1 = 1 := by unfold cmpI; rw [if_neg (by omega), if_neg (by omega)]
  have c2 : cmpI a m = -1 := by unfold cmpI; rw [if_pos h2]
  have c3 : cmpI b m = -1 := by unfold cmpI; rw [if_pos h3]
  go_enter Try.func96, Try.ntmps96
  go_wp2
  obtain ⟨W0, hW0⟩ : ∃ W0, (((((w).alloc (.cells #[.func (.func g) #[] cap] 90)).alloc (.cells #[.int .u64 (dg a 0), .int .u64 (dg a 1), .int .u64 (dg a 2), .int .u64 (dg a 3)] 24)).alloc (.cells #[.int .u64 (dg b 0), .int .u64 (dg b 1), .int .u64 (dg b 2), .int .u64 (dg b 3)] 24)).alloc (.cells #[.int .u64 (dg m 0), .int .u64 (dg m 1), .int .u64 (dg m 2), .int .u64 (dg m 3)] 24)).alloc (.cells #[.int .u64 0, .int .u64 0, .int .u64 0, .int .u64 0] 24) = W0 := ⟨_, rfl⟩
  rw [hW0]
  have hS : W0.heap.size = w.heap.size + 1 + 1 + 1 + 1 + 1 := by rw [← hW0]; simp
  have d0 : W0.heap[w.heap.size]? = some (.cells #[.func (.func g) #[] cap] 90 (0, 0)) := by rw [← hW0]; exact alloc_old _ _ _ (by simp <;> omega) (alloc_old _ _ _ (by simp <;> omega) (alloc_old _ _ _ (by simp <;> omega) (alloc_old _ _ _ (by simp <;> omega) (alloc_new _ _ _ (by simp)))))
  have d1 : W0.heap[w.heap.size + 1]? = some (.cells #[.int .u64 (dg a 0), .int .u64 (dg a 1), .int .u64 (dg a 2), .int .u64 (dg a 3)] 24 (0, 0)) := by rw [← hW0]; exact alloc_old _ _ _ (by simp <;> omega) (alloc_old _ _ _ (by simp <;> omega) (alloc_old _ _ _ (by simp <;> omega) (alloc_new _ _ _ (by simp))))
  have d2 : W0.heap[w.heap.size + 1 + 1]? = some (.cells #[.int .u64 (dg b 0), .int .u64 (dg b 1), .int .u64 (dg b 2), .int .u64 (dg b 3)] 24 (0, 0)) := by rw [← hW0]; exact alloc_old _ _ _ (by simp <;> omega) (alloc_old _ _ _ (by simp <;> omega) (alloc_new _ _ _ (by simp)))
  have d3 : W0.heap[w.heap.size + 1 + 1 + 1]? = some (.cells #[.int .u64 (dg m 0), .int .u64 (dg m 1), .int .u64 (dg m 2), .int .u64 (dg m 3)] 24 (0, 0)) := by rw [← hW0]; exact alloc_old _ _ _ (by simp <;> omega) (alloc_new _ _ _ (by simp))
  have d4 : W0.heap[w.heap.size + 1 + 1 + 1 + 1]? = some (.cells #[.int .u64 0, .int .u64 0, .int .u64 0, .int .u64 0] 24 (0, 0)) := by rw [← hW0]; exact alloc_new _ _ _ (by simp)
  have hBw : Below w.heap.size w W0 := by rw [← hW0]; exact (((((Below.refl _ w).alloc (by simp <;> omega) _).alloc (by simp <;> omega) _).alloc (by simp <;> omega) _).alloc (by simp <;> omega) _).alloc (by simp <;> omega) _
  clear hW0 hS
  have hB0 : Below W0.heap.size W0 W0 := Below.refl _ _
  have hBd : Below W0.heap.size W0 W0.drew := (Below.refl _ _).drew
  have q00 := keep_cell (i := 0) d0 rfl
  have q10 := keep_cell (i := 0) d1 rfl
  have q11 := keep_cell (i := 1) d1 rfl
  have q12 := keep_cell (i := 2) d1 rfl
  have q13 := keep_cell (i := 3) d1 rfl
  have q20 := keep_cell (i := 0) d2 rfl
  have q21 := keep_cell (i := 1) d2 rfl
  have q22 := keep_cell (i := 2) d2 rfl
  have q23 := keep_cell (i := 3) d2 rfl
  have q30 := keep_cell (i := 0) d3 rfl
  have q31 := keep_cell (i := 1) d3 rfl
  have q32 := keep_cell (i := 2) d3 rfl
  have q33 := keep_cell (i := 3) d3 rfl
  have q40 := keep_cell (i := 0) d4 rfl
  have q41 := keep_cell (i := 1) d4 rfl
  have q42 := keep_cell (i := 2) d4 rfl
  have q43 := keep_cell (i := 3) d4 rfl
  have f40 := keep_free 0 d4
  have f41 := keep_free 1 d4
  have f42 := keep_free 2 d4
  have f43 := keep_free 3 d4
  go_region_with (first | (go_at_call 36; refine (of_one _).mono ?_; rintro e W ⟨rfl, hBx⟩; have hBy := below_next (W0 := W0) (by assumption) hBx) | (go_at_call 38; refine (cmp_at _ _ (by first | assumption | exact one_lt4) (by first | assumption | exact one_lt4) _).mono ?_; rintro e W ⟨rfl, hBx⟩; have hBy := below_next (W0 := W0) (by assumption) hBx))
  all_goals go_wp2
  all_goals
    refine (hf _ (hBw.trans ((by assumption : Below W0.heap.size W0 _).mono hBw.size))).mono ?_
    rintro e W' ⟨rfl, hBx'⟩
    have hBy' := below_next (W0 := W0) (by assumption) hBx'
    go_wp2
    have d8 := four_set ((hBy'.block _ (Array.getElem?_eq_some_iff.1 d4).1).trans d4) (.int .u64 (dg r 0)) (.int .u64 (dg r 1)) (.int .u64 (dg r 2)) (.int .u64 (dg r 3))
    have q0 := row_cell (i := 0) d8 rfl
    have q1 := row_cell (i := 1) d8 rfl
    have q2 := row_cell (i := 2) d8 rfl
    have q3 := row_cell (i := 3) d8 rfl
    refine bodyPost_ret (v := .tuple #[.agg #[.int .u64 (dg r 0), .int .u64 (dg r 1), .int .u64 (dg r 2), .int .u64 (dg r 3)], .int .i64 0]) ?_ rfl ⟨rfl, four_below (hBw.trans (hBy'.mono hBw.size)) (by omega) _ _ _ _⟩
    simp [results, go_sem, q0, q1, q2, q3]
end Go.Proofs.Ytdjnhnfofajpcaa
