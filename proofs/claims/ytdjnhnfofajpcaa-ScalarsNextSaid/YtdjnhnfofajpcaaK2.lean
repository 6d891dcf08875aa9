/- divides.Wide. -/
import Derived.Deep.RegionWith
import Derived.RangeFuncCalls
import Derived.Test.YtdjnhnfofajpcaaK1
import Derived.Test.YtdjnhnfofajpcaaFb
namespace Go.Proofs.Ytdjnhnfofajpcaa
open Go Go.Proofs Av Go.RowKit

/-- What is left when these words have come. -/
def rstep (N m r x : Nat) : Nat := (r * B + N / B ^ x % B) % m
def rf (N m : Nat) (pre : List Nat) : Nat := pre.foldl (rstep N m) 0
def rI (N m : Nat) (pre : List Nat) : Int := (rf N m pre : Int)
theorem rf_snoc (N m : Nat) (pre : List Nat) (x : Nat) : rf N m (pre ++ [x]) = rstep N m (rf N m pre) x := by
  unfold rf
  rw [List.foldl_append, List.foldl_cons, List.foldl_nil]
theorem rf_lt (N : Nat) {m : Nat} (hm : 0 < m) (pre : List Nat) : rf N m pre < m := by
  rcases List.eq_nil_or_concat pre with rfl | ⟨l, x, rfl⟩
  · exact hm
  · rw [List.concat_eq_append, rf_snoc]
    exact Nat.mod_lt _ hm

theorem div64_at (N m : Nat) (hm : 0 < m) (hB : m < B) (pre : List Nat) (x : Nat) (w : World) : Calls PP 89 #[.int .u64 (rI N m pre), .int .u64 (dg N x), .int .u64 (m : Int)] w fun e w' =>
    ∃ q, e = .returned (.tuple #[.int .u64 q, .int .u64 (rI N m (pre ++ [x]))]) ∧ Below w.heap.size w w' := by
  have hr := rf_lt N hm pre
  have hd : N / B ^ x % B < B := Nat.mod_lt _ B_pos
  refine (eDiv64_ok.calls (args := [(.pv (.nat .u64 (rf N m pre)), .junk), (.pv (.nat .u64 (N / B ^ x % B)), .junk), (.pv (.nat .u64 m), .junk)]) rfl hr Try.func89 (by kernel_rfl) (by kernel_rfl)
    (.cons (PV.natR rfl (Nat.lt_trans hr hB)) (.cons (PV.natR rfl hd) (.cons (PV.natR rfl hB) .nil)))).mono ?_
  rintro e w' ⟨v, rfl, ⟨a, b, rfl, ⟨rfl, _⟩, rfl, _⟩, h2⟩
  exact ⟨_, by rw [rI, rf_snoc, rstep], h2⟩

theorem own_block {α : Type} (B k : Nat) (f : α → Array Value) (t : TypeId) : OwnFrom B fun (s : α) W => W.heap[k]? = some (.cells (f s) t (0, 0)) := by
  intro s W W' row hs hg hr
  refine (hg.block k (Array.getElem?_eq_some_iff.1 hs).1 fun e => ?_).trans hs
  obtain ⟨_, o, ho, hc⟩ := hr k e.symm
  rw [hs] at ho
  cases ho
  cases hc

theorem own_size {α : Type} (B k : Nat) : OwnFrom B fun (_ : α) W => k ≤ W.heap.size := by
  intro s W W' row hs hg hr
  exact Nat.le_trans hs hg.size
theorem keepsFrom_below {B : Nat} {W W' : World} (h : Below W.heap.size W W') : KeepsFrom B W W' := ⟨h.size, fun k _ _ hk _ => (h.block k (Array.getElem?_eq_some_iff.1 hk).1).trans hk⟩

theorem heap_new (w : World) (o : Obj) (k : Nat) (h : k = w.heap.size) : (w.alloc o).heap[k]? = some o := by rw [h]; exact World.alloc_heap_new w o

/-- The end is a return. -/
def okPost (Q : Exit → Act → World → Prop) : Exit → Act → World → Prop
  | .ret, a, w => Q .ret a w
  | _, _, _ => False
theorem okPost_le {Q : Exit → Act → World → Prop} : ∀ e a w, okPost Q e a w → Q e a w := by
  intro e a w h
  cases e <;> first | exact h | exact h.elim

attribute [local go_sem] Oper.semAt_some
set_option maxRecDepth 100000 in
set_option maxHeartbeats 2000000 in
theorem wide_short (low high : Nat) (hl : low < B ^ 4) (hh : high < B ^ 4) (m : Nat) (hm0 : 0 < m) (hmB : m < B) (w : World)
    (hs : ∀ w : World, Calls PP 88 #[.agg #[.int .u64 (m : Int), .int .u64 0, .int .u64 0, .int .u64 0]] w fun e w' => e = .returned (.bool true) ∧ Below w.heap.size w w') :
    Calls PP 55 #[.agg (cells .u64 4 low), .agg (cells .u64 4 high), .agg #[.int .u64 (m : Int), .int .u64 0, .int .u64 0, .int .u64 0]] w fun e w' =>
      e = .returned (.tuple #[.agg #[.int .u64 (rI (low + high * B ^ 4) m (down 8)), .int .u64 0, .int .u64 0, .int .u64 0], .int .i64 0]) ∧ Below w.heap.size w w' := by
  refine (callsIn_wide (n := 3)).1 ?_
  refine callsIn_of_wp_marks Try.func55 rfl trivial ?_ rfl
  refine wpIn_wide.2 (wp_mono (Q := okPost _) ?_ okPost_le)
  have hq : ∀ w, (Op.equalIn 10000 24 (.agg #[.int .u64 (m : Int), .int .u64 0, .int .u64 0, .int .u64 0]) (.agg #[.int .u64 0, .int .u64 0, .int .u64 0, .int .u64 0])).run PP w = .ok false w := fun w => by
    have hm : ((m : Int) == 0) = false := by simp; omega
    have := eq4d 9998 m 0 0 0 0 0 0 0 w
    rw [hm] at this
    exact this
  simp only [Try.ntmps55, List.size_toArray, List.length_cons, List.length_nil, Nat.reduceAdd, Nat.reduceSub, Array.replicate_succ, Array.replicate_zero, List.push_toArray, List.append_toArray, List.nil_append, List.cons_append]
  go_wp2_with (go_at_call 88; refine (hs _).mono ?_; rintro e W1 ⟨rfl, hB1⟩)
  have hz : w.heap.size + 4 ≤ W1.heap.size := by have := hB1.size; simp at this; omega
  have hBw : Below w.heap.size w W1 := (((((Below.refl _ w).alloc (Nat.le_refl _) _).alloc (by simp <;> omega) _).alloc (by simp <;> omega) _).alloc (by simp <;> omega) _).trans (hB1.mono (by simp <;> omega))
  have b0 : W1.heap[w.heap.size]? = some (.cells (cells .u64 4 low) 24 (0, 0)) := by
    rw [hB1.block _ (by simp <;> omega), Below.heap_alloc _ _ _ (by simp <;> omega), Below.heap_alloc _ _ _ (by simp <;> omega), Below.heap_alloc _ _ _ (by simp)]
    exact World.alloc_heap_new w _
  have b1 : W1.heap[w.heap.size + 1]? = some (.cells (cells .u64 4 high) 24 (0, 0)) := by
    rw [hB1.block _ (by simp <;> omega), Below.heap_alloc _ _ _ (by simp <;> omega), Below.heap_alloc _ _ _ (by simp)]
    exact heap_new _ _ _ (by simp)
  have b2 : W1.heap[w.heap.size + 1 + 1]? = some (.cells #[.int .u64 (m : Int), .int .u64 0, .int .u64 0, .int .u64 0] 24 (0, 0)) := by
    rw [hB1.block _ (by simp), Below.heap_alloc _ _ _ (by simp)]
    exact heap_new _ _ _ (by simp)
  have b3 : W1.heap[w.heap.size + 1 + 1 + 1]? = some (.cells #[.int .u64 0, .int .u64 0, .int .u64 0, .int .u64 0] 24 (0, 0)) := by
    rw [hB1.block _ (by simp)]
    exact heap_new _ _ _ (by simp)
  clear hB1
  generalize hN : w.heap.size = n0 at *
  have b0d : W1.drew.heap[n0]? = some (.cells (cells .u64 4 low) 24 (0, 0)) := b0
  go_region_with (go_at_call 92; refine (concat_calls W1.heap.size n0 (n0 + 1) low high 24 24 _ hl ?_ ?_ ?_ ?_ ?_ hh).mono ?_; simp; simp; simp; (exact (Below.heap_alloc W1 _ n0 (by omega)).trans b0); (exact (Below.heap_alloc W1 _ (n0 + 1) (by omega)).trans b1); rintro e W2 ⟨b, c, hc8, rfl, hb, hrow, hB2⟩)
  go_wp2_with (go_at_call 93; refine (backward_calls _ _ _ _).mono ?_; rintro e W3 ⟨rfl, rfl⟩)
  have hb : W1.heap.size + 1 ≤ b := by simpa using hb
  have hz2 : W1.heap.size + 1 ≤ W2.heap.size := by have := hB2.size; simpa using this
  have hB2' : Below (W1.heap.size + 1) (W1.alloc (.cells #[.slice (some ⟨n0, 0, none⟩) 4 4, .slice (some ⟨n0 + 1, 0, none⟩) 4 4] 73)).drew W2 := by simpa using hB2
  have hBw2 : Below n0 w W2 := ((hBw.alloc (by omega) _).drew).trans (hB2'.mono (by omega))
  have c2 : W2.heap[n0 + 1 + 1]? = some (.cells #[.int .u64 (m : Int), .int .u64 0, .int .u64 0, .int .u64 0] 24 (0, 0)) :=
    (hB2'.block _ (by omega)).trans ((Below.heap_alloc W1 _ _ (by omega)).trans b2)
  have c3 : W2.heap[n0 + 1 + 1 + 1]? = some (.cells #[.int .u64 0, .int .u64 0, .int .u64 0, .int .u64 0] 24 (0, 0)) :=
    (hB2'.block _ (by omega)).trans ((Below.heap_alloc W1 _ _ (by omega)).trans b3)
  have hbz : b < W2.heap.size := (Array.getElem?_eq_some_iff.1 hrow).1
  obtain ⟨N, hNN⟩ : ∃ N, low + high * B ^ 4 = N := ⟨_, rfl⟩
  rw [hNN] at hrow
  clear hB2 b0 b1 b2 b3 b0d
  refine (wpIn_wide (n := 3)).1 ?_
  refine wpIn_rangeFunc_ownG rfl (by decide) (gf := 115) (lb := #[.pointer (some ⟨W2.heap.size, 0, none⟩)]) rfl trivial (enters_of Try.func115 (by kernel_rfl) rfl)
    (backward_stops 2 W2.heap.size b c N 22 hc8 _ (by simp) ((Below.heap_alloc W2 _ b hbz).trans hrow) (by simp)) Keep2.trans
    (fun W l o o' hl' ho _ _ => ⟨World.putObj_heap_other (by simp at hl'; omega), World.putObj_heap_other (by simp at hl'; omega)⟩) (Below.refl _ _) (fun _ => rfl)
    (fun pre W => (W.heap[n0 + 1 + 1]? = some (.cells #[.int .u64 (m : Int), .int .u64 0, .int .u64 0, .int .u64 0] 24 (0, 0)) ∧ W.heap[n0 + 1 + 1 + 1]? = some (.cells #[.int .u64 (rI N m pre), .int .u64 0, .int .u64 0, .int .u64 0] 24 (0, 0))) ∧ Below n0 w W ∧ W2.heap.size + 1 ≤ W.heap.size)
    (fun _ _ _ => False)
    (OwnFrom.and (OwnFrom.and (own_block _ _ (fun _ => #[.int .u64 (m : Int), .int .u64 0, .int .u64 0, .int .u64 0]) 24) (own_block _ _ (fun pre => #[.int .u64 (rI N m pre), .int .u64 0, .int .u64 0, .int .u64 0]) 24)) (OwnFrom.and (ownFrom_below (by omega) (by simp; omega)) (own_size _ _)))
    (fun _ _ _ _ _ hs _ _ => hs)
    ⟨⟨(Below.heap_alloc W2 _ _ (by omega)).trans c2, (Below.heap_alloc W2 _ _ (by omega)).trans c3⟩, hBw2.alloc (by omega) _, by simp⟩
    (fun x => { tmps := #[.agg (cells .u64 4 low), .agg (cells .u64 4 high), .agg #[.int .u64 (m : Int), .int .u64 0, .int .u64 0, .int .u64 0], .pointer (some ⟨n0, 0, none⟩), .pointer (some ⟨n0 + 1, 0, none⟩), .pointer (some ⟨n0 + 1 + 1, 0, none⟩), .pointer (some ⟨n0 + 1 + 1 + 1, 0, none⟩), .int .i64 0,
      .slice (some ⟨b, 0, none⟩) 8 c, undef, .int .u64 (dg N x), undef, undef, undef, .bool false, .agg #[.int .u64 (m : Int), .int .u64 0, .int .u64 0, .int .u64 0], .agg #[.int .u64 0, .int .u64 0, .int .u64 0, .int .u64 0], .bool false, undef, .bool true,
      .agg #[.int .u64 (m : Int), .int .u64 0, .int .u64 0, .int .u64 0], .bool true, .slice (some ⟨n0, 0, none⟩) 4 4, .slice (some ⟨n0 + 1, 0, none⟩) 4 4, .slice (some ⟨W1.heap.size, 0, none⟩) 2 2, .slice (some ⟨b, 0, none⟩) 8 c, .slice (some ⟨b, 0, none⟩) 8 c,
      .func (.func 115) #[] #[.pointer (some ⟨W2.heap.size, 0, none⟩)], .int .i64 (x : Int), .int .u64 (dg N x), undef, undef, undef, undef, undef, undef, undef, undef, undef, undef, undef, undef, undef, undef, undef, undef, undef, undef, undef, undef, undef, undef, undef, undef, undef, undef, undef, undef, undef, undef, undef, undef, undef], defers := [] }) ?assign ?body ?done ?stop
  case assign =>
    intro l x W K hK
    gi_wp2
    exact hK
  case body =>
    rintro l pre x W ⟨⟨d2, d3⟩, hB, hsz⟩ _
    have k0 : W.cell? ⟨n0 + 1 + 1, 0, none⟩ = some (.int .u64 (m : Int)) := by rw [cell_of_row W _ 0 _ _ _ d2]; rfl
    have k1 : W.cell? ⟨n0 + 1 + 1 + 1, 0, none⟩ = some (.int .u64 (rI N m pre)) := by rw [cell_of_row W _ 0 _ _ _ d3]; rfl
    gi_wp2_with (refine ⟨trivial, ?_⟩; gi_at_call 89; refine (CallsIn.inRound l (callsIn_wide.2 (div64_at N m hm0 hmB pre x _))).mono ?_; rintro e W' ⟨q, rfl, hB'⟩; have d3' := (hB'.block _ (Array.getElem?_eq_some_iff.1 d3).1).trans d3; have k3 : W'.cell? ⟨n0 + 1 + 1 + 1, 0, none⟩ = some (.int .u64 (rI N m pre)) := (by rw [cell_of_row W' _ 0 _ _ _ d3']; rfl); have f3 := frozen_of_row W' _ 0 _ _ d3')
    have hn3 : n0 + 1 + 1 + 1 < W2.heap.size := by omega
    exact ⟨(keepsFrom_below hB').trans ((KeepsOthers.setCell _ _ _).from _),
      ⟨(heap_setCell_other W' _ _ _ (by dsimp only; omega)).trans (hB'.block _ (by omega)), (heap_setCell_other W' _ _ _ (by dsimp only; omega)).trans (hB'.block _ (by omega))⟩,
      ⟨(heap_setCell_other W' _ _ _ (by dsimp only; omega)).trans ((hB'.block _ (by omega)).trans d2), (heap_setCell_same W' _ 0 _ _ _ d3')⟩,
      (hB.trans (hB'.mono (by omega))).setCell (p := ⟨n0 + 1 + 1 + 1, 0, none⟩) (by dsimp only; omega) _, by rw [World.size_setCell]; have := hB'.size; omega⟩
  case done =>
    rintro D ys W hD rfl ⟨⟨d2, d3⟩, hB, hsz⟩ hK
    have k0 : W.cell? ⟨n0 + 1 + 1 + 1, 0, none⟩ = some (.int .u64 (rI N m (down 8))) := by rw [cell_of_row W _ 0 _ _ _ d3]; rfl
    have k1 : W.cell? ⟨n0 + 1 + 1 + 1, 1, none⟩ = some (.int .u64 0) := by rw [cell_of_row W _ 1 _ _ _ d3]; rfl
    have k2 : W.cell? ⟨n0 + 1 + 1 + 1, 2, none⟩ = some (.int .u64 0) := by rw [cell_of_row W _ 2 _ _ _ d3]; rfl
    have k3 : W.cell? ⟨n0 + 1 + 1 + 1, 3, none⟩ = some (.int .u64 0) := by rw [cell_of_row W _ 3 _ _ _ d3]; rfl
    have f0 := frozen_of_row W _ 0 _ _ d3
    have f1 := frozen_of_row W _ 1 _ _ d3
    have f2 := frozen_of_row W _ 2 _ _ d3
    have f3 := frozen_of_row W _ 3 _ _ d3
    go_wp2
    obtain ⟨r, hr⟩ : ∃ r, rI N m (down 8) = r := ⟨_, rfl⟩
    rw [hNN]
    simp only [hr] at *
    obtain ⟨W4, hW4⟩ : ∃ W4, (((W.setCell ⟨n0 + 1 + 1 + 1, 0, none⟩ (.int .u64 r)).setCell ⟨n0 + 1 + 1 + 1, 1, none⟩ (.int .u64 0)).setCell ⟨n0 + 1 + 1 + 1, 2, none⟩ (.int .u64 0)).setCell ⟨n0 + 1 + 1 + 1, 3, none⟩ (.int .u64 0) = W4 := ⟨_, rfl⟩
    have hK4 : W4.heap[D]? = some (.deferred (some [])) := by
      rw [← hW4]
      exact ((((KeepsOthers.setCell _ _ _).trans (KeepsOthers.setCell _ _ _)).trans (KeepsOthers.setCell _ _ _)).trans (KeepsOthers.setCell _ _ _)).same D _ hK rfl
    have hB4 : Below n0 w W4 := by
      rw [← hW4]
      exact (((hB.setCell (p := ⟨n0 + 1 + 1 + 1, 0, none⟩) (by dsimp only; omega) _).setCell (p := ⟨n0 + 1 + 1 + 1, 1, none⟩) (by dsimp only; omega) _).setCell (p := ⟨n0 + 1 + 1 + 1, 2, none⟩) (by dsimp only; omega) _).setCell (p := ⟨n0 + 1 + 1 + 1, 3, none⟩) (by dsimp only; omega) _
    have d4 : W4.heap[n0 + 1 + 1 + 1]? = some (.cells #[.int .u64 r, .int .u64 0, .int .u64 0, .int .u64 0] 24 (0, 0)) := by
      rw [← hW4]
      exact heap_setCell_same _ _ 3 _ _ _ (heap_setCell_same _ _ 2 _ _ _ (heap_setCell_same _ _ 1 _ _ _ (heap_setCell_same _ _ 0 _ _ _ d3)))
    rw [hW4]
    have hD2 : n0 + 1 + 1 + 1 ≠ D := by simp at hD; omega
    have d5 : (W4.putObj D (.deferred none)).heap[n0 + 1 + 1 + 1]? = some (.cells #[.int .u64 r, .int .u64 0, .int .u64 0, .int .u64 0] 24 (0, 0)) := (World.putObj_heap_other hD2).trans d4
    have q0 : (W4.putObj D (.deferred none)).cell? ⟨n0 + 1 + 1 + 1, 0, none⟩ = some (.int .u64 r) := by rw [cell_of_row _ _ 0 _ _ _ d5]; rfl
    have q1 : (W4.putObj D (.deferred none)).cell? ⟨n0 + 1 + 1 + 1, 1, none⟩ = some (.int .u64 0) := by rw [cell_of_row _ _ 1 _ _ _ d5]; rfl
    have q2 : (W4.putObj D (.deferred none)).cell? ⟨n0 + 1 + 1 + 1, 2, none⟩ = some (.int .u64 0) := by rw [cell_of_row _ _ 2 _ _ _ d5]; rfl
    have q3 : (W4.putObj D (.deferred none)).cell? ⟨n0 + 1 + 1 + 1, 3, none⟩ = some (.int .u64 0) := by rw [cell_of_row _ _ 3 _ _ _ d5]; rfl
    refine ⟨by simp, .inl ⟨_, _, rfl, run_takeDeferred hK4, ?_⟩⟩
    refine ⟨.tuple #[.agg #[.int .u64 r, .int .u64 0, .int .u64 0, .int .u64 0], .int .i64 0], ?_, rfl, ?_⟩
    · simp [results, go_sem, q0, q1, q2, q3]
    · rw [hN]
      exact hB4.trans (belowK_b (w := w) (by omega) W4 D _ _ (by simp at hD; omega) hK4 rfl rfl)
  case stop =>
    rintro D c pre W _ _ h _
    exact h.elim
end Go.Proofs.Ytdjnhnfofajpcaa
