/- slices.Grow, slices.Concat, slices.Backward, as divides.Wide calls them. -/
import Derived.RangeFuncBox
import Derived.RangeFuncWrites
import Derived.RangeFuncLeaves
import Derived.Shelf.Abstract
import Derived.WalkKit
import Derived.OwnWalkIn
import Derived.TacticsInMore
import Derived.LoopNIn
import Derived.LoopIn
import Derived.Test.YtdjnhnfofajpcaaAvf
namespace Go.Proofs.Ytdjnhnfofajpcaa
open Go Go.Proofs Av Go.RowKit

/-- The room that is drawn for eight words. -/
noncomputable def room8 (w : World) : Nat := (Question.appendCap 8 0 22).cut (w.tape w.drawn (Question.appendCap 8 0 22))
theorem room8_le (w : World) : 8 ≤ room8 w := by unfold room8 Question.cut; exact Nat.le_add_right _ _
noncomputable def row8 (w : World) : Obj := .cells (Builtin.zeroCells #[Value.int IntKind.u64 0] 8 ++ Builtin.zeroCells #[Value.int IntKind.u64 0] (room8 w - 8)) 22

theorem row8_eq (w : World) : row8 w = .cells (cells .u64 (room8 w) 0) 22 := by
  unfold row8
  congr 1
  have h := room8_le w
  apply Array.ext
  · simp [Builtin.zeroCells]; omega
  · intro i h1 h2
    simp only [Builtin.zeroCells, cells, Array.getElem_append, Array.getElem_map, Array.getElem_ofFn]
    simp [Nat.mod_one]

theorem grow_calls (w : World) : Calls PP 114 #[.slice none 0 0, .int .i64 8] w fun e w' => e = .returned (.slice (some ⟨w.heap.size, 0, none⟩) 0 (room8 w)) ∧ w' = (w.alloc (row8 w)).drew := by
  go_enter Try.func114, Try.ntmps114
  go_wp2
  go_ret
  exact ⟨rfl, rfl⟩

/-- Words put behind words, where there is room. -/
theorem run_append_words {W : World} {b c N s bl cl M k cap : Nat} {e e' : TypeId} (ty : TypeId) (hb : W.heap[b]? = some (.cells (cells .u64 c N) e (0, 0))) (hl : W.heap[bl]? = some (.cells (cells .u64 cl M) e' (0, 0))) (hs : s + k ≤ c) (hk : k ≤ cl) :
    ∃ W', (Builtin.append_ #[73, 73] ty #[.slice (some ⟨b, 0, none⟩) s c, .slice (some ⟨bl, 0, none⟩) k cap]).run PP W = .ok (.slice (some ⟨b, 0, none⟩) (s + k) c) W' ∧ Upd b W W' ∧ W'.heap[b]? = some (.cells (cells .u64 c (setw N s k (M % B ^ k))) e (0, 0)) := by
  have u73 : ∀ w : World, (underlying 73).run PP w = .ok (.slice 22) w := fun _ => by kernel_rfl
  have s22 : ∀ w : World, (sizeOf 22).run PP w = .ok 1 w := fun _ => by kernel_rfl
  have hM : M % B ^ k < B ^ k := Nat.mod_lt _ (B_pos k)
  have hld := run_loadCells_row (P := PP) W bl 0 k _ e' hl (by simpa using hk)
  rw [extract_cells _ _ _ _ _ (by omega), Nat.pow_zero, Nat.div_one] at hld
  obtain ⟨W', cs', h1, h2, h3, h4, h5⟩ := run_storeCells_row (P := PP) (cells .u64 k (M % B ^ k)).toList W b s 0 _ e hb (by simpa using hs) (cells_int .u64 k _)
  have hcs : cs' = cells .u64 c (setw N s k (M % B ^ k)) := cells_setw .u64 c N s k _ hM hs cs' (by rw [h4]; simp) (fun j => by simpa using h5 j)
  refine ⟨W', ?_, h2, by rw [h3, hcs]⟩
  unfold Builtin.append_
  simp [u73, s22, Builtin.lenOf, Builtin.firstCells, hs, hld, add_addr, h1, Result.andThen]

theorem wpList_append_words {ops : Array Oper} {rest : List Oper} {o : Oper} {a : Act} {Q : Exit → Act → World → Prop} (hgd : o.guard = none) (s x : Operand)
    (ho : o.op = .call { callee := .builtin .append, args := #[s, x], argTypes := #[73, 73] }) {W : World} {b c N n bl cl M k cap : Nat} {e e' : TypeId}
    (hs : a.eval s = .slice (some ⟨b, 0, none⟩) n c) (hx : a.eval x = .slice (some ⟨bl, 0, none⟩) k cap)
    (hb : W.heap[b]? = some (.cells (cells .u64 c N) e (0, 0))) (hl : W.heap[bl]? = some (.cells (cells .u64 cl M) e' (0, 0))) (hn : n + k ≤ c) (hk : k ≤ cl)
    (h : ∀ W', Upd b W W' → W'.heap[b]? = some (.cells (cells .u64 c (setw N n k (M % B ^ k))) e (0, 0)) → wpList PP ops Q rest (a.put o.dst (.slice (some ⟨b, 0, none⟩) (n + k) c)) W') :
    wpList PP ops Q (o :: rest) a W := by
  refine wpList_plain hgd fun K hK => ?_
  obtain ⟨W', hr, h2, h3⟩ := run_append_words (cap := cap) o.type hb hl hn hk
  unfold Oper.wp execOp
  simp only [ho, resolve, invoke, builtin, Sem.run_bind, Sem.run_pure, Result.andThen_ok, List.map_toArray, List.map_cons, List.map_nil, hs, hx, hr]
  exact hK _ _ (h W' h2 h3)

theorem upd_cell {b : Nat} {w w' : World} (h : Upd b w w') {p : Addr} (hp : p.block ≠ b) : w'.cell? p = w.cell? p := by
  unfold World.cell?
  rw [h.block _ hp]

theorem concat_calls (bs bl bh low high : Nat) (el eh : TypeId) (w : World) (hlow : low < B ^ 4)
    (hs0 : w.cell? ⟨bs, 0, none⟩ = some (.slice (some ⟨bl, 0, none⟩) 4 4)) (hs1 : w.cell? ⟨bs, 1, none⟩ = some (.slice (some ⟨bh, 0, none⟩) 4 4))
    (hbs : bs < w.heap.size) (hl : w.heap[bl]? = some (.cells (cells .u64 4 low) el (0, 0))) (hh : w.heap[bh]? = some (.cells (cells .u64 4 high) eh (0, 0))) (hhigh : high < B ^ 4) :
    Calls PP 92 #[.slice (some ⟨bs, 0, none⟩) 2 2] w fun e w' => ∃ b c, 8 ≤ c ∧ e = .returned (.slice (some ⟨b, 0, none⟩) 8 c) ∧ w.heap.size ≤ b ∧ w'.heap[b]? = some (.cells (cells .u64 c (low + high * B ^ 4)) 22 (0, 0)) ∧ Below w.heap.size w w' := by
  go_enter Try.func92, Try.ntmps92
  go_wp2_with (go_at_call 114; refine (grow_calls _).mono ?_; rintro e w' ⟨rfl, rfl⟩)
  refine wp_loop_rounds 3 ?_
  rw [rounds_succ]
  go_wp2
  rw [rounds_succ]
  go_wp2
  rw [rounds_succ]
  go_wp2_with (go_at_call 114; refine (grow_calls _).mono ?_; rintro e w' ⟨rfl, rfl⟩)
  have hc8 := room8_le w
  generalize hc : room8 w = c at *
  obtain ⟨W1, hW1⟩ : ∃ W1, (w.alloc (row8 w)).drew = W1 := ⟨_, rfl⟩
  have hB1 : Below w.heap.size w W1 := by rw [← hW1]; exact ((Below.refl _ w).alloc (Nat.le_refl _) _).drew
  have hb1 : W1.heap[w.heap.size]? = some (.cells (cells .u64 c 0) 22 (0, 0)) := by
    rw [← hW1, row8_eq, hc]; exact World.alloc_heap_new w _
  rw [hW1]
  have hs0' : W1.cell? ⟨bs, 0, none⟩ = some (.slice (some ⟨bl, 0, none⟩) 4 4) := (hB1.cell (p := ⟨bs, 0, none⟩) hbs).trans hs0
  have hs1' : W1.cell? ⟨bs, 1, none⟩ = some (.slice (some ⟨bh, 0, none⟩) 4 4) := (hB1.cell (p := ⟨bs, 1, none⟩) hbs).trans hs1
  have hbl : bl < w.heap.size := (Array.getElem?_eq_some_iff.1 hl).1
  have hbh : bh < w.heap.size := (Array.getElem?_eq_some_iff.1 hh).1
  have hl1 := (hB1.block bl hbl).trans hl
  have hh1 := (hB1.block bh hbh).trans hh
  refine wp_loop_rounds 3 ?_
  rw [rounds_succ]
  go_wp2_with (at_builtin; refine wpList_append_words rfl _ _ rfl rfl rfl hb1 hl1 (by omega) (by omega) ?_; intro W2 hU2 hb2)
  have hs1'' : W2.cell? ⟨bs, 1, none⟩ = some (.slice (some ⟨bh, 0, none⟩) 4 4) := (upd_cell hU2 (p := ⟨bs, 1, none⟩) (Nat.ne_of_lt hbs)).trans hs1'
  have hh2 := (hU2.block bh (by omega)).trans hh1
  rw [rounds_succ]
  go_wp2_with (at_builtin; refine wpList_append_words rfl _ _ rfl rfl rfl hb2 hh2 (by omega) (by omega) ?_; intro W3 hU3 hb3)
  rw [rounds_succ]
  go_wp2
  go_ret
  refine ⟨w.heap.size, c, hc8, rfl, Nat.le_refl _, ?_, hU3.below (hU2.below hB1 (Nat.le_refl _)) (Nat.le_refl _)⟩
  rw [hb3, Nat.mod_eq_of_lt hlow, Nat.mod_eq_of_lt hhigh]
  have e : setw (setw 0 0 4 low) 4 4 high = low + high * B ^ 4 := by
    have e1 : setw 0 0 4 low = low := by simp [setw]
    rw [e1]
    unfold setw
    rw [Nat.mod_eq_of_lt hlow, Nat.div_eq_of_lt (Nat.lt_of_lt_of_le hlow (Nat.pow_le_pow_right (by decide) (by omega))), Nat.zero_mul, Nat.add_zero]
  rw [e]

/-- slices.Backward: the slice is boxed, the function value captures the box. -/
theorem backward_calls (a : Option Addr) (len cap : Nat) (w : World) :
    Calls PP 93 #[.slice a len cap] w fun e w' => e = .returned (.func (.func 115) #[] #[.pointer (some ⟨w.heap.size, 0, none⟩)]) ∧ w' = w.alloc (.cells #[.slice a len cap] 73) := by
  go_enter Try.func93, Try.ntmps93
  go_wp2
  go_ret
  exact ⟨rfl, rfl⟩

/-- What has come when k rounds are over: 7, 6, .. -/
def down (k : Nat) : List Nat := (List.range k).map fun j => 7 - j
theorem down_succ (k : Nat) : down (k + 1) = down k ++ [7 - k] := by simp [down, List.range_succ]
theorem down_length (k : Nat) : (down k).length = k := by simp [down]

/-- Two blocks lie as they lay. -/
def Keep2 (p q : Nat) (W W' : World) : Prop := W'.heap[p]? = W.heap[p]? ∧ W'.heap[q]? = W.heap[q]?
theorem Keep2.refl (p q : Nat) (W : World) : Keep2 p q W W := ⟨rfl, rfl⟩
theorem Keep2.trans {p q : Nat} {A B C : World} (h : Keep2 p q A B) (k : Keep2 p q B C) : Keep2 p q A C := ⟨k.1.trans h.1, k.2.trans h.2⟩
/-- Word x of N, as a whole number. -/
def dg (N x : Nat) : Int := ((N / B ^ x % B : Nat) : Int)

attribute [local go_sem] Oper.semAt_some
set_option maxRecDepth 100000 in
set_option maxHeartbeats 2000000 in
/-- slices.Backward's closure over eight words: for every loop body that keeps the words and the slice. -/
theorem backward1_in (n : Nat) (l Bs b c N : Nat) (e22 : TypeId) (hc8 : 8 ≤ c) (J Jx : List Nat → World → Prop)
    (hY : ∀ pre x W, J pre W → pre.length < 8 → YieldAt Fence.wide (n - 1) PP l #[.int .i64 ((x : Nat) : Int), .int .u64 (dg N x)] W fun e W' =>
      (e = .returned (.bool true) ∧ J (pre ++ [x]) W' ∧ Keep2 Bs b W W') ∨ (e = .returned (.bool false) ∧ Jx (pre ++ [x]) W'))
    (W : World) (hBs : W.cell? ⟨Bs, 0, none⟩ = some (.slice (some ⟨b, 0, none⟩) 8 c)) (hc : W.heap[b]? = some (.cells (cells .u64 c N) e22 (0, 0))) (h0 : J [] W) :
    CallsIn Fence.wide n PP 115 #[.func (.yield l) #[] #[], .pointer (some ⟨Bs, 0, none⟩)] W fun e W' => (∃ v, e = .returned v) ∧
      ((∃ ys, ys = down 8 ∧ J ys W') ∨ (∃ pre, (∃ k, k ≤ 8 ∧ pre = down k) ∧ Jx pre W')) := by
  refine callsIn_of_wp Try.func115 rfl trivial ?_ rfl
  simp only [Try.ntmps115, List.size_toArray, List.length_cons, List.length_nil, Nat.reduceAdd, Nat.reduceSub, Array.replicate_succ, Array.replicate_zero, List.push_toArray, List.append_toArray, List.nil_append, List.cons_append]
  gi_wp2
  gi_loopw [3] (fun i wr => ∃ k : Nat, k ≤ 8 ∧ i = .int .i64 (7 - (k : Int)) ∧ J (down k) wr ∧ Keep2 Bs b W wr)
    (fun i _ => ((intOf i) + 1).toNat)
  case atStart => exact ⟨0, Nat.zero_le _, rfl, h0, Keep2.refl _ _ _⟩
  case round =>
    obtain ⟨k, hk, rfl, hJs, hnx⟩ := hrel
    by_cases hlt : k < 8
    · obtain ⟨i, hi⟩ : ∃ i, i + k = 7 := ⟨7 - k, by omega⟩
      have e : 7 - (k : Int) = (i : Int) := by omega
      have hi7 : 7 - k = i := by omega
      rw [e]
      have hBs' : wr.cell? ⟨Bs, 0, none⟩ = some (.slice (some ⟨b, 0, none⟩) 8 c) := (World.cell?_of_block (w := W) hnx.1).trans hBs
      have hcx : wr.cell? ⟨b, i, none⟩ = some (.int .u64 (dg N i)) := by
        rw [cell_of_row wr b i _ e22 (0, 0) (hnx.2.trans hc), cells_get _ _ _ _ (by omega)]
        rfl
      obtain ⟨fn, tmps, assign, body, hy, hR⟩ := hY _ i wr hJs (by rw [down_length]; exact hlt)
      try dsimp only at hy
      gi_wp2
      refine ⟨(fun h => by cases h), hR.mono ?_⟩
      rintro e W3 (⟨rfl, hJ3, hk3⟩ | ⟨rfl, hJx3⟩)
      · gi_wp2
        go_roundw
        case rel => exact ⟨k + 1, by omega, by simp; omega, by rw [down_succ, hi7]; exact hJ3, hnx.trans hk3⟩
        case measure => (simp [intOf]; try omega)
      · gi_wp2
        refine bodyPost_ret (results_none rfl _ _ _) rfl ?_
        exact ⟨⟨_, rfl⟩, .inr ⟨_, ⟨k + 1, by omega, by rw [down_succ, hi7]⟩, hJx3⟩⟩
    · obtain rfl : k = 8 := by omega
      have e : (7 : Int) - ((8 : Nat) : Int) = -1 := rfl
      rw [e]
      gi_wp2
      go_end0
      exact ⟨⟨_, rfl⟩, .inl ⟨_, rfl, hJs⟩⟩

theorem backward_stops (n : Nat) (Bs b c N : Nat) (e22 : TypeId) (hc8 : 8 ≤ c) (w : World) (hBs : w.cell? ⟨Bs, 0, none⟩ = some (.slice (some ⟨b, 0, none⟩) 8 c)) (hc : w.heap[b]? = some (.cells (cells .u64 c N) e22 (0, 0))) (h1 : Bs < w.heap.size) :
    SeqStopsK Fence.wide n PP 115 #[.pointer (some ⟨Bs, 0, none⟩)] (fun x : Nat => #[Value.int .i64 (x : Int), Value.int .u64 (dg N x)]) (Keep2 Bs b) (fun ys => ys = down 8) (fun pre => ∃ k, k ≤ 8 ∧ pre = down k) 8 w := fun l J Jx W hW _ _ hY h0 =>
  backward1_in n l Bs b c N e22 hc8 J Jx hY W ((hW.cell (p := ⟨Bs, 0, none⟩) h1).trans hBs) ((hW.block b (Array.getElem?_eq_some_iff.1 hc).1).trans hc) h0
end Go.Proofs.Ytdjnhnfofajpcaa
