/- A small evaluator over the model's code, first part: what its abstract values stand for, and what loads and stores do to rows of numbers. -/
import Derived.Test.YtdjnhnfofajpcaaChecked
import Derived.WalkKit
import Derived.Orders
namespace Go.Proofs.Ytdjnhnfofajpcaa.Av
open Go Go.RowKit

/-- One word: 2^64. -/
abbrev B : Nat := 18446744073709551616

/-- The cells of a row of k numbers of kind kd, told by one natural number, the lowest word first. -/
def cells (kd : IntKind) (k N : Nat) : Array Value := Array.ofFn (n := k) fun i => .int kd ((N / B ^ i.val % B : Nat) : Int)

@[simp] theorem cells_size (kd : IntKind) (k N : Nat) : (cells kd k N).size = k := by simp [cells]
theorem cells_get (kd : IntKind) (k N i : Nat) (h : i < k) : (cells kd k N)[i]? = some (.int kd ((N / B ^ i % B : Nat) : Int)) := by
  simp [cells, h]

/-- The number fits: k words, each within its kind. -/
def WF (kd : IntKind) (k N : Nat) : Prop := N < B ^ k ∧ ∀ i, i < k → N / B ^ i % B < 2 ^ kd.bits

def inR (k : IntKind) (z : Int) : Prop := k.wrap z = z

inductive All2 {α β : Type} (R : α → β → Prop) : List α → List β → Prop where
  | nil : All2 R [] []
  | cons {a : α} {b : β} {l : List α} {m : List β} (h : R a b) (t : All2 R l m) : All2 R (a :: l) (b :: m)
theorem All2.map {α β γ : Type} {R : α → β → Prop} {f : γ → α} {g : γ → β} : ∀ {l : List γ}, (∀ x ∈ l, R (f x) (g x)) → All2 R (l.map f) (l.map g)
  | [], _ => .nil
  | x :: _, h => .cons (h x (by simp)) (All2.map fun y hy => h y (by simp [hy]))

/-- Values without addresses. -/
inductive PV where
  | lit (k : IntKind) (z : Int)
  | int (k : IntKind) (z : Int)
  | nat (k : IntKind) (n : Nat)
  | blit (b : Bool)
  | bool (b : Bool)
  | words (kd : IntKind) (k N : Nat)

/-- What a slot may hold. -/
inductive AV where
  | junk
  | pv (x : PV)
  | tup2 (x y : PV)
  | tup3 (x y z : PV)
  | box (kd : IntKind) (k N : Nat)
  | ref (t off : Nat)
  | sl (t off len cap : Nat)
  /- a place in a row that was there when the call began; a slice of one; a function value, by its contract -/
  | gp (kd : IntKind) (k N off : Nat)
  | gs (kd : IntKind) (k N off len cap : Nat)
  | clo (sp : List PV → Option (PV × Prop))
  /- the place of an operation that was passed over -/
  | gone

abbrev AS := List AV

/-- What a plain value stands for. -/
def PV.R : PV → Value → Prop
  | .lit k z, v | .int k z, v => v = .int k z ∧ inR k z
  | .nat k n, v => v = .int k (n : Int) ∧ k.signed = false ∧ n < 2 ^ k.bits
  | .blit b, v | .bool b, v => v = .bool b
  | .words kd k N, v => v = .agg (cells kd k N) ∧ WF kd k N

/-- What a function value does: what its contract says, in every world behind w0. -/
def CloR (w0 : World) (sp : List PV → Option (PV × Prop)) (v : Value) : Prop :=
  ∃ fn cap, v = .func (.func fn) #[] cap ∧ ∀ args r p, sp args = some (r, p) → p → ∀ w, Below w0.heap.size w0 w → ∀ vs : List Value, All2 PV.R args vs →
    (callFunc fn (vs.toArray ++ cap)).run Try.prog w = .ok (.enter fn (vs.toArray ++ cap)) w ∧
    Calls Try.prog fn (vs.toArray ++ cap) w fun e w' => ∃ u, e = .returned u ∧ r.R u ∧ Below w.heap.size w w'

/-- What an abstract value that is no row of its own stands for; β tells in which block the row of a slot lies; w0 is the world in which the call began. -/
def AV.V (w0 : World) (β : Nat → Nat) : AV → Value → Prop
  | .junk, _ => True
  | .pv x, v => x.R v
  | .tup2 x y, v => ∃ a b, v = .tuple #[a, b] ∧ x.R a ∧ y.R b
  | .tup3 x y z, v => ∃ a b c, v = .tuple #[a, b, c] ∧ x.R a ∧ y.R b ∧ z.R c
  | .box .., _ => False
  | .ref t off, v => v = .pointer (some ⟨β t, off, none⟩)
  | .sl t off len cap, v => v = .slice (some ⟨β t, off, none⟩) len cap
  | .gp kd k N off, v => ∃ b e, v = .pointer (some ⟨b, off, none⟩) ∧ w0.heap[b]? = some (.cells (cells kd k N) e (0, 0)) ∧ WF kd k N
  | .gs kd k N off len cap, v => ∃ b e, v = .slice (some ⟨b, off, none⟩) len cap ∧ w0.heap[b]? = some (.cells (cells kd k N) e (0, 0)) ∧ WF kd k N
  | .clo sp, v => CloR w0 sp v
  | .gone, v => v = undef

/-- Slot s holds this. -/
def AV.R (w0 : World) (β : Nat → Nat) (w : World) (s : Nat) : AV → Value → Prop
  | .box kd k N, v => v = .pointer (some ⟨β s, 0, none⟩) ∧ (∃ e, w.heap[β s]? = some (.cells (cells kd k N) e (0, 0))) ∧ WF kd k N
  | x, v => x.V w0 β v

def AS.at (A : AS) (s : Nat) : AV := A.getD s .junk

def AV.isBox : AV → Bool
  | .box .. => true
  | _ => false

/-- The abstract state A stands for the slots 'tmps' and the world w; w0 is the world in which the call began. -/
structure Conc (w0 : World) (A : AS) (tmps : Array Value) (w : World) (β : Nat → Nat) : Prop where
  size : tmps.size = A.length
  below : Below w0.heap.size w0 w
  slots : ∀ s, (A.at s).R w0 β w s (tmps.getD s undef)
  base : ∀ s, (A.at s).isBox = true → w0.heap.size ≤ β s
  sep : ∀ s t, (A.at s).isBox = true → (A.at t).isBox = true → β s = β t → s = t

def Holds (w0 : World) (A : AS) (a : Act) (w : World) : Prop := a.defers = [] ∧ ∃ β, Conc w0 A a.tmps w β

/-! ### Rows in memory -/

/-- Nothing but block b has turned. -/
structure Upd (b : Nat) (w w' : World) : Prop where
  os : w'.os = w.os
  tape : w'.tape = w.tape
  output : w'.output = w.output
  size : w'.heap.size = w.heap.size
  block : ∀ k, k ≠ b → w'.heap[k]? = w.heap[k]?

theorem Upd.refl (b : Nat) (w : World) : Upd b w w := ⟨rfl, rfl, rfl, rfl, fun _ _ => rfl⟩
theorem Upd.trans {b : Nat} {w w' w'' : World} (h : Upd b w w') (k : Upd b w' w'') : Upd b w w'' :=
  ⟨k.os.trans h.os, k.tape.trans h.tape, k.output.trans h.output, k.size.trans h.size, fun i hi => (k.block i hi).trans (h.block i hi)⟩
theorem Upd.below {b n : Nat} {w0 w w' : World} (h : Upd b w w') (hb : Below n w0 w) (hn : n ≤ b) : Below n w0 w' :=
  hb.trans ⟨h.os, h.tape, h.output, by rw [h.size]; exact Nat.le_refl _, fun k hk => h.block k (by omega)⟩

theorem upd_setCell (w : World) (b i : Nat) (v : Value) : Upd b w (w.setCell ⟨b, i, none⟩ v) :=
  ⟨rfl, rfl, rfl, by simp, fun k hk => heap_setCell_other _ _ _ _ hk⟩

theorem add_addr (b o i : Nat) : (⟨b, o, none⟩ : Addr).add i = ⟨b, o + i, none⟩ := by
  unfold Addr.add; split
  · subst_vars; rfl
  · rfl

/-- n cells from o on, out of a row. -/
theorem run_loadCells_row {P : Program} (w : World) (b o n : Nat) (cs : Array Value) (e : TypeId) (hb : w.heap[b]? = some (.cells cs e (0, 0))) (hn : o + n ≤ cs.size) :
    (loadCells ⟨b, o, none⟩ n).run P w = .ok (cs.extract o (o + n)) w := by
  rw [run_loadCells w ⟨b, o, none⟩ n (fun j => cs.getD (o + j) undef) (fun j hj => by
    rw [add_addr, cell_of_row w b (o + j) cs e (0, 0) hb]
    simp [Array.getD, show o + j < cs.size by omega])]
  congr 1
  apply Array.ext
  · simp; omega
  · intro i h1 h2
    simp at h1
    simp [Array.getD, show o + i < cs.size by omega]

theorem extract_cells (kd : IntKind) (K N o k : Nat) (h : o + k ≤ K) : (cells kd K N).extract o (o + k) = cells kd k (N / B ^ o % B ^ k) := by
  apply Array.ext
  · simp; omega
  · intro i h1 h2
    simp at h1
    simp only [cells, Array.getElem_extract, Array.getElem_ofFn]
    congr 2
    have hi : i < k := by omega
    rw [Nat.pow_add, ← Nat.div_div_eq_div_mul]
    generalize N / B ^ o = M
    obtain ⟨j, rfl⟩ : ∃ j, k = i + (j + 1) := ⟨k - i - 1, by omega⟩
    rw [Nat.pow_add, Nat.mod_mul, Nat.add_mul_div_left _ _ (Nat.pow_pos (by decide)), Nat.div_eq_of_lt (Nat.mod_lt _ (Nat.pow_pos (by decide))), Nat.zero_add, Nat.pow_succ, Nat.mul_comm (B ^ j) B, Nat.mod_mul_right_mod]

theorem WF.part {kd : IntKind} {K N o k : Nat} (h : WF kd K N) (hk : o + k ≤ K) : WF kd k (N / B ^ o % B ^ k) := by
  refine ⟨Nat.mod_lt _ (Nat.pow_pos (by decide)), fun i hi => ?_⟩
  have h1 := extract_cells kd K N o k hk
  have h2 := congrArg (fun c => c[i]?) h1
  simp only [cells_get _ _ _ _ hi, Array.getElem?_extract, show i < min (o + k) (cells kd K N).size - o by simp; omega, if_true, cells_get kd K N (o + i) (by omega)] at h2
  have h3 : N / B ^ (o + i) % B = N / B ^ o % B ^ k / B ^ i % B := by
    have := Option.some.inj h2
    simp only [Value.int.injEq, true_and] at this
    omega
  rw [← h3]
  exact h.2 (o + i) (by omega)

/-- Cells stored one behind the other into a row. -/
theorem run_storeCells_row {P : Program} : ∀ (vs : List Value) (w : World) (b o i : Nat) (cs : Array Value) (e : TypeId), w.heap[b]? = some (.cells cs e (0, 0)) → o + i + vs.length ≤ cs.size →
    (∀ v ∈ vs, ∃ k z, v = Value.int k z) →
    ∃ w' cs', (storeCells ⟨b, o, none⟩ vs i).run P w = .ok () w' ∧ Upd b w w' ∧ w'.heap[b]? = some (.cells cs' e (0, 0)) ∧ cs'.size = cs.size ∧
      ∀ j, cs'[j]? = if o + i ≤ j ∧ j < o + i + vs.length then vs[j - (o + i)]? else cs[j]?
  | [], w, b, o, i, cs, e, hb, _, _ => ⟨w, cs, rfl, .refl _ _, hb, rfl, fun j => by simp; omega⟩
  | v :: vs, w, b, o, i, cs, e, hb, hl, hv => by
    simp only [List.length_cons] at hl
    have hc : w.cell? ⟨b, o + i, none⟩ = some cs[o + i] := by
      rw [cell_of_row w b (o + i) cs e (0, 0) hb]; simp [show o + i < cs.size by omega]
    have hb1 : (w.setCell ⟨b, o + i, none⟩ v).heap[b]? = some (.cells (cs.setIfInBounds (o + i) v) e (0, 0)) := heap_setCell_same w b (o + i) cs e v hb
    obtain ⟨w', cs', h1, h2, h3, h4, h5⟩ := run_storeCells_row (P := P) vs (w.setCell ⟨b, o + i, none⟩ v) b o (i + 1) (cs.setIfInBounds (o + i) v) e hb1 (by simp; omega) (fun x hx => hv x (by simp [hx]))
    refine ⟨w', cs', ?_, (upd_setCell w b (o + i) v).trans h2, h3, by rw [h4]; simp, fun j => ?_⟩
    · simp only [storeCells, Sem.run_bind, add_addr]
      obtain ⟨k, z, rfl⟩ := hv v (by simp)
      have hfr : w.frozen? ⟨b, o + i, none⟩ = false := frozen_of_row w b (o + i) cs e hb
      have hst : (store ⟨b, o + i, none⟩ (.int k z)).run P w = .ok () (w.setCell ⟨b, o + i, none⟩ (.int k z)) := by
        simp [store, Sem.run, hc, hfr]
      rw [hst]; exact h1
    · rw [h5 j]
      simp only [List.length_cons]
      by_cases hj : j = o + i
      · subst hj
        simp [show ¬ (o + (i + 1) ≤ o + i) by omega, show o + i < cs.size by omega]
      · by_cases h' : o + (i + 1) ≤ j ∧ j < o + (i + 1) + vs.length
        · rw [if_pos h', if_pos (by omega), show j - (o + i) = (j - (o + (i + 1))) + 1 by omega, List.getElem?_cons_succ]
        · rw [if_neg h', if_neg (by omega), Array.getElem?_setIfInBounds_ne (by omega)]

end Go.Proofs.Ytdjnhnfofajpcaa.Av
