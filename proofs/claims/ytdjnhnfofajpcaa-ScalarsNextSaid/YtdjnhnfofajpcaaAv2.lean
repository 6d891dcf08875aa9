/- A small evaluator over the model's code, second part: the types that it knows, partial stores into a number, and the single operations of the machine on rows of numbers. -/
import Derived.Test.YtdjnhnfofajpcaaAv1
namespace Go.Proofs.Ytdjnhnfofajpcaa.Av
open Go Go.RowKit

/-- The program. -/
noncomputable abbrev PP : Program := Try.prog

/-! ### Types -/

/-- Rows of numbers: their kind, how many. -/
def arrTy (t : TypeId) : Option (IntKind × Nat) :=
  if t = 24 then some (.u64, 4) else if t = 36 then some (.u64, 12) else if t = 42 then some (.u64, 16) else if t = 52 then some (.u64, 16)
  else if t = 59 then some (.u64, 8) else if t = 60 then some (.u32, 2) else if t = 63 then some (.u64, 2) else if t = 71 then some (.u64, 8)
  else if t = 74 then some (.u64, 16) else if t = 77 then some (.u64, 32) else none
/-- Single numbers: their kind. -/
def scTy (t : TypeId) : Option IntKind :=
  if t = 22 then some .u64 else if t = 3 then some .i64 else if t = 43 then some .i64 else if t = 2 then some .i64 else if t = 32 then some .u64
  else if t = 55 then some .u32 else if t = 21 then some .i32 else if t = 5 then some .u8 else none
/-- Arrays: how many elements, how many cells each. -/
def elTy (t : TypeId) : Option (Nat × Nat) :=
  if t = 24 then some (4, 1) else if t = 36 then some (3, 4) else if t = 52 then some (4, 4) else if t = 59 then some (2, 4) else if t = 60 then some (2, 1)
  else if t = 63 then some (2, 1) else if t = 71 then some (8, 1) else if t = 74 then some (16, 1) else if t = 77 then some (32, 1) else none

def ArrFact (t : TypeId) (kd : IntKind) (k : Nat) : Prop :=
  (∀ w : World, (isAgg t).run PP w = .ok true w) ∧ (∀ w : World, (sizeOf t).run PP w = .ok k w) ∧ (∀ w : World, (zeroValue t).run PP w = .ok (.agg (cells kd k 0)) w)

theorem arr_fact {t : TypeId} {kd : IntKind} {k : Nat} (h : arrTy t = some (kd, k)) : ArrFact t kd k := by
  unfold arrTy at h
  repeat' split at h
  all_goals first | (simp at h; done) | skip
  all_goals
    simp only [Option.some.injEq, Prod.mk.injEq] at h
    obtain ⟨rfl, rfl⟩ := h
    subst_vars
    exact ⟨fun _ => by kernel_rfl, fun _ => by kernel_rfl, fun _ => by kernel_rfl⟩

def ScFact (t : TypeId) (kd : IntKind) : Prop :=
  (∀ w : World, (isAgg t).run PP w = .ok false w) ∧ (∀ w : World, (sizeOf t).run PP w = .ok 1 w) ∧ PP.underlying t = some (.int kd)

theorem sc_fact {t : TypeId} {kd : IntKind} (h : scTy t = some kd) : ScFact t kd := by
  unfold scTy at h
  repeat' split at h
  all_goals first | (simp at h; done) | skip
  all_goals
    simp only [Option.some.injEq] at h
    subst h
    subst_vars
    exact ⟨fun _ => by kernel_rfl, fun _ => by kernel_rfl, by kernel_rfl⟩

def ElFact (t : TypeId) (n s : Nat) : Prop :=
  ∃ e, (∀ w : World, (underlying t).run PP w = .ok (.array n e) w) ∧ (∀ w : World, (sizeOf e).run PP w = .ok s w)

theorem el_fact {t n s : Nat} (h : elTy t = some (n, s)) : ElFact t n s := by
  unfold elTy at h
  repeat' split at h
  all_goals first | (simp at h; done) | skip
  all_goals
    simp only [Option.some.injEq, Prod.mk.injEq] at h
    obtain ⟨rfl, rfl⟩ := h
    subst_vars
  · exact ⟨22, fun _ => by kernel_rfl, fun _ => by kernel_rfl⟩
  · exact ⟨24, fun _ => by kernel_rfl, fun _ => by kernel_rfl⟩
  · exact ⟨24, fun _ => by kernel_rfl, fun _ => by kernel_rfl⟩
  · exact ⟨24, fun _ => by kernel_rfl, fun _ => by kernel_rfl⟩
  · exact ⟨55, fun _ => by kernel_rfl, fun _ => by kernel_rfl⟩
  · exact ⟨22, fun _ => by kernel_rfl, fun _ => by kernel_rfl⟩
  · exact ⟨22, fun _ => by kernel_rfl, fun _ => by kernel_rfl⟩
  · exact ⟨22, fun _ => by kernel_rfl, fun _ => by kernel_rfl⟩
  · exact ⟨22, fun _ => by kernel_rfl, fun _ => by kernel_rfl⟩

/-! ### Digits -/

theorem B_pos (n : Nat) : 0 < B ^ n := Nat.pow_pos (by decide)

theorem low_digit (L X j o : Nat) (h : j < o) : (L + X * B ^ o) / B ^ j % B = L / B ^ j % B := by
  obtain ⟨d, rfl⟩ : ∃ d, o = j + (d + 1) := ⟨o - j - 1, by omega⟩
  have e : X * B ^ (j + (d + 1)) = (X * B ^ d * B) * B ^ j := by rw [Nat.pow_add, Nat.pow_succ]; ac_rfl
  rw [e, Nat.add_mul_div_right _ _ (B_pos j), Nat.add_mul_mod_self_right]

theorem high_digit (L X j o : Nat) (hL : L < B ^ o) (h : o ≤ j) : (L + X * B ^ o) / B ^ j % B = X / B ^ (j - o) % B := by
  obtain ⟨d, rfl⟩ : ∃ d, j = o + d := ⟨j - o, by omega⟩
  rw [Nat.pow_add, ← Nat.div_div_eq_div_mul, Nat.add_mul_div_right _ _ (B_pos o), Nat.div_eq_of_lt hL, Nat.zero_add, Nat.add_sub_cancel_left]

theorem mod_digit (N j o : Nat) (h : j < o) : N % B ^ o / B ^ j % B = N / B ^ j % B := by
  have := low_digit (N % B ^ o) (N / B ^ o) j o h
  rw [Nat.mul_comm, Nat.mod_add_div] at this
  exact this.symm

/-- The words from o on, k of them, are those of M. -/
def setw (N o k M : Nat) : Nat := N % B ^ o + (M + N / B ^ (o + k) * B ^ k) * B ^ o

theorem setw_digit (N o k M j : Nat) (hM : M < B ^ k) :
    setw N o k M / B ^ j % B = if o ≤ j ∧ j < o + k then M / B ^ (j - o) % B else N / B ^ j % B := by
  unfold setw
  by_cases h1 : j < o
  · rw [low_digit _ _ _ _ h1, if_neg (by omega), mod_digit _ _ _ h1]
  · rw [high_digit _ _ _ _ (Nat.mod_lt _ (B_pos o)) (by omega)]
    by_cases h2 : j < o + k
    · rw [if_pos ⟨by omega, h2⟩, low_digit _ _ _ _ (by omega)]
    · rw [if_neg (by omega), high_digit _ _ _ _ hM (by omega), Nat.div_div_eq_div_mul, ← Nat.pow_add]
      congr 3; omega

theorem setw_lt {N o k M K : Nat} (hN : N < B ^ K) (hM : M < B ^ k) (hk : o + k ≤ K) : setw N o k M < B ^ K := by
  obtain ⟨d, rfl⟩ : ∃ d, K = o + k + d := ⟨K - o - k, by omega⟩
  unfold setw
  have h1 : N % B ^ o < B ^ o := Nat.mod_lt _ (B_pos o)
  have h2 : N / B ^ (o + k) < B ^ d := by
    rw [Nat.div_lt_iff_lt_mul (B_pos _), ← Nat.pow_add, Nat.add_comm d (o + k)]; exact hN
  have h3 : M + N / B ^ (o + k) * B ^ k < B ^ (k + d) := by
    calc M + N / B ^ (o + k) * B ^ k < B ^ k + N / B ^ (o + k) * B ^ k := by omega
      _ = (N / B ^ (o + k) + 1) * B ^ k := by rw [Nat.succ_mul, Nat.add_comm]
      _ ≤ B ^ d * B ^ k := Nat.mul_le_mul_right _ h2
      _ = B ^ (k + d) := by rw [← Nat.pow_add, Nat.add_comm]
  calc N % B ^ o + (M + N / B ^ (o + k) * B ^ k) * B ^ o < B ^ o + (M + N / B ^ (o + k) * B ^ k) * B ^ o := by omega
    _ = (M + N / B ^ (o + k) * B ^ k + 1) * B ^ o := by rw [Nat.succ_mul, Nat.add_comm]
    _ ≤ B ^ (k + d) * B ^ o := Nat.mul_le_mul_right _ h3
    _ = B ^ (o + k + d) := by rw [← Nat.pow_add]; congr 1; omega

theorem WF.setw {kd : IntKind} {K N o k M : Nat} (h : WF kd K N) (hM : WF kd k M) (hk : o + k ≤ K) : WF kd K (Av.setw N o k M) := by
  refine ⟨setw_lt h.1 hM.1 hk, fun i hi => ?_⟩
  rw [setw_digit _ _ _ _ _ hM.1]
  split
  · exact hM.2 _ (by omega)
  · exact h.2 i hi

theorem WF.zero (kd : IntKind) (k : Nat) : WF kd k 0 := ⟨B_pos k, fun i _ => by simp; exact Nat.two_pow_pos _⟩

theorem WF.one {kd : IntKind} {n : Nat} (h : n < 2 ^ kd.bits) : WF kd 1 n := by
  have hb : 2 ^ kd.bits ≤ B := by cases kd <;> decide
  refine ⟨by rw [Nat.pow_one]; omega, fun i hi => ?_⟩
  obtain rfl : i = 0 := by omega
  rw [Nat.pow_zero, Nat.div_one, Nat.mod_eq_of_lt (by omega)]; exact h

theorem cells_one (kd : IntKind) (n : Nat) (h : n < B) : cells kd 1 n = #[.int kd (n : Int)] := by
  apply Array.ext'
  simp [cells, Array.toList_ofFn, List.ofFn_succ, Nat.mod_eq_of_lt h]

/-- The cells behind a partial store. -/
theorem cells_setw (kd : IntKind) (K N o k M : Nat) (hM : M < B ^ k) (hk : o + k ≤ K) (cs' : Array Value) (hs : cs'.size = K)
    (h : ∀ j, cs'[j]? = if o ≤ j ∧ j < o + k then (cells kd k M)[j - o]? else (cells kd K N)[j]?) : cs' = cells kd K (setw N o k M) := by
  apply Array.ext_getElem?
  intro j
  rw [h j]
  by_cases hj : j < K
  · rw [cells_get kd K N _ hj, cells_get kd K _ _ hj, setw_digit _ _ _ _ _ hM]
    by_cases h1 : o ≤ j ∧ j < o + k
    · rw [if_pos h1, if_pos h1, cells_get _ _ _ _ (by omega)]
    · rw [if_neg h1, if_neg h1]
  · rw [if_neg (by omega)]
    simp [show K ≤ j by omega]

theorem cells_int (kd : IntKind) (k N : Nat) : ∀ v ∈ (cells kd k N).toList, ∃ q z, v = Value.int q z := by
  intro v hv
  simp only [cells, Array.toList_ofFn, List.mem_ofFn] at hv
  obtain ⟨i, rfl⟩ := hv
  exact ⟨_, _, rfl⟩

/-! ### The operations -/

theorem run_box (t : TypeId) (v : Value) (w : World) : (Instr.box t v).run PP w = .ok (.pointer (some ⟨w.heap.size, 0, none⟩)) (w.alloc (.cells v.cells t)) := rfl

theorem run_alloc {t : TypeId} {kd : IntKind} {k : Nat} (h : arrTy t = some (kd, k)) (w : World) :
    (Instr.alloc t true (.tuple #[])).run PP w = .ok (.pointer (some ⟨w.heap.size, 0, none⟩)) (w.alloc (.cells (cells kd k 0) t)) := by
  unfold Instr.alloc
  simp only [Sem.run_bind, (arr_fact h).2.2 w, Result.andThen]
  rfl

theorem run_load_arr {t : TypeId} {kd : IntKind} {k : Nat} (h : arrTy t = some (kd, k)) (w : World) (b o K N : Nat) (e : TypeId)
    (hb : w.heap[b]? = some (.cells (cells kd K N) e (0, 0))) (hk : o + k ≤ K) :
    (Instr.loadAt t (.pointer (some ⟨b, o, none⟩))).run PP w = .ok (.agg (cells kd k (N / B ^ o % B ^ k))) w := by
  unfold Instr.loadAt Instr.sureAddr loadVar
  simp only [Sem.run_bind, Sem.run_pure, Result.andThen, (arr_fact h).1 w, if_true, (arr_fact h).2.1 w]
  rw [run_loadCells_row w b o k _ e hb (by simpa using hk), extract_cells _ _ _ _ _ hk]

theorem run_load_sc {t : TypeId} {kd : IntKind} (h : scTy t = some kd) (w : World) (b o K N : Nat) (e : TypeId)
    (hb : w.heap[b]? = some (.cells (cells kd K N) e (0, 0))) (hk : o < K) :
    (Instr.loadAt t (.pointer (some ⟨b, o, none⟩))).run PP w = .ok (.int kd ((N / B ^ o % B : Nat) : Int)) w := by
  unfold Instr.loadAt Instr.sureAddr loadVar
  simp only [Sem.run_bind, Sem.run_pure, Result.andThen, (sc_fact h).1 w, if_false, run_load, Bool.false_eq_true]
  rw [cell_of_row w b o _ e (0, 0) hb, cells_get _ _ _ _ hk]

theorem run_store {t : TypeId} (v : Value) (w : World) (b o k kd K N M : _) (e : TypeId) (hv : v.cells = cells kd k M) (hsz : (sizeOf t).run PP w = .ok k w)
    (hb : w.heap[b]? = some (.cells (cells kd K N) e (0, 0))) (hM : M < B ^ k) (hk : o + k ≤ K) :
    ∃ w', (Instr.storeAt t (.pointer (some ⟨b, o, none⟩)) v).run PP w = .ok () w' ∧ Upd b w w' ∧ w'.heap[b]? = some (.cells (cells kd K (setw N o k M)) e (0, 0)) := by
  obtain ⟨w', cs', h1, h2, h3, h4, h5⟩ := run_storeCells_row (P := PP) (cells kd k M).toList w b o 0 _ e hb (by simpa using hk) (cells_int kd k M)
  have hcs : cs' = cells kd K (setw N o k M) := cells_setw kd K N o k M hM hk cs' (by rw [h4]; simp) (fun j => by simpa using h5 j)
  refine ⟨w', ?_, h2, by rw [h3, hcs]⟩
  unfold Instr.storeAt Instr.sureAddr storeVar
  simp only [Sem.run_bind, Sem.run_pure, Result.andThen, hsz, hv, cells_size, ne_eq, not_true, if_false]
  exact h1

theorem run_indexAt {t n s : Nat} (h : elTy t = some (n, s)) (w : World) (b o : Nat) (k : IntKind) (z : Int) (hz : 0 ≤ z ∧ z < n) :
    (Instr.indexAt t (.pointer (some ⟨b, o, none⟩)) (.int k z)).run PP w = .ok (.pointer (some ⟨b, o + z.toNat * s, none⟩)) w := by
  obtain ⟨e, h1, h2⟩ := el_fact h
  unfold Instr.indexAt
  simp only [asIntOf, Sem.run_bind, Sem.run_pure, Result.andThen, h1 w, Instr.sureAddr]
  simp [hz, h2 w, add_addr, Result.andThen]

theorem fieldAt0 (w : World) (a : Addr) : (Instr.fieldAt 42 (.pointer (some a)) 0).run PP w = .ok (.pointer (some (a.add 0))) w := by kernel_rfl
theorem fieldAt1 (w : World) (a : Addr) : (Instr.fieldAt 42 (.pointer (some a)) 1).run PP w = .ok (.pointer (some (a.add 4))) w := by kernel_rfl
theorem fieldAt2 (w : World) (a : Addr) : (Instr.fieldAt 42 (.pointer (some a)) 2).run PP w = .ok (.pointer (some (a.add 8))) w := by kernel_rfl
theorem fieldAt3 (w : World) (a : Addr) : (Instr.fieldAt 42 (.pointer (some a)) 3).run PP w = .ok (.pointer (some (a.add 12))) w := by kernel_rfl
theorem run_fieldAt (f : Nat) (hf : f < 4) (w : World) (b o : Nat) :
    (Instr.fieldAt 42 (.pointer (some ⟨b, o, none⟩)) f).run PP w = .ok (.pointer (some ⟨b, o + 4 * f, none⟩)) w := by
  have : f = 0 ∨ f = 1 ∨ f = 2 ∨ f = 3 := by omega
  rcases this with rfl | rfl | rfl | rfl
  · rw [fieldAt0, add_addr]
  · rw [fieldAt1, add_addr]
  · rw [fieldAt2, add_addr]
  · rw [fieldAt3, add_addr]

theorem run_index {t n : Nat} {kd : IntKind} (h : elTy t = some (n, 1)) (h2 : arrTy t = some (kd, n)) (w : World) (k : IntKind) (z : Int) (N : Nat) (hz : 0 ≤ z ∧ z < n) (he : t = 24) :
    (Instr.index t (.agg (cells kd n N)) (.int k z)).run PP w = .ok (.int kd ((N / B ^ z.toNat % B : Nat) : Int)) w := by
  subst he
  simp only [elTy, arrTy, if_true, Option.some.injEq, Prod.mk.injEq] at h h2
  obtain ⟨rfl, _⟩ := h
  obtain ⟨rfl, _⟩ := h2
  have h1 : ∀ w : World, (underlying 24).run PP w = .ok (.array 4 22) w := fun _ => by kernel_rfl
  have h3 : ∀ w : World, (sizeOf 22).run PP w = .ok 1 w := fun _ => by kernel_rfl
  have h4 : ∀ w : World, (isAgg 22).run PP w = .ok false w := fun _ => by kernel_rfl
  unfold Instr.index
  simp only [asIntOf, Sem.run_bind, Sem.run_pure, Result.andThen, h1 w]
  rw [if_pos (by simpa using hz)]
  simp only [Sem.run_bind, h3 w, Result.andThen, part, h4 w, Nat.mul_one, Bool.false_eq_true, if_false]
  rw [cells_get _ _ _ _ (by omega)]
  rfl

/-- One of two numbers of four words. -/
theorem run_index2 (w : World) (k : IntKind) (z : Int) (N : Nat) (hz : 0 ≤ z ∧ z < 2) :
    (Instr.index 59 (.agg (cells .u64 8 N)) (.int k z)).run PP w = .ok (.agg (cells .u64 4 (N / B ^ (z.toNat * 4) % B ^ 4))) w := by
  have h1 : ∀ w : World, (underlying 59).run PP w = .ok (.array 2 24) w := fun _ => by kernel_rfl
  have h3 : ∀ w : World, (sizeOf 24).run PP w = .ok 4 w := fun _ => by kernel_rfl
  have h4 : ∀ w : World, (isAgg 24).run PP w = .ok true w := fun _ => by kernel_rfl
  unfold Instr.index
  simp only [asIntOf, Sem.run_bind, Sem.run_pure, Result.andThen, h1 w]
  rw [if_pos (by simpa using hz)]
  simp only [Sem.run_bind, h3 w, Result.andThen, part, h4 w, if_true]
  rw [extract_cells _ _ _ _ _ (by omega)]
  rfl

end Go.Proofs.Ytdjnhnfofajpcaa.Av
