/- A small evaluator over the model's code, sixth part: every operation that it knows, out of an abstract state, and that the machine comes to the same. -/
import Derived.Test.YtdjnhnfofajpcaaAv5
namespace Go.Proofs.Ytdjnhnfofajpcaa.Av
open Go Go.RowKit

/-! ### Calls -/

/-- What a callee is handed. -/
def ArgR (w : World) : AV × AV → Value → Prop
  | (.pv p, _), v => p.R v
  | (.sl _ off len cap, .box kd k N), v => ∃ b e, v = .slice (some ⟨b, off, none⟩) len cap ∧ w.heap[b]? = some (.cells (cells kd k N) e (0, 0)) ∧ WF kd k N
  | (.ref _ off, .box kd k N), v => ∃ b e, v = .pointer (some ⟨b, off, none⟩) ∧ w.heap[b]? = some (.cells (cells kd k N) e (0, 0)) ∧ WF kd k N
  | _, _ => False

/-- What a callee hands back: no address. -/
def AV.ret : AV → Value → Prop
  | .pv x, v => x.R v
  | .tup2 x y, v => ∃ a b, v = .tuple #[a, b] ∧ x.R a ∧ y.R b
  | .tup3 x y z, v => ∃ a b c, v = .tuple #[a, b, c] ∧ x.R a ∧ y.R b ∧ z.R c
  | _, _ => False

theorem AV.ret_V {x : AV} {v : Value} (h : x.ret v) (w0 : World) (β : Nat → Nat) : x.V w0 β v ∧ x.isBox = false := by
  cases x <;> first | exact ⟨h, rfl⟩ | exact h.elim

/-- A function that is met by its contract: what it hands back, on what terms. -/
structure Entry where
  f : FuncId
  sp : List (AV × AV) → Option (AV × Prop)

/-- The contract holds: a call hands that back, and nothing that was there has turned. -/
def Entry.OK (e : Entry) : Prop := ∀ args r p, e.sp args = some (r, p) → p → ∀ (w : World) (vs : List Value), All2 (ArgR w) args vs →
  (∃ v, r.ret v ∧ (callFunc e.f vs.toArray).run PP w = .ok (.value v) w) ∨
  ((callFunc e.f vs.toArray).run PP w = .ok (.enter e.f vs.toArray) w ∧
    Calls PP e.f vs.toArray w fun en w' => ∃ v, en = .returned v ∧ r.ret v ∧ Below w.heap.size w w')

/-- Fit to be handed over. -/
def fit : AV × AV → Bool
  | (.pv _, _) => true
  | (.sl _ _ _ _, .box _ _ _) => true
  | (.ref _ _, .box _ _ _) => true
  | _ => false

def callF : List Entry → FuncId → List (AV × AV) → Option (AV × Prop)
  | [], _, _ => none
  | e :: T, f, args => if e.f = f then e.sp args else callF T f args

def TOK (T : List Entry) : Prop := ∀ e ∈ T, e.OK
theorem TOK.nil : TOK [] := fun _ h => by cases h
theorem TOK.cons {e : Entry} {T : List Entry} (h : e.OK) (hT : TOK T) : TOK (e :: T) := fun x hx => by
  rcases List.mem_cons.1 hx with rfl | hx
  · exact h
  · exact hT x hx

/-! ### Operands -/

def rsv (rd : Nat → AV) : Operand → AV × AV
  | .tmp t => match rd t with
    | .ref t' off => (.ref t' off, rd t')
    | .sl t' off len cap => (.sl t' off len cap, rd t')
    | v => (v, .junk)
  | .const (.int k z) => if k.wrap z = z then (.pv (.lit k z), .junk) else (.junk, .junk)
  | .const (.bool b) => (.pv (.blit b), .junk)
  | _ => (.junk, .junk)

/-- Which slots are looked at. -/
def slotsOf (rd : Nat → AV) : Operand → List Nat
  | .tmp t => match rd t with
    | .ref t' _ | .sl t' _ _ _ => [t, t']
    | _ => [t]
  | _ => []

theorem rsv_congr {rd rd' : Nat → AV} {x : Operand} (h : ∀ s ∈ slotsOf rd x, rd s = rd' s) : rsv rd x = rsv rd' x ∧ slotsOf rd x = slotsOf rd' x := by
  cases x with
  | tmp t =>
    have ht : rd t = rd' t := h t (by simp only [slotsOf]; split <;> simp)
    simp only [rsv, slotsOf, ← ht]
    cases hr : rd t with
    | ref t' off => exact ⟨by simp only [h t' (by simp [slotsOf, hr])], trivial⟩
    | sl t' off len cap => exact ⟨by simp only [h t' (by simp [slotsOf, hr])], trivial⟩
    | _ => exact ⟨rfl, trivial⟩
  | const v => exact ⟨by cases v <;> rfl, rfl⟩
  | _ => exact ⟨rfl, rfl⟩

inductive Res where
  | val (v : AV)
  | alloc (kd : IntKind) (k N : Nat)
  | store (t : Nat) (kd : IntKind) (k N : Nat)

/-- An index. -/
def asI : AV → Option Int
  | .pv (.lit _ z) | .pv (.int _ z) => some z
  | .pv (.nat _ n) => some n
  | _ => none

/-- A value that is stored or boxed: as a row of k cells. -/
def asRow : AV → Option (IntKind × Nat × Nat)
  | .pv (.words kd k N) => some (kd, k, N)
  | .pv x => (asN x).map fun (kd, n) => (kd, 1, n)
  | _ => none

/-- The cells that a type takes. -/
def tyRow (t : TypeId) : Option (IntKind × Nat) :=
  match arrTy t with
  | some x => some x
  | none => match scTy t with
    | some kd => match kd.signed with
      | true => none
      | false => some (kd, 1)
    | none => none

/-- A value that is loaded. -/
def ofRow (t : TypeId) (kd : IntKind) (k N : Nat) : PV :=
  match arrTy t with
  | some _ => .words kd k N
  | none => .nat kd N

/-- An address: the slot of its row, its place in it. -/
def asP (rd : Nat → AV) : Operand → Option (Nat × Nat × IntKind × Nat × Nat)
  | .tmp s => match rd s with
    | .box kd K N => some (s, 0, kd, K, N)
    | .ref t off => match rd t with
      | .box kd K N => some (t, off, kd, K, N)
      | _ => none
    | _ => none
  | _ => none

/-- All of a row, or a part of it. -/
def whole (off k K : Nat) : Bool :=
  match off with
  | 0 => decide (k = K)
  | _ => false

def loadF (t : TypeId) (direct : Bool) (off : Nat) (kd : IntKind) (K N : Nat) : Option (Res × Prop) :=
  match tyRow t with
  | some (kd', k) => if kd' = kd then match direct with
      | true => if k = K then some (.val (.pv (ofRow t kd k N)), True) else none
      | false => some (.val (.pv (ofRow t kd k (N / B ^ off % B ^ k))), off + k ≤ K)
    else none
  | none => none
def storeF (t : TypeId) (direct : Bool) (s off : Nat) (kd : IntKind) (K N : Nat) (v : AV) : Option (Res × Prop) :=
  match tyRow t, asRow v with
  | some (kd', k), some (kd'', k'', M) => if kd' = kd ∧ kd'' = kd ∧ k'' = k then match direct with
      | true => if k = K then some (.store s kd K M, True) else none
      | false => some (.store s kd K (setw N off k M), off + k ≤ K)
    else none
  | _, _ => none
def isBoxAt (rd : Nat → AV) : Operand → Bool
  | .tmp s => (rd s).isBox
  | _ => false

def litOpt (rd : Nat → AV) : Option Operand → Option (Option Nat)
  | none => some none
  | some x => match (rsv rd x).1 with
    | .pv (.lit _ z) => match decide (0 ≤ z) with
      | true => some (some z.toNat)
      | false => none
    | _ => none

def tabFrom : List UInt8 → Nat → Bool
  | [], _ => true
  | c :: l, i => match c.toNat == bitLen i with
    | true => tabFrom l (i + 1)
    | false => false
theorem tabFrom_get : ∀ (l : List UInt8) (i : Nat), tabFrom l i = true → ∀ j (h : j < l.length), (l[j]).toNat = bitLen (i + j)
  | [], _, _, j, h => by simp at h
  | c :: l, i, ht, j, h => by
    simp only [tabFrom] at ht
    split at ht
    · rename_i hc
      cases j with
      | zero => simpa using hc
      | succ j =>
        have := tabFrom_get l (i + 1) ht j (by simpa using h)
        simp only [List.getElem_cons_succ]
        rw [this]; congr 1; omega
    · cases ht
/-- The table of math/bits: how many bits each byte needs. -/
def isTab (s : ByteArray) : Bool := s.data.toList.length == 256 && tabFrom s.data.toList 0
theorem isTab_get {s : ByteArray} (h : isTab s = true) (i : Nat) (hi : i < 256) : ∃ b, s[i]? = some b ∧ b.toNat = bitLen i := by
  unfold isTab at h
  simp only [Bool.and_eq_true, beq_iff_eq] at h
  obtain ⟨h1, h2⟩ := h
  have hs : i < s.size := by
    have : s.size = s.data.toList.length := rfl
    omega
  refine ⟨s[i], getElem?_pos s i hs, ?_⟩
  have hl : i < s.data.toList.length := by omega
  have := tabFrom_get _ 0 h2 i hl
  rw [Nat.zero_add] at this
  exact this

def mulO (x : Nat) : Nat → Nat
  | 1 => x
  | es => x * es
theorem mulO_eq (x es : Nat) : mulO x es = x * es := by
  unfold mulO; split
  · omega
  · rfl

/-- Plain values alone. -/
def pvs : List (AV × AV) → Option (List PV)
  | [] => some []
  | (.pv x, _) :: r => (pvs r).map (x :: ·)
  | _ => none

def opEval (T : List Entry) (rd : Nat → AV) (o : Op) : Option (Res × Prop) :=
  match o with
  | .move x | .assign x => match x, (rsv rd x).1 with
    | .tmp s, .box _ _ _ => some (.val (.ref s 0), True)
    | _, .box _ _ _ => none
    | _, v => some (.val v, True)
  | .pick c a b => match (rsv rd c).1 with
    | .pv (.blit true) => match (rsv rd a).1 with
      | .pv v => some (.val (.pv v), True)
      | _ => none
    | .pv (.blit false) => match (rsv rd b).1 with
      | .pv v => some (.val (.pv v), True)
      | _ => none
    | .pv (.bool t) => match (rsv rd a).1, (rsv rd b).1 with
      | .pv x, .pv y => match asB x, asB y with
        | some x, some y => some (.val (.pv (.bool (bif t then x else y))), True)
        | _, _ => none
      | _, _ => none
    | _ => none
  | .alloc t => match arrTy t with
    | some (kd, k) => some (.alloc kd k 0, True)
    | none => none
  | .box t x => match tyRow t, asRow (rsv rd x).1 with
    | some (kd, k), some (kd', k', N) => if kd' = kd ∧ k' = k then some (.alloc kd k N, True) else none
    | _, _ => none
  | .load t x => match (rsv rd x).1, asP rd x with
    | .gp kd K N off, _ => loadF t false off kd K N
    | _, some (_, off, kd, K, N) => loadF t (isBoxAt rd x) off kd K N
    | _, none => none
  | .store t x v => match asP rd x with
    | some (s, off, kd, K, N) => storeF t (isBoxAt rd x) s off kd K N (rsv rd v).1
    | none => none
  | .binOp op t x y _ => match (rsv rd x).1, (rsv rd y).1 with
    | .pv a, .pv b => (binF op t a b).map fun r => (.val (.pv r.1), r.2)
    | _, _ => none
  | .unOp op _ x => match (rsv rd x).1 with
    | .pv a => (unF op a).map fun r => (.val (.pv r.1), r.2)
    | _ => none
  | .convert src dst x => match (rsv rd x).1 with
    | .pv a => (convF src dst a).map fun r => (.val (.pv r), True)
    | _ => none
  | .fieldAddr t x f => match decide (t = 42 ∧ f < 4) with
    | true => match (rsv rd x).1, asP rd x with
      | .gp kd K N off, _ => some (.val (.gp kd K N (off + 4 * f)), True)
      | _, some (s, off, _, _, _) => some (.val (.ref s (off + 4 * f)), True)
      | _, none => none
    | false => none
  | .indexAddr t x i => match asI (rsv rd i).1 with
    | none => none
    | some z => match (rsv rd x).1 with
      | .gs kd K N off len _ => if t = 73 then some (.val (.gp kd K N (off + z.toNat)), 0 ≤ z ∧ z < len) else none
      | .gp kd K N off => match elTy t with
        | some (n, es) => some (.val (.gp kd K N (off + z.toNat * es)), 0 ≤ z ∧ z < n)
        | none => none
      | _ => match asP rd x, elTy t with
        | some (s, off, _, _, _), some (n, es) => match isBoxAt rd x with
          | true => some (.val (.ref s (mulO z.toNat es)), 0 ≤ z ∧ z < n)
          | false => some (.val (.ref s (off + mulO z.toNat es)), 0 ≤ z ∧ z < n)
        | _, _ => none
  | .index t x i => match (rsv rd x).1, asI (rsv rd i).1 with
    | .junk, some z => match x, decide (t = 9) with
      | .const (.string s), true => match isTab s with
        | true => some (.val (.pv (.nat .u8 (bitLen z.toNat))), 0 ≤ z ∧ z < 256)
        | false => none
      | _, _ => none
    | .pv (.words .u64 4 N), some z => if t = 24 then some (.val (.pv (.nat .u64 (N / B ^ z.toNat % B))), 0 ≤ z ∧ z < 4) else none
    | .pv (.words .u64 8 N), some z => if t = 59 then some (.val (.pv (.words .u64 4 (N / B ^ (z.toNat * 4) % B ^ 4))), 0 ≤ z ∧ z < 2) else none
    | _, _ => none
  | .extract x i => match (rsv rd x).1, i with
    | .tup2 a _, 0 => some (.val (.pv a), True)
    | .tup2 _ b, 1 => some (.val (.pv b), True)
    | .tup3 a _ _, 0 => some (.val (.pv a), True)
    | .tup3 _ b _, 1 => some (.val (.pv b), True)
    | .tup3 _ _ c, 2 => some (.val (.pv c), True)
    | _, _ => none
  | .build t parts => match bldTy t with
    | some (kd, n, es) => (bld kd n es 0 (parts.toList.map fun x => (x.1, (rsv rd x.2).1))).map fun N => (.val (.pv (.words kd (n * es) N)), True)
    | none => none
  | .call c => match c.callee with
    | .value (.tmp t) => match rd t, pvs (c.args.toList.map (rsv rd)) with
      | .clo sp, some args => (sp args).map fun r => (.val (.pv r.1), r.2)
      | _, _ => none
    | .value (.func f) => match (c.args.toList.map (rsv rd)).all fit with
      | true => (callF T f (c.args.toList.map (rsv rd))).map fun r => (.val r.1, r.2)
      | false => none
    | _ => none
  | .sliceToArrayPointer t x => match (rsv rd x).1, elTy t with
    | .sl s off len _, some (n, _) => match decide (n ≤ len) with
      | true => some (.val (.ref s off), True)
      | false => none
    | _, _ => none
  | .slice t x lo hi none => match asP rd x, elTy t, litOpt rd lo, litOpt rd hi with
    | some (s, 0, _, _, _), some (n, 1), some lo, some hi =>
      match decide (lo.getD 0 ≤ hi.getD n ∧ hi.getD n ≤ n ∧ lo.getD 0 < n) with
      | true => some (.val (.sl s (lo.getD 0) (hi.getD n - lo.getD 0) (n - lo.getD 0)), True)
      | false => none
    | _, _, _, _ => none
  | _ => none

/-- The slots that an operation looks at. -/
def readsOf (rd : Nat → AV) (o : Op) : List Nat := o.operands.toList.flatMap (slotsOf rd)

theorem asP_congr {rd rd' : Nat → AV} {x : Operand} (h : ∀ s ∈ slotsOf rd x, rd s = rd' s) : asP rd x = asP rd' x ∧ isBoxAt rd x = isBoxAt rd' x := by
  cases x with
  | tmp t =>
    have ht : rd t = rd' t := h t (by simp only [slotsOf]; split <;> simp)
    simp only [asP, isBoxAt, ← ht]
    cases hr : rd t with
    | ref t' off => exact ⟨by simp only [h t' (by simp [slotsOf, hr])], trivial⟩
    | _ => exact ⟨rfl, trivial⟩
  | _ => exact ⟨rfl, rfl⟩

theorem litOpt_congr {rd rd' : Nat → AV} {x : Option Operand} (h : ∀ y ∈ x, rsv rd y = rsv rd' y) : litOpt rd x = litOpt rd' x := by
  cases x with
  | none => rfl
  | some y => simp only [litOpt, h y rfl]

theorem slotsOf_self (rd : Nat → AV) (t : Nat) : t ∈ slotsOf rd (.tmp t) := by
  simp only [slotsOf]; split <;> simp

/-- What an operation comes to hangs on the slots that it looks at alone. -/
theorem opEval_congr {T : List Entry} {rd rd' : Nat → AV} {o : Op} (h : ∀ s ∈ readsOf rd o, rd s = rd' s) : opEval T rd o = opEval T rd' o := by
  have hx : ∀ x ∈ o.operands, rsv rd x = rsv rd' x := fun x hx => (rsv_congr fun s hs => h s (List.mem_flatMap.2 ⟨x, by simpa using hx, hs⟩)).1
  have hp : ∀ x ∈ o.operands, asP rd x = asP rd' x ∧ isBoxAt rd x = isBoxAt rd' x := fun x hx => asP_congr fun s hs => h s (List.mem_flatMap.2 ⟨x, by simpa using hx, hs⟩)
  have hr := h
  clear h
  cases o <;> simp only [Op.operands, List.mem_toArray, List.mem_cons, List.not_mem_nil, or_false, forall_eq_or_imp, forall_eq, List.mem_map, forall_exists_index, and_imp, forall_apply_eq_imp_iff₂, Array.mem_toList_iff] at hx hp <;>
    first
    | rfl
    | (simp only [opEval, hx]; done)
    | (simp only [opEval, hx, hp]; done)
    | skip
  case build t parts =>
    simp only [opEval]
    split
    · rename_i kd n es _
      have e : (parts.toList.map fun x => (x.1, (rsv rd x.2).1)) = parts.toList.map fun x => (x.1, (rsv rd' x.2).1) :=
        List.map_congr_left fun y hy => by rw [hx y (by simpa using hy)]
      rw [e]
    · rfl
  case call c =>
    simp only [opEval]
    split
    · rename_i t hf
      have e : c.args.toList.map (rsv rd) = c.args.toList.map (rsv rd') := List.map_congr_left fun y hy => hx y (by simp [Call.operands, Array.mem_toList_iff.1 hy])
      rw [e, hr t (by simp [readsOf, Op.operands, Call.operands, hf, slotsOf_self])]
    · rename_i f hf
      have e : c.args.toList.map (rsv rd) = c.args.toList.map (rsv rd') := List.map_congr_left fun y hy => hx y (by simp [Call.operands, Array.mem_toList_iff.1 hy])
      rw [e]
    · rfl
  case slice t x lo hi mx =>
    cases mx with
    | some m => rfl
    | none =>
      have h1 := hp x (by simp)
      have h2 : litOpt rd lo = litOpt rd' lo := litOpt_congr fun y hy => hx y (by cases lo <;> simp at hy ⊢; simp [hy])
      have h3 : litOpt rd hi = litOpt rd' hi := litOpt_congr fun y hy => hx y (by cases hi <;> simp at hy ⊢; simp [hy])
      simp only [opEval, h1, h2, h3]

end Go.Proofs.Ytdjnhnfofajpcaa.Av
