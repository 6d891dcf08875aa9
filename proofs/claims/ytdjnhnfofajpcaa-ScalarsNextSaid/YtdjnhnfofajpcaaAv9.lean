/- A small evaluator over the model's code, ninth part: a statement's operations, one behind the other. -/
import Derived.Test.YtdjnhnfofajpcaaAv8
namespace Go.Proofs.Ytdjnhnfofajpcaa.Av
open Go Go.RowKit

/-- What an operation does to the abstract state: which slots it looks at, which one it writes, whether that is a new row, what is owed. -/
structure Eff where
  reads : List Nat
  wr : Option (Nat × AV)
  al : Option Nat
  ob : Prop

def AS.app (A : AS) : Option (Nat × AV) → AS
  | some (s, v) => A.set s v
  | none => A

/-- A truth that is known. -/
def settle (dec : List (Nat × Bool)) (d : Nat) (v : AV) : AV × Prop :=
  match v with
  | .pv (.bool b) => match dec.lookup d with
    | some c => (.pv (.blit c), b = c)
    | none => (v, True)
  | _ => (v, True)

def runEff (T : List Entry) (dec : List (Nat × Bool)) (o : Oper) (rd : Nat → AV) (more : List Nat) : Option Eff :=
  match opEval T rd o.op with
  | some (.val v, p) => match o.dst with
    | some d => some ⟨more ++ readsOf rd o.op, some (d, (settle dec d v).1), none, p ∧ (settle dec d v).2⟩
    | none => some ⟨more ++ readsOf rd o.op, none, none, p⟩
  | some (.alloc kd k N, p) => match o.dst with
    | some d => some ⟨more ++ readsOf rd o.op, some (d, .box kd k N), some d, p⟩
    | none => none
  | some (.store t kd k N, p) => match o.dst with
    | some _ => none
    | none => some ⟨more ++ readsOf rd o.op, some (t, .box kd k N), none, p⟩
  | none => none

def effOf (T : List Entry) (dec : List (Nat × Bool)) (ops : Array Oper) (o : Oper) (rd : Nat → AV) : Option Eff :=
  match o.guard with
  | none => runEff T dec o rd []
  | some (j, want) => match (ops[j]?).bind (·.dst) with
    | none => none
    | some g => match rd g with
      | .pv (.blit b) => match b == want with
        | true => runEff T dec o rd [g]
        | false => some ⟨[g], o.dst.map fun d => (d, .gone), none, True⟩
      | .gone => some ⟨[g], o.dst.map fun d => (d, .gone), none, True⟩
      | _ => none

theorem slots_congr {rd rd' : Nat → AV} {o : Op} (h : ∀ s ∈ readsOf rd o, rd s = rd' s) : readsOf rd o = readsOf rd' o := by
  unfold readsOf at *
  generalize o.operands.toList = l at *
  induction l with
  | nil => rfl
  | cons x l ih =>
    simp only [List.flatMap_cons, List.mem_append] at h ⊢
    rw [(rsv_congr fun s hs => h s (.inl hs)).2, ih fun s hs => h s (.inr hs)]

theorem runEff_congr {T : List Entry} {dec : List (Nat × Bool)} {o : Oper} {rd rd' : Nat → AV} {more : List Nat} {e : Eff} (he : runEff T dec o rd more = some e) (h : ∀ s ∈ e.reads, rd s = rd' s) :
    runEff T dec o rd' more = some e := by
  have hr : ∀ s ∈ readsOf rd o.op, rd s = rd' s := by
    intro s hs
    unfold runEff at he
    split at he
    · split at he <;> (simp only [Option.some.injEq] at he; subst he; exact h s (by simp [hs]))
    · split at he
      · simp only [Option.some.injEq] at he; subst he; exact h s (by simp [hs])
      · simp at he
    · split at he
      · simp at he
      · simp only [Option.some.injEq] at he; subst he; exact h s (by simp [hs])
    · simp at he
  unfold runEff at he ⊢
  rw [← opEval_congr hr, ← slots_congr hr]
  exact he

theorem effOf_congr {T : List Entry} {dec : List (Nat × Bool)} {ops : Array Oper} {o : Oper} {rd rd' : Nat → AV} {e : Eff} (he : effOf T dec ops o rd = some e) (h : ∀ s ∈ e.reads, rd s = rd' s) :
    effOf T dec ops o rd' = some e := by
  unfold effOf at he ⊢
  split at he
  · exact runEff_congr he h
  · split at he
    · simp at he
    · rename_i g hg
      split at he
      · rename_i b hb
        have hgm : g ∈ e.reads := by
          split at he
          · unfold runEff at he
            split at he
            · split at he <;> (simp only [Option.some.injEq] at he; subst he; simp)
            · split at he
              · simp only [Option.some.injEq] at he; subst he; simp
              · simp at he
            · split at he
              · simp at he
              · simp only [Option.some.injEq] at he; subst he; simp
            · simp at he
          · simp only [Option.some.injEq] at he; subst he; simp
        simp only [← h g hgm, hb]
        split at he
        · exact runEff_congr he h
        · exact he
      · rename_i hb
        have hgm : g ∈ e.reads := by simp only [Option.some.injEq] at he; subst he; simp
        simp only [← h g hgm, hb]
        exact he
      · simp at he

/-! ### States -/

def AV.mentions (t : Nat) : AV → Bool
  | .ref t' _ | .sl t' _ _ _ => t' == t
  | _ => false
def NoRef (t : Nat) (A : AS) : Prop := ∀ s, (A.at s).mentions t = false

theorem at_set (A : AS) (d s : Nat) (v : AV) : AS.at (A.set d v) s = if s = d ∧ d < A.length then v else A.at s := by
  unfold AS.at
  rw [List.getD_eq_getElem?_getD, List.getD_eq_getElem?_getD, List.getElem?_set]
  by_cases h : d = s
  · subst h
    by_cases hl : d < A.length
    · simp [hl]
    · simp [hl]
  · rw [if_neg h, if_neg (by omega)]

theorem app_length (A : AS) (x : Option (Nat × AV)) : (A.app x).length = A.length := by
  cases x with
  | none => rfl
  | some y => simp [AS.app]

theorem Conc.congr {w0 w : World} {A A' : AS} {tmps : Array Value} {β : Nat → Nat} (h : Conc w0 A tmps w β) (hl : A'.length = A.length) (ha : ∀ s, A'.at s = A.at s ∨ A'.at s = .junk) : Conc w0 A' tmps w β := by
  have hb : ∀ s, (A'.at s).isBox = true → A'.at s = A.at s := fun s hs => by
    rcases ha s with h' | h'
    · exact h'
    · rw [h'] at hs; cases hs
  refine ⟨h.size.trans hl.symm, h.below, fun s => ?_, fun s hs => h.base s (by rw [← hb s hs]; exact hs), fun s t hs ht => h.sep s t (by rw [← hb s hs]; exact hs) (by rw [← hb t ht]; exact ht)⟩
  rcases ha s with h' | h'
  · rw [h']; exact h.slots s
  · rw [h']; trivial

theorem Holds.congr {w0 w : World} {A A' : AS} {a : Act} (h : Holds w0 A a w) (hl : A'.length = A.length) (ha : ∀ s, A'.at s = A.at s ∨ A'.at s = .junk) : Holds w0 A' a w :=
  ⟨h.1, h.2.imp fun _ hc => hc.congr hl ha⟩

theorem getD_put (a : Act) (d : Nat) (u : Value) (s : Nat) : (a.put (some d) u).tmps.getD s undef = if s = d ∧ d < a.tmps.size then u else a.tmps.getD s undef := by
  simp only [Act.put, Array.getD_eq_getD_getElem?, Array.getElem?_setIfInBounds]
  by_cases h : d = s
  · subst h
    by_cases hl : d < a.tmps.size
    · simp [hl]
    · simp [hl]
  · rw [if_neg h, if_neg (by omega)]

theorem AV.R_below {w0 : World} {β : Nat → Nat} {w w' : World} {s : Nat} {x : AV} {v : Value} (h : x.R w0 β w s v) (hB : Below w.heap.size w w') : x.R w0 β w' s v := by
  cases x with
  | box kd k N =>
    obtain ⟨h1, ⟨e, h2⟩, h3⟩ := h
    exact ⟨h1, ⟨e, by rw [hB.block _ (Array.getElem?_eq_some_iff.1 h2).1]; exact h2⟩, h3⟩
  | _ => exact h

theorem AV.R_of_V {w0 : World} {β : Nat → Nat} {w : World} {s : Nat} {x : AV} {v : Value} (h : x.V w0 β v) (hb : x.isBox = false) : x.R w0 β w s v := by
  cases x <;> first | exact h | (simp [AV.isBox] at hb)

theorem holds_val {w0 : World} {A : AS} {a : Act} {w w' : World} {β : Nat → Nat} (hd : a.defers = []) (h : Conc w0 A a.tmps w β) (d : Option Nat) (v : AV) (u : Value) (hv : v.V w0 β u) (hb : v.isBox = false)
    (hB : Below w.heap.size w w') : Holds w0 (A.app (d.map fun d => (d, v))) (a.put d u) w' := by
  have hle : w0.heap.size ≤ w.heap.size := h.below.size
  cases d with
  | none =>
    exact ⟨hd, β, h.size, h.below.trans (hB.mono hle), fun s => AV.R_below (h.slots s) hB, h.base, h.sep⟩
  | some d =>
    refine ⟨hd, β, by simp [AS.app, Act.put, h.size], h.below.trans (hB.mono hle), fun s => ?_, fun s hs => ?_, fun s t hs ht => ?_⟩
    · simp only [AS.app, Option.map_some]
      rw [at_set, getD_put, h.size]
      split
      · exact AV.R_of_V hv hb
      · exact AV.R_below (h.slots s) hB
    · simp only [AS.app, Option.map_some, at_set] at hs
      split at hs
      · rw [hb] at hs; cases hs
      · exact h.base s hs
    · simp only [AS.app, Option.map_some, at_set] at hs ht
      split at hs
      · rw [hb] at hs; cases hs
      · split at ht
        · rw [hb] at ht; cases ht
        · exact h.sep s t hs ht

theorem holds_alloc {w0 : World} {A : AS} {a : Act} {w : World} {β : Nat → Nat} (hd : a.defers = []) (h : Conc w0 A a.tmps w β) (d : Nat) (kd : IntKind) (k N : Nat) (e : TypeId) (hW : WF kd k N) (hn : NoRef d A) :
    Holds w0 (A.set d (.box kd k N)) (a.put (some d) (.pointer (some ⟨w.heap.size, 0, none⟩))) (w.alloc (.cells (cells kd k N) e)) := by
  have hlt : ∀ s, (A.at s).isBox = true → β s < w.heap.size := fun s hs => by
    have := h.slots s
    cases hv : A.at s <;> rw [hv] at hs this <;> first | (simp [AV.isBox] at hs; done) | skip
    obtain ⟨_, ⟨e, h2⟩, _⟩ := this
    exact (Array.getElem?_eq_some_iff.1 h2).1
  refine ⟨hd, fun s => if s = d then w.heap.size else β s, by simp [Act.put, h.size], h.below.alloc h.below.size _, fun s => ?_, fun s hs => ?_, fun s t hs ht hst => ?_⟩
  · rw [at_set, getD_put, h.size]
    split
    · rename_i hsd
      refine ⟨by simp [hsd.1], ⟨e, ?_⟩, hW⟩
      simp only [hsd.1, if_true]
      exact heap_alloc_new w _
    · rename_i hsd
      have h0 := h.slots s
      have hm := hn s
      cases hv : A.at s with
      | box kd' k' N' =>
        rw [hv] at h0
        obtain ⟨h1, ⟨e', h2⟩, h3⟩ := h0
        have hl := (Array.getElem?_eq_some_iff.1 h2).1
        have hne : s ≠ d := fun e => by
          subst e
          have : s < A.length := by
            rcases Nat.lt_or_ge s A.length with h' | h'
            · exact h'
            · simp [AS.at, List.getElem?_eq_none h'] at hv
          exact hsd ⟨rfl, this⟩
        refine ⟨by simp only [hne, if_false]; exact h1, ⟨e', ?_⟩, h3⟩
        simp only [hne, if_false]
        rw [heap_alloc_old (h := hl)]; exact h2
      | ref t off =>
        rw [hv] at h0 hm
        simp only [AV.mentions, beq_eq_false_iff_ne, ne_eq] at hm
        show _ = _
        simp only [hm, if_false]
        exact h0
      | sl t off len cap =>
        rw [hv] at h0 hm
        simp only [AV.mentions, beq_eq_false_iff_ne, ne_eq] at hm
        show _ = _
        simp only [hm, if_false]
        exact h0
      | _ => rw [hv] at h0; exact h0
  · rw [at_set] at hs
    split at hs
    · rename_i hsd; simp only [hsd.1, if_true]; exact h.below.size
    · rename_i hsd
      have := h.base s hs
      have := hlt s hs
      split <;> omega
  · rw [at_set] at hs ht
    split at hs
    · rename_i hsd
      split at ht
      · rename_i htd; rw [hsd.1, htd.1]
      · have := hlt t ht
        rw [if_pos hsd.1] at hst
        split at hst
        · rename_i htd; rw [hsd.1, htd]
        · omega
    · split at ht
      · rename_i hsd htd
        have := hlt s hs
        rw [if_pos htd.1] at hst
        split at hst
        · rename_i hsd; rw [hsd, htd.1]
        · omega
      · have := hlt s hs
        have := hlt t ht
        split at hst <;> split at hst
        · rename_i h1 h2; rw [h1, h2]
        · omega
        · omega
        · exact h.sep s t hs ht hst

theorem holds_store {w0 : World} {A : AS} {a : Act} {w w' : World} {β : Nat → Nat} (hd : a.defers = []) (h : Conc w0 A a.tmps w β) (t : Nat) (kd : IntKind) (k N : Nat) (e : TypeId) (hW : WF kd k N) (hb : (A.at t).isBox = true)
    (hU : Upd (β t) w w') (hc : w'.heap[β t]? = some (.cells (cells kd k N) e (0, 0))) : Holds w0 (A.set t (.box kd k N)) (a.put none undef) w' := by
  have hl : t < A.length := by
    rcases Nat.lt_or_ge t A.length with h' | h'
    · exact h'
    · simp [AS.at, List.getElem?_eq_none h', AV.isBox] at hb
  refine ⟨hd, β, by simp [Act.put, h.size], hU.below h.below (h.base t hb), fun s => ?_, fun s hs => ?_, fun s q hs hq => ?_⟩
  · rw [at_set]
    have h0 := h.slots s
    split
    · rename_i hst
      have hst := hst.1
      subst hst
      cases hv : A.at s <;> rw [hv] at hb h0 <;> first | (simp [AV.isBox] at hb; done) | skip
      exact ⟨h0.1, ⟨e, hc⟩, hW⟩
    · rename_i hst
      cases hv : A.at s with
      | box kd' k' N' =>
        rw [hv] at h0
        obtain ⟨h1, ⟨e', h2⟩, h3⟩ := h0
        refine ⟨h1, ⟨e', ?_⟩, h3⟩
        rw [hU.block _ (fun e => hst ⟨h.sep s t (by rw [hv]; rfl) hb e, hl⟩)]
        exact h2
      | _ => rw [hv] at h0; exact h0
  · rw [at_set] at hs
    split at hs
    · rename_i hst; rw [hst.1]; exact h.base t hb
    · exact h.base s hs
  · rw [at_set] at hs hq
    have e1 : (A.at s).isBox = true := by
      split at hs
      · rename_i hst; rw [hst.1]; exact hb
      · exact hs
    have e2 : (A.at q).isBox = true := by
      split at hq
      · rename_i hst; rw [hst.1]; exact hb
      · exact hq
    exact h.sep s q e1 e2

theorem settle_V {w0 : World} {dec : List (Nat × Bool)} {d : Nat} {v : AV} {β : Nat → Nat} {u : Value} (hv : v.V w0 β u) (hb : v.isBox = false) (hp : (settle dec d v).2) : (settle dec d v).1.V w0 β u ∧ (settle dec d v).1.isBox = false := by
  unfold settle at hp ⊢
  split at hp
  · rename_i b
    split at hp
    · rename_i c hc
      exact ⟨by rw [← hp]; exact hv, rfl⟩
    · exact ⟨hv, hb⟩
  · exact ⟨hv, hb⟩

theorem yielded_of {ops : Array Oper} {j g : Nat} {tmps : Array Value} {b : Bool} (hg : (ops[j]?).bind (·.dst) = some g) (hb : tmps.getD g undef = .bool b) : yielded ops tmps j = some b := by
  unfold yielded
  rw [hg]
  simp only [Option.bind_some]
  rw [Array.getD_eq_getD_getElem?] at hb
  cases ht : tmps[g]? with
  | none => rw [ht] at hb; simp [undef] at hb
  | some v => rw [ht] at hb; simp only [Option.getD_some] at hb; subst hb; rfl

theorem yielded_gone {ops : Array Oper} {j g : Nat} {tmps : Array Value} (hg : (ops[j]?).bind (·.dst) = some g) (hb : tmps.getD g undef = undef) : yielded ops tmps j = none := by
  unfold yielded
  rw [hg]
  simp only [Option.bind_some]
  rw [Array.getD_eq_getD_getElem?] at hb
  cases ht : tmps[g]? with
  | none => rfl
  | some v => rw [ht] at hb; simp only [Option.getD_some] at hb; subst hb; rfl

/-- One operation: what it is said to do is what it does. -/
theorem eff_sound {T : List Entry} (hT : TOK T) {dec : List (Nat × Bool)} {ops : Array Oper} {w0 : World} {A : AS} {a : Act} {w : World} (hA : Holds w0 A a w) (o : Oper) {e : Eff}
    (he : effOf T dec ops o A.at = some e) (hob : e.ob) (hal : ∀ t, e.al = some t → NoRef t A) {K : Act → World → Prop} {Q : Exit → Act → World → Prop}
    (hK : ∀ a' w', Holds w0 (A.app e.wr) a' w' → K a' w') :
    (Region.wanted o (yielded ops a.tmps) = true ∧ o.wp PP a w K Q) ∨ (Region.wanted o (yielded ops a.tmps) = false ∧ K (a.put o.dst undef) w) := by
  obtain ⟨hd, β, hc⟩ := hA
  have run : ∀ more, runEff T dec o A.at more = some e → o.wp PP a w K Q := by
    intro more hr
    unfold runEff at hr
    split at hr
    · rename_i v p hv
      split at hr
      · rename_i d hdst
        simp only [Option.some.injEq] at hr
        subst hr
        obtain ⟨h1, h2⟩ := op_sound hT hc o hv hob.1
        refine h2 _ _ fun u w' hB hu => hK _ _ ?_
        obtain ⟨h3, h4⟩ := settle_V (dec := dec) (d := d) hu h1 hob.2
        have := holds_val hd hc (some d) _ u h3 h4 hB
        rw [hdst]; exact this
      · rename_i hdst
        simp only [Option.some.injEq] at hr
        subst hr
        obtain ⟨h1, h2⟩ := op_sound hT hc o hv hob
        refine h2 _ _ fun u w' hB hu => hK _ _ ?_
        have := holds_val hd hc none _ u hu h1 hB
        rw [hdst]; exact this
    · rename_i kd k N p hv
      split at hr
      · rename_i d hdst
        simp only [Option.some.injEq] at hr
        subst hr
        obtain ⟨h1, h2⟩ := op_sound hT hc o hv hob
        refine h2 _ _ fun et => hK _ _ ?_
        rw [hdst]
        exact holds_alloc hd hc d kd k N et h1 (hal d rfl)
      · simp at hr
    · rename_i t kd k N p hv
      split at hr
      · simp at hr
      · rename_i hdst
        simp only [Option.some.injEq] at hr
        subst hr
        obtain ⟨h1, h2, h3⟩ := op_sound hT hc o hv hob
        refine h3 _ _ fun w' et hU hcell => hK _ _ ?_
        rw [hdst]
        exact holds_store hd hc t kd k N et h1 h2 hU hcell
    · simp at hr
  unfold effOf at he
  split at he
  · rename_i hg
    exact .inl ⟨by simp [Region.wanted, hg], run _ he⟩
  · rename_i j want hg
    split at he
    · simp at he
    · rename_i g hgs
      split at he
      · rename_i b hb
        have hy : yielded ops a.tmps j = some b := by
          have := hc.slots g
          rw [hb] at this
          exact yielded_of hgs this
        split at he
        · rename_i hw
          have hw := eq_of_beq hw
          exact .inl ⟨by simp [Region.wanted, hg, hy, hw], run _ he⟩
        · rename_i hw
          simp only [Option.some.injEq] at he
          subst he
          refine .inr ⟨by simp [Region.wanted, hg, hy, hw], hK _ _ ?_⟩
          exact holds_val hd hc o.dst .gone undef rfl rfl (.refl _ _)
      · rename_i hb
        have hy : yielded ops a.tmps j = none := by
          have := hc.slots g
          rw [hb] at this
          exact yielded_gone hgs this
        simp only [Option.some.injEq] at he
        subst he
        refine .inr ⟨by simp [Region.wanted, hg, hy], hK _ _ ?_⟩
        exact holds_val hd hc o.dst .gone undef rfl rfl (.refl _ _)
      · simp at he

end Go.Proofs.Ytdjnhnfofajpcaa.Av
