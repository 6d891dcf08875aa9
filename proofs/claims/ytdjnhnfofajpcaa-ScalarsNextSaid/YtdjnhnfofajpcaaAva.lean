/- A small evaluator over the model's code, tenth part: statements whose order is fixed, and those whose order is drawn: one run in the text's order serves every order, if whatever touches one slot is ordered. -/
import Derived.Test.YtdjnhnfofajpcaaAv9
namespace Go.Proofs.Ytdjnhnfofajpcaa.Av
open Go Go.RowKit

/-- Slots in which a statement lays new rows. -/
def fresh : List Oper → List Nat
  | [] => []
  | o :: r => match o.op, o.dst with
    | .alloc _, some d | .box _ _, some d => d :: fresh r
    | _, _ => fresh r

/-- What points to a row that goes is forgotten. -/
def prep (ds : List Nat) (A : AS) : AS :=
  match ds with
  | [] => A
  | _ => A.map fun v => match v with
    | .ref t _ | .sl t _ _ _ => if ds.contains t then .junk else v
    | _ => v

theorem prep_at (ds : List Nat) (A : AS) (s : Nat) : (prep ds A).at s = A.at s ∨ (prep ds A).at s = .junk := by
  unfold prep
  split
  · exact .inl rfl
  · unfold AS.at
    rw [List.getD_eq_getElem?_getD, List.getD_eq_getElem?_getD, List.getElem?_map]
    cases A[s]? with
    | none => exact .inl rfl
    | some v =>
      simp only [Option.map_some, Option.getD_some]
      cases v with
      | ref t off =>
        dsimp only
        by_cases h : ds.contains t = true
        · right; rw [if_pos h]
        · left; rw [if_neg h]
      | sl t off len cap =>
        dsimp only
        by_cases h : ds.contains t = true
        · right; rw [if_pos h]
        · left; rw [if_neg h]
      | _ => exact .inl rfl
theorem prep_length (ds : List Nat) (A : AS) : (prep ds A).length = A.length := by
  unfold prep; split <;> simp
theorem prep_noRef {ds : List Nat} {t : Nat} (ht : t ∈ ds) (A : AS) : NoRef t (prep ds A) := by
  intro s
  unfold prep
  split
  · cases ht
  · unfold AS.at
    rw [List.getD_eq_getElem?_getD, List.getElem?_map]
    cases A[s]? with
    | none => rfl
    | some v =>
      simp only [Option.map_some, Option.getD_some]
      cases v with
      | ref t' off =>
        dsimp only
        split
        · rfl
        · rename_i h
          simp only [AV.mentions, beq_eq_false_iff_ne, ne_eq]
          rintro rfl
          exact h (by simpa using ht)
      | sl t' off len cap =>
        dsimp only
        split
        · rfl
        · rename_i h
          simp only [AV.mentions, beq_eq_false_iff_ne, ne_eq]
          rintro rfl
          exact h (by simpa using ht)
      | _ => rfl
theorem prep_holds {w0 w : World} {A : AS} {a : Act} (ds : List Nat) (h : Holds w0 A a w) : Holds w0 (prep ds A) a w := h.congr (prep_length _ _) (prep_at _ _)

/-- Does a write point to the row of slot t? -/
def wrMentions (t : Nat) : Option (Nat × AV) → Bool
  | some (_, v) => v.mentions t
  | none => false

/-- In the text's order: what each operation does, and the state at the end. -/
def lexEffs (T : List Entry) (dec : List (Nat × Bool)) (ops : Array Oper) : List Oper → AS → Option (List Eff × AS)
  | [], A => some ([], A)
  | o :: r, A => match effOf T dec ops o A.at with
    | none => none
    | some e => match lexEffs T dec ops r (A.app e.wr) with
      | none => none
      | some (es, A') => some (e :: es, A')

/-- What is owed. -/
def obs : List Eff → Prop
  | [] => True
  | e :: es => e.ob ∧ obs es

/-- A new row in slot t: nothing that was written points to an elder one there. -/
def alOK (ds : List Nat) : List Eff → List (Option (Nat × AV)) → Bool
  | [], _ => true
  | e :: es, ws => (match e.al with
    | some t => ds.contains t && ws.all fun x => !wrMentions t x
    | none => true) && alOK ds es (e.wr :: ws)

/-! ### The order is fixed -/

theorem app_noRef {t : Nat} {A : AS} {x : Option (Nat × AV)} (h : NoRef t A) (hx : wrMentions t x = false) : NoRef t (A.app x) := by
  intro s
  cases x with
  | none => exact h s
  | some y =>
    simp only [AS.app, at_set]
    split
    · exact hx
    · exact h s

theorem seq_sound {T : List Entry} (hT : TOK T) {dec : List (Nat × Bool)} {ops : Array Oper} {w0 : World} {ds : List Nat} {Q : Exit → Act → World → Prop} :
    ∀ (l : List Oper) (A A' : AS) (es : List Eff) (ws : List (Option (Nat × AV))) (a : Act) (w : World), lexEffs T dec ops l A = some (es, A') → obs es → alOK ds es ws = true →
      (∀ t ∈ ds, (ws.all fun x => !wrMentions t x) = true → NoRef t A) → Holds w0 A a w → (∀ a' w', Holds w0 A' a' w' → Q .normal a' w') → wpList PP ops Q l a w
  | [], A, A', es, ws, a, w, hl, _, _, _, hA, hQ => by
    simp only [lexEffs, Option.some.injEq, Prod.mk.injEq] at hl
    obtain ⟨_, rfl⟩ := hl
    exact hQ a w hA
  | o :: l, A, A', es, ws, a, w, hl, hob, hal, hn, hA, hQ => by
    simp only [lexEffs] at hl
    split at hl
    · simp at hl
    · rename_i e he
      split at hl
      · simp at hl
      · rename_i es' A1 hl'
        simp only [Option.some.injEq, Prod.mk.injEq] at hl
        obtain ⟨rfl, rfl⟩ := hl
        simp only [alOK, Bool.and_eq_true] at hal
        have hna : ∀ t, e.al = some t → NoRef t A := by
          intro t ht
          have h1 := hal.1
          rw [ht] at h1
          simp only [Bool.and_eq_true] at h1
          exact hn t (by simpa using h1.1) h1.2
        have hnext : ∀ t ∈ ds, ((e.wr :: ws).all fun x => !wrMentions t x) = true → NoRef t (A.app e.wr) := by
          intro t ht hall
          simp only [List.all_cons, Bool.and_eq_true, Bool.not_eq_true'] at hall
          exact app_noRef (hn t ht hall.2) hall.1
        have key := eff_sound hT (dec := dec) (ops := ops) hA o he hob.1 hna (K := wpList PP ops Q l) (Q := Q) (fun a' w' h' => seq_sound hT l (A.app e.wr) A1 es' (e.wr :: ws) a' w' hl' hob.2 hal.2 hnext h' hQ)
        unfold wpList
        rcases key with ⟨h1, h2⟩ | ⟨h1, h2⟩
        · rw [if_pos h1]; exact .inl h2
        · rw [if_neg (by rw [h1]; simp)]; exact h2

/-! ### The order is drawn -/

def writes (e : Eff) (s : Nat) : Bool :=
  match e.wr with
  | some (d, _) => d == s
  | none => false
/-- Two operations that touch one slot. -/
def clash (e f : Eff) : Bool :=
  (match e.wr with
   | some (d, _) => f.reads.contains d || writes f d
   | none => false) ||
  (match f.wr with
   | some (d, _) => e.reads.contains d
   | none => false)
/-- Operation o waits for operation i. -/
def waitsFor (o : Oper) (i : Nat) : Bool := o.after.toList.any fun x => Region.binds .any x && x.on == i

/-- Every operation waits for those ahead of it that touch what it touches. -/
def ordered (f : Eff) (o : Oper) : Nat → List Eff → Bool
  | _, [] => true
  | i, e :: es => (!clash e f || waitsFor o i) && ordered f o (i + 1) es
/-- Each of them; those ahead come in 'done', the first one first. -/
def allOrdered : List Eff → List Eff → List Oper → Bool
  | _, [], [] => true
  | done, f :: fs, o :: os => ordered f o 0 done && (o.after.toList.all fun x => !Region.binds .any x || decide (x.on < done.length)) && allOrdered (done ++ [f]) fs os
  | _, _, _ => false
/-- Whatever points to a row that the statement lays looks at its slot, behind it. -/
def alAny (ds : List Nat) : List Eff → List Eff → Bool
  | _, [] => true
  | done, e :: es => (match e.al with
    | some t => ds.contains t && (done.all fun x => !wrMentions t x.wr) && (es.all fun x => !wrMentions t x.wr || x.reads.contains t)
    | none => true) && alAny ds (done ++ [e]) es

/-- The state when those of S have come up. -/
def st (S : Nat → Bool) : Nat → List Eff → AS → AS
  | _, [], A => A
  | k, e :: es, A => st S (k + 1) es (if S k then A.app e.wr else A)

theorem st_length (S : Nat → Bool) : ∀ (es : List Eff) (k : Nat) (A : AS), (st S k es A).length = A.length
  | [], _, _ => rfl
  | e :: es, k, A => by
    simp only [st]; rw [st_length S es]; split
    · exact app_length _ _
    · rfl

theorem app_at_other {A : AS} {x : Option (Nat × AV)} {s : Nat} (h : ∀ d v, x = some (d, v) → d ≠ s) : (A.app x).at s = A.at s := by
  cases x with
  | none => rfl
  | some y =>
    have := h y.1 y.2 rfl
    simp only [AS.app, at_set]
    rw [if_neg (by omega)]

theorem app_at_congr {A A' : AS} (x : Option (Nat × AV)) {s : Nat} (hl : A.length = A'.length) (h : A.at s = A'.at s) : (A.app x).at s = (A'.app x).at s := by
  cases x with
  | none => exact h
  | some y => simp only [AS.app, at_set, hl, h]

theorem app_at_write {A A' : AS} {x : Option (Nat × AV)} {s : Nat} (hl : A.length = A'.length) (h : ∃ v, x = some (s, v)) (h0 : A.length ≤ s → A.at s = A'.at s) : (A.app x).at s = (A'.app x).at s := by
  obtain ⟨v, rfl⟩ := h
  simp only [AS.app, at_set, ← hl, true_and]
  by_cases hs : s < A.length
  · rw [if_pos hs, if_pos hs]
  · rw [if_neg hs, if_neg hs]; exact h0 (Nat.le_of_not_lt hs)

theorem at_ge {A : AS} {s : Nat} (h : A.length ≤ s) : A.at s = .junk := by
  simp [AS.at, List.getElem?_eq_none h]

theorem writes_spec {e : Eff} {s : Nat} : writes e s = true ↔ ∃ v, e.wr = some (s, v) := by
  unfold writes
  cases h : e.wr with
  | none => simp
  | some y =>
    obtain ⟨d, v⟩ := y
    simp only [beq_iff_eq, Option.some.injEq, Prod.mk.injEq]
    constructor
    · rintro rfl; exact ⟨v, rfl, rfl⟩
    · rintro ⟨_, rfl, _⟩; rfl

/-- A slot reads the same where the same of its writers have come up. -/
theorem st_at_congr {S S' : Nat → Bool} (s : Nat) : ∀ (es : List Eff) (k : Nat) (A A' : AS), A.length = A'.length → A.at s = A'.at s →
    (∀ i e, es[i]? = some e → writes e s = true → S (k + i) = S' (k + i)) → (st S k es A).at s = (st S' k es A').at s
  | [], _, _, _, _, h, _ => h
  | e :: es, k, A, A', hl, h, hS => by
    simp only [st]
    refine st_at_congr s es (k + 1) _ _ ?_ ?_ (fun i f hf hw => by have := hS (i + 1) f (by simpa using hf) hw; rwa [show k + (i + 1) = k + 1 + i by omega] at this)
    · split <;> split <;> simp [app_length, hl]
    · by_cases hw : writes e s = true
      · have := hS 0 e (by simp) hw
        simp only [Nat.add_zero] at this
        rw [this]
        split
        · exact app_at_congr _ hl h
        · exact h
      · have hne : ∀ d v, e.wr = some (d, v) → d ≠ s := fun d v hd hds => by
          subst hds; exact hw (writes_spec.2 ⟨v, hd⟩)
        have h1 := app_at_other (A := A) hne
        have h2 := app_at_other (A := A') hne
        split <;> split <;> simp only [h1, h2, h]

/-- Behind its last writer a slot holds what that one wrote. -/
theorem st_at_last {S : Nat → Bool} (s : Nat) : ∀ (es : List Eff) (k i : Nat) (e : Eff) (A C : AS), es[i]? = some e → S (k + i) = true → (∃ v, e.wr = some (s, v)) → C.length = A.length →
    (∀ j f, i < j → es[j]? = some f → writes f s = true → S (k + j) = false) → (st S k es A).at s = (C.app e.wr).at s
  | [], _, _, _, _, _, h, _, _, _, _ => by simp at h
  | f :: es, k, 0, e, A, C, h, hS, hw, hl, hlast => by
    simp only [List.getElem?_cons_zero, Option.some.injEq] at h
    subst h
    simp only [Nat.add_zero] at hS
    simp only [st, hS, if_true]
    have hrest : ∀ (es : List Eff) (k : Nat) (D : AS), (∀ j f, es[j]? = some f → writes f s = true → S (k + j) = false) → (st S k es D).at s = D.at s := by
      intro es
      induction es with
      | nil => intro _ _ _; rfl
      | cons g es ih =>
        intro k D hg
        simp only [st]
        rw [ih (k + 1) _ (fun j f hf hw => by have := hg (j + 1) f (by simpa using hf) hw; rwa [show k + (j + 1) = k + 1 + j by omega] at this)]
        split
        · rename_i hSk
          refine app_at_other fun d v hd hds => ?_
          subst hds
          have := hg 0 g (by simp) (writes_spec.2 ⟨v, hd⟩)
          simp only [Nat.add_zero] at this
          rw [this] at hSk; cases hSk
        · rfl
    rw [hrest es (k + 1) _ (fun j g hg hwg => by have := hlast (j + 1) g (by omega) (by simpa using hg) hwg; rwa [show k + (j + 1) = k + 1 + j by omega] at this)]
    exact app_at_write hl.symm hw (fun hge => by rw [at_ge hge, at_ge (by omega)])
  | f :: es, k, i + 1, e, A, C, h, hS, hw, hl, hlast => by
    simp only [st]
    refine st_at_last s es (k + 1) i e _ C (by simpa using h) (by rwa [show k + 1 + i = k + (i + 1) by omega]) hw ?_ (fun j g hij hg hwg => by
      have := hlast (j + 1) g (by omega) (by simpa using hg) hwg; rwa [show k + (j + 1) = k + 1 + j by omega] at this)
    split <;> simp [app_length, hl]

theorem st_none : ∀ (es : List Eff) (k : Nat) (A : AS) (S : Nat → Bool), (∀ j, k ≤ j → S j = false) → st S k es A = A
  | [], _, _, _, _ => rfl
  | e :: es, k, A, S, h => by
    simp only [st, h k (Nat.le_refl _), Bool.false_eq_true, if_false]
    exact st_none es (k + 1) A S fun j hj => h j (by omega)

/-- What the run in the text's order says of each operation. -/
theorem lex_spec {T : List Entry} {dec : List (Nat × Bool)} {ops : Array Oper} : ∀ (l : List Oper) (k : Nat) (A A' : AS) (es : List Eff), lexEffs T dec ops l A = some (es, A') →
    es.length = l.length ∧ st (fun _ => true) k es A = A' ∧ ∀ (i : Nat) (o : Oper), l[i]? = some o → ∃ e, es[i]? = some e ∧ effOf T dec ops o (st (fun j => decide (j < k + i)) k es A).at = some e
  | [], _, A, A', es, h => by
    simp only [lexEffs, Option.some.injEq, Prod.mk.injEq] at h
    obtain ⟨rfl, rfl⟩ := h
    exact ⟨rfl, rfl, fun i o hi => by simp at hi⟩
  | o :: l, k, A, A', es, h => by
    simp only [lexEffs] at h
    split at h
    · simp at h
    · rename_i e he
      split at h
      · simp at h
      · rename_i es' A1 hl'
        simp only [Option.some.injEq, Prod.mk.injEq] at h
        obtain ⟨rfl, rfl⟩ := h
        obtain ⟨h1, h2, h3⟩ := lex_spec l (k + 1) _ _ _ hl'
        refine ⟨by simp [h1], by simp only [st, if_true]; exact h2, fun i o' hi => ?_⟩
        cases i with
        | zero =>
          simp only [List.getElem?_cons_zero, Option.some.injEq] at hi
          subst hi
          refine ⟨e, rfl, ?_⟩
          rw [st_none _ _ _ _ (fun j hj => by simp; omega)]
          exact he
        | succ i =>
          simp only [List.getElem?_cons_succ] at hi
          obtain ⟨f, hf1, hf2⟩ := h3 i o' hi
          refine ⟨f, by simpa using hf1, ?_⟩
          simp only [st, show decide (k < k + (i + 1)) = true by simp, if_true]
          rw [show k + (i + 1) = k + 1 + i by omega]
          exact hf2

theorem obs_spec : ∀ {es : List Eff} {i : Nat} {e : Eff}, obs es → es[i]? = some e → e.ob
  | [], i, e, _, h => by simp at h
  | f :: es, 0, e, ho, h => by simp only [List.getElem?_cons_zero, Option.some.injEq] at h; subst h; exact ho.1
  | f :: es, i + 1, e, ho, h => obs_spec ho.2 (by simpa using h)

theorem ordered_spec {f : Eff} {o : Oper} : ∀ (es : List Eff) (k : Nat), ordered f o k es = true → ∀ (i : Nat) (e : Eff), es[i]? = some e → clash e f = true → waitsFor o (k + i) = true
  | [], _, _, i, e, h, _ => by simp at h
  | g :: es, k, ho, i, e, h, hc => by
    simp only [ordered, Bool.and_eq_true, Bool.or_eq_true, Bool.not_eq_true'] at ho
    cases i with
    | zero =>
      simp only [List.getElem?_cons_zero, Option.some.injEq] at h
      subst h
      rcases ho.1 with h' | h'
      · rw [h'] at hc; cases hc
      · exact h'
    | succ i =>
      have := ordered_spec es (k + 1) ho.2 i e (by simpa using h) hc
      rwa [show k + 1 + i = k + (i + 1) by omega] at this

theorem allOrdered_spec : ∀ (fs done : List Eff) (os : List Oper), allOrdered done fs os = true → ∀ (j : Nat) (f : Eff) (o : Oper), fs[j]? = some f → os[j]? = some o →
    (∀ (i : Nat) (e : Eff), i < done.length + j → (done ++ fs)[i]? = some e → clash e f = true → waitsFor o i = true) ∧ (∀ x ∈ o.after, Region.binds .any x = true → x.on < done.length + j)
  | [], _, _, _, j, f, o, h, _ => by simp at h
  | g :: fs, done, [], h, j, f, o, _, ho => by simp at ho
  | g :: fs, done, p :: os, h, j, f, o, hf, ho => by
    simp only [allOrdered, Bool.and_eq_true] at h
    obtain ⟨⟨h1, h2⟩, h3⟩ := h
    cases j with
    | zero =>
      simp only [List.getElem?_cons_zero, Option.some.injEq] at hf ho
      subst hf ho
      refine ⟨fun i e hi he hc => ?_, fun x hx hb => ?_⟩
      · rw [List.getElem?_append_left (by simpa using hi)] at he
        have := ordered_spec done 0 h1 i e he hc
        simpa using this
      · have := List.all_eq_true.1 h2 x (by simpa using hx)
        simp only [hb, Bool.not_true, Bool.false_or, decide_eq_true_eq] at this
        simpa using this
    | succ j =>
      have := allOrdered_spec fs (done ++ [g]) os h3 j f o (by simpa using hf) (by simpa using ho)
      simp only [List.length_append, List.length_singleton, List.append_assoc, List.singleton_append] at this
      rwa [show done.length + 1 + j = done.length + (j + 1) by omega] at this

theorem alAny_spec {ds : List Nat} : ∀ (es done : List Eff), alAny ds done es = true → ∀ (i : Nat) (e : Eff) (t : Nat), es[i]? = some e → e.al = some t →
    t ∈ ds ∧ ∀ (j : Nat) (f : Eff), (done ++ es)[j]? = some f → j ≠ done.length + i → wrMentions t f.wr = true → done.length + i < j ∧ t ∈ f.reads
  | [], _, _, i, e, t, h, _ => by simp at h
  | g :: es, done, h, i, e, t, he, ht => by
    simp only [alAny, Bool.and_eq_true] at h
    obtain ⟨h1, h2⟩ := h
    cases i with
    | zero =>
      simp only [List.getElem?_cons_zero, Option.some.injEq] at he
      subst he
      rw [ht] at h1
      simp only [Bool.and_eq_true] at h1
      obtain ⟨⟨h3, h4⟩, h5⟩ := h1
      refine ⟨by simpa using h3, fun j f hf hne hm => ?_⟩
      rcases Nat.lt_or_ge j done.length with hj | hj
      · rw [List.getElem?_append_left hj] at hf
        have := List.all_eq_true.1 h4 f (List.mem_of_getElem? hf)
        rw [hm] at this; simp at this
      · rw [List.getElem?_append_right hj] at hf
        obtain ⟨d, hd⟩ : ∃ d, j - done.length = d + 1 := ⟨j - done.length - 1, by omega⟩
        rw [hd, List.getElem?_cons_succ] at hf
        have := List.all_eq_true.1 h5 f (List.mem_of_getElem? hf)
        simp only [hm, Bool.not_true, Bool.false_or] at this
        exact ⟨by omega, by simpa using this⟩
    | succ i =>
      have := alAny_spec es (done ++ [g]) h2 i e t (by simpa using he) ht
      simp only [List.length_append, List.length_singleton, List.append_assoc, List.singleton_append] at this
      rwa [show done.length + 1 + i = done.length + (i + 1) by omega] at this

theorem clash_of {e f : Eff} {s : Nat} (h : (writes e s = true ∧ (s ∈ f.reads ∨ writes f s = true)) ∨ (writes f s = true ∧ s ∈ e.reads)) : clash e f = true := by
  unfold clash
  rcases h with ⟨h1, h2⟩ | ⟨h1, h2⟩
  · obtain ⟨v, hv⟩ := writes_spec.1 h1
    rw [hv]
    rcases h2 with h2 | h2
    · simp [h2]
    · simp [h2]
  · obtain ⟨v, hv⟩ := writes_spec.1 h1
    rw [hv]
    simp [h2]

end Go.Proofs.Ytdjnhnfofajpcaa.Av
