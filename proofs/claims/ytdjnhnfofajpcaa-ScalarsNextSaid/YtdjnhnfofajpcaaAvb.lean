/- A small evaluator over the model's code, eleventh part: whatever order is drawn, the statement leaves what the run in the text's order leaves. -/
import Derived.Test.YtdjnhnfofajpcaaAva
namespace Go.Proofs.Ytdjnhnfofajpcaa.Av
open Go Go.RowKit

theorem mixed : PP.follows .mixedOrders = true := by kernel_rfl

theorem effOf_al {T : List Entry} {dec : List (Nat × Bool)} {ops : Array Oper} {o : Oper} {rd : Nat → AV} {e : Eff} (he : effOf T dec ops o rd = some e) {t : Nat} (ht : e.al = some t) : writes e t = true := by
  have run : ∀ more, runEff T dec o rd more = some e → writes e t = true := by
    intro more hr
    unfold runEff at hr
    split at hr
    · split at hr <;> (simp only [Option.some.injEq] at hr; subst hr; simp at ht)
    · split at hr
      · simp only [Option.some.injEq] at hr; subst hr
        simp only [Option.some.injEq] at ht
        subst ht
        simp [writes]
      · simp at hr
    · split at hr
      · simp at hr
      · simp only [Option.some.injEq] at hr; subst hr; simp at ht
    · simp at hr
  unfold effOf at he
  split at he
  · exact run _ he
  · split at he
    · simp at he
    · split at he
      · split at he
        · exact run _ he
        · simp only [Option.some.injEq] at he; subst he; simp at ht
      · simp only [Option.some.injEq] at he; subst he; simp at ht
      · simp at he

theorem st_noRef {S : Nat → Bool} {t : Nat} : ∀ (es : List Eff) (k : Nat) (A : AS), NoRef t A → (∀ j f, es[j]? = some f → S (k + j) = true → wrMentions t f.wr = false) → NoRef t (st S k es A)
  | [], _, _, h, _ => h
  | e :: es, k, A, h, hS => by
    simp only [st]
    refine st_noRef es (k + 1) _ ?_ (fun j f hf hs => hS (j + 1) f (by simpa using hf) (by rwa [show k + (j + 1) = k + 1 + j by omega]))
    split
    · rename_i hk
      exact app_noRef h (hS 0 e (by simp) (by simpa using hk))
    · exact h

theorem rep_false (n j : Nat) : (Array.replicate n false).getD j false = false := by
  rw [Array.getD_eq_getD_getElem?, Array.getElem?_replicate]
  split <;> rfl

theorem waitsFor_spec {o : Oper} {i : Nat} (h : waitsFor o i = true) : ∃ x ∈ o.after, Region.binds .any x = true ∧ x.on = i := by
  unfold waitsFor at h
  obtain ⟨x, hx, h'⟩ := List.any_eq_true.1 h
  simp only [Bool.and_eq_true, beq_iff_eq] at h'
  exact ⟨x, by simpa using hx, h'.1, h'.2⟩

theorem any_sound {T : List Entry} (hT : TOK T) {dec : List (Nat × Bool)} {ops : Array Oper} {w0 : World} {ds : List Nat} {Q : Exit → Act → World → Prop} {A0 A1 : AS} {es : List Eff}
    (hl : lexEffs T dec ops ops.toList A0 = some (es, A1)) (hob : obs es) (hord : allOrdered [] es ops.toList = true) (hal : alAny ds [] es = true) (hds : ∀ t ∈ ds, NoRef t A0)
    (hQ : ∀ a' w', Holds w0 A1 a' w' → Q .normal a' w') :
    ∀ (fuel : Nat) (listed : Array Bool) (a : Act) (w : World), listed.size = ops.size → listed.toList.countP (· == false) = fuel →
      (∀ (j : Nat) (o : Oper), ops[j]? = some o → listed.getD j false = true → ∀ x ∈ o.after, Region.binds .any x = true → listed.getD x.on false = true) →
      Holds w0 (st (fun j => listed.getD j false) 0 es A0) a w → wpAny PP .any ops Q fuel listed a w := by
  obtain ⟨hlen, hall, hspec⟩ := lex_spec ops.toList 0 A0 A1 es hl
  have hop : ∀ j o, ops[j]? = some o → ops.toList[j]? = some o := fun j o h => by rw [Array.getElem?_toList]; exact h
  have hes : ∀ j f, es[j]? = some f → ∃ o, ops[j]? = some o := fun j f h => by
    have h1 := (List.getElem?_eq_some_iff.1 h).1
    rw [hlen, Array.length_toList] at h1
    exact ⟨ops[j], Array.getElem?_eq_getElem h1⟩
  -- all have come up
  have done : ∀ (listed : Array Bool) (a : Act) (w : World), (∀ j, j < ops.size → listed.getD j false = true) → Holds w0 (st (fun j => listed.getD j false) 0 es A0) a w → Q .normal a w := by
    intro listed a w hd hA
    refine hQ a w (hA.congr ?_ fun s => .inl ?_)
    · rw [← hall, st_length, st_length]
    · rw [← hall]
      refine (st_at_congr s es 0 A0 A0 rfl rfl fun i e hi _ => ?_).symm
      obtain ⟨o, ho⟩ := hes i e hi
      simp only [Nat.zero_add]
      exact hd i (Array.getElem?_eq_some_iff.1 ho).1
  -- nothing more can come up: all have
  have stuck : ∀ (listed : Array Bool), listed.size = ops.size → Region.ready .any ops listed = [] → ∀ j, j < ops.size → listed.getD j false = true := by
    intro listed hsz hr j
    induction j using Nat.strongRecOn with
    | _ j ih =>
      intro hj
      cases hb : listed.getD j false with
      | true => rfl
      | false =>
        exfalso
        obtain ⟨o, ho⟩ : ∃ o, ops[j]? = some o := ⟨ops[j], by simp [hj]⟩
        obtain ⟨e, he, _⟩ := hspec j o (hop j o ho)
        have h2 := (allOrdered_spec es [] ops.toList hord j e o he (hop j o ho)).2
        have : j ∈ Region.ready .any ops listed := mem_ready.2 ⟨by
          have hj' : j < listed.size := by omega
          simp [hj'] at hb ⊢; exact hb, o, ho, fun x hx hbx => ih x.on (by have := h2 x hx hbx; simpa using this) (by have := h2 x hx hbx; simp at this; omega)⟩
        rw [hr] at this
        cases this
  intro fuel
  induction fuel with
  | zero =>
    intro listed a w hsz hc hcl hA
    have hd : ∀ j, j < ops.size → listed.getD j false = true := by
      intro j hj
      have hj' : j < listed.size := by omega
      have := List.countP_eq_zero.1 hc (listed[j]) (by simp)
      simp at this
      simp [hj', this]
    refine ⟨?_, done listed a w hd hA⟩
    rw [List.eq_nil_iff_forall_not_mem]
    intro j hj
    obtain ⟨h0, o, ho, _⟩ := mem_ready.1 hj
    have hj' : j < ops.size := (Array.getElem?_eq_some_iff.1 ho).1
    have h1 := hd j hj'
    have hj2 : j < listed.size := by omega
    simp [hj2] at h0 h1
    rw [h1] at h0; cases h0
  | succ fuel ih =>
    intro listed a w hsz hc hcl hA
    refine ⟨fun hr => done listed a w (stuck listed hsz hr) hA, fun i hi => ?_⟩
    obtain ⟨h0, o, ho, hready⟩ := mem_ready.1 hi
    have hi' : i < ops.size := (Array.getElem?_eq_some_iff.1 ho).1
    have hil : i < listed.size := by omega
    have hSi : listed.getD i false = false := by simp [hil] at h0 ⊢; exact h0
    obtain ⟨e, he, heff⟩ := hspec i o (hop i o ho)
    have hord_i := allOrdered_spec es [] ops.toList hord i e o he (hop i o ho)
    -- those ahead of it that touch what it touches have come up; those behind it have not
    have ahead : ∀ j f, es[j]? = some f → j < i → clash f e = true → listed.getD j false = true := by
      intro j f hf hj hcf
      obtain ⟨x, hx, hb, rfl⟩ := waitsFor_spec (hord_i.1 j f (by simpa using hj) (by simpa using hf) hcf)
      exact hready x hx hb
    have behind : ∀ j f, es[j]? = some f → i < j → clash e f = true → listed.getD j false = false := by
      intro j f hf hj hcf
      obtain ⟨o', ho'⟩ := hes j f hf
      obtain ⟨x, hx, hb, hxi⟩ := waitsFor_spec ((allOrdered_spec es [] ops.toList hord j f o' hf (hop j o' ho')).1 i e (by simpa using hj) (by simpa using he) hcf)
      cases hl' : listed.getD j false with
      | false => rfl
      | true =>
        have := hcl j o' ho' hl' x hx hb
        rw [hxi, hSi] at this; cases this
    have heff' : effOf T dec ops o (st (fun j => listed.getD j false) 0 es A0).at = some e := by
      refine effOf_congr heff fun s hs => ?_
      refine st_at_congr s es 0 A0 A0 rfl rfl fun j f hf hw => ?_
      simp only [Nat.zero_add]
      rcases Nat.lt_trichotomy j i with hj | hj | hj
      · rw [ahead j f hf hj (clash_of (.inl ⟨hw, .inl hs⟩))]; simp [hj]
      · subst hj; rw [hSi]; simp
      · rw [behind j f hf hj (clash_of (.inr ⟨hw, hs⟩))]; simp; omega
    have hna : ∀ t, e.al = some t → NoRef t (st (fun j => listed.getD j false) 0 es A0) := by
      intro t ht
      obtain ⟨h1, h2⟩ := alAny_spec es [] hal i e t he ht
      refine st_noRef es 0 A0 (hds t h1) fun j f hf hS => ?_
      simp only [Nat.zero_add] at hS
      cases hm : wrMentions t f.wr with
      | false => rfl
      | true =>
        have hne : j ≠ i := fun e => by subst e; rw [hSi] at hS; cases hS
        obtain ⟨h3, h4⟩ := h2 j f (by simpa using hf) (by simpa using hne) hm
        simp only [List.length_nil, Nat.zero_add] at h3
        rw [behind j f hf h3 (clash_of (.inl ⟨effOf_al heff ht, .inl h4⟩))] at hS
        cases hS
    have hnext : ∀ a' w', Holds w0 ((st (fun j => listed.getD j false) 0 es A0).app e.wr) a' w' → wpAny PP .any ops Q fuel (listed.setIfInBounds i true) a' w' := by
      intro a' w' hA'
      refine ih (listed.setIfInBounds i true) a' w' (by simpa using hsz) ?_ ?_ (hA'.congr ?_ fun s => .inl ?_)
      · have hlt : i < listed.toList.length := by rw [Array.length_toList]; exact hil
        have e0 : listed.toList[i] = false := by
          rw [Array.getElem_toList]
          simpa [hil] using hSi
        rw [Array.toList_setIfInBounds, List.countP_set hlt, hc, e0]
        rfl
      · intro j o' ho' hj x hx hb
        by_cases hji : j = i
        · subst hji
          rw [ho] at ho'
          simp only [Option.some.injEq] at ho'
          subst ho'
          exact getD_set_true (hready x hx hb)
        · rw [getD_set_ne false (Ne.symm hji)] at hj
          exact getD_set_true (hcl j o' ho' hj x hx hb)
      · rw [st_length, app_length, st_length]
      · by_cases hw : writes e s = true
        · refine st_at_last s es 0 i e A0 _ he (by simp [hil]) (writes_spec.1 hw) (by rw [st_length]) fun j f hj hf hwf => ?_
          simp only [Nat.zero_add]
          rw [getD_set_ne false (by omega)]
          exact behind j f hf hj (clash_of (.inl ⟨hw, .inr hwf⟩))
        · rw [app_at_other (fun d v hd hds => hw (by subst hds; exact writes_spec.2 ⟨v, hd⟩))]
          refine st_at_congr s es 0 A0 A0 rfl rfl fun j f hf hwf => ?_
          simp only [Nat.zero_add]
          have hne : i ≠ j := fun h => by
            subst h
            rw [he] at hf
            simp only [Option.some.injEq] at hf
            subst hf
            exact hw hwf
          exact getD_set_ne false hne
    have key := eff_sound hT (dec := dec) (ops := ops) hA o heff' (obs_spec hob he) hna (K := wpAny PP .any ops Q fuel (listed.setIfInBounds i true)) (Q := Q) hnext
    unfold wpOp
    simp only [ho]
    rcases key with ⟨h1, h2⟩ | ⟨h1, h2⟩
    · rw [if_pos h1]; exact .inl h2
    · rw [if_neg (by rw [h1]; simp)]; exact h2

/-- A statement: the state that it leaves, and what is owed. -/
def region (T : List Entry) (dec : List (Nat × Bool)) (ops : Array Oper) (draw : Bool) (A : AS) : Option (AS × Prop) :=
  match lexEffs T dec ops ops.toList (prep (fresh ops.toList) A) with
  | none => none
  | some (es, A') => match draw with
    | false => match alOK (fresh ops.toList) es [] with
      | true => some (A', obs es)
      | false => none
    | true => match allOrdered [] es ops.toList && alAny (fresh ops.toList) [] es with
      | true => some (A', obs es)
      | false => none

theorem region_sound {T : List Entry} (hT : TOK T) {dec : List (Nat × Bool)} {id : Nat} {ops : Array Oper} {draw : Bool} {w0 : World} {A A' : AS} {p : Prop} (h : region T dec ops draw A = some (A', p)) (hp : p)
    {Q : Exit → Act → World → Prop} {a : Act} {w : World} (hA : Holds w0 A a w) (hQ : ∀ a' w', Holds w0 A' a' w' → Q .normal a' w') : (Code.region id ops draw).wp PP Q a w := by
  unfold region at h
  split at h
  · simp at h
  · rename_i es A1 hl
    have hA := prep_holds (fresh ops.toList) hA
    split at h
    · split at h
      · rename_i hal
        simp only [Option.some.injEq, Prod.mk.injEq] at h
        obtain ⟨rfl, rfl⟩ := h
        exact wp_region_list (seq_sound hT ops.toList _ _ es [] a w hl hp hal (fun t ht _ => prep_noRef ht A) hA hQ)
      · simp at h
    · split at h
      · rename_i hch
        simp only [Bool.and_eq_true] at hch
        simp only [Option.some.injEq, Prod.mk.injEq] at h
        obtain ⟨rfl, rfl⟩ := h
        refine wp_region_any mixed (any_sound hT hl hp hch.1 hch.2 (fun t ht => prep_noRef ht A) hQ ops.size (Array.replicate ops.size false) a _ (by simp) ?_ ?_ ?_)
        · simp [List.countP_replicate]
        · intro j o ho hj
          rw [rep_false] at hj; cases hj
        · refine Holds.congr (A := prep (fresh ops.toList) A) ?_ (by rw [st_length]) fun s => .inl (by rw [st_none _ _ _ _ (fun j _ => rep_false _ _)])
          obtain ⟨hd, β, hc⟩ := hA
          exact ⟨hd, β, hc.size, hc.below.drew, fun s => by
            have := hc.slots s
            cases hv : AS.at (prep (fresh ops.toList) A) s <;> rw [hv] at this <;> exact this, hc.base, hc.sep⟩
      · simp at h

end Go.Proofs.Ytdjnhnfofajpcaa.Av
