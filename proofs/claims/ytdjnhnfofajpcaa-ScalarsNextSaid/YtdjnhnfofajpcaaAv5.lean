/- A small evaluator over the model's code, fifth part: every operation that it knows, and that the machine comes to the same. -/
import Derived.Test.YtdjnhnfofajpcaaAv4
namespace Go.Proofs.Ytdjnhnfofajpcaa.Av
open Go Go.RowKit

/-! ### Building rows out of parts -/

def bld (kd : IntKind) (n es : Nat) : Nat → List (Nat × AV) → Option Nat
  | N, [] => some N
  | N, (i, x) :: r => match decide (i < n) with
    | false => none
    | true => match x with
      | .pv (.words kd' k' M) => if kd' = kd ∧ k' = es then bld kd n es (setw N (i * es) es M) r else none
      | .pv y => match es with
        | 1 => match asN y with
          | some (kd', m) => if kd' = kd then bld kd n 1 (setw N (i * 1) 1 m) r else none
          | none => none
        | _ => none
      | _ => none

/-- Rows that are built: kind, how many parts, how many cells each. -/
def bldTy (t : TypeId) : Option (IntKind × Nat × Nat) :=
  if t = 24 then some (.u64, 4, 1) else if t = 59 then some (.u64, 2, 4) else if t = 42 then some (.u64, 4, 4) else none

theorem fold_list : ∀ (l : List Value) (off i : Nat) (cs : Array Value), off + i + l.length ≤ cs.size →
    ((l.zipIdx i).foldl (fun cs x => cs.setIfInBounds (off + x.2) x.1) cs).size = cs.size ∧
    ∀ m, ((l.zipIdx i).foldl (fun cs x => cs.setIfInBounds (off + x.2) x.1) cs)[m]? = if off + i ≤ m ∧ m < off + i + l.length then l[m - (off + i)]? else cs[m]?
  | [], off, i, cs, _ => ⟨rfl, fun m => by simp; omega⟩
  | v :: l, off, i, cs, h => by
    simp only [List.length_cons] at h
    obtain ⟨h1, h2⟩ := fold_list l off (i + 1) (cs.setIfInBounds (off + i) v) (by simp; omega)
    simp only [List.zipIdx_cons, List.foldl_cons]
    refine ⟨by rw [h1]; simp, fun m => ?_⟩
    rw [h2 m]
    simp only [List.length_cons]
    by_cases hm : m = off + i
    · subst hm
      simp [show ¬ (off + (i + 1) ≤ off + i) by omega, show off + i < cs.size by omega]
    · by_cases h' : off + (i + 1) ≤ m ∧ m < off + (i + 1) + l.length
      · rw [if_pos h', if_pos (by omega), show m - (off + i) = (m - (off + (i + 1))) + 1 by omega, List.getElem?_cons_succ]
      · rw [if_neg h', if_neg (by omega), Array.getElem?_setIfInBounds_ne (by omega)]

theorem fold_cells (kd : IntKind) (K N o k M : Nat) (hM : M < B ^ k) (hk : o + k ≤ K) :
    (cells kd k M).zipIdx.foldl (fun cs x => cs.setIfInBounds (o + x.2) x.1) (cells kd K N) = cells kd K (setw N o k M) := by
  obtain ⟨h1, h2⟩ := fold_list (cells kd k M).toList o 0 (cells kd K N) (by simpa using hk)
  rw [← Array.foldl_toList, Array.toList_zipIdx]
  exact cells_setw kd K N o k M hM hk _ (by rw [h1]; simp) (fun j => by rw [h2 j]; simp)

theorem fill_sound (kd : IntKind) (n es : Nat) (place : Nat → Option (Nat × Nat)) (hp : ∀ i, i < n → place i = some (i * es, es)) :
    ∀ (l : List (Nat × AV)) (vs : List (Nat × Value)) (N N' : Nat), WF kd (n * es) N → bld kd n es N l = some N' →
      All2 (fun x y => x.1 = y.1 ∧ ∀ p, x.2 = .pv p → p.R y.2) l vs →
      Instr.fill place (cells kd (n * es) N) vs = some (cells kd (n * es) N') ∧ WF kd (n * es) N'
  | [], vs, N, N', hN, h, hl => by
    cases hl
    simp only [bld, Option.some.injEq] at h
    subst h
    exact ⟨rfl, hN⟩
  | (i, x) :: l, vs, N, N', hN, h, hl => by
    cases hl with
    | @cons _ b _ vs' hxy hl =>
      obtain ⟨j, v⟩ := b
      obtain ⟨rfl, hx⟩ := hxy
      have key : ∀ M, v.cells = cells kd es M → WF kd es M → i < n → bld kd n es (setw N (i * es) es M) l = some N' →
          Instr.fill place (cells kd (n * es) N) ((i, v) :: vs') = some (cells kd (n * es) N') ∧ WF kd (n * es) N' := by
        intro M hc hM hi hb
        have hle : i * es + es ≤ n * es := by rw [← Nat.succ_mul]; exact Nat.mul_le_mul_right _ hi
        obtain ⟨h1, h2⟩ := fill_sound kd n es place hp l vs' _ N' (hN.setw hM hle) hb hl
        refine ⟨?_, h2⟩
        simp only [Instr.fill, hp i hi, hc, cells_size, ne_eq, not_true, false_or, decide_eq_true_eq, Bool.or_eq_true]
        rw [if_neg (by simp; omega)]
        rw [fold_cells kd (n * es) N (i * es) es M hM.1 hle]
        exact h1
      unfold bld at h
      split at h
      · simp at h
      · rename_i hi
        have hi := of_decide_eq_true hi
        split at h
        · rename_i kd' k' M
          split at h
          · rename_i hk
            obtain ⟨rfl, rfl⟩ := hk
            obtain ⟨rfl, hM⟩ := hx _ rfl
            exact key M rfl hM hi h
          · simp at h
        · rename_i y _
          split at h
          · split at h
            · rename_i kd' m ha
              split at h
              · rename_i hk
                subst hk
                obtain ⟨rfl, hs, hlt⟩ := asN_R ha (hx _ rfl)
                have hB : m < B := Nat.lt_of_lt_of_le hlt (by cases kd' <;> decide)
                exact key m (by rw [cells_one _ _ hB]; rfl) (WF.one (by rw [← pw_eq]; exact hlt)) hi h
              · simp at h
            · simp at h
          · simp at h
        · simp at h

theorem build_sound {t : TypeId} {kd : IntKind} {n es : Nat} (ht : bldTy t = some (kd, n, es)) (l : List (Nat × AV)) (vs : Array (Nat × Value)) (N' : Nat) (h : bld kd n es 0 l = some N')
    (hl : All2 (fun x y => x.1 = y.1 ∧ ∀ p, x.2 = .pv p → p.R y.2) l vs.toList) (w : World) :
    (Instr.build t vs).run PP w = .ok (.agg (cells kd (n * es) N')) w ∧ WF kd (n * es) N' := by
  unfold bldTy at ht
  repeat' split at ht
  all_goals first | (simp at ht; done) | skip
  all_goals
    simp only [Option.some.injEq, Prod.mk.injEq] at ht
    obtain ⟨rfl, rfl, rfl⟩ := ht
    subst_vars
  · obtain ⟨h1, h2⟩ := fill_sound .u64 4 1 (fun i => some (i * 1, 1)) (fun i _ => rfl) l vs.toList 0 N' (.zero _ _) h hl
    refine ⟨?_, h2⟩
    have hz := (arr_fact (t := 24) (kd := .u64) (k := 4) rfl).2.2
    have hu : ∀ w : World, (underlying 24).run PP w = .ok (.array 4 22) w := fun _ => by kernel_rfl
    have hs : ∀ w : World, (sizeOf 22).run PP w = .ok 1 w := fun _ => by kernel_rfl
    unfold Instr.build
    simp only [Sem.run_bind, hz, Result.andThen, Value.cells, hu, hs, h1, Sem.run_pure]
  · obtain ⟨h1, h2⟩ := fill_sound .u64 2 4 (fun i => some (i * 4, 4)) (fun i _ => rfl) l vs.toList 0 N' (.zero _ _) h hl
    refine ⟨?_, h2⟩
    have hz := (arr_fact (t := 59) (kd := .u64) (k := 8) rfl).2.2
    have hu : ∀ w : World, (underlying 59).run PP w = .ok (.array 2 24) w := fun _ => by kernel_rfl
    have hs : ∀ w : World, (sizeOf 24).run PP w = .ok 4 w := fun _ => by kernel_rfl
    unfold Instr.build
    simp only [Sem.run_bind, hz, Result.andThen, Value.cells, hu, hs, h1, Sem.run_pure]
  · have hz := (arr_fact (t := 42) (kd := .u64) (k := 16) rfl).2.2
    obtain ⟨fs, hu, hm⟩ : ∃ fs : Array Field, (∀ w : World, (underlying 42).run PP w = .ok (.struct fs) w) ∧ ∀ w : World, ((fs.mapM fun f => do pure (f.offset, ← sizeOf f.type)) : Sem (Array (Nat × Nat))).run PP w = .ok #[(0, 4), (4, 4), (8, 4), (12, 4)] w :=
      ⟨PP.fieldsOf 42, fun _ => by kernel_rfl, fun _ => by kernel_rfl⟩
    obtain ⟨h1, h2⟩ := fill_sound .u64 4 4 (fun i => (#[(0, 4), (4, 4), (8, 4), (12, 4)] : Array (Nat × Nat))[i]?) (fun i hi => by
      have : i = 0 ∨ i = 1 ∨ i = 2 ∨ i = 3 := by omega
      rcases this with rfl | rfl | rfl | rfl <;> rfl) l vs.toList 0 N' (.zero _ _) h hl
    refine ⟨?_, h2⟩
    unfold Instr.build
    simp only [Sem.run_bind, hz, Result.andThen, Value.cells, hu, hm, h1, Sem.run_pure]

end Go.Proofs.Ytdjnhnfofajpcaa.Av
