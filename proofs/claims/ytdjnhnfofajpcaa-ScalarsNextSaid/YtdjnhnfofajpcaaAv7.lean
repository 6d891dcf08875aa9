/- A small evaluator over the model's code, seventh part: what an operation is said to come to is what the machine comes to. -/
import Derived.Test.YtdjnhnfofajpcaaAv6
namespace Go.Proofs.Ytdjnhnfofajpcaa.Av
open Go Go.RowKit

section
variable {w0 : World} {A : AS} {a : Act} {w : World} {β : Nat → Nat}

theorem Conc.box (h : Conc w0 A a.tmps w β) {s : Nat} {kd : IntKind} {K N : Nat} (hs : A.at s = .box kd K N) :
    a.eval (.tmp s) = .pointer (some ⟨β s, 0, none⟩) ∧ (∃ e, w.heap[β s]? = some (.cells (cells kd K N) e (0, 0))) ∧ WF kd K N := by
  have := h.slots s
  rw [hs] at this
  exact this

theorem Conc.notBox (h : Conc w0 A a.tmps w β) {s : Nat} (hs : (A.at s).isBox = false) : (A.at s).V w0 β (a.eval (.tmp s)) := by
  have := h.slots s
  cases hv : A.at s <;> rw [hv] at this hs <;> first | exact this | (simp [AV.isBox] at hs)

theorem rsv_V (h : Conc w0 A a.tmps w β) (x : Operand) (hb : (rsv A.at x).1.isBox = false) : (rsv A.at x).1.V w0 β (a.eval x) := by
  cases x with
  | tmp s =>
    have e : (rsv A.at (.tmp s)).1 = A.at s := by simp only [rsv]; split <;> simp_all
    rw [e] at hb ⊢
    exact h.notBox hb
  | const v =>
    cases v with
    | int k z =>
      simp only [rsv]
      split
      · rename_i hk; exact ⟨rfl, hk⟩
      · trivial
    | bool b => exact rfl
    | _ => trivial
  | global g => trivial
  | func f => trivial

theorem rsv_pv (h : Conc w0 A a.tmps w β) {x : Operand} {p : PV} (hx : (rsv A.at x).1 = .pv p) : p.R (a.eval x) := by
  have := rsv_V h x (by rw [hx]; rfl)
  rw [hx] at this
  exact this

theorem asP_R (h : Conc w0 A a.tmps w β) {x : Operand} {s off : Nat} {kd : IntKind} {K N : Nat} (hx : asP A.at x = some (s, off, kd, K, N)) :
    a.eval x = .pointer (some ⟨β s, off, none⟩) ∧ A.at s = .box kd K N ∧ (∃ e, w.heap[β s]? = some (.cells (cells kd K N) e (0, 0))) ∧ WF kd K N ∧ (isBoxAt A.at x = true → off = 0) := by
  cases x with
  | tmp t =>
    simp only [asP] at hx
    split at hx
    · rename_i kd' K' N' ht
      simp only [Option.some.injEq, Prod.mk.injEq] at hx
      obtain ⟨rfl, rfl, rfl, rfl, rfl⟩ := hx
      obtain ⟨h1, h2, h3⟩ := h.box ht
      exact ⟨h1, ht, h2, h3, fun _ => rfl⟩
    · rename_i t' off' ht
      split at hx
      · rename_i kd' K' N' ht'
        simp only [Option.some.injEq, Prod.mk.injEq] at hx
        obtain ⟨rfl, rfl, rfl, rfl, rfl⟩ := hx
        obtain ⟨h1, h2, h3⟩ := h.box ht'
        have h4 := h.notBox (s := t) (by rw [ht]; rfl)
        rw [ht] at h4
        exact ⟨h4, ht', h2, h3, fun hb => by simp [isBoxAt, ht, AV.isBox] at hb⟩
      · simp at hx
    · simp at hx
  | _ => simp [asP] at hx

theorem asRow_R {v : AV} {u : Value} {kd : IntKind} {k N : Nat} (h : asRow v = some (kd, k, N)) (hv : v.V w0 β u) : u.cells = cells kd k N ∧ WF kd k N := by
  unfold asRow at h
  split at h
  · simp only [Option.some.injEq, Prod.mk.injEq] at h
    obtain ⟨rfl, rfl, rfl⟩ := h
    obtain ⟨rfl, h2⟩ := hv
    exact ⟨rfl, h2⟩
  · rename_i x _
    cases hx : asN x with
    | none => simp [hx] at h
    | some y =>
      obtain ⟨kd', n⟩ := y
      simp only [hx, Option.map_some, Option.some.injEq, Prod.mk.injEq] at h
      obtain ⟨rfl, rfl, rfl⟩ := h
      obtain ⟨rfl, hs, hlt⟩ := asN_R hx hv
      have hB : n < B := Nat.lt_of_lt_of_le hlt (by cases kd' <;> decide)
      exact ⟨by rw [cells_one _ _ hB]; rfl, WF.one (by rw [← pw_eq]; exact hlt)⟩
  · simp at h

theorem tyRow_size {t : TypeId} {kd : IntKind} {k : Nat} (h : tyRow t = some (kd, k)) (w : World) : (sizeOf t).run PP w = .ok k w := by
  unfold tyRow at h
  split at h
  · rename_i x hx
    simp only [Option.some.injEq] at h; subst h
    exact (arr_fact hx).2.1 w
  · split at h
    · rename_i kd' hs
      split at h
      · simp at h
      · simp only [Option.some.injEq, Prod.mk.injEq] at h
        obtain ⟨rfl, rfl⟩ := h
        exact (sc_fact hs).2.1 w
    · simp at h

theorem load_R {t : TypeId} {kd : IntKind} {k : Nat} (h : tyRow t = some (kd, k)) (w : World) (b o K N : Nat) (e : TypeId)
    (hb : w.heap[b]? = some (.cells (cells kd K N) e (0, 0))) (hk : o + k ≤ K) (hW : WF kd K N) :
    ∃ u, (Instr.loadAt t (.pointer (some ⟨b, o, none⟩))).run PP w = .ok u w ∧ (ofRow t kd k (N / B ^ o % B ^ k)).R u := by
  unfold tyRow at h
  split at h
  · rename_i x hx
    simp only [Option.some.injEq] at h; subst h
    exact ⟨_, run_load_arr hx w b o K N e hb hk, by simp only [ofRow, hx]; exact ⟨rfl, hW.part hk⟩⟩
  · rename_i hx
    split at h
    · rename_i kd' hs
      split at h
      · simp at h
      · rename_i hsg
        simp only [Option.some.injEq, Prod.mk.injEq] at h
        obtain ⟨rfl, rfl⟩ := h
        refine ⟨_, run_load_sc hs w b o K N e hb (by omega), ?_⟩
        simp only [ofRow, hx, Nat.pow_one]
        exact ⟨rfl, hsg, hW.2 o (by omega)⟩
    · simp at h

/-- What the machine does at an operation, by what it is said to come to. -/
def ResOK (w0 : World) (A : AS) (a : Act) (w : World) (β : Nat → Nat) (o : Oper) : Res → Prop
  | .val v => v.isBox = false ∧ ∀ (K : Act → World → Prop) (Q : Exit → Act → World → Prop), (∀ u w', Below w.heap.size w w' → v.V w0 β u → K (a.put o.dst u) w') → o.wp PP a w K Q
  | .alloc kd k N => WF kd k N ∧ ∀ (K : Act → World → Prop) (Q : Exit → Act → World → Prop),
      (∀ e, K (a.put o.dst (.pointer (some ⟨w.heap.size, 0, none⟩))) (w.alloc (.cells (cells kd k N) e))) → o.wp PP a w K Q
  | .store t kd k N => WF kd k N ∧ (A.at t).isBox = true ∧ ∀ (K : Act → World → Prop) (Q : Exit → Act → World → Prop),
      (∀ w' e, Upd (β t) w w' → w'.heap[β t]? = some (.cells (cells kd k N) e (0, 0)) → K (a.put o.dst undef) w') → o.wp PP a w K Q

theorem wp_of_value {o : Oper} {v : Value} (h : (execOp a.eval o).run PP w = .ok (.value v) w) {K : Act → World → Prop} {Q : Exit → Act → World → Prop} (hK : K (a.put o.dst v) w) : o.wp PP a w K Q := by
  unfold Oper.wp; rw [h]; exact hK

/-- An operation that only reckons. -/
theorem val_ok {o : Oper} {v : AV} {s : Sem Value} (ho : execOp a.eval o = (do pure (.value (← s)))) (hb : v.isBox = false) (h : ∃ u, s.run PP w = .ok u w ∧ v.V w0 β u)  : ResOK w0 A a w β o (.val v) := by
  obtain ⟨u, h1, h2⟩ := h
  refine ⟨hb, fun K Q hK => wp_of_value (v := u) ?_ (hK u w (.refl _ _) h2)⟩
  rw [ho]
  simp only [Sem.run_bind, h1, Result.andThen, Sem.run_pure]

theorem callF_mem (T : List Entry) (f : FuncId) (args : List (AV × AV)) (r : AV) (p : Prop)
    (he : callF T f args = some (r, p)) : ∃ e ∈ T, e.f = f ∧ e.sp args = some (r, p) := by
  induction T with
  | nil => simp [callF] at he
  | cons e T ih =>
    simp only [callF] at he
    split at he
    · rename_i hf; exact ⟨e, by simp, hf, he⟩
    · obtain ⟨e', h1, h2⟩ := ih he
      exact ⟨e', by simp [h1], h2⟩

theorem arg_R (h : Conc w0 A a.tmps w β) (x : Operand) (hf : fit (rsv A.at x) = true) : ArgR w (rsv A.at x) (a.eval x) := by
  cases hx : rsv A.at x with
  | mk y z =>
    have key : ∀ t, (∃ off, y = .ref t off) ∨ (∃ off len cap, y = .sl t off len cap) → z = A.at t := by
      intro t ht
      cases x with
      | tmp s =>
        simp only [rsv] at hx
        split at hx
        · simp only [Prod.mk.injEq] at hx
          obtain ⟨rfl, rfl⟩ := hx
          rcases ht with ⟨_, ht⟩ | ⟨_, _, _, ht⟩
          · simp only [AV.ref.injEq] at ht; rw [ht.1]
          · simp at ht
        · simp only [Prod.mk.injEq] at hx
          obtain ⟨rfl, rfl⟩ := hx
          rcases ht with ⟨_, ht⟩ | ⟨_, _, _, ht⟩
          · simp at ht
          · simp only [AV.sl.injEq] at ht; rw [ht.1]
        · rename_i h1 h2
          simp only [Prod.mk.injEq] at hx
          obtain ⟨rfl, rfl⟩ := hx
          rcases ht with ⟨off, ht⟩ | ⟨off, len, cap, ht⟩
          · exact absurd ht (h1 _ _)
          · exact absurd ht (h2 _ _ _ _)
      | const v =>
        cases v <;> simp only [rsv] at hx <;> (try split at hx) <;> simp only [Prod.mk.injEq] at hx <;> (obtain ⟨rfl, rfl⟩ := hx; rcases ht with ⟨off, ht⟩ | ⟨off, len, cap, ht⟩ <;> simp at ht)
      | _ =>
        simp only [rsv, Prod.mk.injEq] at hx
        obtain ⟨rfl, rfl⟩ := hx
        rcases ht with ⟨off, ht⟩ | ⟨off, len, cap, ht⟩ <;> simp at ht
    have hV : y.isBox = false → y.V w0 β (a.eval x) := by
      intro hb
      have := rsv_V h x (by rw [hx]; exact hb)
      rw [hx] at this
      exact this
    rw [hx] at hf
    cases y with
    | pv p => exact hV rfl
    | ref t off =>
      have hz := key t (.inl ⟨_, rfl⟩)
      subst hz
      cases ht : A.at t <;> rw [ht] at hf <;> first | (simp [fit] at hf; done) | skip
      obtain ⟨_, ⟨e, h2⟩, h3⟩ := h.box ht
      exact ⟨β t, e, hV rfl, h2, h3⟩
    | sl t off len cap =>
      have hz := key t (.inr ⟨_, _, _, rfl⟩)
      subst hz
      cases ht : A.at t <;> rw [ht] at hf <;> first | (simp [fit] at hf; done) | skip
      obtain ⟨_, ⟨e, h2⟩, h3⟩ := h.box ht
      exact ⟨β t, e, hV rfl, h2, h3⟩
    | _ => simp [fit] at hf

theorem litOpt_R (h : Conc w0 A a.tmps w β) {x : Option Operand} {r : Option Nat} (hx : litOpt A.at x = some r) :
    (x = none ∧ r = none) ∨ ∃ y n k, x = some y ∧ r = some n ∧ a.eval y = .int k (n : Int) := by
  cases x with
  | none => simp only [litOpt, Option.some.injEq] at hx; exact .inl ⟨rfl, hx.symm⟩
  | some y =>
    simp only [litOpt] at hx
    split at hx
    · rename_i k z hz
      split at hx
      · rename_i h0
        have h0 := of_decide_eq_true h0
        simp only [Option.some.injEq] at hx
        obtain ⟨h1, _⟩ := rsv_pv h hz
        exact .inr ⟨y, z.toNat, k, rfl, hx.symm, by rw [h1, Int.toNat_of_nonneg h0]⟩
      · simp at hx
    · simp at hx

/-- A row that was there when the call began is there still. -/
theorem old_block (h : Conc w0 A a.tmps w β) {b : Nat} {x : Obj} (hb : w0.heap[b]? = some x) : w.heap[b]? = some x := by
  rw [h.below.block b (Array.getElem?_eq_some_iff.1 hb).1]; exact hb

theorem run_indexSlice (w : World) (b o len cap : Nat) (k : IntKind) (z : Int) (hz : 0 ≤ z ∧ z < len) :
    (Instr.indexAt 73 (.slice (some ⟨b, o, none⟩) len cap) (.int k z)).run PP w = .ok (.pointer (some ⟨b, o + z.toNat, none⟩)) w := by
  have h1 : ∀ w : World, (underlying 73).run PP w = .ok (.slice 22) w := fun _ => by kernel_rfl
  have h2 : ∀ w : World, (sizeOf 22).run PP w = .ok 1 w := fun _ => by kernel_rfl
  unfold Instr.indexAt
  simp only [asIntOf, Sem.run_bind, Sem.run_pure, Result.andThen, h1 w]
  simp [hz, h2 w, add_addr, Result.andThen]

theorem pvs_R (h : Conc w0 A a.tmps w β) : ∀ (l : List Operand) (ps : List PV), pvs (l.map (rsv A.at)) = some ps → All2 PV.R ps (l.map a.eval)
  | [], ps, hp => by
    simp only [List.map_nil, pvs, Option.some.injEq] at hp
    subst hp
    exact .nil
  | x :: l, ps, hp => by
    simp only [List.map_cons] at hp
    cases hx : rsv A.at x with
    | mk y z =>
      rw [hx] at hp
      cases y <;> first | (simp [pvs] at hp; done) | skip
      rename_i q
      simp only [pvs] at hp
      cases hr : pvs (l.map (rsv A.at)) with
      | none => rw [hr] at hp; simp at hp
      | some qs =>
        rw [hr] at hp
        simp only [Option.map_some, Option.some.injEq] at hp
        subst hp
        exact .cons (rsv_pv h (by rw [hx])) (pvs_R h l qs hr)

theorem run_slice {t n : Nat} (ht : elTy t = some (n, 1)) (w : World) (b : Nat) (lo hi : Option Value) (l r : Option Nat)
    (hl : (lo = none ∧ l = none) ∨ ∃ k m, lo = some (.int k ((m : Nat) : Int)) ∧ l = some m) (hr : (hi = none ∧ r = none) ∨ ∃ k m, hi = some (.int k ((m : Nat) : Int)) ∧ r = some m)
    (hle : l.getD 0 ≤ r.getD n) (hn : r.getD n ≤ n) (h0 : l.getD 0 < n) :
    (Instr.sliceAt t (.pointer (some ⟨b, 0, none⟩)) lo hi none).run PP w = .ok (.slice (some ⟨b, l.getD 0, none⟩) (r.getD n - l.getD 0) (n - l.getD 0)) w := by
  obtain ⟨e, h1, h2⟩ := el_fact ht
  unfold Instr.sliceAt Instr.sliceBounds Instr.sliceBound
  have hne : ¬ (n = l.getD 0) := by omega
  rcases hl with ⟨rfl, rfl⟩ | ⟨k, m, rfl, rfl⟩ <;> rcases hr with ⟨rfl, rfl⟩ | ⟨k', m', rfl, rfl⟩ <;>
    simp only [Option.getD_some, Option.getD_none] at hle hn h0 hne <;>
    simp [h1, h2, Instr.sureAddr, Result.andThen, asIntOf, hne, add_addr, hle, hn]
  all_goals first | omega | (simp [hne]; done) | skip
  all_goals first | (rw [if_neg hne]) | skip
end

end Go.Proofs.Ytdjnhnfofajpcaa.Av
