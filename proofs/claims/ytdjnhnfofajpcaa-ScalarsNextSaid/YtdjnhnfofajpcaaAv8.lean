/- A small evaluator over the model's code, eighth part: every operation, sound. -/
import Derived.Test.YtdjnhnfofajpcaaAv7
namespace Go.Proofs.Ytdjnhnfofajpcaa.Av
open Go Go.RowKit

section
variable {w0 : World} {A : AS} {a : Act} {w : World} {β : Nat → Nat}

theorem rsv_tmp (A : AS) (s : Nat) : (rsv A.at (.tmp s)).1 = A.at s := by
  simp only [rsv]; split <;> simp_all

def moveF (x : Operand) (v : AV) : Option (Res × Prop) :=
  match x, v with
  | .tmp s, .box _ _ _ => some (.val (.ref s 0), True)
  | _, .box _ _ _ => none
  | _, v => some (.val v, True)

theorem moveF_plain (x : Operand) (v : AV) (hb : v.isBox = false) : moveF x v = some (.val v, True) := by
  cases v <;> first | (simp [AV.isBox] at hb; done) | (cases x <;> rfl)

theorem move_ok {T : List Entry} (h : Conc w0 A a.tmps w β) (o : Oper) (x : Operand) (ho : o.op = .move x ∨ o.op = .assign x) {res : Res} {p : Prop} (he : opEval T A.at o.op = some (res, p)) : ResOK w0 A a w β o res := by
  have hrun : (execOp a.eval o).run PP w = .ok (.value (a.eval x)) w := by
    unfold execOp; rcases ho with ho | ho <;> rw [ho] <;> rfl
  have he' : moveF x (rsv A.at x).1 = some (res, p) := by rcases ho with ho | ho <;> rw [ho] at he <;> exact he
  cases hb : (rsv A.at x).1.isBox with
  | false =>
    rw [moveF_plain _ _ hb] at he'
    simp only [Option.some.injEq, Prod.mk.injEq] at he'
    obtain ⟨rfl, _⟩ := he'
    exact ⟨hb, fun K Q hK => wp_of_value hrun (hK _ _ (.refl _ _) (rsv_V h x hb))⟩
  | true =>
    cases hv : (rsv A.at x).1 <;> rw [hv] at hb he' <;> first | (simp [AV.isBox] at hb; done) | skip
    cases x with
    | tmp s =>
      rw [rsv_tmp] at hv
      simp only [moveF, Option.some.injEq, Prod.mk.injEq] at he'
      obtain ⟨rfl, _⟩ := he'
      obtain ⟨h1, _⟩ := h.box hv
      exact ⟨rfl, fun K Q hK => wp_of_value hrun (hK _ _ (.refl _ _) h1)⟩
    | _ => simp [moveF] at he'

theorem op_sound {T : List Entry} (hT : TOK T) (h : Conc w0 A a.tmps w β) (o : Oper) {res : Res} {p : Prop} (he : opEval T A.at o.op = some (res, p)) (hp : p) : ResOK w0 A a w β o res := by
  obtain ⟨dst, op, ty, pos, after, guard⟩ := o
  cases op with
  | move x => exact move_ok h _ x (.inl rfl) he
  | assign x => exact move_ok h _ x (.inr rfl) he
  | pick c x y =>
    simp only [opEval] at he
    split at he
    · rename_i hc
      split at he
      · rename_i v hv
        simp only [Option.some.injEq, Prod.mk.injEq] at he
        obtain ⟨rfl, _⟩ := he
        have hc := rsv_pv h hc
        refine val_ok (s := (do pure (if ← asBool (a.eval c) then a.eval x else a.eval y))) (by simp only [execOp]; simp [Bind.bind, Sem.bind_assoc']; rfl) rfl ⟨a.eval x, ?_, rsv_pv h hv⟩
        simp [show a.eval c = .bool true from hc, asBool]
      · simp at he
    · rename_i hc
      split at he
      · rename_i v hv
        simp only [Option.some.injEq, Prod.mk.injEq] at he
        obtain ⟨rfl, _⟩ := he
        have hc := rsv_pv h hc
        refine val_ok (s := (do pure (if ← asBool (a.eval c) then a.eval x else a.eval y))) (by simp only [execOp]; simp [Bind.bind, Sem.bind_assoc']; rfl) rfl ⟨a.eval y, ?_, rsv_pv h hv⟩
        simp [show a.eval c = .bool false from hc, asBool]
      · simp at he
    · rename_i t hc
      split at he
      · rename_i vx vy hx hy
        split at he
        · rename_i bx by' hbx hby
          simp only [Option.some.injEq, Prod.mk.injEq] at he
          obtain ⟨rfl, _⟩ := he
          have hc := rsv_pv h hc
          have e1 := asB_R hbx (rsv_pv h hx)
          have e2 := asB_R hby (rsv_pv h hy)
          refine val_ok (s := (do pure (if ← asBool (a.eval c) then a.eval x else a.eval y))) (by simp only [execOp]; simp [Bind.bind, Sem.bind_assoc']; rfl) rfl ⟨.bool (bif t then bx else by'), ?_, rfl⟩
          simp only [show a.eval c = .bool t from hc, asBool, e1, e2]
          cases t <;> rfl
        · simp at he
      · simp at he
    · simp at he
  | alloc t =>
    simp only [opEval] at he
    split at he
    · rename_i kd k ht
      simp only [Option.some.injEq, Prod.mk.injEq] at he
      obtain ⟨rfl, _⟩ := he
      refine ⟨.zero _ _, fun K Q hK => ?_⟩
      unfold Oper.wp
      simp only [execOp, Sem.run_bind, run_alloc ht, Result.andThen, Sem.run_pure]
      exact hK t
    · simp at he
  | box t x =>
    simp only [opEval] at he
    split at he
    · rename_i kd k kd' k' N ht hv
      split at he
      · rename_i hk
        obtain ⟨rfl, rfl⟩ := hk
        simp only [Option.some.injEq, Prod.mk.injEq] at he
        obtain ⟨rfl, _⟩ := he
        have hb : (rsv A.at x).1.isBox = false := by
          cases hx : (rsv A.at x).1 <;> rw [hx] at hv <;> first | rfl | (simp [asRow] at hv)
        obtain ⟨h1, h2⟩ := asRow_R hv (rsv_V h x hb)
        refine ⟨h2, fun K Q hK => ?_⟩
        unfold Oper.wp
        simp only [execOp, Sem.run_bind, run_box, Result.andThen, Sem.run_pure, h1]
        exact hK t
      · simp at he
    · simp at he
  | load t x =>
    simp only [opEval] at he
    split at he
    · rename_i kd K N off hy
      have hV := rsv_V h x (by rw [hy]; rfl)
      rw [hy] at hV
      obtain ⟨b, e, h1, h3, h4⟩ := hV
      simp only [loadF] at he
      split at he
      · rename_i kd' k ht
        split at he
        · rename_i hkd
          subst hkd
          simp only [Option.some.injEq, Prod.mk.injEq] at he
          obtain ⟨rfl, rfl⟩ := he
          obtain ⟨u, hu, hR⟩ := load_R ht w b off K N e (old_block h h3) hp h4
          exact val_ok (s := Instr.loadAt t (a.eval x)) rfl rfl ⟨u, by rw [h1]; exact hu, hR⟩
        · simp at he
      · simp at he
    · rename_i s off kd K N hy _
      obtain ⟨h1, h2, ⟨e, h3⟩, h4, h5⟩ := asP_R h hy
      simp only [loadF] at he
      split at he
      · rename_i kd' k ht
        split at he
        · rename_i hkd
          subst hkd
          split at he
          · rename_i hd
            split at he
            · rename_i hk
              subst hk
              simp only [Option.some.injEq, Prod.mk.injEq] at he
              obtain ⟨rfl, _⟩ := he
              obtain rfl := h5 hd
              obtain ⟨u, hu, hR⟩ := load_R ht w (β s) 0 k N e h3 (by omega) h4
              refine val_ok (s := Instr.loadAt t (a.eval x)) rfl rfl ⟨u, by rw [h1]; exact hu, ?_⟩
              have : N / B ^ 0 % B ^ k = N := by rw [Nat.pow_zero, Nat.div_one, Nat.mod_eq_of_lt h4.1]
              rw [this] at hR
              exact hR
            · simp at he
          · simp only [Option.some.injEq, Prod.mk.injEq] at he
            obtain ⟨rfl, rfl⟩ := he
            obtain ⟨u, hu, hR⟩ := load_R ht w (β s) off K N e h3 hp h4
            exact val_ok (s := Instr.loadAt t (a.eval x)) rfl rfl ⟨u, by rw [h1]; exact hu, hR⟩
        · simp at he
      · simp at he
    · simp at he
  | store t x v =>
    simp only [opEval] at he
    split at he
    · rename_i s off kd K N hy
      obtain ⟨h1, h2, ⟨e, h3⟩, h4, h5⟩ := asP_R h hy
      simp only [storeF] at he
      split at he
      · rename_i kd' k kd'' k'' M ht hv
        have hb : (rsv A.at v).1.isBox = false := by
          cases hx : (rsv A.at v).1 <;> rw [hx] at hv <;> first | rfl | (simp [asRow] at hv)
        obtain ⟨h6, h7⟩ := asRow_R hv (rsv_V h v hb)
        split at he
        · rename_i hkd
          obtain ⟨rfl, rfl, rfl⟩ := hkd
          split at he
          · rename_i hd
            split at he
            · rename_i hk
              subst hk
              simp only [Option.some.injEq, Prod.mk.injEq] at he
              obtain ⟨rfl, _⟩ := he
              obtain rfl := h5 hd
              refine ⟨h7, by rw [h2]; rfl, fun K' Q hK => ?_⟩
              obtain ⟨w', hw, hU, hc⟩ := run_store (a.eval v) w (β s) 0 _ _ _ N M e h6 (tyRow_size ht w) h3 h7.1 (by omega)
              have hs : setw N 0 k'' M = M := by
                unfold setw; simp only [Nat.pow_zero, Nat.mod_one, Nat.zero_add, Nat.mul_one]; rw [Nat.div_eq_of_lt h4.1]; simp
              rw [hs] at hc
              unfold Oper.wp
              simp only [execOp, h1, Sem.run_bind, hw, Result.andThen, Sem.run_pure]
              exact hK w' e hU hc
            · simp at he
          · simp only [Option.some.injEq, Prod.mk.injEq] at he
            obtain ⟨rfl, rfl⟩ := he
            refine ⟨h4.setw h7 hp, by rw [h2]; rfl, fun K' Q hK => ?_⟩
            obtain ⟨w', hw, hU, hc⟩ := run_store (a.eval v) w (β s) off _ _ _ N M e h6 (tyRow_size ht w) h3 h7.1 hp
            unfold Oper.wp
            simp only [execOp, h1, Sem.run_bind, hw, Result.andThen, Sem.run_pure]
            exact hK w' e hU hc
        · simp at he
      · simp at he
    · simp at he
  | binOp op t x y yt =>
    simp only [opEval] at he
    split at he
    · rename_i vx vy hx hy
      cases hb : binF op t vx vy with
      | none => simp [hb] at he
      | some r =>
        simp only [hb, Option.map_some, Option.some.injEq, Prod.mk.injEq] at he
        obtain ⟨rfl, rfl⟩ := he
        obtain ⟨q, h1, h2⟩ := bin_sound op t vx vy _ _ x y w (rsv_pv h hx) (rsv_pv h hy) r.1 r.2 hb hp
        exact val_ok (s := do eqGuard op t x y (a.eval x) (a.eval y); binOp op t (a.eval x) (a.eval y)) rfl rfl ⟨q, h1, h2⟩
    · simp at he
  | unOp op t x =>
    simp only [opEval] at he
    split at he
    · rename_i vx hx
      cases hb : unF op vx with
      | none => simp [hb] at he
      | some r =>
        simp only [hb, Option.map_some, Option.some.injEq, Prod.mk.injEq] at he
        obtain ⟨rfl, rfl⟩ := he
        obtain ⟨q, h1, h2⟩ := un_sound op vx _ w (rsv_pv h hx) r.1 r.2 hb hp
        exact val_ok (s := Op.unary op (a.eval x)) rfl rfl ⟨q, h1, h2⟩
    · simp at he
  | convert src dst' x =>
    simp only [opEval] at he
    split at he
    · rename_i vx hx
      cases hb : convF src dst' vx with
      | none => simp [hb] at he
      | some r =>
        simp only [hb, Option.map_some, Option.some.injEq, Prod.mk.injEq] at he
        obtain ⟨rfl, _⟩ := he
        obtain ⟨q, h1, h2⟩ := conv_sound src dst' vx _ w (rsv_pv h hx) r hb
        exact val_ok (s := convert src dst' (a.eval x)) rfl rfl ⟨q, h1, h2⟩
    · simp at he
  | fieldAddr t x f =>
    simp only [opEval] at he
    split at he
    · rename_i ht
      obtain ⟨rfl, hf⟩ := of_decide_eq_true ht
      split at he
      · rename_i kd K N off hy
        have hV := rsv_V h x (by rw [hy]; rfl)
        rw [hy] at hV
        obtain ⟨b, e, h1, h3, h4⟩ := hV
        simp only [Option.some.injEq, Prod.mk.injEq] at he
        obtain ⟨rfl, _⟩ := he
        exact val_ok (s := Instr.fieldAt 42 (a.eval x) f) rfl rfl ⟨_, by rw [h1]; exact run_fieldAt f hf w _ _, b, e, rfl, h3, h4⟩
      · rename_i s off kd K N hx _
        simp only [Option.some.injEq, Prod.mk.injEq] at he
        obtain ⟨rfl, _⟩ := he
        obtain ⟨h1, _⟩ := asP_R h hx
        exact val_ok (s := Instr.fieldAt 42 (a.eval x) f) rfl rfl ⟨_, by rw [h1]; exact run_fieldAt f hf w _ _, rfl⟩
      · simp at he
    · simp at he
  | indexAddr t x i =>
    simp only [opEval] at he
    split at he
    · simp at he
    · rename_i z hi
      have hiv : ∃ k, a.eval i = .int k z := by
        unfold asI at hi
        split at hi
        · rename_i k z' hz
          simp only [Option.some.injEq] at hi; subst hi
          exact ⟨k, (rsv_pv h hz).1⟩
        · rename_i k z' hz
          simp only [Option.some.injEq] at hi; subst hi
          exact ⟨k, (rsv_pv h hz).1⟩
        · rename_i k n' hz
          simp only [Option.some.injEq] at hi; subst hi
          exact ⟨k, (rsv_pv h hz).1⟩
        · simp at hi
      obtain ⟨k, hk⟩ := hiv
      split at he
      · rename_i kd K N off len cap hy
        have hV := rsv_V h x (by rw [hy]; rfl)
        rw [hy] at hV
        obtain ⟨b, e, h1, h3, h4⟩ := hV
        split at he
        · rename_i ht
          subst ht
          simp only [Option.some.injEq, Prod.mk.injEq] at he
          obtain ⟨rfl, rfl⟩ := he
          exact val_ok (s := Instr.indexAt 73 (a.eval x) (a.eval i)) rfl rfl ⟨_, by rw [h1, hk]; exact run_indexSlice w b off len cap k z hp, b, e, rfl, h3, h4⟩
        · simp at he
      · rename_i kd K N off hy
        have hV := rsv_V h x (by rw [hy]; rfl)
        rw [hy] at hV
        obtain ⟨b, e, h1, h3, h4⟩ := hV
        split at he
        · rename_i n es ht
          simp only [Option.some.injEq, Prod.mk.injEq] at he
          obtain ⟨rfl, rfl⟩ := he
          exact val_ok (s := Instr.indexAt t (a.eval x) (a.eval i)) rfl rfl ⟨_, by rw [h1, hk]; exact run_indexAt ht w _ _ k z hp, b, e, rfl, h3, h4⟩
        · simp at he
      · split at he
        · rename_i s off kd K N n es hx ht
          obtain ⟨h1, _, _, _, h5⟩ := asP_R h hx
          split at he
          · rename_i hd
            simp only [Option.some.injEq, Prod.mk.injEq] at he
            obtain ⟨rfl, rfl⟩ := he
            obtain rfl := h5 hd
            exact val_ok (s := Instr.indexAt t (a.eval x) (a.eval i)) rfl rfl ⟨_, by rw [h1, hk]; exact run_indexAt ht w _ _ k z hp, by rw [mulO_eq, Nat.zero_add]; rfl⟩
          · simp only [Option.some.injEq, Prod.mk.injEq] at he
            obtain ⟨rfl, rfl⟩ := he
            exact val_ok (s := Instr.indexAt t (a.eval x) (a.eval i)) rfl rfl ⟨_, by rw [h1, hk]; exact run_indexAt ht w _ _ k z hp, by rw [mulO_eq]; rfl⟩
        · simp at he
  | index t x i =>
    simp only [opEval] at he
    have hiv : ∀ z, asI (rsv A.at i).1 = some z → ∃ k, a.eval i = .int k z := by
      intro z hi
      unfold asI at hi
      split at hi
      · rename_i k z' hz
        simp only [Option.some.injEq] at hi; subst hi
        exact ⟨k, (rsv_pv h hz).1⟩
      · rename_i k z' hz
        simp only [Option.some.injEq] at hi; subst hi
        exact ⟨k, (rsv_pv h hz).1⟩
      · rename_i k n' hz
        simp only [Option.some.injEq] at hi; subst hi
        exact ⟨k, (rsv_pv h hz).1⟩
      · simp at hi
    split at he
    · rename_i z hx hi
      obtain ⟨k, hk⟩ := hiv z hi
      split at he
      · rename_i str ht
        have ht := of_decide_eq_true ht
        subst ht
        split at he
        · rename_i htab
          simp only [Option.some.injEq, Prod.mk.injEq] at he
          obtain ⟨rfl, rfl⟩ := he
          have hu : ∀ w : World, (underlying 9).run PP w = .ok .string w := fun _ => by kernel_rfl
          obtain ⟨c, hc, hcn⟩ := isTab_get htab z.toNat (by omega)
          refine val_ok (s := Instr.index 9 (a.eval (.const (.string str))) (a.eval i)) rfl rfl ⟨.int .u8 (bitLen z.toNat : Int), ?_, rfl, rfl, ?_⟩
          · rw [hk, ← hcn]
            unfold Instr.index
            simp only [asIntOf, Sem.run_bind, Sem.run_pure, Result.andThen, hu, Act.eval, if_pos hp.1, hc]
          · rw [← hcn]; exact UInt8.toNat_lt _
        · simp at he
      · simp at he
    · rename_i N z hx hi
      split at he
      · rename_i ht
        subst ht
        simp only [Option.some.injEq, Prod.mk.injEq] at he
        obtain ⟨rfl, rfl⟩ := he
        obtain ⟨k, hk⟩ := hiv z hi
        obtain ⟨h1, h2⟩ := rsv_pv h hx
        exact val_ok (s := Instr.index 24 (a.eval x) (a.eval i)) rfl rfl ⟨_, by rw [h1, hk]; exact run_index (n := 4) (kd := .u64) rfl rfl w k z N hp rfl, rfl, rfl, by
          have := h2.2 z.toNat (by omega); exact this⟩
      · simp at he
    · rename_i N z hx hi
      split at he
      · rename_i ht
        subst ht
        simp only [Option.some.injEq, Prod.mk.injEq] at he
        obtain ⟨rfl, rfl⟩ := he
        obtain ⟨k, hk⟩ := hiv z hi
        obtain ⟨h1, h2⟩ := rsv_pv h hx
        exact val_ok (s := Instr.index 59 (a.eval x) (a.eval i)) rfl rfl ⟨_, by rw [h1, hk]; exact run_index2 w k z N hp, rfl, h2.part (by omega)⟩
      · simp at he
    · simp at he
  | extract x i =>
    simp only [opEval] at he
    have tv := fun hb => rsv_V h x hb
    split at he <;> first | (simp at he; done) | skip
    all_goals
      rename_i hx
      rw [hx] at tv
      simp only [Option.some.injEq, Prod.mk.injEq] at he
      obtain ⟨rfl, _⟩ := he
    · obtain ⟨u, v, e, h1, h2⟩ := tv rfl
      exact val_ok (s := Instr.extract (a.eval x) 0) rfl rfl ⟨u, by rw [e]; rfl, h1⟩
    · obtain ⟨u, v, e, h1, h2⟩ := tv rfl
      exact val_ok (s := Instr.extract (a.eval x) 1) rfl rfl ⟨v, by rw [e]; rfl, h2⟩
    · obtain ⟨u, v, q, e, h1, h2, h3⟩ := tv rfl
      exact val_ok (s := Instr.extract (a.eval x) 0) rfl rfl ⟨u, by rw [e]; rfl, h1⟩
    · obtain ⟨u, v, q, e, h1, h2, h3⟩ := tv rfl
      exact val_ok (s := Instr.extract (a.eval x) 1) rfl rfl ⟨v, by rw [e]; rfl, h2⟩
    · obtain ⟨u, v, q, e, h1, h2, h3⟩ := tv rfl
      exact val_ok (s := Instr.extract (a.eval x) 2) rfl rfl ⟨q, by rw [e]; rfl, h3⟩
  | build t parts =>
    simp only [opEval] at he
    split at he
    · rename_i kd n es ht
      cases hb : bld kd n es 0 (parts.toList.map fun x => (x.1, (rsv A.at x.2).1)) with
      | none => simp [hb] at he
      | some N =>
        simp only [hb, Option.map_some, Option.some.injEq, Prod.mk.injEq] at he
        obtain ⟨rfl, _⟩ := he
        have hb2 := build_sound ht (parts.toList.map fun x => (x.1, (rsv A.at x.2).1)) (parts.map fun x => (x.1, a.eval x.2)) N hb (by
          rw [Array.toList_map]
          exact All2.map fun x _ => ⟨rfl, fun p hp => rsv_pv h hp⟩) w
        have hV : (AV.pv (.words kd (n * es) N)).V w0 β (.agg (cells kd (n * es) N)) := And.intro rfl hb2.2
        have hex : execOp a.eval ⟨dst, .build t parts, ty, pos, after, guard⟩ = (do pure (.value (← Instr.build t (parts.map fun x => (x.1, a.eval x.2))))) := rfl
        exact val_ok hex (by rfl) (Exists.intro _ (And.intro hb2.1 hV))
    · simp at he
  | call c =>
    simp only [opEval] at he
    split at he
    · rename_i t hc
      split at he
      · rename_i sp args ht hps
        cases hb : sp args with
        | none => simp [hb] at he
        | some r =>
          obtain ⟨r1, r2⟩ := r
          simp only [hb, Option.map_some, Option.some.injEq, Prod.mk.injEq] at he
          obtain ⟨rfl, rfl⟩ := he
          have hV := h.notBox (s := t) (by rw [ht]; rfl)
          rw [ht] at hV
          obtain ⟨fn, cap, hv, hsp⟩ := hV
          obtain ⟨hrun, hcall⟩ := hsp args r1 r2 hb hp w h.below _ (pvs_R h c.args.toList args hps)
          have hex : (execOp a.eval ⟨dst, .call c, ty, pos, after, guard⟩).run PP w = (callFunc fn ((c.args.toList.map a.eval).toArray ++ cap)).run PP w := by
            have e1 : c.args.map a.eval = (c.args.toList.map a.eval).toArray := by apply Array.ext'; simp
            simp only [execOp, resolve, hc, hv, Deferred.ofValue, Sem.run_bind, Sem.run_pure, Result.andThen, invoke, e1, Array.empty_append]
          refine ⟨rfl, fun K Q hK => ?_⟩
          unfold Oper.wp
          rw [hex, hrun, Oper.upon_enter]
          refine hcall.mono ?_
          rintro en w' ⟨v, rfl, hv, hB⟩
          exact hK v w' hB hv
      · simp at he
    · rename_i f hc
      split at he
      · rename_i hfit
        cases hb : callF T f (c.args.toList.map (rsv A.at)) with
        | none => simp [hb] at he
        | some r =>
          simp only [hb, Option.map_some, Option.some.injEq, Prod.mk.injEq] at he
          obtain ⟨rfl, rfl⟩ := he
          obtain ⟨e, hm, rfl, hsp⟩ := callF_mem T _ _ _ _ hb
          have hargs : All2 (ArgR w) (c.args.toList.map (rsv A.at)) (c.args.toList.map a.eval) := All2.map fun x hx =>
            arg_R h x (List.all_eq_true.1 hfit _ (List.mem_map.2 ⟨x, hx, rfl⟩))
          have hex : (execOp a.eval ⟨dst, .call c, ty, pos, after, guard⟩).run PP w = (callFunc e.f (c.args.toList.map a.eval).toArray).run PP w := by
            simp only [execOp, resolve, hc, Act.eval, Deferred.ofValue, Sem.run_bind, Sem.run_pure, Result.andThen, invoke]
            congr 2
            apply Array.ext'
            simp
          rcases hT e hm _ _ _ hsp hp w _ hargs with ⟨v, hv, hrun⟩ | ⟨hrun, hcall⟩
          · obtain ⟨h1, h2⟩ := AV.ret_V hv w0 β
            exact ⟨h2, fun K Q hK => wp_of_value (hex.trans hrun) (hK _ _ (.refl _ _) h1)⟩
          · have hb2 : r.1.isBox = false := by
              obtain ⟨_, w', fr, ⟨v, _, hv, _⟩, _⟩ := hcall []
              exact (AV.ret_V hv w0 β).2
            refine ⟨hb2, fun K Q hK => ?_⟩
            unfold Oper.wp
            rw [hex, hrun, Oper.upon_enter]
            refine hcall.mono ?_
            rintro en w' ⟨v, rfl, hv, hB⟩
            exact hK v w' hB (AV.ret_V hv w0 β).1
      · simp at he
    · simp at he
  | sliceToArrayPointer t x =>
    simp only [opEval] at he
    split at he
    · rename_i s off len cap n es hx ht
      split at he
      · rename_i hd
        have hd := of_decide_eq_true hd
        simp only [Option.some.injEq, Prod.mk.injEq] at he
        obtain ⟨rfl, _⟩ := he
        have hV := rsv_V h x (by rw [hx]; rfl)
        rw [hx] at hV
        obtain ⟨e, h1, _⟩ := el_fact ht
        have hV : a.eval x = .slice (some ⟨β s, off, none⟩) len cap := hV
        refine val_ok (s := Instr.arrayAt t (a.eval x)) rfl rfl ⟨.pointer (some ⟨β s, off, none⟩), ?_, rfl⟩
        rw [hV]
        unfold Instr.arrayAt
        simp only [Sem.run_bind, h1, Result.andThen]
        rw [if_neg (by omega)]
        rfl
      · simp at he
    · simp at he
  | slice t x lo hi mx =>
    cases mx with
    | some m => simp [opEval] at he
    | none =>
      simp only [opEval] at he
      split at he
      · rename_i s kd K N n l r hx ht hl hr
        split at he
        · rename_i hd
          obtain ⟨d1, d2, d3⟩ := of_decide_eq_true hd
          simp only [Option.some.injEq, Prod.mk.injEq] at he
          obtain ⟨rfl, _⟩ := he
          obtain ⟨h1, _⟩ := asP_R h hx
          refine val_ok (s := Instr.sliceAt t (a.eval x) (lo.map a.eval) (hi.map a.eval) ((none : Option Operand).map a.eval)) rfl rfl ⟨.slice (some ⟨β s, l.getD 0, none⟩) (r.getD n - l.getD 0) (n - l.getD 0), ?_, rfl⟩
          rw [h1, Option.map_none]
          refine run_slice ht w (β s) _ _ l r ?_ ?_ d1 d2 d3
          · rcases litOpt_R h hl with ⟨rfl, rfl⟩ | ⟨y, m, k, rfl, rfl, hy⟩
            · exact .inl ⟨rfl, rfl⟩
            · exact .inr ⟨k, m, by simp [hy], rfl⟩
          · rcases litOpt_R h hr with ⟨rfl, rfl⟩ | ⟨y, m, k, rfl, rfl, hy⟩
            · exact .inl ⟨rfl, rfl⟩
            · exact .inr ⟨k, m, by simp [hy], rfl⟩
        · simp at he
      · simp at he
  | _ => simp [opEval] at he
end

end Go.Proofs.Ytdjnhnfofajpcaa.Av
