/- A small evaluator over the model's code, fourth part: one operation, its operands out of the abstract state. -/
import Derived.Test.YtdjnhnfofajpcaaAv3
namespace Go.Proofs.Ytdjnhnfofajpcaa.Av
open Go Go.RowKit

theorem cells4 (kd : IntKind) (N : Nat) : cells kd 4 N = #[.int kd ((N % B : Nat) : Int), .int kd ((N / B % B : Nat) : Int), .int kd ((N / B ^ 2 % B : Nat) : Int), .int kd ((N / B ^ 3 % B : Nat) : Int)] := by
  apply Array.ext'
  simp [cells, Array.toList_ofFn, List.ofFn_succ]

theorem eq4d (d : Nat) (a0 a1 a2 a3 b0 b1 b2 b3 : Int) (w : World) :
    (Op.equalIn (d + 1 + 1) 24 (.agg #[.int .u64 a0, .int .u64 a1, .int .u64 a2, .int .u64 a3]) (.agg #[.int .u64 b0, .int .u64 b1, .int .u64 b2, .int .u64 b3])).run PP w =
      .ok (a0 == b0 && (a1 == b1 && (a2 == b2 && a3 == b3))) w := by
  have h1 : ∀ w : World, (underlying 24).run PP w = .ok (.array 4 22) w := fun _ => by kernel_rfl
  have h3 : ∀ w : World, (sizeOf 22).run PP w = .ok 1 w := fun _ => by kernel_rfl
  have h4 : ∀ w : World, (isAgg 22).run PP w = .ok false w := fun _ => by kernel_rfl
  have h5 : PP.underlying 22 = some (.int .u64) := by kernel_rfl
  have h6 : ∀ (w : World) (a b : Int), (Op.equalIn (d + 1) 22 (.int .u64 a) (.int .u64 b)).run PP w = .ok (a == b) w := fun w a b => run_equalIn_int _ _ _ _ _ _ _ h5
  rw [Op.equalIn]
  simp only [Sem.run_bind, h1, Result.andThen, h3]
  simp [Std.Legacy.Range.forIn_eq_forIn_range', Std.Legacy.Range.size, List.range'_succ, part, h4, Result.andThen, h6]
  by_cases e0 : a0 = b0 <;> by_cases e1 : a1 = b1 <;> by_cases e2 : a2 = b2 <;> by_cases e3 : a3 = b3 <;> simp [e0, e1, e2, e3, h6, Result.andThen]

theorem words4_ext {N M : Nat} (hN : N < B ^ 4) (hM : M < B ^ 4) (h0 : N % B = M % B) (h1 : N / B % B = M / B % B) (h2 : N / B ^ 2 % B = M / B ^ 2 % B) (h3 : N / B ^ 3 % B = M / B ^ 3 % B) : N = M := by
  simp only [B] at *
  omega

theorem run_eq24 (N M : Nat) (hN : N < B ^ 4) (hM : M < B ^ 4) (w : World) :
    (Op.equal 24 (.agg (cells .u64 4 N)) (.agg (cells .u64 4 M))).run PP w = .ok (decide (N = M)) w := by
  rw [cells4, cells4]
  show (Op.equalIn (9998 + 1 + 1) 24 _ _).run PP w = _
  rw [eq4d]
  congr 1
  rw [Bool.eq_iff_iff]
  simp only [Bool.and_eq_true, beq_iff_eq, decide_eq_true_eq]
  constructor
  · rintro ⟨h0, h1, h2, h3⟩
    exact words4_ext hN hM (by omega) (by omega) (by omega) (by omega)
  · rintro rfl; exact ⟨rfl, rfl, rfl, rfl⟩

theorem guard_agg (op : BinOp) (x y : Operand) (xs ys : Array Value) (w : World) : (eqGuard op 24 x y (.agg xs) (.agg ys)).run PP w = .ok () w :=
  run_eqGuard_agg _ _ _ _ _ _ _ (by kernel_rfl)
theorem guard_int (op : BinOp) (t : TypeId) (x y : Operand) (k k' : IntKind) (a b : Int) (w : World) : (eqGuard op t x y (.int k a) (.int k' b)).run PP w = .ok () w := by
  cases op <;> rfl
theorem guard_bool (op : BinOp) (t : TypeId) (x y : Operand) (a b : Bool) (w : World) : (eqGuard op t x y (.bool a) (.bool b)).run PP w = .ok () w := by
  cases op <;> rfl

theorem bool_eq4 (a b : Bool) (w : World) : (Op.equal 4 (.bool a) (.bool b)).run PP w = .ok (a == b) w := by
  show (Op.equalIn (9999 + 1) 4 (.bool a) (.bool b)).run PP w = _
  exact run_equalIn_bool w 9999 4 a b (by kernel_rfl)

theorem eqBin_sound (op : BinOp) (t : TypeId) (x y : Value) (c : Bool) (w : World) (hb : ∀ op', (op' = .eql ∨ op' = .neq) → binOp op' t x y = match op' with | .eql => (do pure (.bool (← Op.equal t x y))) | _ => (do pure (.bool (!(← Op.equal t x y)))))
    (he : (Op.equal t x y).run PP w = .ok c w) (v : PV) (h : eqBin op c = some v) : ∃ u, (binOp op t x y).run PP w = .ok u w ∧ v.R u := by
  cases op <;> simp only [eqBin, Option.some.injEq, reduceCtorEq] at h <;> subst h
  · exact ⟨.bool c, by rw [hb .eql (.inl rfl)]; simp only [Sem.run_bind, he, Result.andThen, Sem.run_pure], rfl⟩
  · exact ⟨.bool (!c), by rw [hb .neq (.inr rfl)]; simp only [Sem.run_bind, he, Result.andThen, Sem.run_pure], rfl⟩

theorem bin_sound (op : BinOp) (t : TypeId) (x y : PV) (u v : Value) (xo yo : Operand) (w : World) (hx : x.R u) (hy : y.R v) (r : PV) (p : Prop) (h : binF op t x y = some (r, p)) (hp : p) :
    ∃ q, ((do eqGuard op t xo yo u v; binOp op t u v) : Sem Value).run PP w = .ok q w ∧ r.R q := by
  unfold binF at h
  split at h
  · rename_i hs
    split at h
    · rename_i k a c p' ha hc
      cases hsh : shBin op k a c with
      | none => simp [hsh] at h
      | some r' =>
        simp only [hsh, Option.map_some, Option.some.injEq, Prod.mk.injEq] at h
        obtain ⟨rfl, rfl⟩ := h
        obtain ⟨rfl, hk, hlt⟩ := asN_R ha hx
        obtain ⟨k', rfl⟩ := asC_R hc hy hp
        obtain ⟨q, h1, h2⟩ := sh_sound w op t k k' hk a c hlt r' hsh
        exact ⟨q, by simp only [Sem.run_bind, guard_int, Result.andThen, h1], h2⟩
    · simp at h
  · rename_i hs
    split at h
    · rename_i k a k' b
      split at h
      · rename_i hk
        subst hk
        cases hl : litBin op k a b with
        | none => simp [hl] at h
        | some r' =>
          simp only [hl, Option.map_some, Option.some.injEq, Prod.mk.injEq] at h
          obtain ⟨rfl, rfl⟩ := h
          obtain ⟨rfl, _⟩ := hx
          obtain ⟨rfl, _⟩ := hy
          obtain ⟨q, h1, h2⟩ := lit_sound w op t k a b r' hl
          exact ⟨q, by simp only [Sem.run_bind, guard_int, Result.andThen, h1], h2⟩
      · simp at h
    · rename_i N M
      split at h
      · rename_i ht
        subst ht
        cases hl : eqBin op (decide (N = M)) with
        | none => simp [hl] at h
        | some r' =>
          simp only [hl, Option.map_some, Option.some.injEq, Prod.mk.injEq] at h
          obtain ⟨rfl, rfl⟩ := h
          obtain ⟨rfl, h1⟩ := hx
          obtain ⟨rfl, h2⟩ := hy
          obtain ⟨q, h3, h4⟩ := eqBin_sound op 24 (.agg (cells .u64 4 N)) (.agg (cells .u64 4 M)) _ w (fun op' ho => by rcases ho with rfl | rfl <;> rfl) (run_eq24 N M h1.1 h2.1 w) r' hl
          exact ⟨q, by simp only [Sem.run_bind, guard_agg, Result.andThen, h3], h4⟩
      · simp at h
    · simp at h
    · split at h
      · rename_i k a k' b ha hb
        split at h
        · rename_i hk
          subst hk
          obtain ⟨rfl, hk, hlt⟩ := asN_R ha hx
          obtain ⟨rfl, _, hlt'⟩ := asN_R hb hy
          obtain ⟨q, h1, h2⟩ := nat_sound w op t k hk a b hlt hlt' r p h hp
          exact ⟨q, by simp only [Sem.run_bind, guard_int, Result.andThen, h1], h2⟩
        · simp at h
      · split at h
        · rename_i k a k' b ha hb
          split at h
          · rename_i hk
            subst hk
            obtain ⟨rfl, _, _⟩ := asZ_R ha hx
            obtain ⟨rfl, _, _⟩ := asZ_R hb hy
            obtain ⟨q, h1, h2⟩ := int_sound w op t k a b r p h hp
            exact ⟨q, by simp only [Sem.run_bind, guard_int, Result.andThen, h1], h2⟩
          · simp at h
        · split at h
          · rename_i a b ha hb
            split at h
            · rename_i ht
              subst ht
              cases hl : eqBin op (a == b) with
              | none => simp [hl] at h
              | some r' =>
                simp only [hl, Option.map_some, Option.some.injEq, Prod.mk.injEq] at h
                obtain ⟨rfl, rfl⟩ := h
                have e1 := asB_R ha hx
                have e2 := asB_R hb hy
                subst e1 e2
                obtain ⟨q, h3, h4⟩ := eqBin_sound op 4 (.bool a) (.bool b) _ w (fun op' ho => by rcases ho with rfl | rfl <;> rfl) (bool_eq4 a b w) r' hl
                exact ⟨q, by simp only [Sem.run_bind, guard_bool, Result.andThen, h3], h4⟩
            · simp at h
          · simp at h

/-! ### Other operations on plain values -/

def unF (op : UnOp) (x : PV) : Option (PV × Prop) :=
  match op, x with
  | .not, .bool b => some (.bool (!b), True)
  | .not, .blit b => some (.blit (!b), True)
  | .neg, .int k z => some (.int k (-z), inR k (-z))
  | .neg, .lit k z => some (.lit k (k.wrap (-z)), True)
  | .neg, .nat k n => some (.nat k ((pw k - n) % pw k), True)
  | _, _ => none
theorem un_sound (op : UnOp) (x : PV) (u : Value) (w : World) (hx : x.R u) (r : PV) (p : Prop) (h : unF op x = some (r, p)) (hp : p) : ∃ q, (Op.unary op u).run PP w = .ok q w ∧ r.R q := by
  unfold unF at h
  split at h
  · simp only [Option.some.injEq, Prod.mk.injEq] at h; obtain ⟨rfl, rfl⟩ := h
    obtain rfl := hx; exact ⟨_, rfl, rfl⟩
  · simp only [Option.some.injEq, Prod.mk.injEq] at h; obtain ⟨rfl, rfl⟩ := h
    obtain rfl := hx; exact ⟨_, rfl, rfl⟩
  · rename_i k z
    simp only [Option.some.injEq, Prod.mk.injEq] at h; obtain ⟨rfl, rfl⟩ := h
    obtain ⟨rfl, _⟩ := hx
    refine ⟨.int k (-z), ?_, PV.litR hp⟩
    simp [Op.unary, Op.intArith, show k.wrap (-z) = -z from hp]
  · rename_i k z
    simp only [Option.some.injEq, Prod.mk.injEq] at h; obtain ⟨rfl, rfl⟩ := h
    obtain ⟨rfl, _⟩ := hx
    refine ⟨.int k (k.wrap (-z)), ?_, PV.litR (wrap_wrap _ _)⟩
    simp [Op.unary, Op.intArith]
  · rename_i k n
    simp only [Option.some.injEq, Prod.mk.injEq] at h; obtain ⟨rfl, rfl⟩ := h
    obtain ⟨rfl, hk, hlt⟩ := hx
    rw [← pw_eq] at hlt
    refine ⟨.int k ((((pw k - n) % pw k : Nat) : Int)), ?_, PV.natR hk (Nat.mod_lt _ (pw_pos k))⟩
    have e : k.wrap (-(n : Int)) = (((pw k - n) % pw k : Nat) : Int) := by
      rw [wrap_int hk, Int.natCast_emod]
      have : ((pw k - n : Nat) : Int) = -(n : Int) + (pw k : Int) := by omega
      rw [this, Int.add_emod_right]
    rw [← e]; simp [Op.unary, Op.intArith]
  · simp at h

def convF (src dst : TypeId) (x : PV) : Option PV :=
  match scTy src, scTy dst with
  | some _, some k' => match x with
    | .lit _ z => some (.lit k' (k'.wrap z))
    | .nat k n => match k'.signed with
      | false => match decide (pw k ≤ pw k') with
        | true => some (.nat k' n)
        | false => some (.nat k' (n % pw k'))
      | true => match decide (2 * pw k ≤ pw k') with
        | true => some (.int k' n)
        | false => some (.int k' (k'.wrap n))
    | .int k z => match k.signed with
      | false => none
      | true => match k'.signed with
        | true => match decide (pw k ≤ pw k') with
          | true => some (.int k' z)
          | false => none
        | false => some (.nat k' (z % (pw k' : Int)).toNat)
    | _ => none
  | _, _ => none

theorem run_conv {src dst : TypeId} {k k' : IntKind} (hs : scTy src = some k) (hd : scTy dst = some k') (q : IntKind) (z : Int) (w : World) :
    (convert src dst (.int q z)).run PP w = .ok (.int k' (k'.wrap z)) w := by
  have h1 := (sc_fact hs).2.2
  have h2 := (sc_fact hd).2.2
  unfold convert
  simp only [Sem.run_bind, run_underlying h1, run_underlying h2, Result.andThen, Conv.intToInt, Sem.run_pure]

theorem inR_mono {k k' : IntKind} {z : Int} (hk : k.signed = true) (hk' : k'.signed = true) (hle : pw k ≤ pw k') (h : inR k z) : inR k' z := by
  unfold inR at *
  cases k <;> cases k' <;> simp only [IntKind.signed, Bool.false_eq_true] at hk hk' <;> simp only [pw] at hle <;>
    first | omega | (simp only [IntKind.wrap, IntKind.bits, IntKind.signed] at h ⊢; simp at h ⊢; omega) | exact h

theorem conv_sound (src dst : TypeId) (x : PV) (u : Value) (w : World) (hx : x.R u) (r : PV) (h : convF src dst x = some r) : ∃ q, (convert src dst u).run PP w = .ok q w ∧ r.R q := by
  unfold convF at h
  split at h
  · rename_i k0 k' hs hd
    split at h
    · rename_i k z
      simp only [Option.some.injEq] at h; subst h
      obtain ⟨rfl, _⟩ := hx
      exact ⟨_, run_conv hs hd _ _ w, PV.litR (wrap_wrap _ _)⟩
    · rename_i k n
      obtain ⟨rfl, hk, hlt⟩ := hx
      rw [← pw_eq] at hlt
      refine ⟨_, run_conv hs hd _ _ w, ?_⟩
      split at h
      · rename_i h1
        split at h
        · rename_i h2
          simp only [Option.some.injEq] at h; subst h
          have h2 := of_decide_eq_true h2
          rw [wrap_nat h1, Nat.mod_eq_of_lt (by omega)]
          exact PV.natR h1 (by omega)
        · simp only [Option.some.injEq] at h; subst h
          rw [wrap_nat h1]
          exact PV.natR h1 (Nat.mod_lt _ (pw_pos _))
      · rename_i h1
        split at h
        · rename_i h3
          simp only [Option.some.injEq] at h; subst h
          have h3 := of_decide_eq_true h3
          have e : inR k' (n : Int) := by
            unfold inR
            generalize pw k = M at h3 hlt
            cases k' <;> simp only [IntKind.signed, Bool.false_eq_true] at h1 <;> simp only [pw] at h3 <;>
              (simp only [IntKind.wrap, IntKind.bits, IntKind.signed]; simp; omega)
          rw [show k'.wrap (n : Int) = n from e]
          exact ⟨rfl, e⟩
        · simp only [Option.some.injEq] at h; subst h
          exact ⟨rfl, wrap_wrap _ _⟩
    · rename_i k z
      obtain ⟨rfl, hr⟩ := hx
      refine ⟨_, run_conv hs hd _ _ w, ?_⟩
      split at h
      · simp at h
      · rename_i h1
        split at h
        · rename_i h2
          split at h
          · rename_i h3
            simp only [Option.some.injEq] at h; subst h
            have e := inR_mono h1 h2 (of_decide_eq_true h3) hr
            rw [show k'.wrap z = z from e]
            exact ⟨rfl, e⟩
          · simp at h
        · rename_i h2
          simp only [Option.some.injEq] at h; subst h
          have hp := pw_pos k'
          have h4 := Int.emod_nonneg z (b := (pw k' : Int)) (by omega)
          have h5 := Int.emod_lt_of_pos z (b := (pw k' : Int)) (by omega)
          have e : k'.wrap z = (((z % (pw k' : Int)).toNat : Nat) : Int) := by rw [wrap_int h2]; omega
          rw [e]
          exact PV.natR h2 (by omega)
    · simp at h
  · simp at h

end Go.Proofs.Ytdjnhnfofajpcaa.Av
