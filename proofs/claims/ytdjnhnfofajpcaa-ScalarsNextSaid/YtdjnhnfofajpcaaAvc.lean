/- A small evaluator over the model's code, twelfth part: whole functions. -/
import Derived.Test.YtdjnhnfofajpcaaAvb
import Derived.Scope
import Derived.LoopN
namespace Go.Proofs.Ytdjnhnfofajpcaa.Av
open Go Go.RowKit

/-! ### Less is known -/

def PV.weak : PV → PV → Prop
  | .lit k z, .lit k' z' | .lit k z, .int k' z' | .int k z, .int k' z' => if k = k' then z = z' else False
  | .lit k z, .nat k' n => if k = k' then match k.signed with
    | false => z.toNat = n
    | true => False
    else False
  | .nat k n, .nat k' n' => if k = k' then n = n' else False
  | .blit b, .blit b' | .blit b, .bool b' | .bool b, .bool b' | .bool b, .blit b' => b = b'
  | .words kd k N, .words kd' k' N' => if kd = kd' ∧ k = k' then N = N' else False
  | _, _ => False

theorem PV.weak_R {x y : PV} (h : x.weak y) {v : Value} (hv : x.R v) : y.R v := by
  unfold PV.weak at h
  split at h
  · split at h
    · rename_i hk; subst hk; subst h; exact hv
    · exact h.elim
  · split at h
    · rename_i hk; subst hk; subst h; exact hv
    · exact h.elim
  · split at h
    · rename_i hk; subst hk; subst h; exact hv
    · exact h.elim
  · split at h
    · rename_i hk; subst hk
      split at h
      · rename_i hs
        subst h
        obtain ⟨rfl, h2⟩ := hv
        obtain ⟨h3, h4⟩ := lit_nat hs h2
        exact ⟨by rw [← h3], hs, by rw [← pw_eq]; exact h4⟩
      · exact h.elim
    · exact h.elim
  · split at h
    · rename_i hk; subst hk; subst h; exact hv
    · exact h.elim
  · subst h; exact hv
  · subst h; exact hv
  · subst h; exact hv
  · subst h; exact hv
  · split at h
    · rename_i hk; obtain ⟨rfl, rfl⟩ := hk; subst h; exact hv
    · exact h.elim
  · exact h.elim

def AV.weak (x : AV) : AV → Prop
  | .junk => True
  | .pv b => match x with
    | .pv a => a.weak b
    | _ => False
  | .tup2 c d => match x with
    | .tup2 a b => a.weak c ∧ b.weak d
    | _ => False
  | .tup3 d e f => match x with
    | .tup3 a b c => a.weak d ∧ b.weak e ∧ c.weak f
    | _ => False
  | .box kd' k' N' => match x with
    | .box kd k N => if kd = kd' ∧ k = k' then N = N' else False
    | _ => False
  | .ref t' o' => match x with
    | .ref t o => t = t' ∧ o = o'
    | _ => False
  | .gp kd' k' N' o' => match x with
    | .gp kd k N o => if kd = kd' ∧ k = k' then N = N' ∧ o = o' else False
    | _ => False
  | .gs kd' k' N' o' l' c' => match x with
    | .gs kd k N o l c => if kd = kd' ∧ k = k' then N = N' ∧ o = o' ∧ l = l' ∧ c = c' else False
    | _ => False
  | .clo sp' => match x with
    | .clo sp => sp = sp'
    | _ => False
  | .sl .. => False
  | .gone => False

theorem AV.weak_R {w0 : World} {β : Nat → Nat} {w : World} {s : Nat} {x y : AV} (h : x.weak y) {v : Value} (hv : x.R w0 β w s v) : y.R w0 β w s v ∧ (y.isBox = true → x.isBox = true) := by
  cases y <;> (try exact ⟨trivial, fun h => by cases h⟩) <;> simp only [AV.weak] at h <;> (try exact h.elim) <;> split at h <;> (try exact h.elim)
  · exact ⟨PV.weak_R h hv, fun h => by cases h⟩
  · obtain ⟨a, b, h1, h2, h3⟩ := hv
    exact ⟨⟨a, b, h1, PV.weak_R h.1 h2, PV.weak_R h.2 h3⟩, fun h => by cases h⟩
  · obtain ⟨a, b, c, h1, h2, h3, h4⟩ := hv
    exact ⟨⟨a, b, c, h1, PV.weak_R h.1 h2, PV.weak_R h.2.1 h3, PV.weak_R h.2.2 h4⟩, fun h => by cases h⟩
  · split at h
    · rename_i hk; obtain ⟨rfl, rfl⟩ := hk; subst h; exact ⟨hv, fun _ => rfl⟩
    · exact h.elim
  · obtain ⟨rfl, rfl⟩ := h; exact ⟨hv, fun h => by cases h⟩
  · split at h
    · rename_i hk; obtain ⟨rfl, rfl⟩ := hk; obtain ⟨rfl, rfl⟩ := h; exact ⟨hv, fun h => by cases h⟩
    · exact h.elim
  · split at h
    · rename_i hk; obtain ⟨rfl, rfl⟩ := hk; obtain ⟨rfl, rfl, rfl, rfl⟩ := h; exact ⟨hv, fun h => by cases h⟩
    · exact h.elim
  · subst h; exact ⟨hv, fun h => by cases h⟩

/-- Slot by slot. -/
def weak : AS → AS → Prop
  | [], [] => True
  | x :: A, y :: A' => match y with
    | .junk => weak A A'
    | _ => x.weak y ∧ weak A A'
  | _, _ => False

theorem weak_at : ∀ (A A' : AS), weak A A' → A'.length = A.length ∧ ∀ s, (A.at s).weak (A'.at s)
  | [], [], _ => ⟨rfl, fun _ => trivial⟩
  | [], _ :: _, h => h.elim
  | _ :: _, [], h => h.elim
  | x :: A, y :: A', h => by
    have h1 : x.weak y ∧ weak A A' := by
      unfold weak at h
      split at h
      · exact ⟨trivial, h⟩
      · exact h
    obtain ⟨h2, h3⟩ := weak_at A A' h1.2
    refine ⟨by simp [h2], fun s => ?_⟩
    cases s with
    | zero => exact h1.1
    | succ s => exact h3 s

theorem weak_holds {w0 : World} {A A' : AS} {a : Act} {w : World} (h : weak A A') (hA : Holds w0 A a w) : Holds w0 A' a w := by
  obtain ⟨hl, hs⟩ := weak_at A A' h
  obtain ⟨hd, β, hc⟩ := hA
  have hb : ∀ s, (A'.at s).isBox = true → (A.at s).isBox = true := fun s => (AV.weak_R (hs s) (hc.slots s)).2
  exact ⟨hd, β, hc.size.trans hl.symm, hc.below, fun s => (AV.weak_R (hs s) (hc.slots s)).1, fun s h => hc.base s (hb s h), fun s t h1 h2 => hc.sep s t (hb s h1) (hb t h2)⟩

/-! ### Code -/

inductive AE where
  | normal
  | exit (id : Nat)
  | ret

/-- What holds at each round's head of the loop in a block; 'pre' may speak of what held when the loop began. -/
structure LoopSpec where
  id : Nat
  X : Type
  pre : X → X → Prop
  shape : X → AS
  μ : X → Nat

def findLoop : List LoopSpec → Nat → Option LoopSpec
  | [], _ => none
  | s :: L, id => match s.id == id with
    | true => some s
    | false => findLoop L id

def inBlk (id : Nat) (Q : AE → AS → Prop) : AE → AS → Prop
  | .exit i, A => match i == id with
    | true => Q .normal A
    | false => Q (.exit i) A
  | e, A => Q e A
def thn (K : AS → Prop) (Q : AE → AS → Prop) : AE → AS → Prop
  | .normal, A => K A
  | e, A => Q e A

/-- A test: what the slot holds. -/
def asCond (A : AS) (c : Operand) : Option (Option Bool × Bool) :=
  match (rsv A.at c).1 with
  | .pv (.blit b) => some (some b, b)
  | .pv (.bool b) => some (none, b)
  | _ => none

/-- The truths in the slots 'sp' are told apart ahead of a statement: one run for each. -/
def splitK (T : List Entry) (sp : List Nat) (ops : Array Oper) : List Oper → AS → List (Nat × Bool) → (List (Nat × Bool) → Prop) → Prop
  | [], _, dec, K => K dec
  | o :: r, A, dec, K => match effOf T dec ops o A.at with
    | none => K dec
    | some e => match e.wr with
      | some (d, .pv (.bool b)) => match sp.contains d with
        | true => (b = true → splitK T sp ops r (A.set d (.pv (.blit true))) ((d, true) :: dec) K) ∧ (b = false → splitK T sp ops r (A.set d (.pv (.blit false))) ((d, false) :: dec) K)
        | false => splitK T sp ops r (A.app e.wr) dec K
      | _ => splitK T sp ops r (A.app e.wr) dec K

theorem splitK_some {T : List Entry} {sp : List Nat} {ops : Array Oper} : ∀ (l : List Oper) (A : AS) (dec : List (Nat × Bool)) (K : List (Nat × Bool) → Prop), splitK T sp ops l A dec K → ∃ dec', K dec'
  | [], _, dec, _, h => ⟨dec, h⟩
  | o :: r, A, dec, K, h => by
    simp only [splitK] at h
    split at h
    · exact ⟨dec, h⟩
    · split at h
      · rename_i b _
        split at h
        · cases b with
          | true => exact splitK_some r _ _ K (h.1 rfl)
          | false => exact splitK_some r _ _ K (h.2 rfl)
        · exact splitK_some r _ _ K h
      · exact splitK_some r _ _ K h

def split (T : List Entry) (sp : List Nat) (ops : Array Oper) (A : AS) (dec : List (Nat × Bool)) (K : List (Nat × Bool) → Prop) : Prop :=
  match sp with
  | [] => K dec
  | _ => splitK T sp ops ops.toList (prep (fresh ops.toList) A) dec K

theorem split_some {T : List Entry} {sp : List Nat} {ops : Array Oper} {A : AS} {dec : List (Nat × Bool)} {K : List (Nat × Bool) → Prop} (h : split T sp ops A dec K) : ∃ dec', K dec' := by
  unfold split at h
  split at h
  · exact ⟨dec, h⟩
  · exact splitK_some _ _ _ _ h

def awp (T : List Entry) (dec : List (Nat × Bool)) (sp : List Nat) (L : List LoopSpec) : Nat → Code → (AE → AS → Prop) → AS → Prop
  | 0, _, _, _ => False
  | n + 1, c, Q, A => match c with
    | .skip => Q .normal A
    | .label _ => Q .normal A
    | .ret => Q .ret A
    | .exit id => Q (.exit id) A
    | .scope b => awp T dec sp L n b Q A
    | .seq x y => awp T dec sp L n x (thn (awp T dec sp L n y Q) Q) A
    | .cond t x y => match asCond A t with
      | some (some true, _) => awp T dec sp L n x Q A
      | some (some false, _) => awp T dec sp L n y Q A
      | some (none, b) => (b = true → awp T dec sp L n x Q A) ∧ (b = false → awp T dec sp L n y Q A)
      | none => False
    | .loop b => awp T dec sp L n b (thn (awp T dec sp L n (.loop b) Q) Q) A
    | .block id b => match findLoop L id, b with
      | some s, .loop d => ∃ o, s.pre o o ∧ weak A (s.shape o) ∧ ∀ x, s.pre o x → awp T dec sp L n d (thn (fun A' => ∃ y, s.pre o y ∧ s.μ y < s.μ x ∧ weak A' (s.shape y)) (inBlk id Q)) (s.shape x)
      | _, b => awp T dec sp L n b (inBlk id Q) A
    | .region _ ops draw => split T sp ops A dec fun dec' => match region T dec' ops draw A with
      | some (A', p) => p ∧ Q .normal A'
      | none => False
    | _ => False

def lift (w0 : World) (Q : AE → AS → Prop) : Exit → Act → World → Prop
  | .normal, a, w => ∃ A, Q .normal A ∧ Holds w0 A a w
  | .exit i, a, w => ∃ A, Q (.exit i) A ∧ Holds w0 A a w
  | .ret, a, w => ∃ A, Q .ret A ∧ Holds w0 A a w
  | _, _, _ => False

/-- What a piece of code that hands on in abstract states does. -/
theorem thn_lift {w0 : World} {Q : AE → AS → Prop} {K : AS → Prop} {K' : Act → World → Prop} (hK : ∀ A a w, K A → Holds w0 A a w → K' a w) (e : Exit) (a : Act) (w : World) (he : lift w0 (thn K Q) e a w) : Exit.then K' (lift w0 Q) e a w := by
  cases e with
  | normal => obtain ⟨A', h1, h2⟩ := he; exact hK A' a w h1 h2
  | exit i => exact he
  | ret => exact he
  | _ => exact he.elim

theorem inBlk_lift {w0 : World} {Q : AE → AS → Prop} {id : Nat} (e : Exit) (a : Act) (w : World) (he : lift w0 (inBlk id Q) e a w) : Exit.inBlock id (lift w0 Q) e a w := by
  cases e with
  | exit i =>
    obtain ⟨A', h1, h2⟩ := he
    simp only [inBlk] at h1
    simp only [Exit.inBlock]
    split at h1
    · rename_i hi; rw [if_pos (by simpa using hi)]; exact ⟨A', h1, h2⟩
    · rename_i hi; rw [if_neg (by simpa using hi)]; exact ⟨A', h1, h2⟩
  | normal => exact he
  | ret => exact he
  | _ => exact he.elim

theorem asCond_R {w0 : World} {A : AS} {a : Act} {w : World} (hA : Holds w0 A a w) {t : Operand} {o : Option Bool} {b : Bool} (hb : asCond A t = some (o, b)) : a.eval t = .bool b ∧ ∀ c, o = some c → c = b := by
  obtain ⟨_, β, hc⟩ := hA
  unfold asCond at hb
  split at hb
  · rename_i b' hx
    simp only [Option.some.injEq, Prod.mk.injEq] at hb
    obtain ⟨rfl, rfl⟩ := hb
    exact ⟨rsv_pv hc hx, fun c hc => by simpa using hc.symm⟩
  · rename_i b' hx
    simp only [Option.some.injEq, Prod.mk.injEq] at hb
    obtain ⟨rfl, rfl⟩ := hb
    exact ⟨rsv_pv hc hx, fun c hc => by simp at hc⟩
  · simp at hb

theorem awp_sound' {T : List Entry} (hT : TOK T) {dec : List (Nat × Bool)} {sp : List Nat} {L : List LoopSpec} {w0 : World} : ∀ (n : Nat) (c : Code) (Q : AE → AS → Prop) (A : AS), awp T dec sp L n c Q A →
    ∀ (a : Act) (w : World), Holds w0 A a w → c.wp PP (lift w0 Q) a w ∧ ∀ b, c = .loop b → Code.rounds PP b (lift w0 Q) n a w := by
  intro n
  induction n with
  | zero => intro c Q A h; exact h.elim
  | succ n ih =>
    intro c Q A h a w hA
    have no : ∀ b, (∀ d, c ≠ .loop d) → c = .loop b → Code.rounds PP b (lift w0 Q) (n + 1) a w := fun b hn hb => absurd hb (hn b)
    cases c with
    | skip => exact ⟨wp_skip ⟨A, h, hA⟩, fun b => no b (by simp)⟩
    | label l => exact ⟨wp_label ⟨A, h, hA⟩, fun b => no b (by simp)⟩
    | ret => exact ⟨wp_ret ⟨A, h, hA⟩, fun b => no b (by simp)⟩
    | exit id => exact ⟨wp_exit ⟨A, h, hA⟩, fun b => no b (by simp)⟩
    | scope d =>
      refine ⟨wp_scope_straight (wp_mono (ih d Q A h a w hA).1 fun e a' w' he => ?_), fun b => no b (by simp)⟩
      cases e <;> first | exact he | exact he.elim
    | seq x y =>
      exact ⟨wp_seq (wp_mono (ih x _ A h a w hA).1 (thn_lift fun A' a' w' h1 h2 => (ih y Q A' h1 a' w' h2).1)), fun b => no b (by simp)⟩
    | cond t x y =>
      refine ⟨?_, fun b => no b (by simp)⟩
      simp only [awp] at h
      split at h
      · rename_i b' hb
        obtain ⟨h1, h2⟩ := asCond_R hA hb
        obtain rfl := h2 _ rfl
        exact wp_cond_true h1 (ih x Q A h a w hA).1
      · rename_i b' hb
        obtain ⟨h1, h2⟩ := asCond_R hA hb
        obtain rfl := h2 _ rfl
        exact wp_cond_false h1 (ih y Q A h a w hA).1
      · rename_i b hb
        obtain ⟨h1, _⟩ := asCond_R hA hb
        exact wp_cond_split h1 (fun hb => (ih x Q A (h.1 hb) a w hA).1) (fun hb => (ih y Q A (h.2 hb) a w hA).1)
      · exact h.elim
    | loop d =>
      have hr : Code.rounds PP d (lift w0 Q) (n + 1) a w := by
        rw [rounds_succ]
        exact wp_mono (ih d _ A h a w hA).1 (thn_lift fun A' a' w' h1 h2 => (ih (.loop d) Q A' h1 a' w' h2).2 d rfl)
      exact ⟨wp_loop_rounds (n + 1) hr, fun b hb => by cases hb; exact hr⟩
    | block id d =>
      refine ⟨?_, fun b => no b (by simp)⟩
      simp only [awp] at h
      split at h
      · rename_i s d _
        obtain ⟨o, hx, hw, hr⟩ := h
        have key : ∀ (m : Nat) (x : s.X) (a : Act) (w : World), s.pre o x → s.μ x < m → Holds w0 (s.shape x) a w → Code.rounds PP d (lift w0 (inBlk id Q)) m a w := by
          intro m
          induction m with
          | zero => intro x a w _ hm; omega
          | succ m ihm =>
            intro x a w hx hm hA
            rw [rounds_succ]
            exact wp_mono (ih d _ _ (hr x hx) a w hA).1 (thn_lift fun A' a' w' h1 h2 => by
              obtain ⟨y, hy, hlt, hwk⟩ := h1
              exact ihm y a' w' hy (by omega) (weak_holds hwk h2))
        exact wp_block (wp_mono (wp_loop_rounds _ (key _ o a w hx (Nat.lt_succ_self _) (weak_holds hw hA))) (fun e a' w' he => inBlk_lift e a' w' he))
      · exact wp_block (wp_mono (ih _ _ A h a w hA).1 (fun e a' w' he => inBlk_lift e a' w' he))
    | region id ops draw =>
      refine ⟨?_, fun b => no b (by simp)⟩
      simp only [awp] at h
      obtain ⟨dec', h⟩ := split_some h
      split at h
      · rename_i A' p hr
        exact region_sound hT hr h.1 hA fun a' w' h' => ⟨A', h.2, h'⟩
      · exact h.elim
    | _ => exact h.elim

/-! ### Functions -/

/-- One result. -/
def resVar (A : AS) : ResultVar → Option PV
  | .tmp t => match A.at t with
    | .pv p => some p
    | _ => none
  | .cell t ty => match A.at t, arrTy ty with
    | .box kd k N, some (kd', k') => if kd' = kd ∧ k' = k then some (.words kd k N) else none
    | _, _ => none

/-- All results. -/
def resOf (A : AS) : List ResultVar → Option AV
  | [x] => (resVar A x).map .pv
  | [x, y] => match resVar A x, resVar A y with
    | some a, some b => some (.tup2 a b)
    | _, _ => none
  | [x, y, z] => match resVar A x, resVar A y, resVar A z with
    | some a, some b, some c => some (.tup3 a b c)
    | _, _, _ => none
  | _ => none

def fnPost (rs : List ResultVar) (R : AV → Prop) : AE → AS → Prop
  | .normal, A | .ret, A => match resOf A rs with
    | some v => R v
    | none => False
  | _, _ => False

def resSem (tmps : Array Value) : ResultVar → Sem Value
  | .tmp t => pure (tmps.getD t undef)
  | .cell x t => do loadVar t (← asAddr (tmps.getD x undef))

theorem results_eq (fn : Func) (tmps : Array Value) : results fn tmps = (do
    let vs ← fn.results.mapM (resSem tmps)
    pure (if h : vs.size = 1 then vs[0] else .tuple vs)) := rfl

theorem resVar_R {w0 : World} {A : AS} {a : Act} {w : World} {β : Nat → Nat} (h : Conc w0 A a.tmps w β) {r : ResultVar} {p : PV} (hr : resVar A r = some p) :
    ∃ v, p.R v ∧ (resSem a.tmps r).run PP w = .ok v w := by
  cases r with
  | tmp t =>
    simp only [resVar] at hr
    split at hr
    · rename_i q hq
      simp only [Option.some.injEq] at hr; subst hr
      have := h.notBox (s := t) (by rw [hq]; rfl)
      rw [hq] at this
      exact ⟨_, this, rfl⟩
    · simp at hr
  | cell x t =>
    simp only [resVar] at hr
    split at hr
    · rename_i kd k N kd' k' hx ht
      split at hr
      · rename_i hk
        obtain ⟨rfl, rfl⟩ := hk
        simp only [Option.some.injEq] at hr; subst hr
        obtain ⟨h1, ⟨e, h2⟩, h3⟩ := h.box hx
        refine ⟨.agg (cells kd' k' N), ⟨rfl, h3⟩, ?_⟩
        have hl := run_load_arr ht w (β x) 0 k' N e h2 (by omega)
        rw [Nat.pow_zero, Nat.div_one, Nat.mod_eq_of_lt h3.1] at hl
        have h1' : a.tmps.getD x undef = .pointer (some ⟨β x, 0, none⟩) := h1
        simp only [resSem, h1', asAddr, Sem.run_bind, Sem.run_pure, Result.andThen]
        unfold Instr.loadAt Instr.sureAddr at hl
        simpa using hl
      · simp at hr
    · simp at hr

theorem results_R {w0 : World} {A : AS} {a : Act} {w : World} (hA : Holds w0 A a w) {fn : Func} {v : AV} (hr : resOf A fn.results.toList = some v) : ∃ u, v.ret u ∧ (results fn a.tmps).run PP w = .ok u w := by
  obtain ⟨_, β, h⟩ := hA
  rw [results_eq]
  generalize hrs : fn.results = rs at hr
  obtain ⟨l⟩ := rs
  simp only at hr
  generalize hg : resSem a.tmps = g
  unfold resOf at hr
  split at hr
  · rename_i x
    cases hx : resVar A x with
    | none => simp [hx] at hr
    | some p =>
      simp only [hx, Option.map_some, Option.some.injEq] at hr; subst hr
      obtain ⟨u, h1, h2⟩ := resVar_R h hx
      rw [hg] at h2
      refine ⟨u, h1, ?_⟩
      simp [h2]
  · rename_i x y
    split at hr
    · rename_i p q hx hy
      simp only [Option.some.injEq] at hr; subst hr
      obtain ⟨u, h1, h2⟩ := resVar_R h hx
      obtain ⟨v, h3, h4⟩ := resVar_R h hy
      rw [hg] at h2 h4
      refine ⟨.tuple #[u, v], ⟨u, v, rfl, h1, h3⟩, ?_⟩
      simp [h2, h4, Result.andThen]
    · simp at hr
  · rename_i x y z
    split at hr
    · rename_i p q r hx hy hz
      simp only [Option.some.injEq] at hr; subst hr
      obtain ⟨u, h1, h2⟩ := resVar_R h hx
      obtain ⟨v, h3, h4⟩ := resVar_R h hy
      obtain ⟨t, h5, h6⟩ := resVar_R h hz
      rw [hg] at h2 h4 h6
      refine ⟨.tuple #[u, v, t], ⟨u, v, t, rfl, h1, h3, h5⟩, ?_⟩
      simp [h2, h4, h6, Result.andThen]
    · simp at hr
  · simp at hr

/-- The state in which a call begins. -/
def begins (args : List AV) (n : Nat) : AS := args ++ List.replicate (n - args.length) .junk

/-- What a callee is handed, as its own state tells it. -/
def ArgV (w : World) (x : AV) (v : Value) : Prop := x.isBox = false ∧ (∀ t o, x ≠ .ref t o) ∧ (∀ t o l c, x ≠ .sl t o l c) ∧ x.V w (fun _ => 0) v

theorem start_holds {w : World} {args : List AV} {vs : List Value} (h : All2 (ArgV w) args vs) (n : Nat) (hn : args.length ≤ n) :
    Holds w (begins args n) { tmps := vs.toArray ++ Array.replicate (n - vs.length) undef, defers := [] } w := by
  have hlen : ∀ {args : List AV} {vs : List Value}, All2 (ArgV w) args vs → args.length = vs.length := by
    intro args vs h
    induction h with
    | nil => rfl
    | cons _ _ ih => simp [ih]
  have hl := hlen h
  have hat : ∀ s, AS.at (begins args n) s = args.getD s .junk := by
    intro s
    unfold AS.at begins
    simp only [List.getD_eq_getElem?_getD, List.getElem?_append]
    split
    · rfl
    · rename_i hs
      rw [List.getElem?_replicate, List.getElem?_eq_none (by omega : args.length ≤ s)]
      split <;> rfl
  have hv : ∀ s, s < args.length → (vs.toArray ++ Array.replicate (n - vs.length) undef).getD s undef = vs.getD s undef := by
    intro s hs
    simp [Array.getElem?_append, List.getD_eq_getElem?_getD, show s < vs.length by omega]
  have hz : ∀ (s : Nat) {args : List AV} {vs : List Value}, All2 (ArgV w) args vs → s < args.length → ArgV w (args.getD s .junk) (vs.getD s undef) := by
    intro s args vs h
    induction h generalizing s with
    | nil => intro hs; simp at hs
    | cons h1 _ ih =>
      intro hs
      cases s with
      | zero => exact h1
      | succ s => simpa using ih s (by simpa using hs)
  have nobox : ∀ s, (AS.at (begins args n) s).isBox = true → False := by
    intro s hs
    rw [hat] at hs
    by_cases hlt : s < args.length
    · rw [(hz s h hlt).1] at hs; cases hs
    · rw [List.getD_eq_getElem?_getD, List.getElem?_eq_none (by omega)] at hs; cases hs
  refine ⟨rfl, fun _ => 0, ?_, .refl _ _, fun s => ?_, fun s hs => (nobox s hs).elim, fun s t hs => (nobox s hs).elim⟩
  · simp [begins]; omega
  · rw [hat]
    by_cases hlt : s < args.length
    · obtain ⟨h1, _, _, h4⟩ := hz s h hlt
      rw [hv s hlt]
      exact AV.R_of_V h4 h1
    · rw [List.getD_eq_getElem?_getD, List.getElem?_eq_none (by omega)]; trivial

/-- **A function: what the evaluator says of its body holds of its calls.** -/
theorem calls_sound {T : List Entry} (hT : TOK T) {f : FuncId} {fn : Func} {c : Code} (hf : PP.funcs[f]? = some fn) (hb : fn.body = some c) (dec : List (Nat × Bool)) (sp : List Nat) (L : List LoopSpec) (n : Nat) (args : List AV) (R : AV → Prop)
    (hn : args.length ≤ fn.ntmps) (h : awp T dec sp L n c (fnPost fn.results.toList R) (begins args fn.ntmps)) {w : World} {vs : List Value} (hv : All2 (ArgV w) args vs) :
    Calls PP f vs.toArray w fun e w' => ∃ v u, e = .returned u ∧ v.ret u ∧ R v ∧ Below w.heap.size w w' := by
  refine calls_of_wp hf hb ?_
  have hA := start_holds hv fn.ntmps hn
  have hsz : vs.toArray.size = vs.length := by simp
  rw [hsz]
  refine wp_mono (awp_sound' hT n c _ _ h _ _ hA).1 fun e a' w' he => ?_
  have fin : ∀ A', fnPost fn.results.toList R .ret A' → Holds w A' a' w' → a'.defers = [] ∧ ∃ v, (results fn a'.tmps).run PP w' = .ok v w' ∧ ∃ v_1 u, Ending.returned v = .returned u ∧ v_1.ret u ∧ R v_1 ∧ Below w.heap.size w w' := by
    intro A' h1 h2
    simp only [fnPost] at h1
    split at h1
    · rename_i v hr
      obtain ⟨u, h3, h4⟩ := results_R h2 hr
      obtain ⟨h5, β, h6⟩ := h2
      exact ⟨h5, u, h4, v, u, rfl, h3, h1, h6.below⟩
    · exact h1.elim
  cases e with
  | normal => obtain ⟨A', h1, h2⟩ := he; exact fin A' h1 h2
  | ret => obtain ⟨A', h1, h2⟩ := he; exact fin A' h1 h2
  | exit i => obtain ⟨A', h1, h2⟩ := he; exact h1.elim
  | _ => exact he.elim

end Go.Proofs.Ytdjnhnfofajpcaa.Av
