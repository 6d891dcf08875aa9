/- A small evaluator over the model's code: contracts by their arguments' kinds. -/
import Derived.Test.YtdjnhnfofajpcaaAvd
namespace Go.Proofs.Ytdjnhnfofajpcaa.Av
open Go Go.RowKit

/-- An argument's kind: a row of k words, an unsigned number, a signed one, a truth. -/
inductive Sg where
  | n (k : Nat)
  | u (kd : IntKind)
  | z (kd : IntKind)
  | b
def Sg.T : Sg → Type
  | .n _ | .u _ => Nat
  | .z _ => Int
  | .b => Bool
def Fn (R : Type) : List Sg → Type
  | [] => R
  | s :: l => s.T → Fn R l

def take : (l : List Sg) → Fn (AV × Prop) l → List (AV × AV) → Option (AV × Prop)
  | [], r, [] => some r
  | [], _, _ :: _ => none
  | _ :: _, _, [] => none
  | .n k :: l, f, (x, _) :: args => match x with
    | .pv (.words .u64 k' N) => if k' = k then take l (f N) args else none
    | _ => none
  | .u kd :: l, f, (x, _) :: args => match x with
    | .pv y => match asN y with
      | some (kd', m) => if kd' = kd then take l (f m) args else none
      | none => none
    | _ => none
  | .z kd :: l, f, (x, _) :: args => match x with
    | .pv y => match asZ y with
      | some (kd', m) => if kd' = kd then take l (f m) args else none
      | none => none
    | _ => none
  | .b :: l, f, (x, _) :: args => match x with
    | .pv y => match asB y with
      | some m => take l (f m) args
      | none => none
    | _ => none

/-- What is to be shown, for all arguments. -/
def Good : (l : List Sg) → Fn (AV × Prop) l → (List PV → AV × Prop → Prop) → Prop
  | [], r, P => P [] r
  | .n k :: l, f, P => ∀ N : Nat, N < B ^ k → Good l (f N) fun ps => P (.words .u64 k N :: ps)
  | .u kd :: l, f, P => ∀ m : Nat, m < pw kd → Good l (f m) fun ps => P (.nat kd m :: ps)
  | .z kd :: l, f, P => ∀ m : Int, inR kd m → Good l (f m) fun ps => P (.int kd m :: ps)
  | .b :: l, f, P => ∀ m : Bool, Good l (f m) fun ps => P (.bool m :: ps)

theorem argV_pv {w : World} {x : PV} {v : Value} (h : x.R v) : ArgV w (.pv x) v := ⟨rfl, by simp, by simp, h⟩

theorem take_sound {w : World} : ∀ (l : List Sg) (f : Fn (AV × Prop) l) (args : List (AV × AV)) (vs : List Value) (r : AV × Prop) (P : List PV → AV × Prop → Prop), take l f args = some r → All2 (ArgR w) args vs → Good l f P →
    ∃ ps, P ps r ∧ All2 (ArgV w) (ps.map .pv) vs
  | [], f, [], vs, r, P, h, hv, hg => by
    cases hv
    have h : f = r := Option.some.inj h
    subst h
    exact ⟨[], hg, .nil⟩
  | [], _, _ :: _, _, _, _, h, _, _ => by simp [take] at h
  | s :: _, _, [], _, _, _, h, _, _ => by cases s <;> simp [take] at h
  | .n k :: l, f, (x, y) :: args, vs, r, P, h, hv, hg => by
    cases hv with
    | cons h1 hv =>
      simp only [take] at h
      split at h
      · rename_i k' N
        split at h
        · rename_i hk
          subst hk
          obtain ⟨ps, h2, h3⟩ := take_sound l (f N) args _ r _ h hv (hg N h1.2.1)
          exact ⟨_, h2, .cons (argV_pv h1) h3⟩
        · simp at h
      · simp at h
  | .u kd :: l, f, (x, y) :: args, vs, r, P, h, hv, hg => by
    cases hv with
    | cons h1 hv =>
      simp only [take] at h
      split at h
      · rename_i q
        split at h
        · rename_i kd' m hq
          split at h
          · rename_i hk
            subst hk
            obtain ⟨rfl, hs, hlt⟩ := asN_R hq h1
            obtain ⟨ps, h2, h3⟩ := take_sound l (f m) args _ r _ h hv (hg m hlt)
            exact ⟨_, h2, .cons (argV_pv (PV.natR hs hlt)) h3⟩
          · simp at h
        · simp at h
      · simp at h
  | .z kd :: l, f, (x, y) :: args, vs, r, P, h, hv, hg => by
    cases hv with
    | cons h1 hv =>
      simp only [take] at h
      split at h
      · rename_i q
        split at h
        · rename_i kd' m hq
          split at h
          · rename_i hk
            subst hk
            obtain ⟨rfl, hr, hs⟩ := asZ_R hq h1
            obtain ⟨ps, h2, h3⟩ := take_sound l (f m) args _ r _ h hv (hg m hr)
            exact ⟨_, h2, .cons (argV_pv ⟨rfl, hr⟩) h3⟩
          · simp at h
        · simp at h
      · simp at h
  | .b :: l, f, (x, y) :: args, vs, r, P, h, hv, hg => by
    cases hv with
    | cons h1 hv =>
      simp only [take] at h
      split at h
      · rename_i q
        split at h
        · rename_i m hq
          have := asB_R hq h1
          subst this
          obtain ⟨ps, h2, h3⟩ := take_sound l (f m) args _ r _ h hv (hg m)
          exact ⟨_, h2, .cons (argV_pv rfl) h3⟩
        · simp at h
      · simp at h

/-- What is handed back is what the contract says. -/
def retW (v r : AV) : Prop :=
  match r with
  | .pv b => match v with
    | .pv a => a.weak b
    | _ => False
  | .tup2 c d => match v with
    | .tup2 a b => a.weak c ∧ b.weak d
    | _ => False
  | .tup3 d e f => match v with
    | .tup3 a b c => a.weak d ∧ b.weak e ∧ c.weak f
    | _ => False
  | _ => False

theorem retW_ret {v r : AV} (h : retW v r) {u : Value} (hv : v.ret u) : r.ret u := by
  unfold retW at h
  split at h
  · split at h
    · exact PV.weak_R h hv
    · exact h.elim
  · split at h
    · obtain ⟨a, b, h1, h2, h3⟩ := hv
      exact ⟨a, b, h1, PV.weak_R h.1 h2, PV.weak_R h.2 h3⟩
    · exact h.elim
  · split at h
    · obtain ⟨a, b, c, h1, h2, h3, h4⟩ := hv
      exact ⟨a, b, c, h1, PV.weak_R h.1 h2, PV.weak_R h.2.1 h3, PV.weak_R h.2.2 h4⟩
    · exact h.elim
  · exact h.elim

/-- A contract by its arguments' kinds. -/
def mk (f : FuncId) (l : List Sg) (g : Fn (AV × Prop) l) : Entry := ⟨f, take l g⟩

theorem mk_ok {f : FuncId} {l : List Sg} {g : Fn (AV × Prop) l} {fn : Func} {c : Code} (hf : PP.funcs[f]? = some fn) (hn : (fn.name == "runtime.NumGoroutine") = false) (hb : fn.body = some c) {T : List Entry} (hT : TOK T) (hl : l.length ≤ fn.ntmps)
    (h : Good l g fun ps rp => rp.2 → ∃ dec sp L n, awp T dec sp L n c (fnPost fn.results.toList fun v => retW v rp.1) (begins (ps.map .pv) fn.ntmps)) : (mk f l g).OK := by
  intro args r p hsp hp w vs hv
  have hlen : ∀ (l : List Sg) (g : Fn (AV × Prop) l) (args : List (AV × AV)) (r : AV × Prop), take l g args = some r → args.length = l.length := by
    intro l
    induction l with
    | nil => intro g args r h; cases args <;> simp [take] at h ⊢
    | cons s l ih =>
      intro g args r h
      cases args with
      | nil => cases s <;> simp [take] at h
      | cons x args =>
        obtain ⟨x, y⟩ := x
        cases s <;> simp only [take] at h <;> split at h <;> first
          | (simp at h; done)
          | (split at h <;> first
            | (simp at h; done)
            | (simp [ih _ _ _ h]; done)
            | (split at h <;> first
              | (simp at h; done)
              | (simp [ih _ _ _ h]; done)))
  obtain ⟨ps, h1, h2⟩ := take_sound l g args vs (r, p) _ hsp hv h
  have hps : ps.length ≤ fn.ntmps := by
    have e1 := hlen l g args (r, p) hsp
    have e2 : ∀ {l : List AV} {m : List Value}, All2 (ArgV w) l m → l.length = m.length := by
      intro l m h; induction h with
      | nil => rfl
      | cons _ _ ih => simp [ih]
    have e3 : ∀ {l : List (AV × AV)} {m : List Value}, All2 (ArgR w) l m → l.length = m.length := by
      intro l m h; induction h with
      | nil => rfl
      | cons _ _ ih => simp [ih]
    have e4 := e2 h2
    have e5 := e3 hv
    simp only [List.length_map] at e4
    omega
  obtain ⟨dec, sp, L, n, ha⟩ := h1 hp
  refine .inr ⟨callFunc_enters hf hn (by rw [hb]; rfl) _ w, ?_⟩
  refine (calls_sound hT hf hb dec sp L n (ps.map .pv) (fun v => retW v r) (by simpa using hps) ha h2).mono ?_
  rintro en w' ⟨v, u, rfl, g1, g3, g2⟩
  exact ⟨u, rfl, retW_ret g3 g1, g2⟩

/-- The cases of 'retW' that come up. -/
theorem rw_words {k N N' : Nat} (h : N = N') : retW (.pv (.words .u64 k N)) (.pv (.words .u64 k N')) := by simp [retW, PV.weak, h]
theorem rw_nat {kd : IntKind} {n n' : Nat} (h : n = n') : retW (.pv (.nat kd n)) (.pv (.nat kd n')) := by simp [retW, PV.weak, h]
theorem rw_int {kd : IntKind} {z z' : Int} (h : z = z') : retW (.pv (.int kd z)) (.pv (.int kd z')) := by simp [retW, PV.weak, h]
theorem rw_lit {kd : IntKind} {z z' : Int} (h : z = z') : retW (.pv (.lit kd z)) (.pv (.int kd z')) := by simp [retW, PV.weak, h]
theorem rw_litn {n : Int} {n' : Nat} (h : n.toNat = n') : retW (.pv (.lit .u64 n)) (.pv (.nat .u64 n')) := by simp [retW, PV.weak, h, IntKind.signed]
theorem rw_bool {b b' : Bool} (h : b = b') : retW (.pv (.bool b)) (.pv (.bool b')) := h
theorem rw_blit {b b' : Bool} (h : b = b') : retW (.pv (.blit b)) (.pv (.bool b')) := h
theorem rw_2 {a b c d : PV} (h1 : retW (.pv a) (.pv c)) (h2 : retW (.pv b) (.pv d)) : retW (.tup2 a b) (.tup2 c d) := ⟨h1, h2⟩
theorem rw_3 {a b c d e f : PV} (h1 : retW (.pv a) (.pv d)) (h2 : retW (.pv b) (.pv e)) (h3 : retW (.pv c) (.pv f)) : retW (.tup3 a b c) (.tup3 d e f) := ⟨h1, h2, h3⟩

theorem ai {p q : Prop} (a : p) (b : q) : p ∧ q := ⟨a, b⟩
theorem tr : True := trivial
theorem t2 : True ∧ True := ⟨trivial, trivial⟩

end Go.Proofs.Ytdjnhnfofajpcaa.Av
