/- A small evaluator over the model's code, last part: contracts of functions, made of what the evaluator says; math/bits.Add64 and Sub64. -/
import Derived.Test.YtdjnhnfofajpcaaAvc
namespace Go.Proofs.Ytdjnhnfofajpcaa.Av
open Go Go.RowKit

theorem All2.imp {α β : Type} {R S : α → β → Prop} (h : ∀ a b, R a b → S a b) : ∀ {l : List α} {m : List β}, All2 R l m → All2 S l m
  | _, _, .nil => .nil
  | _, _, .cons h1 h2 => .cons (h _ _ h1) (h2.imp h)

/-- What a contract's arguments are in the callee's own state. -/
def own : AV × AV → AV
  | (.sl _ off len cap, .box kd k N) => .gs kd k N off len cap
  | (.ref _ off, .box kd k N) => .gp kd k N off
  | (x, _) => x

theorem own_V {w : World} {x : AV × AV} {v : Value} (h : ArgR w x v) : ArgV w (own x) v := by
  obtain ⟨x, y⟩ := x
  cases x with
  | pv p => exact ⟨rfl, by simp [own], by simp [own], h⟩
  | ref t off => cases y <;> first | exact h.elim | exact ⟨rfl, by simp [own], by simp [own], h⟩
  | sl t off len cap => cases y <;> first | exact h.elim | exact ⟨rfl, by simp [own], by simp [own], h⟩
  | _ => exact h.elim

theorem All2.own {w : World} : ∀ {l : List (AV × AV)} {m : List Value}, All2 (ArgR w) l m → All2 (ArgV w) (l.map Av.own) m
  | _, _, .nil => .nil
  | _, _, .cons h1 h2 => .cons (own_V h1) h2.own

theorem callFunc_enters {f : FuncId} {fn : Func} (hf : PP.funcs[f]? = some fn) (hn : (fn.name == "runtime.NumGoroutine") = false) (hb : fn.body.isNone = false) (args : Array Value) (w : World) :
    (callFunc f args).run PP w = .ok (.enter f args) w := by
  have h1 : fn.name ≠ "runtime.NumGoroutine" := by simpa using hn
  unfold callFunc
  simp [hf, h1]
  intro h
  simp [h] at hb

/-- **A contract out of the evaluator.** -/
theorem Entry.ok_of {e : Entry} {fn : Func} {c : Code} (hf : PP.funcs[e.f]? = some fn) (hn : (fn.name == "runtime.NumGoroutine") = false) (hb : fn.body = some c) {T : List Entry} (hT : TOK T) 
    (h : ∀ args r p, e.sp args = some (r, p) → p → ∀ (w : World) (vs : List Value), All2 (ArgR w) args vs → 
      args.length ≤ fn.ntmps ∧ ∃ dec sp L n, awp T dec sp L n c (fnPost fn.results.toList (fun v => v = r)) (begins (args.map own) fn.ntmps)) : e.OK := by
  intro args r p hsp hp w vs hv
  obtain ⟨hl, dec, sp, L, n, ha⟩ := h args r p hsp hp w vs hv
  refine .inr ⟨callFunc_enters hf hn (by rw [hb]; rfl) _ w, ?_⟩
  refine (calls_sound hT hf hb dec sp L n (args.map own) (fun v => v = r) (by simpa using hl) ha hv.own).mono ?_
  rintro en w' ⟨v, u, rfl, h1, rfl, h2⟩
  exact ⟨u, rfl, h1, h2⟩

/-! ### math/bits.Add64, Sub64 -/

def eAdd64 : Entry := ⟨80, fun
  | [(.pv x, _), (.pv y, _), (.pv z, _)] => match asN x, asN y, asN z with
    | some (.u64, a), some (.u64, b), some (.u64, c) => some (.tup2 (.nat .u64 ((a + b + c) % B)) (.nat .u64 ((a + b + c) / B)), c ≤ 1)
    | _, _, _ => none
  | _ => none⟩
def eSub64 : Entry := ⟨81, fun
  | [(.pv x, _), (.pv y, _), (.pv z, _)] => match asN x, asN y, asN z with
    | some (.u64, a), some (.u64, b), some (.u64, c) => some (.tup2 (.nat .u64 ((a + B - b - c) % B)) (.nat .u64 (if a < b + c then 1 else 0)), c ≤ 1)
    | _, _, _ => none
  | _ => none⟩

theorem run80_0 (a b : Nat) (w : World) : (callFunc 80 #[.int .u64 (a : Int), .int .u64 (b : Int), .int .u64 ((0 : Nat) : Int)]).run PP w =
    .ok (.value (.tuple #[.int .u64 (((a + b + 0) % B : Nat) : Int), .int .u64 (((a + b + 0) / B : Nat) : Int)])) w := by kernel_rfl
theorem run80_1 (a b : Nat) (w : World) : (callFunc 80 #[.int .u64 (a : Int), .int .u64 (b : Int), .int .u64 ((1 : Nat) : Int)]).run PP w =
    .ok (.value (.tuple #[.int .u64 (((a + b + 1) % B : Nat) : Int), .int .u64 (((a + b + 1) / B : Nat) : Int)])) w := by kernel_rfl
theorem run80 (a b c : Nat) (hc : c ≤ 1) (w : World) : (callFunc 80 #[.int .u64 (a : Int), .int .u64 (b : Int), .int .u64 (c : Int)]).run PP w =
    .ok (.value (.tuple #[.int .u64 (((a + b + c) % B : Nat) : Int), .int .u64 (((a + b + c) / B : Nat) : Int)])) w := by
  have h : c = 0 ∨ c = 1 := by omega
  rcases h with rfl | rfl
  · exact run80_0 a b w
  · exact run80_1 a b w
theorem run81_0 (a b : Nat) (w : World) : (callFunc 81 #[.int .u64 (a : Int), .int .u64 (b : Int), .int .u64 ((0 : Nat) : Int)]).run PP w =
    .ok (.value (.tuple #[.int .u64 (((a + B - b - 0) % B : Nat) : Int), .int .u64 (((if a < b + 0 then 1 else 0) : Nat) : Int)])) w := by kernel_rfl
theorem run81_1 (a b : Nat) (w : World) : (callFunc 81 #[.int .u64 (a : Int), .int .u64 (b : Int), .int .u64 ((1 : Nat) : Int)]).run PP w =
    .ok (.value (.tuple #[.int .u64 (((a + B - b - 1) % B : Nat) : Int), .int .u64 (((if a < b + 1 then 1 else 0) : Nat) : Int)])) w := by kernel_rfl
theorem run81 (a b c : Nat) (hc : c ≤ 1) (w : World) : (callFunc 81 #[.int .u64 (a : Int), .int .u64 (b : Int), .int .u64 (c : Int)]).run PP w =
    .ok (.value (.tuple #[.int .u64 (((a + B - b - c) % B : Nat) : Int), .int .u64 (((if a < b + c then 1 else 0) : Nat) : Int)])) w := by
  have h : c = 0 ∨ c = 1 := by omega
  rcases h with rfl | rfl
  · exact run81_0 a b w
  · exact run81_1 a b w

theorem three_args {w : World} {args : List (AV × AV)} {vs : List Value} {x y z : PV} {x' y' z' : AV} (ha : args = [(.pv x, x'), (.pv y, y'), (.pv z, z')]) (h : All2 (ArgR w) args vs) : ∃ a b c, vs = [a, b, c] ∧ x.R a ∧ y.R b ∧ z.R c := by
  subst ha
  cases h with
  | cons h1 h => cases h with
    | cons h2 h => cases h with
      | cons h3 h => cases h; exact ⟨_, _, _, rfl, h1, h2, h3⟩

theorem eAdd64_ok : eAdd64.OK := by
  intro args r p hsp hp w vs hv
  simp only [eAdd64] at hsp
  split at hsp
  · rename_i x x' y y' z z'
    split at hsp
    · rename_i a b c hx hy hz
      simp only [Option.some.injEq, Prod.mk.injEq] at hsp
      obtain ⟨rfl, rfl⟩ := hsp
      obtain ⟨u, v, q, rfl, h1, h2, h3⟩ := three_args rfl hv
      obtain ⟨rfl, _, ha⟩ := asN_R hx h1
      obtain ⟨rfl, _, hb⟩ := asN_R hy h2
      obtain ⟨rfl, _, hc⟩ := asN_R hz h3
      simp only [pw] at ha hb hc
      exact .inl ⟨_, ⟨_, _, rfl, PV.natR rfl (Nat.mod_lt _ (by decide)), PV.natR rfl (by simp only [pw, B]; omega)⟩, run80 a b c hp w⟩
    · simp at hsp
  · simp at hsp

theorem eSub64_ok : eSub64.OK := by
  intro args r p hsp hp w vs hv
  simp only [eSub64] at hsp
  split at hsp
  · rename_i x x' y y' z z'
    split at hsp
    · rename_i a b c hx hy hz
      simp only [Option.some.injEq, Prod.mk.injEq] at hsp
      obtain ⟨rfl, rfl⟩ := hsp
      obtain ⟨u, v, q, rfl, h1, h2, h3⟩ := three_args rfl hv
      obtain ⟨rfl, _, ha⟩ := asN_R hx h1
      obtain ⟨rfl, _, hb⟩ := asN_R hy h2
      obtain ⟨rfl, _, hc⟩ := asN_R hz h3
      exact .inl ⟨_, ⟨_, _, rfl, PV.natR rfl (Nat.mod_lt _ (by decide)), PV.natR rfl (by simp only [pw]; split <;> omega)⟩, run81 a b c hp w⟩
    · simp at hsp
  · simp at hsp

end Go.Proofs.Ytdjnhnfofajpcaa.Av
