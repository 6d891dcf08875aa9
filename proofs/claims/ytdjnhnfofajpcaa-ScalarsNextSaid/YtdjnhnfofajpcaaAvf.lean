/- A small evaluator over the model's code: contracts whose calls are shown by other means, and calls out of the evaluator. -/
import Derived.Test.YtdjnhnfofajpcaaAve
namespace Go.Proofs.Ytdjnhnfofajpcaa.Av
open Go Go.RowKit

/-- A call, out of the evaluator. -/
theorem awp_calls {f : FuncId} {fn : Func} {c : Code} (hf : PP.funcs[f]? = some fn) (hb : fn.body = some c) {T : List Entry} (hT : TOK T) (args : List AV) (hn : args.length ≤ fn.ntmps) {r : AV}
    (h : ∃ dec sp L n, awp T dec sp L n c (fnPost fn.results.toList fun v => retW v r) (begins args fn.ntmps)) {w : World} {vs : List Value} (hv : All2 (ArgV w) args vs) :
    Calls PP f vs.toArray w fun e w' => ∃ u, e = .returned u ∧ r.ret u ∧ Below w.heap.size w w' := by
  obtain ⟨dec, sp, L, n, h⟩ := h
  refine (calls_sound hT hf hb dec sp L n args _ hn h hv).mono ?_
  rintro e w' ⟨v, u, rfl, h1, h2, h3⟩
  exact ⟨u, rfl, retW_ret h2 h1, h3⟩

/-- A contract by its arguments' kinds, its calls shown by whatever means. -/
theorem mk_ok_calls {f : FuncId} {l : List Sg} {g : Fn (AV × Prop) l} {fn : Func} {c : Code} (hf : PP.funcs[f]? = some fn) (hn : (fn.name == "runtime.NumGoroutine") = false) (hb : fn.body = some c)
    (h : Good l g fun ps rp => rp.2 → ∀ (w : World) (vs : List Value), All2 (ArgV w) (ps.map .pv) vs → Calls PP f vs.toArray w fun e w' => ∃ u, e = .returned u ∧ rp.1.ret u ∧ Below w.heap.size w w') : (mk f l g).OK := by
  intro args r p hsp hp w vs hv
  obtain ⟨ps, h1, h2⟩ := take_sound l g args vs (r, p) _ hsp hv h
  exact .inr ⟨callFunc_enters hf hn (by rw [hb]; rfl) _ w, h1 hp w vs h2⟩

/-- A contract's call, at plain values. -/
theorem Entry.OK.calls {e : Entry} (h : e.OK) {args : List (AV × AV)} {r : AV} {p : Prop} (hs : e.sp args = some (r, p)) (hp : p) {fn : Func} (hf : PP.funcs[e.f]? = some fn) (hn : (fn.name == "runtime.NumGoroutine") = false) (hb : fn.body.isNone = false)
    {w : World} {vs : List Value} (hv : All2 (ArgR w) args vs) : Calls PP e.f vs.toArray w fun en w' => ∃ v, en = .returned v ∧ r.ret v ∧ Below w.heap.size w w' := by
  rcases h args r p hs hp w vs hv with ⟨v, _, h2⟩ | ⟨_, h2⟩
  · rw [callFunc_enters hf hn hb] at h2
    simp at h2
  · exact h2
end Go.Proofs.Ytdjnhnfofajpcaa.Av
