/- Rows: arguments that are rows of numbers come as one natural number each; a call that lays new memory only, and hands back 'true', meets its row. -/
import Derived.Test.YtdjnhnfofajpcaaRows
import Derived.Test.YtdjnhnfofajpcaaAve
import Derived.ProofKit
import Derived.OpenShut
namespace Go.Proofs.Ytdjnhnfofajpcaa
open Go Go.ChangeShapes Go.WideShapes Go.ChangeAt Go.RowKit Av

theorem Try.own : ownKnob Try.prog.godebug = none := by kernel_rfl
theorem Try.laidOut : laidOutB Try.prog = true := by kernel_rfl

/-- A type whose values are k numbers of one kind, and no memory. -/
def Flat (P : Program) (t : TypeId) (kd : IntKind) (k : Nat) : Prop :=
  ∀ {H : Type} (enc : TypeId × Value → H) (w : World) (base : Nat) (sp : Nat → Bool) (held : Bool) (fuel : Nat) (cs : List Value) (x : DataW H × List MemPlace),
    DataW.trod enc P w base sp held fuel t cs = some x → cs.length = k ∧ (∀ c ∈ cs, ∃ n : Nat, c = .int kd (n : Int) ∧ n < 2 ^ kd.bits) ∧ x.2 = []

variable {P : Program}
theorem wf_nat {kd : IntKind} (hs : kd.signed = false) {n : Int} (h : (Lit.int kd n).wf = true) : ∃ m : Nat, n = m ∧ m < 2 ^ kd.bits := by
  simp only [Lit.wf, Bool.and_eq_true, decide_eq_true_eq] at h
  refine ⟨n.toNat, ?_, ?_⟩ <;> cases kd <;> simp [IntKind.signed] at hs <;> simp [IntKind.min, IntKind.max, IntKind.signed, IntKind.bits] at * <;> omega

theorem flat_int {t : TypeId} {kd : IntKind} (hs : kd.signed = false) (ht : P.underlying t = some (.int kd)) : Flat P t kd 1 := by
  intro H enc w base sp held fuel cs x h
  obtain ⟨n, rfl, rfl, hw⟩ := DataW.trod_int ht h
  obtain ⟨m, rfl, hm⟩ := wf_nat hs hw
  exact ⟨rfl, fun c hc => ⟨m, by simpa using hc, hm⟩, rfl⟩

theorem flat_array {t e : TypeId} {kd : IntKind} {n k : Nat} (ht : P.underlying t = some (.array n e)) (he : Flat P e kd k) (hce : P.cellsOf e = k) (hct : P.cellsOf t = n * k) (hk : 0 < k) : Flat P t kd (n * k) := by
  intro H enc w base sp held fuel cs x h
  obtain ⟨xs, m, rfl, rfl, hl, hn, hi⟩ := DataW.trod_array ht h
  rw [hct] at hl
  rw [hce] at hi
  refine ⟨hl, fun c hc => ?_, ?_⟩
  · obtain ⟨j, hj, rfl⟩ := List.mem_iff_getElem.1 hc
    have hjn : j / k < n := by rw [Nat.div_lt_iff_lt_mul hk]; omega
    have hx : j / k < xs.length := by omega
    have h1 := hi (j / k) hjn
    rw [List.getElem?_eq_getElem hx] at h1
    obtain ⟨h2, h3, _⟩ := he enc w base sp held m _ _ h1
    refine h3 _ ?_
    have h4 : ((cs.drop (j / k * k)).take k)[j % k]? = some cs[j] := by
      rw [List.getElem?_take, if_pos (Nat.mod_lt _ hk), List.getElem?_drop, show j / k * k + j % k = j by rw [Nat.mul_comm]; exact Nat.div_add_mod j k, List.getElem?_eq_getElem hj]
    exact List.mem_of_getElem? h4
  · rw [List.flatMap_eq_nil_iff]
    intro y hy
    obtain ⟨i, hi', rfl⟩ := List.mem_iff_getElem.1 hy
    have h1 := hi i (by omega)
    rw [List.getElem?_eq_getElem hi'] at h1
    exact (he enc w base sp held m _ _ h1).2.2

/-- Numbers in a row are one number. -/
theorem cells_of {kd : IntKind} (hb : 2 ^ kd.bits ≤ B) : ∀ (cs : List Value), (∀ c ∈ cs, ∃ n : Nat, c = .int kd (n : Int) ∧ n < 2 ^ kd.bits) →
    ∃ N, cs = (cells kd cs.length N).toList ∧ WF kd cs.length N
  | [], _ => ⟨0, by simp [cells], by simp [WF]⟩
  | c :: cs, h => by
    obtain ⟨n, rfl, hn⟩ := h c (by simp)
    obtain ⟨N, h1, h2, h3⟩ := cells_of hb cs fun d hd => h d (by simp [hd])
    have hnB : n < B := Nat.lt_of_lt_of_le hn hb
    have dig : ∀ i, (n + B * N) / B ^ (i + 1) % B = N / B ^ i % B := by
      intro i
      rw [Nat.pow_succ, Nat.mul_comm (B ^ i) B, ← Nat.div_div_eq_div_mul, Nat.add_mul_div_left _ _ (show 0 < B by decide), Nat.div_eq_of_lt hnB, Nat.zero_add]
    have dig0 : (n + B * N) / B ^ 0 % B = n := by
      rw [Nat.pow_zero, Nat.div_one, Nat.add_mul_mod_self_left, Nat.mod_eq_of_lt hnB]
    refine ⟨n + B * N, ?_, ?_, ?_⟩
    · apply List.ext_getElem?
      intro i
      cases i with
      | zero =>
        rw [List.getElem?_cons_zero, Array.getElem?_toList, cells_get _ _ _ _ (by simp), dig0]
      | succ i =>
        rw [List.getElem?_cons_succ]
        by_cases hi : i < cs.length
        · have e : (cells kd (Value.int kd (n : Int) :: cs).length (n + B * N)).toList[i + 1]? = some (.int kd ((N / B ^ i % B : Nat) : Int)) := by
            rw [Array.getElem?_toList, cells_get _ _ _ _ (by simpa using hi), dig]
          rw [e]
          have this : cs[i]? = (cells kd cs.length N).toList[i]? := congrArg (fun l : List Value => l[i]?) h1
          rw [this, Array.getElem?_toList, cells_get _ _ _ _ hi]
        · rw [List.getElem?_eq_none (by omega), List.getElem?_eq_none (by rw [Array.length_toList, cells_size, List.length_cons]; omega)]
    · rw [List.length_cons, Nat.pow_succ]
      have := Nat.mul_le_mul_left B (show N + 1 ≤ B ^ cs.length from h2)
      rw [Nat.mul_comm (B ^ cs.length) B]
      rw [Nat.mul_add] at this
      omega
    · intro i hi
      cases i with
      | zero => rw [dig0]; exact hn
      | succ i => rw [dig]; exact h3 i (by simpa using hi)

theorem agg_of {t : TypeId} {w : World} {r : Reach} {base : Nat} {v : Value} (ht : (∃ n e, P.underlying t = some (.array n e)) ∨ ∃ fs, P.underlying t = some (.struct fs)) (h : Value.okWide P w r base t v) : ∃ cs, v = .agg cs := by
  unfold Value.okWide at h
  rcases ht with ⟨n, e, ht⟩ | ⟨fs, ht⟩ <;> rw [ht] at h <;> obtain ⟨cs, h, _⟩ := h <;> exact ⟨cs, h⟩

/-- **An argument that is a row of numbers.** -/
theorem flat_open {t : TypeId} {kd : IntKind} {k : Nat} (hb : 2 ^ kd.bits ≤ B) (hf : Flat P t kd k) (ht : (∃ n e, P.underlying t = some (.array n e)) ∨ ∃ fs, P.underlying t = some (.struct fs)) {w w0 : World} {r : Reach} {base b0 : Nat} {v : Value}
    (hv : Value.okWide P w r base t v) {H : Type} {enc : TypeId × Value → H} {sp : Nat → Bool} {held : Bool} {d : DataW H} {ps : List MemPlace} (hd : DataW.Trod enc P w0 b0 sp held t v d ps) :
    ∃ N, v = .agg (cells kd k N) ∧ WF kd k N ∧ ps = [] := by
  obtain ⟨cs, rfl⟩ := agg_of ht hv
  obtain ⟨fuel, hd⟩ := hd
  obtain ⟨h1, h2, h3⟩ := hf enc w0 b0 sp held fuel _ _ hd
  obtain ⟨N, h4, h5⟩ := cells_of hb _ h2
  simp only [Value.cells] at h1 h4 h5
  rw [h1] at h4 h5
  refine ⟨N, ?_, h5, h3⟩
  congr 1
  exact Array.toList_inj.1 h4

/-- An argument that is one number. -/
theorem openInt {t : TypeId} {kd : IntKind} (ht : P.underlying t = some (.int kd)) {w w0 : World} {r : Reach} {base b0 : Nat} {v : Value} (hv : Value.okWide P w r base t v) {H : Type} {enc : TypeId × Value → H} {sp : Nat → Bool} {held : Bool} {d : DataW H} {ps : List MemPlace} (hd : DataW.Trod enc P w0 b0 sp held t v d ps) :
    ∃ n, v = .int kd n ∧ kd.min ≤ n ∧ n ≤ kd.max ∧ ps = [] := by
  obtain ⟨n, rfl⟩ := okWide_int ht hv
  obtain ⟨fuel, hd⟩ := hd
  obtain ⟨m, h1, h2, h3⟩ := DataW.trod_int ht hd
  simp only [Prod.mk.injEq] at h2
  simp [Value.cells] at h1
  subst h1
  simp only [Lit.wf, Bool.and_eq_true, decide_eq_true_eq] at h3
  exact ⟨n, rfl, h3.1, h3.2, h2.2⟩

/-- **The row's end:** nothing that was there is touched, 'true' comes back. -/
theorem post_true {f : Func} {s : ChangeSpec} {apart fresh handsOn again : Bool} {W W' : World} {args : Array Value} {H : Type} {enc : TypeId × Value → H} {ds : List (DataW H)} 
    (hW : DataW.Whole enc P f.params.toList s.vars apart W args.toList ds [] []) (hlo : laidOutB P = true) (h4 : P.underlying 4 = some .bool) (hT : DataW.TrodAll enc P W 0 (fun _ => true) true f.params.toList args.toList ds [])
    (hp : ∀ t ∈ f.params.toList, P.readableRec t = true ∧ t < P.types.size) (hf : f.resultTypes = #[4]) (hv : s.vars = [])
    (hs : s.fn H (ds ++ []) = { results := [.lit (.bool true)], args := ds }) (hb : Below W.heap.size W W') : s.post enc P f apart fresh handsOn again W args (Value.bool true) W' := by
  have key : ∀ (W' : World) (sp : Nat → Bool) (ts : List TypeId) (vs : List Value) (es : List (DataW H)), (∀ t ∈ ts, P.readableRec t = true ∧ t < P.types.size) → DataW.TrodAll enc P W 0 (fun _ => true) true ts vs es [] →
      DataW.TrodAll enc P W' 0 sp true ts vs es [] := by
    intro W' sp ts
    induction ts with
    | nil => intro vs es _ h; cases vs <;> cases es <;> first | exact h | exact h.elim
    | cons t ts ih =>
      intro vs es hts h
      cases vs with
      | nil => cases es <;> exact h.elim
      | cons v vs =>
        cases es with
        | nil => exact h.elim
        | cons e es =>
          obtain ⟨p, q, h1, h2, h3⟩ := h
          obtain ⟨rfl, rfl⟩ : p = [] ∧ q = [] := by simpa using h3.symm
          exact ⟨[], [], WideElems.Trod_stays hlo (hts t (by simp)).1 (hts t (by simp)).2 h1 (fun _ hx => by cases hx) (fun _ hx => by cases hx), ih vs es (fun u hu => hts u (by simp [hu])) h2, rfl⟩
  have res : ∀ (b : Nat) (sp : Nat → Bool) (hd : Bool), DataW.TrodAll enc P W' b sp hd f.resultTypes.toList ((Value.bool true).resultList f.resultTypes.size) (s.fn H (ds ++ [])).results [] := by
    intro b sp hd
    rw [hs, hf]
    exact trodAll_mk1 (shut_bool h4 true)
  have ar : ∀ sp : Nat → Bool, DataW.TrodAll enc P W' 0 sp true f.params.toList args.toList (s.fn H (ds ++ [])).args [] := by
    intro sp
    rw [hs]
    exact key W' sp _ _ _ hp hT
  have va : ∀ sp : Nat → Bool, DataW.TrodVars enc P W' sp s.vars (s.fn H (ds ++ [])).vars [] := by
    intro sp
    rw [hs, hv]
    rfl
  have ok : ∀ (j : Nat) (t : TypeId) (r : Value), f.resultTypes[j]? = some t → ((Value.bool true).resultList f.resultTypes.size)[j]? = some r → Value.okWide P W' .any 0 t r := by
    intro j t r h1 h2
    rw [hf] at h1 h2
    cases j with
    | zero =>
      simp at h1
      subst h1
      have : r = .bool true := by simpa [Value.resultList] using h2.symm
      subst this
      exact okWide_bool_mk h4 true
    | succ j => simp at h1
  refine ⟨ds, [], [], [], [], [], hW, res _ _ _, ar _, va _, World.keptBut_mono (fun p hp => absurd hp (by simp)) (hb.frame (fun _ => False)), fun _ => ?_⟩
  obtain ⟨_, _, _, _, _, hz, hn⟩ := hW
  exact ⟨ok, _, _, [] ++ [] ++ [], ⟨[] ++ [], [], trodAll_append (ar _) (res _ _ _), va _, rfl, fun b off hp => absurd hp (by simp), fun ha => by simp⟩, fun p hp _ => hp⟩
theorem u22 : PP.underlying 22 = some (.int .u64) := by kernel_rfl
theorem u55 : PP.underlying 55 = some (.int .u32) := by kernel_rfl
theorem u24 : PP.underlying 24 = some (.array 4 22) := by kernel_rfl
theorem u36 : PP.underlying 36 = some (.array 3 24) := by kernel_rfl
theorem u52 : PP.underlying 52 = some (.array 4 24) := by kernel_rfl
theorem u59 : PP.underlying 59 = some (.array 2 24) := by kernel_rfl
theorem u60 : PP.underlying 60 = some (.array 2 55) := by kernel_rfl
theorem u63 : PP.underlying 63 = some (.array 2 22) := by kernel_rfl
theorem u4 : PP.underlying 4 = some .bool := by kernel_rfl
theorem u3 : PP.underlying 3 = some (.int .i64) := by kernel_rfl
theorem u5 : PP.underlying 5 = some (.int .u8) := by kernel_rfl
theorem u2 : PP.underlying 2 = some (.int .i64) := by kernel_rfl
theorem u21 : PP.underlying 21 = some (.int .i32) := by kernel_rfl

theorem flat24 : Flat PP 24 .u64 4 := flat_array u24 (flat_int rfl u22) (by kernel_rfl) (by kernel_rfl) (by decide)
theorem flat36 : Flat PP 36 .u64 12 := flat_array u36 flat24 (by kernel_rfl) (by kernel_rfl) (by decide)
theorem flat52 : Flat PP 52 .u64 16 := flat_array u52 flat24 (by kernel_rfl) (by kernel_rfl) (by decide)
theorem flat59 : Flat PP 59 .u64 8 := flat_array u59 flat24 (by kernel_rfl) (by kernel_rfl) (by decide)
theorem flat60 : Flat PP 60 .u32 2 := flat_array u60 (flat_int rfl u55) (by kernel_rfl) (by kernel_rfl) (by decide)
theorem flat63 : Flat PP 63 .u64 2 := flat_array u63 (flat_int rfl u22) (by kernel_rfl) (by kernel_rfl) (by decide)

set_option maxRecDepth 100000 in
theorem open24 {w w0 : World} {r : Reach} {base b0 : Nat} {v : Value} (hv : Value.okWide PP w r base 24 v) {H : Type} {enc : TypeId × Value → H} {sp : Nat → Bool} {held : Bool} {d : DataW H} {ps : List MemPlace} (hd : DataW.Trod enc PP w0 b0 sp held 24 v d ps) :
    ∃ N, v = .agg (cells .u64 4 N) ∧ WF .u64 4 N ∧ ps = [] := flat_open (by decide) flat24 (.inl ⟨_, _, u24⟩) hv hd
set_option maxRecDepth 100000 in
theorem open36 {w w0 : World} {r : Reach} {base b0 : Nat} {v : Value} (hv : Value.okWide PP w r base 36 v) {H : Type} {enc : TypeId × Value → H} {sp : Nat → Bool} {held : Bool} {d : DataW H} {ps : List MemPlace} (hd : DataW.Trod enc PP w0 b0 sp held 36 v d ps) :
    ∃ N, v = .agg (cells .u64 12 N) ∧ WF .u64 12 N ∧ ps = [] := flat_open (by decide) flat36 (.inl ⟨_, _, u36⟩) hv hd
set_option maxRecDepth 100000 in
theorem open52 {w w0 : World} {r : Reach} {base b0 : Nat} {v : Value} (hv : Value.okWide PP w r base 52 v) {H : Type} {enc : TypeId × Value → H} {sp : Nat → Bool} {held : Bool} {d : DataW H} {ps : List MemPlace} (hd : DataW.Trod enc PP w0 b0 sp held 52 v d ps) :
    ∃ N, v = .agg (cells .u64 16 N) ∧ WF .u64 16 N ∧ ps = [] := flat_open (by decide) flat52 (.inl ⟨_, _, u52⟩) hv hd
set_option maxRecDepth 100000 in
theorem open59 {w w0 : World} {r : Reach} {base b0 : Nat} {v : Value} (hv : Value.okWide PP w r base 59 v) {H : Type} {enc : TypeId × Value → H} {sp : Nat → Bool} {held : Bool} {d : DataW H} {ps : List MemPlace} (hd : DataW.Trod enc PP w0 b0 sp held 59 v d ps) :
    ∃ N, v = .agg (cells .u64 8 N) ∧ WF .u64 8 N ∧ ps = [] := flat_open (by decide) flat59 (.inl ⟨_, _, u59⟩) hv hd
set_option maxRecDepth 100000 in
theorem open60 {w w0 : World} {r : Reach} {base b0 : Nat} {v : Value} (hv : Value.okWide PP w r base 60 v) {H : Type} {enc : TypeId × Value → H} {sp : Nat → Bool} {held : Bool} {d : DataW H} {ps : List MemPlace} (hd : DataW.Trod enc PP w0 b0 sp held 60 v d ps) :
    ∃ N, v = .agg (cells .u32 2 N) ∧ WF .u32 2 N ∧ ps = [] := flat_open (by decide) flat60 (.inl ⟨_, _, u60⟩) hv hd
set_option maxRecDepth 100000 in
theorem open63 {w w0 : World} {r : Reach} {base b0 : Nat} {v : Value} (hv : Value.okWide PP w r base 63 v) {H : Type} {enc : TypeId × Value → H} {sp : Nat → Bool} {held : Bool} {d : DataW H} {ps : List MemPlace} (hd : DataW.Trod enc PP w0 b0 sp held 63 v d ps) :
    ∃ N, v = .agg (cells .u64 2 N) ∧ WF .u64 2 N ∧ ps = [] := flat_open (by decide) flat63 (.inl ⟨_, _, u63⟩) hv hd


theorem and_t {a b : Bool} (h : a = true) (k : b = true) : (a && b) = true := by rw [h, k]; rfl
/-! Closed facts on the program, asked once. -/
/-- The line at the head of the translation, sign by sign. -/
def ioChars : List Char := ([104, 97, 114, 110, 101, 115, 115, 32, 50, 50, 50, 99, 48, 102, 102, 48, 49, 57, 98, 102, 55, 48, 50, 100, 101, 102, 48, 57, 101, 48, 99, 56, 100, 49, 54, 50, 99, 99, 51, 102, 52, 56, 53, 98, 99, 49, 98, 99, 50, 51, 56, 51, 51, 99, 54, 57, 99, 52, 57, 51, 55, 99, 54, 56, 50, 51, 97, 101, 99, 55, 97, 50, 32, 99, 117, 116, 32, 97, 116, 32, 98, 97, 108, 101, 102, 105, 114, 101, 47, 98, 97, 108, 101, 102, 105, 114, 101, 108, 97, 119, 48, 50, 46, 76, 105, 109, 98, 115, 79, 102, 32, 98, 97, 108, 101, 102, 105, 114, 101, 47, 98, 97, 108, 101, 102, 105, 114, 101, 108, 97, 119, 48, 50, 46, 76, 105, 109, 98, 115, 83, 117, 109, 115, 32, 98, 97, 108, 101, 102, 105, 114, 101, 47, 98, 97, 108, 101, 102, 105, 114, 101, 108, 97, 119, 48, 50, 46, 76, 105, 109, 98, 115, 80, 114, 111, 100, 117, 99, 116, 115, 32, 98, 97, 108, 101, 102, 105, 114, 101, 47, 98, 97, 108, 101, 102, 105, 114, 101, 108, 97, 119, 48, 50, 46, 76, 105, 109, 98, 115, 83, 104, 105, 102, 116, 32, 98, 97, 108, 101, 102, 105, 114, 101, 47, 98, 97, 108, 101, 102, 105, 114, 101, 108, 97, 119, 48, 50, 46, 76, 105, 109, 98, 115, 66, 105, 116, 115, 32, 98, 97, 108, 101, 102, 105, 114, 101, 47, 98, 97, 108, 101, 102, 105, 114, 101, 108, 97, 119, 48, 50, 46, 76, 105, 109, 98, 115, 79, 114, 100, 101, 114, 32, 98, 97, 108, 101, 102, 105, 114, 101, 47, 98, 97, 108, 101, 102, 105, 114, 101, 108, 97, 119, 48, 57, 46, 83, 99, 97, 108, 97, 114, 115, 85, 110, 100, 111, 32, 98, 97, 108, 101, 102, 105, 114, 101, 47, 98, 97, 108, 101, 102, 105, 114, 101, 108, 97, 119, 48, 50, 46, 76, 105, 109, 98, 115, 80, 97, 114, 116, 115, 32, 98, 97, 108, 101, 102, 105, 114, 101, 47, 98, 97, 108, 101, 102, 105, 114, 101, 108, 97, 119, 48, 51, 46, 68, 105, 118, 105, 100, 101, 115, 79, 102, 32, 98, 97, 108, 101, 102, 105, 114, 101, 47, 98, 97, 108, 101, 102, 105, 114, 101, 108, 97, 119, 48, 57, 46, 83, 99, 97, 108, 97, 114, 115, 80, 97, 114, 116, 115, 32, 98, 97, 108, 101, 102, 105, 114, 101, 47, 98, 97, 108, 101, 102, 105, 114, 101, 108, 97, 119, 48, 51, 46, 68, 105, 118, 105, 100, 101, 115, 67, 111, 109, 109, 111, 110, 32, 98, 97, 108, 101, 102, 105, 114, 101, 47, 98, 97, 108, 101, 102, 105, 114, 101, 108, 97, 119, 48, 51, 46, 68, 105, 118, 105, 100, 101, 115, 65, 103, 97, 105, 110, 32, 98, 97, 108, 101, 102, 105, 114, 101, 47, 98, 97, 108, 101, 102, 105, 114, 101, 108, 97, 119, 48, 51, 46, 68, 105, 118, 105, 100, 101, 115, 80, 111, 119, 101, 114, 32, 98, 97, 108, 101, 102, 105, 114, 101, 47, 98, 97, 108, 101, 102, 105, 114, 101, 108, 97, 119, 48, 51, 46, 68, 105, 118, 105, 100, 101, 115, 87, 105, 100, 101, 32, 98, 97, 108, 101, 102, 105, 114, 101, 47, 98, 97, 108, 101, 102, 105, 114, 101, 108, 97, 119, 48, 51, 46, 68, 105, 118, 105, 100, 101, 115, 84, 105, 109, 101, 115, 32, 98, 97, 108, 101, 102, 105, 114, 101, 47, 98, 97, 108, 101, 102, 105, 114, 101, 108, 97, 119, 48, 51, 46, 68, 105, 118, 105, 100, 101, 115, 84, 119, 105, 99, 101, 32, 98, 97, 108, 101, 102, 105, 114, 101, 47, 98, 97, 108, 101, 102, 105, 114, 101, 108, 97, 119, 48, 51, 46, 68, 105, 118, 105, 100, 101, 115, 66, 97, 99, 107, 32, 98, 97, 108, 101, 102, 105, 114, 101, 47, 98, 97, 108, 101, 102, 105, 114, 101, 108, 97, 119, 48, 52, 46, 77, 111, 100, 115, 79, 102, 32, 98, 97, 108, 101, 102, 105, 114, 101, 47, 98, 97, 108, 101, 102, 105, 114, 101, 108, 97, 119, 48, 52, 46, 77, 111, 100, 115, 76, 97, 119, 115, 32, 98, 97, 108, 101, 102, 105, 114, 101, 47, 98, 97, 108, 101, 102, 105, 114, 101, 108, 97, 119, 48, 52, 46, 77, 111, 100, 115, 87, 104, 111, 108, 101, 32, 98, 97, 108, 101, 102, 105, 114, 101, 47, 98, 97, 108, 101, 102, 105, 114, 101, 108, 97, 119, 48, 52, 46, 77, 111, 100, 115, 80, 111, 119, 101, 114, 115, 32, 98, 97, 108, 101, 102, 105, 114, 101, 47, 98, 97, 108, 101, 102, 105, 114, 101, 108, 97, 119, 48, 52, 46, 77, 111, 100, 115, 73, 110, 118, 101, 114, 115, 101, 32, 98, 97, 108, 101, 102, 105, 114, 101, 47, 98, 97, 108, 101, 102, 105, 114, 101, 108, 97, 119, 48, 52, 46, 77, 111, 100, 115, 82, 101, 102, 117, 115, 101, 32, 98, 97, 108, 101, 102, 105, 114, 101, 47, 98, 97, 108, 101, 102, 105, 114, 101, 108, 97, 119, 48, 52, 46, 77, 111, 100, 115, 84, 119, 111, 32, 98, 97, 108, 101, 102, 105, 114, 101, 47, 98, 97, 108, 101, 102, 105, 114, 101, 108, 97, 119, 48, 57, 46, 83, 99, 97, 108, 97, 114, 115, 79, 102, 32, 98, 97, 108, 101, 102, 105, 114, 101, 47, 98, 97, 108, 101, 102, 105, 114, 101, 108, 97, 119, 48, 57, 46, 83, 99, 97, 108, 97, 114, 115, 87, 104, 111, 108, 101, 32, 98, 97, 108, 101, 102, 105, 114, 101, 47, 98, 97, 108, 101, 102, 105, 114, 101, 108, 97, 119, 48, 57, 46, 83, 99, 97, 108, 97, 114, 115, 78, 101, 120, 116] : List Nat).map Char.ofNat
theorem io : Try.prog.initOrder.toList = ioChars := by
  have h : Try.prog.initOrder = String.ofList ioChars := by kernel_rfl
  rw [h, String.toList_ofList]
theorem kinds_ok {k X : List (Option IntKind)} {d : Bool} (hk : k = []) (hd : d = true) : (k == (if d = true then [] else X)) = true := by rw [if_pos hd, hk]; rfl
def ioRest : List (List Char) := (behindMainWord (wordsSigns ioChars)).tail
theorem io_words : behindMainWord (wordsSigns Try.prog.initOrder.toList) = "cut".toList :: ioRest := by rw [io]; kernel_rfl
theorem io_strip (r : List (List Char)) : stripLifts liftWords ("cut".toList :: r) = ([], "cut".toList :: r) := by kernel_rfl
theorem mayEnter_ok (P : Program) (r : List (List Char)) (h : behindMainWord (wordsSigns P.initOrder.toList) = "cut".toList :: r) (h1 : P.laysLater = false) (h2 : P.bearsReflect = false) (h3 : P.doorFits [] = true) : P.mayEnter = true := by
  unfold Program.mayEnter
  rw [h]
  simp only [io_strip, h1, h2, h3]
  simp
theorem lifts_ok (P : Program) (r : List (List Char)) (h : behindMainWord (wordsSigns P.initOrder.toList) = "cut".toList :: r) : P.headLifts = [] := by
  unfold Program.headLifts
  rw [h]
  simp only [io_strip]
  simp
theorem final_ok (P : Program) (r : List (List Char)) (h : behindMainWord (wordsSigns P.initOrder.toList) = "cut".toList :: r) : P.liftsFinal = false := by
  unfold Program.liftsFinal
  rw [lifts_ok P r h, h]
  simp
theorem make_ok (P : Program) (r : List (List Char)) (h : behindMainWord (wordsSigns P.initOrder.toList) = "cut".toList :: r) : P.make = some .cut := by
  unfold Program.make
  rw [h]
  simp
theorem pfact1 : (laidOutB Try.prog) = true := by kernel_rfl
theorem pfact2 : (mapsRowed Try.prog) = true := by kernel_rfl
theorem pfact6 : ((Try.prog.stops == [])) = true := by kernel_rfl
theorem pfact8 : ((Try.prog.stopKnobs == [])) = true := by kernel_rfl
theorem pfact24 : (Try.prog.stopsHeard) = true := by kernel_rfl
theorem pfact25 : (Try.prog.mayEnter) = true := mayEnter_ok _ _ io_words (by kernel_rfl) (by kernel_rfl) (by kernel_rfl)

/-- A law's call, out of the evaluator. -/
theorem law_calls {f : FuncId} {fn : Func} {c : Code} (hf : PP.funcs[f]? = some fn) (hb : fn.body = some c) {T : List Entry} (hT : TOK T) (args : List AV) (hn : args.length ≤ fn.ntmps)
    (h : ∃ dec sp L n, awp T dec sp L n c (fnPost fn.results.toList fun v => retW v (.pv (.bool true))) (begins args fn.ntmps)) {w : World} {vs : List Value} (hv : All2 (ArgV w) args vs) :
    Calls PP f vs.toArray w fun e w' => e = .returned (.bool true) ∧ Below w.heap.size w w' := by
  obtain ⟨dec, sp, L, n, h⟩ := h
  refine (calls_sound hT hf hb dec sp L n args _ hn h hv).mono ?_
  rintro e w' ⟨v, u, rfl, h1, h2, h3⟩
  have h4 : u = .bool true := retW_ret h2 h1
  exact ⟨by rw [h4], h3⟩

end Go.Proofs.Ytdjnhnfofajpcaa
