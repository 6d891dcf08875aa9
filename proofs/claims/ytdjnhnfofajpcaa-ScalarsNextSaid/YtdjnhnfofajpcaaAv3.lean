/- A small evaluator over the model's code, third part: what a single operation comes to, and that the machine comes to the same. -/
import Derived.Test.YtdjnhnfofajpcaaAv2
namespace Go.Proofs.Ytdjnhnfofajpcaa.Av
open Go Go.RowKit

/-- 2 to the power of a kind's bits. -/
def pw : IntKind → Nat
  | .i8 | .u8 => 256
  | .i16 | .u16 => 65536
  | .i32 | .u32 => 4294967296
  | .i64 | .u64 => 18446744073709551616
theorem pw_eq (k : IntKind) : pw k = 2 ^ k.bits := by cases k <;> rfl
theorem pw_pos (k : IntKind) : 0 < pw k := by cases k <;> decide

theorem wrap_nat {k : IntKind} (hk : k.signed = false) (n : Nat) : k.wrap (n : Int) = ((n % pw k : Nat) : Int) := by
  cases k <;> simp [IntKind.signed] at hk <;> simp [IntKind.wrap, IntKind.bits, IntKind.signed, pw]
theorem wrap_int {k : IntKind} (hk : k.signed = false) (z : Int) : k.wrap z = z % (pw k : Int) := by
  cases k <;> simp [IntKind.signed] at hk <;> simp [IntKind.wrap, IntKind.bits, IntKind.signed, pw]
theorem wrap_wrap (k : IntKind) (z : Int) : k.wrap (k.wrap z) = k.wrap z := by
  cases k <;> simp only [IntKind.wrap, IntKind.bits, IntKind.signed] <;> simp <;> omega
theorem lit_nat {k : IntKind} {z : Int} (hk : k.signed = false) (h : inR k z) : z = (z.toNat : Int) ∧ z.toNat < pw k := by
  unfold inR at h
  rw [wrap_int hk] at h
  have := Int.emod_nonneg z (b := (pw k : Int)) (by have := pw_pos k; omega)
  have := Int.emod_lt_of_pos z (b := (pw k : Int)) (by have := pw_pos k; omega)
  omega

/-! ### Numbers -/

def asN : PV → Option (IntKind × Nat)
  | .nat k n => some (k, n)
  | .lit k z => match k.signed with
    | true => none
    | false => some (k, z.toNat)
  | _ => none
def asZ : PV → Option (IntKind × Int)
  | .int k z | .lit k z => match k.signed with
    | true => some (k, z)
    | false => none
  | _ => none
/-- A count of places. -/
def asC : PV → Option (Nat × Prop)
  | .nat _ n => some (n, True)
  | .lit _ z | .int _ z => some (z.toNat, 0 ≤ z)
  | _ => none
def asB : PV → Option Bool
  | .bool b | .blit b => some b
  | _ => none

theorem asN_R {x : PV} {v : Value} {k : IntKind} {n : Nat} (h : asN x = some (k, n)) (hx : x.R v) : v = .int k (n : Int) ∧ k.signed = false ∧ n < pw k := by
  cases x with
  | nat k' n' =>
    simp only [asN, Option.some.injEq, Prod.mk.injEq] at h
    obtain ⟨rfl, rfl⟩ := h
    obtain ⟨h1, h2, h3⟩ := hx
    exact ⟨h1, h2, by rw [pw_eq]; exact h3⟩
  | lit k' z =>
    simp only [asN] at h
    split at h
    · simp at h
    · rename_i hk
      simp only [Option.some.injEq, Prod.mk.injEq] at h
      obtain ⟨rfl, rfl⟩ := h
      obtain ⟨h1, h2⟩ := hx
      obtain ⟨h3, h4⟩ := lit_nat hk h2
      exact ⟨by rw [h1, ← h3], hk, h4⟩
  | _ => simp [asN] at h
theorem asZ_R {x : PV} {v : Value} {k : IntKind} {z : Int} (h : asZ x = some (k, z)) (hx : x.R v) : v = .int k z ∧ inR k z ∧ k.signed = true := by
  cases x with
  | int k' n' | lit k' n' =>
    simp only [asZ] at h
    split at h
    · rename_i hk
      simp only [Option.some.injEq, Prod.mk.injEq] at h
      obtain ⟨rfl, rfl⟩ := h
      exact ⟨hx.1, hx.2, hk⟩
    · simp at h
  | _ => simp [asZ] at h
theorem asC_R {x : PV} {v : Value} {n : Nat} {p : Prop} (h : asC x = some (n, p)) (hx : x.R v) (hp : p) : ∃ k, v = .int k (n : Int) := by
  cases x with
  | nat k' n' =>
    simp only [asC, Option.some.injEq, Prod.mk.injEq] at h
    obtain ⟨rfl, rfl⟩ := h
    exact ⟨_, hx.1⟩
  | lit k' z | int k' z =>
    simp only [asC, Option.some.injEq, Prod.mk.injEq] at h
    obtain ⟨rfl, rfl⟩ := h
    exact ⟨k', by rw [hx.1, Int.toNat_of_nonneg hp]⟩
  | _ => simp [asC] at h
theorem asB_R {x : PV} {v : Value} {b : Bool} (h : asB x = some b) (hx : x.R v) : v = .bool b := by
  cases x <;> simp [asB] at h <;> subst h <;> exact hx

def litCmp (op : BinOp) (a b : Int) : Option PV :=
  match op with
  | .eql => some (.blit (decide (a = b)))
  | .neq => some (.blit (!decide (a = b)))
  | .lss => some (.blit (decide (a < b)))
  | .leq => some (.blit (decide (a ≤ b)))
  | .gtr => some (.blit (decide (b < a)))
  | .geq => some (.blit (decide (b ≤ a)))
  | _ => none
def litBin (op : BinOp) (k : IntKind) (a b : Int) : Option PV :=
  match op with
  | .add => some (.lit k (k.wrap (a + b)))
  | .sub => some (.lit k (k.wrap (a - b)))
  | .mul => some (.lit k (k.wrap (a * b)))
  | .quo => match decide (b = 0) with
    | true => none
    | false => some (.lit k (k.wrap (a.tdiv b)))
  | .rem => match decide (b = 0), decide (k.wrap (a.tmod b) = a.tmod b) with
    | false, true => some (.lit k (a.tmod b))
    | _, _ => none
  | .and | .or | .xor | .andNot | .shl | .shr => none
  | op => litCmp op a b
def natBin (op : BinOp) (k : IntKind) (a b : Nat) : Option (PV × Prop) :=
  match op with
  | .add => some (.nat k ((a + b) % pw k), True)
  | .sub => some (.nat k ((a + (pw k - b)) % pw k), True)
  | .mul => some (.nat k (a * b % pw k), True)
  | .quo => some (.nat k (a / b), b ≠ 0)
  | .rem => some (.nat k (a % b), b ≠ 0)
  | .and => some (.nat k (a &&& b), True)
  | .or => some (.nat k (a ||| b), True)
  | .eql => some (.bool (decide (a = b)), True)
  | .neq => some (.bool (!decide (a = b)), True)
  | .lss => some (.bool (decide (a < b)), True)
  | .leq => some (.bool (decide (a ≤ b)), True)
  | .gtr => some (.bool (decide (b < a)), True)
  | .geq => some (.bool (decide (b ≤ a)), True)
  | _ => none
def intBin (op : BinOp) (k : IntKind) (a b : Int) : Option (PV × Prop) :=
  match op with
  | .add => some (.int k (a + b), inR k (a + b))
  | .sub => some (.int k (a - b), inR k (a - b))
  | .mul => some (.int k (a * b), inR k (a * b))
  | .quo => some (.int k (a.tdiv b), b ≠ 0 ∧ inR k (a.tdiv b))
  | .rem => some (.int k (a.tmod b), b ≠ 0 ∧ inR k (a.tmod b))
  | .eql => some (.bool (decide (a = b)), True)
  | .neq => some (.bool (!decide (a = b)), True)
  | .lss => some (.bool (decide (a < b)), True)
  | .leq => some (.bool (decide (a ≤ b)), True)
  | .gtr => some (.bool (decide (b < a)), True)
  | .geq => some (.bool (decide (b ≤ a)), True)
  | _ => none
def shBin (op : BinOp) (k : IntKind) (a c : Nat) : Option PV :=
  match op with
  | .shl => some (.nat k (a * 2 ^ c % pw k))
  | .shr => some (.nat k (a / 2 ^ c))
  | _ => none
def eqBin (op : BinOp) (b : Bool) : Option PV :=
  match op with
  | .eql => some (.bool b)
  | .neq => some (.bool (!b))
  | _ => none
def isShift : BinOp → Bool
  | .shl | .shr => true
  | _ => false

def binF (op : BinOp) (t : TypeId) (x y : PV) : Option (PV × Prop) :=
  match isShift op with
  | true => match asN x, asC y with
    | some (k, a), some (c, p) => (shBin op k a c).map fun v => (v, p)
    | _, _ => none
  | false => match x, y with
    | .lit k a, .lit k' b => if k = k' then (litBin op k a b).map fun v => (v, True) else none
    | .words .u64 4 N, .words .u64 4 M => if t = 24 then (eqBin op (decide (N = M))).map fun v => (v, True) else none
    | .words _ _ _, _ => none
    | x, y => match asN x, asN y with
      | some (k, a), some (k', b) => if k = k' then natBin op k a b else none
      | _, _ => match asZ x, asZ y with
        | some (k, a), some (k', b) => if k = k' then intBin op k a b else none
        | _, _ => match asB x, asB y with
          | some a, some b => if t = 4 then (eqBin op (a == b)).map fun v => (v, True) else none
          | _, _ => none

theorem PV.litR {k : IntKind} {z : Int} (h : inR k z) : (PV.lit k z).R (.int k z) := ⟨rfl, h⟩
theorem PV.natR {k : IntKind} {n : Nat} (hk : k.signed = false) (h : n < pw k) : (PV.nat k n).R (.int k (n : Int)) := ⟨rfl, hk, by rw [← pw_eq]; exact h⟩

theorem bin_int (w : World) (op : BinOp) (hs : isShift op = false) (t : TypeId) (k : IntKind) (a b : Int) :
    (binOp op t (.int k a) (.int k b)).run PP w = (match op with
    | .add | .sub | .mul => Op.intArith op k a b
    | .quo | .rem => Op.intDiv op k a b
    | .and | .or | .xor | .andNot => Op.intBits op k a b
    | _ => Op.intCmp op a b).run PP w := by
  cases op <;> first | (simp [isShift] at hs; done) | (simp [binOp])

theorem cmp_sound (w : World) (op : BinOp) (a b : Int) (v : PV) (h : litCmp op a b = some v) : ∃ u, (Op.intCmp op a b).run PP w = .ok u w ∧ v.R u := by
  cases op <;> simp [litCmp] at h <;> subst h <;> refine ⟨_, rfl, ?_⟩ <;> first | rfl | (simp [PV.R, bne]; rfl)

theorem lit_sound (w : World) (op : BinOp) (t : TypeId) (k : IntKind) (a b : Int) (v : PV) (h : litBin op k a b = some v) :
    ∃ u, (binOp op t (.int k a) (.int k b)).run PP w = .ok u w ∧ v.R u := by
  have hs : isShift op = false := by cases op <;> first | rfl | (simp [litBin] at h; done)
  rw [bin_int w op hs]
  cases op
  case add | sub | mul => simp only [litBin, Option.some.injEq] at h; subst h; exact ⟨_, rfl, PV.litR (wrap_wrap _ _)⟩
  case quo =>
    simp only [litBin] at h
    split at h
    · simp at h
    · rename_i hb
      have hb' : b ≠ 0 := of_decide_eq_false hb
      simp only [Option.some.injEq] at h; subst h
      refine ⟨.int k (k.wrap (a.tdiv b)), ?_, PV.litR (wrap_wrap _ _)⟩
      simp [Op.intDiv, hb']
  case rem =>
    simp only [litBin] at h
    split at h
    · rename_i hb hw
      have hb' : b ≠ 0 := of_decide_eq_false hb
      simp only [Option.some.injEq] at h; subst h
      refine ⟨.int k (a.tmod b), ?_, PV.litR (show k.wrap _ = _ from of_decide_eq_true hw)⟩
      simp [Op.intDiv, hb']
    · simp at h
  case and | or | xor | andNot | shl | shr => simp [litBin] at h
  all_goals exact cmp_sound w _ a b v (by simpa [litBin] using h)

theorem nat_sound (w : World) (op : BinOp) (t : TypeId) (k : IntKind) (hk : k.signed = false) (a b : Nat) (ha : a < pw k) (hb : b < pw k) (v : PV) (p : Prop) (h : natBin op k a b = some (v, p)) (hp : p) :
    ∃ u, (binOp op t (.int k (a : Int)) (.int k (b : Int))).run PP w = .ok u w ∧ v.R u := by
  have hs : isShift op = false := by cases op <;> first | rfl | (simp [natBin] at h; done)
  rw [bin_int w op hs]
  cases op
  case add =>
    simp only [natBin, Option.some.injEq, Prod.mk.injEq] at h; obtain ⟨rfl, rfl⟩ := h
    refine ⟨.int k ((((a + b) % pw k : Nat) : Int)), ?_, PV.natR hk (Nat.mod_lt _ (pw_pos k))⟩
    rw [← wrap_nat hk]; simp [Op.intArith]
  case mul =>
    simp only [natBin, Option.some.injEq, Prod.mk.injEq] at h; obtain ⟨rfl, rfl⟩ := h
    refine ⟨.int k (((a * b % pw k : Nat) : Int)), ?_, PV.natR hk (Nat.mod_lt _ (pw_pos k))⟩
    rw [← wrap_nat hk]; simp [Op.intArith]
  case sub =>
    simp only [natBin, Option.some.injEq, Prod.mk.injEq] at h; obtain ⟨rfl, rfl⟩ := h
    refine ⟨.int k (((a + (pw k - b)) % pw k : Nat) : Int), ?_, PV.natR hk (Nat.mod_lt _ (pw_pos k))⟩
    have e : k.wrap ((a : Int) - b) = (((a + (pw k - b)) % pw k : Nat) : Int) := by
      rw [wrap_int hk, Int.natCast_emod]
      have : ((a + (pw k - b) : Nat) : Int) = (a : Int) - b + (pw k : Int) := by omega
      rw [this, Int.add_emod_right]
    rw [← e]; simp [Op.intArith]
  case quo =>
    simp only [natBin, Option.some.injEq, Prod.mk.injEq] at h; obtain ⟨rfl, rfl⟩ := h
    have hlt : a / b < pw k := Nat.lt_of_le_of_lt (Nat.div_le_self _ _) ha
    refine ⟨.int k ((a / b : Nat) : Int), ?_, PV.natR hk hlt⟩
    have hb' : (b : Int) ≠ 0 := by omega
    have e : k.wrap ((a : Int).tdiv b) = ((a / b : Nat) : Int) := by
      rw [show (a : Int).tdiv b = ((a / b : Nat) : Int) from rfl, wrap_nat hk, Nat.mod_eq_of_lt hlt]
    rw [← e]; simp only [Op.intDiv, if_neg hb', Sem.run_pure]
  case rem =>
    simp only [natBin, Option.some.injEq, Prod.mk.injEq] at h; obtain ⟨rfl, rfl⟩ := h
    have hlt : a % b < pw k := Nat.lt_of_le_of_lt (Nat.mod_le _ _) ha
    refine ⟨.int k ((a % b : Nat) : Int), ?_, PV.natR hk hlt⟩
    have hb' : (b : Int) ≠ 0 := by omega
    have e : (a : Int).tmod b = ((a % b : Nat) : Int) := rfl
    rw [← e]; simp only [Op.intDiv, if_neg hb', Sem.run_pure]
  case and =>
    simp only [natBin, Option.some.injEq, Prod.mk.injEq] at h; obtain ⟨rfl, rfl⟩ := h
    have hlt : a &&& b < pw k := Nat.lt_of_le_of_lt Nat.and_le_left ha
    refine ⟨.int k ((a &&& b : Nat) : Int), ?_, PV.natR hk hlt⟩
    have ea : (BitVec.ofInt k.bits (a : Int)).toNat = a := by simp; rw [← pw_eq]; exact_mod_cast Nat.mod_eq_of_lt ha
    have eb : (BitVec.ofInt k.bits (b : Int)).toNat = b := by simp; rw [← pw_eq]; exact_mod_cast Nat.mod_eq_of_lt hb
    have e : k.wrap ((a &&& b : Nat) : Int) = ((a &&& b : Nat) : Int) := by rw [wrap_nat hk, Nat.mod_eq_of_lt hlt]
    simp only [Op.intBits, Sem.run_pure, BitVec.toNat_and, ea, eb, e]
  case or =>
    simp only [natBin, Option.some.injEq, Prod.mk.injEq] at h; obtain ⟨rfl, rfl⟩ := h
    have hlt : a ||| b < pw k := by rw [pw_eq] at *; exact Nat.or_lt_two_pow ha hb
    refine ⟨.int k ((a ||| b : Nat) : Int), ?_, PV.natR hk hlt⟩
    have ea : (BitVec.ofInt k.bits (a : Int)).toNat = a := by simp; rw [← pw_eq]; exact_mod_cast Nat.mod_eq_of_lt ha
    have eb : (BitVec.ofInt k.bits (b : Int)).toNat = b := by simp; rw [← pw_eq]; exact_mod_cast Nat.mod_eq_of_lt hb
    have e : k.wrap ((a ||| b : Nat) : Int) = ((a ||| b : Nat) : Int) := by rw [wrap_nat hk, Nat.mod_eq_of_lt hlt]
    simp only [Op.intBits, Sem.run_pure, BitVec.toNat_or, ea, eb, e]
  case xor | andNot | shl | shr => simp [natBin] at h
  all_goals
    simp only [natBin, Option.some.injEq, Prod.mk.injEq] at h; obtain ⟨rfl, rfl⟩ := h
    refine ⟨_, rfl, ?_⟩
    simp only [PV.R, bne]
    first | rfl | (congr 1; rw [Bool.eq_iff_iff]; simp; omega) | (congr 2; rw [Bool.eq_iff_iff]; simp; omega) | (congr 1; rw [Bool.eq_iff_iff]; simp; done) | (congr 2; rw [Bool.eq_iff_iff]; simp; done)

theorem int_sound (w : World) (op : BinOp) (t : TypeId) (k : IntKind) (a b : Int) (v : PV) (p : Prop) (h : intBin op k a b = some (v, p)) (hp : p) :
    ∃ u, (binOp op t (.int k a) (.int k b)).run PP w = .ok u w ∧ v.R u := by
  have hs : isShift op = false := by cases op <;> first | rfl | (simp [intBin] at h; done)
  rw [bin_int w op hs]
  cases op
  case add | sub | mul =>
    simp only [intBin, Option.some.injEq, Prod.mk.injEq] at h; obtain ⟨rfl, rfl⟩ := h
    refine ⟨_, ?_, PV.litR hp⟩
    simp [Op.intArith, show _ = _ from hp]
  case quo =>
    simp only [intBin, Option.some.injEq, Prod.mk.injEq] at h; obtain ⟨rfl, rfl⟩ := h
    refine ⟨_, ?_, PV.litR hp.2⟩
    simp [Op.intDiv, hp.1, show _ = _ from hp.2]
  case rem =>
    simp only [intBin, Option.some.injEq, Prod.mk.injEq] at h; obtain ⟨rfl, rfl⟩ := h
    refine ⟨_, ?_, PV.litR hp.2⟩
    simp [Op.intDiv, hp.1]
  case and | or | xor | andNot | shl | shr => simp [intBin] at h
  all_goals
    simp only [intBin, Option.some.injEq, Prod.mk.injEq] at h; obtain ⟨rfl, rfl⟩ := h
    refine ⟨_, rfl, ?_⟩
    simp [PV.R, bne]
    try rfl

theorem sh_sound (w : World) (op : BinOp) (t : TypeId) (k k' : IntKind) (hk : k.signed = false) (a c : Nat) (ha : a < pw k) (v : PV) (h : shBin op k a c = some v) :
    ∃ u, (binOp op t (.int k (a : Int)) (.int k' (c : Int))).run PP w = .ok u w ∧ v.R u := by
  have hc : ¬ ((c : Int) < 0) := by omega
  cases op <;> simp only [shBin, Option.some.injEq, reduceCtorEq] at h <;> subst h
  case shl =>
    refine ⟨.int k ((a * 2 ^ c % pw k : Nat) : Int), ?_, PV.natR hk (Nat.mod_lt _ (pw_pos k))⟩
    simp only [binOp, Op.shift, hc, if_false, Int.toNat_natCast, Sem.run_pure]
    have e : k.wrap ((a : Int) * 2 ^ (min c k.bits)) = ((a * 2 ^ c % pw k : Nat) : Int) := by
      rw [show (a : Int) * 2 ^ (min c k.bits) = ((a * 2 ^ (min c k.bits) : Nat) : Int) by push_cast; rfl, wrap_nat hk]
      congr 1
      by_cases hcb : c ≤ k.bits
      · rw [Nat.min_eq_left hcb]
      · rw [Nat.min_eq_right (by omega), pw_eq]
        obtain ⟨d, rfl⟩ : ∃ d, c = k.bits + d := ⟨c - k.bits, by omega⟩
        rw [Nat.pow_add, ← Nat.mul_assoc, Nat.mul_mod_left, Nat.mul_right_comm, Nat.mul_mod_left]
    rw [e]
  case shr =>
    have hlt : a / 2 ^ c < pw k := Nat.lt_of_le_of_lt (Nat.div_le_self _ _) ha
    refine ⟨.int k ((a / 2 ^ c : Nat) : Int), ?_, PV.natR hk hlt⟩
    simp only [binOp, Op.shift, hc, if_false, Int.toNat_natCast, Sem.run_pure]
    have e : (a : Int).fdiv (2 ^ (min c k.bits)) = ((a / 2 ^ c : Nat) : Int) := by
      rw [show (2 : Int) ^ (min c k.bits) = ((2 ^ (min c k.bits) : Nat) : Int) by push_cast; rfl, Int.fdiv_eq_ediv_of_nonneg _ (Int.natCast_nonneg _), ← Int.natCast_ediv]
      congr 1
      by_cases hcb : c ≤ k.bits
      · rw [Nat.min_eq_left hcb]
      · rw [Nat.min_eq_right (by omega), ← pw_eq, Nat.div_eq_of_lt ha, Nat.div_eq_of_lt]
        exact Nat.lt_of_lt_of_le ha (by rw [pw_eq]; exact Nat.pow_le_pow_right (by decide) (by omega))
    rw [e]

end Go.Proofs.Ytdjnhnfofajpcaa.Av
