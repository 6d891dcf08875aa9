/- The law DividesPower, out of the evaluator. -/
import Derived.Test.YtdjnhnfofajpcaaFd
import Derived.Test.YtdjnhnfofajpcaaR1
namespace Go.Proofs.Ytdjnhnfofajpcaa
open Go Go.Proofs Go.ChangeShapes Go.WideShapes Go.ChangeAt Go.RowKit Av

def remN (a b : Nat) : Nat := if b = 0 then 0 else a % b
def errN (b : Nat) : Int := if b = 0 then 1 else 0
def eDivN : Entry := mk 53 [.n 4, .n 4] fun (a b : Nat) => (.tup3 (.words .u64 4 (a / b)) (.words .u64 4 (remN a b)) (.int .i64 (errN b)), True)
theorem eDivN_ok : eDivN.OK := eDiv_ok

theorem power_law_p (a n : Nat) (R : AV → Prop) (h : (∃ o1 : Nat, (((o1 ≤ n) ∧ ((a % ((2 : Nat) ^ o1)) = (0 : Nat))) ∧ ((((if (a < (Proofs.Ytdjnhnfofajpcaa.shiftN (a / (Proofs.Ytdjnhnfofajpcaa.shiftN (1 : Nat) ((n : Nat) : Int))) ((n : Nat) : Int))) then (1 : Nat) else (0 : Nat)) = (if (a < (Proofs.Ytdjnhnfofajpcaa.shiftN (a / (Proofs.Ytdjnhnfofajpcaa.shiftN (1 : Nat) ((n : Nat) : Int))) ((n : Nat) : Int))) then (1 : Nat) else (0 : Nat))) ∧ ((0 : Int) = ((o1 : Nat) : Int))) ∧ (∀ x2 : Nat, (((x2 ≤ n) ∧ ((a % ((2 : Nat) ^ x2)) = (0 : Nat))) → ((((decide (((x2 : Nat) : Int) < ((n : Nat) : Int))) = Bool.true) → ((((decide ((if (((0 : Int) ≤ ((x2 : Nat) : Int)) ∧ (((x2 : Nat) : Int) < (256 : Int))) then ((a / ((2 : Nat) ^ (Int.toNat ((x2 : Nat) : Int)))) % (2 : Nat)) else (0 : Nat)) = (0 : Nat))) = Bool.true) → (((IntKind.wrap IntKind.i64 (((x2 : Nat) : Int) + (1 : Int))) = (((x2 : Nat) : Int) + (1 : Int))) ∧ (∃ y6 : Nat, (((y6 ≤ n) ∧ ((a % ((2 : Nat) ^ y6)) = (0 : Nat))) ∧ ((((n - y6) + (1 : Nat)) ≤ (n - x2)) ∧ ((((x2 : Nat) : Int) + (1 : Int)) = ((y6 : Nat) : Int))))))) ∧ (((decide ((if (((0 : Int) ≤ ((x2 : Nat) : Int)) ∧ (((x2 : Nat) : Int) < (256 : Int))) then ((a / ((2 : Nat) ^ (Int.toNat ((x2 : Nat) : Int)))) % (2 : Nat)) else (0 : Nat)) = (0 : Nat))) = Bool.false) → ((((decide ((Proofs.Ytdjnhnfofajpcaa.errN (Proofs.Ytdjnhnfofajpcaa.shiftN (1 : Nat) ((n : Nat) : Int))) = (0 : Int))) = Bool.true) ∧ (((decide ((if (a < (Proofs.Ytdjnhnfofajpcaa.shiftN (a / (Proofs.Ytdjnhnfofajpcaa.shiftN (1 : Nat) ((n : Nat) : Int))) ((n : Nat) : Int))) then (1 : Nat) else (0 : Nat)) = (0 : Nat))) = Bool.true) ∧ (((IntKind.wrap IntKind.i64 (-((n : Nat) : Int))) = (-((n : Nat) : Int))) ∧ (((decide ((a / (Proofs.Ytdjnhnfofajpcaa.shiftN (1 : Nat) ((n : Nat) : Int))) = (Proofs.Ytdjnhnfofajpcaa.shiftN a (-((n : Nat) : Int))))) = Bool.true) ∧ (((decide ((Proofs.Ytdjnhnfofajpcaa.remN a (Proofs.Ytdjnhnfofajpcaa.shiftN (1 : Nat) ((n : Nat) : Int))) = ((a + ((115792089237316195423570985008687907853269984665640564039457584007913129639936 : Nat) - (Proofs.Ytdjnhnfofajpcaa.shiftN (a / (Proofs.Ytdjnhnfofajpcaa.shiftN (1 : Nat) ((n : Nat) : Int))) ((n : Nat) : Int)))) % (115792089237316195423570985008687907853269984665640564039457584007913129639936 : Nat)))) = Bool.true) ∧ ((decide ((((bitLen (Proofs.Ytdjnhnfofajpcaa.remN a (Proofs.Ytdjnhnfofajpcaa.shiftN (1 : Nat) ((n : Nat) : Int)))) : Nat) : Int) ≤ ((n : Nat) : Int))) = Bool.true)))))) ∧ (R (AV.pv (PV.bool (decide ((Nat.gcd a (Proofs.Ytdjnhnfofajpcaa.shiftN (1 : Nat) ((n : Nat) : Int))) = (Proofs.Ytdjnhnfofajpcaa.shiftN (1 : Nat) ((x2 : Nat) : Int))))))))))) ∧ (((decide (((x2 : Nat) : Int) < ((n : Nat) : Int))) = Bool.false) → ((((decide ((Proofs.Ytdjnhnfofajpcaa.errN (Proofs.Ytdjnhnfofajpcaa.shiftN (1 : Nat) ((n : Nat) : Int))) = (0 : Int))) = Bool.true) ∧ (((decide ((if (a < (Proofs.Ytdjnhnfofajpcaa.shiftN (a / (Proofs.Ytdjnhnfofajpcaa.shiftN (1 : Nat) ((n : Nat) : Int))) ((n : Nat) : Int))) then (1 : Nat) else (0 : Nat)) = (0 : Nat))) = Bool.true) ∧ (((IntKind.wrap IntKind.i64 (-((n : Nat) : Int))) = (-((n : Nat) : Int))) ∧ (((decide ((a / (Proofs.Ytdjnhnfofajpcaa.shiftN (1 : Nat) ((n : Nat) : Int))) = (Proofs.Ytdjnhnfofajpcaa.shiftN a (-((n : Nat) : Int))))) = Bool.true) ∧ (((decide ((Proofs.Ytdjnhnfofajpcaa.remN a (Proofs.Ytdjnhnfofajpcaa.shiftN (1 : Nat) ((n : Nat) : Int))) = ((a + ((115792089237316195423570985008687907853269984665640564039457584007913129639936 : Nat) - (Proofs.Ytdjnhnfofajpcaa.shiftN (a / (Proofs.Ytdjnhnfofajpcaa.shiftN (1 : Nat) ((n : Nat) : Int))) ((n : Nat) : Int)))) % (115792089237316195423570985008687907853269984665640564039457584007913129639936 : Nat)))) = Bool.true) ∧ ((decide ((((bitLen (Proofs.Ytdjnhnfofajpcaa.remN a (Proofs.Ytdjnhnfofajpcaa.shiftN (1 : Nat) ((n : Nat) : Int)))) : Nat) : Int) ≤ ((n : Nat) : Int))) = Bool.true)))))) ∧ (R (AV.pv (PV.bool (decide ((Nat.gcd a (Proofs.Ytdjnhnfofajpcaa.shiftN (1 : Nat) ((n : Nat) : Int))) = (Proofs.Ytdjnhnfofajpcaa.shiftN (1 : Nat) ((x2 : Nat) : Int)))))))))))))))) :
    awp [eAlive3, eOf3, eDivN, eCommon, eShift, eSub, eBit, eBits] [(53, true), (57, true), (66, true), (71, true), (78, true)] [40] [⟨0, Nat, fun _ k => k ≤ n ∧ a % 2 ^ k = 0, fun k => shp 85 0 [(1, .pv (.nat .u8 n)), (2, .box .u64 4 a), (5, .box .u64 4 (shiftN 1 n)), (6, .box .u64 4 (a / shiftN 1 n)), (7, .box .u64 4 (remN a (shiftN 1 n))), (8, .pv (.int .i64 (errN (shiftN 1 n)))),  (9, .box .u64 4 ((a + (W - shiftN (a / shiftN 1 n) n)) % W)), (10, .pv (.nat .u64 (if a < shiftN (a / shiftN 1 n) n then 1 else 0))), (11, .box .u64 4 (Nat.gcd a (shiftN 1 n))), (12, .pv (.int .i64 k))], fun k => n - k⟩] 200 (Try.f15.body.getD .skip) (fnPost Try.f15.results.toList R) (begins [.pv (.words .u64 4 a), .pv (.nat .u8 n)] Try.f15.ntmps) :=
  Eq.mp (by kernel_rfl) (ai (ai tr (ai t2 tr)) (ai (ai t2 (ai t2 (ai t2 (ai t2 (ai tr t2))))) (ai (ai t2 (ai t2 (ai t2 (ai t2 (ai t2 (ai t2 (ai t2 (ai tr (ai tr (ai tr (ai tr (ai t2 tr)))))))))))) (ai (ai t2 (ai t2 (ai t2 (ai t2 (ai t2 (ai t2 (ai t2 (ai t2 (ai t2 (ai tr (ai tr (ai t2 tr)))))))))))) (ai (ai t2 (ai t2 (ai t2 (ai tr t2)))) (ai (ai t2 tr) (Exists.imp (fun o1 hq10 => (ai (ai hq10.1.1 hq10.1.2) (ai (ai (Eq.refl n) (ai (Eq.refl a) (ai (Eq.refl (Proofs.Ytdjnhnfofajpcaa.shiftN (1 : Nat) ((n : Nat) : Int))) (ai (Eq.refl (a / (Proofs.Ytdjnhnfofajpcaa.shiftN (1 : Nat) ((n : Nat) : Int)))) (ai (Eq.refl (Proofs.Ytdjnhnfofajpcaa.remN a (Proofs.Ytdjnhnfofajpcaa.shiftN (1 : Nat) ((n : Nat) : Int)))) (ai (Eq.refl (Proofs.Ytdjnhnfofajpcaa.errN (Proofs.Ytdjnhnfofajpcaa.shiftN (1 : Nat) ((n : Nat) : Int)))) (ai (Eq.refl ((a + ((115792089237316195423570985008687907853269984665640564039457584007913129639936 : Nat) - (Proofs.Ytdjnhnfofajpcaa.shiftN (a / (Proofs.Ytdjnhnfofajpcaa.shiftN (1 : Nat) ((n : Nat) : Int))) ((n : Nat) : Int)))) % (115792089237316195423570985008687907853269984665640564039457584007913129639936 : Nat))) (ai hq10.2.1.1 (ai (Eq.refl (Nat.gcd a (Proofs.Ytdjnhnfofajpcaa.shiftN (1 : Nat) ((n : Nat) : Int)))) (ai hq10.2.1.2 tr)))))))))) (fun (x2 : Nat) => (fun (hk3 : ((x2 ≤ n) ∧ ((a % ((2 : Nat) ^ x2)) = (0 : Nat)))) => (ai (fun (hk4 : ((decide (((x2 : Nat) : Int) < ((n : Nat) : Int))) = Bool.true)) => (ai (ai t2 (ai t2 (ai t2 (ai t2 (ai (ai tr hk4) (ai t2 (ai t2 (ai t2 (ai t2 (ai t2 tr)))))))))) (ai (fun (hk5 : ((decide ((if (((0 : Int) ≤ ((x2 : Nat) : Int)) ∧ (((x2 : Nat) : Int) < (256 : Int))) then ((a / ((2 : Nat) ^ (Int.toNat ((x2 : Nat) : Int)))) % (2 : Nat)) else (0 : Nat)) = (0 : Nat))) = Bool.true)) => (ai (ai t2 (ai (ai ((((hq10.2.2 x2) hk3).1 hk4).1 hk5).1 tr) (ai t2 tr))) (Exists.imp (fun y6 hq7 => (ai (ai hq7.1.1 hq7.1.2) (ai hq7.2.1 (ai (Eq.refl n) (ai (Eq.refl a) (ai (Eq.refl (Proofs.Ytdjnhnfofajpcaa.shiftN (1 : Nat) ((n : Nat) : Int))) (ai (Eq.refl (a / (Proofs.Ytdjnhnfofajpcaa.shiftN (1 : Nat) ((n : Nat) : Int)))) (ai (Eq.refl (Proofs.Ytdjnhnfofajpcaa.remN a (Proofs.Ytdjnhnfofajpcaa.shiftN (1 : Nat) ((n : Nat) : Int)))) (ai (Eq.refl (Proofs.Ytdjnhnfofajpcaa.errN (Proofs.Ytdjnhnfofajpcaa.shiftN (1 : Nat) ((n : Nat) : Int)))) (ai (Eq.refl ((a + ((115792089237316195423570985008687907853269984665640564039457584007913129639936 : Nat) - (Proofs.Ytdjnhnfofajpcaa.shiftN (a / (Proofs.Ytdjnhnfofajpcaa.shiftN (1 : Nat) ((n : Nat) : Int))) ((n : Nat) : Int)))) % (115792089237316195423570985008687907853269984665640564039457584007913129639936 : Nat))) (ai (Eq.refl (if (a < (Proofs.Ytdjnhnfofajpcaa.shiftN (a / (Proofs.Ytdjnhnfofajpcaa.shiftN (1 : Nat) ((n : Nat) : Int))) ((n : Nat) : Int))) then (1 : Nat) else (0 : Nat))) (ai (Eq.refl (Nat.gcd a (Proofs.Ytdjnhnfofajpcaa.shiftN (1 : Nat) ((n : Nat) : Int)))) (ai hq7.2.2 tr))))))))))))) ((((hq10.2.2 x2) hk3).1 hk4).1 hk5).2))) (fun (hk8 : ((decide ((if (((0 : Int) ≤ ((x2 : Nat) : Int)) ∧ (((x2 : Nat) : Int) < (256 : Int))) then ((a / ((2 : Nat) ^ (Int.toNat ((x2 : Nat) : Int)))) % (2 : Nat)) else (0 : Nat)) = (0 : Nat))) = Bool.false)) => (ai (ai t2 (ai t2 (ai t2 (ai t2 (ai t2 (ai (ai tr ((((hq10.2.2 x2) hk3).1 hk4).2 hk8).1.1) (ai t2 (ai t2 (ai t2 (ai (ai tr ((((hq10.2.2 x2) hk3).1 hk4).2 hk8).1.2.1) (ai t2 (ai t2 (ai t2 (ai t2 (ai (ai ((((hq10.2.2 x2) hk3).1 hk4).2 hk8).1.2.2.1 tr) (ai t2 (ai t2 (ai t2 (ai (ai tr ((((hq10.2.2 x2) hk3).1 hk4).2 hk8).1.2.2.2.1) (ai t2 (ai t2 (ai t2 (ai t2 (ai (ai tr ((((hq10.2.2 x2) hk3).1 hk4).2 hk8).1.2.2.2.2.1) (ai t2 (ai t2 (ai t2 (ai t2 (ai t2 (ai t2 (ai (ai tr ((((hq10.2.2 x2) hk3).1 hk4).2 hk8).1.2.2.2.2.2) (ai t2 (ai t2 (ai t2 (ai t2 (ai t2 (ai t2 (ai t2 tr)))))))))))))))))))))))))))))))))))))) ((((hq10.2.2 x2) hk3).1 hk4).2 hk8).2))))) (fun (hk9 : ((decide (((x2 : Nat) : Int) < ((n : Nat) : Int))) = Bool.false)) => (ai (ai t2 (ai t2 (ai t2 (ai t2 (ai (ai tr hk9) (ai tr (ai tr (ai tr (ai tr (ai t2 tr)))))))))) (ai (ai t2 (ai t2 (ai t2 (ai t2 (ai t2 (ai (ai tr (((hq10.2.2 x2) hk3).2 hk9).1.1) (ai t2 (ai t2 (ai t2 (ai (ai tr (((hq10.2.2 x2) hk3).2 hk9).1.2.1) (ai t2 (ai t2 (ai t2 (ai t2 (ai (ai (((hq10.2.2 x2) hk3).2 hk9).1.2.2.1 tr) (ai t2 (ai t2 (ai t2 (ai (ai tr (((hq10.2.2 x2) hk3).2 hk9).1.2.2.2.1) (ai t2 (ai t2 (ai t2 (ai t2 (ai (ai tr (((hq10.2.2 x2) hk3).2 hk9).1.2.2.2.2.1) (ai t2 (ai t2 (ai t2 (ai t2 (ai t2 (ai t2 (ai (ai tr (((hq10.2.2 x2) hk3).2 hk9).1.2.2.2.2.2) (ai t2 (ai t2 (ai t2 (ai t2 (ai t2 (ai t2 (ai t2 tr)))))))))))))))))))))))))))))))))))))) (((hq10.2.2 x2) hk3).2 hk9).2))))))))) h)))))))


theorem bitQ (x i : Nat) (h : i < 256) : (if 0 ≤ (i : Int) ∧ (i : Int) < 256 then x / 2 ^ (i : Int).toNat % 2 else 0) = x / 2 ^ i % 2 := bitN x i h
theorem gcd_full {a n : Nat} (h : a % 2 ^ n = 0) : Nat.gcd a (2 ^ n) = 2 ^ n := Nat.gcd_eq_right (Nat.dvd_of_mod_eq_zero h)
theorem gcd_part {a n k : Nat} (hk : k < n) (h : a % 2 ^ k = 0) (h1 : ¬ a / 2 ^ k % 2 = 0) : Nat.gcd a (2 ^ n) = 2 ^ k := by
  have e := Nat.div_add_mod a (2 ^ k)
  rw [h, Nat.add_zero] at e
  have e2 : 2 ^ n = 2 ^ k * 2 ^ (n - k) := by rw [← Nat.pow_add]; congr 1; omega
  have ho : Nat.gcd (a / 2 ^ k) (2 ^ (n - k)) = 1 := by
    refine Nat.Coprime.pow_right _ ?_
    show Nat.gcd (a / 2 ^ k) 2 = 1
    rw [Nat.gcd_comm, Nat.gcd_rec, show a / 2 ^ k % 2 = 1 by omega, Nat.gcd_one_left]
  rw [e2]
  conv => lhs; rw [← e]
  rw [Nat.gcd_mul_left, ho, Nat.mul_one]

theorem power_facts {a n : Nat} (ha : a < W) (hn : n < 256) : shiftN 1 n = 2 ^ n ∧ shiftN (a / 2 ^ n) n = a / 2 ^ n * 2 ^ n ∧ shiftN a (-(n : Int)) = a / 2 ^ n ∧ a / 2 ^ n * 2 ^ n + a % 2 ^ n = a := by
  have e := Nat.div_add_mod a (2 ^ n)
  rw [Nat.mul_comm] at e
  refine ⟨?_, ?_, ?_, e⟩
  · unfold shiftN
    rw [if_pos (by omega), Int.toNat_natCast, Nat.one_mul, Nat.mod_eq_of_lt]
    rw [W_pow]; exact Nat.pow_lt_pow_right (by decide) hn
  · unfold shiftN
    rw [if_pos (by omega), Int.toNat_natCast, Nat.mod_eq_of_lt (by omega)]
  · unfold shiftN
    split
    · have h0 : n = 0 := by omega
      subst h0
      have e0 : (-((0 : Nat) : Int)).toNat = 0 := rfl
      rw [e0, Nat.pow_zero, Nat.mul_one, Nat.div_one, Nat.mod_eq_of_lt ha]
    · have e1 : (- -(n : Int)).toNat = n := by omega
      rw [e1]

theorem power_law_calls (a : Nat) (ha : WF .u64 4 a) (z : Int) (h1 : IntKind.min .u8 ≤ z) (h2 : z ≤ IntKind.max .u8) (w : World) :
    Calls PP 15 #[.agg (cells .u64 4 a), .int .u8 z] w fun e w' => e = .returned (.bool true) ∧ Below w.heap.size w w' := by
  simp [IntKind.min, IntKind.max, IntKind.signed, IntKind.bits] at h1 h2
  obtain ⟨n, rfl⟩ := Int.eq_ofNat_of_zero_le h1
  have hn : n < 256 := by omega
  refine law_calls (vs := [.agg (cells .u64 4 a), .int .u8 n]) Try.func15 (by kernel_rfl) (TOK.cons eAlive3_ok (.cons eOf3_ok (.cons eDivN_ok (.cons eCommon_ok (.cons eShift_ok (.cons eSub_ok (.cons eBit_ok (.cons eBits_ok .nil))))))))
    [.pv (.words .u64 4 a), .pv (.nat .u8 n)] (by rw [Try.ntmps15]; simp) ⟨_, [40], _, 200, power_law_p a n _ ?_⟩ (.cons (argV_pv ⟨rfl, ha⟩) (.cons (argV_pv (PV.natR rfl hn)) .nil))
  have hA := ltW ha.1
  obtain ⟨f1, f2, f3, f4⟩ := power_facts hA hn
  have pos := Nat.two_pow_pos n
  rw [f1, f2, f3]
  have e1 : errN (2 ^ n) = 0 := if_neg (by omega)
  have e2 : remN a (2 ^ n) = a % 2 ^ n := if_neg (by omega)
  have hlt : a % 2 ^ n < 2 ^ n := Nat.mod_lt _ pos
  have e3 : (a + (115792089237316195423570985008687907853269984665640564039457584007913129639936 - a / 2 ^ n * 2 ^ n)) % 115792089237316195423570985008687907853269984665640564039457584007913129639936 = a % 2 ^ n := by
    generalize a / 2 ^ n * 2 ^ n = x at *
    generalize a % 2 ^ n = y at *
    simp only [W] at hA
    omega
  have e4 : ¬ a < a / 2 ^ n * 2 ^ n := by omega
  have e5 := bitLen_le n (a % 2 ^ n) hlt
  rw [e1, e2, e3, if_neg e4]
  have side : decide ((0 : Int) = 0) = true ∧ decide ((0 : Nat) = 0) = true ∧ IntKind.wrap .i64 (-(n : Int)) = -(n : Int) ∧ decide (a / 2 ^ n = a / 2 ^ n) = true ∧ decide (a % 2 ^ n = a % 2 ^ n) = true ∧ decide ((bitLen (a % 2 ^ n) : Int) ≤ (n : Int)) = true :=
    ⟨by decide, by decide, i64_ok (by omega) (by omega), decide_eq_true rfl, decide_eq_true rfl, decide_eq_true (by omega)⟩
  refine ⟨0, ⟨Nat.zero_le _, Nat.mod_one a⟩, ⟨rfl, rfl⟩, ?_⟩
  rintro k ⟨hk, hm⟩
  have g1 : shiftN 1 (k : Int) = 2 ^ k := (power_facts (a := 0) (by decide) (by omega)).1
  rw [g1]
  refine ⟨fun h => ?_, fun h => ?_⟩
  · have h := of_decide_eq_true h
    rw [bitQ _ _ (by omega)]
    refine ⟨fun hb => ?_, fun hb => ?_⟩
    · have hb := of_decide_eq_true hb
      refine ⟨i64_ok (by omega) (by omega), k + 1, ⟨by omega, ?_⟩, by omega, rfl⟩
      rw [Nat.mod_pow_succ, hm, hb, Nat.mul_zero]
    · exact ⟨side, rw_bool (decide_eq_true (gcd_part (by omega) hm (of_decide_eq_false hb)))⟩
  · have h := of_decide_eq_false h
    obtain rfl : k = n := by omega
    exact ⟨side, rw_bool (decide_eq_true (gcd_full hm))⟩

theorem dividesPower_fact0 : (Rows.dividesPowerRow.wf (OpenSpec.ofChange Rows.dividesPowerSpec)) = true := by kernel_rfl
theorem dividesPower_fact3 : (Try.f15.params.all (Try.prog.readableRec ·)) = true := by kernel_rfl
theorem dividesPower_fact4 : (namedTie Try.prog Rows.dividesPowerRow.named Rows.dividesPowerSpec.vars) = true := by kernel_rfl
theorem dividesPower_fact5 : ((Rows.dividesPowerRow.stops == [])) = true := by kernel_rfl
theorem dividesPower_fact7 : ((Rows.dividesPowerRow.knobs == [])) = true := by kernel_rfl
theorem dividesPower_fact9 : ((Rows.dividesPowerRow.inPlace == Try.prog.inPlace 15)) = true := by kernel_rfl
theorem dividesPower_fact10 : ((Rows.dividesPowerRow.unfollowed == Try.prog.unfollowed 15)) = true := by kernel_rfl
theorem dividesPower_fact11 : ((Rows.dividesPowerRow.recurses == Try.prog.recurses 15)) = true := by kernel_rfl
theorem dividesPower_fact12 : ((Rows.dividesPowerRow.named == Try.prog.varsNamed 15)) = true := by kernel_rfl
theorem dividesPower_fact13 : ((Rows.dividesPowerRow.maps == (Try.f15.params.toList ++ Rows.dividesPowerSpec.plain.varTypes Try.prog).any (Try.prog.mapsRec ·))) = true := by kernel_rfl
theorem dividesPower_fact14 : ((Rows.dividesPowerRow.ifaces == (Try.f15.params.toList ++ Rows.dividesPowerSpec.plain.varTypes Try.prog).any (Try.prog.ifacesRec ·))) = true := by kernel_rfl
theorem dividesPower_fact15 : ((Rows.dividesPowerRow.mapsOut == Try.prog.mapsAmong Try.f15.resultTypes.toList)) = true := by kernel_rfl
theorem dividesPower_fact16 : ((Rows.dividesPowerRow.loops == (Try.f15.params.toList ++ Rows.dividesPowerSpec.plain.varTypes Try.prog).any (Try.prog.loopsFrom ·))) = true := by kernel_rfl
theorem dividesPower_fact17 : ((Rows.dividesPowerRow.wideKeys == (Try.f15.params.toList ++ Rows.dividesPowerSpec.plain.varTypes Try.prog ++ Try.f15.resultTypes.toList).any (Try.prog.wideKeysFrom ·))) = true := by kernel_rfl
theorem dividesPower_fact18 : (Rows.dividesPowerSpec.vars.all (Try.prog.varReadable ·)) = true := by kernel_rfl
theorem dividesPower_fact19 : (Try.f15.resultTypes.all (fun t => Try.prog.readableRec t && decide (t < Try.prog.types.size))) = true := by kernel_rfl
theorem dividesPower_fact20 : ((Rows.dividesPowerRow.ifacesOut == Try.f15.resultTypes.toList.any (Try.prog.ifacesRec ·))) = true := by kernel_rfl
theorem dividesPower_fact21 : ((Rows.dividesPowerRow.loopsOut == Try.f15.resultTypes.toList.any (Try.prog.loopsFrom ·))) = true := by kernel_rfl
theorem dividesPower_fact22 : ((Rows.dividesPowerRow.plainKeys == Try.prog.plainKeys)) = true := by kernel_rfl
theorem dividesPower_fact23 : (Rows.dividesPowerRow.shortTexts.isNone) = true := by kernel_rfl
theorem dividesPower_fact26 : ((Rows.dividesPowerRow.lifted == Try.prog.liftsFinal)) = true := by rw [final_ok _ _ io_words]; rfl
theorem dividesPower_fact27 : ((Try.prog.make == some Rows.dividesPowerRow.make)) = true := by rw [make_ok _ _ io_words]; rfl
theorem dividesPower_fact29 : ((Rows.dividesPowerRow.pinned == Rows.dividesPowerRow.pinnedBy)) = true := by kernel_rfl
theorem dividesPower_fact30 : ((Rows.dividesPowerRow.veiled == (Try.f15.params.toList ++ Rows.dividesPowerSpec.plain.varTypes Try.prog ++ Try.f15.resultTypes.toList).any (Try.prog.veiledRec ·))) = true := by kernel_rfl
theorem dividesPower_fact31 : (Rows.dividesPowerRow.veiledFits Try.prog Try.f15.params.toList (Try.f15.params.toList ++ Rows.dividesPowerSpec.plain.varTypes Try.prog ++ Try.f15.resultTypes.toList)) = true := by kernel_rfl
theorem dividesPower_facts : joinedFacts Try.prog 15 Try.f15 Rows.dividesPowerSpec Rows.dividesPowerRow = true := by
  unfold joinedFacts
  exact (and_t (and_t (and_t (and_t (and_t (and_t (and_t (and_t (and_t (and_t (and_t (and_t (and_t (and_t (and_t (and_t (and_t (and_t (and_t (and_t (and_t (and_t (and_t (and_t (and_t (and_t (and_t (and_t (and_t (and_t (and_t dividesPower_fact0 pfact1) pfact2) dividesPower_fact3) dividesPower_fact4) dividesPower_fact5) pfact6) dividesPower_fact7) pfact8) dividesPower_fact9) dividesPower_fact10) dividesPower_fact11) dividesPower_fact12) dividesPower_fact13) dividesPower_fact14) dividesPower_fact15) dividesPower_fact16) dividesPower_fact17) dividesPower_fact18) dividesPower_fact19) dividesPower_fact20) dividesPower_fact21) dividesPower_fact22) dividesPower_fact23) pfact24) pfact25) dividesPower_fact26) dividesPower_fact27) (kinds_ok rfl rfl)) dividesPower_fact29) dividesPower_fact30) dividesPower_fact31)

set_option maxRecDepth 100000 in
theorem dividesPower_lifted (os : Os) (started : os.Started) (H : Type) (enc : TypeId × Value → H) :
    ReturnsInHanded {} Try.checked os 15 .any (Rows.dividesPowerSpec.pre6 enc Try.prog Try.f15 Rows.dividesPowerRow.domain false) (Rows.dividesPowerSpec.post enc Try.prog Try.f15 false true false false) := by
  refine returnsInHanded_of_change (C := Try.checked) Try.own started (by kernel_rfl) Try.func15
    (ChangeSpec.witness6 (enc := enc) (C := Try.checked) false ⟨#[], #[.agg (cells .u64 4 0), .int .u8 0], []⟩ 8 (by kernel_rfl) (by kernel_rfl) (by kernel_rfl) (by kernel_rfl)) ?_
  intro W base args ds gs before hval0 hW hcnd _
  have hval : ∀ (j : Nat) t v, Try.f15.params[j]? = some t → args[j]? = some v → Value.okWide Try.prog W .any base t v := hval0
  have hW' := hW
  obtain ⟨p, q, hA0, hV, rfl, hfz, hnd⟩ := hW
  have hA : DataW.TrodAll enc Try.prog W 0 (fun _ => true) true Try.f15.params.toList args.toList ds p := hA0
  rw [Try.params15] at hA hval
  have hAA := hA
  obtain ⟨v0, vs0, d0, ds0, p0, q0, hargs, rfl, rfl, h0, r0⟩ := trodAll_cons hA
  obtain ⟨v1, vs1, d1, ds1, p1, q1, rfl, rfl, rfl, h1, r1⟩ := trodAll_cons r0
  obtain ⟨rfl, rfl, rfl⟩ := trodAll_nil r1
  obtain rfl : args = #[v0, v1] := by cases args; simp_all
  obtain ⟨rfl, rfl⟩ := trodVars_none hV
  obtain ⟨x0, rfl, w0, rfl⟩ := open24 (hval 0 24 v0 rfl rfl) h0
  obtain ⟨x1, rfl, w1, y1, rfl⟩ := openInt u5 (hval 1 5 v1 rfl rfl) h1
  refine (power_law_calls x0 w0 x1 w1 y1 W).mono fun e W' ⟨he, hb⟩ => ?_
  subst he
  exact ⟨_, rfl, post_true hW' Try.laidOut u4 hAA (by decide +kernel) (by kernel_rfl) rfl rfl hb⟩

theorem dividesPower_holds : Rows.DividesPowerSaid :=
  OpenClaim.holds_of_wide 15 Try.f15 rfl rfl rfl rfl rfl rfl rfl ⟨rfl, rfl, rfl, rfl, rfl⟩ rfl rfl rfl rfl rfl (by kernel_rfl) Try.func15 dividesPower_facts
    (of_decide_eq_true (by kernel_rfl)) (by unfold Func.isWrapper; first | (rw [if_pos (by decide +kernel)]; kernel_rfl) | (rw [if_neg (by decide +kernel)]; exact ⟨rfl, rfl⟩))
    (fun os started H enc _ => dividesPower_lifted os started H enc)
#print axioms dividesPower_holds

end Go.Proofs.Ytdjnhnfofajpcaa
