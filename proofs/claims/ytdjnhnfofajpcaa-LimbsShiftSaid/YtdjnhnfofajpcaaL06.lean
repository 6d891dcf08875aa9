/- The law LimbsShift, out of the evaluator. -/
import Derived.Test.YtdjnhnfofajpcaaF5
import Derived.Test.YtdjnhnfofajpcaaR1
namespace Go.Proofs.Ytdjnhnfofajpcaa
open Go Go.Proofs Go.ChangeShapes Go.WideShapes Go.ChangeAt Go.RowKit Av

theorem shiftlaw_p (a n : Nat) (R : AV → Prop) (h : ((((((64 : Int) = (0 : Int)) → False) ∧ ((IntKind.wrap IntKind.i64 (Int.tdiv ((n : Nat) : Int) (64 : Int))) = (Int.tdiv ((n : Nat) : Int) (64 : Int)))) ∧ (((((64 : Int) = (0 : Int)) → False) ∧ ((IntKind.wrap IntKind.i64 (Int.tmod ((n : Nat) : Int) (64 : Int))) = (Int.tmod ((n : Nat) : Int) (64 : Int)))) ∧ (((0 : Int) ≤ (Int.tmod ((n : Nat) : Int) (64 : Int))) ∧ ((((0 : Int) ≤ (Int.tdiv ((n : Nat) : Int) (64 : Int))) ∧ (((Int.tdiv ((n : Nat) : Int) (64 : Int)) + (1 : Int)) ≤ (4 : Int))) ∧ (((Int.toNat (Int.tdiv ((n : Nat) : Int) (64 : Int))) + (1 : Nat)) ≤ (4 : Nat)))))) ∧ (((IntKind.wrap IntKind.i64 (((n : Nat) : Int) - (256 : Int))) = (((n : Nat) : Int) - (256 : Int))) ∧ (((Bool.not (decide ((Proofs.Ytdjnhnfofajpcaa.shiftN a ((n : Nat) : Int)) = ((a * (setw (0 : Nat) (Int.toNat (Int.tdiv ((n : Nat) : Int) (64 : Int))) (1 : Nat) (((1 : Nat) * ((2 : Nat) ^ (Int.toNat (Int.tmod ((n : Nat) : Int) (64 : Int))))) % (18446744073709551616 : Nat)))) % (115792089237316195423570985008687907853269984665640564039457584007913129639936 : Nat))))) = Bool.false) ∧ ((((Bool.not (decide ((Proofs.Ytdjnhnfofajpcaa.shiftN a (((n : Nat) : Int) - (256 : Int))) = ((a * (setw (0 : Nat) (Int.toNat (Int.tdiv ((n : Nat) : Int) (64 : Int))) (1 : Nat) (((1 : Nat) * ((2 : Nat) ^ (Int.toNat (Int.tmod ((n : Nat) : Int) (64 : Int))))) % (18446744073709551616 : Nat)))) / (115792089237316195423570985008687907853269984665640564039457584007913129639936 : Nat))))) = Bool.true) → (R (AV.pv (PV.blit Bool.false)))) ∧ (((Bool.not (decide ((Proofs.Ytdjnhnfofajpcaa.shiftN a (((n : Nat) : Int) - (256 : Int))) = ((a * (setw (0 : Nat) (Int.toNat (Int.tdiv ((n : Nat) : Int) (64 : Int))) (1 : Nat) (((1 : Nat) * ((2 : Nat) ^ (Int.toNat (Int.tmod ((n : Nat) : Int) (64 : Int))))) % (18446744073709551616 : Nat)))) / (115792089237316195423570985008687907853269984665640564039457584007913129639936 : Nat))))) = Bool.false) → (((IntKind.wrap IntKind.i64 (-((n : Nat) : Int))) = (-((n : Nat) : Int))) ∧ (∃ o5 : Nat, ((o5 ≤ (256 : Nat)) ∧ (((0 : Int) = ((o5 : Nat) : Int)) ∧ (∀ x6 : Nat, ((x6 ≤ (256 : Nat)) → ((((decide (((x6 : Nat) : Int) < (256 : Int))) = Bool.true) → (((IntKind.wrap IntKind.i64 ((256 : Int) - ((n : Nat) : Int))) = ((256 : Int) - ((n : Nat) : Int))) ∧ ((((decide (((256 : Int) - ((n : Nat) : Int)) ≤ ((x6 : Nat) : Int))) = Bool.true) → ((((Bool.not (decide ((if (((0 : Int) ≤ ((x6 : Nat) : Int)) ∧ (((x6 : Nat) : Int) < (256 : Int))) then (((Proofs.Ytdjnhnfofajpcaa.shiftN (Proofs.Ytdjnhnfofajpcaa.shiftN a ((n : Nat) : Int)) (-((n : Nat) : Int))) / ((2 : Nat) ^ (Int.toNat ((x6 : Nat) : Int)))) % (2 : Nat)) else (0 : Nat)) = (0 : Nat)))) = Bool.false) ∧ (((IntKind.wrap IntKind.i64 (-((n : Nat) : Int))) = (-((n : Nat) : Int))) ∧ ((IntKind.wrap IntKind.i64 (((x6 : Nat) : Int) + ((n : Nat) : Int))) = (((x6 : Nat) : Int) + ((n : Nat) : Int))))) ∧ ((((Bool.not (decide ((if (((0 : Int) ≤ ((x6 : Nat) : Int)) ∧ (((x6 : Nat) : Int) < (256 : Int))) then (((Proofs.Ytdjnhnfofajpcaa.shiftN a (-((n : Nat) : Int))) / ((2 : Nat) ^ (Int.toNat ((x6 : Nat) : Int)))) % (2 : Nat)) else (0 : Nat)) = (if (((0 : Int) ≤ (((x6 : Nat) : Int) + ((n : Nat) : Int))) ∧ ((((x6 : Nat) : Int) + ((n : Nat) : Int)) < (256 : Int))) then ((a / ((2 : Nat) ^ (Int.toNat (((x6 : Nat) : Int) + ((n : Nat) : Int))))) % (2 : Nat)) else (0 : Nat))))) = Bool.true) → (R (AV.pv (PV.blit Bool.false)))) ∧ (((Bool.not (decide ((if (((0 : Int) ≤ ((x6 : Nat) : Int)) ∧ (((x6 : Nat) : Int) < (256 : Int))) then (((Proofs.Ytdjnhnfofajpcaa.shiftN a (-((n : Nat) : Int))) / ((2 : Nat) ^ (Int.toNat ((x6 : Nat) : Int)))) % (2 : Nat)) else (0 : Nat)) = (if (((0 : Int) ≤ (((x6 : Nat) : Int) + ((n : Nat) : Int))) ∧ ((((x6 : Nat) : Int) + ((n : Nat) : Int)) < (256 : Int))) then ((a / ((2 : Nat) ^ (Int.toNat (((x6 : Nat) : Int) + ((n : Nat) : Int))))) % (2 : Nat)) else (0 : Nat))))) = Bool.false) → (((IntKind.wrap IntKind.i64 (((x6 : Nat) : Int) + (1 : Int))) = (((x6 : Nat) : Int) + (1 : Int))) ∧ (∃ y12 : Nat, ((y12 ≤ (256 : Nat)) ∧ (((((256 : Nat) - y12) + (1 : Nat)) ≤ ((256 : Nat) - x6)) ∧ ((((x6 : Nat) : Int) + (1 : Int)) = ((y12 : Nat) : Int)))))))))) ∧ (((decide (((256 : Int) - ((n : Nat) : Int)) ≤ ((x6 : Nat) : Int))) = Bool.false) → ((((Bool.not (decide ((if (((0 : Int) ≤ ((x6 : Nat) : Int)) ∧ (((x6 : Nat) : Int) < (256 : Int))) then (((Proofs.Ytdjnhnfofajpcaa.shiftN (Proofs.Ytdjnhnfofajpcaa.shiftN a ((n : Nat) : Int)) (-((n : Nat) : Int))) / ((2 : Nat) ^ (Int.toNat ((x6 : Nat) : Int)))) % (2 : Nat)) else (0 : Nat)) = (if (((0 : Int) ≤ ((x6 : Nat) : Int)) ∧ (((x6 : Nat) : Int) < (256 : Int))) then ((a / ((2 : Nat) ^ (Int.toNat ((x6 : Nat) : Int)))) % (2 : Nat)) else (0 : Nat))))) = Bool.false) ∧ (((IntKind.wrap IntKind.i64 (-((n : Nat) : Int))) = (-((n : Nat) : Int))) ∧ ((IntKind.wrap IntKind.i64 (((x6 : Nat) : Int) + ((n : Nat) : Int))) = (((x6 : Nat) : Int) + ((n : Nat) : Int))))) ∧ ((((Bool.not (decide ((if (((0 : Int) ≤ ((x6 : Nat) : Int)) ∧ (((x6 : Nat) : Int) < (256 : Int))) then (((Proofs.Ytdjnhnfofajpcaa.shiftN a (-((n : Nat) : Int))) / ((2 : Nat) ^ (Int.toNat ((x6 : Nat) : Int)))) % (2 : Nat)) else (0 : Nat)) = (if (((0 : Int) ≤ (((x6 : Nat) : Int) + ((n : Nat) : Int))) ∧ ((((x6 : Nat) : Int) + ((n : Nat) : Int)) < (256 : Int))) then ((a / ((2 : Nat) ^ (Int.toNat (((x6 : Nat) : Int) + ((n : Nat) : Int))))) % (2 : Nat)) else (0 : Nat))))) = Bool.true) → (R (AV.pv (PV.blit Bool.false)))) ∧ (((Bool.not (decide ((if (((0 : Int) ≤ ((x6 : Nat) : Int)) ∧ (((x6 : Nat) : Int) < (256 : Int))) then (((Proofs.Ytdjnhnfofajpcaa.shiftN a (-((n : Nat) : Int))) / ((2 : Nat) ^ (Int.toNat ((x6 : Nat) : Int)))) % (2 : Nat)) else (0 : Nat)) = (if (((0 : Int) ≤ (((x6 : Nat) : Int) + ((n : Nat) : Int))) ∧ ((((x6 : Nat) : Int) + ((n : Nat) : Int)) < (256 : Int))) then ((a / ((2 : Nat) ^ (Int.toNat (((x6 : Nat) : Int) + ((n : Nat) : Int))))) % (2 : Nat)) else (0 : Nat))))) = Bool.false) → (((IntKind.wrap IntKind.i64 (((x6 : Nat) : Int) + (1 : Int))) = (((x6 : Nat) : Int) + (1 : Int))) ∧ (∃ y17 : Nat, ((y17 ≤ (256 : Nat)) ∧ (((((256 : Nat) - y17) + (1 : Nat)) ≤ ((256 : Nat) - x6)) ∧ ((((x6 : Nat) : Int) + (1 : Int)) = ((y17 : Nat) : Int))))))))))))) ∧ (((decide (((x6 : Nat) : Int) < (256 : Int))) = Bool.false) → ((((decide ((Proofs.Ytdjnhnfofajpcaa.shiftN a (256 : Int)) = (0 : Nat))) = Bool.true) ∧ ((decide ((Proofs.Ytdjnhnfofajpcaa.shiftN a (-256 : Int)) = (0 : Nat))) = Bool.true)) ∧ (R (AV.pv (PV.bool (decide ((Proofs.Ytdjnhnfofajpcaa.shiftN a (0 : Int)) = a)))))))))))))))))))) :
    awp [eAlive2, eMul, eShift, eBit, eOf] [(37, false), (42, false), (67, false), (85, true), (91, true)] [] [⟨0, Nat, fun _ i => i ≤ 256, fun i => shp 97 0 [(2, .box .u64 4 a), (5, .pv (.int .i64 n)), (11, .box .u64 4 (shiftN (shiftN a n) (-(n : Int)))), (12, .pv (.int .i64 i))], fun i => 256 - i⟩] 200 (Try.f6.body.getD .skip) (fnPost Try.f6.results.toList R) (begins [.pv (.words .u64 4 a), .pv (.nat .u8 n)] Try.f6.ntmps) :=
  Eq.mp (by kernel_rfl) (ai (ai tr (ai t2 tr)) (ai (ai t2 (ai t2 (ai t2 tr))) (ai t2 (ai (ai t2 (ai (ai (ai (fun (hk1 : ((64 : Int) = (0 : Int))) => (h.1.1.1 hk1)) h.1.1.2) tr) (ai t2 (ai (ai (ai (fun (hk2 : ((64 : Int) = (0 : Int))) => (h.1.2.1.1 hk2)) h.1.2.1.2) tr) (ai (ai h.1.2.2.1 tr) (ai (ai (ai h.1.2.2.2.1.1 h.1.2.2.2.1.2) tr) (ai h.1.2.2.2.2 tr))))))) (ai (ai t2 (ai t2 (ai t2 (ai t2 (ai t2 (ai t2 (ai tr (ai tr (ai tr t2))))))))) (ai (ai t2 (ai t2 (ai t2 (ai tr t2)))) (ai (ai t2 (ai t2 (ai (ai h.2.1 tr) (ai t2 (ai tr t2))))) (ai (ai t2 (ai t2 (ai t2 (ai t2 (ai t2 (ai t2 (ai t2 (ai (ai tr h.2.2.1) (ai t2 (ai t2 (ai t2 (ai t2 tr)))))))))))) (ai (fun (hk3 : ((Bool.not (decide ((Proofs.Ytdjnhnfofajpcaa.shiftN a (((n : Nat) : Int) - (256 : Int))) = ((a * (setw (0 : Nat) (Int.toNat (Int.tdiv ((n : Nat) : Int) (64 : Int))) (1 : Nat) (((1 : Nat) * ((2 : Nat) ^ (Int.toNat (Int.tmod ((n : Nat) : Int) (64 : Int))))) % (18446744073709551616 : Nat)))) / (115792089237316195423570985008687907853269984665640564039457584007913129639936 : Nat))))) = Bool.true)) => (ai (ai t2 tr) (h.2.2.2.1 hk3))) (fun (hk4 : ((Bool.not (decide ((Proofs.Ytdjnhnfofajpcaa.shiftN a (((n : Nat) : Int) - (256 : Int))) = ((a * (setw (0 : Nat) (Int.toNat (Int.tdiv ((n : Nat) : Int) (64 : Int))) (1 : Nat) (((1 : Nat) * ((2 : Nat) ^ (Int.toNat (Int.tmod ((n : Nat) : Int) (64 : Int))))) % (18446744073709551616 : Nat)))) / (115792089237316195423570985008687907853269984665640564039457584007913129639936 : Nat))))) = Bool.false)) => (ai (ai t2 (ai t2 (ai (ai (h.2.2.2.2 hk4).1 tr) (ai t2 (ai tr t2))))) (ai (ai t2 tr) (Exists.imp (fun o5 hq20 => (ai hq20.1 (ai (ai (Eq.refl a) (ai (Eq.refl ((n : Nat) : Int)) (ai (Eq.refl (Proofs.Ytdjnhnfofajpcaa.shiftN (Proofs.Ytdjnhnfofajpcaa.shiftN a ((n : Nat) : Int)) (-((n : Nat) : Int)))) (ai hq20.2.1 tr)))) (fun (x6 : Nat) => (fun (hk7 : (x6 ≤ (256 : Nat))) => (ai (ai t2 (ai t2 tr)) (ai (fun (hk8 : ((decide (((x6 : Nat) : Int) < (256 : Int))) = Bool.true)) => (ai (ai t2 (ai t2 (ai t2 (ai t2 tr)))) (ai (ai t2 (ai t2 (ai (ai (((hq20.2.2 x6) hk7).1 hk8).1 tr) (ai t2 tr)))) (ai (fun (hk9 : ((decide (((256 : Int) - ((n : Nat) : Int)) ≤ ((x6 : Nat) : Int))) = Bool.true)) => (ai (ai t2 tr) (ai (ai t2 (ai t2 (ai t2 (ai t2 (ai t2 (ai (ai tr ((((hq20.2.2 x6) hk7).1 hk8).2.1 hk9).1.1) (ai t2 (ai t2 (ai (ai ((((hq20.2.2 x6) hk7).1 hk8).2.1 hk9).1.2.1 tr) (ai t2 (ai t2 (ai t2 (ai t2 (ai t2 (ai t2 (ai (ai ((((hq20.2.2 x6) hk7).1 hk8).2.1 hk9).1.2.2 tr) (ai t2 (ai t2 (ai t2 tr))))))))))))))))))) (ai (fun (hk10 : ((Bool.not (decide ((if (((0 : Int) ≤ ((x6 : Nat) : Int)) ∧ (((x6 : Nat) : Int) < (256 : Int))) then (((Proofs.Ytdjnhnfofajpcaa.shiftN a (-((n : Nat) : Int))) / ((2 : Nat) ^ (Int.toNat ((x6 : Nat) : Int)))) % (2 : Nat)) else (0 : Nat)) = (if (((0 : Int) ≤ (((x6 : Nat) : Int) + ((n : Nat) : Int))) ∧ ((((x6 : Nat) : Int) + ((n : Nat) : Int)) < (256 : Int))) then ((a / ((2 : Nat) ^ (Int.toNat (((x6 : Nat) : Int) + ((n : Nat) : Int))))) % (2 : Nat)) else (0 : Nat))))) = Bool.true)) => (ai (ai t2 tr) (((((hq20.2.2 x6) hk7).1 hk8).2.1 hk9).2.1 hk10))) (fun (hk11 : ((Bool.not (decide ((if (((0 : Int) ≤ ((x6 : Nat) : Int)) ∧ (((x6 : Nat) : Int) < (256 : Int))) then (((Proofs.Ytdjnhnfofajpcaa.shiftN a (-((n : Nat) : Int))) / ((2 : Nat) ^ (Int.toNat ((x6 : Nat) : Int)))) % (2 : Nat)) else (0 : Nat)) = (if (((0 : Int) ≤ (((x6 : Nat) : Int) + ((n : Nat) : Int))) ∧ ((((x6 : Nat) : Int) + ((n : Nat) : Int)) < (256 : Int))) then ((a / ((2 : Nat) ^ (Int.toNat (((x6 : Nat) : Int) + ((n : Nat) : Int))))) % (2 : Nat)) else (0 : Nat))))) = Bool.false)) => (ai (ai t2 (ai (ai (((((hq20.2.2 x6) hk7).1 hk8).2.1 hk9).2.2 hk11).1 tr) (ai t2 tr))) (Exists.imp (fun y12 hq13 => (ai hq13.1 (ai hq13.2.1 (ai (Eq.refl a) (ai (Eq.refl ((n : Nat) : Int)) (ai (Eq.refl (Proofs.Ytdjnhnfofajpcaa.shiftN (Proofs.Ytdjnhnfofajpcaa.shiftN a ((n : Nat) : Int)) (-((n : Nat) : Int)))) (ai hq13.2.2 tr))))))) (((((hq20.2.2 x6) hk7).1 hk8).2.1 hk9).2.2 hk11).2))))))) (fun (hk14 : ((decide (((256 : Int) - ((n : Nat) : Int)) ≤ ((x6 : Nat) : Int))) = Bool.false)) => (ai (ai t2 (ai t2 (ai t2 (ai t2 (ai t2 (ai (ai tr ((((hq20.2.2 x6) hk7).1 hk8).2.2 hk14).1.1) (ai t2 (ai t2 (ai (ai ((((hq20.2.2 x6) hk7).1 hk8).2.2 hk14).1.2.1 tr) (ai t2 (ai t2 (ai t2 (ai t2 (ai t2 (ai t2 (ai (ai ((((hq20.2.2 x6) hk7).1 hk8).2.2 hk14).1.2.2 tr) (ai t2 (ai t2 (ai t2 tr))))))))))))))))))) (ai (fun (hk15 : ((Bool.not (decide ((if (((0 : Int) ≤ ((x6 : Nat) : Int)) ∧ (((x6 : Nat) : Int) < (256 : Int))) then (((Proofs.Ytdjnhnfofajpcaa.shiftN a (-((n : Nat) : Int))) / ((2 : Nat) ^ (Int.toNat ((x6 : Nat) : Int)))) % (2 : Nat)) else (0 : Nat)) = (if (((0 : Int) ≤ (((x6 : Nat) : Int) + ((n : Nat) : Int))) ∧ ((((x6 : Nat) : Int) + ((n : Nat) : Int)) < (256 : Int))) then ((a / ((2 : Nat) ^ (Int.toNat (((x6 : Nat) : Int) + ((n : Nat) : Int))))) % (2 : Nat)) else (0 : Nat))))) = Bool.true)) => (ai (ai t2 tr) (((((hq20.2.2 x6) hk7).1 hk8).2.2 hk14).2.1 hk15))) (fun (hk16 : ((Bool.not (decide ((if (((0 : Int) ≤ ((x6 : Nat) : Int)) ∧ (((x6 : Nat) : Int) < (256 : Int))) then (((Proofs.Ytdjnhnfofajpcaa.shiftN a (-((n : Nat) : Int))) / ((2 : Nat) ^ (Int.toNat ((x6 : Nat) : Int)))) % (2 : Nat)) else (0 : Nat)) = (if (((0 : Int) ≤ (((x6 : Nat) : Int) + ((n : Nat) : Int))) ∧ ((((x6 : Nat) : Int) + ((n : Nat) : Int)) < (256 : Int))) then ((a / ((2 : Nat) ^ (Int.toNat (((x6 : Nat) : Int) + ((n : Nat) : Int))))) % (2 : Nat)) else (0 : Nat))))) = Bool.false)) => (ai (ai t2 (ai (ai (((((hq20.2.2 x6) hk7).1 hk8).2.2 hk14).2.2 hk16).1 tr) (ai t2 tr))) (Exists.imp (fun y17 hq18 => (ai hq18.1 (ai hq18.2.1 (ai (Eq.refl a) (ai (Eq.refl ((n : Nat) : Int)) (ai (Eq.refl (Proofs.Ytdjnhnfofajpcaa.shiftN (Proofs.Ytdjnhnfofajpcaa.shiftN a ((n : Nat) : Int)) (-((n : Nat) : Int)))) (ai hq18.2.2 tr))))))) (((((hq20.2.2 x6) hk7).1 hk8).2.2 hk14).2.2 hk16).2)))))))))) (fun (hk19 : ((decide (((x6 : Nat) : Int) < (256 : Int))) = Bool.false)) => (ai (ai t2 (ai t2 (ai t2 (ai t2 (ai (ai tr (((hq20.2.2 x6) hk7).2 hk19).1.1) (ai t2 (ai t2 (ai t2 (ai t2 (ai t2 (ai (ai tr (((hq20.2.2 x6) hk7).2 hk19).1.2) (ai t2 (ai t2 (ai t2 (ai t2 (ai t2 (ai t2 tr))))))))))))))))) (((hq20.2.2 x6) hk7).2 hk19).2))))))))) (h.2.2.2.2 hk4).2)))))))))))))


/-- One bit, as limbs.Bit has it. -/
theorem bitN (x i : Nat) (h : i < 256) : (if 0 ≤ (i : Int) ∧ (i : Int) < 256 then x / 2 ^ (i : Int).toNat % 2 else 0) = (x.testBit i).toNat := by
  rw [if_pos ⟨by omega, by omega⟩, Int.toNat_natCast, Nat.toNat_testBit]

theorem back_high {a n i : Nat} (ha : a < W) (hi : i < 256) (h : 256 - (n : Int) ≤ i) : (shiftN (shiftN a n) (-(n : Int))).testBit i = false := by
  rw [shift_bit _ _ _ hi, high_bit (shift_lt ha) (by omega), Bool.and_false]
theorem back_low {a n i : Nat} (hi : i < 256) (h : ¬ 256 - (n : Int) ≤ i) : (shiftN (shiftN a n) (-(n : Int))).testBit i = a.testBit i := by
  rw [shift_bit _ _ _ hi, shift_bit _ _ _ (by omega), decide_eq_true (by omega), decide_eq_true (by omega), Bool.true_and, Bool.true_and]
  congr 1; omega
theorem right_bit {a n i : Nat} (ha : a < W) (hi : i < 256) : (if 0 ≤ (i : Int) ∧ (i : Int) < 256 then shiftN a (-(n : Int)) / 2 ^ (i : Int).toNat % 2 else 0) =
    (if 0 ≤ (i : Int) + n ∧ (i : Int) + n < 256 then a / 2 ^ ((i : Int) + n).toNat % 2 else 0) := by
  rw [bitN _ _ hi, shift_bit _ _ _ hi, decide_eq_true (by omega), Bool.true_and]
  have e : ((i : Int) - -(n : Int)).toNat = i + n := by omega
  rw [e]
  split
  · rw [show ((i : Int) + n).toNat = i + n by omega, Nat.toNat_testBit]
  · rw [high_bit ha (by omega)]; rfl

theorem two_math (n : Nat) (_ : n < 256) : setw 0 (n / 64) 1 (1 * 2 ^ (n % 64) % B) = 2 ^ n := by
  have h0 : setw 0 (n / 64) 1 (1 * 2 ^ (n % 64) % B) = 1 * 2 ^ (n % 64) % B * B ^ (n / 64) := by
    rw [setw_snoc 0 _ _ _ (Bp _), Nat.zero_add]
  rw [h0, Nat.one_mul, Nat.mod_eq_of_lt (show 2 ^ (n % 64) < B from Nat.pow_lt_pow_right (by decide) (Nat.mod_lt n (by decide))), Bpow, ← Nat.pow_add]
  congr 1; omega

theorem shift_left (a n : Nat) : shiftN a (n : Int) = a * 2 ^ n % W := by
  unfold shiftN; rw [if_pos (by omega), Int.toNat_natCast]
theorem shift_right (a n : Nat) (_ : n < 256) : shiftN a ((n : Int) - 256) = a * 2 ^ n / W := by
  unfold shiftN
  rw [if_neg (by omega), W_pow, show 2 ^ 256 = 2 ^ (-((n : Int) - 256)).toNat * 2 ^ n by rw [← Nat.pow_add]; congr 1; omega, Nat.mul_div_mul_right _ _ (Nat.two_pow_pos n)]

theorem shiftlaw_calls (a : Nat) (ha : WF .u64 4 a) (z : Int) (h1 : IntKind.min .u8 ≤ z) (h2 : z ≤ IntKind.max .u8) (w : World) :
    Calls PP 6 #[.agg (cells .u64 4 a), .int .u8 z] w fun e w' => e = .returned (.bool true) ∧ Below w.heap.size w w' := by
  simp [IntKind.min, IntKind.max, IntKind.signed, IntKind.bits] at h1 h2
  obtain ⟨n, rfl⟩ := Int.eq_ofNat_of_zero_le h1
  have hn : n < 256 := by omega
  refine law_calls (vs := [.agg (cells .u64 4 a), .int .u8 (n : Int)]) Try.func6 (by kernel_rfl) (TOK.cons eAlive2_ok (.cons eMul_ok (.cons eShift_ok (.cons eBit_ok (.cons eOf_ok .nil))))) [.pv (.words .u64 4 a), .pv (.nat .u8 n)] (by rw [Try.ntmps6]; simp)
    ⟨_, [], _, 200, shiftlaw_p a n _ ?_⟩ (.cons (argV_pv ⟨rfl, ha⟩) (.cons (argV_pv (PV.natR rfl hn)) .nil))
  have hW : a < W := ltW ha.1
  obtain ⟨d1, d2⟩ := tdiv_pos (n := (n : Int)) (by omega)
  have e1 : (n : Int) / 64 = ((n / 64 : Nat) : Int) := by omega
  have e2 : (n : Int) % 64 = ((n % 64 : Nat) : Int) := by omega
  rw [d1, d2, e1, e2, Int.toNat_natCast, Int.toNat_natCast, two_math n hn, ← shift_left, ← shift_right a n hn]
  refine ⟨⟨⟨by decide, i64_ok (by omega) (by omega)⟩, ⟨by decide, i64_ok (by omega) (by omega)⟩, by omega, ⟨by omega, by omega⟩, by omega⟩, i64_ok (by omega) (by omega), by simp, fun h => by simp at h, fun _ => 
    ⟨i64_ok (by omega) (by omega), 0, by decide, rfl, fun i hi => ⟨fun hl => ?_, fun hl => ?_⟩⟩⟩
  · have hl := of_decide_eq_true hl
    have hi : i < 256 := by omega
    refine ⟨i64_ok (by omega) (by omega), fun hg => ?_, fun hg => ?_⟩
    · have hg := of_decide_eq_true hg
      rw [bitN _ _ hi, back_high hW hi hg, right_bit hW hi]
      refine ⟨⟨by simp, i64_ok (by omega) (by omega), i64_ok (by omega) (by omega)⟩, fun h => by simp at h, fun _ => ⟨i64_ok (by omega) (by omega), i + 1, by omega, by omega, rfl⟩⟩
    · have hg := of_decide_eq_false hg
      rw [bitN _ _ hi, back_low hi hg, right_bit hW hi, bitN _ _ hi]
      refine ⟨⟨by simp, i64_ok (by omega) (by omega), i64_ok (by omega) (by omega)⟩, fun h => by simp at h, fun _ => ⟨i64_ok (by omega) (by omega), i + 1, by omega, by omega, rfl⟩⟩
  · refine ⟨⟨decide_eq_true (shift_high (by omega)), decide_eq_true (shift_low hW (by omega))⟩, rw_bool (decide_eq_true ?_)⟩
    have := shift_left a 0
    rw [Nat.pow_zero, Nat.mul_one, Nat.mod_eq_of_lt hW] at this
    exact this

theorem limbsShift_fact0 : (Rows.limbsShiftRow.wf (OpenSpec.ofChange Rows.limbsShiftSpec)) = true := by kernel_rfl
theorem limbsShift_fact3 : (Try.f6.params.all (Try.prog.readableRec ·)) = true := by kernel_rfl
theorem limbsShift_fact4 : (namedTie Try.prog Rows.limbsShiftRow.named Rows.limbsShiftSpec.vars) = true := by kernel_rfl
theorem limbsShift_fact5 : ((Rows.limbsShiftRow.stops == [])) = true := by kernel_rfl
theorem limbsShift_fact7 : ((Rows.limbsShiftRow.knobs == [])) = true := by kernel_rfl
theorem limbsShift_fact9 : ((Rows.limbsShiftRow.inPlace == Try.prog.inPlace 6)) = true := by kernel_rfl
theorem limbsShift_fact10 : ((Rows.limbsShiftRow.unfollowed == Try.prog.unfollowed 6)) = true := by kernel_rfl
theorem limbsShift_fact11 : ((Rows.limbsShiftRow.recurses == Try.prog.recurses 6)) = true := by kernel_rfl
theorem limbsShift_fact12 : ((Rows.limbsShiftRow.named == Try.prog.varsNamed 6)) = true := by kernel_rfl
theorem limbsShift_fact13 : ((Rows.limbsShiftRow.maps == (Try.f6.params.toList ++ Rows.limbsShiftSpec.plain.varTypes Try.prog).any (Try.prog.mapsRec ·))) = true := by kernel_rfl
theorem limbsShift_fact14 : ((Rows.limbsShiftRow.ifaces == (Try.f6.params.toList ++ Rows.limbsShiftSpec.plain.varTypes Try.prog).any (Try.prog.ifacesRec ·))) = true := by kernel_rfl
theorem limbsShift_fact15 : ((Rows.limbsShiftRow.mapsOut == Try.prog.mapsAmong Try.f6.resultTypes.toList)) = true := by kernel_rfl
theorem limbsShift_fact16 : ((Rows.limbsShiftRow.loops == (Try.f6.params.toList ++ Rows.limbsShiftSpec.plain.varTypes Try.prog).any (Try.prog.loopsFrom ·))) = true := by kernel_rfl
theorem limbsShift_fact17 : ((Rows.limbsShiftRow.wideKeys == (Try.f6.params.toList ++ Rows.limbsShiftSpec.plain.varTypes Try.prog ++ Try.f6.resultTypes.toList).any (Try.prog.wideKeysFrom ·))) = true := by kernel_rfl
theorem limbsShift_fact18 : (Rows.limbsShiftSpec.vars.all (Try.prog.varReadable ·)) = true := by kernel_rfl
theorem limbsShift_fact19 : (Try.f6.resultTypes.all (fun t => Try.prog.readableRec t && decide (t < Try.prog.types.size))) = true := by kernel_rfl
theorem limbsShift_fact20 : ((Rows.limbsShiftRow.ifacesOut == Try.f6.resultTypes.toList.any (Try.prog.ifacesRec ·))) = true := by kernel_rfl
theorem limbsShift_fact21 : ((Rows.limbsShiftRow.loopsOut == Try.f6.resultTypes.toList.any (Try.prog.loopsFrom ·))) = true := by kernel_rfl
theorem limbsShift_fact22 : ((Rows.limbsShiftRow.plainKeys == Try.prog.plainKeys)) = true := by kernel_rfl
theorem limbsShift_fact23 : (Rows.limbsShiftRow.shortTexts.isNone) = true := by kernel_rfl
theorem limbsShift_fact26 : ((Rows.limbsShiftRow.lifted == Try.prog.liftsFinal)) = true := by rw [final_ok _ _ io_words]; rfl
theorem limbsShift_fact27 : ((Try.prog.make == some Rows.limbsShiftRow.make)) = true := by rw [make_ok _ _ io_words]; rfl
theorem limbsShift_fact29 : ((Rows.limbsShiftRow.pinned == Rows.limbsShiftRow.pinnedBy)) = true := by kernel_rfl
theorem limbsShift_fact30 : ((Rows.limbsShiftRow.veiled == (Try.f6.params.toList ++ Rows.limbsShiftSpec.plain.varTypes Try.prog ++ Try.f6.resultTypes.toList).any (Try.prog.veiledRec ·))) = true := by kernel_rfl
theorem limbsShift_fact31 : (Rows.limbsShiftRow.veiledFits Try.prog Try.f6.params.toList (Try.f6.params.toList ++ Rows.limbsShiftSpec.plain.varTypes Try.prog ++ Try.f6.resultTypes.toList)) = true := by kernel_rfl
theorem limbsShift_facts : joinedFacts Try.prog 6 Try.f6 Rows.limbsShiftSpec Rows.limbsShiftRow = true := by
  unfold joinedFacts
  exact (and_t (and_t (and_t (and_t (and_t (and_t (and_t (and_t (and_t (and_t (and_t (and_t (and_t (and_t (and_t (and_t (and_t (and_t (and_t (and_t (and_t (and_t (and_t (and_t (and_t (and_t (and_t (and_t (and_t (and_t (and_t limbsShift_fact0 pfact1) pfact2) limbsShift_fact3) limbsShift_fact4) limbsShift_fact5) pfact6) limbsShift_fact7) pfact8) limbsShift_fact9) limbsShift_fact10) limbsShift_fact11) limbsShift_fact12) limbsShift_fact13) limbsShift_fact14) limbsShift_fact15) limbsShift_fact16) limbsShift_fact17) limbsShift_fact18) limbsShift_fact19) limbsShift_fact20) limbsShift_fact21) limbsShift_fact22) limbsShift_fact23) pfact24) pfact25) limbsShift_fact26) limbsShift_fact27) (kinds_ok rfl rfl)) limbsShift_fact29) limbsShift_fact30) limbsShift_fact31)

set_option maxRecDepth 100000 in
theorem limbsShift_lifted (os : Os) (started : os.Started) (H : Type) (enc : TypeId × Value → H) :
    ReturnsInHanded {} Try.checked os 6 .any (Rows.limbsShiftSpec.pre6 enc Try.prog Try.f6 Rows.limbsShiftRow.domain false) (Rows.limbsShiftSpec.post enc Try.prog Try.f6 false true false false) := by
  refine returnsInHanded_of_change (C := Try.checked) Try.own started (by kernel_rfl) Try.func6
    (ChangeSpec.witness6 (enc := enc) (C := Try.checked) false ⟨#[], #[.agg (cells .u64 4 0), .int .u8 0], []⟩ 8 (by kernel_rfl) (by kernel_rfl) (by kernel_rfl) (by kernel_rfl)) ?_
  intro W base args ds gs before hval0 hW hcnd _
  have hval : ∀ (j : Nat) t v, Try.f6.params[j]? = some t → args[j]? = some v → Value.okWide Try.prog W .any base t v := hval0
  have hW' := hW
  obtain ⟨p, q, hA0, hV, rfl, hfz, hnd⟩ := hW
  have hA : DataW.TrodAll enc Try.prog W 0 (fun _ => true) true Try.f6.params.toList args.toList ds p := hA0
  rw [Try.params6] at hA hval
  have hAA := hA
  obtain ⟨v0, vs0, d0, ds0, p0, q0, hargs, rfl, rfl, h0, r0⟩ := trodAll_cons hA
  obtain ⟨v1, vs1, d1, ds1, p1, q1, rfl, rfl, rfl, h1, r1⟩ := trodAll_cons r0
  obtain ⟨rfl, rfl, rfl⟩ := trodAll_nil r1
  obtain rfl : args = #[v0, v1] := by cases args; simp_all
  obtain ⟨rfl, rfl⟩ := trodVars_none hV
  obtain ⟨x0, rfl, w0, rfl⟩ := open24 (hval 0 24 v0 rfl rfl) h0
  obtain ⟨x1, rfl, w1, y1, rfl⟩ := openInt u5 (hval 1 5 v1 rfl rfl) h1
  refine (shiftlaw_calls x0 w0 x1 w1 y1 W).mono fun e W' ⟨he, hb⟩ => ?_
  subst he
  exact ⟨_, rfl, post_true hW' Try.laidOut u4 hAA (by decide +kernel) (by kernel_rfl) rfl rfl hb⟩

theorem limbsShift_holds : Rows.LimbsShiftSaid :=
  OpenClaim.holds_of_wide 6 Try.f6 rfl rfl rfl rfl rfl rfl rfl ⟨rfl, rfl, rfl, rfl, rfl⟩ rfl rfl rfl rfl rfl (by kernel_rfl) Try.func6 limbsShift_facts
    (of_decide_eq_true (by kernel_rfl)) (by unfold Func.isWrapper; first | (rw [if_pos (by decide +kernel)]; kernel_rfl) | (rw [if_neg (by decide +kernel)]; exact ⟨rfl, rfl⟩))
    (fun os started H enc _ => limbsShift_lifted os started H enc)
#print axioms limbsShift_holds

end Go.Proofs.Ytdjnhnfofajpcaa
