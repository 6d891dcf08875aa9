/- The law LimbsBits, out of the evaluator. -/
import Derived.Test.YtdjnhnfofajpcaaF5
import Derived.Test.YtdjnhnfofajpcaaR1
namespace Go.Proofs.Ytdjnhnfofajpcaa
open Go Go.Proofs Go.ChangeShapes Go.WideShapes Go.ChangeAt Go.RowKit Av

theorem bitslaw_p (a b : Nat) (R : AV → Prop) (h : (∃ o1 : Nat, ((o1 ≤ (256 : Nat)) ∧ ((((0 : Nat) = (a % ((2 : Nat) ^ o1))) ∧ ((0 : Int) = ((o1 : Nat) : Int))) ∧ (∀ x2 : Nat, ((x2 ≤ (256 : Nat)) → ((((decide (((x2 : Nat) : Int) < (256 : Int))) = Bool.true) → ((((decide ((if (((0 : Int) ≤ ((x2 : Nat) : Int)) ∧ (((x2 : Nat) : Int) < (256 : Int))) then ((a / ((2 : Nat) ^ (Int.toNat ((x2 : Nat) : Int)))) % (2 : Nat)) else (0 : Nat)) = (1 : Nat))) = Bool.true) → ((((decide ((((bitLen a) : Nat) : Int) ≤ ((x2 : Nat) : Int))) = Bool.true) → (R (AV.pv (PV.blit Bool.false)))) ∧ (((decide ((((bitLen a) : Nat) : Int) ≤ ((x2 : Nat) : Int))) = Bool.false) → (((IntKind.wrap IntKind.i64 (((x2 : Nat) : Int) + (1 : Int))) = (((x2 : Nat) : Int) + (1 : Int))) ∧ (∃ y8 : Nat, ((y8 ≤ (256 : Nat)) ∧ (((((256 : Nat) - y8) + (1 : Nat)) ≤ ((256 : Nat) - x2)) ∧ (((((a % ((2 : Nat) ^ x2)) + (Proofs.Ytdjnhnfofajpcaa.shiftN (1 : Nat) ((x2 : Nat) : Int))) % (115792089237316195423570985008687907853269984665640564039457584007913129639936 : Nat)) = (a % ((2 : Nat) ^ y8))) ∧ ((((x2 : Nat) : Int) + (1 : Int)) = ((y8 : Nat) : Int)))))))))) ∧ (((decide ((if (((0 : Int) ≤ ((x2 : Nat) : Int)) ∧ (((x2 : Nat) : Int) < (256 : Int))) then ((a / ((2 : Nat) ^ (Int.toNat ((x2 : Nat) : Int)))) % (2 : Nat)) else (0 : Nat)) = (1 : Nat))) = Bool.false) → (((IntKind.wrap IntKind.i64 (((x2 : Nat) : Int) + (1 : Int))) = (((x2 : Nat) : Int) + (1 : Int))) ∧ (∃ y11 : Nat, ((y11 ≤ (256 : Nat)) ∧ (((((256 : Nat) - y11) + (1 : Nat)) ≤ ((256 : Nat) - x2)) ∧ (((a % ((2 : Nat) ^ x2)) = (a % ((2 : Nat) ^ y11))) ∧ ((((x2 : Nat) : Int) + (1 : Int)) = ((y11 : Nat) : Int)))))))))) ∧ (((decide (((x2 : Nat) : Int) < (256 : Int))) = Bool.false) → ((((decide ((((bitLen a) : Nat) : Int) = (0 : Int))) = Bool.true) → ((((decide ((((bitLen a) : Nat) : Int) ≤ (((bitLen b) : Nat) : Int))) = Bool.true) → ((((decide ((((bitLen b) : Nat) : Int) ≤ (((bitLen a) : Nat) : Int))) = Bool.true) → (((decide ((a % ((2 : Nat) ^ x2)) = a)) = Bool.true) ∧ (R (AV.pv (PV.blit Bool.true))))) ∧ (((decide ((((bitLen b) : Nat) : Int) ≤ (((bitLen a) : Nat) : Int))) = Bool.false) → (((decide ((a % ((2 : Nat) ^ x2)) = a)) = Bool.true) ∧ (R (AV.pv (PV.bool (decide ((if (a < b) then (-1 : Int) else (if (a = b) then (0 : Int) else (1 : Int))) = (-1 : Int)))))))))) ∧ (((decide ((((bitLen a) : Nat) : Int) ≤ (((bitLen b) : Nat) : Int))) = Bool.false) → ((((decide ((((bitLen b) : Nat) : Int) ≤ (((bitLen a) : Nat) : Int))) = Bool.true) → ((((decide ((a % ((2 : Nat) ^ x2)) = a)) = Bool.true) ∧ ((decide ((if (a < b) then (-1 : Int) else (if (a = b) then (0 : Int) else (1 : Int))) = (1 : Int))) = Bool.true)) ∧ (R (AV.pv (PV.blit Bool.true))))) ∧ (((decide ((((bitLen b) : Nat) : Int) ≤ (((bitLen a) : Nat) : Int))) = Bool.false) → ((((decide ((a % ((2 : Nat) ^ x2)) = a)) = Bool.true) ∧ ((decide ((if (a < b) then (-1 : Int) else (if (a = b) then (0 : Int) else (1 : Int))) = (1 : Int))) = Bool.true)) ∧ (R (AV.pv (PV.bool (decide ((if (a < b) then (-1 : Int) else (if (a = b) then (0 : Int) else (1 : Int))) = (-1 : Int)))))))))))) ∧ (((decide ((((bitLen a) : Nat) : Int) = (0 : Int))) = Bool.false) → ((((decide ((((bitLen a) : Nat) : Int) ≤ (((bitLen b) : Nat) : Int))) = Bool.true) → ((((decide ((((bitLen b) : Nat) : Int) ≤ (((bitLen a) : Nat) : Int))) = Bool.true) → ((((decide ((a % ((2 : Nat) ^ x2)) = a)) = Bool.true) ∧ (((IntKind.wrap IntKind.i64 ((((bitLen a) : Nat) : Int) - (1 : Int))) = ((((bitLen a) : Nat) : Int) - (1 : Int))) ∧ ((decide ((if (((0 : Int) ≤ ((((bitLen a) : Nat) : Int) - (1 : Int))) ∧ (((((bitLen a) : Nat) : Int) - (1 : Int)) < (256 : Int))) then ((a / ((2 : Nat) ^ (Int.toNat ((((bitLen a) : Nat) : Int) - (1 : Int))))) % (2 : Nat)) else (0 : Nat)) = (1 : Nat))) = Bool.true))) ∧ (R (AV.pv (PV.blit Bool.true))))) ∧ (((decide ((((bitLen b) : Nat) : Int) ≤ (((bitLen a) : Nat) : Int))) = Bool.false) → ((((decide ((a % ((2 : Nat) ^ x2)) = a)) = Bool.true) ∧ (((IntKind.wrap IntKind.i64 ((((bitLen a) : Nat) : Int) - (1 : Int))) = ((((bitLen a) : Nat) : Int) - (1 : Int))) ∧ ((decide ((if (((0 : Int) ≤ ((((bitLen a) : Nat) : Int) - (1 : Int))) ∧ (((((bitLen a) : Nat) : Int) - (1 : Int)) < (256 : Int))) then ((a / ((2 : Nat) ^ (Int.toNat ((((bitLen a) : Nat) : Int) - (1 : Int))))) % (2 : Nat)) else (0 : Nat)) = (1 : Nat))) = Bool.true))) ∧ (R (AV.pv (PV.bool (decide ((if (a < b) then (-1 : Int) else (if (a = b) then (0 : Int) else (1 : Int))) = (-1 : Int)))))))))) ∧ (((decide ((((bitLen a) : Nat) : Int) ≤ (((bitLen b) : Nat) : Int))) = Bool.false) → ((((decide ((((bitLen b) : Nat) : Int) ≤ (((bitLen a) : Nat) : Int))) = Bool.true) → ((((decide ((a % ((2 : Nat) ^ x2)) = a)) = Bool.true) ∧ (((IntKind.wrap IntKind.i64 ((((bitLen a) : Nat) : Int) - (1 : Int))) = ((((bitLen a) : Nat) : Int) - (1 : Int))) ∧ (((decide ((if (((0 : Int) ≤ ((((bitLen a) : Nat) : Int) - (1 : Int))) ∧ (((((bitLen a) : Nat) : Int) - (1 : Int)) < (256 : Int))) then ((a / ((2 : Nat) ^ (Int.toNat ((((bitLen a) : Nat) : Int) - (1 : Int))))) % (2 : Nat)) else (0 : Nat)) = (1 : Nat))) = Bool.true) ∧ ((decide ((if (a < b) then (-1 : Int) else (if (a = b) then (0 : Int) else (1 : Int))) = (1 : Int))) = Bool.true)))) ∧ (R (AV.pv (PV.blit Bool.true))))) ∧ (((decide ((((bitLen b) : Nat) : Int) ≤ (((bitLen a) : Nat) : Int))) = Bool.false) → ((((decide ((a % ((2 : Nat) ^ x2)) = a)) = Bool.true) ∧ (((IntKind.wrap IntKind.i64 ((((bitLen a) : Nat) : Int) - (1 : Int))) = ((((bitLen a) : Nat) : Int) - (1 : Int))) ∧ (((decide ((if (((0 : Int) ≤ ((((bitLen a) : Nat) : Int) - (1 : Int))) ∧ (((((bitLen a) : Nat) : Int) - (1 : Int)) < (256 : Int))) then ((a / ((2 : Nat) ^ (Int.toNat ((((bitLen a) : Nat) : Int) - (1 : Int))))) % (2 : Nat)) else (0 : Nat)) = (1 : Nat))) = Bool.true) ∧ ((decide ((if (a < b) then (-1 : Int) else (if (a = b) then (0 : Int) else (1 : Int))) = (1 : Int))) = Bool.true)))) ∧ (R (AV.pv (PV.bool (decide ((if (a < b) then (-1 : Int) else (if (a = b) then (0 : Int) else (1 : Int))) = (-1 : Int))))))))))))))))))))) :
    awp [eAlive2, eBits, eAdd, eShift, eBit, eOf, eCmp] [(34, true), (39, true), (50, true), (61, true)] [42, 54, 65] [⟨0, Nat, fun _ i => i ≤ 256, fun i => shp 72 0 [(2, .box .u64 4 a), (3, .box .u64 4 b), (5, .pv (.int .i64 (bitLen a))), (6, .box .u64 4 (a % 2 ^ i)), (7, .pv (.int .i64 i))], fun i => 256 - i⟩] 200 (Try.f7.body.getD .skip) (fnPost Try.f7.results.toList R) (begins [.pv (.words .u64 4 a), .pv (.words .u64 4 b)] Try.f7.ntmps) :=
  Eq.mp (by kernel_rfl) (ai (ai tr (ai tr (ai t2 tr))) (ai (ai t2 (ai t2 (ai t2 tr))) (ai (ai t2 (ai tr t2)) (ai (ai t2 tr) (Exists.imp (fun o1 hq28 => (ai hq28.1 (ai (ai (Eq.refl a) (ai (Eq.refl b) (ai (Eq.refl (((bitLen a) : Nat) : Int)) (ai hq28.2.1.1 (ai hq28.2.1.2 tr))))) (fun (x2 : Nat) => (fun (hk3 : (x2 ≤ (256 : Nat))) => (ai (ai t2 (ai t2 tr)) (ai (fun (hk4 : ((decide (((x2 : Nat) : Int) < (256 : Int))) = Bool.true)) => (ai (ai t2 (ai t2 (ai t2 (ai t2 tr)))) (ai (fun (hk5 : ((decide ((if (((0 : Int) ≤ ((x2 : Nat) : Int)) ∧ (((x2 : Nat) : Int) < (256 : Int))) then ((a / ((2 : Nat) ^ (Int.toNat ((x2 : Nat) : Int)))) % (2 : Nat)) else (0 : Nat)) = (1 : Nat))) = Bool.true)) => (ai (ai t2 (ai t2 (ai t2 tr))) (ai (fun (hk6 : ((decide ((((bitLen a) : Nat) : Int) ≤ ((x2 : Nat) : Int))) = Bool.true)) => (ai (ai t2 tr) (((((hq28.2.2 x2) hk3).1 hk4).1 hk5).1 hk6))) (fun (hk7 : ((decide ((((bitLen a) : Nat) : Int) ≤ ((x2 : Nat) : Int))) = Bool.false)) => (ai (ai t2 (ai t2 (ai t2 (ai t2 (ai t2 (ai t2 (ai t2 (ai t2 t2)))))))) (ai (ai t2 (ai (ai (((((hq28.2.2 x2) hk3).1 hk4).1 hk5).2 hk7).1 tr) (ai t2 tr))) (Exists.imp (fun y8 hq9 => (ai hq9.1 (ai hq9.2.1 (ai (Eq.refl a) (ai (Eq.refl b) (ai (Eq.refl (((bitLen a) : Nat) : Int)) (ai hq9.2.2.1 (ai hq9.2.2.2 tr)))))))) (((((hq28.2.2 x2) hk3).1 hk4).1 hk5).2 hk7).2))))))) (fun (hk10 : ((decide ((if (((0 : Int) ≤ ((x2 : Nat) : Int)) ∧ (((x2 : Nat) : Int) < (256 : Int))) then ((a / ((2 : Nat) ^ (Int.toNat ((x2 : Nat) : Int)))) % (2 : Nat)) else (0 : Nat)) = (1 : Nat))) = Bool.false)) => (ai (ai t2 (ai (ai ((((hq28.2.2 x2) hk3).1 hk4).2 hk10).1 tr) (ai t2 tr))) (Exists.imp (fun y11 hq12 => (ai hq12.1 (ai hq12.2.1 (ai (Eq.refl a) (ai (Eq.refl b) (ai (Eq.refl (((bitLen a) : Nat) : Int)) (ai hq12.2.2.1 (ai hq12.2.2.2 tr)))))))) ((((hq28.2.2 x2) hk3).1 hk4).2 hk10).2)))))) (fun (hk13 : ((decide (((x2 : Nat) : Int) < (256 : Int))) = Bool.false)) => (ai (ai t2 (ai t2 (ai t2 tr))) (ai (fun (hk14 : ((decide ((((bitLen a) : Nat) : Int) = (0 : Int))) = Bool.true)) => (ai (fun (hk15 : ((decide ((((bitLen a) : Nat) : Int) ≤ (((bitLen b) : Nat) : Int))) = Bool.true)) => (ai (fun (hk16 : ((decide ((((bitLen b) : Nat) : Int) ≤ (((bitLen a) : Nat) : Int))) = Bool.true)) => (ai (ai t2 (ai t2 (ai t2 (ai t2 (ai t2 (ai t2 (ai (ai tr ((((((hq28.2.2 x2) hk3).2 hk13).1 hk14).1 hk15).1 hk16).1) (ai t2 (ai t2 (ai (ai tr hk14) (ai tr (ai tr (ai tr (ai tr (ai tr (ai t2 (ai t2 (ai t2 (ai t2 (ai t2 (ai t2 (ai (ai tr hk15) (ai tr (ai tr (ai tr (ai tr (ai t2 (ai t2 (ai t2 (ai t2 (ai t2 (ai t2 (ai (ai tr hk16) (ai tr (ai tr (ai tr (ai tr (ai t2 (ai t2 (ai t2 tr)))))))))))))))))))))))))))))))))))))))) ((((((hq28.2.2 x2) hk3).2 hk13).1 hk14).1 hk15).1 hk16).2)) (fun (hk17 : ((decide ((((bitLen b) : Nat) : Int) ≤ (((bitLen a) : Nat) : Int))) = Bool.false)) => (ai (ai t2 (ai t2 (ai t2 (ai t2 (ai t2 (ai t2 (ai (ai tr ((((((hq28.2.2 x2) hk3).2 hk13).1 hk14).1 hk15).2 hk17).1) (ai t2 (ai t2 (ai (ai tr hk14) (ai tr (ai tr (ai tr (ai tr (ai tr (ai t2 (ai t2 (ai t2 (ai t2 (ai t2 (ai t2 (ai (ai tr hk15) (ai tr (ai tr (ai tr (ai tr (ai t2 (ai t2 (ai t2 (ai t2 (ai t2 (ai t2 (ai (ai tr hk17) (ai t2 (ai t2 (ai t2 (ai t2 (ai t2 (ai t2 (ai t2 tr)))))))))))))))))))))))))))))))))))))))) ((((((hq28.2.2 x2) hk3).2 hk13).1 hk14).1 hk15).2 hk17).2)))) (fun (hk18 : ((decide ((((bitLen a) : Nat) : Int) ≤ (((bitLen b) : Nat) : Int))) = Bool.false)) => (ai (fun (hk19 : ((decide ((((bitLen b) : Nat) : Int) ≤ (((bitLen a) : Nat) : Int))) = Bool.true)) => (ai (ai t2 (ai t2 (ai t2 (ai t2 (ai t2 (ai t2 (ai (ai tr ((((((hq28.2.2 x2) hk3).2 hk13).1 hk14).2 hk18).1 hk19).1.1) (ai t2 (ai t2 (ai (ai tr hk14) (ai tr (ai tr (ai tr (ai tr (ai tr (ai t2 (ai t2 (ai t2 (ai t2 (ai t2 (ai t2 (ai (ai tr hk18) (ai t2 (ai t2 (ai t2 (ai t2 (ai t2 (ai t2 (ai (ai tr ((((((hq28.2.2 x2) hk3).2 hk13).1 hk14).2 hk18).1 hk19).1.2) (ai t2 (ai t2 (ai t2 (ai (ai tr hk19) (ai tr (ai tr (ai tr (ai tr (ai t2 (ai t2 (ai t2 tr)))))))))))))))))))))))))))))))))))))))) ((((((hq28.2.2 x2) hk3).2 hk13).1 hk14).2 hk18).1 hk19).2)) (fun (hk20 : ((decide ((((bitLen b) : Nat) : Int) ≤ (((bitLen a) : Nat) : Int))) = Bool.false)) => (ai (ai t2 (ai t2 (ai t2 (ai t2 (ai t2 (ai t2 (ai (ai tr ((((((hq28.2.2 x2) hk3).2 hk13).1 hk14).2 hk18).2 hk20).1.1) (ai t2 (ai t2 (ai (ai tr hk14) (ai tr (ai tr (ai tr (ai tr (ai tr (ai t2 (ai t2 (ai t2 (ai t2 (ai t2 (ai t2 (ai (ai tr hk18) (ai t2 (ai t2 (ai t2 (ai t2 (ai t2 (ai t2 (ai (ai tr ((((((hq28.2.2 x2) hk3).2 hk13).1 hk14).2 hk18).2 hk20).1.2) (ai t2 (ai t2 (ai t2 (ai (ai tr hk20) (ai t2 (ai t2 (ai t2 (ai t2 (ai t2 (ai t2 (ai t2 tr)))))))))))))))))))))))))))))))))))))))) ((((((hq28.2.2 x2) hk3).2 hk13).1 hk14).2 hk18).2 hk20).2)))))) (fun (hk21 : ((decide ((((bitLen a) : Nat) : Int) = (0 : Int))) = Bool.false)) => (ai (fun (hk22 : ((decide ((((bitLen a) : Nat) : Int) ≤ (((bitLen b) : Nat) : Int))) = Bool.true)) => (ai (fun (hk23 : ((decide ((((bitLen b) : Nat) : Int) ≤ (((bitLen a) : Nat) : Int))) = Bool.true)) => (ai (ai t2 (ai t2 (ai t2 (ai t2 (ai t2 (ai t2 (ai (ai tr ((((((hq28.2.2 x2) hk3).2 hk13).2 hk21).1 hk22).1 hk23).1.1) (ai t2 (ai t2 (ai (ai tr hk21) (ai t2 (ai t2 (ai (ai ((((((hq28.2.2 x2) hk3).2 hk13).2 hk21).1 hk22).1 hk23).1.2.1 tr) (ai t2 (ai t2 (ai t2 (ai t2 (ai (ai tr ((((((hq28.2.2 x2) hk3).2 hk13).2 hk21).1 hk22).1 hk23).1.2.2) (ai t2 (ai t2 (ai t2 (ai (ai tr hk22) (ai tr (ai tr (ai tr (ai tr (ai t2 (ai t2 (ai t2 (ai t2 (ai t2 (ai t2 (ai (ai tr hk23) (ai tr (ai tr (ai tr (ai tr (ai t2 (ai t2 (ai t2 tr)))))))))))))))))))))))))))))))))))))))) ((((((hq28.2.2 x2) hk3).2 hk13).2 hk21).1 hk22).1 hk23).2)) (fun (hk24 : ((decide ((((bitLen b) : Nat) : Int) ≤ (((bitLen a) : Nat) : Int))) = Bool.false)) => (ai (ai t2 (ai t2 (ai t2 (ai t2 (ai t2 (ai t2 (ai (ai tr ((((((hq28.2.2 x2) hk3).2 hk13).2 hk21).1 hk22).2 hk24).1.1) (ai t2 (ai t2 (ai (ai tr hk21) (ai t2 (ai t2 (ai (ai ((((((hq28.2.2 x2) hk3).2 hk13).2 hk21).1 hk22).2 hk24).1.2.1 tr) (ai t2 (ai t2 (ai t2 (ai t2 (ai (ai tr ((((((hq28.2.2 x2) hk3).2 hk13).2 hk21).1 hk22).2 hk24).1.2.2) (ai t2 (ai t2 (ai t2 (ai (ai tr hk22) (ai tr (ai tr (ai tr (ai tr (ai t2 (ai t2 (ai t2 (ai t2 (ai t2 (ai t2 (ai (ai tr hk24) (ai t2 (ai t2 (ai t2 (ai t2 (ai t2 (ai t2 (ai t2 tr)))))))))))))))))))))))))))))))))))))))) ((((((hq28.2.2 x2) hk3).2 hk13).2 hk21).1 hk22).2 hk24).2)))) (fun (hk25 : ((decide ((((bitLen a) : Nat) : Int) ≤ (((bitLen b) : Nat) : Int))) = Bool.false)) => (ai (fun (hk26 : ((decide ((((bitLen b) : Nat) : Int) ≤ (((bitLen a) : Nat) : Int))) = Bool.true)) => (ai (ai t2 (ai t2 (ai t2 (ai t2 (ai t2 (ai t2 (ai (ai tr ((((((hq28.2.2 x2) hk3).2 hk13).2 hk21).2 hk25).1 hk26).1.1) (ai t2 (ai t2 (ai (ai tr hk21) (ai t2 (ai t2 (ai (ai ((((((hq28.2.2 x2) hk3).2 hk13).2 hk21).2 hk25).1 hk26).1.2.1 tr) (ai t2 (ai t2 (ai t2 (ai t2 (ai (ai tr ((((((hq28.2.2 x2) hk3).2 hk13).2 hk21).2 hk25).1 hk26).1.2.2.1) (ai t2 (ai t2 (ai t2 (ai (ai tr hk25) (ai t2 (ai t2 (ai t2 (ai t2 (ai t2 (ai t2 (ai (ai tr ((((((hq28.2.2 x2) hk3).2 hk13).2 hk21).2 hk25).1 hk26).1.2.2.2) (ai t2 (ai t2 (ai t2 (ai (ai tr hk26) (ai tr (ai tr (ai tr (ai tr (ai t2 (ai t2 (ai t2 tr)))))))))))))))))))))))))))))))))))))))) ((((((hq28.2.2 x2) hk3).2 hk13).2 hk21).2 hk25).1 hk26).2)) (fun (hk27 : ((decide ((((bitLen b) : Nat) : Int) ≤ (((bitLen a) : Nat) : Int))) = Bool.false)) => (ai (ai t2 (ai t2 (ai t2 (ai t2 (ai t2 (ai t2 (ai (ai tr ((((((hq28.2.2 x2) hk3).2 hk13).2 hk21).2 hk25).2 hk27).1.1) (ai t2 (ai t2 (ai (ai tr hk21) (ai t2 (ai t2 (ai (ai ((((((hq28.2.2 x2) hk3).2 hk13).2 hk21).2 hk25).2 hk27).1.2.1 tr) (ai t2 (ai t2 (ai t2 (ai t2 (ai (ai tr ((((((hq28.2.2 x2) hk3).2 hk13).2 hk21).2 hk25).2 hk27).1.2.2.1) (ai t2 (ai t2 (ai t2 (ai (ai tr hk25) (ai t2 (ai t2 (ai t2 (ai t2 (ai t2 (ai t2 (ai (ai tr ((((((hq28.2.2 x2) hk3).2 hk13).2 hk21).2 hk25).2 hk27).1.2.2.2) (ai t2 (ai t2 (ai t2 (ai (ai tr hk27) (ai t2 (ai t2 (ai t2 (ai t2 (ai t2 (ai t2 (ai t2 tr)))))))))))))))))))))))))))))))))))))))) ((((((hq28.2.2 x2) hk3).2 hk13).2 hk21).2 hk25).2 hk27).2)))))))))))))))) h)))))


theorem bitN' (x i : Nat) (h : i < 256) : (if 0 ≤ (i : Int) ∧ (i : Int) < 256 then x / 2 ^ (i : Int).toNat % 2 else 0) = x / 2 ^ i % 2 := by
  rw [if_pos ⟨by omega, by omega⟩, Int.toNat_natCast]
theorem bit_low {a i : Nat} (h : a / 2 ^ i % 2 = 1) : i < bitLen a := by
  refine Nat.lt_of_not_le fun hl => ?_
  have h1 := (bitLen_spec a).1
  have h2 : a < 2 ^ i := Nat.lt_of_lt_of_le h1 (Nat.pow_le_pow_right (by decide) hl)
  rw [Nat.div_eq_of_lt h2] at h
  cases h
theorem bit_high {a : Nat} (h : bitLen a ≠ 0) : a / 2 ^ (bitLen a - 1) % 2 = 1 := by
  have h0 : a ≠ 0 := by intro h0; subst h0; exact h rfl
  obtain ⟨h1, h2⟩ := bitLen_spec a
  have h2 := h2 h0
  have h3 : 2 ^ bitLen a = 2 ^ (bitLen a - 1) * 2 := by rw [← Nat.pow_succ]; congr 1; omega
  rw [h3] at h1
  have h4 : a / 2 ^ (bitLen a - 1) = 1 := by
    refine Nat.le_antisymm ?_ ?_
    · exact Nat.le_of_lt_succ ((Nat.div_lt_iff_lt_mul (Nat.two_pow_pos _)).2 (by rw [Nat.mul_comm]; exact h1))
    · exact (Nat.le_div_iff_mul_le (Nat.two_pow_pos _)).2 (by rw [Nat.one_mul]; exact h2)
  rw [h4]
theorem longer {a b : Nat} (h : bitLen b < bitLen a) : b < a := by
  have h0 : a ≠ 0 := by intro h0; subst h0; exact absurd h (Nat.not_lt_zero _)
  have h1 := (bitLen_spec b).1
  have h2 := (bitLen_spec a).2 h0
  exact Nat.lt_of_lt_of_le h1 (Nat.le_trans (Nat.pow_le_pow_right (by decide) (by omega)) h2)
theorem sum_bit {a i : Nat} (ha : a < W) (hi : i < 256) (h : a / 2 ^ i % 2 = 1) : (a % 2 ^ i + shiftN 1 (i : Int)) % W = a % 2 ^ (i + 1) := by
  have h1 : shiftN 1 (i : Int) = 2 ^ i := by
    unfold shiftN
    rw [if_pos (by omega), Int.toNat_natCast, Nat.one_mul, Nat.mod_eq_of_lt]
    rw [W_pow]; exact Nat.pow_lt_pow_right (by decide) hi
  have h2 : a % 2 ^ (i + 1) = a % 2 ^ i + 2 ^ i := by rw [Nat.mod_pow_succ, h, Nat.mul_one]
  rw [h1, ← h2, Nat.mod_eq_of_lt (Nat.lt_of_le_of_lt (Nat.mod_le _ _) ha)]
theorem sum_none {a i : Nat} (h : a / 2 ^ i % 2 ≠ 1) : a % 2 ^ i = a % 2 ^ (i + 1) := by
  have h2 : a / 2 ^ i % 2 = 0 := by omega
  rw [Nat.mod_pow_succ, h2, Nat.mul_zero, Nat.add_zero]

theorem bitslaw_calls (a : Nat) (ha : WF .u64 4 a) (b : Nat) (hb : WF .u64 4 b) (w : World) :
    Calls PP 7 #[.agg (cells .u64 4 a), .agg (cells .u64 4 b)] w fun e w' => e = .returned (.bool true) ∧ Below w.heap.size w w' := by
  refine law_calls (vs := [.agg (cells .u64 4 a), .agg (cells .u64 4 b)]) Try.func7 (by kernel_rfl) (TOK.cons eAlive2_ok (.cons eBits_ok (.cons eAdd_ok (.cons eShift_ok (.cons eBit_ok (.cons eOf_ok (.cons eCmp_ok .nil))))))) [.pv (.words .u64 4 a), .pv (.words .u64 4 b)] (by rw [Try.ntmps7]; simp)
    ⟨_, _, _, 200, bitslaw_p a b _ ?_⟩ (.cons (argV_pv ⟨rfl, ha⟩) (.cons (argV_pv ⟨rfl, hb⟩) .nil))
  have hW : a < W := ltW ha.1
  have hA : bitLen a ≤ 256 := bitLen_le 256 a (by rw [← W_pow]; exact hW)
  have fb : ¬ ((bitLen a : Int) = 0) → IntKind.wrap .i64 ((bitLen a : Int) - 1) = (bitLen a : Int) - 1 ∧ decide ((if 0 ≤ (bitLen a : Int) - 1 ∧ (bitLen a : Int) - 1 < 256 then a / 2 ^ ((bitLen a : Int) - 1).toNat % 2 else 0) = 1) = true := by
    intro h
    refine ⟨i64_ok (by omega) (by omega), decide_eq_true ?_⟩
    rw [if_pos ⟨by omega, by omega⟩, show ((bitLen a : Int) - 1).toNat = bitLen a - 1 by omega]
    exact bit_high (by omega)
  have fl : ¬ ((bitLen b : Int) ≤ (bitLen a : Int)) → decide ((if a < b then (-1 : Int) else if a = b then 0 else 1) = -1) = true := by
    intro h
    rw [if_pos (longer (by omega))]; decide
  have fg : ¬ ((bitLen a : Int) ≤ (bitLen b : Int)) → decide ((if a < b then (-1 : Int) else if a = b then 0 else 1) = 1) = true := by
    intro h
    have := longer (a := a) (b := b) (by omega)
    rw [if_neg (by omega), if_neg (by omega)]; decide
  refine ⟨0, by decide, ⟨by rw [Nat.pow_zero, Nat.mod_one], rfl⟩, fun i hi => ⟨fun hl => ?_, fun hl => ?_⟩⟩
  · have hl := of_decide_eq_true hl
    have hi : i < 256 := by omega
    rw [bitN' _ _ hi]
    refine ⟨fun h => ⟨fun h2 => ?_, fun _ => ⟨i64_ok (by omega) (by omega), i + 1, by omega, by omega, sum_bit hW hi (of_decide_eq_true h), rfl⟩⟩, fun h => ⟨i64_ok (by omega) (by omega), i + 1, by omega, by omega, sum_none (of_decide_eq_false h), rfl⟩⟩
    have h2 := of_decide_eq_true h2
    have := bit_low (of_decide_eq_true h)
    omega
  · have hl := of_decide_eq_false hl
    obtain rfl : i = 256 := by omega
    have f0 : decide (a % 2 ^ 256 = a) = true := decide_eq_true (Nat.mod_eq_of_lt hW)
    refine ⟨fun h => ⟨fun h2 => ⟨fun h3 => ⟨f0, rfl⟩, fun h3 => ⟨f0, rw_bool (fl (of_decide_eq_false h3))⟩⟩, fun h2 => ⟨fun h3 => ⟨⟨f0, fg (of_decide_eq_false h2)⟩, rfl⟩, fun h3 => ⟨⟨f0, fg (of_decide_eq_false h2)⟩, rw_bool (fl (of_decide_eq_false h3))⟩⟩⟩,
      fun h => ⟨fun h2 => ⟨fun h3 => ⟨⟨f0, fb (of_decide_eq_false h)⟩, rfl⟩, fun h3 => ⟨⟨f0, fb (of_decide_eq_false h)⟩, rw_bool (fl (of_decide_eq_false h3))⟩⟩,
        fun h2 => ⟨fun h3 => ⟨⟨f0, (fb (of_decide_eq_false h)).1, (fb (of_decide_eq_false h)).2, fg (of_decide_eq_false h2)⟩, rfl⟩, fun h3 => ⟨⟨f0, (fb (of_decide_eq_false h)).1, (fb (of_decide_eq_false h)).2, fg (of_decide_eq_false h2)⟩, rw_bool (fl (of_decide_eq_false h3))⟩⟩⟩⟩

theorem limbsBits_fact0 : (Rows.limbsBitsRow.wf (OpenSpec.ofChange Rows.limbsBitsSpec)) = true := by kernel_rfl
theorem limbsBits_fact3 : (Try.f7.params.all (Try.prog.readableRec ·)) = true := by kernel_rfl
theorem limbsBits_fact4 : (namedTie Try.prog Rows.limbsBitsRow.named Rows.limbsBitsSpec.vars) = true := by kernel_rfl
theorem limbsBits_fact5 : ((Rows.limbsBitsRow.stops == [])) = true := by kernel_rfl
theorem limbsBits_fact7 : ((Rows.limbsBitsRow.knobs == [])) = true := by kernel_rfl
theorem limbsBits_fact9 : ((Rows.limbsBitsRow.inPlace == Try.prog.inPlace 7)) = true := by kernel_rfl
theorem limbsBits_fact10 : ((Rows.limbsBitsRow.unfollowed == Try.prog.unfollowed 7)) = true := by kernel_rfl
theorem limbsBits_fact11 : ((Rows.limbsBitsRow.recurses == Try.prog.recurses 7)) = true := by kernel_rfl
theorem limbsBits_fact12 : ((Rows.limbsBitsRow.named == Try.prog.varsNamed 7)) = true := by kernel_rfl
theorem limbsBits_fact13 : ((Rows.limbsBitsRow.maps == (Try.f7.params.toList ++ Rows.limbsBitsSpec.plain.varTypes Try.prog).any (Try.prog.mapsRec ·))) = true := by kernel_rfl
theorem limbsBits_fact14 : ((Rows.limbsBitsRow.ifaces == (Try.f7.params.toList ++ Rows.limbsBitsSpec.plain.varTypes Try.prog).any (Try.prog.ifacesRec ·))) = true := by kernel_rfl
theorem limbsBits_fact15 : ((Rows.limbsBitsRow.mapsOut == Try.prog.mapsAmong Try.f7.resultTypes.toList)) = true := by kernel_rfl
theorem limbsBits_fact16 : ((Rows.limbsBitsRow.loops == (Try.f7.params.toList ++ Rows.limbsBitsSpec.plain.varTypes Try.prog).any (Try.prog.loopsFrom ·))) = true := by kernel_rfl
theorem limbsBits_fact17 : ((Rows.limbsBitsRow.wideKeys == (Try.f7.params.toList ++ Rows.limbsBitsSpec.plain.varTypes Try.prog ++ Try.f7.resultTypes.toList).any (Try.prog.wideKeysFrom ·))) = true := by kernel_rfl
theorem limbsBits_fact18 : (Rows.limbsBitsSpec.vars.all (Try.prog.varReadable ·)) = true := by kernel_rfl
theorem limbsBits_fact19 : (Try.f7.resultTypes.all (fun t => Try.prog.readableRec t && decide (t < Try.prog.types.size))) = true := by kernel_rfl
theorem limbsBits_fact20 : ((Rows.limbsBitsRow.ifacesOut == Try.f7.resultTypes.toList.any (Try.prog.ifacesRec ·))) = true := by kernel_rfl
theorem limbsBits_fact21 : ((Rows.limbsBitsRow.loopsOut == Try.f7.resultTypes.toList.any (Try.prog.loopsFrom ·))) = true := by kernel_rfl
theorem limbsBits_fact22 : ((Rows.limbsBitsRow.plainKeys == Try.prog.plainKeys)) = true := by kernel_rfl
theorem limbsBits_fact23 : (Rows.limbsBitsRow.shortTexts.isNone) = true := by kernel_rfl
theorem limbsBits_fact26 : ((Rows.limbsBitsRow.lifted == Try.prog.liftsFinal)) = true := by rw [final_ok _ _ io_words]; rfl
theorem limbsBits_fact27 : ((Try.prog.make == some Rows.limbsBitsRow.make)) = true := by rw [make_ok _ _ io_words]; rfl
theorem limbsBits_fact29 : ((Rows.limbsBitsRow.pinned == Rows.limbsBitsRow.pinnedBy)) = true := by kernel_rfl
theorem limbsBits_fact30 : ((Rows.limbsBitsRow.veiled == (Try.f7.params.toList ++ Rows.limbsBitsSpec.plain.varTypes Try.prog ++ Try.f7.resultTypes.toList).any (Try.prog.veiledRec ·))) = true := by kernel_rfl
theorem limbsBits_fact31 : (Rows.limbsBitsRow.veiledFits Try.prog Try.f7.params.toList (Try.f7.params.toList ++ Rows.limbsBitsSpec.plain.varTypes Try.prog ++ Try.f7.resultTypes.toList)) = true := by kernel_rfl
theorem limbsBits_facts : joinedFacts Try.prog 7 Try.f7 Rows.limbsBitsSpec Rows.limbsBitsRow = true := by
  unfold joinedFacts
  exact (and_t (and_t (and_t (and_t (and_t (and_t (and_t (and_t (and_t (and_t (and_t (and_t (and_t (and_t (and_t (and_t (and_t (and_t (and_t (and_t (and_t (and_t (and_t (and_t (and_t (and_t (and_t (and_t (and_t (and_t (and_t limbsBits_fact0 pfact1) pfact2) limbsBits_fact3) limbsBits_fact4) limbsBits_fact5) pfact6) limbsBits_fact7) pfact8) limbsBits_fact9) limbsBits_fact10) limbsBits_fact11) limbsBits_fact12) limbsBits_fact13) limbsBits_fact14) limbsBits_fact15) limbsBits_fact16) limbsBits_fact17) limbsBits_fact18) limbsBits_fact19) limbsBits_fact20) limbsBits_fact21) limbsBits_fact22) limbsBits_fact23) pfact24) pfact25) limbsBits_fact26) limbsBits_fact27) (kinds_ok rfl rfl)) limbsBits_fact29) limbsBits_fact30) limbsBits_fact31)

set_option maxRecDepth 100000 in
theorem limbsBits_lifted (os : Os) (started : os.Started) (H : Type) (enc : TypeId × Value → H) :
    ReturnsInHanded {} Try.checked os 7 .any (Rows.limbsBitsSpec.pre6 enc Try.prog Try.f7 Rows.limbsBitsRow.domain false) (Rows.limbsBitsSpec.post enc Try.prog Try.f7 false true false false) := by
  refine returnsInHanded_of_change (C := Try.checked) Try.own started (by kernel_rfl) Try.func7
    (ChangeSpec.witness6 (enc := enc) (C := Try.checked) false ⟨#[], #[.agg (cells .u64 4 0), .agg (cells .u64 4 0)], []⟩ 8 (by kernel_rfl) (by kernel_rfl) (by kernel_rfl) (by kernel_rfl)) ?_
  intro W base args ds gs before hval0 hW hcnd _
  have hval : ∀ (j : Nat) t v, Try.f7.params[j]? = some t → args[j]? = some v → Value.okWide Try.prog W .any base t v := hval0
  have hW' := hW
  obtain ⟨p, q, hA0, hV, rfl, hfz, hnd⟩ := hW
  have hA : DataW.TrodAll enc Try.prog W 0 (fun _ => true) true Try.f7.params.toList args.toList ds p := hA0
  rw [Try.params7] at hA hval
  have hAA := hA
  obtain ⟨v0, vs0, d0, ds0, p0, q0, hargs, rfl, rfl, h0, r0⟩ := trodAll_cons hA
  obtain ⟨v1, vs1, d1, ds1, p1, q1, rfl, rfl, rfl, h1, r1⟩ := trodAll_cons r0
  obtain ⟨rfl, rfl, rfl⟩ := trodAll_nil r1
  obtain rfl : args = #[v0, v1] := by cases args; simp_all
  obtain ⟨rfl, rfl⟩ := trodVars_none hV
  obtain ⟨x0, rfl, w0, rfl⟩ := open24 (hval 0 24 v0 rfl rfl) h0
  obtain ⟨x1, rfl, w1, rfl⟩ := open24 (hval 1 24 v1 rfl rfl) h1
  refine (bitslaw_calls x0 w0 x1 w1 W).mono fun e W' ⟨he, hb⟩ => ?_
  subst he
  exact ⟨_, rfl, post_true hW' Try.laidOut u4 hAA (by decide +kernel) (by kernel_rfl) rfl rfl hb⟩

theorem limbsBits_holds : Rows.LimbsBitsSaid :=
  OpenClaim.holds_of_wide 7 Try.f7 rfl rfl rfl rfl rfl rfl rfl ⟨rfl, rfl, rfl, rfl, rfl⟩ rfl rfl rfl rfl rfl (by kernel_rfl) Try.func7 limbsBits_facts
    (of_decide_eq_true (by kernel_rfl)) (by unfold Func.isWrapper; first | (rw [if_pos (by decide +kernel)]; kernel_rfl) | (rw [if_neg (by decide +kernel)]; exact ⟨rfl, rfl⟩))
    (fun os started H enc _ => limbsBits_lifted os started H enc)
#print axioms limbsBits_holds

end Go.Proofs.Ytdjnhnfofajpcaa
