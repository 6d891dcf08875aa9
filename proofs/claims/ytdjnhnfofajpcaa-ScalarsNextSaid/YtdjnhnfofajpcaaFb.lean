/- Contracts of the reference's Wide, and of both Commons. -/
import Derived.Test.YtdjnhnfofajpcaaFa
namespace Go.Proofs.Ytdjnhnfofajpcaa
open Go Go.Proofs Av

def eRWide : Entry := mk 56 [.n 4, .n 4, .n 4] fun (low high m : Nat) => (.tup2 (.words .u64 4 (if m = 0 then 0 else (high * W + low) % m)) (.int .i64 (if m = 0 then 1 else 0)), True)
def eCommon : Entry := mk 57 [.n 4, .n 4] fun (a b : Nat) => (.pv (.words .u64 4 (Nat.gcd a b)), True)
def eRCommon : Entry := mk 58 [.n 4, .n 4] fun (a b : Nat) => (.pv (.words .u64 4 (Nat.gcd a b)), True)

theorem rwide_p (low high m : Nat) (R : AV → Prop) (h : ((((decide (m = (0 : Nat))) = Bool.true) → (R (AV.tup2 (PV.words IntKind.u64 (4 : Nat) (0 : Nat)) (PV.lit IntKind.i64 (1 : Int))))) ∧ (((decide (m = (0 : Nat))) = Bool.false) → ((((decide (m < (18446744073709551616 : Nat))) = Bool.true) → (∃ o4 : (Nat × Nat), (((o4.1 ≤ (8 : Nat)) ∧ (Proofs.Ytdjnhnfofajpcaa.LeftW ((high * (115792089237316195423570985008687907853269984665640564039457584007913129639936 : Nat)) + low) m o4.1 o4.2)) ∧ ((((0 : Nat) = o4.2) ∧ ((7 : Int) = (((o4.1 : Nat) : Int) - (1 : Int)))) ∧ (∀ x5 : (Nat × Nat), (((x5.1 ≤ (8 : Nat)) ∧ (Proofs.Ytdjnhnfofajpcaa.LeftW ((high * (115792089237316195423570985008687907853269984665640564039457584007913129639936 : Nat)) + low) m x5.1 x5.2)) → ((((decide ((0 : Int) ≤ (((x5.1 : Nat) : Int) - (1 : Int)))) = Bool.true) → ((((((4 : Int) = (0 : Int)) → False) ∧ ((IntKind.wrap IntKind.i64 (Int.tmod (((x5.1 : Nat) : Int) - (1 : Int)) (4 : Int))) = (Int.tmod (((x5.1 : Nat) : Int) - (1 : Int)) (4 : Int)))) ∧ ((((0 : Int) ≤ (Int.tmod (((x5.1 : Nat) : Int) - (1 : Int)) (4 : Int))) ∧ (((Int.tmod (((x5.1 : Nat) : Int) - (1 : Int)) (4 : Int)) + (1 : Int)) ≤ (4 : Int))) ∧ (((Int.toNat (Int.tmod (((x5.1 : Nat) : Int) - (1 : Int)) (4 : Int))) + (1 : Nat)) ≤ (4 : Nat)))) ∧ ((((decide ((4 : Int) ≤ (((x5.1 : Nat) : Int) - (1 : Int)))) = Bool.true) → ((((IntKind.wrap IntKind.i64 ((((x5.1 : Nat) : Int) - (1 : Int)) - (4 : Int))) = ((((x5.1 : Nat) : Int) - (1 : Int)) - (4 : Int))) ∧ ((((0 : Int) ≤ ((((x5.1 : Nat) : Int) - (1 : Int)) - (4 : Int))) ∧ ((((((x5.1 : Nat) : Int) - (1 : Int)) - (4 : Int)) + (1 : Int)) ≤ (4 : Int))) ∧ (((Int.toNat ((((x5.1 : Nat) : Int) - (1 : Int)) - (4 : Int))) + (1 : Nat)) ≤ (4 : Nat)))) ∧ (((x5.2 + (1 : Nat)) ≤ ((m / (1 : Nat)) % (18446744073709551616 : Nat))) ∧ (((IntKind.wrap IntKind.i64 ((((x5.1 : Nat) : Int) - (1 : Int)) - (1 : Int))) = ((((x5.1 : Nat) : Int) - (1 : Int)) - (1 : Int))) ∧ (∃ y10 : (Nat × Nat), (((y10.1 ≤ (8 : Nat)) ∧ (Proofs.Ytdjnhnfofajpcaa.LeftW ((high * (115792089237316195423570985008687907853269984665640564039457584007913129639936 : Nat)) + low) m y10.1 y10.2)) ∧ (((y10.1 + (1 : Nat)) ≤ x5.1) ∧ (((((x5.2 * (18446744073709551616 : Nat)) + ((high / ((18446744073709551616 : Nat) ^ (Int.toNat ((((x5.1 : Nat) : Int) - (1 : Int)) - (4 : Int))))) % (18446744073709551616 : Nat))) % ((m / (1 : Nat)) % (18446744073709551616 : Nat))) = y10.2) ∧ (((((x5.1 : Nat) : Int) - (1 : Int)) - (1 : Int)) = (((y10.1 : Nat) : Int) - (1 : Int))))))))))) ∧ (((decide ((4 : Int) ≤ (((x5.1 : Nat) : Int) - (1 : Int)))) = Bool.false) → (((x5.2 + (1 : Nat)) ≤ ((m / (1 : Nat)) % (18446744073709551616 : Nat))) ∧ (((IntKind.wrap IntKind.i64 ((((x5.1 : Nat) : Int) - (1 : Int)) - (1 : Int))) = ((((x5.1 : Nat) : Int) - (1 : Int)) - (1 : Int))) ∧ (∃ y13 : (Nat × Nat), (((y13.1 ≤ (8 : Nat)) ∧ (Proofs.Ytdjnhnfofajpcaa.LeftW ((high * (115792089237316195423570985008687907853269984665640564039457584007913129639936 : Nat)) + low) m y13.1 y13.2)) ∧ (((y13.1 + (1 : Nat)) ≤ x5.1) ∧ (((((x5.2 * (18446744073709551616 : Nat)) + ((low / ((18446744073709551616 : Nat) ^ (Int.toNat (Int.tmod (((x5.1 : Nat) : Int) - (1 : Int)) (4 : Int))))) % (18446744073709551616 : Nat))) % ((m / (1 : Nat)) % (18446744073709551616 : Nat))) = y13.2) ∧ (((((x5.1 : Nat) : Int) - (1 : Int)) - (1 : Int)) = (((y13.1 : Nat) : Int) - (1 : Int))))))))))))) ∧ (((decide ((0 : Int) ≤ (((x5.1 : Nat) : Int) - (1 : Int)))) = Bool.false) → (R (AV.tup2 (PV.words IntKind.u64 (4 : Nat) x5.2) (PV.lit IntKind.i64 (0 : Int)))))))))))) ∧ (((decide (m < (18446744073709551616 : Nat))) = Bool.false) → (∃ o18 : (Nat × Nat), (((o18.1 ≤ (256 : Nat)) ∧ (Proofs.Ytdjnhnfofajpcaa.Left ((high * (115792089237316195423570985008687907853269984665640564039457584007913129639936 : Nat)) + low) m ((256 : Nat) + o18.1) o18.2)) ∧ ((((0 : Nat) = o18.2) ∧ ((255 : Int) = (((o18.1 : Nat) : Int) - (1 : Int)))) ∧ (∀ x19 : (Nat × Nat), (((x19.1 ≤ (256 : Nat)) ∧ (Proofs.Ytdjnhnfofajpcaa.Left ((high * (115792089237316195423570985008687907853269984665640564039457584007913129639936 : Nat)) + low) m ((256 : Nat) + x19.1) x19.2)) → ((((decide ((0 : Int) ≤ (((x19.1 : Nat) : Int) - (1 : Int)))) = Bool.true) → ((((x19.2 + (1 : Nat)) ≤ m) ∧ ((if (((0 : Int) ≤ (((x19.1 : Nat) : Int) - (1 : Int))) ∧ ((((x19.1 : Nat) : Int) - (1 : Int)) < (256 : Int))) then ((high / ((2 : Nat) ^ (Int.toNat (((x19.1 : Nat) : Int) - (1 : Int))))) % (2 : Nat)) else (0 : Nat)) ≤ (1 : Nat))) ∧ (((IntKind.wrap IntKind.i64 ((((x19.1 : Nat) : Int) - (1 : Int)) - (1 : Int))) = ((((x19.1 : Nat) : Int) - (1 : Int)) - (1 : Int))) ∧ (∃ y22 : (Nat × Nat), (((y22.1 ≤ (256 : Nat)) ∧ (Proofs.Ytdjnhnfofajpcaa.Left ((high * (115792089237316195423570985008687907853269984665640564039457584007913129639936 : Nat)) + low) m ((256 : Nat) + y22.1) y22.2)) ∧ (((y22.1 + (1 : Nat)) ≤ x19.1) ∧ (((((x19.2 * (2 : Nat)) + (if (((0 : Int) ≤ (((x19.1 : Nat) : Int) - (1 : Int))) ∧ ((((x19.1 : Nat) : Int) - (1 : Int)) < (256 : Int))) then ((high / ((2 : Nat) ^ (Int.toNat (((x19.1 : Nat) : Int) - (1 : Int))))) % (2 : Nat)) else (0 : Nat))) % m) = y22.2) ∧ (((((x19.1 : Nat) : Int) - (1 : Int)) - (1 : Int)) = (((y22.1 : Nat) : Int) - (1 : Int)))))))))) ∧ (((decide ((0 : Int) ≤ (((x19.1 : Nat) : Int) - (1 : Int)))) = Bool.false) → (∃ o25 : (Nat × Nat), (((o25.1 ≤ (256 : Nat)) ∧ (Proofs.Ytdjnhnfofajpcaa.Left ((high * (115792089237316195423570985008687907853269984665640564039457584007913129639936 : Nat)) + low) m o25.1 o25.2)) ∧ (((x19.2 = o25.2) ∧ ((255 : Int) = (((o25.1 : Nat) : Int) - (1 : Int)))) ∧ (∀ x26 : (Nat × Nat), (((x26.1 ≤ (256 : Nat)) ∧ (Proofs.Ytdjnhnfofajpcaa.Left ((high * (115792089237316195423570985008687907853269984665640564039457584007913129639936 : Nat)) + low) m x26.1 x26.2)) → ((((decide ((0 : Int) ≤ (((x26.1 : Nat) : Int) - (1 : Int)))) = Bool.true) → ((((x26.2 + (1 : Nat)) ≤ m) ∧ ((if (((0 : Int) ≤ (((x26.1 : Nat) : Int) - (1 : Int))) ∧ ((((x26.1 : Nat) : Int) - (1 : Int)) < (256 : Int))) then ((low / ((2 : Nat) ^ (Int.toNat (((x26.1 : Nat) : Int) - (1 : Int))))) % (2 : Nat)) else (0 : Nat)) ≤ (1 : Nat))) ∧ (((IntKind.wrap IntKind.i64 ((((x26.1 : Nat) : Int) - (1 : Int)) - (1 : Int))) = ((((x26.1 : Nat) : Int) - (1 : Int)) - (1 : Int))) ∧ (∃ y29 : (Nat × Nat), (((y29.1 ≤ (256 : Nat)) ∧ (Proofs.Ytdjnhnfofajpcaa.Left ((high * (115792089237316195423570985008687907853269984665640564039457584007913129639936 : Nat)) + low) m y29.1 y29.2)) ∧ (((y29.1 + (1 : Nat)) ≤ x26.1) ∧ (((((x26.2 * (2 : Nat)) + (if (((0 : Int) ≤ (((x26.1 : Nat) : Int) - (1 : Int))) ∧ ((((x26.1 : Nat) : Int) - (1 : Int)) < (256 : Int))) then ((low / ((2 : Nat) ^ (Int.toNat (((x26.1 : Nat) : Int) - (1 : Int))))) % (2 : Nat)) else (0 : Nat))) % m) = y29.2) ∧ (((((x26.1 : Nat) : Int) - (1 : Int)) - (1 : Int)) = (((y29.1 : Nat) : Int) - (1 : Int)))))))))) ∧ (((decide ((0 : Int) ≤ (((x26.1 : Nat) : Int) - (1 : Int)))) = Bool.false) → (R (AV.tup2 (PV.words IntKind.u64 (4 : Nat) x26.2) (PV.lit IntKind.i64 (0 : Int))))))))))))))))))))))) :
    awp [eWord, eDiv64, eROf, eRBit, eTwice] [] [] [⟨0, Nat × Nat, fun _ x => x.1 ≤ 8 ∧ LeftW (high * W + low) m x.1 x.2, fun x => shp 65 0 [(3, .box .u64 4 low), (4, .box .u64 4 high), (5, .box .u64 4 m), (6, .box .u64 4 0), (8, .pv (.nat .u64 x.2)), (9, .pv (.int .i64 ((x.1 : Int) - 1)))], fun x => x.1⟩,  ⟨2, Nat × Nat, fun _ x => x.1 ≤ 256 ∧ Left (high * W + low) m (256 + x.1) x.2, fun x => shp 65 0 [(3, .box .u64 4 low), (4, .box .u64 4 high), (5, .box .u64 4 m), (6, .box .u64 4 0), (11, .box .u64 4 x.2), (12, .pv (.int .i64 ((x.1 : Int) - 1)))], fun x => x.1⟩,  ⟨4, Nat × Nat, fun _ x => x.1 ≤ 256 ∧ Left (high * W + low) m x.1 x.2, fun x => shp 65 0 [(3, .box .u64 4 low), (4, .box .u64 4 high), (5, .box .u64 4 m), (6, .box .u64 4 0), (11, .box .u64 4 x.2), (13, .pv (.int .i64 ((x.1 : Int) - 1)))], fun x => x.1⟩]  400 (Try.f56.body.getD .skip) (fnPost Try.f56.results.toList R) (begins [.pv (.words .u64 4 low), .pv (.words .u64 4 high), .pv (.words .u64 4 m)] Try.f56.ntmps) :=
  Eq.mp (by kernel_rfl) (ai (ai tr (ai tr (ai tr (ai tr (ai t2 tr))))) (ai (ai t2 (ai t2 (ai t2 tr))) (ai (fun (hk1 : ((decide (m = (0 : Nat))) = Bool.true)) => (ai (ai t2 (ai tr (ai t2 tr))) (h.1 hk1))) (fun (hk2 : ((decide (m = (0 : Nat))) = Bool.false)) => (ai (ai t2 (ai t2 tr)) (ai (fun (hk3 : ((decide (m < (18446744073709551616 : Nat))) = Bool.true)) => (ai (ai t2 tr) (ai (ai t2 tr) (Exists.imp (fun o4 hq16 => (ai (ai hq16.1.1 hq16.1.2) (ai (ai (Eq.refl low) (ai (Eq.refl high) (ai (Eq.refl m) (ai (Eq.refl (0 : Nat)) (ai hq16.2.1.1 (ai hq16.2.1.2 tr)))))) (fun (x5 : (Nat × Nat)) => (fun (hk6 : ((x5.1 ≤ (8 : Nat)) ∧ (Proofs.Ytdjnhnfofajpcaa.LeftW ((high * (115792089237316195423570985008687907853269984665640564039457584007913129639936 : Nat)) + low) m x5.1 x5.2))) => (ai (ai t2 (ai t2 tr)) (ai (fun (hk7 : ((decide ((0 : Int) ≤ (((x5.1 : Nat) : Int) - (1 : Int)))) = Bool.true)) => (ai (ai t2 (ai (ai (ai (fun (hk8 : ((4 : Int) = (0 : Int))) => ((((hq16.2.2 x5) hk6).1 hk7).1.1.1 hk8)) (((hq16.2.2 x5) hk6).1 hk7).1.1.2) tr) (ai (ai (ai (((hq16.2.2 x5) hk6).1 hk7).1.2.1.1 (((hq16.2.2 x5) hk6).1 hk7).1.2.1.2) tr) (ai (ai (((hq16.2.2 x5) hk6).1 hk7).1.2.2 tr) (ai t2 tr))))) (ai (ai t2 (ai t2 tr)) (ai (fun (hk9 : ((decide ((4 : Int) ≤ (((x5.1 : Nat) : Int) - (1 : Int)))) = Bool.true)) => (ai (ai t2 (ai (ai ((((hq16.2.2 x5) hk6).1 hk7).2.1 hk9).1.1 tr) (ai (ai (ai ((((hq16.2.2 x5) hk6).1 hk7).2.1 hk9).1.2.1.1 ((((hq16.2.2 x5) hk6).1 hk7).2.1 hk9).1.2.1.2) tr) (ai (ai ((((hq16.2.2 x5) hk6).1 hk7).2.1 hk9).1.2.2 tr) (ai t2 tr))))) (ai (ai t2 (ai t2 (ai (ai (ai (show ((0 : Int) ≤ (0 : Int)) from by decide) (show ((1 : Int) ≤ (4 : Int)) from by decide)) tr) (ai (ai (show ((1 : Nat) ≤ (4 : Nat)) from by decide) tr) (ai (ai ((((hq16.2.2 x5) hk6).1 hk7).2.1 hk9).2.1 tr) (ai t2 (ai t2 (ai t2 (ai t2 tr))))))))) (ai (ai t2 (ai (ai ((((hq16.2.2 x5) hk6).1 hk7).2.1 hk9).2.2.1 tr) (ai t2 tr))) (Exists.imp (fun y10 hq11 => (ai (ai hq11.1.1 hq11.1.2) (ai hq11.2.1 (ai (Eq.refl low) (ai (Eq.refl high) (ai (Eq.refl m) (ai (Eq.refl (0 : Nat)) (ai hq11.2.2.1 (ai hq11.2.2.2 tr))))))))) ((((hq16.2.2 x5) hk6).1 hk7).2.1 hk9).2.2.2))))) (fun (hk12 : ((decide ((4 : Int) ≤ (((x5.1 : Nat) : Int) - (1 : Int)))) = Bool.false)) => (ai (ai t2 (ai t2 (ai (ai (ai (show ((0 : Int) ≤ (0 : Int)) from by decide) (show ((1 : Int) ≤ (4 : Int)) from by decide)) tr) (ai (ai (show ((1 : Nat) ≤ (4 : Nat)) from by decide) tr) (ai (ai ((((hq16.2.2 x5) hk6).1 hk7).2.2 hk12).1 tr) (ai t2 (ai t2 (ai t2 (ai t2 tr))))))))) (ai (ai t2 (ai (ai ((((hq16.2.2 x5) hk6).1 hk7).2.2 hk12).2.1 tr) (ai t2 tr))) (Exists.imp (fun y13 hq14 => (ai (ai hq14.1.1 hq14.1.2) (ai hq14.2.1 (ai (Eq.refl low) (ai (Eq.refl high) (ai (Eq.refl m) (ai (Eq.refl (0 : Nat)) (ai hq14.2.2.1 (ai hq14.2.2.2 tr))))))))) ((((hq16.2.2 x5) hk6).1 hk7).2.2 hk12).2.2)))))))) (fun (hk15 : ((decide ((0 : Int) ≤ (((x5.1 : Nat) : Int) - (1 : Int)))) = Bool.false)) => (ai (ai t2 (ai t2 (ai tr (ai t2 tr)))) (((hq16.2.2 x5) hk6).2 hk15)))))))))) ((h.2 hk2).1 hk3))))) (fun (hk17 : ((decide (m < (18446744073709551616 : Nat))) = Bool.false)) => (ai t2 (ai (ai t2 tr) (Exists.imp (fun o18 hq33 => (ai (ai hq33.1.1 hq33.1.2) (ai (ai (Eq.refl low) (ai (Eq.refl high) (ai (Eq.refl m) (ai (Eq.refl (0 : Nat)) (ai hq33.2.1.1 (ai hq33.2.1.2 tr)))))) (fun (x19 : (Nat × Nat)) => (fun (hk20 : ((x19.1 ≤ (256 : Nat)) ∧ (Proofs.Ytdjnhnfofajpcaa.Left ((high * (115792089237316195423570985008687907853269984665640564039457584007913129639936 : Nat)) + low) m ((256 : Nat) + x19.1) x19.2))) => (ai (ai t2 (ai t2 tr)) (ai (fun (hk21 : ((decide ((0 : Int) ≤ (((x19.1 : Nat) : Int) - (1 : Int)))) = Bool.true)) => (ai (ai t2 (ai t2 (ai t2 (ai t2 (ai t2 (ai (ai (ai (((hq33.2.2 x19) hk20).1 hk21).1.1 (((hq33.2.2 x19) hk20).1 hk21).1.2) tr) t2)))))) (ai (ai t2 (ai (ai (((hq33.2.2 x19) hk20).1 hk21).2.1 tr) (ai t2 tr))) (Exists.imp (fun y22 hq23 => (ai (ai hq23.1.1 hq23.1.2) (ai hq23.2.1 (ai (Eq.refl low) (ai (Eq.refl high) (ai (Eq.refl m) (ai (Eq.refl (0 : Nat)) (ai hq23.2.2.1 (ai hq23.2.2.2 tr))))))))) (((hq33.2.2 x19) hk20).1 hk21).2.2)))) (fun (hk24 : ((decide ((0 : Int) ≤ (((x19.1 : Nat) : Int) - (1 : Int)))) = Bool.false)) => (ai (ai t2 tr) (Exists.imp (fun o25 hq32 => (ai (ai hq32.1.1 hq32.1.2) (ai (ai (Eq.refl low) (ai (Eq.refl high) (ai (Eq.refl m) (ai (Eq.refl (0 : Nat)) (ai hq32.2.1.1 (ai hq32.2.1.2 tr)))))) (fun (x26 : (Nat × Nat)) => (fun (hk27 : ((x26.1 ≤ (256 : Nat)) ∧ (Proofs.Ytdjnhnfofajpcaa.Left ((high * (115792089237316195423570985008687907853269984665640564039457584007913129639936 : Nat)) + low) m x26.1 x26.2))) => (ai (ai t2 (ai t2 tr)) (ai (fun (hk28 : ((decide ((0 : Int) ≤ (((x26.1 : Nat) : Int) - (1 : Int)))) = Bool.true)) => (ai (ai t2 (ai t2 (ai t2 (ai t2 (ai t2 (ai (ai (ai (((hq32.2.2 x26) hk27).1 hk28).1.1 (((hq32.2.2 x26) hk27).1 hk28).1.2) tr) t2)))))) (ai (ai t2 (ai (ai (((hq32.2.2 x26) hk27).1 hk28).2.1 tr) (ai t2 tr))) (Exists.imp (fun y29 hq30 => (ai (ai hq30.1.1 hq30.1.2) (ai hq30.2.1 (ai (Eq.refl low) (ai (Eq.refl high) (ai (Eq.refl m) (ai (Eq.refl (0 : Nat)) (ai hq30.2.2.1 (ai hq30.2.2.2 tr))))))))) (((hq32.2.2 x26) hk27).1 hk28).2.2)))) (fun (hk31 : ((decide ((0 : Int) ≤ (((x26.1 : Nat) : Int) - (1 : Int)))) = Bool.false)) => (ai (ai t2 (ai tr (ai t2 tr))) (((hq32.2.2 x26) hk27).2 hk31)))))))))) (((hq33.2.2 x19) hk20).2 hk24))))))))))) ((h.2 hk2).2 hk17)))))))))))


theorem common_p (a b : Nat) (R : AV → Prop) (h : (∃ o34 : (Nat × Nat), (((Nat.gcd o34.1 o34.2) = (Nat.gcd a b)) ∧ (((a = o34.1) ∧ (b = o34.2)) ∧ (∀ x35 : (Nat × Nat), (((Nat.gcd x35.1 x35.2) = (Nat.gcd a b)) → ((((decide (x35.2 = (0 : Nat))) = Bool.true) → (R (AV.pv (PV.words IntKind.u64 (4 : Nat) x35.1)))) ∧ (((decide (x35.2 = (0 : Nat))) = Bool.false) → (∃ y39 : (Nat × Nat), (((Nat.gcd y39.1 y39.2) = (Nat.gcd a b)) ∧ (((y39.2 + (1 : Nat)) ≤ x35.2) ∧ ((x35.2 = y39.1) ∧ ((if (x35.2 = (0 : Nat)) then (0 : Nat) else (x35.1 % x35.2)) = y39.2))))))))))))) :
    awp [eDiv] [] [] [⟨0, Nat × Nat, fun _ x => Nat.gcd x.1 x.2 = Nat.gcd a b, fun x => shp 21 0 [(2, .box .u64 4 x.1), (3, .box .u64 4 x.2), (4, .box .u64 4 0)], fun x => x.2⟩]  400 (Try.f57.body.getD .skip) (fnPost Try.f57.results.toList R) (begins [.pv (.words .u64 4 a), .pv (.words .u64 4 b)] Try.f57.ntmps) :=
  Eq.mp (by kernel_rfl) (ai (ai tr (ai tr t2)) (Exists.imp (fun o34 hq41 => (ai hq41.1 (ai (ai hq41.2.1.1 (ai hq41.2.1.2 (ai (Eq.refl (0 : Nat)) tr))) (fun (x35 : (Nat × Nat)) => (fun (hk36 : ((Nat.gcd x35.1 x35.2) = (Nat.gcd a b))) => (ai (ai t2 (ai t2 (ai t2 tr))) (ai (fun (hk37 : ((decide (x35.2 = (0 : Nat))) = Bool.true)) => (ai (ai t2 t2) (((hq41.2.2 x35) hk36).1 hk37))) (fun (hk38 : ((decide (x35.2 = (0 : Nat))) = Bool.false)) => (ai (ai t2 (ai t2 (ai t2 (ai t2 (ai t2 (ai t2 (ai t2 (ai tr (ai tr (ai tr (ai tr (ai t2 tr)))))))))))) (ai (ai t2 (ai t2 (ai tr t2))) (Exists.imp (fun y39 hq40 => (ai hq40.1 (ai hq40.2.1 (ai hq40.2.2.1 (ai hq40.2.2.2 (ai (Eq.refl (0 : Nat)) tr)))))) (((hq41.2.2 x35) hk36).2 hk38)))))))))))) h))


theorem rcommon_p (a b : Nat) (R : AV → Prop) (h : (∃ o42 : (Nat × Nat), (((Nat.gcd o42.1 o42.2) = (Nat.gcd a b)) ∧ (((a = o42.1) ∧ (b = o42.2)) ∧ (∀ x43 : (Nat × Nat), (((Nat.gcd x43.1 x43.2) = (Nat.gcd a b)) → ((((Bool.not (decide (x43.2 = (0 : Nat)))) = Bool.true) → (∃ y46 : (Nat × Nat), (((Nat.gcd y46.1 y46.2) = (Nat.gcd a b)) ∧ (((y46.2 + (1 : Nat)) ≤ x43.2) ∧ ((x43.2 = y46.1) ∧ ((if (x43.2 = (0 : Nat)) then (0 : Nat) else (x43.1 % x43.2)) = y46.2)))))) ∧ (((Bool.not (decide (x43.2 = (0 : Nat)))) = Bool.false) → (R (AV.pv (PV.words IntKind.u64 (4 : Nat) x43.1))))))))))) :
    awp [eRDiv] [] [] [⟨0, Nat × Nat, fun _ x => Nat.gcd x.1 x.2 = Nat.gcd a b, fun x => shp 21 0 [(2, .box .u64 4 x.1), (3, .box .u64 4 x.2), (4, .box .u64 4 0)], fun x => x.2⟩]  400 (Try.f58.body.getD .skip) (fnPost Try.f58.results.toList R) (begins [.pv (.words .u64 4 a), .pv (.words .u64 4 b)] Try.f58.ntmps) :=
  Eq.mp (by kernel_rfl) (ai (ai tr (ai tr t2)) (Exists.imp (fun o42 hq49 => (ai hq49.1 (ai (ai hq49.2.1.1 (ai hq49.2.1.2 (ai (Eq.refl (0 : Nat)) tr))) (fun (x43 : (Nat × Nat)) => (fun (hk44 : ((Nat.gcd x43.1 x43.2) = (Nat.gcd a b))) => (ai (ai t2 (ai t2 (ai t2 tr))) (ai (fun (hk45 : ((Bool.not (decide (x43.2 = (0 : Nat)))) = Bool.true)) => (ai (ai t2 (ai t2 (ai t2 (ai t2 (ai t2 (ai t2 (ai t2 (ai tr (ai tr (ai tr (ai tr (ai t2 tr)))))))))))) (ai (ai t2 t2) (ai (ai t2 t2) (Exists.imp (fun y46 hq47 => (ai hq47.1 (ai hq47.2.1 (ai hq47.2.2.1 (ai hq47.2.2.2 (ai (Eq.refl (0 : Nat)) tr)))))) (((hq49.2.2 x43) hk44).1 hk45)))))) (fun (hk48 : ((Bool.not (decide (x43.2 = (0 : Nat)))) = Bool.false)) => (ai (ai t2 t2) (((hq49.2.2 x43) hk44).2 hk48)))))))))) h))



theorem tmod4 (j : Nat) : Int.tmod (j : Int) 4 = ((j % 4 : Nat) : Int) := by rw [Int.tmod_eq_emod_of_nonneg (by omega)]; omega
theorem wide_lt {low high : Nat} (hl : low < W) (hh : high < W) : high * W + low < W * W := by
  have := Nat.mul_le_mul_right W (show high + 1 ≤ W from hh)
  rw [Nat.add_mul, Nat.one_mul] at this
  omega
theorem W_B8 : W * W = B ^ 8 := by kernel_rfl
theorem W_512 (k : Nat) (h : 2 ^ k = W) : W * W = 2 ^ (k + k) := by rw [Nat.pow_add, h]
theorem left_start {V m : Nat} (k : Nat) (h : 2 ^ k = W) (hV : V < W * W) : Left V m (k + k) 0 := .start (by rw [← W_512 k h]; exact hV)

theorem eRWide_ok : eRWide.OK := mk_ok Try.func56 (by kernel_rfl) (by kernel_rfl) (TOK.cons eWord_ok (.cons eDiv64_ok (.cons eROf_ok (.cons eRBit_ok (.cons eTwice_ok .nil))))) (by rw [Try.ntmps56]; decide) (by
  intro low hl high hh m hm _
  have hl := ltW hl
  have hh := ltW hh
  have hw := wide_lt hl hh
  refine ⟨[], [], _, 400, rwide_p low high m _ ⟨fun h0 => ?_, fun h0 => ⟨fun h1 => ?_, fun h1 => ?_⟩⟩⟩
  · have h0 := of_decide_eq_true h0
    subst h0
    exact rw_2 (rw_words rfl) (rw_lit rfl)
  · have h0 := of_decide_eq_false h0
    have h1 : m < B := of_decide_eq_true h1
    have e2 : m / 1 % 18446744073709551616 = m := by rw [Nat.div_one, Nat.mod_eq_of_lt h1]
    rw [e2]
    refine ⟨⟨8, 0⟩, ⟨Nat.le_refl _, .start (by rw [← W_B8]; exact hw)⟩, ⟨rfl, rfl⟩, ?_⟩
    rintro ⟨j, r⟩ ⟨hj, hD⟩
    dsimp only at *
    have hlt := hD.lt (by omega)
    refine ⟨fun h => ?_, fun h => ?_⟩
    · have h := of_decide_eq_true h
      obtain ⟨k, rfl⟩ : ∃ k, j = k + 1 := ⟨j - 1, by omega⟩
      have e1 : (((k + 1 : Nat) : Int) - 1) = (k : Int) := by omega
      have g1 := hD.step
      rw [e1, tmod4, Int.toNat_natCast]
      refine ⟨by ((repeat' apply And.intro) <;> first | omega | (apply i64_ok <;> omega) | (intro; omega) | decide), fun h2 => ?_, fun h2 => ?_⟩
      · have h2 := of_decide_eq_true h2
        obtain ⟨i, rfl⟩ : ∃ i, k = 4 + i := ⟨k - 4, by omega⟩
        have e3 : (((4 + i : Nat) : Int) - 4) = (i : Int) := by omega
        rw [wide_word_hi hl] at g1
        rw [e3, Int.toNat_natCast]
        exact ⟨by ((repeat' apply And.intro) <;> first | omega | (apply i64_ok <;> omega) | (intro; omega) | decide), hlt, i64_ok (by omega) (by omega), ⟨4 + i, _⟩, ⟨by dsimp only; omega, g1⟩, Nat.le_refl _, rfl, rfl⟩
      · have h2 := of_decide_eq_false h2
        rw [wide_word_lo (by omega)] at g1
        have e3 : k % 4 = k := Nat.mod_eq_of_lt (by omega)
        rw [e3]
        exact ⟨hlt, i64_ok (by omega) (by omega), ⟨k, _⟩, ⟨by dsimp only; omega, g1⟩, Nat.le_refl _, rfl, rfl⟩
    · have h := of_decide_eq_false h
      obtain rfl : j = 0 := by omega
      exact rw_2 (rw_words (hD.done.trans (if_neg h0).symm)) (rw_lit (if_neg h0).symm)
  · have h0 := of_decide_eq_false h0
    refine ⟨⟨256, 0⟩, ⟨Nat.le_refl _, left_start 256 W_pow.symm hw⟩, ⟨rfl, rfl⟩, ?_⟩
    rintro ⟨j, r⟩ ⟨hj, hD⟩
    dsimp only at *
    have hlt := hD.lt (by omega)
    refine ⟨fun h => ?_, fun h => ?_⟩
    · have h := of_decide_eq_true h
      obtain ⟨k, rfl⟩ : ∃ k, j = k + 1 := ⟨j - 1, by omega⟩
      have e1 : (((k + 1 : Nat) : Int) - 1) = (k : Int) := by omega
      have g1 := Left.step (j := 256 + k) hD
      rw [wide_bit_hi hl] at g1
      rw [e1, bitN _ _ (by omega)]
      exact ⟨⟨hlt, by omega⟩, i64_ok (by omega) (by omega), ⟨k, _⟩, ⟨by dsimp only; omega, g1⟩, Nat.le_refl _, rfl, rfl⟩
    · have h := of_decide_eq_false h
      obtain rfl : j = 0 := by omega
      refine ⟨⟨256, r⟩, ⟨Nat.le_refl _, hD⟩, ⟨rfl, rfl⟩, ?_⟩
      rintro ⟨j, r⟩ ⟨hj, hD⟩
      dsimp only at *
      have hlt := hD.lt (by omega)
      refine ⟨fun h => ?_, fun h => ?_⟩
      · have h := of_decide_eq_true h
        obtain ⟨k, rfl⟩ : ∃ k, j = k + 1 := ⟨j - 1, by omega⟩
        have e1 : (((k + 1 : Nat) : Int) - 1) = (k : Int) := by omega
        have g1 := hD.step
        rw [wide_bit_lo (by omega)] at g1
        rw [e1, bitN _ _ (by omega)]
        exact ⟨⟨hlt, by omega⟩, i64_ok (by omega) (by omega), ⟨k, _⟩, ⟨by dsimp only; omega, g1⟩, Nat.le_refl _, rfl, rfl⟩
      · have h := of_decide_eq_false h
        obtain rfl : j = 0 := by omega
        exact rw_2 (rw_words (hD.done.trans (if_neg h0).symm)) (rw_lit (if_neg h0).symm))

theorem gcd_next {a b x y : Nat} (hg : Nat.gcd x y = Nat.gcd a b) (hy : ¬ y = 0) : Nat.gcd y (if y = 0 then 0 else x % y) = Nat.gcd a b ∧ (if y = 0 then 0 else x % y) + 1 ≤ y := by
  rw [if_neg hy, ← hg]
  exact ⟨by rw [Nat.gcd_comm x y, Nat.gcd_rec y x, Nat.gcd_comm], Nat.mod_lt _ (by omega)⟩
theorem eCommon_ok : eCommon.OK := mk_ok Try.func57 (by kernel_rfl) (by kernel_rfl) (TOK.cons eDiv_ok .nil) (by rw [Try.ntmps57]; decide) (by
  intro a ha b hb _
  refine ⟨[], [], _, 400, common_p a b _ ⟨⟨a, b⟩, rfl, ⟨rfl, rfl⟩, ?_⟩⟩
  rintro ⟨x, y⟩ hg
  dsimp only at *
  refine ⟨fun h => ?_, fun h => ?_⟩
  · have h := of_decide_eq_true h
    subst h
    exact rw_words (by rw [← hg, Nat.gcd_zero_right])
  · obtain ⟨g1, g2⟩ := gcd_next hg (of_decide_eq_false h)
    exact ⟨⟨y, _⟩, g1, g2, rfl, rfl⟩)
theorem eRCommon_ok : eRCommon.OK := mk_ok Try.func58 (by kernel_rfl) (by kernel_rfl) (TOK.cons eRDiv_ok .nil) (by rw [Try.ntmps58]; decide) (by
  intro a ha b hb _
  refine ⟨[], [], _, 400, rcommon_p a b _ ⟨⟨a, b⟩, rfl, ⟨rfl, rfl⟩, ?_⟩⟩
  rintro ⟨x, y⟩ hg
  dsimp only at *
  refine ⟨fun h => ?_, fun h => ?_⟩
  · obtain ⟨g1, g2⟩ := gcd_next hg (by simpa using h)
    exact ⟨⟨y, _⟩, g1, g2, rfl, rfl⟩
  · have h : y = 0 := by simpa using h
    subst h
    exact rw_words (by rw [← hg, Nat.gcd_zero_right]))
end Go.Proofs.Ytdjnhnfofajpcaa
