/- Powers of chapter 04: the generic function at both types, the function values that it is handed. -/
import Derived.Test.YtdjnhnfofajpcaaFf
namespace Go.Proofs.Ytdjnhnfofajpcaa
open Go Go.Proofs Av Go.RowKit

/-- Products by m, as a function value. -/
def spW (m : Nat) : List PV → Option (PV × Prop)
  | [x, y] => match asN x, asN y with
    | some (.u64, a), some (.u64, b) => some (.nat .u64 (a * b % m), a < m ∧ b < m)
    | _, _ => none
  | _ => none
def spN (m : Nat) : List PV → Option (PV × Prop)
  | [.words .u64 4 a, .words .u64 4 b] => some (.words .u64 4 (a * b % m), a < m ∧ b < m)
  | _ => none

theorem pow64_p (a n m : Nat) (R : AV → Prop) (h : (∃ o1 : (Nat × (Nat × Nat)), ((((o1.1 + o1.2.1) = (bitLen n)) ∧ (Proofs.Ytdjnhnfofajpcaa.Pow a n m o1.2.1 o1.2.2)) ∧ ((((1 : Nat) = o1.2.2) ∧ ((0 : Int) = ((o1.1 : Nat) : Int))) ∧ (∀ x2 : (Nat × (Nat × Nat)), ((((x2.1 + x2.2.1) = (bitLen n)) ∧ (Proofs.Ytdjnhnfofajpcaa.Pow a n m x2.2.1 x2.2.2)) → ((((decide (((x2.1 : Nat) : Int) < (((bitLen n) : Nat) : Int))) = Bool.true) → ((((x2.2.2 + (1 : Nat)) ≤ m) ∧ ((x2.2.2 + (1 : Nat)) ≤ m)) ∧ ((((IntKind.wrap IntKind.i64 ((((bitLen n) : Nat) : Int) - (1 : Int))) = ((((bitLen n) : Nat) : Int) - (1 : Int))) ∧ ((IntKind.wrap IntKind.i64 (((((bitLen n) : Nat) : Int) - (1 : Int)) - ((x2.1 : Nat) : Int))) = (((((bitLen n) : Nat) : Int) - (1 : Int)) - ((x2.1 : Nat) : Int)))) ∧ ((((decide ((if (((0 : Int) ≤ (((((bitLen n) : Nat) : Int) - (1 : Int)) - ((x2.1 : Nat) : Int))) ∧ ((((((bitLen n) : Nat) : Int) - (1 : Int)) - ((x2.1 : Nat) : Int)) < (256 : Int))) then ((n / ((2 : Nat) ^ (Int.toNat (((((bitLen n) : Nat) : Int) - (1 : Int)) - ((x2.1 : Nat) : Int))))) % (2 : Nat)) else (0 : Nat)) = (1 : Nat))) = Bool.true) → ((((((x2.2.2 * x2.2.2) % m) + (1 : Nat)) ≤ m) ∧ ((a + (1 : Nat)) ≤ m)) ∧ (((IntKind.wrap IntKind.i64 (((x2.1 : Nat) : Int) + (1 : Int))) = (((x2.1 : Nat) : Int) + (1 : Int))) ∧ (∃ y6 : (Nat × (Nat × Nat)), ((((y6.1 + y6.2.1) = (bitLen n)) ∧ (Proofs.Ytdjnhnfofajpcaa.Pow a n m y6.2.1 y6.2.2)) ∧ (((y6.2.1 + (1 : Nat)) ≤ x2.2.1) ∧ ((((((x2.2.2 * x2.2.2) % m) * a) % m) = y6.2.2) ∧ ((((x2.1 : Nat) : Int) + (1 : Int)) = ((y6.1 : Nat) : Int))))))))) ∧ (((decide ((if (((0 : Int) ≤ (((((bitLen n) : Nat) : Int) - (1 : Int)) - ((x2.1 : Nat) : Int))) ∧ ((((((bitLen n) : Nat) : Int) - (1 : Int)) - ((x2.1 : Nat) : Int)) < (256 : Int))) then ((n / ((2 : Nat) ^ (Int.toNat (((((bitLen n) : Nat) : Int) - (1 : Int)) - ((x2.1 : Nat) : Int))))) % (2 : Nat)) else (0 : Nat)) = (1 : Nat))) = Bool.false) → (((IntKind.wrap IntKind.i64 (((x2.1 : Nat) : Int) + (1 : Int))) = (((x2.1 : Nat) : Int) + (1 : Int))) ∧ (∃ y9 : (Nat × (Nat × Nat)), ((((y9.1 + y9.2.1) = (bitLen n)) ∧ (Proofs.Ytdjnhnfofajpcaa.Pow a n m y9.2.1 y9.2.2)) ∧ (((y9.2.1 + (1 : Nat)) ≤ x2.2.1) ∧ ((((x2.2.2 * x2.2.2) % m) = y9.2.2) ∧ ((((x2.1 : Nat) : Int) + (1 : Int)) = ((y9.1 : Nat) : Int)))))))))))) ∧ (((decide (((x2.1 : Nat) : Int) < (((bitLen n) : Nat) : Int))) = Bool.false) → (R (AV.pv (PV.nat IntKind.u64 x2.2.2))))))))))) :
    awp [eBits, eBit] [] [] [⟨0, Nat × Nat × Nat, fun _ x => x.1 + x.2.1 = bitLen n ∧ Pow a n m x.2.1 x.2.2, fun x => shp 35 0 [(0, .pv (.nat .u64 a)), (3, .clo (spW m)), (6, .box .u64 4 n), (9, .pv (.nat .u64 x.2.2)), (13, .pv (.int .i64 (bitLen n))), (14, .pv (.int .i64 x.1))], fun x => x.2.1⟩]  400 (Try.f100.body.getD .skip) (fnPost Try.f100.results.toList R) (begins [.pv (.nat .u64 a), .pv (.nat .u64 1), .pv (.words .u64 4 n), .clo (spW m)] Try.f100.ntmps) :=
  Eq.mp (by kernel_rfl) (ai (ai tr (ai t2 tr)) (ai (ai t2 (ai t2 tr)) (ai (ai t2 (ai t2 (ai t2 tr))) (Exists.imp (fun o1 hq12 => (ai (ai hq12.1.1 hq12.1.2) (ai (ai (Eq.refl a) (ai (Eq.refl (Proofs.Ytdjnhnfofajpcaa.spW m)) (ai (Eq.refl n) (ai hq12.2.1.1 (ai (Eq.refl (((bitLen n) : Nat) : Int)) (ai hq12.2.1.2 tr)))))) (fun (x2 : (Nat × (Nat × Nat))) => (fun (hk3 : (((x2.1 + x2.2.1) = (bitLen n)) ∧ (Proofs.Ytdjnhnfofajpcaa.Pow a n m x2.2.1 x2.2.2))) => (ai (ai t2 tr) (ai (fun (hk4 : ((decide (((x2.1 : Nat) : Int) < (((bitLen n) : Nat) : Int))) = Bool.true)) => (ai (ai t2 (ai t2 tr)) (ai (ai t2 (ai t2 (ai t2 (ai (ai (ai (((hq12.2.2 x2) hk3).1 hk4).1.1 (((hq12.2.2 x2) hk3).1 hk4).1.2) tr) (ai t2 tr))))) (ai (ai t2 (ai t2 (ai t2 (ai (ai (((hq12.2.2 x2) hk3).1 hk4).2.1.1 tr) (ai t2 (ai (ai (((hq12.2.2 x2) hk3).1 hk4).2.1.2 tr) (ai t2 (ai t2 tr)))))))) (ai (fun (hk5 : ((decide ((if (((0 : Int) ≤ (((((bitLen n) : Nat) : Int) - (1 : Int)) - ((x2.1 : Nat) : Int))) ∧ ((((((bitLen n) : Nat) : Int) - (1 : Int)) - ((x2.1 : Nat) : Int)) < (256 : Int))) then ((n / ((2 : Nat) ^ (Int.toNat (((((bitLen n) : Nat) : Int) - (1 : Int)) - ((x2.1 : Nat) : Int))))) % (2 : Nat)) else (0 : Nat)) = (1 : Nat))) = Bool.true)) => (ai (ai t2 (ai t2 (ai t2 (ai (ai (ai ((((hq12.2.2 x2) hk3).1 hk4).2.2.1 hk5).1.1 ((((hq12.2.2 x2) hk3).1 hk4).2.2.1 hk5).1.2) tr) (ai t2 tr))))) (ai (ai (ai ((((hq12.2.2 x2) hk3).1 hk4).2.2.1 hk5).2.1 tr) (ai t2 tr)) (Exists.imp (fun y6 hq7 => (ai (ai hq7.1.1 hq7.1.2) (ai hq7.2.1 (ai (Eq.refl a) (ai (Eq.refl (Proofs.Ytdjnhnfofajpcaa.spW m)) (ai (Eq.refl n) (ai hq7.2.2.1 (ai (Eq.refl (((bitLen n) : Nat) : Int)) (ai hq7.2.2.2 tr))))))))) ((((hq12.2.2 x2) hk3).1 hk4).2.2.1 hk5).2.2)))) (fun (hk8 : ((decide ((if (((0 : Int) ≤ (((((bitLen n) : Nat) : Int) - (1 : Int)) - ((x2.1 : Nat) : Int))) ∧ ((((((bitLen n) : Nat) : Int) - (1 : Int)) - ((x2.1 : Nat) : Int)) < (256 : Int))) then ((n / ((2 : Nat) ^ (Int.toNat (((((bitLen n) : Nat) : Int) - (1 : Int)) - ((x2.1 : Nat) : Int))))) % (2 : Nat)) else (0 : Nat)) = (1 : Nat))) = Bool.false)) => (ai (ai (ai ((((hq12.2.2 x2) hk3).1 hk4).2.2.2 hk8).1 tr) (ai t2 tr)) (Exists.imp (fun y9 hq10 => (ai (ai hq10.1.1 hq10.1.2) (ai hq10.2.1 (ai (Eq.refl a) (ai (Eq.refl (Proofs.Ytdjnhnfofajpcaa.spW m)) (ai (Eq.refl n) (ai hq10.2.2.1 (ai (Eq.refl (((bitLen n) : Nat) : Int)) (ai hq10.2.2.2 tr))))))))) ((((hq12.2.2 x2) hk3).1 hk4).2.2.2 hk8).2)))))))) (fun (hk11 : ((decide (((x2.1 : Nat) : Int) < (((bitLen n) : Nat) : Int))) = Bool.false)) => (ai (ai t2 (ai t2 tr)) (((hq12.2.2 x2) hk3).2 hk11)))))))))) h))))


theorem powN_p (a n m : Nat) (R : AV → Prop) (h : (∃ o13 : (Nat × (Nat × Nat)), ((((o13.1 + o13.2.1) = (bitLen n)) ∧ (Proofs.Ytdjnhnfofajpcaa.Pow a n m o13.2.1 o13.2.2)) ∧ ((((1 : Nat) = o13.2.2) ∧ ((0 : Int) = ((o13.1 : Nat) : Int))) ∧ (∀ x14 : (Nat × (Nat × Nat)), ((((x14.1 + x14.2.1) = (bitLen n)) ∧ (Proofs.Ytdjnhnfofajpcaa.Pow a n m x14.2.1 x14.2.2)) → ((((decide (((x14.1 : Nat) : Int) < (((bitLen n) : Nat) : Int))) = Bool.true) → ((((x14.2.2 + (1 : Nat)) ≤ m) ∧ ((x14.2.2 + (1 : Nat)) ≤ m)) ∧ ((((IntKind.wrap IntKind.i64 ((((bitLen n) : Nat) : Int) - (1 : Int))) = ((((bitLen n) : Nat) : Int) - (1 : Int))) ∧ ((IntKind.wrap IntKind.i64 (((((bitLen n) : Nat) : Int) - (1 : Int)) - ((x14.1 : Nat) : Int))) = (((((bitLen n) : Nat) : Int) - (1 : Int)) - ((x14.1 : Nat) : Int)))) ∧ ((((decide ((if (((0 : Int) ≤ (((((bitLen n) : Nat) : Int) - (1 : Int)) - ((x14.1 : Nat) : Int))) ∧ ((((((bitLen n) : Nat) : Int) - (1 : Int)) - ((x14.1 : Nat) : Int)) < (256 : Int))) then ((n / ((2 : Nat) ^ (Int.toNat (((((bitLen n) : Nat) : Int) - (1 : Int)) - ((x14.1 : Nat) : Int))))) % (2 : Nat)) else (0 : Nat)) = (1 : Nat))) = Bool.true) → ((((((x14.2.2 * x14.2.2) % m) + (1 : Nat)) ≤ m) ∧ ((a + (1 : Nat)) ≤ m)) ∧ (((IntKind.wrap IntKind.i64 (((x14.1 : Nat) : Int) + (1 : Int))) = (((x14.1 : Nat) : Int) + (1 : Int))) ∧ (∃ y18 : (Nat × (Nat × Nat)), ((((y18.1 + y18.2.1) = (bitLen n)) ∧ (Proofs.Ytdjnhnfofajpcaa.Pow a n m y18.2.1 y18.2.2)) ∧ (((y18.2.1 + (1 : Nat)) ≤ x14.2.1) ∧ ((((((x14.2.2 * x14.2.2) % m) * a) % m) = y18.2.2) ∧ ((((x14.1 : Nat) : Int) + (1 : Int)) = ((y18.1 : Nat) : Int))))))))) ∧ (((decide ((if (((0 : Int) ≤ (((((bitLen n) : Nat) : Int) - (1 : Int)) - ((x14.1 : Nat) : Int))) ∧ ((((((bitLen n) : Nat) : Int) - (1 : Int)) - ((x14.1 : Nat) : Int)) < (256 : Int))) then ((n / ((2 : Nat) ^ (Int.toNat (((((bitLen n) : Nat) : Int) - (1 : Int)) - ((x14.1 : Nat) : Int))))) % (2 : Nat)) else (0 : Nat)) = (1 : Nat))) = Bool.false) → (((IntKind.wrap IntKind.i64 (((x14.1 : Nat) : Int) + (1 : Int))) = (((x14.1 : Nat) : Int) + (1 : Int))) ∧ (∃ y21 : (Nat × (Nat × Nat)), ((((y21.1 + y21.2.1) = (bitLen n)) ∧ (Proofs.Ytdjnhnfofajpcaa.Pow a n m y21.2.1 y21.2.2)) ∧ (((y21.2.1 + (1 : Nat)) ≤ x14.2.1) ∧ ((((x14.2.2 * x14.2.2) % m) = y21.2.2) ∧ ((((x14.1 : Nat) : Int) + (1 : Int)) = ((y21.1 : Nat) : Int)))))))))))) ∧ (((decide (((x14.1 : Nat) : Int) < (((bitLen n) : Nat) : Int))) = Bool.false) → (R (AV.pv (PV.words IntKind.u64 (4 : Nat) x14.2.2))))))))))) :
    awp [eBits, eBit] [] [] [⟨0, Nat × Nat × Nat, fun _ x => x.1 + x.2.1 = bitLen n ∧ Pow a n m x.2.1 x.2.2, fun x => shp 35 0 [(3, .clo (spN m)), (4, .box .u64 4 a), (6, .box .u64 4 n), (8, .box .u64 4 0), (9, .box .u64 4 x.2.2), (13, .pv (.int .i64 (bitLen n))), (14, .pv (.int .i64 x.1))], fun x => x.2.1⟩]  400 (Try.f103.body.getD .skip) (fnPost Try.f103.results.toList R) (begins [.pv (.words .u64 4 a), .pv (.words .u64 4 1), .pv (.words .u64 4 n), .clo (spN m)] Try.f103.ntmps) :=
  Eq.mp (by kernel_rfl) (ai (ai tr (ai tr (ai tr t2))) (ai (ai t2 (ai tr t2)) (ai (ai t2 (ai t2 (ai t2 tr))) (Exists.imp (fun o13 hq24 => (ai (ai hq24.1.1 hq24.1.2) (ai (ai (Eq.refl (Proofs.Ytdjnhnfofajpcaa.spN m)) (ai (Eq.refl a) (ai (Eq.refl n) (ai (Eq.refl (0 : Nat)) (ai hq24.2.1.1 (ai (Eq.refl (((bitLen n) : Nat) : Int)) (ai hq24.2.1.2 tr))))))) (fun (x14 : (Nat × (Nat × Nat))) => (fun (hk15 : (((x14.1 + x14.2.1) = (bitLen n)) ∧ (Proofs.Ytdjnhnfofajpcaa.Pow a n m x14.2.1 x14.2.2))) => (ai (ai t2 tr) (ai (fun (hk16 : ((decide (((x14.1 : Nat) : Int) < (((bitLen n) : Nat) : Int))) = Bool.true)) => (ai (ai t2 (ai t2 tr)) (ai (ai t2 (ai t2 (ai t2 (ai (ai (ai (((hq24.2.2 x14) hk15).1 hk16).1.1 (((hq24.2.2 x14) hk15).1 hk16).1.2) tr) t2)))) (ai (ai t2 (ai t2 (ai t2 (ai (ai (((hq24.2.2 x14) hk15).1 hk16).2.1.1 tr) (ai t2 (ai (ai (((hq24.2.2 x14) hk15).1 hk16).2.1.2 tr) (ai t2 (ai t2 tr)))))))) (ai (fun (hk17 : ((decide ((if (((0 : Int) ≤ (((((bitLen n) : Nat) : Int) - (1 : Int)) - ((x14.1 : Nat) : Int))) ∧ ((((((bitLen n) : Nat) : Int) - (1 : Int)) - ((x14.1 : Nat) : Int)) < (256 : Int))) then ((n / ((2 : Nat) ^ (Int.toNat (((((bitLen n) : Nat) : Int) - (1 : Int)) - ((x14.1 : Nat) : Int))))) % (2 : Nat)) else (0 : Nat)) = (1 : Nat))) = Bool.true)) => (ai (ai t2 (ai t2 (ai t2 (ai (ai (ai ((((hq24.2.2 x14) hk15).1 hk16).2.2.1 hk17).1.1 ((((hq24.2.2 x14) hk15).1 hk16).2.2.1 hk17).1.2) tr) t2)))) (ai (ai (ai ((((hq24.2.2 x14) hk15).1 hk16).2.2.1 hk17).2.1 tr) (ai t2 tr)) (Exists.imp (fun y18 hq19 => (ai (ai hq19.1.1 hq19.1.2) (ai hq19.2.1 (ai (Eq.refl (Proofs.Ytdjnhnfofajpcaa.spN m)) (ai (Eq.refl a) (ai (Eq.refl n) (ai (Eq.refl (0 : Nat)) (ai hq19.2.2.1 (ai (Eq.refl (((bitLen n) : Nat) : Int)) (ai hq19.2.2.2 tr)))))))))) ((((hq24.2.2 x14) hk15).1 hk16).2.2.1 hk17).2.2)))) (fun (hk20 : ((decide ((if (((0 : Int) ≤ (((((bitLen n) : Nat) : Int) - (1 : Int)) - ((x14.1 : Nat) : Int))) ∧ ((((((bitLen n) : Nat) : Int) - (1 : Int)) - ((x14.1 : Nat) : Int)) < (256 : Int))) then ((n / ((2 : Nat) ^ (Int.toNat (((((bitLen n) : Nat) : Int) - (1 : Int)) - ((x14.1 : Nat) : Int))))) % (2 : Nat)) else (0 : Nat)) = (1 : Nat))) = Bool.false)) => (ai (ai (ai ((((hq24.2.2 x14) hk15).1 hk16).2.2.2 hk20).1 tr) (ai t2 tr)) (Exists.imp (fun y21 hq22 => (ai (ai hq22.1.1 hq22.1.2) (ai hq22.2.1 (ai (Eq.refl (Proofs.Ytdjnhnfofajpcaa.spN m)) (ai (Eq.refl a) (ai (Eq.refl n) (ai (Eq.refl (0 : Nat)) (ai hq22.2.2.1 (ai (Eq.refl (((bitLen n) : Nat) : Int)) (ai hq22.2.2.2 tr)))))))))) ((((hq24.2.2 x14) hk15).1 hk16).2.2.2 hk20).2)))))))) (fun (hk23 : ((decide (((x14.1 : Nat) : Int) < (((bitLen n) : Nat) : Int))) = Bool.false)) => (ai (ai t2 t2) (((hq24.2.2 x14) hk15).2 hk23)))))))))) h))))


theorem clo64_p (a b m : Nat) (R : AV → Prop) (h : (((a ≤ ((m / (1 : Nat)) % (18446744073709551616 : Nat))) ∧ ((b + (1 : Nat)) ≤ ((m / (1 : Nat)) % (18446744073709551616 : Nat)))) ∧ (R (AV.pv (PV.nat IntKind.u64 ((a * b) % ((m / (1 : Nat)) % (18446744073709551616 : Nat)))))))) :
    awp [eWordB] [] [] [] 200 (Try.f101.body.getD .skip) (fnPost Try.f101.results.toList R) (begins [.pv (.nat .u64 a), .pv (.nat .u64 b), .gp .u64 4 m 0] Try.f101.ntmps) :=
  Eq.mp (by kernel_rfl) (ai (ai t2 tr) (ai (ai t2 (ai t2 (ai (ai (ai (show ((0 : Int) ≤ (0 : Int)) from by decide) (show ((1 : Int) ≤ (4 : Int)) from by decide)) tr) (ai (ai (show ((1 : Nat) ≤ (4 : Nat)) from by decide) tr) (ai (ai (ai h.1.1 h.1.2) tr) (ai t2 tr)))))) h.2))


theorem cloN_p (a b m : Nat) (R : AV → Prop) (h : (((a ≤ ((m / (1 : Nat)) % (115792089237316195423570985008687907853269984665640564039457584007913129639936 : Nat))) ∧ ((b + (1 : Nat)) ≤ ((m / (1 : Nat)) % (115792089237316195423570985008687907853269984665640564039457584007913129639936 : Nat)))) ∧ (R (AV.pv (PV.words IntKind.u64 (4 : Nat) ((a * b) % ((m / (1 : Nat)) % (115792089237316195423570985008687907853269984665640564039457584007913129639936 : Nat)))))))) :
    awp [eTimesB] [] [] [] 200 (Try.f104.body.getD .skip) (fnPost Try.f104.results.toList R) (begins [.pv (.words .u64 4 a), .pv (.words .u64 4 b), .gp .u64 4 m 0] Try.f104.ntmps) :=
  Eq.mp (by kernel_rfl) (ai (ai tr (ai tr t2)) (ai (ai t2 (ai t2 (ai (ai (show ((4 : Nat) ≤ (4 : Nat)) from by decide) tr) (ai (ai (ai h.1.1 h.1.2) tr) t2)))) h.2))


theorem cells_arr (a : Nat) : cells .u64 4 a = #[.int .u64 (dg a 0), .int .u64 (dg a 1), .int .u64 (dg a 2), .int .u64 (dg a 3)] := by
  have := cells_dg a
  exact Value.agg.inj this
theorem dg_low {a : Nat} (h : a < B) : dg a 0 = (a : Int) := by
  unfold dg
  rw [Nat.pow_zero, Nat.div_one, Nat.mod_eq_of_lt h]

theorem pow64_at (a n m : Nat) (hm : 1 < m) (ha : a < m) (hB : m < B) (hn4 : n < B ^ 4) (w : World) (fv : Value) (hf : CloR w (spW m) fv) :
    Calls PP 100 #[.int .u64 (dg a 0), .int .u64 1, .agg #[.int .u64 (dg n 0), .int .u64 (dg n 1), .int .u64 (dg n 2), .int .u64 (dg n 3)], fv] w fun e w' => e = .returned (.int .u64 (dg (a ^ n % m) 0)) ∧ Below w.heap.size w w' := by
  rw [dg_low (Nat.lt_trans ha hB), ← cells_dg, dg_low (Nat.lt_trans (Nat.mod_lt _ (by omega)) hB)]
  refine (awp_calls (vs := [.int .u64 (a : Int), .int .u64 1, .agg (cells .u64 4 n), fv]) (r := .pv (.nat .u64 (a ^ n % m))) Try.func100 (by kernel_rfl) (TOK.cons eBits_ok (.cons eBit_ok .nil)) [.pv (.nat .u64 a), .pv (.nat .u64 1), .pv (.words .u64 4 n), .clo (spW m)] (by rw [Try.ntmps100]; exact Nat.le_add_left 4 31)
    ⟨[], [], _, 400, pow64_p a n m _ ?_⟩ (.cons (argV_pv (PV.natR rfl (Nat.lt_trans ha hB))) (.cons (argV_pv (PV.natR rfl (by decide))) (.cons (argV_pv ⟨rfl, WF4 hn4⟩) (.cons ⟨rfl, by simp, by simp, hf⟩ .nil))))).mono ?_
  · refine ⟨⟨0, bitLen n, 1⟩, ⟨Nat.zero_add _, .start hm (bitLen_spec n).1⟩, ⟨rfl, rfl⟩, ?_⟩
    rintro ⟨k, j, r⟩ ⟨hk, hP⟩
    dsimp only at *
    have hr := hP.lt (by omega)
    have hn := bitLen_le 256 n (by rw [← W_pow]; exact ltW hn4)
    refine ⟨fun h => ?_, fun h => ?_⟩
    · have h := of_decide_eq_true h
      obtain ⟨i, rfl⟩ : ∃ i, j = i + 1 := ⟨j - 1, by omega⟩
      have e1 : (bitLen n : Int) - 1 - (k : Int) = (i : Int) := by omega
      rw [e1, bitN n i (by omega)]
      refine ⟨⟨hr, hr⟩, ⟨i64_ok (by omega) (by omega), i64_ok (by omega) (by omega)⟩, fun hb => ?_, fun hb => ?_⟩
      · exact ⟨⟨Nat.mod_lt _ (by omega), ha⟩, i64_ok (by omega) (by omega), ⟨k + 1, i, _⟩, ⟨by dsimp only; omega, hP.odd (of_decide_eq_true hb)⟩, Nat.le_refl _, rfl, rfl⟩
      · have hb := of_decide_eq_false hb
        exact ⟨i64_ok (by omega) (by omega), ⟨k + 1, i, _⟩, ⟨by dsimp only; omega, hP.even (by omega)⟩, Nat.le_refl _, rfl, rfl⟩
    · have h := of_decide_eq_false h
      obtain rfl : j = 0 := by omega
      exact rw_nat hP.done
  · rintro e w' ⟨v, rfl, ⟨rfl, _⟩, h2⟩
    exact ⟨rfl, h2⟩
theorem powN_at (a n m : Nat) (hm : 1 < m) (ha : a < m) (hm4 : m < B ^ 4) (hn4 : n < B ^ 4) (w : World) (fv : Value) (hf : CloR w (spN m) fv) :
    Calls PP 103 #[.agg #[.int .u64 (dg a 0), .int .u64 (dg a 1), .int .u64 (dg a 2), .int .u64 (dg a 3)], .agg #[.int .u64 (dg 1 0), .int .u64 (dg 1 1), .int .u64 (dg 1 2), .int .u64 (dg 1 3)], .agg #[.int .u64 (dg n 0), .int .u64 (dg n 1), .int .u64 (dg n 2), .int .u64 (dg n 3)], fv] w fun e w' => e = .returned (.agg #[.int .u64 (dg (a ^ n % m) 0), .int .u64 (dg (a ^ n % m) 1), .int .u64 (dg (a ^ n % m) 2), .int .u64 (dg (a ^ n % m) 3)]) ∧ Below w.heap.size w w' := by
  rw [← cells_dg, ← cells_dg, ← cells_dg, ← cells_dg]
  refine (awp_calls (vs := [.agg (cells .u64 4 a), .agg (cells .u64 4 1), .agg (cells .u64 4 n), fv]) (r := .pv (.words .u64 4 (a ^ n % m))) Try.func103 (by kernel_rfl) (TOK.cons eBits_ok (.cons eBit_ok .nil)) [.pv (.words .u64 4 a), .pv (.words .u64 4 1), .pv (.words .u64 4 n), .clo (spN m)] (by rw [Try.ntmps103]; exact Nat.le_add_left 4 31)
    ⟨[], [], _, 400, powN_p a n m _ ?_⟩ (.cons (argV_pv ⟨rfl, WF4 (Nat.lt_trans ha hm4)⟩) (.cons (argV_pv ⟨rfl, WF4 one_lt4⟩) (.cons (argV_pv ⟨rfl, WF4 hn4⟩) (.cons ⟨rfl, by simp, by simp, hf⟩ .nil))))).mono ?_
  · refine ⟨⟨0, bitLen n, 1⟩, ⟨Nat.zero_add _, .start hm (bitLen_spec n).1⟩, ⟨rfl, rfl⟩, ?_⟩
    rintro ⟨k, j, r⟩ ⟨hk, hP⟩
    dsimp only at *
    have hr := hP.lt (by omega)
    have hn := bitLen_le 256 n (by rw [← W_pow]; exact ltW hn4)
    refine ⟨fun h => ?_, fun h => ?_⟩
    · have h := of_decide_eq_true h
      obtain ⟨i, rfl⟩ : ∃ i, j = i + 1 := ⟨j - 1, by omega⟩
      have e1 : (bitLen n : Int) - 1 - (k : Int) = (i : Int) := by omega
      rw [e1, bitN n i (by omega)]
      refine ⟨⟨hr, hr⟩, ⟨i64_ok (by omega) (by omega), i64_ok (by omega) (by omega)⟩, fun hb => ?_, fun hb => ?_⟩
      · exact ⟨⟨Nat.mod_lt _ (by omega), ha⟩, i64_ok (by omega) (by omega), ⟨k + 1, i, _⟩, ⟨by dsimp only; omega, hP.odd (of_decide_eq_true hb)⟩, Nat.le_refl _, rfl, rfl⟩
      · have hb := of_decide_eq_false hb
        exact ⟨i64_ok (by omega) (by omega), ⟨k + 1, i, _⟩, ⟨by dsimp only; omega, hP.even (by omega)⟩, Nat.le_refl _, rfl, rfl⟩
    · have h := of_decide_eq_false h
      obtain rfl : j = 0 := by omega
      exact rw_words hP.done
  · rintro e w' ⟨v, rfl, ⟨rfl, _⟩, h2⟩
    exact ⟨rfl, h2⟩

theorem clo64_R (m : Nat) (hB : m < B) (hm4 : m < B ^ 4) (w : World) (b : Nat) (e24 : TypeId) (hb : w.heap[b]? = some (.cells #[.int .u64 (dg m 0), .int .u64 (dg m 1), .int .u64 (dg m 2), .int .u64 (dg m 3)] e24 (0, 0))) : CloR w (spW m) (.func (.func 101) #[] #[.pointer (some ⟨b, 0, none⟩)]) := by
  refine ⟨101, _, rfl, fun args r p hsp hp w' hB' vs hv => ⟨callFunc_enters Try.func101 (by kernel_rfl) (by kernel_rfl) _ _, ?_⟩⟩
  unfold spW at hsp
  split at hsp
  · rename_i x y
    split at hsp
    · rename_i a' b' hx hy
      simp only [Option.some.injEq, Prod.mk.injEq] at hsp
      obtain ⟨rfl, rfl⟩ := hsp
      cases hv with
      | cons h1 hv => cases hv with
        | cons h2 hv =>
          cases hv
          obtain ⟨rfl, _, k1⟩ := asN_R hx h1
          obtain ⟨rfl, _, k2⟩ := asN_R hy h2
          have hb' := (hB'.block b (Array.getElem?_eq_some_iff.1 hb).1).trans hb
          rw [← cells_arr] at hb'
          refine (awp_calls (vs := [.int .u64 (a' : Int), .int .u64 (b' : Int), .pointer (some ⟨b, 0, none⟩)]) (r := .pv (.nat .u64 (a' * b' % m))) Try.func101 (by kernel_rfl) (TOK.cons eWordB_ok .nil) [.pv (.nat .u64 a'), .pv (.nat .u64 b'), .gp .u64 4 m 0] (by rw [Try.ntmps101]; exact Nat.le_add_left 3 8)
            ⟨[], [], [], 200, clo64_p a' b' m _ ?_⟩ (.cons (argV_pv (PV.natR rfl k1)) (.cons (argV_pv (PV.natR rfl k2)) (.cons ⟨rfl, by simp, by simp, b, e24, rfl, hb', WF4 hm4⟩ .nil)))).mono fun _ _ h => h
          rw [Nat.div_one, Nat.mod_eq_of_lt hB]
          exact ⟨⟨Nat.le_of_lt hp.1, hp.2⟩, rw_nat rfl⟩
    · cases hsp
  · cases hsp
theorem cloN_R (m : Nat) (hm4 : m < B ^ 4) (w : World) (b : Nat) (e24 : TypeId) (hb : w.heap[b]? = some (.cells #[.int .u64 (dg m 0), .int .u64 (dg m 1), .int .u64 (dg m 2), .int .u64 (dg m 3)] e24 (0, 0))) : CloR w (spN m) (.func (.func 104) #[] #[.pointer (some ⟨b, 0, none⟩)]) := by
  refine ⟨104, _, rfl, fun args r p hsp hp w' hB' vs hv => ⟨callFunc_enters Try.func104 (by kernel_rfl) (by kernel_rfl) _ _, ?_⟩⟩
  unfold spN at hsp
  split at hsp
  · rename_i a' b'
    simp only [Option.some.injEq, Prod.mk.injEq] at hsp
    obtain ⟨rfl, rfl⟩ := hsp
    cases hv with
    | cons h1 hv => cases hv with
      | cons h2 hv =>
        cases hv
        obtain ⟨rfl, k1⟩ := h1
        obtain ⟨rfl, k2⟩ := h2
        have hb' := (hB'.block b (Array.getElem?_eq_some_iff.1 hb).1).trans hb
        rw [← cells_arr] at hb'
        refine (awp_calls (vs := [.agg (cells .u64 4 a'), .agg (cells .u64 4 b'), .pointer (some ⟨b, 0, none⟩)]) (r := .pv (.words .u64 4 (a' * b' % m))) Try.func104 (by kernel_rfl) (TOK.cons eTimesB_ok .nil) [.pv (.words .u64 4 a'), .pv (.words .u64 4 b'), .gp .u64 4 m 0] (by rw [Try.ntmps104]; exact Nat.le_add_left 3 7)
          ⟨[], [], [], 200, cloN_p a' b' m _ ?_⟩ (.cons (argV_pv ⟨rfl, k1⟩) (.cons (argV_pv ⟨rfl, k2⟩) (.cons ⟨rfl, by simp, by simp, b, e24, rfl, hb', WF4 hm4⟩ .nil)))).mono fun _ _ h => h
        rw [Nat.div_one, Nat.mod_eq_of_lt (ltW hm4)]
        exact ⟨⟨Nat.le_of_lt hp.1, hp.2⟩, rw_words rfl⟩
  · cases hsp
end Go.Proofs.Ytdjnhnfofajpcaa
