/- Contracts of the reference of chapter 02: Digits, of, Of, Cmp, Bit, Bits. -/
import Derived.Test.YtdjnhnfofajpcaaF5
import Derived.Test.YtdjnhnfofajpcaaN5
namespace Go.Proofs.Ytdjnhnfofajpcaa
open Go Go.Proofs Av

def eDigits : Entry := mk 83 [.n 4] fun (a : Nat) => (.pv (.words .u64 16 (spr a 16)), True)
def eGather : Entry := ⟨84, fun
  | [(.sl _ off len _, .box .u64 k N)] => if len = 16 ∧ (k = 16 ∨ k = 32) then some (.pv (.words .u64 4 (gat N off 16)), off + 16 ≤ k ∧ ∀ j, j < 16 → N / B ^ (off + j) % B < 65536) else none
  | _ => none⟩
def eROf : Entry := mk 37 [.u .u64] fun (n : Nat) => (.pv (.words .u64 4 n), True)
def eRCmp : Entry := mk 39 [.n 4, .n 4] fun (a b : Nat) => (.pv (.int .i64 (if a < b then -1 else if a = b then 0 else 1)), True)
def eRBit : Entry := mk 43 [.n 4, .z .i64] fun (a : Nat) (i : Int) => (.pv (.nat .u64 (if 0 ≤ i ∧ i < 256 then a / 2 ^ i.toNat % 2 else 0)), True)
def eRBits : Entry := mk 41 [.n 4] fun (a : Nat) => (.pv (.int .i64 (bitLen a)), True)

theorem digits_p (a : Nat) (R : AV → Prop) (h : (∃ o1 : Nat, ((o1 ≤ (16 : Nat)) ∧ ((((0 : Nat) = (Proofs.Ytdjnhnfofajpcaa.spr a o1)) ∧ ((0 : Int) = ((o1 : Nat) : Int))) ∧ (∀ x2 : Nat, ((x2 ≤ (16 : Nat)) → ((((decide (((x2 : Nat) : Int) < (16 : Int))) = Bool.true) → ((((((4 : Int) = (0 : Int)) → False) ∧ ((IntKind.wrap IntKind.i64 (Int.tdiv ((x2 : Nat) : Int) (4 : Int))) = (Int.tdiv ((x2 : Nat) : Int) (4 : Int)))) ∧ ((((0 : Int) ≤ (Int.tdiv ((x2 : Nat) : Int) (4 : Int))) ∧ (((Int.tdiv ((x2 : Nat) : Int) (4 : Int)) + (1 : Int)) ≤ (4 : Int))) ∧ ((((Int.toNat (Int.tdiv ((x2 : Nat) : Int) (4 : Int))) + (1 : Nat)) ≤ (4 : Nat)) ∧ (((((4 : Int) = (0 : Int)) → False) ∧ ((IntKind.wrap IntKind.i64 (Int.tmod ((x2 : Nat) : Int) (4 : Int))) = (Int.tmod ((x2 : Nat) : Int) (4 : Int)))) ∧ (((IntKind.wrap IntKind.i64 ((16 : Int) * (Int.tmod ((x2 : Nat) : Int) (4 : Int)))) = ((16 : Int) * (Int.tmod ((x2 : Nat) : Int) (4 : Int)))) ∧ (((0 : Int) ≤ ((16 : Int) * (Int.tmod ((x2 : Nat) : Int) (4 : Int)))) ∧ ((((65536 : Nat) = (0 : Nat)) → False) ∧ ((((0 : Int) ≤ ((x2 : Nat) : Int)) ∧ ((((x2 : Nat) : Int) + (1 : Int)) ≤ (16 : Int))) ∧ (((Int.toNat ((x2 : Nat) : Int)) + (1 : Nat)) ≤ (16 : Nat)))))))))) ∧ (((IntKind.wrap IntKind.i64 (((x2 : Nat) : Int) + (1 : Int))) = (((x2 : Nat) : Int) + (1 : Int))) ∧ (∃ y8 : Nat, ((y8 ≤ (16 : Nat)) ∧ (((((16 : Nat) - y8) + (1 : Nat)) ≤ ((16 : Nat) - x2)) ∧ (((setw (Proofs.Ytdjnhnfofajpcaa.spr a x2) (Int.toNat ((x2 : Nat) : Int)) (1 : Nat) ((((a / ((18446744073709551616 : Nat) ^ (Int.toNat (Int.tdiv ((x2 : Nat) : Int) (4 : Int))))) % (18446744073709551616 : Nat)) / ((2 : Nat) ^ (Int.toNat ((16 : Int) * (Int.tmod ((x2 : Nat) : Int) (4 : Int)))))) % (65536 : Nat))) = (Proofs.Ytdjnhnfofajpcaa.spr a y8)) ∧ ((((x2 : Nat) : Int) + (1 : Int)) = ((y8 : Nat) : Int))))))))) ∧ (((decide (((x2 : Nat) : Int) < (16 : Int))) = Bool.false) → (R (AV.pv (PV.words IntKind.u64 (16 : Nat) (Proofs.Ytdjnhnfofajpcaa.spr a x2)))))))))))) :
    awp [] [] [] [⟨0, Nat, fun _ i => i ≤ 16, fun i => shp 21 0 [(1, .box .u64 4 a), (2, .box .u64 16 0), (3, .box .u64 16 (spr a i)), (4, .pv (.int .i64 i))], fun i => 16 - i⟩] 200 (Try.f83.body.getD .skip) (fnPost Try.f83.results.toList R) (begins [.pv (.words .u64 4 a)] Try.f83.ntmps) :=
  Eq.mp (by kernel_rfl) (ai (ai tr t2) (ai t2 (ai (ai t2 tr) (Exists.imp (fun o1 hq11 => (ai hq11.1 (ai (ai (Eq.refl a) (ai (Eq.refl (0 : Nat)) (ai hq11.2.1.1 (ai hq11.2.1.2 tr)))) (fun (x2 : Nat) => (fun (hk3 : (x2 ≤ (16 : Nat))) => (ai (ai t2 (ai t2 tr)) (ai (fun (hk4 : ((decide (((x2 : Nat) : Int) < (16 : Int))) = Bool.true)) => (ai (ai t2 (ai t2 (ai (ai (ai (fun (hk5 : ((4 : Int) = (0 : Int))) => ((((hq11.2.2 x2) hk3).1 hk4).1.1.1 hk5)) (((hq11.2.2 x2) hk3).1 hk4).1.1.2) tr) (ai (ai (ai (((hq11.2.2 x2) hk3).1 hk4).1.2.1.1 (((hq11.2.2 x2) hk3).1 hk4).1.2.1.2) tr) (ai (ai (((hq11.2.2 x2) hk3).1 hk4).1.2.2.1 tr) (ai t2 (ai (ai (ai (fun (hk6 : ((4 : Int) = (0 : Int))) => ((((hq11.2.2 x2) hk3).1 hk4).1.2.2.2.1.1 hk6)) (((hq11.2.2 x2) hk3).1 hk4).1.2.2.2.1.2) tr) (ai (ai (((hq11.2.2 x2) hk3).1 hk4).1.2.2.2.2.1 tr) (ai (ai (((hq11.2.2 x2) hk3).1 hk4).1.2.2.2.2.2.1 tr) (ai (ai (fun (hk7 : ((65536 : Nat) = (0 : Nat))) => ((((hq11.2.2 x2) hk3).1 hk4).1.2.2.2.2.2.2.1 hk7)) tr) (ai (ai (ai (((hq11.2.2 x2) hk3).1 hk4).1.2.2.2.2.2.2.2.1.1 (((hq11.2.2 x2) hk3).1 hk4).1.2.2.2.2.2.2.2.1.2) tr) (ai (((hq11.2.2 x2) hk3).1 hk4).1.2.2.2.2.2.2.2.2 tr)))))))))))) (ai (ai t2 (ai (ai (((hq11.2.2 x2) hk3).1 hk4).2.1 tr) (ai t2 tr))) (Exists.imp (fun y8 hq9 => (ai hq9.1 (ai hq9.2.1 (ai (Eq.refl a) (ai (Eq.refl (0 : Nat)) (ai hq9.2.2.1 (ai hq9.2.2.2 tr))))))) (((hq11.2.2 x2) hk3).1 hk4).2.2)))) (fun (hk10 : ((decide (((x2 : Nat) : Int) < (16 : Int))) = Bool.false)) => (ai (ai t2 t2) (((hq11.2.2 x2) hk3).2 hk10)))))))))) h))))


theorem gather16_p (N off cap : Nat) (R : AV → Prop) (h : (∃ o12 : Nat, ((o12 ≤ (16 : Nat)) ∧ ((((0 : Nat) = (Proofs.Ytdjnhnfofajpcaa.gat N off o12)) ∧ ((0 : Int) = ((o12 : Nat) : Int))) ∧ (∀ x13 : Nat, ((x13 ≤ (16 : Nat)) → ((((decide (((x13 : Nat) : Int) < (16 : Int))) = Bool.true) → ((((((4 : Int) = (0 : Int)) → False) ∧ ((IntKind.wrap IntKind.i64 (Int.tdiv ((x13 : Nat) : Int) (4 : Int))) = (Int.tdiv ((x13 : Nat) : Int) (4 : Int)))) ∧ (((((4 : Int) = (0 : Int)) → False) ∧ ((IntKind.wrap IntKind.i64 (Int.tdiv ((x13 : Nat) : Int) (4 : Int))) = (Int.tdiv ((x13 : Nat) : Int) (4 : Int)))) ∧ ((((0 : Int) ≤ (Int.tdiv ((x13 : Nat) : Int) (4 : Int))) ∧ (((Int.tdiv ((x13 : Nat) : Int) (4 : Int)) + (1 : Int)) ≤ (4 : Int))) ∧ ((((Int.toNat (Int.tdiv ((x13 : Nat) : Int) (4 : Int))) + (1 : Nat)) ≤ (4 : Nat)) ∧ ((((0 : Int) ≤ ((x13 : Nat) : Int)) ∧ ((((x13 : Nat) : Int) + (1 : Int)) ≤ (16 : Int))) ∧ ((((off + (Int.toNat ((x13 : Nat) : Int))) + (1 : Nat)) ≤ (16 : Nat)) ∧ (((((4 : Int) = (0 : Int)) → False) ∧ ((IntKind.wrap IntKind.i64 (Int.tmod ((x13 : Nat) : Int) (4 : Int))) = (Int.tmod ((x13 : Nat) : Int) (4 : Int)))) ∧ (((IntKind.wrap IntKind.i64 ((16 : Int) * (Int.tmod ((x13 : Nat) : Int) (4 : Int)))) = ((16 : Int) * (Int.tmod ((x13 : Nat) : Int) (4 : Int)))) ∧ (((0 : Int) ≤ ((16 : Int) * (Int.tmod ((x13 : Nat) : Int) (4 : Int)))) ∧ ((((0 : Int) ≤ (Int.tdiv ((x13 : Nat) : Int) (4 : Int))) ∧ (((Int.tdiv ((x13 : Nat) : Int) (4 : Int)) + (1 : Int)) ≤ (4 : Int))) ∧ (((Int.toNat (Int.tdiv ((x13 : Nat) : Int) (4 : Int))) + (1 : Nat)) ≤ (4 : Nat)))))))))))) ∧ (((IntKind.wrap IntKind.i64 (((x13 : Nat) : Int) + (1 : Int))) = (((x13 : Nat) : Int) + (1 : Int))) ∧ (∃ y19 : Nat, ((y19 ≤ (16 : Nat)) ∧ (((((16 : Nat) - y19) + (1 : Nat)) ≤ ((16 : Nat) - x13)) ∧ (((setw (Proofs.Ytdjnhnfofajpcaa.gat N off x13) (Int.toNat (Int.tdiv ((x13 : Nat) : Int) (4 : Int))) (1 : Nat) (((((Proofs.Ytdjnhnfofajpcaa.gat N off x13) / ((18446744073709551616 : Nat) ^ (Int.toNat (Int.tdiv ((x13 : Nat) : Int) (4 : Int))))) % (18446744073709551616 : Nat)) + ((((N / ((18446744073709551616 : Nat) ^ (off + (Int.toNat ((x13 : Nat) : Int))))) % (18446744073709551616 : Nat)) * ((2 : Nat) ^ (Int.toNat ((16 : Int) * (Int.tmod ((x13 : Nat) : Int) (4 : Int)))))) % (18446744073709551616 : Nat))) % (18446744073709551616 : Nat))) = (Proofs.Ytdjnhnfofajpcaa.gat N off y19)) ∧ ((((x13 : Nat) : Int) + (1 : Int)) = ((y19 : Nat) : Int))))))))) ∧ (((decide (((x13 : Nat) : Int) < (16 : Int))) = Bool.false) → (R (AV.pv (PV.words IntKind.u64 (4 : Nat) (Proofs.Ytdjnhnfofajpcaa.gat N off x13)))))))))))) :
    awp [] [] [] [⟨0, Nat, fun _ i => i ≤ 16, fun i => shp 26 0 [(0, .gs .u64 16 N off 16 cap), (2, .box .u64 4 0), (3, .box .u64 4 (gat N off i)), (4, .pv (.int .i64 i))], fun i => 16 - i⟩] 200 (Try.f84.body.getD .skip) (fnPost Try.f84.results.toList R) (begins [.gs .u64 16 N off 16 cap] Try.f84.ntmps) :=
  Eq.mp (by kernel_rfl) (ai t2 (ai t2 (ai (ai t2 tr) (Exists.imp (fun o12 hq22 => (ai hq22.1 (ai (ai (ai (Eq.refl N) (ai (Eq.refl off) (ai (Eq.refl (16 : Nat)) (Eq.refl cap)))) (ai (Eq.refl (0 : Nat)) (ai hq22.2.1.1 (ai hq22.2.1.2 tr)))) (fun (x13 : Nat) => (fun (hk14 : (x13 ≤ (16 : Nat))) => (ai (ai t2 (ai t2 tr)) (ai (fun (hk15 : ((decide (((x13 : Nat) : Int) < (16 : Int))) = Bool.true)) => (ai (ai t2 (ai (ai (ai (fun (hk16 : ((4 : Int) = (0 : Int))) => ((((hq22.2.2 x13) hk14).1 hk15).1.1.1 hk16)) (((hq22.2.2 x13) hk14).1 hk15).1.1.2) tr) (ai t2 (ai (ai (ai (fun (hk17 : ((4 : Int) = (0 : Int))) => ((((hq22.2.2 x13) hk14).1 hk15).1.2.1.1 hk17)) (((hq22.2.2 x13) hk14).1 hk15).1.2.1.2) tr) (ai (ai (ai (((hq22.2.2 x13) hk14).1 hk15).1.2.2.1.1 (((hq22.2.2 x13) hk14).1 hk15).1.2.2.1.2) tr) (ai (ai (((hq22.2.2 x13) hk14).1 hk15).1.2.2.2.1 tr) (ai t2 (ai t2 (ai (ai (ai (((hq22.2.2 x13) hk14).1 hk15).1.2.2.2.2.1.1 (((hq22.2.2 x13) hk14).1 hk15).1.2.2.2.2.1.2) tr) (ai (ai (((hq22.2.2 x13) hk14).1 hk15).1.2.2.2.2.2.1 tr) (ai t2 (ai (ai (ai (fun (hk18 : ((4 : Int) = (0 : Int))) => ((((hq22.2.2 x13) hk14).1 hk15).1.2.2.2.2.2.2.1.1 hk18)) (((hq22.2.2 x13) hk14).1 hk15).1.2.2.2.2.2.2.1.2) tr) (ai (ai (((hq22.2.2 x13) hk14).1 hk15).1.2.2.2.2.2.2.2.1 tr) (ai (ai (((hq22.2.2 x13) hk14).1 hk15).1.2.2.2.2.2.2.2.2.1 tr) (ai t2 (ai (ai (ai (((hq22.2.2 x13) hk14).1 hk15).1.2.2.2.2.2.2.2.2.2.1.1 (((hq22.2.2 x13) hk14).1 hk15).1.2.2.2.2.2.2.2.2.2.1.2) tr) (ai (((hq22.2.2 x13) hk14).1 hk15).1.2.2.2.2.2.2.2.2.2.2 tr))))))))))))))))) (ai (ai t2 (ai (ai (((hq22.2.2 x13) hk14).1 hk15).2.1 tr) (ai t2 tr))) (Exists.imp (fun y19 hq20 => (ai hq20.1 (ai hq20.2.1 (ai (ai (Eq.refl N) (ai (Eq.refl off) (ai (Eq.refl (16 : Nat)) (Eq.refl cap)))) (ai (Eq.refl (0 : Nat)) (ai hq20.2.2.1 (ai hq20.2.2.2 tr))))))) (((hq22.2.2 x13) hk14).1 hk15).2.2)))) (fun (hk21 : ((decide (((x13 : Nat) : Int) < (16 : Int))) = Bool.false)) => (ai (ai t2 t2) (((hq22.2.2 x13) hk14).2 hk21)))))))))) h))))


theorem gather32_p (N off cap : Nat) (R : AV → Prop) (h : (∃ o23 : Nat, ((o23 ≤ (16 : Nat)) ∧ ((((0 : Nat) = (Proofs.Ytdjnhnfofajpcaa.gat N off o23)) ∧ ((0 : Int) = ((o23 : Nat) : Int))) ∧ (∀ x24 : Nat, ((x24 ≤ (16 : Nat)) → ((((decide (((x24 : Nat) : Int) < (16 : Int))) = Bool.true) → ((((((4 : Int) = (0 : Int)) → False) ∧ ((IntKind.wrap IntKind.i64 (Int.tdiv ((x24 : Nat) : Int) (4 : Int))) = (Int.tdiv ((x24 : Nat) : Int) (4 : Int)))) ∧ (((((4 : Int) = (0 : Int)) → False) ∧ ((IntKind.wrap IntKind.i64 (Int.tdiv ((x24 : Nat) : Int) (4 : Int))) = (Int.tdiv ((x24 : Nat) : Int) (4 : Int)))) ∧ ((((0 : Int) ≤ (Int.tdiv ((x24 : Nat) : Int) (4 : Int))) ∧ (((Int.tdiv ((x24 : Nat) : Int) (4 : Int)) + (1 : Int)) ≤ (4 : Int))) ∧ ((((Int.toNat (Int.tdiv ((x24 : Nat) : Int) (4 : Int))) + (1 : Nat)) ≤ (4 : Nat)) ∧ ((((0 : Int) ≤ ((x24 : Nat) : Int)) ∧ ((((x24 : Nat) : Int) + (1 : Int)) ≤ (16 : Int))) ∧ ((((off + (Int.toNat ((x24 : Nat) : Int))) + (1 : Nat)) ≤ (32 : Nat)) ∧ (((((4 : Int) = (0 : Int)) → False) ∧ ((IntKind.wrap IntKind.i64 (Int.tmod ((x24 : Nat) : Int) (4 : Int))) = (Int.tmod ((x24 : Nat) : Int) (4 : Int)))) ∧ (((IntKind.wrap IntKind.i64 ((16 : Int) * (Int.tmod ((x24 : Nat) : Int) (4 : Int)))) = ((16 : Int) * (Int.tmod ((x24 : Nat) : Int) (4 : Int)))) ∧ (((0 : Int) ≤ ((16 : Int) * (Int.tmod ((x24 : Nat) : Int) (4 : Int)))) ∧ ((((0 : Int) ≤ (Int.tdiv ((x24 : Nat) : Int) (4 : Int))) ∧ (((Int.tdiv ((x24 : Nat) : Int) (4 : Int)) + (1 : Int)) ≤ (4 : Int))) ∧ (((Int.toNat (Int.tdiv ((x24 : Nat) : Int) (4 : Int))) + (1 : Nat)) ≤ (4 : Nat)))))))))))) ∧ (((IntKind.wrap IntKind.i64 (((x24 : Nat) : Int) + (1 : Int))) = (((x24 : Nat) : Int) + (1 : Int))) ∧ (∃ y30 : Nat, ((y30 ≤ (16 : Nat)) ∧ (((((16 : Nat) - y30) + (1 : Nat)) ≤ ((16 : Nat) - x24)) ∧ (((setw (Proofs.Ytdjnhnfofajpcaa.gat N off x24) (Int.toNat (Int.tdiv ((x24 : Nat) : Int) (4 : Int))) (1 : Nat) (((((Proofs.Ytdjnhnfofajpcaa.gat N off x24) / ((18446744073709551616 : Nat) ^ (Int.toNat (Int.tdiv ((x24 : Nat) : Int) (4 : Int))))) % (18446744073709551616 : Nat)) + ((((N / ((18446744073709551616 : Nat) ^ (off + (Int.toNat ((x24 : Nat) : Int))))) % (18446744073709551616 : Nat)) * ((2 : Nat) ^ (Int.toNat ((16 : Int) * (Int.tmod ((x24 : Nat) : Int) (4 : Int)))))) % (18446744073709551616 : Nat))) % (18446744073709551616 : Nat))) = (Proofs.Ytdjnhnfofajpcaa.gat N off y30)) ∧ ((((x24 : Nat) : Int) + (1 : Int)) = ((y30 : Nat) : Int))))))))) ∧ (((decide (((x24 : Nat) : Int) < (16 : Int))) = Bool.false) → (R (AV.pv (PV.words IntKind.u64 (4 : Nat) (Proofs.Ytdjnhnfofajpcaa.gat N off x24)))))))))))) :
    awp [] [] [] [⟨0, Nat, fun _ i => i ≤ 16, fun i => shp 26 0 [(0, .gs .u64 32 N off 16 cap), (2, .box .u64 4 0), (3, .box .u64 4 (gat N off i)), (4, .pv (.int .i64 i))], fun i => 16 - i⟩] 200 (Try.f84.body.getD .skip) (fnPost Try.f84.results.toList R) (begins [.gs .u64 32 N off 16 cap] Try.f84.ntmps) :=
  Eq.mp (by kernel_rfl) (ai t2 (ai t2 (ai (ai t2 tr) (Exists.imp (fun o23 hq33 => (ai hq33.1 (ai (ai (ai (Eq.refl N) (ai (Eq.refl off) (ai (Eq.refl (16 : Nat)) (Eq.refl cap)))) (ai (Eq.refl (0 : Nat)) (ai hq33.2.1.1 (ai hq33.2.1.2 tr)))) (fun (x24 : Nat) => (fun (hk25 : (x24 ≤ (16 : Nat))) => (ai (ai t2 (ai t2 tr)) (ai (fun (hk26 : ((decide (((x24 : Nat) : Int) < (16 : Int))) = Bool.true)) => (ai (ai t2 (ai (ai (ai (fun (hk27 : ((4 : Int) = (0 : Int))) => ((((hq33.2.2 x24) hk25).1 hk26).1.1.1 hk27)) (((hq33.2.2 x24) hk25).1 hk26).1.1.2) tr) (ai t2 (ai (ai (ai (fun (hk28 : ((4 : Int) = (0 : Int))) => ((((hq33.2.2 x24) hk25).1 hk26).1.2.1.1 hk28)) (((hq33.2.2 x24) hk25).1 hk26).1.2.1.2) tr) (ai (ai (ai (((hq33.2.2 x24) hk25).1 hk26).1.2.2.1.1 (((hq33.2.2 x24) hk25).1 hk26).1.2.2.1.2) tr) (ai (ai (((hq33.2.2 x24) hk25).1 hk26).1.2.2.2.1 tr) (ai t2 (ai t2 (ai (ai (ai (((hq33.2.2 x24) hk25).1 hk26).1.2.2.2.2.1.1 (((hq33.2.2 x24) hk25).1 hk26).1.2.2.2.2.1.2) tr) (ai (ai (((hq33.2.2 x24) hk25).1 hk26).1.2.2.2.2.2.1 tr) (ai t2 (ai (ai (ai (fun (hk29 : ((4 : Int) = (0 : Int))) => ((((hq33.2.2 x24) hk25).1 hk26).1.2.2.2.2.2.2.1.1 hk29)) (((hq33.2.2 x24) hk25).1 hk26).1.2.2.2.2.2.2.1.2) tr) (ai (ai (((hq33.2.2 x24) hk25).1 hk26).1.2.2.2.2.2.2.2.1 tr) (ai (ai (((hq33.2.2 x24) hk25).1 hk26).1.2.2.2.2.2.2.2.2.1 tr) (ai t2 (ai (ai (ai (((hq33.2.2 x24) hk25).1 hk26).1.2.2.2.2.2.2.2.2.2.1.1 (((hq33.2.2 x24) hk25).1 hk26).1.2.2.2.2.2.2.2.2.2.1.2) tr) (ai (((hq33.2.2 x24) hk25).1 hk26).1.2.2.2.2.2.2.2.2.2.2 tr))))))))))))))))) (ai (ai t2 (ai (ai (((hq33.2.2 x24) hk25).1 hk26).2.1 tr) (ai t2 tr))) (Exists.imp (fun y30 hq31 => (ai hq31.1 (ai hq31.2.1 (ai (ai (Eq.refl N) (ai (Eq.refl off) (ai (Eq.refl (16 : Nat)) (Eq.refl cap)))) (ai (Eq.refl (0 : Nat)) (ai hq31.2.2.1 (ai hq31.2.2.2 tr))))))) (((hq33.2.2 x24) hk25).1 hk26).2.2)))) (fun (hk32 : ((decide (((x24 : Nat) : Int) < (16 : Int))) = Bool.false)) => (ai (ai t2 t2) (((hq33.2.2 x24) hk25).2 hk32)))))))))) h))))


theorem rof_p (n : Nat) (R : AV → Prop) (h : (R (AV.pv (PV.words IntKind.u64 (4 : Nat) (setw (0 : Nat) (0 : Nat) (1 : Nat) n))))) :
    awp [] [] [] [] 200 (Try.f37.body.getD .skip) (fnPost Try.f37.results.toList R) (begins [.pv (.nat .u64 n)] Try.f37.ntmps) :=
  Eq.mp (by kernel_rfl) (ai t2 (ai t2 (ai (ai t2 (ai (ai (ai (show ((0 : Int) ≤ (0 : Int)) from by decide) (show ((1 : Int) ≤ (4 : Int)) from by decide)) tr) (ai (show ((1 : Nat) ≤ (4 : Nat)) from by decide) tr))) (ai (ai t2 t2) h))))


theorem rcmp_p (a b : Nat) (R : AV → Prop) (h : (∃ o34 : Nat, (((o34 ≤ (16 : Nat)) ∧ ((a / ((65536 : Nat) ^ o34)) = (b / ((65536 : Nat) ^ o34)))) ∧ (((15 : Int) = (((o34 : Nat) : Int) - (1 : Int))) ∧ (∀ x35 : Nat, (((x35 ≤ (16 : Nat)) ∧ ((a / ((65536 : Nat) ^ x35)) = (b / ((65536 : Nat) ^ x35)))) → ((((decide ((0 : Int) ≤ (((x35 : Nat) : Int) - (1 : Int)))) = Bool.true) → (((((0 : Int) ≤ (((x35 : Nat) : Int) - (1 : Int))) ∧ (((((x35 : Nat) : Int) - (1 : Int)) + (1 : Int)) ≤ (16 : Int))) ∧ ((((Int.toNat (((x35 : Nat) : Int) - (1 : Int))) + (1 : Nat)) ≤ (16 : Nat)) ∧ ((((0 : Int) ≤ (((x35 : Nat) : Int) - (1 : Int))) ∧ (((((x35 : Nat) : Int) - (1 : Int)) + (1 : Int)) ≤ (16 : Int))) ∧ (((Int.toNat (((x35 : Nat) : Int) - (1 : Int))) + (1 : Nat)) ≤ (16 : Nat))))) ∧ ((((decide ((((Proofs.Ytdjnhnfofajpcaa.spr a (16 : Nat)) / ((18446744073709551616 : Nat) ^ (Int.toNat (((x35 : Nat) : Int) - (1 : Int))))) % (18446744073709551616 : Nat)) < (((Proofs.Ytdjnhnfofajpcaa.spr b (16 : Nat)) / ((18446744073709551616 : Nat) ^ (Int.toNat (((x35 : Nat) : Int) - (1 : Int))))) % (18446744073709551616 : Nat)))) = Bool.true) → (R (AV.pv (PV.lit IntKind.i64 (-1 : Int))))) ∧ (((decide ((((Proofs.Ytdjnhnfofajpcaa.spr a (16 : Nat)) / ((18446744073709551616 : Nat) ^ (Int.toNat (((x35 : Nat) : Int) - (1 : Int))))) % (18446744073709551616 : Nat)) < (((Proofs.Ytdjnhnfofajpcaa.spr b (16 : Nat)) / ((18446744073709551616 : Nat) ^ (Int.toNat (((x35 : Nat) : Int) - (1 : Int))))) % (18446744073709551616 : Nat)))) = Bool.false) → (((((0 : Int) ≤ (((x35 : Nat) : Int) - (1 : Int))) ∧ (((((x35 : Nat) : Int) - (1 : Int)) + (1 : Int)) ≤ (16 : Int))) ∧ ((((Int.toNat (((x35 : Nat) : Int) - (1 : Int))) + (1 : Nat)) ≤ (16 : Nat)) ∧ ((((0 : Int) ≤ (((x35 : Nat) : Int) - (1 : Int))) ∧ (((((x35 : Nat) : Int) - (1 : Int)) + (1 : Int)) ≤ (16 : Int))) ∧ (((Int.toNat (((x35 : Nat) : Int) - (1 : Int))) + (1 : Nat)) ≤ (16 : Nat))))) ∧ ((((decide ((((Proofs.Ytdjnhnfofajpcaa.spr b (16 : Nat)) / ((18446744073709551616 : Nat) ^ (Int.toNat (((x35 : Nat) : Int) - (1 : Int))))) % (18446744073709551616 : Nat)) < (((Proofs.Ytdjnhnfofajpcaa.spr a (16 : Nat)) / ((18446744073709551616 : Nat) ^ (Int.toNat (((x35 : Nat) : Int) - (1 : Int))))) % (18446744073709551616 : Nat)))) = Bool.true) → (R (AV.pv (PV.lit IntKind.i64 (1 : Int))))) ∧ (((decide ((((Proofs.Ytdjnhnfofajpcaa.spr b (16 : Nat)) / ((18446744073709551616 : Nat) ^ (Int.toNat (((x35 : Nat) : Int) - (1 : Int))))) % (18446744073709551616 : Nat)) < (((Proofs.Ytdjnhnfofajpcaa.spr a (16 : Nat)) / ((18446744073709551616 : Nat) ^ (Int.toNat (((x35 : Nat) : Int) - (1 : Int))))) % (18446744073709551616 : Nat)))) = Bool.false) → (((IntKind.wrap IntKind.i64 ((((x35 : Nat) : Int) - (1 : Int)) - (1 : Int))) = ((((x35 : Nat) : Int) - (1 : Int)) - (1 : Int))) ∧ (∃ y42 : Nat, (((y42 ≤ (16 : Nat)) ∧ ((a / ((65536 : Nat) ^ y42)) = (b / ((65536 : Nat) ^ y42)))) ∧ (((y42 + (1 : Nat)) ≤ x35) ∧ (((((x35 : Nat) : Int) - (1 : Int)) - (1 : Int)) = (((y42 : Nat) : Int) - (1 : Int)))))))))))))) ∧ (((decide ((0 : Int) ≤ (((x35 : Nat) : Int) - (1 : Int)))) = Bool.false) → (R (AV.pv (PV.lit IntKind.i64 (0 : Int)))))))))))) :
    awp [eDigits] [] [] [⟨0, Nat, fun _ i => i ≤ 16 ∧ a / 65536 ^ i = b / 65536 ^ i, fun i => shp 30 0 [(5, .box .u64 16 (spr a 16)), (6, .box .u64 16 (spr b 16)), (7, .pv (.int .i64 ((i : Int) - 1)))], fun i => i⟩] 200 (Try.f39.body.getD .skip) (fnPost Try.f39.results.toList R) (begins [.pv (.words .u64 4 a), .pv (.words .u64 4 b)] Try.f39.ntmps) :=
  Eq.mp (by kernel_rfl) (ai (ai tr (ai tr (ai t2 tr))) (ai (ai t2 (ai t2 (ai tr t2))) (ai (ai t2 (ai t2 (ai tr t2))) (ai (ai t2 tr) (Exists.imp (fun o34 hq45 => (ai (ai hq45.1.1 hq45.1.2) (ai (ai (Eq.refl (Proofs.Ytdjnhnfofajpcaa.spr a (16 : Nat))) (ai (Eq.refl (Proofs.Ytdjnhnfofajpcaa.spr b (16 : Nat))) (ai hq45.2.1 tr))) (fun (x35 : Nat) => (fun (hk36 : ((x35 ≤ (16 : Nat)) ∧ ((a / ((65536 : Nat) ^ x35)) = (b / ((65536 : Nat) ^ x35))))) => (ai (ai t2 (ai t2 tr)) (ai (fun (hk37 : ((decide ((0 : Int) ≤ (((x35 : Nat) : Int) - (1 : Int)))) = Bool.true)) => (ai (ai t2 (ai (ai (ai (((hq45.2.2 x35) hk36).1 hk37).1.1.1 (((hq45.2.2 x35) hk36).1 hk37).1.1.2) tr) (ai (ai (((hq45.2.2 x35) hk36).1 hk37).1.2.1 tr) (ai t2 (ai (ai (ai (((hq45.2.2 x35) hk36).1 hk37).1.2.2.1.1 (((hq45.2.2 x35) hk36).1 hk37).1.2.2.1.2) tr) (ai (ai (((hq45.2.2 x35) hk36).1 hk37).1.2.2.2 tr) (ai t2 tr))))))) (ai (fun (hk38 : ((decide ((((Proofs.Ytdjnhnfofajpcaa.spr a (16 : Nat)) / ((18446744073709551616 : Nat) ^ (Int.toNat (((x35 : Nat) : Int) - (1 : Int))))) % (18446744073709551616 : Nat)) < (((Proofs.Ytdjnhnfofajpcaa.spr b (16 : Nat)) / ((18446744073709551616 : Nat) ^ (Int.toNat (((x35 : Nat) : Int) - (1 : Int))))) % (18446744073709551616 : Nat)))) = Bool.true)) => (ai (ai t2 tr) ((((hq45.2.2 x35) hk36).1 hk37).2.1 hk38))) (fun (hk39 : ((decide ((((Proofs.Ytdjnhnfofajpcaa.spr a (16 : Nat)) / ((18446744073709551616 : Nat) ^ (Int.toNat (((x35 : Nat) : Int) - (1 : Int))))) % (18446744073709551616 : Nat)) < (((Proofs.Ytdjnhnfofajpcaa.spr b (16 : Nat)) / ((18446744073709551616 : Nat) ^ (Int.toNat (((x35 : Nat) : Int) - (1 : Int))))) % (18446744073709551616 : Nat)))) = Bool.false)) => (ai (ai t2 (ai (ai (ai ((((hq45.2.2 x35) hk36).1 hk37).2.2 hk39).1.1.1 ((((hq45.2.2 x35) hk36).1 hk37).2.2 hk39).1.1.2) tr) (ai (ai ((((hq45.2.2 x35) hk36).1 hk37).2.2 hk39).1.2.1 tr) (ai t2 (ai (ai (ai ((((hq45.2.2 x35) hk36).1 hk37).2.2 hk39).1.2.2.1.1 ((((hq45.2.2 x35) hk36).1 hk37).2.2 hk39).1.2.2.1.2) tr) (ai (ai ((((hq45.2.2 x35) hk36).1 hk37).2.2 hk39).1.2.2.2 tr) (ai t2 tr))))))) (ai (fun (hk40 : ((decide ((((Proofs.Ytdjnhnfofajpcaa.spr b (16 : Nat)) / ((18446744073709551616 : Nat) ^ (Int.toNat (((x35 : Nat) : Int) - (1 : Int))))) % (18446744073709551616 : Nat)) < (((Proofs.Ytdjnhnfofajpcaa.spr a (16 : Nat)) / ((18446744073709551616 : Nat) ^ (Int.toNat (((x35 : Nat) : Int) - (1 : Int))))) % (18446744073709551616 : Nat)))) = Bool.true)) => (ai (ai t2 tr) (((((hq45.2.2 x35) hk36).1 hk37).2.2 hk39).2.1 hk40))) (fun (hk41 : ((decide ((((Proofs.Ytdjnhnfofajpcaa.spr b (16 : Nat)) / ((18446744073709551616 : Nat) ^ (Int.toNat (((x35 : Nat) : Int) - (1 : Int))))) % (18446744073709551616 : Nat)) < (((Proofs.Ytdjnhnfofajpcaa.spr a (16 : Nat)) / ((18446744073709551616 : Nat) ^ (Int.toNat (((x35 : Nat) : Int) - (1 : Int))))) % (18446744073709551616 : Nat)))) = Bool.false)) => (ai (ai t2 (ai (ai (((((hq45.2.2 x35) hk36).1 hk37).2.2 hk39).2.2 hk41).1 tr) (ai t2 tr))) (Exists.imp (fun y42 hq43 => (ai (ai hq43.1.1 hq43.1.2) (ai hq43.2.1 (ai (Eq.refl (Proofs.Ytdjnhnfofajpcaa.spr a (16 : Nat))) (ai (Eq.refl (Proofs.Ytdjnhnfofajpcaa.spr b (16 : Nat))) (ai hq43.2.2 tr)))))) (((((hq45.2.2 x35) hk36).1 hk37).2.2 hk39).2.2 hk41).2))))))))) (fun (hk44 : ((decide ((0 : Int) ≤ (((x35 : Nat) : Int) - (1 : Int)))) = Bool.false)) => (ai (ai t2 tr) (((hq45.2.2 x35) hk36).2 hk44)))))))))) h)))))


theorem rbit_p (a : Nat) (i : Int) (R : AV → Prop) (h : ((((decide (i < (0 : Int))) = Bool.true) → (R (AV.pv (PV.lit IntKind.u64 (0 : Int))))) ∧ (((decide (i < (0 : Int))) = Bool.false) → ((((decide ((255 : Int) < i)) = Bool.true) → (R (AV.pv (PV.lit IntKind.u64 (0 : Int))))) ∧ (((decide ((255 : Int) < i)) = Bool.false) → ((((((16 : Int) = (0 : Int)) → False) ∧ ((IntKind.wrap IntKind.i64 (Int.tdiv i (16 : Int))) = (Int.tdiv i (16 : Int)))) ∧ ((((0 : Int) ≤ (Int.tdiv i (16 : Int))) ∧ (((Int.tdiv i (16 : Int)) + (1 : Int)) ≤ (16 : Int))) ∧ ((((Int.toNat (Int.tdiv i (16 : Int))) + (1 : Nat)) ≤ (16 : Nat)) ∧ (((((16 : Int) = (0 : Int)) → False) ∧ ((IntKind.wrap IntKind.i64 (Int.tmod i (16 : Int))) = (Int.tmod i (16 : Int)))) ∧ (((0 : Int) ≤ (Int.tmod i (16 : Int))) ∧ (((2 : Nat) = (0 : Nat)) → False)))))) ∧ (R (AV.pv (PV.nat IntKind.u64 (((((Proofs.Ytdjnhnfofajpcaa.spr a (16 : Nat)) / ((18446744073709551616 : Nat) ^ (Int.toNat (Int.tdiv i (16 : Int))))) % (18446744073709551616 : Nat)) / ((2 : Nat) ^ (Int.toNat (Int.tmod i (16 : Int))))) % (2 : Nat))))))))))) :
    awp [eDigits] [] [8] [] 200 (Try.f43.body.getD .skip) (fnPost Try.f43.results.toList R) (begins [.pv (.words .u64 4 a), .pv (.int .i64 i)] Try.f43.ntmps) :=
  Eq.mp (by kernel_rfl) (ai (ai tr (ai t2 tr)) (ai (fun (hk46 : ((decide (i < (0 : Int))) = Bool.true)) => (ai (ai t2 (ai t2 (ai (ai tr hk46) (ai tr (ai tr (ai t2 tr)))))) (ai (ai t2 tr) (h.1 hk46)))) (fun (hk47 : ((decide (i < (0 : Int))) = Bool.false)) => (ai (ai t2 (ai t2 (ai (ai tr hk47) (ai t2 (ai t2 (ai t2 tr)))))) (ai (fun (hk48 : ((decide ((255 : Int) < i)) = Bool.true)) => (ai (ai t2 tr) ((h.2 hk47).1 hk48))) (fun (hk49 : ((decide ((255 : Int) < i)) = Bool.false)) => (ai (ai t2 (ai t2 (ai tr t2))) (ai (ai t2 (ai (ai (ai (fun (hk50 : ((16 : Int) = (0 : Int))) => (((h.2 hk47).2 hk49).1.1.1 hk50)) ((h.2 hk47).2 hk49).1.1.2) tr) (ai (ai (ai ((h.2 hk47).2 hk49).1.2.1.1 ((h.2 hk47).2 hk49).1.2.1.2) tr) (ai (ai ((h.2 hk47).2 hk49).1.2.2.1 tr) (ai t2 (ai (ai (ai (fun (hk51 : ((16 : Int) = (0 : Int))) => (((h.2 hk47).2 hk49).1.2.2.2.1.1 hk51)) ((h.2 hk47).2 hk49).1.2.2.2.1.2) tr) (ai (ai ((h.2 hk47).2 hk49).1.2.2.2.2.1 tr) (ai (ai (fun (hk52 : ((2 : Nat) = (0 : Nat))) => (((h.2 hk47).2 hk49).1.2.2.2.2.2 hk52)) tr) (ai t2 tr))))))))) ((h.2 hk47).2 hk49).2))))))))


theorem rbits_p (a : Nat) (R : AV → Prop) (h : (∃ o53 : Nat, (((o53 ≤ (256 : Nat)) ∧ ((a + (1 : Nat)) ≤ ((2 : Nat) ^ o53))) ∧ (((255 : Int) = (((o53 : Nat) : Int) - (1 : Int))) ∧ (∀ x54 : Nat, (((x54 ≤ (256 : Nat)) ∧ ((a + (1 : Nat)) ≤ ((2 : Nat) ^ x54))) → ((((decide ((0 : Int) ≤ (((x54 : Nat) : Int) - (1 : Int)))) = Bool.true) → ((((decide ((if (((0 : Int) ≤ (((x54 : Nat) : Int) - (1 : Int))) ∧ ((((x54 : Nat) : Int) - (1 : Int)) < (256 : Int))) then ((a / ((2 : Nat) ^ (Int.toNat (((x54 : Nat) : Int) - (1 : Int))))) % (2 : Nat)) else (0 : Nat)) = (1 : Nat))) = Bool.true) → (((IntKind.wrap IntKind.i64 ((((x54 : Nat) : Int) - (1 : Int)) + (1 : Int))) = ((((x54 : Nat) : Int) - (1 : Int)) + (1 : Int))) ∧ (R (AV.pv (PV.int IntKind.i64 ((((x54 : Nat) : Int) - (1 : Int)) + (1 : Int))))))) ∧ (((decide ((if (((0 : Int) ≤ (((x54 : Nat) : Int) - (1 : Int))) ∧ ((((x54 : Nat) : Int) - (1 : Int)) < (256 : Int))) then ((a / ((2 : Nat) ^ (Int.toNat (((x54 : Nat) : Int) - (1 : Int))))) % (2 : Nat)) else (0 : Nat)) = (1 : Nat))) = Bool.false) → (((IntKind.wrap IntKind.i64 ((((x54 : Nat) : Int) - (1 : Int)) - (1 : Int))) = ((((x54 : Nat) : Int) - (1 : Int)) - (1 : Int))) ∧ (∃ y59 : Nat, (((y59 ≤ (256 : Nat)) ∧ ((a + (1 : Nat)) ≤ ((2 : Nat) ^ y59))) ∧ (((y59 + (1 : Nat)) ≤ x54) ∧ (((((x54 : Nat) : Int) - (1 : Int)) - (1 : Int)) = (((y59 : Nat) : Int) - (1 : Int)))))))))) ∧ (((decide ((0 : Int) ≤ (((x54 : Nat) : Int) - (1 : Int)))) = Bool.false) → (R (AV.pv (PV.lit IntKind.i64 (0 : Int)))))))))))) :
    awp [eRBit] [] [] [⟨0, Nat, fun _ i => i ≤ 256 ∧ a < 2 ^ i, fun i => shp 14 0 [(1, .box .u64 4 a), (3, .pv (.int .i64 ((i : Int) - 1)))], fun i => i⟩] 200 (Try.f41.body.getD .skip) (fnPost Try.f41.results.toList R) (begins [.pv (.words .u64 4 a)] Try.f41.ntmps) :=
  Eq.mp (by kernel_rfl) (ai (ai tr (ai t2 tr)) (ai (ai t2 tr) (Exists.imp (fun o53 hq62 => (ai (ai hq62.1.1 hq62.1.2) (ai (ai (Eq.refl a) (ai hq62.2.1 tr)) (fun (x54 : Nat) => (fun (hk55 : ((x54 ≤ (256 : Nat)) ∧ ((a + (1 : Nat)) ≤ ((2 : Nat) ^ x54)))) => (ai (ai t2 (ai t2 tr)) (ai (fun (hk56 : ((decide ((0 : Int) ≤ (((x54 : Nat) : Int) - (1 : Int)))) = Bool.true)) => (ai (ai t2 (ai t2 (ai t2 (ai t2 tr)))) (ai (fun (hk57 : ((decide ((if (((0 : Int) ≤ (((x54 : Nat) : Int) - (1 : Int))) ∧ ((((x54 : Nat) : Int) - (1 : Int)) < (256 : Int))) then ((a / ((2 : Nat) ^ (Int.toNat (((x54 : Nat) : Int) - (1 : Int))))) % (2 : Nat)) else (0 : Nat)) = (1 : Nat))) = Bool.true)) => (ai (ai t2 (ai (ai ((((hq62.2.2 x54) hk55).1 hk56).1 hk57).1 tr) (ai t2 tr))) ((((hq62.2.2 x54) hk55).1 hk56).1 hk57).2)) (fun (hk58 : ((decide ((if (((0 : Int) ≤ (((x54 : Nat) : Int) - (1 : Int))) ∧ ((((x54 : Nat) : Int) - (1 : Int)) < (256 : Int))) then ((a / ((2 : Nat) ^ (Int.toNat (((x54 : Nat) : Int) - (1 : Int))))) % (2 : Nat)) else (0 : Nat)) = (1 : Nat))) = Bool.false)) => (ai (ai t2 (ai (ai ((((hq62.2.2 x54) hk55).1 hk56).2 hk58).1 tr) (ai t2 tr))) (Exists.imp (fun y59 hq60 => (ai (ai hq60.1.1 hq60.1.2) (ai hq60.2.1 (ai (Eq.refl a) (ai hq60.2.2 tr))))) ((((hq62.2.2 x54) hk55).1 hk56).2 hk58).2)))))) (fun (hk61 : ((decide ((0 : Int) ≤ (((x54 : Nat) : Int) - (1 : Int)))) = Bool.false)) => (ai (ai t2 tr) (((hq62.2.2 x54) hk55).2 hk61)))))))))) h)))


theorem eDigits_ok : eDigits.OK := mk_ok Try.func83 (by kernel_rfl) (by kernel_rfl) .nil (by rw [Try.ntmps83]; decide) (by
  intro a ha _
  refine ⟨[], [], _, 200, digits_p a _ ⟨0, by decide, ⟨rfl, rfl⟩, fun i hi => ⟨fun h => ?_, fun h => ?_⟩⟩⟩
  · have h := of_decide_eq_true h
    have e1 : Int.tdiv (i : Int) 4 = ((i / 4 : Nat) : Int) := by rw [Int.tdiv_eq_ediv_of_nonneg (by omega)]; omega
    have e2 : Int.tmod (i : Int) 4 = ((i % 4 : Nat) : Int) := by rw [Int.tmod_eq_emod_of_nonneg (by omega)]; omega
    rw [e1, e2]
    refine ⟨⟨⟨by decide, i64_ok (by omega) (by omega)⟩, ⟨by omega, by omega⟩, by omega, ⟨by decide, i64_ok (by omega) (by omega)⟩, i64_ok (by omega) (by omega), by omega, by decide, ⟨by omega, by omega⟩, by omega⟩, i64_ok (by omega) (by omega), i + 1, by omega, by omega, ?_, rfl⟩
    have e3 : ((16 : Int) * ((i % 4 : Nat) : Int)).toNat = 16 * (i % 4) := by omega
    rw [e3, Int.toNat_natCast, Int.toNat_natCast]
    exact congrArg (setw (spr a i) i 1) (digit_math a i)
  · have h := of_decide_eq_false h
    obtain rfl : i = 16 := by omega
    exact rw_words rfl)

theorem eGather_ok : eGather.OK := Entry.ok_of (fn := Try.f84) Try.func84 (by kernel_rfl) (by kernel_rfl) .nil (by
  intro args r p hsp hp w vs hv
  have loop : ∀ (N off : Nat), (∀ j, j < 16 → N / B ^ (off + j) % B < 65536) → ∀ i : Nat, i < 16 →
      setw (gat N off i) (i / 4) 1 ((gat N off i / B ^ (i / 4) % B + N / B ^ (off + i) % B * 2 ^ (16 * (i % 4)) % B) % B) = gat N off (i + 1) := by
    intro N off hd i hi
    rw [gather_math _ _ _ (gat_lt i fun j hj => hd j (by omega)) (hd i hi)]; rfl
  simp only [eGather] at hsp
  split at hsp
  · rename_i t off len cap k N
    split at hsp
    · rename_i hk
      obtain ⟨rfl, hk⟩ := hk
      simp only [Option.some.injEq, Prod.mk.injEq] at hsp
      obtain ⟨rfl, rfl⟩ := hsp
      obtain ⟨hk1, hk2⟩ := hp
      refine ⟨by rw [Try.ntmps84]; simp, [], [], ?_⟩
      rcases hk with rfl | rfl
      · refine ⟨_, 200, gather16_p N off cap _ ⟨0, by decide, ⟨rfl, rfl⟩, fun i hi => ⟨fun h => ?_, fun h => ?_⟩⟩⟩
        · have h := of_decide_eq_true h
          have e1 : Int.tdiv (i : Int) 4 = ((i / 4 : Nat) : Int) := by rw [Int.tdiv_eq_ediv_of_nonneg (by omega)]; omega
          have e2 : Int.tmod (i : Int) 4 = ((i % 4 : Nat) : Int) := by rw [Int.tmod_eq_emod_of_nonneg (by omega)]; omega
          rw [e1, e2]
          refine ⟨⟨⟨by decide, i64_ok (by omega) (by omega)⟩, ⟨by decide, i64_ok (by omega) (by omega)⟩, ⟨by omega, by omega⟩, by omega, ⟨by omega, by omega⟩, by omega, ⟨by decide, i64_ok (by omega) (by omega)⟩, i64_ok (by omega) (by omega), by omega, ⟨by omega, by omega⟩, by omega⟩, i64_ok (by omega) (by omega), i + 1, by omega, by omega, ?_, rfl⟩
          have e3 : ((16 : Int) * ((i % 4 : Nat) : Int)).toNat = 16 * (i % 4) := by omega
          rw [e3, Int.toNat_natCast, Int.toNat_natCast]
          exact loop N off hk2 i (by omega)
        · have h := of_decide_eq_false h
          obtain rfl : i = 16 := by omega
          rfl
      · refine ⟨_, 200, gather32_p N off cap _ ⟨0, by decide, ⟨rfl, rfl⟩, fun i hi => ⟨fun h => ?_, fun h => ?_⟩⟩⟩
        · have h := of_decide_eq_true h
          have e1 : Int.tdiv (i : Int) 4 = ((i / 4 : Nat) : Int) := by rw [Int.tdiv_eq_ediv_of_nonneg (by omega)]; omega
          have e2 : Int.tmod (i : Int) 4 = ((i % 4 : Nat) : Int) := by rw [Int.tmod_eq_emod_of_nonneg (by omega)]; omega
          rw [e1, e2]
          refine ⟨⟨⟨by decide, i64_ok (by omega) (by omega)⟩, ⟨by decide, i64_ok (by omega) (by omega)⟩, ⟨by omega, by omega⟩, by omega, ⟨by omega, by omega⟩, by omega, ⟨by decide, i64_ok (by omega) (by omega)⟩, i64_ok (by omega) (by omega), by omega, ⟨by omega, by omega⟩, by omega⟩, i64_ok (by omega) (by omega), i + 1, by omega, by omega, ?_, rfl⟩
          have e3 : ((16 : Int) * ((i % 4 : Nat) : Int)).toNat = 16 * (i % 4) := by omega
          rw [e3, Int.toNat_natCast, Int.toNat_natCast]
          exact loop N off hk2 i (by omega)
        · have h := of_decide_eq_false h
          obtain rfl : i = 16 := by omega
          rfl
    · simp at hsp
  · simp at hsp)

theorem eROf_ok : eROf.OK := mk_ok Try.func37 (by kernel_rfl) (by kernel_rfl) .nil (by rw [Try.ntmps37]; decide) (by
  intro n hn _
  refine ⟨[], [], [], 200, rof_p n _ ?_⟩
  exact rw_words (setw_zero 1 n))

theorem dig16 {a : Nat} (ha : a < B ^ 4) : Dig (spr a 16) 16 a := spr_ok (by rw [b16]; exact ltW ha)

theorem step_eq {a b i : Nat} (h1 : a / 65536 ^ (i + 1) = b / 65536 ^ (i + 1)) (h2 : a / 65536 ^ i % 65536 = b / 65536 ^ i % 65536) : a / 65536 ^ i = b / 65536 ^ i := by
  rw [Nat.pow_succ, ← Nat.div_div_eq_div_mul, ← Nat.div_div_eq_div_mul] at h1
  omega
theorem step_lt {a b i : Nat} (h1 : a / 65536 ^ (i + 1) = b / 65536 ^ (i + 1)) (h2 : a / 65536 ^ i % 65536 < b / 65536 ^ i % 65536) : a < b := by
  rw [Nat.pow_succ, ← Nat.div_div_eq_div_mul, ← Nat.div_div_eq_div_mul] at h1
  have h3 : a / 65536 ^ i < b / 65536 ^ i := by omega
  refine Nat.lt_of_not_le fun h => ?_
  have := Nat.div_le_div_right (c := 65536 ^ i) h
  omega

theorem eRCmp_ok : eRCmp.OK := mk_ok Try.func39 (by kernel_rfl) (by kernel_rfl) (TOK.cons eDigits_ok .nil) (by rw [Try.ntmps39]; decide) (by
  intro a ha b hb _
  have da := dig16 ha
  have db := dig16 hb
  refine ⟨[], [], _, 200, rcmp_p a b _ ⟨16, ⟨by decide, ?_⟩, rfl, fun i ⟨hi, he⟩ => ⟨fun h => ?_, fun h => ?_⟩⟩⟩
  · rw [Nat.div_eq_of_lt da.vlt, Nat.div_eq_of_lt db.vlt]
  · have h := of_decide_eq_true h
    obtain ⟨k, rfl⟩ : ∃ k, i = k + 1 := ⟨i - 1, by omega⟩
    have e : (((k + 1 : Nat) : Int) - 1).toNat = k := by omega
    rw [e, da.dig k (by omega), db.dig k (by omega)]
    refine ⟨⟨⟨by omega, by omega⟩, by omega, ⟨by omega, by omega⟩, by omega⟩, fun h1 => rw_lit ?_, fun h1 => ⟨⟨⟨by omega, by omega⟩, by omega, ⟨by omega, by omega⟩, by omega⟩, fun h2 => rw_lit ?_, fun h2 => ⟨i64_ok (by omega) (by omega), k, ⟨by omega, ?_⟩, by omega, by omega⟩⟩⟩
    · rw [if_pos (step_lt he (of_decide_eq_true h1))]
    · have := step_lt he.symm (of_decide_eq_true h2)
      rw [if_neg (by omega), if_neg (by omega)]
    · have h1 := of_decide_eq_false h1
      have h2 := of_decide_eq_false h2
      exact step_eq he (by omega)
  · have h := of_decide_eq_false h
    obtain rfl : i = 0 := by omega
    simp only [Nat.pow_zero, Nat.div_one] at he
    subst he
    exact rw_lit (by simp))

theorem rbit_math (a i : Nat) : a / 65536 ^ (i / 16) % 65536 / 2 ^ (i % 16) % 2 = a / 2 ^ i % 2 := by
  have hr : i % 16 < 16 := Nat.mod_lt _ (by decide)
  have ei : 2 ^ i = 2 ^ (16 * (i / 16)) * 2 ^ (i % 16) := by rw [← Nat.pow_add]; congr 1; omega
  rw [bpow, ei, ← Nat.div_div_eq_div_mul]
  generalize a / 2 ^ (16 * (i / 16)) = x
  generalize i % 16 = r at hr
  have e2 : 65536 = 2 ^ r * (2 * 2 ^ (15 - r)) := by
    rw [← Nat.pow_succ', ← Nat.pow_add, show r + (15 - r + 1) = 16 by omega]
  rw [e2, Nat.mod_mul_right_div_self, Nat.mod_mul_right_mod]

theorem eRBit_ok : eRBit.OK := mk_ok Try.func43 (by kernel_rfl) (by kernel_rfl) (TOK.cons eDigits_ok .nil) (by rw [Try.ntmps43]; decide) (by
  intro a ha i hi _
  refine ⟨[], [8], [], 200, rbit_p a i _ ⟨fun h1 => ?_, fun h1 => ⟨fun h2 => ?_, fun h2 => ?_⟩⟩⟩
  · have h1 := of_decide_eq_true h1
    exact rw_litn (by rw [if_neg (by omega)]; rfl)
  · have h2 := of_decide_eq_true h2
    exact rw_litn (by rw [if_neg (by omega)]; rfl)
  · have h1 := of_decide_eq_false h1
    have h2 := of_decide_eq_false h2
    obtain ⟨n, rfl⟩ := Int.eq_ofNat_of_zero_le (show 0 ≤ i by omega)
    have e1 : Int.tdiv (n : Int) 16 = ((n / 16 : Nat) : Int) := by rw [Int.tdiv_eq_ediv_of_nonneg (by omega)]; omega
    have e2 : Int.tmod (n : Int) 16 = ((n % 16 : Nat) : Int) := by rw [Int.tmod_eq_emod_of_nonneg (by omega)]; omega
    rw [e1, e2]
    refine ⟨⟨⟨by decide, i64_ok (by omega) (by omega)⟩, ⟨by omega, by omega⟩, by omega, ⟨by decide, i64_ok (by omega) (by omega)⟩, by omega, by decide⟩, rw_nat ?_⟩
    rw [if_pos ⟨by omega, by omega⟩]
    simp only [Int.toNat_natCast]
    have := (dig16 ha).dig (n / 16) (by omega)
    rw [this]
    exact rbit_math a n)

theorem bits_top {a k : Nat} (h1 : a < 2 ^ (k + 1)) (h2 : a / 2 ^ k % 2 = 1) : bitLen a = k + 1 := by
  have h3 : a / 2 ^ k < 2 := by rw [Nat.div_lt_iff_lt_mul (Nat.two_pow_pos k), Nat.mul_comm, ← Nat.pow_succ]; exact h1
  have h4 : a / 2 ^ k = 1 := by generalize a / 2 ^ k = x at *; omega
  rw [bitLen_shift a k (by omega), h4]; rfl
theorem bits_down {a k : Nat} (h1 : a < 2 ^ (k + 1)) (h2 : a / 2 ^ k % 2 ≠ 1) : a < 2 ^ k := by
  have h3 : a / 2 ^ k < 2 := by rw [Nat.div_lt_iff_lt_mul (Nat.two_pow_pos k), Nat.mul_comm, ← Nat.pow_succ]; exact h1
  have h4 : a / 2 ^ k < 1 := by generalize a / 2 ^ k = x at *; omega
  rw [Nat.div_lt_iff_lt_mul (Nat.two_pow_pos k), Nat.one_mul] at h4
  exact h4

theorem eRBits_ok : eRBits.OK := mk_ok Try.func41 (by kernel_rfl) (by kernel_rfl) (TOK.cons eRBit_ok .nil) (by rw [Try.ntmps41]; decide) (by
  intro a ha _
  refine ⟨[], [], _, 200, rbits_p a _ ⟨256, ⟨by decide, ?_⟩, rfl, fun i ⟨hi, he⟩ => ⟨fun h => ?_, fun h => ?_⟩⟩⟩
  · have := ltW ha
    rw [W_pow] at this
    exact this
  · have h := of_decide_eq_true h
    obtain ⟨k, rfl⟩ : ∃ k, i = k + 1 := ⟨i - 1, by omega⟩
    have e : (((k + 1 : Nat) : Int) - 1).toNat = k := by omega
    rw [e, if_pos ⟨by omega, by omega⟩]
    refine ⟨fun h1 => ⟨i64_ok (by omega) (by omega), rw_int ?_⟩, fun h1 => ⟨i64_ok (by omega) (by omega), k, ⟨by omega, bits_down he (of_decide_eq_false h1)⟩, by omega, by omega⟩⟩
    rw [bits_top he (of_decide_eq_true h1)]; omega
  · have h := of_decide_eq_false h
    obtain rfl : i = 0 := by omega
    obtain rfl : a = 0 := by rw [Nat.pow_zero] at he; omega
    exact rw_lit (by decide))
end Go.Proofs.Ytdjnhnfofajpcaa
