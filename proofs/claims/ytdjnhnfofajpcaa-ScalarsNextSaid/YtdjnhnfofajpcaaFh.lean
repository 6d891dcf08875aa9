/- Contracts of chapter 04's reference: May, Add, Sub, times, Mul, word, Exp. -/
import Derived.Test.YtdjnhnfofajpcaaKa
namespace Go.Proofs.Ytdjnhnfofajpcaa
open Go Go.Proofs Av Go.RowKit

def eMay : Entry := mk 106 [.n 4, .n 4, .n 4] fun (a b m : Nat) => (.pv (.bool (decide (may a b m))), True)
def eRMAdd : Entry := mk 66 [.n 4, .n 4, .n 4] fun (a b m : Nat) => (.tup2 (.words .u64 4 (addM a b m)) (.int .i64 (errM a b m)), True)
def eRMSub : Entry := mk 67 [.n 4, .n 4, .n 4] fun (a b m : Nat) => (.tup2 (.words .u64 4 (subM a b m)) (.int .i64 (errM a b m)), True)
def eRTimes : Entry := mk 107 [.n 4, .n 4, .n 4] fun (a b m : Nat) => (.pv (.words .u64 4 (a * b % m)), a < m ∧ b < m)
def eRMMul : Entry := mk 68 [.n 4, .n 4, .n 4] fun (a b m : Nat) => (.tup2 (.words .u64 4 (mulM a b m)) (.int .i64 (errM a b m)), True)
def eRWord : Entry := mk 108 [.u .u64, .n 4, .u .u64] fun (a n m : Nat) => (.pv (.nat .u64 (a ^ n % m)), 1 < m ∧ a < m)
def eRMExp : Entry := mk 69 [.n 4, .n 4, .n 4] fun (a n m : Nat) => (.tup2 (.words .u64 4 (expM a n m)) (.int .i64 (errM a a m)), True)

theorem may_p (a b m : Nat) (R : AV → Prop) (h : ((((decide ((0 : Int) < (if (m < (1 : Nat)) then (-1 : Int) else (if (m = (1 : Nat)) then (0 : Int) else (1 : Int))))) = Bool.true) → ((((decide ((if (a < m) then (-1 : Int) else (if (a = m) then (0 : Int) else (1 : Int))) < (0 : Int))) = Bool.true) → (R (AV.pv (PV.bool (decide ((if (b < m) then (-1 : Int) else (if (b = m) then (0 : Int) else (1 : Int))) < (0 : Int))))))) ∧ (((decide ((if (a < m) then (-1 : Int) else (if (a = m) then (0 : Int) else (1 : Int))) < (0 : Int))) = Bool.false) → (R (AV.pv (PV.blit Bool.false)))))) ∧ (((decide ((0 : Int) < (if (m < (1 : Nat)) then (-1 : Int) else (if (m = (1 : Nat)) then (0 : Int) else (1 : Int))))) = Bool.false) → (R (AV.pv (PV.blit Bool.false)))))) :
    awp [eROf, eRCmp] [] [11, 17] [] 200 (Try.f106.body.getD .skip) (fnPost Try.f106.results.toList R) (begins [.pv (.words .u64 4 a), .pv (.words .u64 4 b), .pv (.words .u64 4 m)] Try.f106.ntmps) :=
  Eq.mp (by kernel_rfl) (ai (ai tr (ai tr (ai tr (ai t2 tr)))) (ai (fun (hk1 : ((decide ((0 : Int) < (if (m < (1 : Nat)) then (-1 : Int) else (if (m = (1 : Nat)) then (0 : Int) else (1 : Int))))) = Bool.true)) => (ai (fun (hk2 : ((decide ((if (a < m) then (-1 : Int) else (if (a = m) then (0 : Int) else (1 : Int))) < (0 : Int))) = Bool.true)) => (ai (ai t2 (ai t2 (ai t2 (ai t2 (ai (ai tr hk1) (ai t2 (ai t2 (ai t2 (ai t2 (ai t2 (ai (ai tr hk2) (ai t2 (ai t2 (ai t2 (ai t2 (ai t2 (ai t2 tr))))))))))))))))) ((h.1 hk1).1 hk2))) (fun (hk3 : ((decide ((if (a < m) then (-1 : Int) else (if (a = m) then (0 : Int) else (1 : Int))) < (0 : Int))) = Bool.false)) => (ai (ai t2 (ai t2 (ai t2 (ai t2 (ai (ai tr hk1) (ai t2 (ai t2 (ai t2 (ai t2 (ai t2 (ai (ai tr hk3) (ai tr (ai tr (ai tr (ai tr (ai t2 (ai t2 tr))))))))))))))))) ((h.1 hk1).2 hk3))))) (fun (hk4 : ((decide ((0 : Int) < (if (m < (1 : Nat)) then (-1 : Int) else (if (m = (1 : Nat)) then (0 : Int) else (1 : Int))))) = Bool.false)) => (ai (ai t2 (ai t2 (ai t2 (ai t2 (ai (ai tr hk4) (ai tr (ai tr (ai tr (ai tr (ai t2 (ai t2 (ai tr (ai tr (ai tr (ai tr (ai t2 (ai t2 tr))))))))))))))))) (h.2 hk4)))))


theorem rmadd_p (a b m : Nat) (R : AV → Prop) (h : ((((Bool.not (decide (Proofs.Ytdjnhnfofajpcaa.may a b m))) = Bool.true) → (R (AV.tup2 (PV.words IntKind.u64 (4 : Nat) (0 : Nat)) (PV.lit IntKind.i64 (1 : Int))))) ∧ (((Bool.not (decide (Proofs.Ytdjnhnfofajpcaa.may a b m))) = Bool.false) → ((((decide (((a + b) / (115792089237316195423570985008687907853269984665640564039457584007913129639936 : Nat)) = (1 : Nat))) = Bool.true) → (R (AV.tup2 (PV.words IntKind.u64 (4 : Nat) ((((a + b) % (115792089237316195423570985008687907853269984665640564039457584007913129639936 : Nat)) + ((115792089237316195423570985008687907853269984665640564039457584007913129639936 : Nat) - m)) % (115792089237316195423570985008687907853269984665640564039457584007913129639936 : Nat))) (PV.lit IntKind.i64 (0 : Int))))) ∧ (((decide (((a + b) / (115792089237316195423570985008687907853269984665640564039457584007913129639936 : Nat)) = (1 : Nat))) = Bool.false) → ((((decide ((0 : Int) ≤ (if (((a + b) % (115792089237316195423570985008687907853269984665640564039457584007913129639936 : Nat)) < m) then (-1 : Int) else (if (((a + b) % (115792089237316195423570985008687907853269984665640564039457584007913129639936 : Nat)) = m) then (0 : Int) else (1 : Int))))) = Bool.true) → (R (AV.tup2 (PV.words IntKind.u64 (4 : Nat) ((((a + b) % (115792089237316195423570985008687907853269984665640564039457584007913129639936 : Nat)) + ((115792089237316195423570985008687907853269984665640564039457584007913129639936 : Nat) - m)) % (115792089237316195423570985008687907853269984665640564039457584007913129639936 : Nat))) (PV.lit IntKind.i64 (0 : Int))))) ∧ (((decide ((0 : Int) ≤ (if (((a + b) % (115792089237316195423570985008687907853269984665640564039457584007913129639936 : Nat)) < m) then (-1 : Int) else (if (((a + b) % (115792089237316195423570985008687907853269984665640564039457584007913129639936 : Nat)) = m) then (0 : Int) else (1 : Int))))) = Bool.false) → (R (AV.tup2 (PV.words IntKind.u64 (4 : Nat) ((a + b) % (115792089237316195423570985008687907853269984665640564039457584007913129639936 : Nat))) (PV.lit IntKind.i64 (0 : Int))))))))))) :
    awp [eMay, eRAdd, eRCmp, eRSub] [] [24] [] 200 (Try.f66.body.getD .skip) (fnPost Try.f66.results.toList R) (begins [.pv (.words .u64 4 a), .pv (.words .u64 4 b), .pv (.words .u64 4 m)] Try.f66.ntmps) :=
  Eq.mp (by kernel_rfl) (ai (ai tr (ai tr (ai tr (ai tr (ai t2 tr))))) (ai (ai t2 (ai t2 (ai t2 (ai t2 (ai t2 tr))))) (ai (fun (hk5 : ((Bool.not (decide (Proofs.Ytdjnhnfofajpcaa.may a b m))) = Bool.true)) => (ai (ai t2 (ai tr (ai t2 tr))) (h.1 hk5))) (fun (hk6 : ((Bool.not (decide (Proofs.Ytdjnhnfofajpcaa.may a b m))) = Bool.false)) => (ai (ai t2 (ai t2 (ai t2 (ai t2 (ai t2 (ai t2 (ai tr (ai tr (ai t2 tr))))))))) (ai (fun (hk7 : ((decide (((a + b) / (115792089237316195423570985008687907853269984665640564039457584007913129639936 : Nat)) = (1 : Nat))) = Bool.true)) => (ai (ai t2 (ai t2 (ai (ai tr hk7) (ai tr (ai tr (ai tr (ai tr (ai t2 tr)))))))) (ai (ai t2 (ai t2 (ai t2 (ai t2 (ai t2 (ai t2 t2)))))) (ai (ai t2 (ai tr (ai t2 tr))) ((h.2 hk6).1 hk7))))) (fun (hk8 : ((decide (((a + b) / (115792089237316195423570985008687907853269984665640564039457584007913129639936 : Nat)) = (1 : Nat))) = Bool.false)) => (ai (ai t2 (ai t2 (ai (ai tr hk8) (ai t2 (ai t2 (ai t2 (ai t2 (ai t2 tr)))))))) (ai (fun (hk9 : ((decide ((0 : Int) ≤ (if (((a + b) % (115792089237316195423570985008687907853269984665640564039457584007913129639936 : Nat)) < m) then (-1 : Int) else (if (((a + b) % (115792089237316195423570985008687907853269984665640564039457584007913129639936 : Nat)) = m) then (0 : Int) else (1 : Int))))) = Bool.true)) => (ai (ai t2 (ai t2 (ai t2 (ai t2 (ai t2 (ai t2 t2)))))) (ai (ai t2 (ai tr (ai t2 tr))) (((h.2 hk6).2 hk8).1 hk9)))) (fun (hk10 : ((decide ((0 : Int) ≤ (if (((a + b) % (115792089237316195423570985008687907853269984665640564039457584007913129639936 : Nat)) < m) then (-1 : Int) else (if (((a + b) % (115792089237316195423570985008687907853269984665640564039457584007913129639936 : Nat)) = m) then (0 : Int) else (1 : Int))))) = Bool.false)) => (ai (ai t2 (ai tr (ai t2 tr))) (((h.2 hk6).2 hk8).2 hk10))))))))))))


theorem rmsub_p (a b m : Nat) (R : AV → Prop) (h : ((((Bool.not (decide (Proofs.Ytdjnhnfofajpcaa.may a b m))) = Bool.true) → (R (AV.tup2 (PV.words IntKind.u64 (4 : Nat) (0 : Nat)) (PV.lit IntKind.i64 (1 : Int))))) ∧ (((Bool.not (decide (Proofs.Ytdjnhnfofajpcaa.may a b m))) = Bool.false) → ((((decide ((if (a < b) then (1 : Nat) else (0 : Nat)) = (1 : Nat))) = Bool.true) → (R (AV.tup2 (PV.words IntKind.u64 (4 : Nat) ((((a + ((115792089237316195423570985008687907853269984665640564039457584007913129639936 : Nat) - b)) % (115792089237316195423570985008687907853269984665640564039457584007913129639936 : Nat)) + m) % (115792089237316195423570985008687907853269984665640564039457584007913129639936 : Nat))) (PV.lit IntKind.i64 (0 : Int))))) ∧ (((decide ((if (a < b) then (1 : Nat) else (0 : Nat)) = (1 : Nat))) = Bool.false) → (R (AV.tup2 (PV.words IntKind.u64 (4 : Nat) ((a + ((115792089237316195423570985008687907853269984665640564039457584007913129639936 : Nat) - b)) % (115792089237316195423570985008687907853269984665640564039457584007913129639936 : Nat))) (PV.lit IntKind.i64 (0 : Int))))))))) :
    awp [eMay, eRAdd, eRCmp, eRSub] [] [] [] 200 (Try.f67.body.getD .skip) (fnPost Try.f67.results.toList R) (begins [.pv (.words .u64 4 a), .pv (.words .u64 4 b), .pv (.words .u64 4 m)] Try.f67.ntmps) :=
  Eq.mp (by kernel_rfl) (ai (ai tr (ai tr (ai tr (ai tr (ai t2 tr))))) (ai (ai t2 (ai t2 (ai t2 (ai t2 (ai t2 tr))))) (ai (fun (hk11 : ((Bool.not (decide (Proofs.Ytdjnhnfofajpcaa.may a b m))) = Bool.true)) => (ai (ai t2 (ai tr (ai t2 tr))) (h.1 hk11))) (fun (hk12 : ((Bool.not (decide (Proofs.Ytdjnhnfofajpcaa.may a b m))) = Bool.false)) => (ai (ai t2 (ai t2 (ai t2 (ai t2 (ai t2 (ai t2 (ai tr (ai tr (ai t2 tr))))))))) (ai (ai t2 (ai t2 tr)) (ai (fun (hk13 : ((decide ((if (a < b) then (1 : Nat) else (0 : Nat)) = (1 : Nat))) = Bool.true)) => (ai (ai t2 (ai t2 (ai t2 (ai t2 (ai t2 (ai t2 t2)))))) (ai (ai t2 (ai tr (ai t2 tr))) ((h.2 hk12).1 hk13)))) (fun (hk14 : ((decide ((if (a < b) then (1 : Nat) else (0 : Nat)) = (1 : Nat))) = Bool.false)) => (ai (ai t2 (ai tr (ai t2 tr))) ((h.2 hk12).2 hk14))))))))))


theorem rtimes_p (a b m : Nat) (R : AV → Prop) (h : ((((decide (m < (18446744073709551616 : Nat))) = Bool.true) → (((((((a / (1 : Nat)) % (18446744073709551616 : Nat)) * ((b / (1 : Nat)) % (18446744073709551616 : Nat))) / (18446744073709551616 : Nat)) + (1 : Nat)) ≤ ((m / (1 : Nat)) % (18446744073709551616 : Nat))) ∧ (R (AV.pv (PV.words IntKind.u64 (4 : Nat) (((((((a / (1 : Nat)) % (18446744073709551616 : Nat)) * ((b / (1 : Nat)) % (18446744073709551616 : Nat))) / (18446744073709551616 : Nat)) * (18446744073709551616 : Nat)) + ((((a / (1 : Nat)) % (18446744073709551616 : Nat)) * ((b / (1 : Nat)) % (18446744073709551616 : Nat))) % (18446744073709551616 : Nat))) % ((m / (1 : Nat)) % (18446744073709551616 : Nat)))))))) ∧ (((decide (m < (18446744073709551616 : Nat))) = Bool.false) → (R (AV.pv (PV.words IntKind.u64 (4 : Nat) (if (m = (0 : Nat)) then (0 : Nat) else (((((a * b) / (115792089237316195423570985008687907853269984665640564039457584007913129639936 : Nat)) * (115792089237316195423570985008687907853269984665640564039457584007913129639936 : Nat)) + ((a * b) % (115792089237316195423570985008687907853269984665640564039457584007913129639936 : Nat))) % m)))))))) :
    awp [eWord, eMul64, eDiv64, eROf, eRMul, eRWide] [] [] [] 200 (Try.f107.body.getD .skip) (fnPost Try.f107.results.toList R) (begins [.pv (.words .u64 4 a), .pv (.words .u64 4 b), .pv (.words .u64 4 m)] Try.f107.ntmps) :=
  Eq.mp (by kernel_rfl) (ai (ai tr (ai tr (ai tr t2))) (ai (ai t2 (ai t2 tr)) (ai (fun (hk15 : ((decide (m < (18446744073709551616 : Nat))) = Bool.true)) => (ai (ai (ai (ai (show ((0 : Int) ≤ (0 : Int)) from by decide) (show ((1 : Int) ≤ (4 : Int)) from by decide)) tr) (ai (ai (show ((1 : Nat) ≤ (4 : Nat)) from by decide) tr) (ai (ai (ai (show ((0 : Int) ≤ (0 : Int)) from by decide) (show ((1 : Int) ≤ (4 : Int)) from by decide)) tr) (ai (ai (show ((1 : Nat) ≤ (4 : Nat)) from by decide) tr) (ai t2 (ai t2 (ai t2 (ai t2 (ai t2 (ai t2 tr)))))))))) (ai (ai t2 (ai t2 (ai (ai (ai (show ((0 : Int) ≤ (0 : Int)) from by decide) (show ((1 : Int) ≤ (4 : Int)) from by decide)) tr) (ai (ai (show ((1 : Nat) ≤ (4 : Nat)) from by decide) tr) (ai (ai (h.1 hk15).1 tr) (ai t2 (ai t2 (ai t2 (ai t2 (ai t2 tr)))))))))) (ai (ai t2 (ai t2 t2)) (h.1 hk15).2)))) (fun (hk16 : ((decide (m < (18446744073709551616 : Nat))) = Bool.false)) => (ai (ai t2 (ai t2 (ai t2 (ai t2 (ai t2 (ai t2 (ai tr (ai tr (ai tr t2))))))))) (ai (ai t2 (ai t2 (ai t2 (ai t2 (ai t2 (ai t2 (ai t2 (ai tr (ai tr (ai t2 tr)))))))))) (ai (ai t2 t2) (h.2 hk16))))))))


theorem rmmul_p (a b m : Nat) (R : AV → Prop) (h : ((((Bool.not (decide (Proofs.Ytdjnhnfofajpcaa.may a b m))) = Bool.true) → (R (AV.tup2 (PV.words IntKind.u64 (4 : Nat) (0 : Nat)) (PV.lit IntKind.i64 (1 : Int))))) ∧ (((Bool.not (decide (Proofs.Ytdjnhnfofajpcaa.may a b m))) = Bool.false) → ((((a + (1 : Nat)) ≤ m) ∧ ((b + (1 : Nat)) ≤ m)) ∧ (R (AV.tup2 (PV.words IntKind.u64 (4 : Nat) ((a * b) % m)) (PV.lit IntKind.i64 (0 : Int)))))))) :
    awp [eMay, eRTimes] [] [] [] 200 (Try.f68.body.getD .skip) (fnPost Try.f68.results.toList R) (begins [.pv (.words .u64 4 a), .pv (.words .u64 4 b), .pv (.words .u64 4 m)] Try.f68.ntmps) :=
  Eq.mp (by kernel_rfl) (ai (ai tr (ai tr (ai tr (ai tr (ai t2 tr))))) (ai (ai t2 (ai t2 (ai t2 (ai t2 (ai t2 tr))))) (ai (fun (hk17 : ((Bool.not (decide (Proofs.Ytdjnhnfofajpcaa.may a b m))) = Bool.true)) => (ai (ai t2 (ai tr (ai t2 tr))) (h.1 hk17))) (fun (hk18 : ((Bool.not (decide (Proofs.Ytdjnhnfofajpcaa.may a b m))) = Bool.false)) => (ai (ai t2 (ai t2 (ai t2 (ai (ai (ai (h.2 hk18).1.1 (h.2 hk18).1.2) tr) (ai tr (ai t2 tr)))))) (h.2 hk18).2)))))


theorem rword_p (a n m : Nat) (R : AV → Prop) (h : (((m = (0 : Nat)) → False) ∧ (((IntKind.wrap IntKind.i64 ((((bitLen n) : Nat) : Int) - (1 : Int))) = ((((bitLen n) : Nat) : Int) - (1 : Int))) ∧ (∃ o20 : (Nat × Nat), (((o20.1 ≤ (bitLen n)) ∧ (Proofs.Ytdjnhnfofajpcaa.Pow a n m o20.1 o20.2)) ∧ (((((1 : Nat) % m) = o20.2) ∧ (((((bitLen n) : Nat) : Int) - (1 : Int)) = (((o20.1 : Nat) : Int) - (1 : Int)))) ∧ (∀ x21 : (Nat × Nat), (((x21.1 ≤ (bitLen n)) ∧ (Proofs.Ytdjnhnfofajpcaa.Pow a n m x21.1 x21.2)) → ((((decide ((0 : Int) ≤ (((x21.1 : Nat) : Int) - (1 : Int)))) = Bool.true) → (((((x21.2 * x21.2) / (18446744073709551616 : Nat)) + (1 : Nat)) ≤ m) ∧ ((((((64 : Int) = (0 : Int)) → False) ∧ ((IntKind.wrap IntKind.i64 (Int.tdiv (((x21.1 : Nat) : Int) - (1 : Int)) (64 : Int))) = (Int.tdiv (((x21.1 : Nat) : Int) - (1 : Int)) (64 : Int)))) ∧ ((((0 : Int) ≤ (Int.tdiv (((x21.1 : Nat) : Int) - (1 : Int)) (64 : Int))) ∧ (((Int.tdiv (((x21.1 : Nat) : Int) - (1 : Int)) (64 : Int)) + (1 : Int)) ≤ (4 : Int))) ∧ ((((Int.toNat (Int.tdiv (((x21.1 : Nat) : Int) - (1 : Int)) (64 : Int))) + (1 : Nat)) ≤ (4 : Nat)) ∧ (((((64 : Int) = (0 : Int)) → False) ∧ ((IntKind.wrap IntKind.i64 (Int.tmod (((x21.1 : Nat) : Int) - (1 : Int)) (64 : Int))) = (Int.tmod (((x21.1 : Nat) : Int) - (1 : Int)) (64 : Int)))) ∧ ((0 : Int) ≤ (Int.tmod (((x21.1 : Nat) : Int) - (1 : Int)) (64 : Int))))))) ∧ ((((decide (((((n / ((18446744073709551616 : Nat) ^ (Int.toNat (Int.tdiv (((x21.1 : Nat) : Int) - (1 : Int)) (64 : Int))))) % (18446744073709551616 : Nat)) / ((2 : Nat) ^ (Int.toNat (Int.tmod (((x21.1 : Nat) : Int) - (1 : Int)) (64 : Int))))) &&& (1 : Nat)) = (1 : Nat))) = Bool.true) → ((((((((((x21.2 * x21.2) / (18446744073709551616 : Nat)) * (18446744073709551616 : Nat)) + ((x21.2 * x21.2) % (18446744073709551616 : Nat))) % m) * a) / (18446744073709551616 : Nat)) + (1 : Nat)) ≤ m) ∧ (((IntKind.wrap IntKind.i64 ((((x21.1 : Nat) : Int) - (1 : Int)) - (1 : Int))) = ((((x21.1 : Nat) : Int) - (1 : Int)) - (1 : Int))) ∧ (∃ y27 : (Nat × Nat), (((y27.1 ≤ (bitLen n)) ∧ (Proofs.Ytdjnhnfofajpcaa.Pow a n m y27.1 y27.2)) ∧ (((y27.1 + (1 : Nat)) ≤ x21.1) ∧ ((((((((((((x21.2 * x21.2) / (18446744073709551616 : Nat)) * (18446744073709551616 : Nat)) + ((x21.2 * x21.2) % (18446744073709551616 : Nat))) % m) * a) / (18446744073709551616 : Nat)) * (18446744073709551616 : Nat)) + (((((((x21.2 * x21.2) / (18446744073709551616 : Nat)) * (18446744073709551616 : Nat)) + ((x21.2 * x21.2) % (18446744073709551616 : Nat))) % m) * a) % (18446744073709551616 : Nat))) % m) = y27.2) ∧ (((((x21.1 : Nat) : Int) - (1 : Int)) - (1 : Int)) = (((y27.1 : Nat) : Int) - (1 : Int)))))))))) ∧ (((decide (((((n / ((18446744073709551616 : Nat) ^ (Int.toNat (Int.tdiv (((x21.1 : Nat) : Int) - (1 : Int)) (64 : Int))))) % (18446744073709551616 : Nat)) / ((2 : Nat) ^ (Int.toNat (Int.tmod (((x21.1 : Nat) : Int) - (1 : Int)) (64 : Int))))) &&& (1 : Nat)) = (1 : Nat))) = Bool.false) → (((IntKind.wrap IntKind.i64 ((((x21.1 : Nat) : Int) - (1 : Int)) - (1 : Int))) = ((((x21.1 : Nat) : Int) - (1 : Int)) - (1 : Int))) ∧ (∃ y30 : (Nat × Nat), (((y30.1 ≤ (bitLen n)) ∧ (Proofs.Ytdjnhnfofajpcaa.Pow a n m y30.1 y30.2)) ∧ (((y30.1 + (1 : Nat)) ≤ x21.1) ∧ (((((((x21.2 * x21.2) / (18446744073709551616 : Nat)) * (18446744073709551616 : Nat)) + ((x21.2 * x21.2) % (18446744073709551616 : Nat))) % m) = y30.2) ∧ (((((x21.1 : Nat) : Int) - (1 : Int)) - (1 : Int)) = (((y30.1 : Nat) : Int) - (1 : Int))))))))))))) ∧ (((decide ((0 : Int) ≤ (((x21.1 : Nat) : Int) - (1 : Int)))) = Bool.false) → (R (AV.pv (PV.nat IntKind.u64 x21.2))))))))))))) :
    awp [eRBits, eMul64, eDiv64] [] [] [⟨0, Nat × Nat, fun _ x => x.1 ≤ bitLen n ∧ Pow a n m x.1 x.2, fun x => shp 56 0 [(0, .pv (.nat .u64 a)), (2, .pv (.nat .u64 m)), (4, .box .u64 4 n), (7, .pv (.nat .u64 x.2)), (8, .pv (.int .i64 ((x.1 : Int) - 1)))], fun x => x.1⟩]  400 (Try.f108.body.getD .skip) (fnPost Try.f108.results.toList R) (begins [.pv (.nat .u64 a), .pv (.words .u64 4 n), .pv (.nat .u64 m)] Try.f108.ntmps) :=
  Eq.mp (by kernel_rfl) (ai (ai tr (ai t2 tr)) (ai (ai t2 (ai (ai (fun (hk19 : (m = (0 : Nat))) => (h.1 hk19)) tr) (ai t2 tr))) (ai (ai t2 (ai t2 (ai (ai h.2.1 tr) (ai t2 tr)))) (Exists.imp (fun o20 hq33 => (ai (ai hq33.1.1 hq33.1.2) (ai (ai (Eq.refl a) (ai (Eq.refl m) (ai (Eq.refl n) (ai hq33.2.1.1 (ai hq33.2.1.2 tr))))) (fun (x21 : (Nat × Nat)) => (fun (hk22 : ((x21.1 ≤ (bitLen n)) ∧ (Proofs.Ytdjnhnfofajpcaa.Pow a n m x21.1 x21.2))) => (ai (ai t2 (ai t2 tr)) (ai (fun (hk23 : ((decide ((0 : Int) ≤ (((x21.1 : Nat) : Int) - (1 : Int)))) = Bool.true)) => (ai (ai t2 (ai t2 (ai t2 (ai t2 (ai t2 (ai t2 (ai t2 (ai t2 tr)))))))) (ai (ai t2 (ai t2 (ai t2 (ai (ai (((hq33.2.2 x21) hk22).1 hk23).1 tr) (ai t2 (ai t2 (ai t2 (ai t2 tr)))))))) (ai (ai t2 (ai (ai (ai (fun (hk24 : ((64 : Int) = (0 : Int))) => ((((hq33.2.2 x21) hk22).1 hk23).2.1.1.1 hk24)) (((hq33.2.2 x21) hk22).1 hk23).2.1.1.2) tr) (ai (ai (ai (((hq33.2.2 x21) hk22).1 hk23).2.1.2.1.1 (((hq33.2.2 x21) hk22).1 hk23).2.1.2.1.2) tr) (ai (ai (((hq33.2.2 x21) hk22).1 hk23).2.1.2.2.1 tr) (ai t2 (ai (ai (ai (fun (hk25 : ((64 : Int) = (0 : Int))) => ((((hq33.2.2 x21) hk22).1 hk23).2.1.2.2.2.1.1 hk25)) (((hq33.2.2 x21) hk22).1 hk23).2.1.2.2.2.1.2) tr) (ai (ai (((hq33.2.2 x21) hk22).1 hk23).2.1.2.2.2.2 tr) (ai t2 (ai t2 tr))))))))) (ai (fun (hk26 : ((decide (((((n / ((18446744073709551616 : Nat) ^ (Int.toNat (Int.tdiv (((x21.1 : Nat) : Int) - (1 : Int)) (64 : Int))))) % (18446744073709551616 : Nat)) / ((2 : Nat) ^ (Int.toNat (Int.tmod (((x21.1 : Nat) : Int) - (1 : Int)) (64 : Int))))) &&& (1 : Nat)) = (1 : Nat))) = Bool.true)) => (ai (ai t2 (ai t2 (ai t2 (ai t2 (ai t2 (ai t2 (ai t2 (ai t2 tr)))))))) (ai (ai t2 (ai t2 (ai t2 (ai (ai ((((hq33.2.2 x21) hk22).1 hk23).2.2.1 hk26).1 tr) (ai t2 (ai t2 (ai t2 (ai t2 tr)))))))) (ai (ai t2 (ai (ai ((((hq33.2.2 x21) hk22).1 hk23).2.2.1 hk26).2.1 tr) (ai t2 tr))) (Exists.imp (fun y27 hq28 => (ai (ai hq28.1.1 hq28.1.2) (ai hq28.2.1 (ai (Eq.refl a) (ai (Eq.refl m) (ai (Eq.refl n) (ai hq28.2.2.1 (ai hq28.2.2.2 tr)))))))) ((((hq33.2.2 x21) hk22).1 hk23).2.2.1 hk26).2.2))))) (fun (hk29 : ((decide (((((n / ((18446744073709551616 : Nat) ^ (Int.toNat (Int.tdiv (((x21.1 : Nat) : Int) - (1 : Int)) (64 : Int))))) % (18446744073709551616 : Nat)) / ((2 : Nat) ^ (Int.toNat (Int.tmod (((x21.1 : Nat) : Int) - (1 : Int)) (64 : Int))))) &&& (1 : Nat)) = (1 : Nat))) = Bool.false)) => (ai (ai t2 (ai (ai ((((hq33.2.2 x21) hk22).1 hk23).2.2.2 hk29).1 tr) (ai t2 tr))) (Exists.imp (fun y30 hq31 => (ai (ai hq31.1.1 hq31.1.2) (ai hq31.2.1 (ai (Eq.refl a) (ai (Eq.refl m) (ai (Eq.refl n) (ai hq31.2.2.1 (ai hq31.2.2.2 tr)))))))) ((((hq33.2.2 x21) hk22).1 hk23).2.2.2 hk29).2)))))))) (fun (hk32 : ((decide ((0 : Int) ≤ (((x21.1 : Nat) : Int) - (1 : Int)))) = Bool.false)) => (ai (ai t2 (ai t2 tr)) (((hq33.2.2 x21) hk22).2 hk32)))))))))) h.2.2))))


theorem rmexp_p (a n m : Nat) (R : AV → Prop) (h : ((((Bool.not (decide (Proofs.Ytdjnhnfofajpcaa.may a a m))) = Bool.true) → (R (AV.tup2 (PV.words IntKind.u64 (4 : Nat) (0 : Nat)) (PV.lit IntKind.i64 (1 : Int))))) ∧ (((Bool.not (decide (Proofs.Ytdjnhnfofajpcaa.may a a m))) = Bool.false) → ((((decide (m < (18446744073709551616 : Nat))) = Bool.true) → ((((2 : Nat) ≤ ((m / (1 : Nat)) % (18446744073709551616 : Nat))) ∧ ((((a / (1 : Nat)) % (18446744073709551616 : Nat)) + (1 : Nat)) ≤ ((m / (1 : Nat)) % (18446744073709551616 : Nat)))) ∧ (R (AV.tup2 (PV.words IntKind.u64 (4 : Nat) ((((a / (1 : Nat)) % (18446744073709551616 : Nat)) ^ n) % ((m / (1 : Nat)) % (18446744073709551616 : Nat)))) (PV.lit IntKind.i64 (0 : Int)))))) ∧ (((decide (m < (18446744073709551616 : Nat))) = Bool.false) → (((IntKind.wrap IntKind.i64 ((((bitLen n) : Nat) : Int) - (1 : Int))) = ((((bitLen n) : Nat) : Int) - (1 : Int))) ∧ (∃ o38 : (Nat × Nat), (((o38.1 ≤ (bitLen n)) ∧ (Proofs.Ytdjnhnfofajpcaa.Pow a n m o38.1 o38.2)) ∧ ((((1 : Nat) = o38.2) ∧ (((((bitLen n) : Nat) : Int) - (1 : Int)) = (((o38.1 : Nat) : Int) - (1 : Int)))) ∧ (∀ x39 : (Nat × Nat), (((x39.1 ≤ (bitLen n)) ∧ (Proofs.Ytdjnhnfofajpcaa.Pow a n m x39.1 x39.2)) → ((((decide ((0 : Int) ≤ (((x39.1 : Nat) : Int) - (1 : Int)))) = Bool.true) → ((((x39.2 + (1 : Nat)) ≤ m) ∧ ((x39.2 + (1 : Nat)) ≤ m)) ∧ ((((decide ((if (((0 : Int) ≤ (((x39.1 : Nat) : Int) - (1 : Int))) ∧ ((((x39.1 : Nat) : Int) - (1 : Int)) < (256 : Int))) then ((n / ((2 : Nat) ^ (Int.toNat (((x39.1 : Nat) : Int) - (1 : Int))))) % (2 : Nat)) else (0 : Nat)) = (1 : Nat))) = Bool.true) → ((((((x39.2 * x39.2) % m) + (1 : Nat)) ≤ m) ∧ ((a + (1 : Nat)) ≤ m)) ∧ (((IntKind.wrap IntKind.i64 ((((x39.1 : Nat) : Int) - (1 : Int)) - (1 : Int))) = ((((x39.1 : Nat) : Int) - (1 : Int)) - (1 : Int))) ∧ (∃ y43 : (Nat × Nat), (((y43.1 ≤ (bitLen n)) ∧ (Proofs.Ytdjnhnfofajpcaa.Pow a n m y43.1 y43.2)) ∧ (((y43.1 + (1 : Nat)) ≤ x39.1) ∧ ((((((x39.2 * x39.2) % m) * a) % m) = y43.2) ∧ (((((x39.1 : Nat) : Int) - (1 : Int)) - (1 : Int)) = (((y43.1 : Nat) : Int) - (1 : Int)))))))))) ∧ (((decide ((if (((0 : Int) ≤ (((x39.1 : Nat) : Int) - (1 : Int))) ∧ ((((x39.1 : Nat) : Int) - (1 : Int)) < (256 : Int))) then ((n / ((2 : Nat) ^ (Int.toNat (((x39.1 : Nat) : Int) - (1 : Int))))) % (2 : Nat)) else (0 : Nat)) = (1 : Nat))) = Bool.false) → (((IntKind.wrap IntKind.i64 ((((x39.1 : Nat) : Int) - (1 : Int)) - (1 : Int))) = ((((x39.1 : Nat) : Int) - (1 : Int)) - (1 : Int))) ∧ (∃ y46 : (Nat × Nat), (((y46.1 ≤ (bitLen n)) ∧ (Proofs.Ytdjnhnfofajpcaa.Pow a n m y46.1 y46.2)) ∧ (((y46.1 + (1 : Nat)) ≤ x39.1) ∧ ((((x39.2 * x39.2) % m) = y46.2) ∧ (((((x39.1 : Nat) : Int) - (1 : Int)) - (1 : Int)) = (((y46.1 : Nat) : Int) - (1 : Int)))))))))))) ∧ (((decide ((0 : Int) ≤ (((x39.1 : Nat) : Int) - (1 : Int)))) = Bool.false) → (R (AV.tup2 (PV.words IntKind.u64 (4 : Nat) x39.2) (PV.lit IntKind.i64 (0 : Int))))))))))))))))) :
    awp [eMay, eWord, eRWord, eROf, eRBits, eRTimes, eRBit] [] [] [⟨0, Nat × Nat, fun _ x => x.1 ≤ bitLen n ∧ Pow a n m x.1 x.2, fun x => shp 46 0 [(3, .box .u64 4 a), (4, .box .u64 4 n), (5, .box .u64 4 m), (6, .box .u64 4 0), (8, .box .u64 4 x.2), (9, .pv (.int .i64 ((x.1 : Int) - 1)))], fun x => x.1⟩]  400 (Try.f69.body.getD .skip) (fnPost Try.f69.results.toList R) (begins [.pv (.words .u64 4 a), .pv (.words .u64 4 n), .pv (.words .u64 4 m)] Try.f69.ntmps) :=
  Eq.mp (by kernel_rfl) (ai (ai tr (ai tr (ai tr (ai tr (ai t2 tr))))) (ai (ai t2 (ai t2 (ai t2 (ai t2 (ai t2 tr))))) (ai (fun (hk34 : ((Bool.not (decide (Proofs.Ytdjnhnfofajpcaa.may a a m))) = Bool.true)) => (ai (ai t2 (ai tr (ai t2 tr))) (h.1 hk34))) (fun (hk35 : ((Bool.not (decide (Proofs.Ytdjnhnfofajpcaa.may a a m))) = Bool.false)) => (ai (ai t2 (ai t2 tr)) (ai (fun (hk36 : ((decide (m < (18446744073709551616 : Nat))) = Bool.true)) => (ai (ai (ai (ai (show ((0 : Int) ≤ (0 : Int)) from by decide) (show ((1 : Int) ≤ (4 : Int)) from by decide)) tr) (ai (ai (show ((1 : Nat) ≤ (4 : Nat)) from by decide) tr) (ai t2 (ai (ai (ai (show ((0 : Int) ≤ (0 : Int)) from by decide) (show ((1 : Int) ≤ (4 : Int)) from by decide)) tr) (ai (ai (show ((1 : Nat) ≤ (4 : Nat)) from by decide) tr) (ai (ai (ai ((h.2 hk35).1 hk36).1.1 ((h.2 hk35).1 hk36).1.2) tr) (ai t2 (ai tr (ai t2 tr))))))))) ((h.2 hk35).1 hk36).2)) (fun (hk37 : ((decide (m < (18446744073709551616 : Nat))) = Bool.false)) => (ai (ai t2 (ai tr t2)) (ai (ai t2 (ai t2 (ai (ai ((h.2 hk35).2 hk37).1 tr) (ai t2 tr)))) (Exists.imp (fun o38 hq49 => (ai (ai hq49.1.1 hq49.1.2) (ai (ai (Eq.refl a) (ai (Eq.refl n) (ai (Eq.refl m) (ai (Eq.refl (0 : Nat)) (ai hq49.2.1.1 (ai hq49.2.1.2 tr)))))) (fun (x39 : (Nat × Nat)) => (fun (hk40 : ((x39.1 ≤ (bitLen n)) ∧ (Proofs.Ytdjnhnfofajpcaa.Pow a n m x39.1 x39.2))) => (ai (ai t2 (ai t2 tr)) (ai (fun (hk41 : ((decide ((0 : Int) ≤ (((x39.1 : Nat) : Int) - (1 : Int)))) = Bool.true)) => (ai (ai t2 (ai t2 (ai t2 (ai (ai (ai (((hq49.2.2 x39) hk40).1 hk41).1.1 (((hq49.2.2 x39) hk40).1 hk41).1.2) tr) t2)))) (ai (ai t2 (ai t2 (ai t2 (ai t2 tr)))) (ai (fun (hk42 : ((decide ((if (((0 : Int) ≤ (((x39.1 : Nat) : Int) - (1 : Int))) ∧ ((((x39.1 : Nat) : Int) - (1 : Int)) < (256 : Int))) then ((n / ((2 : Nat) ^ (Int.toNat (((x39.1 : Nat) : Int) - (1 : Int))))) % (2 : Nat)) else (0 : Nat)) = (1 : Nat))) = Bool.true)) => (ai (ai t2 (ai t2 (ai t2 (ai (ai (ai ((((hq49.2.2 x39) hk40).1 hk41).2.1 hk42).1.1 ((((hq49.2.2 x39) hk40).1 hk41).2.1 hk42).1.2) tr) t2)))) (ai (ai t2 (ai (ai ((((hq49.2.2 x39) hk40).1 hk41).2.1 hk42).2.1 tr) (ai t2 tr))) (Exists.imp (fun y43 hq44 => (ai (ai hq44.1.1 hq44.1.2) (ai hq44.2.1 (ai (Eq.refl a) (ai (Eq.refl n) (ai (Eq.refl m) (ai (Eq.refl (0 : Nat)) (ai hq44.2.2.1 (ai hq44.2.2.2 tr))))))))) ((((hq49.2.2 x39) hk40).1 hk41).2.1 hk42).2.2)))) (fun (hk45 : ((decide ((if (((0 : Int) ≤ (((x39.1 : Nat) : Int) - (1 : Int))) ∧ ((((x39.1 : Nat) : Int) - (1 : Int)) < (256 : Int))) then ((n / ((2 : Nat) ^ (Int.toNat (((x39.1 : Nat) : Int) - (1 : Int))))) % (2 : Nat)) else (0 : Nat)) = (1 : Nat))) = Bool.false)) => (ai (ai t2 (ai (ai ((((hq49.2.2 x39) hk40).1 hk41).2.2 hk45).1 tr) (ai t2 tr))) (Exists.imp (fun y46 hq47 => (ai (ai hq47.1.1 hq47.1.2) (ai hq47.2.1 (ai (Eq.refl a) (ai (Eq.refl n) (ai (Eq.refl m) (ai (Eq.refl (0 : Nat)) (ai hq47.2.2.1 (ai hq47.2.2.2 tr))))))))) ((((hq49.2.2 x39) hk40).1 hk41).2.2 hk45).2))))))) (fun (hk48 : ((decide ((0 : Int) ≤ (((x39.1 : Nat) : Int) - (1 : Int)))) = Bool.false)) => (ai (ai t2 (ai tr (ai t2 tr))) (((hq49.2.2 x39) hk40).2 hk48)))))))))) ((h.2 hk35).2 hk37).2))))))))))


theorem not_may {p : Prop} [Decidable p] (h : (!(decide p)) = true) : ¬ p := fun hp => by rw [decide_eq_true hp] at h; cases h
theorem yes_may {p : Prop} [Decidable p] (h : (!(decide p)) = false) : p := Decidable.byContradiction fun hp => by rw [decide_eq_false hp] at h; cases h
theorem cmp_below {x m : Nat} : decide ((if x < m then (-1 : Int) else if x = m then 0 else 1) < 0) = decide (x < m) := by
  split
  · rename_i h; rw [decide_eq_true h]; rfl
  · rename_i h; rw [decide_eq_false h]; split <;> rfl
theorem cmp_above {m : Nat} : decide ((0 : Int) < (if m < 1 then (-1 : Int) else if m = 1 then 0 else 1)) = decide (1 < m) := decide_eq_decide.2 (by
  by_cases h : m < 1
  · rw [if_pos h]; omega
  · rw [if_neg h]
    by_cases h : m = 1
    · rw [if_pos h]; omega
    · rw [if_neg h]; omega)
theorem eMay_ok : eMay.OK := mk_ok Try.func106 (by kernel_rfl) (by kernel_rfl) (TOK.cons eROf_ok (.cons eRCmp_ok .nil)) (by rw [Try.ntmps106]; decide) (by
  intro a _ b _ m _ _
  refine ⟨[], [11, 17], [], 200, may_p a b m _ ?_⟩
  rw [cmp_above, cmp_below, cmp_below]
  refine ⟨fun h1 => ⟨fun h2 => rw_bool (decide_eq_decide.2 ?_), fun h2 => rw_blit (decide_eq_false ?_).symm⟩, fun h1 => rw_blit (decide_eq_false ?_).symm⟩
  · have h1 := of_decide_eq_true h1
    have h2 := of_decide_eq_true h2
    exact ⟨fun h => ⟨h1, h2, h⟩, fun h => h.2.2⟩
  · exact fun h => of_decide_eq_false h2 h.2.1
  · exact fun h => of_decide_eq_false h1 h.1)

theorem add_over {a b m : Nat} (h : may a b m) (hm : m < W) (h1 : (a + b) / W = 1 ∨ ¬ (a + b) % W < m) : ((a + b) % W + (W - m)) % W = (a + b) % m := by
  obtain ⟨_, ha, hb⟩ := h
  rw [once_over (x := a + b) (m := m) (by simp only [W] at *; omega) (by omega)]
  simp only [W] at *; omega
theorem add_under {a b m : Nat} (h : may a b m) (hm : m < W) (h1 : ¬ (a + b) / W = 1) (h2 : (a + b) % W < m) : (a + b) % W = (a + b) % m := by
  obtain ⟨_, ha, hb⟩ := h
  rw [Nat.mod_eq_of_lt (a := a + b) (b := m) (by simp only [W] at *; omega)]
  simp only [W] at *; omega
theorem eRMAdd_ok : eRMAdd.OK := mk_ok Try.func66 (by kernel_rfl) (by kernel_rfl) (TOK.cons eMay_ok (.cons eRAdd_ok (.cons eRCmp_ok (.cons eRSub_ok .nil)))) (by rw [Try.ntmps66]; decide) (by
  intro a _ b _ m hm _
  have hm := ltW hm
  refine ⟨[], [24], [], 200, rmadd_p a b m _ ⟨fun h => ?_, fun h => ⟨fun h1 => ?_, fun h1 => ⟨fun h2 => ?_, fun h2 => ?_⟩⟩⟩⟩
  · have h := not_may h
    exact rw_2 (rw_words (if_neg h).symm) (rw_lit (if_neg h).symm)
  · have h := yes_may h
    exact rw_2 (rw_words ((add_over h hm (.inl (of_decide_eq_true h1))).trans (if_pos h).symm)) (rw_lit (if_pos h).symm)
  · have h := yes_may h
    exact rw_2 (rw_words ((add_over h hm (.inr (lt_cmp h2))).trans (if_pos h).symm)) (rw_lit (if_pos h).symm)
  · have h := yes_may h
    exact rw_2 (rw_words ((add_under h hm (of_decide_eq_false h1) (lt_cmp' h2)).trans (if_pos h).symm)) (rw_lit (if_pos h).symm))
theorem eRMSub_ok : eRMSub.OK := mk_ok Try.func67 (by kernel_rfl) (by kernel_rfl) (TOK.cons eMay_ok (.cons eRAdd_ok (.cons eRCmp_ok (.cons eRSub_ok .nil)))) (by rw [Try.ntmps67]; decide) (by
  intro a _ b _ m hm _
  have hm := ltW hm
  refine ⟨[], [], [], 200, rmsub_p a b m _ ⟨fun h => ?_, fun h => ⟨fun h1 => ?_, fun h1 => ?_⟩⟩⟩
  · have h := not_may h
    exact rw_2 (rw_words (if_neg h).symm) (rw_lit (if_neg h).symm)
  · have h := yes_may h
    refine rw_2 (rw_words (Eq.trans ?_ (if_pos h).symm)) (rw_lit (if_pos h).symm)
    obtain ⟨_, ha, hb⟩ := h
    have h1 : a < b := by
      refine Decidable.byContradiction fun h => ?_
      rw [if_neg h] at h1
      simp at h1
    rw [Nat.mod_eq_of_lt (a := a + (m - b)) (b := m) (by omega)]
    simp only [W] at *; omega
  · have h := yes_may h
    refine rw_2 (rw_words (Eq.trans ?_ (if_pos h).symm)) (rw_lit (if_pos h).symm)
    obtain ⟨_, ha, hb⟩ := h
    have h1 : ¬ a < b := by
      intro h
      rw [if_pos h] at h1
      simp at h1
    rw [once_over (x := a + (m - b)) (m := m) (by omega) (by omega)]
    simp only [W] at *; omega)
theorem eRTimes_ok : eRTimes.OK := mk_ok Try.func107 (by kernel_rfl) (by kernel_rfl) (TOK.cons eWord_ok (.cons eMul64_ok (.cons eDiv64_ok (.cons eROf_ok (.cons eRMul_ok (.cons eRWide_ok .nil)))))) (by rw [Try.ntmps107]; decide) (by
  intro a _ b _ m hm hp
  obtain ⟨ha, hb⟩ : a < m ∧ b < m := hp
  refine ⟨[], [], [], 200, rtimes_p a b m _ ⟨fun h => ?_, fun h => rw_words ?_⟩⟩
  · have h : m < 18446744073709551616 := of_decide_eq_true h
    rw [Nat.div_one, Nat.div_one, Nat.div_one, Nat.mod_eq_of_lt h, Nat.mod_eq_of_lt (a := a) (by omega), Nat.mod_eq_of_lt (a := b) (by omega)]
    exact ⟨high_lt (Nat.le_of_lt ha) hb h, rw_words (by rw [Nat.div_add_mod'])⟩
  · rw [if_neg (by omega), Nat.div_add_mod'])
theorem eRMMul_ok : eRMMul.OK := mk_ok Try.func68 (by kernel_rfl) (by kernel_rfl) (TOK.cons eMay_ok (.cons eRTimes_ok .nil)) (by rw [Try.ntmps68]; decide) (by
  intro a _ b _ m _ _
  refine ⟨[], [], [], 200, rmmul_p a b m _ ⟨fun h => ?_, fun h => ?_⟩⟩
  · have h := not_may h
    exact rw_2 (rw_words (if_neg h).symm) (rw_lit (if_neg h).symm)
  · have h := yes_may h
    exact ⟨h.2, rw_2 (rw_words (if_pos h).symm) (rw_lit (if_pos h).symm)⟩)

theorem eRWord_ok : eRWord.OK := mk_ok Try.func108 (by kernel_rfl) (by kernel_rfl) (TOK.cons eRBits_ok (.cons eMul64_ok (.cons eDiv64_ok .nil))) (by rw [Try.ntmps108]; decide) (by
  intro a _ n hn m hm hp
  obtain ⟨h1, ha⟩ : 1 < m ∧ a < m := hp
  have hm := ltB hm
  have hb := bitLen_le 256 n (by rw [← W_pow]; exact ltW hn)
  refine ⟨[], [], _, 400, rword_p a n m _ ⟨by omega, i64_ok (by omega) (by omega), ⟨bitLen n, 1⟩, ⟨Nat.le_refl _, .start h1 (bitLen_spec n).1⟩, ⟨Nat.mod_eq_of_lt h1, rfl⟩, ?_⟩⟩
  rintro ⟨j, r⟩ ⟨hj, hP⟩
  dsimp only at *
  have hr := hP.lt (by omega)
  refine ⟨fun h => ?_, fun h => ?_⟩
  · have h := of_decide_eq_true h
    obtain ⟨i, rfl⟩ : ∃ i, j = i + 1 := ⟨j - 1, by omega⟩
    have e1 : (((i + 1 : Nat) : Int) - 1) = (i : Int) := by omega
    rw [e1, tdiv64, tmod64, Int.toNat_natCast, Int.toNat_natCast, bit_math, Nat.div_add_mod', Nat.div_add_mod']
    refine ⟨high_lt (Nat.le_of_lt hr) hr hm, by ((repeat' apply And.intro) <;> first | omega | (apply i64_ok <;> omega) | (intro; omega) | decide), fun hb => ?_, fun hb => ?_⟩
    · exact ⟨high_lt (Nat.le_of_lt (Nat.mod_lt _ (by omega))) ha hm, i64_ok (by omega) (by omega), ⟨i, _⟩, ⟨by dsimp only; omega, hP.odd (of_decide_eq_true hb)⟩, Nat.le_refl _, rfl, rfl⟩
    · have hb := of_decide_eq_false hb
      exact ⟨i64_ok (by omega) (by omega), ⟨i, _⟩, ⟨by dsimp only; omega, hP.even (by omega)⟩, Nat.le_refl _, rfl, rfl⟩
  · have h := of_decide_eq_false h
    obtain rfl : j = 0 := by omega
    exact rw_nat hP.done)
theorem eRMExp_ok : eRMExp.OK := mk_ok Try.func69 (by kernel_rfl) (by kernel_rfl) (TOK.cons eMay_ok (.cons eWord_ok (.cons eRWord_ok (.cons eROf_ok (.cons eRBits_ok (.cons eRTimes_ok (.cons eRBit_ok .nil))))))) (by rw [Try.ntmps69]; decide) (by
  intro a _ n hn m _ _
  have hb := bitLen_le 256 n (by rw [← W_pow]; exact ltW hn)
  refine ⟨[], [], _, 400, rmexp_p a n m _ ⟨fun h => ?_, fun h => ⟨fun h1 => ?_, fun h1 => ?_⟩⟩⟩
  · have h := not_may h
    exact rw_2 (rw_words (if_neg h).symm) (rw_lit (if_neg h).symm)
  · have h := yes_may h
    have h1 : m < 18446744073709551616 := of_decide_eq_true h1
    rw [Nat.div_one, Nat.div_one, Nat.mod_eq_of_lt h1, Nat.mod_eq_of_lt (Nat.lt_trans h.2.1 h1)]
    exact ⟨⟨h.1, h.2.1⟩, rw_2 (rw_words (if_pos h).symm) (rw_lit (if_pos h).symm)⟩
  · have h := yes_may h
    obtain ⟨hm, ha, _⟩ := id h
    refine ⟨i64_ok (by omega) (by omega), ⟨bitLen n, 1⟩, ⟨Nat.le_refl _, .start hm (bitLen_spec n).1⟩, ⟨rfl, rfl⟩, ?_⟩
    rintro ⟨j, r⟩ ⟨hj, hP⟩
    dsimp only at *
    have hr := hP.lt (by omega)
    refine ⟨fun h => ?_, fun h2 => ?_⟩
    · have h := of_decide_eq_true h
      obtain ⟨i, rfl⟩ : ∃ i, j = i + 1 := ⟨j - 1, by omega⟩
      have e1 : (((i + 1 : Nat) : Int) - 1) = (i : Int) := by omega
      rw [e1, bitN n i (by omega)]
      refine ⟨⟨hr, hr⟩, fun hb => ?_, fun hb => ?_⟩
      · exact ⟨⟨Nat.mod_lt _ (by omega), ha⟩, i64_ok (by omega) (by omega), ⟨i, _⟩, ⟨by dsimp only; omega, hP.odd (of_decide_eq_true hb)⟩, Nat.le_refl _, rfl, rfl⟩
      · have hb := of_decide_eq_false hb
        exact ⟨i64_ok (by omega) (by omega), ⟨i, _⟩, ⟨by dsimp only; omega, hP.even (by omega)⟩, Nat.le_refl _, rfl, rfl⟩
    · have h2 := of_decide_eq_false h2
      obtain rfl : j = 0 := by omega
      exact rw_2 (rw_words (hP.done.trans (if_pos h).symm)) (rw_lit (if_pos h).symm))
end Go.Proofs.Ytdjnhnfofajpcaa
