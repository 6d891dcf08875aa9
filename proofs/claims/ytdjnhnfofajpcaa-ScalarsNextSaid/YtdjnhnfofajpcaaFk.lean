/- Contracts of chapter 09: scalars, its reference, and the laws' own small functions. -/
import Derived.Test.YtdjnhnfofajpcaaNa
import Derived.Test.YtdjnhnfofajpcaaK5
import Derived.Test.YtdjnhnfofajpcaaR1
namespace Go.Proofs.Ytdjnhnfofajpcaa
open Go Go.Proofs Go.ChangeShapes Go.WideShapes Go.ChangeAt Go.RowKit Av

def qN (N : Nat) : Nat := N / 115792089237316195423570985008687907853269984665640564039457584007913129639936 % 115792089237316195423570985008687907853269984665640564039457584007913129639936
def ofZ (q : Nat) (n : Int) : Nat := if q < 2 then 0 else if n < 0 then (q - n.natAbs % q) % q else n.natAbs % q
def eSAdd : Entry := mk 49 [.n 16, .n 4, .n 4] fun (N a b : Nat) => (.tup2 (.words .u64 4 (addM a b (qN N))) (.int .i64 (errM a b (qN N))), True)
def eSSub : Entry := mk 50 [.n 16, .n 4, .n 4] fun (N a b : Nat) => (.tup2 (.words .u64 4 (subM a b (qN N))) (.int .i64 (errM a b (qN N))), True)
noncomputable def eSInv : Entry := mk 51 [.n 16, .n 4] fun (N a : Nat) => (.tup2 (.words .u64 4 (invM a (qN N))) (.int .i64 (errI a (qN N))), True)
def eSMul : Entry := mk 52 [.n 16, .n 4, .n 4] fun (N a b : Nat) => (.tup2 (.words .u64 4 (mulM a b (qN N))) (.int .i64 (errM a b (qN N))), True)
def eRSAdd : Entry := mk 74 [.n 16, .n 4, .n 4] fun (N a b : Nat) => (.tup2 (.words .u64 4 (addM a b (qN N))) (.int .i64 (errM a b (qN N))), True)
def eRSSub : Entry := mk 75 [.n 16, .n 4, .n 4] fun (N a b : Nat) => (.tup2 (.words .u64 4 (subM a b (qN N))) (.int .i64 (errM a b (qN N))), True)
def eRSMul : Entry := mk 76 [.n 16, .n 4, .n 4] fun (N a b : Nat) => (.tup2 (.words .u64 4 (mulM a b (qN N))) (.int .i64 (errM a b (qN N))), True)
noncomputable def eRSInv : Entry := mk 77 [.n 16, .n 4] fun (N a : Nat) => (.tup2 (.words .u64 4 (invM a (qN N))) (.int .i64 (errI a (qN N))), True)
def eSOf : Entry := mk 78 [.n 16, .z .i64] fun (N : Nat) (n : Int) => (.pv (.words .u64 4 (ofZ (qN N) n)), True)
def eRSOf : Entry := mk 79 [.n 16, .z .i64] fun (N : Nat) (n : Int) => (.pv (.words .u64 4 (ofZ (qN N) n)), True)
def eOf9 : Entry := mk 47 [.u .u64] fun (n : Nat) => (.pv (.words .u64 4 n), True)
def eIs9 : Entry := mk 87 [.n 4, .z .i64, .u .u64] fun (a : Nat) (e : Int) (n : Nat) => (.pv (.bool (decide (e = 0 ∧ a = n))), True)
def eAlive9 : Entry := mk 48 [] (.pv (.blit true), True)
theorem sadd_p (N a b : Nat) (R : AV → Prop) (h : (R (AV.tup2 (PV.words IntKind.u64 (4 : Nat) (Proofs.Ytdjnhnfofajpcaa.addM a b ((N / (115792089237316195423570985008687907853269984665640564039457584007913129639936 : Nat)) % (115792089237316195423570985008687907853269984665640564039457584007913129639936 : Nat)))) (PV.int IntKind.i64 (Proofs.Ytdjnhnfofajpcaa.errM a b ((N / (115792089237316195423570985008687907853269984665640564039457584007913129639936 : Nat)) % (115792089237316195423570985008687907853269984665640564039457584007913129639936 : Nat))))))) :
    awp [eMAdd] [] [] [] 200 (Try.f49.body.getD .skip) (fnPost Try.f49.results.toList R) (begins [.pv (.words .u64 16 N), .pv (.words .u64 4 a), .pv (.words .u64 4 b)] Try.f49.ntmps) :=
  Eq.mp (by kernel_rfl) (ai (ai tr (ai tr (ai tr (ai tr (ai t2 tr))))) (ai (ai t2 (ai t2 (ai t2 (ai (ai (show ((8 : Nat) ≤ (16 : Nat)) from by decide) tr) (ai t2 (ai t2 (ai t2 (ai tr (ai t2 tr))))))))) h))


theorem ssub_p (N a b : Nat) (R : AV → Prop) (h : (R (AV.tup2 (PV.words IntKind.u64 (4 : Nat) (Proofs.Ytdjnhnfofajpcaa.subM a b ((N / (115792089237316195423570985008687907853269984665640564039457584007913129639936 : Nat)) % (115792089237316195423570985008687907853269984665640564039457584007913129639936 : Nat)))) (PV.int IntKind.i64 (Proofs.Ytdjnhnfofajpcaa.errM a b ((N / (115792089237316195423570985008687907853269984665640564039457584007913129639936 : Nat)) % (115792089237316195423570985008687907853269984665640564039457584007913129639936 : Nat))))))) :
    awp [eMSub] [] [] [] 200 (Try.f50.body.getD .skip) (fnPost Try.f50.results.toList R) (begins [.pv (.words .u64 16 N), .pv (.words .u64 4 a), .pv (.words .u64 4 b)] Try.f50.ntmps) :=
  Eq.mp (by kernel_rfl) (ai (ai tr (ai tr (ai tr (ai tr (ai t2 tr))))) (ai (ai t2 (ai t2 (ai t2 (ai (ai (show ((8 : Nat) ≤ (16 : Nat)) from by decide) tr) (ai t2 (ai t2 (ai t2 (ai tr (ai t2 tr))))))))) h))


theorem sinv_p (N a : Nat) (R : AV → Prop) (h : (R (AV.tup2 (PV.words IntKind.u64 (4 : Nat) (Proofs.Ytdjnhnfofajpcaa.invM a ((N / (115792089237316195423570985008687907853269984665640564039457584007913129639936 : Nat)) % (115792089237316195423570985008687907853269984665640564039457584007913129639936 : Nat)))) (PV.int IntKind.i64 (Proofs.Ytdjnhnfofajpcaa.errI a ((N / (115792089237316195423570985008687907853269984665640564039457584007913129639936 : Nat)) % (115792089237316195423570985008687907853269984665640564039457584007913129639936 : Nat))))))) :
    awp [eMInv] [] [] [] 200 (Try.f51.body.getD .skip) (fnPost Try.f51.results.toList R) (begins [.pv (.words .u64 16 N), .pv (.words .u64 4 a)] Try.f51.ntmps) :=
  Eq.mp (by kernel_rfl) (ai (ai tr (ai tr (ai tr (ai t2 tr)))) (ai (ai t2 (ai t2 (ai (ai (show ((8 : Nat) ≤ (16 : Nat)) from by decide) tr) (ai t2 (ai t2 (ai t2 (ai tr (ai t2 tr)))))))) h))


theorem smul_p (N a b : Nat) (R : AV → Prop) (h : (R (AV.tup2 (PV.words IntKind.u64 (4 : Nat) (Proofs.Ytdjnhnfofajpcaa.mulM a b ((N / (115792089237316195423570985008687907853269984665640564039457584007913129639936 : Nat)) % (115792089237316195423570985008687907853269984665640564039457584007913129639936 : Nat)))) (PV.int IntKind.i64 (Proofs.Ytdjnhnfofajpcaa.errM a b ((N / (115792089237316195423570985008687907853269984665640564039457584007913129639936 : Nat)) % (115792089237316195423570985008687907853269984665640564039457584007913129639936 : Nat))))))) :
    awp [eMMul] [] [] [] 200 (Try.f52.body.getD .skip) (fnPost Try.f52.results.toList R) (begins [.pv (.words .u64 16 N), .pv (.words .u64 4 a), .pv (.words .u64 4 b)] Try.f52.ntmps) :=
  Eq.mp (by kernel_rfl) (ai (ai tr (ai tr (ai tr (ai tr (ai t2 tr))))) (ai (ai t2 (ai t2 (ai t2 (ai (ai (show ((8 : Nat) ≤ (16 : Nat)) from by decide) tr) (ai t2 (ai t2 (ai t2 (ai tr (ai t2 tr))))))))) h))


theorem rsadd_p (N a b : Nat) (R : AV → Prop) (h : (R (AV.tup2 (PV.words IntKind.u64 (4 : Nat) (Proofs.Ytdjnhnfofajpcaa.addM a b ((N / (115792089237316195423570985008687907853269984665640564039457584007913129639936 : Nat)) % (115792089237316195423570985008687907853269984665640564039457584007913129639936 : Nat)))) (PV.int IntKind.i64 (Proofs.Ytdjnhnfofajpcaa.errM a b ((N / (115792089237316195423570985008687907853269984665640564039457584007913129639936 : Nat)) % (115792089237316195423570985008687907853269984665640564039457584007913129639936 : Nat))))))) :
    awp [eRMAdd] [] [] [] 200 (Try.f74.body.getD .skip) (fnPost Try.f74.results.toList R) (begins [.pv (.words .u64 16 N), .pv (.words .u64 4 a), .pv (.words .u64 4 b)] Try.f74.ntmps) :=
  Eq.mp (by kernel_rfl) (ai (ai tr (ai tr (ai tr (ai tr (ai t2 tr))))) (ai (ai t2 (ai t2 (ai t2 (ai (ai (show ((8 : Nat) ≤ (16 : Nat)) from by decide) tr) (ai t2 (ai t2 (ai t2 (ai tr (ai t2 tr))))))))) h))


theorem rssub_p (N a b : Nat) (R : AV → Prop) (h : (R (AV.tup2 (PV.words IntKind.u64 (4 : Nat) (Proofs.Ytdjnhnfofajpcaa.subM a b ((N / (115792089237316195423570985008687907853269984665640564039457584007913129639936 : Nat)) % (115792089237316195423570985008687907853269984665640564039457584007913129639936 : Nat)))) (PV.int IntKind.i64 (Proofs.Ytdjnhnfofajpcaa.errM a b ((N / (115792089237316195423570985008687907853269984665640564039457584007913129639936 : Nat)) % (115792089237316195423570985008687907853269984665640564039457584007913129639936 : Nat))))))) :
    awp [eRMSub] [] [] [] 200 (Try.f75.body.getD .skip) (fnPost Try.f75.results.toList R) (begins [.pv (.words .u64 16 N), .pv (.words .u64 4 a), .pv (.words .u64 4 b)] Try.f75.ntmps) :=
  Eq.mp (by kernel_rfl) (ai (ai tr (ai tr (ai tr (ai tr (ai t2 tr))))) (ai (ai t2 (ai t2 (ai t2 (ai (ai (show ((8 : Nat) ≤ (16 : Nat)) from by decide) tr) (ai t2 (ai t2 (ai t2 (ai tr (ai t2 tr))))))))) h))


theorem rsmul_p (N a b : Nat) (R : AV → Prop) (h : (R (AV.tup2 (PV.words IntKind.u64 (4 : Nat) (Proofs.Ytdjnhnfofajpcaa.mulM a b ((N / (115792089237316195423570985008687907853269984665640564039457584007913129639936 : Nat)) % (115792089237316195423570985008687907853269984665640564039457584007913129639936 : Nat)))) (PV.int IntKind.i64 (Proofs.Ytdjnhnfofajpcaa.errM a b ((N / (115792089237316195423570985008687907853269984665640564039457584007913129639936 : Nat)) % (115792089237316195423570985008687907853269984665640564039457584007913129639936 : Nat))))))) :
    awp [eRMMul] [] [] [] 200 (Try.f76.body.getD .skip) (fnPost Try.f76.results.toList R) (begins [.pv (.words .u64 16 N), .pv (.words .u64 4 a), .pv (.words .u64 4 b)] Try.f76.ntmps) :=
  Eq.mp (by kernel_rfl) (ai (ai tr (ai tr (ai tr (ai tr (ai t2 tr))))) (ai (ai t2 (ai t2 (ai t2 (ai (ai (show ((8 : Nat) ≤ (16 : Nat)) from by decide) tr) (ai t2 (ai t2 (ai t2 (ai tr (ai t2 tr))))))))) h))


theorem rsinv_p (N a : Nat) (R : AV → Prop) (h : (R (AV.tup2 (PV.words IntKind.u64 (4 : Nat) (Proofs.Ytdjnhnfofajpcaa.invM a ((N / (115792089237316195423570985008687907853269984665640564039457584007913129639936 : Nat)) % (115792089237316195423570985008687907853269984665640564039457584007913129639936 : Nat)))) (PV.int IntKind.i64 (Proofs.Ytdjnhnfofajpcaa.errI a ((N / (115792089237316195423570985008687907853269984665640564039457584007913129639936 : Nat)) % (115792089237316195423570985008687907853269984665640564039457584007913129639936 : Nat))))))) :
    awp [eRMInv] [] [] [] 200 (Try.f77.body.getD .skip) (fnPost Try.f77.results.toList R) (begins [.pv (.words .u64 16 N), .pv (.words .u64 4 a)] Try.f77.ntmps) :=
  Eq.mp (by kernel_rfl) (ai (ai tr (ai tr (ai tr (ai t2 tr)))) (ai (ai t2 (ai t2 (ai (ai (show ((8 : Nat) ≤ (16 : Nat)) from by decide) tr) (ai t2 (ai t2 (ai t2 (ai tr (ai t2 tr)))))))) h))


theorem rsof_p (N : Nat) (n : Int) (R : AV → Prop) (h : ((((decide (((N / (115792089237316195423570985008687907853269984665640564039457584007913129639936 : Nat)) % (115792089237316195423570985008687907853269984665640564039457584007913129639936 : Nat)) = (0 : Nat))) = Bool.true) → (R (AV.pv (PV.words IntKind.u64 (4 : Nat) (0 : Nat))))) ∧ (((decide (((N / (115792089237316195423570985008687907853269984665640564039457584007913129639936 : Nat)) % (115792089237316195423570985008687907853269984665640564039457584007913129639936 : Nat)) = (0 : Nat))) = Bool.false) → ((((decide ((0 : Int) ≤ n)) = Bool.true) → (R (AV.pv (PV.words IntKind.u64 (4 : Nat) (if (((N / (115792089237316195423570985008687907853269984665640564039457584007913129639936 : Nat)) % (115792089237316195423570985008687907853269984665640564039457584007913129639936 : Nat)) = (0 : Nat)) then (0 : Nat) else ((Int.toNat (n % (18446744073709551616 : Int))) % ((N / (115792089237316195423570985008687907853269984665640564039457584007913129639936 : Nat)) % (115792089237316195423570985008687907853269984665640564039457584007913129639936 : Nat)))))))) ∧ (((decide ((0 : Int) ≤ n)) = Bool.false) → ((((decide ((if (((N / (115792089237316195423570985008687907853269984665640564039457584007913129639936 : Nat)) % (115792089237316195423570985008687907853269984665640564039457584007913129639936 : Nat)) = (0 : Nat)) then (0 : Nat) else ((((18446744073709551616 : Nat) - (Int.toNat (n % (18446744073709551616 : Int)))) % (18446744073709551616 : Nat)) % ((N / (115792089237316195423570985008687907853269984665640564039457584007913129639936 : Nat)) % (115792089237316195423570985008687907853269984665640564039457584007913129639936 : Nat)))) = (0 : Nat))) = Bool.true) → (R (AV.pv (PV.words IntKind.u64 (4 : Nat) (if (((N / (115792089237316195423570985008687907853269984665640564039457584007913129639936 : Nat)) % (115792089237316195423570985008687907853269984665640564039457584007913129639936 : Nat)) = (0 : Nat)) then (0 : Nat) else ((((18446744073709551616 : Nat) - (Int.toNat (n % (18446744073709551616 : Int)))) % (18446744073709551616 : Nat)) % ((N / (115792089237316195423570985008687907853269984665640564039457584007913129639936 : Nat)) % (115792089237316195423570985008687907853269984665640564039457584007913129639936 : Nat)))))))) ∧ (((decide ((if (((N / (115792089237316195423570985008687907853269984665640564039457584007913129639936 : Nat)) % (115792089237316195423570985008687907853269984665640564039457584007913129639936 : Nat)) = (0 : Nat)) then (0 : Nat) else ((((18446744073709551616 : Nat) - (Int.toNat (n % (18446744073709551616 : Int)))) % (18446744073709551616 : Nat)) % ((N / (115792089237316195423570985008687907853269984665640564039457584007913129639936 : Nat)) % (115792089237316195423570985008687907853269984665640564039457584007913129639936 : Nat)))) = (0 : Nat))) = Bool.false) → (R (AV.pv (PV.words IntKind.u64 (4 : Nat) ((((N / (115792089237316195423570985008687907853269984665640564039457584007913129639936 : Nat)) % (115792089237316195423570985008687907853269984665640564039457584007913129639936 : Nat)) + ((115792089237316195423570985008687907853269984665640564039457584007913129639936 : Nat) - (if (((N / (115792089237316195423570985008687907853269984665640564039457584007913129639936 : Nat)) % (115792089237316195423570985008687907853269984665640564039457584007913129639936 : Nat)) = (0 : Nat)) then (0 : Nat) else ((((18446744073709551616 : Nat) - (Int.toNat (n % (18446744073709551616 : Int)))) % (18446744073709551616 : Nat)) % ((N / (115792089237316195423570985008687907853269984665640564039457584007913129639936 : Nat)) % (115792089237316195423570985008687907853269984665640564039457584007913129639936 : Nat)))))) % (115792089237316195423570985008687907853269984665640564039457584007913129639936 : Nat)))))))))))) :
    awp [eROf, eRDiv, eRSub] [] [] [] 200 (Try.f79.body.getD .skip) (fnPost Try.f79.results.toList R) (begins [.pv (.words .u64 16 N), .pv (.int .i64 n)] Try.f79.ntmps) :=
  Eq.mp (by kernel_rfl) (ai (ai tr t2) (ai (ai t2 (ai (ai (show ((8 : Nat) ≤ (16 : Nat)) from by decide) tr) (ai t2 (ai t2 tr)))) (ai (fun (hk1 : ((decide (((N / (115792089237316195423570985008687907853269984665640564039457584007913129639936 : Nat)) % (115792089237316195423570985008687907853269984665640564039457584007913129639936 : Nat)) = (0 : Nat))) = Bool.true)) => (ai (ai t2 t2) (h.1 hk1))) (fun (hk2 : ((decide (((N / (115792089237316195423570985008687907853269984665640564039457584007913129639936 : Nat)) % (115792089237316195423570985008687907853269984665640564039457584007913129639936 : Nat)) = (0 : Nat))) = Bool.false)) => (ai (ai t2 (ai t2 tr)) (ai (fun (hk3 : ((decide ((0 : Int) ≤ n)) = Bool.true)) => (ai (ai t2 (ai t2 (ai t2 (ai t2 (ai (ai (show ((8 : Nat) ≤ (16 : Nat)) from by decide) tr) (ai t2 (ai t2 (ai t2 (ai t2 (ai t2 (ai tr (ai tr (ai tr (ai tr (ai t2 tr))))))))))))))) (ai (ai t2 t2) ((h.2 hk2).1 hk3)))) (fun (hk4 : ((decide ((0 : Int) ≤ n)) = Bool.false)) => (ai (ai t2 (ai t2 (ai t2 (ai t2 (ai t2 (ai (ai (show ((8 : Nat) ≤ (16 : Nat)) from by decide) tr) (ai t2 (ai t2 (ai t2 (ai t2 (ai t2 (ai tr (ai tr (ai tr (ai tr (ai t2 tr)))))))))))))))) (ai (ai t2 (ai t2 (ai t2 tr))) (ai (fun (hk5 : ((decide ((if (((N / (115792089237316195423570985008687907853269984665640564039457584007913129639936 : Nat)) % (115792089237316195423570985008687907853269984665640564039457584007913129639936 : Nat)) = (0 : Nat)) then (0 : Nat) else ((((18446744073709551616 : Nat) - (Int.toNat (n % (18446744073709551616 : Int)))) % (18446744073709551616 : Nat)) % ((N / (115792089237316195423570985008687907853269984665640564039457584007913129639936 : Nat)) % (115792089237316195423570985008687907853269984665640564039457584007913129639936 : Nat)))) = (0 : Nat))) = Bool.true)) => (ai (ai t2 t2) (((h.2 hk2).2 hk4).1 hk5))) (fun (hk6 : ((decide ((if (((N / (115792089237316195423570985008687907853269984665640564039457584007913129639936 : Nat)) % (115792089237316195423570985008687907853269984665640564039457584007913129639936 : Nat)) = (0 : Nat)) then (0 : Nat) else ((((18446744073709551616 : Nat) - (Int.toNat (n % (18446744073709551616 : Int)))) % (18446744073709551616 : Nat)) % ((N / (115792089237316195423570985008687907853269984665640564039457584007913129639936 : Nat)) % (115792089237316195423570985008687907853269984665640564039457584007913129639936 : Nat)))) = (0 : Nat))) = Bool.false)) => (ai (ai t2 (ai (ai (show ((8 : Nat) ≤ (16 : Nat)) from by decide) tr) (ai t2 (ai t2 (ai t2 (ai t2 (ai t2 (ai tr (ai tr (ai t2 tr)))))))))) (ai (ai t2 t2) (((h.2 hk2).2 hk4).2 hk6))))))))))))))


theorem of9_p (n : Nat) (R : AV → Prop) (h : (R (AV.pv (PV.words IntKind.u64 (4 : Nat) n)))) :
    awp [eOf] [] [] [] 200 (Try.f47.body.getD .skip) (fnPost Try.f47.results.toList R) (begins [.pv (.nat .u64 n)] Try.f47.ntmps) :=
  Eq.mp (by kernel_rfl) (ai t2 (ai (ai t2 (ai t2 t2)) h))


theorem is9_p (a : Nat) (e : Int) (n : Nat) (R : AV → Prop) (h : ((((decide (e = (0 : Int))) = Bool.true) → (R (AV.pv (PV.bool (decide (a = n)))))) ∧ (((decide (e = (0 : Int))) = Bool.false) → (R (AV.pv (PV.blit Bool.false)))))) :
    awp [eOf9] [] [9] [] 200 (Try.f87.body.getD .skip) (fnPost Try.f87.results.toList R) (begins [.pv (.words .u64 4 a), .pv (.int .i64 e), .pv (.nat .u64 n)] Try.f87.ntmps) :=
  Eq.mp (by kernel_rfl) (ai (ai tr (ai t2 tr)) (ai (fun (hk7 : ((decide (e = (0 : Int))) = Bool.true)) => (ai (ai t2 (ai t2 (ai (ai tr hk7) (ai t2 (ai t2 (ai t2 (ai t2 (ai t2 (ai t2 tr))))))))) (h.1 hk7))) (fun (hk8 : ((decide (e = (0 : Int))) = Bool.false)) => (ai (ai t2 (ai t2 (ai (ai tr hk8) (ai tr (ai tr (ai tr (ai tr (ai t2 (ai t2 tr))))))))) (h.2 hk8)))))


theorem alive9_p (R : AV → Prop) (h : (((decide (((Proofs.Ytdjnhnfofajpcaa.errI (2 : Nat) (11 : Nat)) = (0 : Int)) ∧ ((Proofs.Ytdjnhnfofajpcaa.invM (2 : Nat) (11 : Nat)) = (6 : Nat)))) = Bool.true) ∧ (R (AV.pv (PV.bool (decide ((0 : Nat) = (0 : Nat)))))))) :
    awp [eOf9, eSAdd, eSSub, eSInv, eSMul, eSOf, eIs9] [(60, true), (65, true), (70, true), (75, true), (79, true), (83, true), (89, true), (95, true), (101, true)] [] [] 200 (Try.f48.body.getD .skip) (fnPost Try.f48.results.toList R) (begins [] Try.f48.ntmps) :=
  Eq.mp (by kernel_rfl) (ai (ai t2 tr) (ai (ai t2 (ai t2 (ai t2 (ai tr t2)))) (ai (ai t2 (ai t2 (ai t2 (ai t2 (ai t2 (ai t2 (ai t2 (ai tr (ai tr (ai t2 tr)))))))))) (ai (ai t2 (ai t2 (ai t2 (ai t2 (ai t2 (ai t2 (ai t2 (ai tr (ai tr (ai t2 tr)))))))))) (ai (ai t2 (ai t2 (ai t2 (ai t2 (ai t2 (ai t2 (ai t2 (ai tr (ai tr (ai t2 tr)))))))))) (ai (ai t2 (ai t2 (ai t2 (ai t2 (ai t2 (ai t2 (ai tr (ai tr (ai t2 tr))))))))) (ai (ai t2 (ai t2 (ai t2 (ai t2 (ai t2 (ai t2 (ai tr (ai tr (ai t2 tr))))))))) (ai (ai t2 (ai t2 (ai t2 (ai t2 (ai t2 (ai t2 (ai t2 (ai tr (ai tr (ai t2 tr)))))))))) (ai (ai t2 (ai t2 (ai t2 (ai (ai tr (show ((decide (((0 : Int) = (0 : Int)) ∧ ((4 : Nat) = (4 : Nat)))) = Bool.true) from by decide)) (ai t2 (ai t2 (ai t2 (ai t2 (ai (ai tr (show ((decide (((0 : Int) = (0 : Int)) ∧ ((8 : Nat) = (8 : Nat)))) = Bool.true) from by decide)) (ai t2 (ai t2 (ai t2 (ai t2 (ai (ai tr (show ((decide (((0 : Int) = (0 : Int)) ∧ ((1 : Nat) = (1 : Nat)))) = Bool.true) from by decide)) (ai t2 (ai t2 (ai t2 (ai t2 (ai (ai tr h.1) (ai t2 (ai t2 (ai t2 (ai (ai tr (show ((decide ((7 : Int) = (7 : Int))) = Bool.true) from by decide)) (ai t2 (ai t2 (ai t2 (ai (ai tr (show ((decide ((1 : Int) = (1 : Int))) = Bool.true) from by decide)) (ai t2 (ai t2 (ai t2 (ai t2 (ai t2 (ai (ai tr (show ((decide ((3 : Nat) = (3 : Nat))) = Bool.true) from by decide)) (ai t2 (ai t2 (ai t2 (ai t2 (ai t2 (ai (ai tr (show ((decide ((10 : Nat) = (10 : Nat))) = Bool.true) from by decide)) (ai t2 (ai t2 (ai t2 (ai t2 (ai t2 (ai (ai tr (show ((decide ((3 : Nat) = (3 : Nat))) = Bool.true) from by decide)) (ai t2 (ai t2 (ai t2 (ai t2 (ai t2 (ai t2 tr))))))))))))))))))))))))))))))))))))))))))))))))))) h.2)))))))))



theorem eSAdd_ok : eSAdd.OK := mk_ok Try.func49 (by kernel_rfl) (by kernel_rfl) (TOK.cons eMAdd_ok .nil) (by rw [Try.ntmps49]; decide) (by
  intro N _ a _ b _ _; exact ⟨[], [], [], 200, sadd_p N a b _ (rw_2 (rw_words rfl) (rw_int rfl))⟩)
theorem eSSub_ok : eSSub.OK := mk_ok Try.func50 (by kernel_rfl) (by kernel_rfl) (TOK.cons eMSub_ok .nil) (by rw [Try.ntmps50]; decide) (by
  intro N _ a _ b _ _; exact ⟨[], [], [], 200, ssub_p N a b _ (rw_2 (rw_words rfl) (rw_int rfl))⟩)
theorem eSInv_ok : eSInv.OK := mk_ok Try.func51 (by kernel_rfl) (by kernel_rfl) (TOK.cons eMInv_ok .nil) (by rw [Try.ntmps51]; decide) (by
  intro N _ a _ _; exact ⟨[], [], [], 200, sinv_p N a _ (rw_2 (rw_words rfl) (rw_int rfl))⟩)
theorem eSMul_ok : eSMul.OK := mk_ok Try.func52 (by kernel_rfl) (by kernel_rfl) (TOK.cons eMMul_ok .nil) (by rw [Try.ntmps52]; decide) (by
  intro N _ a _ b _ _; exact ⟨[], [], [], 200, smul_p N a b _ (rw_2 (rw_words rfl) (rw_int rfl))⟩)
theorem eRSAdd_ok : eRSAdd.OK := mk_ok Try.func74 (by kernel_rfl) (by kernel_rfl) (TOK.cons eRMAdd_ok .nil) (by rw [Try.ntmps74]; decide) (by
  intro N _ a _ b _ _; exact ⟨[], [], [], 200, rsadd_p N a b _ (rw_2 (rw_words rfl) (rw_int rfl))⟩)
theorem eRSSub_ok : eRSSub.OK := mk_ok Try.func75 (by kernel_rfl) (by kernel_rfl) (TOK.cons eRMSub_ok .nil) (by rw [Try.ntmps75]; decide) (by
  intro N _ a _ b _ _; exact ⟨[], [], [], 200, rssub_p N a b _ (rw_2 (rw_words rfl) (rw_int rfl))⟩)
theorem eRSMul_ok : eRSMul.OK := mk_ok Try.func76 (by kernel_rfl) (by kernel_rfl) (TOK.cons eRMMul_ok .nil) (by rw [Try.ntmps76]; decide) (by
  intro N _ a _ b _ _; exact ⟨[], [], [], 200, rsmul_p N a b _ (rw_2 (rw_words rfl) (rw_int rfl))⟩)
theorem eRSInv_ok : eRSInv.OK := mk_ok Try.func77 (by kernel_rfl) (by kernel_rfl) (TOK.cons eRMInv_ok .nil) (by rw [Try.ntmps77]; decide) (by
  intro N _ a _ _; exact ⟨[], [], [], 200, rsinv_p N a _ (rw_2 (rw_words rfl) (rw_int rfl))⟩)
theorem eOf9_ok : eOf9.OK := mk_ok Try.func47 (by kernel_rfl) (by kernel_rfl) (TOK.cons eOf_ok .nil) (by rw [Try.ntmps47]; decide) (by
  intro n _ _; exact ⟨[], [], [], 200, of9_p n _ (rw_words rfl)⟩)
theorem eIs9_ok : eIs9.OK := mk_ok Try.func87 (by kernel_rfl) (by kernel_rfl) (TOK.cons eOf9_ok .nil) (by rw [Try.ntmps87]; decide) (by
  intro a _ e _ n _ _
  refine ⟨[], [9], [], 200, is9_p a e n _ ⟨fun h => rw_bool (decide_eq_decide.2 ?_), fun h => rw_blit (decide_eq_false ?_).symm⟩⟩
  · have h := of_decide_eq_true h
    exact ⟨fun h1 => ⟨h, h1⟩, fun h1 => h1.2⟩
  · exact fun h1 => of_decide_eq_false h h1.1)

theorem qN_lt (N : Nat) : qN N < B ^ 4 := Nat.mod_lt _ (by decide)
theorem ofZ_lt {q : Nat} (n : Int) (hq : q < B ^ 4) : ofZ q n < B ^ 4 := by
  unfold ofZ
  split
  · exact Nat.pow_pos (by decide)
  · split
    · exact Nat.lt_trans (Nat.mod_lt _ (by omega)) hq
    · exact Nat.lt_trans (Nat.mod_lt _ (by omega)) hq
theorem mod_pow_digit (x : Nat) {i : Nat} (hi : i < 4) : x % B ^ 4 / B ^ i % B = x / B ^ i % B := by
  rw [show B ^ 4 = B ^ i * B ^ (4 - i) by rw [← Nat.pow_add]; congr 1; omega, Nat.mod_mul_right_div_self, Nat.mod_mod_of_dvd]
  exact ⟨B ^ (3 - i), by rw [← Nat.pow_succ']; congr 1; omega⟩
theorem grow_cells (N : Nat) : Value.agg (cells .u64 16 N) = .agg (grow N (qN N)) := by
  have e : ∀ i, i < 4 → dg (qN N) i = ((N / B ^ (4 + i) % B : Nat) : Int) := by
    intro i hi
    unfold dg qN
    rw [show (115792089237316195423570985008687907853269984665640564039457584007913129639936 : Nat) = B ^ 4 by decide, mod_pow_digit _ hi, Nat.div_div_eq_div_mul, ← Nat.pow_add]
  congr 1
  unfold grow
  rw [e 0 (by decide), e 1 (by decide), e 2 (by decide), e 3 (by decide)]
  apply Array.ext'
  simp [cells, Array.toList_ofFn, List.ofFn_succ, dg]
theorem eSOf_ok : eSOf.OK := mk_ok_calls (c := Try.f78.body.getD .skip) Try.func78 (by kernel_rfl) (by kernel_rfl) (by
  intro N hN n hn _ w vs hv
  obtain ⟨x, y, rfl, ⟨rfl, _⟩, ⟨rfl, _⟩⟩ := two_vals hv
  rw [grow_cells]
  by_cases h : qN N < 2
  · refine (sof_small N (qN N) n (qN_lt N) h w).mono ?_
    rintro e w' ⟨rfl, h2⟩
    refine ⟨_, rfl, ⟨?_, WF4 (ofZ_lt n (qN_lt N))⟩, h2⟩
    rw [cells_dg, show ofZ (qN N) n = 0 from if_pos h]
    rfl
  · refine (sof_great N (qN N) n hn (qN_lt N) (by omega) (ofZ (qN N) n) (by unfold ofZ; rw [if_neg h]) w).mono ?_
    rintro e w' ⟨rfl, h2⟩
    exact ⟨_, rfl, ⟨(cells_dg _).symm, WF4 (ofZ_lt n (qN_lt N))⟩, h2⟩)
theorem abs_up {n : Int} (h : inR .i64 n) (h0 : 0 ≤ n) : (n % 18446744073709551616).toNat = n.natAbs := by have := inR_i64 h; omega
theorem abs_down {n : Int} (h : inR .i64 n) (h0 : ¬ 0 ≤ n) : (18446744073709551616 - (n % 18446744073709551616).toNat) % 18446744073709551616 = n.natAbs := by have := inR_i64 h; omega
theorem eRSOf_ok : eRSOf.OK := mk_ok Try.func79 (by kernel_rfl) (by kernel_rfl) (TOK.cons eROf_ok (.cons eRDiv_ok (.cons eRSub_ok .nil))) (by rw [Try.ntmps79]; decide) (by
  intro N _ n hn _
  refine ⟨[], [], [], 200, rsof_p N n _ ?_⟩
  show _ ∧ _
  have hq : qN N < 115792089237316195423570985008687907853269984665640564039457584007913129639936 := Nat.mod_lt _ (by decide)
  have e : N / 115792089237316195423570985008687907853269984665640564039457584007913129639936 % 115792089237316195423570985008687907853269984665640564039457584007913129639936 = qN N := rfl
  rw [e]
  obtain ⟨q, hqe⟩ : ∃ q, qN N = q := ⟨_, rfl⟩
  rw [hqe] at hq ⊢
  refine ⟨fun h => ?_, fun h => ⟨fun h1 => ?_, fun h1 => ?_⟩⟩
  · have h := of_decide_eq_true h
    exact rw_words (by show 0 = ofZ (qN N) n; rw [hqe, h]; rfl)
  · have h := of_decide_eq_false h
    have h1 := of_decide_eq_true h1
    rw [abs_up hn h1, if_neg h]
    refine rw_words ?_
    show _ = ofZ (qN N) n
    rw [hqe]
    unfold ofZ
    by_cases h2 : q < 2
    · have h3 : q = 1 := by omega
      rw [if_pos h2, h3, Nat.mod_one]
    · rw [if_neg h2, if_neg (by omega)]
  · have h := of_decide_eq_false h
    have h1 := of_decide_eq_false h1
    rw [abs_down hn h1, if_neg h]
    have hr : n.natAbs % q < q := Nat.mod_lt _ (by omega)
    refine ⟨fun h2 => rw_words ?_, fun h2 => rw_words ?_⟩
    · have h2 := of_decide_eq_true h2
      show _ = ofZ (qN N) n
      rw [hqe]
      unfold ofZ
      by_cases h3 : q < 2
      · rw [if_pos h3, h2]
      · rw [if_neg h3, if_pos (by omega), h2, Nat.sub_zero, Nat.mod_self]
    · have h2 := of_decide_eq_false h2
      show _ = ofZ (qN N) n
      rw [hqe]
      unfold ofZ
      have h3 : ¬ q < 2 := fun h3 => h2 (by obtain rfl : q = 1 := by omega
                                            exact Nat.mod_one _)
      rw [if_neg h3, if_pos (by omega)]
      generalize n.natAbs % q = r at *
      rw [Nat.mod_eq_of_lt (a := q - r) (b := q) (by omega)]
      omega)
theorem inv211 : errI 2 11 = 0 ∧ invM 2 11 = 6 := by
  have h : invN 2 11 = 6 := invN_eq (by decide) (by decide)
  have hm : may 2 2 11 := ⟨by decide, by decide, by decide⟩
  unfold errI invM
  rw [if_pos hm, if_pos hm, h]
  exact ⟨rfl, rfl⟩
theorem eAlive9_ok : eAlive9.OK := mk_ok Try.func48 (by kernel_rfl) (by kernel_rfl)
  (TOK.cons eOf9_ok (.cons eSAdd_ok (.cons eSSub_ok (.cons eSInv_ok (.cons eSMul_ok (.cons eSOf_ok (.cons eIs9_ok .nil))))))) (by rw [Try.ntmps48]; decide)
  (fun _ => ⟨_, [], [], 200, alive9_p _ ⟨decide_eq_true inv211, rfl⟩⟩)

theorem u42 : PP.underlying 42 = some (.struct (PP.fieldsOf 42)) := by kernel_rfl
theorem f42 : (PP.fieldsOf 42).toList.map (fun f => (f.type, f.offset)) = [(24, 0), (24, 4), (24, 8), (24, 12)] := by kernel_rfl
theorem c42 : PP.cellsOf 42 = 16 ∧ PP.cellsOf 24 = 4 ∧ (PP.fieldsOf 42).size = 4 := ⟨by kernel_rfl, by kernel_rfl, by kernel_rfl⟩
theorem flat42 : Flat PP 42 .u64 16 := by
  intro H enc w base sp held fuel cs x h
  obtain ⟨xs, m, rfl, rfl, hl, hn, hi⟩ := DataW.trod_struct u42 h
  obtain ⟨hc, hce, hsz⟩ := c42
  rw [hc] at hl
  rw [hsz] at hn
  have hj : ∀ i, i < 4 → DataW.trod enc PP w base sp held m 24 ((cs.drop (i * 4)).take 4) = xs[i]? := by
    intro i h4
    have h5 : ((PP.fieldsOf 42).toList.map fun f => (f.type, f.offset))[i]? = some (24, i * 4) := by
      rw [f42]
      match i, h4 with
      | 0, _ => rfl
      | 1, _ => rfl
      | 2, _ => rfl
      | 3, _ => rfl
    rw [List.getElem?_map, Option.map_eq_some_iff] at h5
    obtain ⟨f, h6, h7⟩ := h5
    have h8 := hi i f (by rw [← Array.getElem?_toList]; exact h6)
    have h9 : f.type = 24 := congrArg Prod.fst h7
    have h10 : f.offset = i * 4 := congrArg Prod.snd h7
    rw [h9, h10, hce] at h8
    exact h8
  refine ⟨hl, fun c hcm => ?_, ?_⟩
  · obtain ⟨j, hjl, rfl⟩ := List.mem_iff_getElem.1 hcm
    have hjn : j / 4 < 4 := by omega
    have h1 := hj (j / 4) hjn
    rw [List.getElem?_eq_getElem (by omega)] at h1
    obtain ⟨h2, h3, _⟩ := flat24 enc w base sp held m _ _ h1
    refine h3 _ ?_
    have h4 : ((cs.drop (j / 4 * 4)).take 4)[j % 4]? = some cs[j] := by
      rw [List.getElem?_take, if_pos (Nat.mod_lt _ (by decide)), List.getElem?_drop, show j / 4 * 4 + j % 4 = j by omega, List.getElem?_eq_getElem hjl]
    exact List.mem_of_getElem? h4
  · rw [List.flatMap_eq_nil_iff]
    intro y hy
    obtain ⟨i, hi', rfl⟩ := List.mem_iff_getElem.1 hy
    have h1 := hj i (by omega)
    rw [List.getElem?_eq_getElem hi'] at h1
    exact (flat24 enc w base sp held m _ _ h1).2.2
set_option maxRecDepth 100000 in
theorem open42 {w w0 : World} {r : Reach} {base b0 : Nat} {v : Value} (hv : Value.okWide PP w r base 42 v) {H : Type} {enc : TypeId × Value → H} {sp : Nat → Bool} {held : Bool} {d : DataW H} {ps : List MemPlace} (hd : DataW.Trod enc PP w0 b0 sp held 42 v d ps) :
    ∃ N, v = .agg (cells .u64 16 N) ∧ WF .u64 16 N ∧ ps = [] := flat_open (by decide) flat42 (.inr ⟨_, u42⟩) hv hd
end Go.Proofs.Ytdjnhnfofajpcaa
