/- The law ScalarsWhole, out of the evaluator. -/
import Derived.Test.YtdjnhnfofajpcaaFk
namespace Go.Proofs.Ytdjnhnfofajpcaa
open Go Go.Proofs Go.ChangeShapes Go.WideShapes Go.ChangeAt Go.RowKit Av

theorem swhole_p (N : Nat) (a b : Int) (R : AV → Prop) (h : ((((decide ((if (((N / (115792089237316195423570985008687907853269984665640564039457584007913129639936 : Nat)) % (115792089237316195423570985008687907853269984665640564039457584007913129639936 : Nat)) < (1 : Nat)) then (-1 : Int) else (if (((N / (115792089237316195423570985008687907853269984665640564039457584007913129639936 : Nat)) % (115792089237316195423570985008687907853269984665640564039457584007913129639936 : Nat)) = (1 : Nat)) then (0 : Int) else (1 : Int))) ≤ (0 : Int))) = Bool.true) → (R (AV.pv (PV.blit Bool.true)))) ∧ (((decide ((if (((N / (115792089237316195423570985008687907853269984665640564039457584007913129639936 : Nat)) % (115792089237316195423570985008687907853269984665640564039457584007913129639936 : Nat)) < (1 : Nat)) then (-1 : Int) else (if (((N / (115792089237316195423570985008687907853269984665640564039457584007913129639936 : Nat)) % (115792089237316195423570985008687907853269984665640564039457584007913129639936 : Nat)) = (1 : Nat)) then (0 : Int) else (1 : Int))) ≤ (0 : Int))) = Bool.false) → ((((decide ((Proofs.Ytdjnhnfofajpcaa.errM (Proofs.Ytdjnhnfofajpcaa.ofZ (Proofs.Ytdjnhnfofajpcaa.qN N) a) (Proofs.Ytdjnhnfofajpcaa.ofZ (Proofs.Ytdjnhnfofajpcaa.qN N) b) (Proofs.Ytdjnhnfofajpcaa.qN N)) = (0 : Int))) = Bool.true) ∧ (((decide ((Proofs.Ytdjnhnfofajpcaa.errM (Proofs.Ytdjnhnfofajpcaa.ofZ (Proofs.Ytdjnhnfofajpcaa.qN N) a) (Proofs.Ytdjnhnfofajpcaa.ofZ (Proofs.Ytdjnhnfofajpcaa.qN N) b) (Proofs.Ytdjnhnfofajpcaa.qN N)) = (0 : Int))) = Bool.true) ∧ (((decide ((Proofs.Ytdjnhnfofajpcaa.errM (Proofs.Ytdjnhnfofajpcaa.ofZ (Proofs.Ytdjnhnfofajpcaa.qN N) a) (Proofs.Ytdjnhnfofajpcaa.ofZ (Proofs.Ytdjnhnfofajpcaa.qN N) b) (Proofs.Ytdjnhnfofajpcaa.qN N)) = (0 : Int))) = Bool.true) ∧ (((IntKind.wrap IntKind.i64 (a + b)) = (a + b)) ∧ (((decide ((Proofs.Ytdjnhnfofajpcaa.addM (Proofs.Ytdjnhnfofajpcaa.ofZ (Proofs.Ytdjnhnfofajpcaa.qN N) a) (Proofs.Ytdjnhnfofajpcaa.ofZ (Proofs.Ytdjnhnfofajpcaa.qN N) b) (Proofs.Ytdjnhnfofajpcaa.qN N)) = (Proofs.Ytdjnhnfofajpcaa.ofZ (Proofs.Ytdjnhnfofajpcaa.qN N) (a + b)))) = Bool.true) ∧ (((IntKind.wrap IntKind.i64 (a - b)) = (a - b)) ∧ (((decide ((Proofs.Ytdjnhnfofajpcaa.subM (Proofs.Ytdjnhnfofajpcaa.ofZ (Proofs.Ytdjnhnfofajpcaa.qN N) a) (Proofs.Ytdjnhnfofajpcaa.ofZ (Proofs.Ytdjnhnfofajpcaa.qN N) b) (Proofs.Ytdjnhnfofajpcaa.qN N)) = (Proofs.Ytdjnhnfofajpcaa.ofZ (Proofs.Ytdjnhnfofajpcaa.qN N) (a - b)))) = Bool.true) ∧ (((IntKind.wrap IntKind.i64 (a * b)) = (a * b)) ∧ ((decide ((Proofs.Ytdjnhnfofajpcaa.mulM (Proofs.Ytdjnhnfofajpcaa.ofZ (Proofs.Ytdjnhnfofajpcaa.qN N) a) (Proofs.Ytdjnhnfofajpcaa.ofZ (Proofs.Ytdjnhnfofajpcaa.qN N) b) (Proofs.Ytdjnhnfofajpcaa.qN N)) = (Proofs.Ytdjnhnfofajpcaa.ofZ (Proofs.Ytdjnhnfofajpcaa.qN N) (a * b)))) = Bool.true))))))))) ∧ (R (AV.pv (PV.bool (decide ((if ((Proofs.Ytdjnhnfofajpcaa.ofZ (Proofs.Ytdjnhnfofajpcaa.qN N) a) < ((N / (115792089237316195423570985008687907853269984665640564039457584007913129639936 : Nat)) % (115792089237316195423570985008687907853269984665640564039457584007913129639936 : Nat))) then (-1 : Int) else (if ((Proofs.Ytdjnhnfofajpcaa.ofZ (Proofs.Ytdjnhnfofajpcaa.qN N) a) = ((N / (115792089237316195423570985008687907853269984665640564039457584007913129639936 : Nat)) % (115792089237316195423570985008687907853269984665640564039457584007913129639936 : Nat))) then (0 : Int) else (1 : Int))) < (0 : Int)))))))))) :
    awp [eOf9, eCmp, eAlive9, eSAdd, eSSub, eSInv, eSMul, eSOf] [(55, true), (59, true), (63, true), (67, true), (76, true), (85, true), (94, true)] [] [] 300 (Try.f28.body.getD .skip) (fnPost Try.f28.results.toList R) (begins [.pv (.words .u64 16 N), .pv (.int .i32 a), .pv (.int .i32 b)] Try.f28.ntmps) :=
  Eq.mp (by kernel_rfl) (ai (ai tr (ai t2 tr)) (ai (ai t2 (ai (ai (show ((8 : Nat) ≤ (16 : Nat)) from by decide) tr) (ai t2 (ai t2 (ai t2 tr))))) (ai (fun (hk1 : ((decide ((if (((N / (115792089237316195423570985008687907853269984665640564039457584007913129639936 : Nat)) % (115792089237316195423570985008687907853269984665640564039457584007913129639936 : Nat)) < (1 : Nat)) then (-1 : Int) else (if (((N / (115792089237316195423570985008687907853269984665640564039457584007913129639936 : Nat)) % (115792089237316195423570985008687907853269984665640564039457584007913129639936 : Nat)) = (1 : Nat)) then (0 : Int) else (1 : Int))) ≤ (0 : Int))) = Bool.true)) => (ai (ai t2 (ai t2 tr)) (h.1 hk1))) (fun (hk2 : ((decide ((if (((N / (115792089237316195423570985008687907853269984665640564039457584007913129639936 : Nat)) % (115792089237316195423570985008687907853269984665640564039457584007913129639936 : Nat)) < (1 : Nat)) then (-1 : Int) else (if (((N / (115792089237316195423570985008687907853269984665640564039457584007913129639936 : Nat)) % (115792089237316195423570985008687907853269984665640564039457584007913129639936 : Nat)) = (1 : Nat)) then (0 : Int) else (1 : Int))) ≤ (0 : Int))) = Bool.false)) => (ai (ai t2 (ai t2 (ai t2 tr))) (ai (ai t2 (ai t2 (ai t2 tr))) (ai (ai t2 (ai t2 (ai t2 (ai tr t2)))) (ai (ai t2 (ai t2 (ai t2 (ai tr t2)))) (ai (ai t2 (ai t2 (ai t2 (ai t2 (ai t2 (ai t2 (ai t2 (ai tr (ai tr (ai t2 tr)))))))))) (ai (ai t2 (ai t2 (ai t2 (ai t2 (ai t2 (ai t2 (ai t2 (ai tr (ai tr (ai t2 tr)))))))))) (ai (ai t2 (ai t2 (ai t2 (ai t2 (ai t2 (ai t2 (ai t2 (ai tr (ai tr (ai t2 tr)))))))))) (ai (ai t2 (ai t2 (ai t2 (ai t2 (ai t2 (ai (ai tr (h.2 hk2).1.1) (ai t2 (ai t2 (ai t2 (ai (ai tr (h.2 hk2).1.2.1) (ai t2 (ai t2 (ai t2 (ai (ai tr (h.2 hk2).1.2.2.1) (ai t2 (ai t2 (ai t2 (ai t2 (ai (ai (h.2 hk2).1.2.2.2.1 tr) (ai t2 (ai t2 (ai t2 (ai (ai tr (h.2 hk2).1.2.2.2.2.1) (ai t2 (ai t2 (ai t2 (ai t2 (ai (ai (h.2 hk2).1.2.2.2.2.2.1 tr) (ai t2 (ai t2 (ai t2 (ai (ai tr (h.2 hk2).1.2.2.2.2.2.2.1) (ai t2 (ai t2 (ai t2 (ai t2 (ai (ai (h.2 hk2).1.2.2.2.2.2.2.2.1 tr) (ai t2 (ai t2 (ai t2 (ai (ai tr (h.2 hk2).1.2.2.2.2.2.2.2.2) (ai t2 (ai t2 (ai (ai (show ((8 : Nat) ≤ (16 : Nat)) from by decide) tr) (ai t2 (ai t2 (ai t2 (ai t2 tr)))))))))))))))))))))))))))))))))))))))))))))))) (h.2 hk2).2))))))))))))


theorem natmod (m n : Nat) : ((m % n : Nat) : Int) = (m : Int) % (n : Int) := rfl
theorem ofZ_at {q : Nat} (hq : 1 < q) (n : Int) : ofZ q n < q ∧ ((ofZ q n : Nat) : Int) = n % (q : Int) := by
  unfold ofZ
  rw [if_neg (by omega)]
  by_cases h : n < 0
  · rw [if_pos h]
    refine ⟨Nat.mod_lt _ (by omega), ?_⟩
    obtain ⟨m, hm, h3⟩ : ∃ m : Nat, n.natAbs = m ∧ n = -(m : Int) := ⟨_, rfl, by omega⟩
    rw [hm, h3]
    clear hm h3 h
    have h1 : m % q < q := Nat.mod_lt _ (by omega)
    have h2 := Nat.div_add_mod m q
    have h4 : ((q * (m / q) + m % q : Nat) : Int) = (m : Int) := by rw [h2]
    rw [natmod, Int.natCast_sub (Nat.le_of_lt h1)]
    clear h2
    generalize m % q = r at *
    generalize m / q = k at *
    simp only [Int.natCast_add, Int.natCast_mul] at h4
    rw [← h4, show -((q : Int) * (k : Int) + (r : Int)) = ((q : Int) - r) + q * (-k - 1) by grind, Int.add_mul_emod_self_left]
  · rw [if_neg h]
    refine ⟨Nat.mod_lt _ (by omega), ?_⟩
    rw [natmod, show ((n.natAbs : Nat) : Int) = n by omega]
theorem ofZ_eq {q x : Nat} (hq : 1 < q) {n : Int} (hx : x < q) (h : ((x : Nat) : Int) % (q : Int) = n % (q : Int)) : x = ofZ q n := by
  have h1 := (ofZ_at hq n).2
  rw [← h, Int.emod_eq_of_lt (by omega) (by omega)] at h1
  omega
theorem ofZ_add {q : Nat} (hq : 1 < q) (m n : Int) : addM (ofZ q m) (ofZ q n) q = ofZ q (m + n) := by
  obtain ⟨h1, h2⟩ := ofZ_at hq m
  obtain ⟨h3, h4⟩ := ofZ_at hq n
  rw [addM_in hq h1 h3]
  refine ofZ_eq hq (Nat.mod_lt _ (by omega)) ?_
  rw [natmod, Int.natCast_add, h2, h4, Int.emod_emod, ← Int.add_emod]
theorem ofZ_mul {q : Nat} (hq : 1 < q) (m n : Int) : mulM (ofZ q m) (ofZ q n) q = ofZ q (m * n) := by
  obtain ⟨h1, h2⟩ := ofZ_at hq m
  obtain ⟨h3, h4⟩ := ofZ_at hq n
  rw [mulM_in hq h1 h3]
  refine ofZ_eq hq (Nat.mod_lt _ (by omega)) ?_
  rw [natmod, Int.natCast_mul, h2, h4, Int.emod_emod, ← Int.mul_emod]
theorem ofZ_sub {q : Nat} (hq : 1 < q) (m n : Int) : subM (ofZ q m) (ofZ q n) q = ofZ q (m - n) := by
  obtain ⟨h1, h2⟩ := ofZ_at hq m
  obtain ⟨h3, h4⟩ := ofZ_at hq n
  rw [subM_in hq h1 h3]
  refine ofZ_eq hq (Nat.mod_lt _ (by omega)) ?_
  rw [natmod, Int.natCast_add, Int.natCast_sub (Nat.le_of_lt h3), h2, h4, Int.emod_emod, ← Int.add_sub_assoc, show ∀ x y z : Int, x + z - y = x - y + z * 1 from fun x y z => by omega, Int.add_mul_emod_self_left, ← Int.sub_emod]
theorem i32_of {n : Int} (h1 : IntKind.min .i32 ≤ n) (h2 : n ≤ IntKind.max .i32) : inR .i32 n ∧ -2147483648 ≤ n ∧ n ≤ 2147483647 := by
  simp [IntKind.min, IntKind.max, IntKind.signed, IntKind.bits] at h1 h2
  refine ⟨?_, h1, h2⟩
  unfold inR IntKind.wrap
  simp only [IntKind.signed, IntKind.bits]
  simp
  omega
theorem small_mul {a b : Int} (h1 : -2147483648 ≤ a) (h2 : a ≤ 2147483647) (h3 : -2147483648 ≤ b) (h4 : b ≤ 2147483647) : -9223372036854775808 ≤ a * b ∧ a * b < 9223372036854775808 := by
  have h : (a * b).natAbs ≤ 2147483648 * 2147483648 := by
    rw [Int.natAbs_mul]
    exact Nat.mul_le_mul (by omega) (by omega)
  omega
theorem swhole_law_calls (N : Nat) (hN : WF .u64 16 N) (a : Int) (a1 : IntKind.min .i32 ≤ a) (a2 : a ≤ IntKind.max .i32) (b : Int) (b1 : IntKind.min .i32 ≤ b) (b2 : b ≤ IntKind.max .i32) (w : World) :
    Calls PP 28 #[.agg (cells .u64 16 N), .int .i32 a, .int .i32 b] w fun e w' => e = .returned (.bool true) ∧ Below w.heap.size w w' := by
  obtain ⟨ha, a3, a4⟩ := i32_of a1 a2
  obtain ⟨hb, b3, b4⟩ := i32_of b1 b2
  refine law_calls (vs := [.agg (cells .u64 16 N), .int .i32 a, .int .i32 b]) Try.func28 (by kernel_rfl) (TOK.cons eOf9_ok (.cons eCmp_ok (.cons eAlive9_ok (.cons eSAdd_ok (.cons eSSub_ok (.cons eSInv_ok (.cons eSMul_ok (.cons eSOf_ok .nil))))))))
    [.pv (.words .u64 16 N), .pv (.int .i32 a), .pv (.int .i32 b)] (by rw [Try.ntmps28]; simp) ⟨_, [], [], 300, swhole_p N a b _ ⟨fun _ => rfl, fun h => ?_⟩⟩ (.cons (argV_pv ⟨rfl, hN⟩) (.cons (argV_pv ⟨rfl, ha⟩) (.cons (argV_pv ⟨rfl, hb⟩) .nil)))
  have hq : 1 < qN N := top_le h
  clear h
  obtain ⟨x1, _⟩ := ofZ_at hq a
  obtain ⟨y1, _⟩ := ofZ_at hq b
  have hm := small_mul a3 a4 b3 b4
  refine ⟨⟨e_ok hq x1 y1, e_ok hq x1 y1, e_ok hq x1 y1, i64_ok (by omega) (by omega), decide_eq_true (ofZ_add hq a b), i64_ok (by omega) (by omega), decide_eq_true (ofZ_sub hq a b), i64_ok (by omega) (by omega), decide_eq_true (ofZ_mul hq a b)⟩, rw_bool (decide_eq_true ?_)⟩
  show (if ofZ (qN N) a < qN N then (-1 : Int) else if ofZ (qN N) a = qN N then 0 else 1) < 0
  rw [if_pos x1]
  decide

theorem scalarsWhole_fact0 : (Rows.scalarsWholeRow.wf (OpenSpec.ofChange Rows.scalarsWholeSpec)) = true := by kernel_rfl
theorem scalarsWhole_fact3 : (Try.f28.params.all (Try.prog.readableRec ·)) = true := by kernel_rfl
theorem scalarsWhole_fact4 : (namedTie Try.prog Rows.scalarsWholeRow.named Rows.scalarsWholeSpec.vars) = true := by kernel_rfl
theorem scalarsWhole_fact5 : ((Rows.scalarsWholeRow.stops == [])) = true := by kernel_rfl
theorem scalarsWhole_fact7 : ((Rows.scalarsWholeRow.knobs == [])) = true := by kernel_rfl
theorem scalarsWhole_fact9 : ((Rows.scalarsWholeRow.inPlace == Try.prog.inPlace 28)) = true := by kernel_rfl
theorem scalarsWhole_fact10 : ((Rows.scalarsWholeRow.unfollowed == Try.prog.unfollowed 28)) = true := by kernel_rfl
theorem scalarsWhole_fact11 : ((Rows.scalarsWholeRow.recurses == Try.prog.recurses 28)) = true := by kernel_rfl
theorem scalarsWhole_fact12 : ((Rows.scalarsWholeRow.named == Try.prog.varsNamed 28)) = true := by kernel_rfl
theorem scalarsWhole_fact13 : ((Rows.scalarsWholeRow.maps == (Try.f28.params.toList ++ Rows.scalarsWholeSpec.plain.varTypes Try.prog).any (Try.prog.mapsRec ·))) = true := by kernel_rfl
theorem scalarsWhole_fact14 : ((Rows.scalarsWholeRow.ifaces == (Try.f28.params.toList ++ Rows.scalarsWholeSpec.plain.varTypes Try.prog).any (Try.prog.ifacesRec ·))) = true := by kernel_rfl
theorem scalarsWhole_fact15 : ((Rows.scalarsWholeRow.mapsOut == Try.prog.mapsAmong Try.f28.resultTypes.toList)) = true := by kernel_rfl
theorem scalarsWhole_fact16 : ((Rows.scalarsWholeRow.loops == (Try.f28.params.toList ++ Rows.scalarsWholeSpec.plain.varTypes Try.prog).any (Try.prog.loopsFrom ·))) = true := by kernel_rfl
theorem scalarsWhole_fact17 : ((Rows.scalarsWholeRow.wideKeys == (Try.f28.params.toList ++ Rows.scalarsWholeSpec.plain.varTypes Try.prog ++ Try.f28.resultTypes.toList).any (Try.prog.wideKeysFrom ·))) = true := by kernel_rfl
theorem scalarsWhole_fact18 : (Rows.scalarsWholeSpec.vars.all (Try.prog.varReadable ·)) = true := by kernel_rfl
theorem scalarsWhole_fact19 : (Try.f28.resultTypes.all (fun t => Try.prog.readableRec t && decide (t < Try.prog.types.size))) = true := by kernel_rfl
theorem scalarsWhole_fact20 : ((Rows.scalarsWholeRow.ifacesOut == Try.f28.resultTypes.toList.any (Try.prog.ifacesRec ·))) = true := by kernel_rfl
theorem scalarsWhole_fact21 : ((Rows.scalarsWholeRow.loopsOut == Try.f28.resultTypes.toList.any (Try.prog.loopsFrom ·))) = true := by kernel_rfl
theorem scalarsWhole_fact22 : ((Rows.scalarsWholeRow.plainKeys == Try.prog.plainKeys)) = true := by kernel_rfl
theorem scalarsWhole_fact23 : (Rows.scalarsWholeRow.shortTexts.isNone) = true := by kernel_rfl
theorem scalarsWhole_fact26 : ((Rows.scalarsWholeRow.lifted == Try.prog.liftsFinal)) = true := by rw [final_ok _ _ io_words]; rfl
theorem scalarsWhole_fact27 : ((Try.prog.make == some Rows.scalarsWholeRow.make)) = true := by rw [make_ok _ _ io_words]; rfl
theorem scalarsWhole_fact29 : ((Rows.scalarsWholeRow.pinned == Rows.scalarsWholeRow.pinnedBy)) = true := by kernel_rfl
theorem scalarsWhole_fact30 : ((Rows.scalarsWholeRow.veiled == (Try.f28.params.toList ++ Rows.scalarsWholeSpec.plain.varTypes Try.prog ++ Try.f28.resultTypes.toList).any (Try.prog.veiledRec ·))) = true := by kernel_rfl
theorem scalarsWhole_fact31 : (Rows.scalarsWholeRow.veiledFits Try.prog Try.f28.params.toList (Try.f28.params.toList ++ Rows.scalarsWholeSpec.plain.varTypes Try.prog ++ Try.f28.resultTypes.toList)) = true := by kernel_rfl
theorem scalarsWhole_facts : joinedFacts Try.prog 28 Try.f28 Rows.scalarsWholeSpec Rows.scalarsWholeRow = true := by
  unfold joinedFacts
  exact (and_t (and_t (and_t (and_t (and_t (and_t (and_t (and_t (and_t (and_t (and_t (and_t (and_t (and_t (and_t (and_t (and_t (and_t (and_t (and_t (and_t (and_t (and_t (and_t (and_t (and_t (and_t (and_t (and_t (and_t (and_t scalarsWhole_fact0 pfact1) pfact2) scalarsWhole_fact3) scalarsWhole_fact4) scalarsWhole_fact5) pfact6) scalarsWhole_fact7) pfact8) scalarsWhole_fact9) scalarsWhole_fact10) scalarsWhole_fact11) scalarsWhole_fact12) scalarsWhole_fact13) scalarsWhole_fact14) scalarsWhole_fact15) scalarsWhole_fact16) scalarsWhole_fact17) scalarsWhole_fact18) scalarsWhole_fact19) scalarsWhole_fact20) scalarsWhole_fact21) scalarsWhole_fact22) scalarsWhole_fact23) pfact24) pfact25) scalarsWhole_fact26) scalarsWhole_fact27) (kinds_ok rfl rfl)) scalarsWhole_fact29) scalarsWhole_fact30) scalarsWhole_fact31)

set_option maxRecDepth 100000 in
theorem scalarsWhole_lifted (os : Os) (started : os.Started) (H : Type) (enc : TypeId × Value → H) :
    ReturnsInHanded {} Try.checked os 28 .any (Rows.scalarsWholeSpec.pre6 enc Try.prog Try.f28 Rows.scalarsWholeRow.domain false) (Rows.scalarsWholeSpec.post enc Try.prog Try.f28 false true false false) := by
  refine returnsInHanded_of_change (C := Try.checked) Try.own started (by kernel_rfl) Try.func28
    (ChangeSpec.witness6 (enc := enc) (C := Try.checked) false ⟨#[], #[.agg (cells .u64 16 0), .int .i32 0, .int .i32 0], []⟩ 8 (by kernel_rfl) (by kernel_rfl) (by kernel_rfl) (by kernel_rfl)) ?_
  intro W base args ds gs before hval0 hW hcnd _
  have hval : ∀ (j : Nat) t v, Try.f28.params[j]? = some t → args[j]? = some v → Value.okWide Try.prog W .any base t v := hval0
  have hW' := hW
  obtain ⟨p, q, hA0, hV, rfl, hfz, hnd⟩ := hW
  have hA : DataW.TrodAll enc Try.prog W 0 (fun _ => true) true Try.f28.params.toList args.toList ds p := hA0
  rw [Try.params28] at hA hval
  have hAA := hA
  obtain ⟨v0, vs0, d0, ds0, p0, q0, hargs, rfl, rfl, h0, r0⟩ := trodAll_cons hA
  obtain ⟨v1, vs1, d1, ds1, p1, q1, rfl, rfl, rfl, h1, r1⟩ := trodAll_cons r0
  obtain ⟨v2, vs2, d2, ds2, p2, q2, rfl, rfl, rfl, h2, r2⟩ := trodAll_cons r1
  obtain ⟨rfl, rfl, rfl⟩ := trodAll_nil r2
  obtain rfl : args = #[v0, v1, v2] := by cases args; simp_all
  obtain ⟨rfl, rfl⟩ := trodVars_none hV
  obtain ⟨x0, rfl, w0, rfl⟩ := open42 (hval 0 42 v0 rfl rfl) h0
  obtain ⟨x1, rfl, w1, y1, rfl⟩ := openInt u21 (hval 1 21 v1 rfl rfl) h1
  obtain ⟨x2, rfl, w2, y2, rfl⟩ := openInt u21 (hval 2 21 v2 rfl rfl) h2
  refine (swhole_law_calls x0 w0 x1 w1 y1 x2 w2 y2 W).mono fun e W' ⟨he, hb⟩ => ?_
  subst he
  exact ⟨_, rfl, post_true hW' Try.laidOut u4 hAA (by decide +kernel) (by kernel_rfl) rfl rfl hb⟩

theorem scalarsWhole_holds : Rows.ScalarsWholeSaid :=
  OpenClaim.holds_of_wide 28 Try.f28 rfl rfl rfl rfl rfl rfl rfl ⟨rfl, rfl, rfl, rfl, rfl⟩ rfl rfl rfl rfl rfl (by kernel_rfl) Try.func28 scalarsWhole_facts
    (of_decide_eq_true (by kernel_rfl)) (by unfold Func.isWrapper; first | (rw [if_pos (by decide +kernel)]; kernel_rfl) | (rw [if_neg (by decide +kernel)]; exact ⟨rfl, rfl⟩))
    (fun os started H enc _ => scalarsWhole_lifted os started H enc)
#print axioms scalarsWhole_holds

end Go.Proofs.Ytdjnhnfofajpcaa
