/- The law LimbsOf, out of the evaluator: each function of limbs answers as the reference does. -/
import Derived.Test.YtdjnhnfofajpcaaF7
import Derived.Test.YtdjnhnfofajpcaaR1
namespace Go.Proofs.Ytdjnhnfofajpcaa
open Go Go.Proofs Go.ChangeShapes Go.WideShapes Go.ChangeAt Go.RowKit Av

theorem limbsof_p (a b : Nat) (n : Int) (R : AV → Prop) (h : ((((decide (((a / (18446744073709551616 : Nat)) % (18446744073709551616 : Nat)) = ((a / (18446744073709551616 : Nat)) % (18446744073709551616 : Nat)))) = Bool.true) ∧ (((decide ((if (a < b) then (-1 : Int) else (if (a = b) then (0 : Int) else (1 : Int))) = (if (a < b) then (-1 : Int) else (if (a = b) then (0 : Int) else (1 : Int))))) = Bool.true) ∧ (((decide ((((bitLen a) : Nat) : Int) = (((bitLen a) : Nat) : Int))) = Bool.true) ∧ (((decide ((if (((0 : Int) ≤ n) ∧ (n < (256 : Int))) then ((a / ((2 : Nat) ^ (Int.toNat n))) % (2 : Nat)) else (0 : Nat)) = (if (((0 : Int) ≤ n) ∧ (n < (256 : Int))) then ((a / ((2 : Nat) ^ (Int.toNat n))) % (2 : Nat)) else (0 : Nat)))) = Bool.true) ∧ (((decide (((a + b) % (115792089237316195423570985008687907853269984665640564039457584007913129639936 : Nat)) = ((a + b) % (115792089237316195423570985008687907853269984665640564039457584007913129639936 : Nat)))) = Bool.true) ∧ (((decide (((a + b) / (115792089237316195423570985008687907853269984665640564039457584007913129639936 : Nat)) = ((a + b) / (115792089237316195423570985008687907853269984665640564039457584007913129639936 : Nat)))) = Bool.true) ∧ (((decide (((a + ((115792089237316195423570985008687907853269984665640564039457584007913129639936 : Nat) - b)) % (115792089237316195423570985008687907853269984665640564039457584007913129639936 : Nat)) = ((a + ((115792089237316195423570985008687907853269984665640564039457584007913129639936 : Nat) - b)) % (115792089237316195423570985008687907853269984665640564039457584007913129639936 : Nat)))) = Bool.true) ∧ (((decide ((if (a < b) then (1 : Nat) else (0 : Nat)) = (if (a < b) then (1 : Nat) else (0 : Nat)))) = Bool.true) ∧ (((decide (((a * b) % (115792089237316195423570985008687907853269984665640564039457584007913129639936 : Nat)) = ((a * b) % (115792089237316195423570985008687907853269984665640564039457584007913129639936 : Nat)))) = Bool.true) ∧ ((decide (((a * b) / (115792089237316195423570985008687907853269984665640564039457584007913129639936 : Nat)) = ((a * b) / (115792089237316195423570985008687907853269984665640564039457584007913129639936 : Nat)))) = Bool.true)))))))))) ∧ (R (AV.pv (PV.bool (decide ((Proofs.Ytdjnhnfofajpcaa.shiftN a n) = (Proofs.Ytdjnhnfofajpcaa.shiftN a n)))))))) :
    awp [eAdd, eSub, eMul, eRAdd, eRSub, eRMul, eOf, eROf, eCmp, eRCmp, eBits, eRBits, eBit, eRBit, eShift, eRShift] [(62, true), (71, true), (78, true), (87, true), (92, true), (97, true), (102, true), (107, true), (112, true), (117, true)] [] [] 200 (Try.f3.body.getD .skip) (fnPost Try.f3.results.toList R) (begins [.pv (.words .u64 4 a), .pv (.words .u64 4 b), .pv (.int .i64 n)] Try.f3.ntmps) :=
  Eq.mp (by kernel_rfl) (ai (ai tr (ai tr (ai t2 tr))) (ai (ai t2 (ai t2 (ai t2 (ai t2 (ai t2 (ai t2 (ai tr (ai tr (ai t2 tr))))))))) (ai (ai t2 (ai t2 (ai t2 (ai t2 (ai t2 (ai t2 (ai tr (ai tr (ai t2 tr))))))))) (ai (ai t2 (ai t2 (ai t2 (ai t2 (ai t2 (ai t2 (ai tr (ai tr (ai tr t2))))))))) (ai (ai t2 (ai t2 (ai t2 (ai t2 (ai t2 (ai t2 (ai tr (ai tr (ai t2 tr))))))))) (ai (ai t2 (ai t2 (ai t2 (ai t2 (ai t2 (ai t2 (ai tr (ai tr (ai t2 tr))))))))) (ai (ai t2 (ai t2 (ai t2 (ai t2 (ai t2 (ai t2 (ai tr (ai tr (ai tr t2))))))))) (ai (ai (ai (ai (show ((0 : Int) ≤ (1 : Int)) from by decide) (show ((2 : Int) ≤ (4 : Int)) from by decide)) tr) (ai (ai (show ((2 : Nat) ≤ (4 : Nat)) from by decide) tr) (ai t2 (ai (ai (ai (show ((0 : Int) ≤ (1 : Int)) from by decide) (show ((2 : Int) ≤ (4 : Int)) from by decide)) tr) (ai (ai (show ((2 : Nat) ≤ (4 : Nat)) from by decide) tr) (ai t2 (ai t2 (ai (ai tr h.1.1) (ai t2 (ai t2 (ai t2 (ai t2 (ai t2 (ai t2 (ai t2 (ai t2 (ai (ai tr h.1.2.1) (ai t2 (ai t2 (ai t2 (ai t2 (ai t2 (ai t2 (ai (ai tr h.1.2.2.1) (ai t2 (ai t2 (ai t2 (ai t2 (ai t2 (ai t2 (ai t2 (ai t2 (ai (ai tr h.1.2.2.2.1) (ai t2 (ai t2 (ai t2 (ai t2 (ai (ai tr h.1.2.2.2.2.1) (ai t2 (ai t2 (ai t2 (ai t2 (ai (ai tr h.1.2.2.2.2.2.1) (ai t2 (ai t2 (ai t2 (ai t2 (ai (ai tr h.1.2.2.2.2.2.2.1) (ai t2 (ai t2 (ai t2 (ai t2 (ai (ai tr h.1.2.2.2.2.2.2.2.1) (ai t2 (ai t2 (ai t2 (ai t2 (ai (ai tr h.1.2.2.2.2.2.2.2.2.1) (ai t2 (ai t2 (ai t2 (ai t2 (ai (ai tr h.1.2.2.2.2.2.2.2.2.2) (ai t2 (ai t2 (ai t2 (ai t2 (ai t2 (ai t2 (ai t2 (ai t2 (ai t2 tr)))))))))))))))))))))))))))))))))))))))))))))))))))))))))))))))))))))))) h.2))))))))


theorem limbsof_calls (a : Nat) (ha : WF .u64 4 a) (b : Nat) (hb : WF .u64 4 b) (n : Int) (h1 : IntKind.min .i64 ≤ n) (h2 : n ≤ IntKind.max .i64) (w : World) :
    Calls PP 3 #[.agg (cells .u64 4 a), .agg (cells .u64 4 b), .int .i64 n] w fun e w' => e = .returned (.bool true) ∧ Below w.heap.size w w' := by
  have hn : inR .i64 n := by
    simp [IntKind.min, IntKind.max, IntKind.signed, IntKind.bits] at h1 h2
    exact i64_ok (by omega) (by omega)
  refine law_calls (vs := [.agg (cells .u64 4 a), .agg (cells .u64 4 b), .int .i64 n]) Try.func3 (by kernel_rfl)
    (TOK.cons eAdd_ok (.cons eSub_ok (.cons eMul_ok (.cons eRAdd_ok (.cons eRSub_ok (.cons eRMul_ok (.cons eOf_ok (.cons eROf_ok (.cons eCmp_ok (.cons eRCmp_ok (.cons eBits_ok (.cons eRBits_ok (.cons eBit_ok (.cons eRBit_ok (.cons eShift_ok (.cons eRShift_ok .nil))))))))))))))))
    [.pv (.words .u64 4 a), .pv (.words .u64 4 b), .pv (.int .i64 n)] (by rw [Try.ntmps3]; simp)
    ⟨_, [], [], 200, limbsof_p a b n _ ?_⟩ (.cons (argV_pv ⟨rfl, ha⟩) (.cons (argV_pv ⟨rfl, hb⟩) (.cons (argV_pv ⟨rfl, hn⟩) .nil)))
  exact ⟨⟨decide_eq_true rfl, decide_eq_true rfl, decide_eq_true rfl, decide_eq_true rfl, decide_eq_true rfl, decide_eq_true rfl, decide_eq_true rfl, decide_eq_true rfl, decide_eq_true rfl, decide_eq_true rfl⟩, rw_bool (decide_eq_true rfl)⟩

theorem limbsOf_fact0 : (Rows.limbsOfRow.wf (OpenSpec.ofChange Rows.limbsOfSpec)) = true := by kernel_rfl
theorem limbsOf_fact3 : (Try.f3.params.all (Try.prog.readableRec ·)) = true := by kernel_rfl
theorem limbsOf_fact4 : (namedTie Try.prog Rows.limbsOfRow.named Rows.limbsOfSpec.vars) = true := by kernel_rfl
theorem limbsOf_fact5 : ((Rows.limbsOfRow.stops == [])) = true := by kernel_rfl
theorem limbsOf_fact7 : ((Rows.limbsOfRow.knobs == [])) = true := by kernel_rfl
theorem limbsOf_fact9 : ((Rows.limbsOfRow.inPlace == Try.prog.inPlace 3)) = true := by kernel_rfl
theorem limbsOf_fact10 : ((Rows.limbsOfRow.unfollowed == Try.prog.unfollowed 3)) = true := by kernel_rfl
theorem limbsOf_fact11 : ((Rows.limbsOfRow.recurses == Try.prog.recurses 3)) = true := by kernel_rfl
theorem limbsOf_fact12 : ((Rows.limbsOfRow.named == Try.prog.varsNamed 3)) = true := by kernel_rfl
theorem limbsOf_fact13 : ((Rows.limbsOfRow.maps == (Try.f3.params.toList ++ Rows.limbsOfSpec.plain.varTypes Try.prog).any (Try.prog.mapsRec ·))) = true := by kernel_rfl
theorem limbsOf_fact14 : ((Rows.limbsOfRow.ifaces == (Try.f3.params.toList ++ Rows.limbsOfSpec.plain.varTypes Try.prog).any (Try.prog.ifacesRec ·))) = true := by kernel_rfl
theorem limbsOf_fact15 : ((Rows.limbsOfRow.mapsOut == Try.prog.mapsAmong Try.f3.resultTypes.toList)) = true := by kernel_rfl
theorem limbsOf_fact16 : ((Rows.limbsOfRow.loops == (Try.f3.params.toList ++ Rows.limbsOfSpec.plain.varTypes Try.prog).any (Try.prog.loopsFrom ·))) = true := by kernel_rfl
theorem limbsOf_fact17 : ((Rows.limbsOfRow.wideKeys == (Try.f3.params.toList ++ Rows.limbsOfSpec.plain.varTypes Try.prog ++ Try.f3.resultTypes.toList).any (Try.prog.wideKeysFrom ·))) = true := by kernel_rfl
theorem limbsOf_fact18 : (Rows.limbsOfSpec.vars.all (Try.prog.varReadable ·)) = true := by kernel_rfl
theorem limbsOf_fact19 : (Try.f3.resultTypes.all (fun t => Try.prog.readableRec t && decide (t < Try.prog.types.size))) = true := by kernel_rfl
theorem limbsOf_fact20 : ((Rows.limbsOfRow.ifacesOut == Try.f3.resultTypes.toList.any (Try.prog.ifacesRec ·))) = true := by kernel_rfl
theorem limbsOf_fact21 : ((Rows.limbsOfRow.loopsOut == Try.f3.resultTypes.toList.any (Try.prog.loopsFrom ·))) = true := by kernel_rfl
theorem limbsOf_fact22 : ((Rows.limbsOfRow.plainKeys == Try.prog.plainKeys)) = true := by kernel_rfl
theorem limbsOf_fact23 : (Rows.limbsOfRow.shortTexts.isNone) = true := by kernel_rfl
theorem limbsOf_fact26 : ((Rows.limbsOfRow.lifted == Try.prog.liftsFinal)) = true := by rw [final_ok _ _ io_words]; rfl
theorem limbsOf_fact27 : ((Try.prog.make == some Rows.limbsOfRow.make)) = true := by rw [make_ok _ _ io_words]; rfl
theorem limbsOf_fact29 : ((Rows.limbsOfRow.pinned == Rows.limbsOfRow.pinnedBy)) = true := by kernel_rfl
theorem limbsOf_fact30 : ((Rows.limbsOfRow.veiled == (Try.f3.params.toList ++ Rows.limbsOfSpec.plain.varTypes Try.prog ++ Try.f3.resultTypes.toList).any (Try.prog.veiledRec ·))) = true := by kernel_rfl
theorem limbsOf_fact31 : (Rows.limbsOfRow.veiledFits Try.prog Try.f3.params.toList (Try.f3.params.toList ++ Rows.limbsOfSpec.plain.varTypes Try.prog ++ Try.f3.resultTypes.toList)) = true := by kernel_rfl
theorem limbsOf_facts : joinedFacts Try.prog 3 Try.f3 Rows.limbsOfSpec Rows.limbsOfRow = true := by
  unfold joinedFacts
  exact (and_t (and_t (and_t (and_t (and_t (and_t (and_t (and_t (and_t (and_t (and_t (and_t (and_t (and_t (and_t (and_t (and_t (and_t (and_t (and_t (and_t (and_t (and_t (and_t (and_t (and_t (and_t (and_t (and_t (and_t (and_t limbsOf_fact0 pfact1) pfact2) limbsOf_fact3) limbsOf_fact4) limbsOf_fact5) pfact6) limbsOf_fact7) pfact8) limbsOf_fact9) limbsOf_fact10) limbsOf_fact11) limbsOf_fact12) limbsOf_fact13) limbsOf_fact14) limbsOf_fact15) limbsOf_fact16) limbsOf_fact17) limbsOf_fact18) limbsOf_fact19) limbsOf_fact20) limbsOf_fact21) limbsOf_fact22) limbsOf_fact23) pfact24) pfact25) limbsOf_fact26) limbsOf_fact27) (kinds_ok rfl rfl)) limbsOf_fact29) limbsOf_fact30) limbsOf_fact31)

set_option maxRecDepth 100000 in
theorem limbsOf_lifted (os : Os) (started : os.Started) (H : Type) (enc : TypeId × Value → H) :
    ReturnsInHanded {} Try.checked os 3 .any (Rows.limbsOfSpec.pre6 enc Try.prog Try.f3 Rows.limbsOfRow.domain false) (Rows.limbsOfSpec.post enc Try.prog Try.f3 false true false false) := by
  refine returnsInHanded_of_change (C := Try.checked) Try.own started (by kernel_rfl) Try.func3
    (ChangeSpec.witness6 (enc := enc) (C := Try.checked) false ⟨#[], #[.agg (cells .u64 4 0), .agg (cells .u64 4 0), .int .i64 0], []⟩ 8 (by kernel_rfl) (by kernel_rfl) (by kernel_rfl) (by kernel_rfl)) ?_
  intro W base args ds gs before hval0 hW hcnd _
  have hval : ∀ (j : Nat) t v, Try.f3.params[j]? = some t → args[j]? = some v → Value.okWide Try.prog W .any base t v := hval0
  have hW' := hW
  obtain ⟨p, q, hA0, hV, rfl, hfz, hnd⟩ := hW
  have hA : DataW.TrodAll enc Try.prog W 0 (fun _ => true) true Try.f3.params.toList args.toList ds p := hA0
  rw [Try.params3] at hA hval
  have hAA := hA
  obtain ⟨v0, vs0, d0, ds0, p0, q0, hargs, rfl, rfl, h0, r0⟩ := trodAll_cons hA
  obtain ⟨v1, vs1, d1, ds1, p1, q1, rfl, rfl, rfl, h1, r1⟩ := trodAll_cons r0
  obtain ⟨v2, vs2, d2, ds2, p2, q2, rfl, rfl, rfl, h2, r2⟩ := trodAll_cons r1
  obtain ⟨rfl, rfl, rfl⟩ := trodAll_nil r2
  obtain rfl : args = #[v0, v1, v2] := by cases args; simp_all
  obtain ⟨rfl, rfl⟩ := trodVars_none hV
  obtain ⟨x0, rfl, w0, rfl⟩ := open24 (hval 0 24 v0 rfl rfl) h0
  obtain ⟨x1, rfl, w1, rfl⟩ := open24 (hval 1 24 v1 rfl rfl) h1
  obtain ⟨x2, rfl, w2, y2, rfl⟩ := openInt u3 (hval 2 3 v2 rfl rfl) h2
  refine (limbsof_calls x0 w0 x1 w1 x2 w2 y2 W).mono fun e W' ⟨he, hb⟩ => ?_
  subst he
  exact ⟨_, rfl, post_true hW' Try.laidOut u4 hAA (by decide +kernel) (by kernel_rfl) rfl rfl hb⟩

theorem limbsOf_holds : Rows.LimbsOfSaid :=
  OpenClaim.holds_of_wide 3 Try.f3 rfl rfl rfl rfl rfl rfl rfl ⟨rfl, rfl, rfl, rfl, rfl⟩ rfl rfl rfl rfl rfl (by kernel_rfl) Try.func3 limbsOf_facts
    (of_decide_eq_true (by kernel_rfl)) (by unfold Func.isWrapper; first | (rw [if_pos (by decide +kernel)]; kernel_rfl) | (rw [if_neg (by decide +kernel)]; exact ⟨rfl, rfl⟩))
    (fun os started H enc _ => limbsOf_lifted os started H enc)
#print axioms limbsOf_holds

end Go.Proofs.Ytdjnhnfofajpcaa
