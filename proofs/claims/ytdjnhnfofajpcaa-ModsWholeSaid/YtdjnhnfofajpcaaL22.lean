/- The law ModsWhole, out of the evaluator. -/
import Derived.Test.YtdjnhnfofajpcaaNa
import Derived.Test.YtdjnhnfofajpcaaR1
namespace Go.Proofs.Ytdjnhnfofajpcaa
open Go Go.Proofs Go.ChangeShapes Go.WideShapes Go.ChangeAt Go.RowKit Av

theorem mwhole_law_p (a b m : Nat) (R : AV → Prop) (h : ((((decide ((if (m < (1 : Nat)) then (-1 : Int) else (if (m = (1 : Nat)) then (0 : Int) else (1 : Int))) ≤ (0 : Int))) = Bool.true) → (R (AV.pv (PV.blit Bool.true)))) ∧ (((decide ((if (m < (1 : Nat)) then (-1 : Int) else (if (m = (1 : Nat)) then (0 : Int) else (1 : Int))) ≤ (0 : Int))) = Bool.false) → ((((decide ((if (m = (0 : Nat)) then (1 : Int) else (0 : Int)) = (0 : Int))) = Bool.true) ∧ (((decide ((if (m = (0 : Nat)) then (1 : Int) else (0 : Int)) = (0 : Int))) = Bool.true) ∧ (((decide ((Proofs.Ytdjnhnfofajpcaa.errM (Proofs.Ytdjnhnfofajpcaa.remN a m) (Proofs.Ytdjnhnfofajpcaa.remN b m) m) = (0 : Int))) = Bool.true) ∧ (((decide ((Proofs.Ytdjnhnfofajpcaa.errM (Proofs.Ytdjnhnfofajpcaa.remN a m) (Proofs.Ytdjnhnfofajpcaa.remN b m) m) = (0 : Int))) = Bool.true) ∧ (((decide ((Proofs.Ytdjnhnfofajpcaa.errM (Proofs.Ytdjnhnfofajpcaa.remN a m) (Proofs.Ytdjnhnfofajpcaa.remN b m) m) = (0 : Int))) = Bool.true) ∧ (((decide ((Proofs.Ytdjnhnfofajpcaa.errM (Proofs.Ytdjnhnfofajpcaa.subM (Proofs.Ytdjnhnfofajpcaa.remN a m) (Proofs.Ytdjnhnfofajpcaa.remN b m) m) (Proofs.Ytdjnhnfofajpcaa.remN b m) m) = (0 : Int))) = Bool.true) ∧ (((decide ((if (m = (0 : Nat)) then (0 : Nat) else (((((a * b) / (115792089237316195423570985008687907853269984665640564039457584007913129639936 : Nat)) * (115792089237316195423570985008687907853269984665640564039457584007913129639936 : Nat)) + ((a * b) % (115792089237316195423570985008687907853269984665640564039457584007913129639936 : Nat))) % m)) = (Proofs.Ytdjnhnfofajpcaa.mulM (Proofs.Ytdjnhnfofajpcaa.remN a m) (Proofs.Ytdjnhnfofajpcaa.remN b m) m))) = Bool.true) ∧ ((decide ((if (m = (0 : Nat)) then (0 : Nat) else (((((a + b) / (115792089237316195423570985008687907853269984665640564039457584007913129639936 : Nat)) * (115792089237316195423570985008687907853269984665640564039457584007913129639936 : Nat)) + ((a + b) % (115792089237316195423570985008687907853269984665640564039457584007913129639936 : Nat))) % m)) = (Proofs.Ytdjnhnfofajpcaa.addM (Proofs.Ytdjnhnfofajpcaa.remN a m) (Proofs.Ytdjnhnfofajpcaa.remN b m) m))) = Bool.true)))))))) ∧ (R (AV.pv (PV.bool (decide ((Proofs.Ytdjnhnfofajpcaa.addM (Proofs.Ytdjnhnfofajpcaa.subM (Proofs.Ytdjnhnfofajpcaa.remN a m) (Proofs.Ytdjnhnfofajpcaa.remN b m) m) (Proofs.Ytdjnhnfofajpcaa.remN b m) m) = (Proofs.Ytdjnhnfofajpcaa.remN a m)))))))))) :
    awp [eOf4, eCmp, eAlive4, eMul, eWide, eAdd, eBelow, eMAdd, eMSub, eMMul] [(98, true), (102, true), (106, true), (110, true), (114, true), (118, true), (122, true), (127, true), (132, true)] [] [] 200 (Try.f22.body.getD .skip) (fnPost Try.f22.results.toList R) (begins [.pv (.words .u64 4 a), .pv (.words .u64 4 b), .pv (.words .u64 4 m)] Try.f22.ntmps) :=
  Eq.mp (by kernel_rfl) (ai (ai tr (ai tr (ai tr (ai t2 tr)))) (ai (ai t2 (ai t2 (ai t2 (ai t2 tr)))) (ai (fun (hk1 : ((decide ((if (m < (1 : Nat)) then (-1 : Int) else (if (m = (1 : Nat)) then (0 : Int) else (1 : Int))) ≤ (0 : Int))) = Bool.true)) => (ai (ai t2 (ai t2 tr)) (h.1 hk1))) (fun (hk2 : ((decide ((if (m < (1 : Nat)) then (-1 : Int) else (if (m = (1 : Nat)) then (0 : Int) else (1 : Int))) ≤ (0 : Int))) = Bool.false)) => (ai (ai t2 (ai t2 (ai t2 (ai t2 (ai t2 (ai t2 (ai tr (ai tr (ai tr t2))))))))) (ai (ai t2 (ai t2 (ai t2 (ai t2 (ai t2 (ai t2 (ai t2 (ai tr (ai tr (ai t2 tr)))))))))) (ai (ai t2 (ai t2 (ai t2 (ai t2 (ai t2 (ai t2 (ai tr (ai tr (ai t2 tr))))))))) (ai (ai t2 (ai t2 (ai t2 (ai t2 (ai t2 (ai t2 (ai t2 (ai t2 (ai tr (ai tr (ai t2 tr))))))))))) (ai (ai t2 (ai t2 (ai t2 (ai t2 (ai t2 (ai t2 (ai t2 (ai t2 (ai t2 (ai t2 (ai t2 (ai tr (ai tr (ai t2 tr)))))))))))))) (ai (ai t2 (ai t2 (ai t2 (ai t2 (ai t2 (ai t2 (ai t2 (ai t2 (ai t2 (ai t2 (ai t2 (ai tr (ai tr (ai t2 tr)))))))))))))) (ai (ai t2 (ai t2 (ai t2 (ai t2 (ai t2 (ai t2 (ai t2 (ai t2 (ai t2 (ai t2 (ai t2 (ai tr (ai tr (ai t2 tr)))))))))))))) (ai (ai t2 (ai t2 (ai t2 (ai t2 (ai t2 (ai t2 (ai t2 (ai t2 (ai t2 (ai tr (ai tr (ai t2 tr)))))))))))) (ai (ai t2 (ai t2 (ai t2 (ai t2 (ai t2 (ai (ai tr (h.2 hk2).1.1) (ai t2 (ai t2 (ai t2 (ai (ai tr (h.2 hk2).1.2.1) (ai t2 (ai t2 (ai t2 (ai (ai tr (h.2 hk2).1.2.2.1) (ai t2 (ai t2 (ai t2 (ai (ai tr (h.2 hk2).1.2.2.2.1) (ai t2 (ai t2 (ai t2 (ai (ai tr (h.2 hk2).1.2.2.2.2.1) (ai t2 (ai t2 (ai t2 (ai (ai tr (h.2 hk2).1.2.2.2.2.2.1) (ai t2 (ai t2 (ai t2 (ai t2 (ai (ai tr (h.2 hk2).1.2.2.2.2.2.2.1) (ai t2 (ai t2 (ai t2 (ai t2 (ai (ai tr (h.2 hk2).1.2.2.2.2.2.2.2) (ai t2 (ai t2 (ai t2 (ai t2 (ai t2 (ai t2 (ai t2 tr))))))))))))))))))))))))))))))))))))))))))) (h.2 hk2).2)))))))))))))


theorem mwhole_law_calls (a : Nat) (ha : WF .u64 4 a) (b : Nat) (hb : WF .u64 4 b) (m : Nat) (hm : WF .u64 4 m) (w : World) :
    Calls PP 22 #[.agg (cells .u64 4 a), .agg (cells .u64 4 b), .agg (cells .u64 4 m)] w fun e w' => e = .returned (.bool true) ∧ Below w.heap.size w w' := by
  refine law_calls (vs := [.agg (cells .u64 4 a), .agg (cells .u64 4 b), .agg (cells .u64 4 m)]) Try.func22 (by kernel_rfl) (TOK.cons eOf4_ok (.cons eCmp_ok (.cons eAlive4_ok (.cons eMul_ok (.cons eWide_ok (.cons eAdd_ok (.cons eBelow_ok (.cons eMAdd_ok (.cons eMSub_ok (.cons eMMul_ok .nil))))))))))
    [.pv (.words .u64 4 a), .pv (.words .u64 4 b), .pv (.words .u64 4 m)] (by rw [Try.ntmps22]; simp) ⟨_, [], [], 200, mwhole_law_p a b m _ ⟨fun _ => rfl, fun h => ?_⟩⟩ (.cons (argV_pv ⟨rfl, ha⟩) (.cons (argV_pv ⟨rfl, hb⟩) (.cons (argV_pv ⟨rfl, hm⟩) .nil)))
  have hm := top_le h
  clear h
  have h0 : ¬ m = 0 := by omega
  have ha := remN_lt (a := a) hm
  have hb := remN_lt (a := b) hm
  rw [if_neg h0, if_neg h0, if_neg h0, Nat.div_add_mod', Nat.div_add_mod']
  refine ⟨⟨decide_eq_true rfl, decide_eq_true rfl, e_ok hm ha hb, e_ok hm ha hb, e_ok hm ha hb, e_ok hm (subM_lt hm) hb, decide_eq_true ?_, decide_eq_true ?_⟩, rw_bool (decide_eq_true (add_subM hm ha hb))⟩
  · rw [mulM_in hm ha hb, remN_eq hm, remN_eq hm, ← Nat.mul_mod]
  · rw [addM_in hm ha hb, remN_eq hm, remN_eq hm, ← Nat.add_mod]

theorem modsWhole_fact0 : (Rows.modsWholeRow.wf (OpenSpec.ofChange Rows.modsWholeSpec)) = true := by kernel_rfl
theorem modsWhole_fact3 : (Try.f22.params.all (Try.prog.readableRec ·)) = true := by kernel_rfl
theorem modsWhole_fact4 : (namedTie Try.prog Rows.modsWholeRow.named Rows.modsWholeSpec.vars) = true := by kernel_rfl
theorem modsWhole_fact5 : ((Rows.modsWholeRow.stops == [])) = true := by kernel_rfl
theorem modsWhole_fact7 : ((Rows.modsWholeRow.knobs == [])) = true := by kernel_rfl
theorem modsWhole_fact9 : ((Rows.modsWholeRow.inPlace == Try.prog.inPlace 22)) = true := by kernel_rfl
theorem modsWhole_fact10 : ((Rows.modsWholeRow.unfollowed == Try.prog.unfollowed 22)) = true := by kernel_rfl
theorem modsWhole_fact11 : ((Rows.modsWholeRow.recurses == Try.prog.recurses 22)) = true := by kernel_rfl
theorem modsWhole_fact12 : ((Rows.modsWholeRow.named == Try.prog.varsNamed 22)) = true := by kernel_rfl
theorem modsWhole_fact13 : ((Rows.modsWholeRow.maps == (Try.f22.params.toList ++ Rows.modsWholeSpec.plain.varTypes Try.prog).any (Try.prog.mapsRec ·))) = true := by kernel_rfl
theorem modsWhole_fact14 : ((Rows.modsWholeRow.ifaces == (Try.f22.params.toList ++ Rows.modsWholeSpec.plain.varTypes Try.prog).any (Try.prog.ifacesRec ·))) = true := by kernel_rfl
theorem modsWhole_fact15 : ((Rows.modsWholeRow.mapsOut == Try.prog.mapsAmong Try.f22.resultTypes.toList)) = true := by kernel_rfl
theorem modsWhole_fact16 : ((Rows.modsWholeRow.loops == (Try.f22.params.toList ++ Rows.modsWholeSpec.plain.varTypes Try.prog).any (Try.prog.loopsFrom ·))) = true := by kernel_rfl
theorem modsWhole_fact17 : ((Rows.modsWholeRow.wideKeys == (Try.f22.params.toList ++ Rows.modsWholeSpec.plain.varTypes Try.prog ++ Try.f22.resultTypes.toList).any (Try.prog.wideKeysFrom ·))) = true := by kernel_rfl
theorem modsWhole_fact18 : (Rows.modsWholeSpec.vars.all (Try.prog.varReadable ·)) = true := by kernel_rfl
theorem modsWhole_fact19 : (Try.f22.resultTypes.all (fun t => Try.prog.readableRec t && decide (t < Try.prog.types.size))) = true := by kernel_rfl
theorem modsWhole_fact20 : ((Rows.modsWholeRow.ifacesOut == Try.f22.resultTypes.toList.any (Try.prog.ifacesRec ·))) = true := by kernel_rfl
theorem modsWhole_fact21 : ((Rows.modsWholeRow.loopsOut == Try.f22.resultTypes.toList.any (Try.prog.loopsFrom ·))) = true := by kernel_rfl
theorem modsWhole_fact22 : ((Rows.modsWholeRow.plainKeys == Try.prog.plainKeys)) = true := by kernel_rfl
theorem modsWhole_fact23 : (Rows.modsWholeRow.shortTexts.isNone) = true := by kernel_rfl
theorem modsWhole_fact26 : ((Rows.modsWholeRow.lifted == Try.prog.liftsFinal)) = true := by rw [final_ok _ _ io_words]; rfl
theorem modsWhole_fact27 : ((Try.prog.make == some Rows.modsWholeRow.make)) = true := by rw [make_ok _ _ io_words]; rfl
theorem modsWhole_fact29 : ((Rows.modsWholeRow.pinned == Rows.modsWholeRow.pinnedBy)) = true := by kernel_rfl
theorem modsWhole_fact30 : ((Rows.modsWholeRow.veiled == (Try.f22.params.toList ++ Rows.modsWholeSpec.plain.varTypes Try.prog ++ Try.f22.resultTypes.toList).any (Try.prog.veiledRec ·))) = true := by kernel_rfl
theorem modsWhole_fact31 : (Rows.modsWholeRow.veiledFits Try.prog Try.f22.params.toList (Try.f22.params.toList ++ Rows.modsWholeSpec.plain.varTypes Try.prog ++ Try.f22.resultTypes.toList)) = true := by kernel_rfl
theorem modsWhole_facts : joinedFacts Try.prog 22 Try.f22 Rows.modsWholeSpec Rows.modsWholeRow = true := by
  unfold joinedFacts
  exact (and_t (and_t (and_t (and_t (and_t (and_t (and_t (and_t (and_t (and_t (and_t (and_t (and_t (and_t (and_t (and_t (and_t (and_t (and_t (and_t (and_t (and_t (and_t (and_t (and_t (and_t (and_t (and_t (and_t (and_t (and_t modsWhole_fact0 pfact1) pfact2) modsWhole_fact3) modsWhole_fact4) modsWhole_fact5) pfact6) modsWhole_fact7) pfact8) modsWhole_fact9) modsWhole_fact10) modsWhole_fact11) modsWhole_fact12) modsWhole_fact13) modsWhole_fact14) modsWhole_fact15) modsWhole_fact16) modsWhole_fact17) modsWhole_fact18) modsWhole_fact19) modsWhole_fact20) modsWhole_fact21) modsWhole_fact22) modsWhole_fact23) pfact24) pfact25) modsWhole_fact26) modsWhole_fact27) (kinds_ok rfl rfl)) modsWhole_fact29) modsWhole_fact30) modsWhole_fact31)

set_option maxRecDepth 100000 in
theorem modsWhole_lifted (os : Os) (started : os.Started) (H : Type) (enc : TypeId × Value → H) :
    ReturnsInHanded {} Try.checked os 22 .any (Rows.modsWholeSpec.pre6 enc Try.prog Try.f22 Rows.modsWholeRow.domain false) (Rows.modsWholeSpec.post enc Try.prog Try.f22 false true false false) := by
  refine returnsInHanded_of_change (C := Try.checked) Try.own started (by kernel_rfl) Try.func22
    (ChangeSpec.witness6 (enc := enc) (C := Try.checked) false ⟨#[], #[.agg (cells .u64 4 0), .agg (cells .u64 4 0), .agg (cells .u64 4 0)], []⟩ 8 (by kernel_rfl) (by kernel_rfl) (by kernel_rfl) (by kernel_rfl)) ?_
  intro W base args ds gs before hval0 hW hcnd _
  have hval : ∀ (j : Nat) t v, Try.f22.params[j]? = some t → args[j]? = some v → Value.okWide Try.prog W .any base t v := hval0
  have hW' := hW
  obtain ⟨p, q, hA0, hV, rfl, hfz, hnd⟩ := hW
  have hA : DataW.TrodAll enc Try.prog W 0 (fun _ => true) true Try.f22.params.toList args.toList ds p := hA0
  rw [Try.params22] at hA hval
  have hAA := hA
  obtain ⟨v0, vs0, d0, ds0, p0, q0, hargs, rfl, rfl, h0, r0⟩ := trodAll_cons hA
  obtain ⟨v1, vs1, d1, ds1, p1, q1, rfl, rfl, rfl, h1, r1⟩ := trodAll_cons r0
  obtain ⟨v2, vs2, d2, ds2, p2, q2, rfl, rfl, rfl, h2, r2⟩ := trodAll_cons r1
  obtain ⟨rfl, rfl, rfl⟩ := trodAll_nil r2
  obtain rfl : args = #[v0, v1, v2] := by cases args; simp_all
  obtain ⟨rfl, rfl⟩ := trodVars_none hV
  obtain ⟨x0, rfl, w0, rfl⟩ := open24 (hval 0 24 v0 rfl rfl) h0
  obtain ⟨x1, rfl, w1, rfl⟩ := open24 (hval 1 24 v1 rfl rfl) h1
  obtain ⟨x2, rfl, w2, rfl⟩ := open24 (hval 2 24 v2 rfl rfl) h2
  refine (mwhole_law_calls x0 w0 x1 w1 x2 w2 W).mono fun e W' ⟨he, hb⟩ => ?_
  subst he
  exact ⟨_, rfl, post_true hW' Try.laidOut u4 hAA (by decide +kernel) (by kernel_rfl) rfl rfl hb⟩

theorem modsWhole_holds : Rows.ModsWholeSaid :=
  OpenClaim.holds_of_wide 22 Try.f22 rfl rfl rfl rfl rfl rfl rfl ⟨rfl, rfl, rfl, rfl, rfl⟩ rfl rfl rfl rfl rfl (by kernel_rfl) Try.func22 modsWhole_facts
    (of_decide_eq_true (by kernel_rfl)) (by unfold Func.isWrapper; first | (rw [if_pos (by decide +kernel)]; kernel_rfl) | (rw [if_neg (by decide +kernel)]; exact ⟨rfl, rfl⟩))
    (fun os started H enc _ => modsWhole_lifted os started H enc)
#print axioms modsWhole_holds

end Go.Proofs.Ytdjnhnfofajpcaa
