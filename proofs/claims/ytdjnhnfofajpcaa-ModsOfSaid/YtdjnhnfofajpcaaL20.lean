/- The law ModsOf, out of the evaluator. -/
import Derived.Test.YtdjnhnfofajpcaaNa
import Derived.Test.YtdjnhnfofajpcaaR1
namespace Go.Proofs.Ytdjnhnfofajpcaa
open Go Go.Proofs Go.ChangeShapes Go.WideShapes Go.ChangeAt Go.RowKit Av

theorem mof_law_p (a b m : Nat) (R : AV → Prop) (h : ((((decide ((Proofs.Ytdjnhnfofajpcaa.addM a b m) = (Proofs.Ytdjnhnfofajpcaa.addM a b m))) = Bool.true) ∧ (((decide ((Proofs.Ytdjnhnfofajpcaa.subM a b m) = (Proofs.Ytdjnhnfofajpcaa.subM a b m))) = Bool.true) ∧ (((decide ((Proofs.Ytdjnhnfofajpcaa.mulM a b m) = (Proofs.Ytdjnhnfofajpcaa.mulM a b m))) = Bool.true) ∧ (((decide ((Proofs.Ytdjnhnfofajpcaa.expM a b m) = (Proofs.Ytdjnhnfofajpcaa.expM a b m))) = Bool.true) ∧ (((decide ((Proofs.Ytdjnhnfofajpcaa.invM a m) = (Proofs.Ytdjnhnfofajpcaa.invM a m))) = Bool.true) ∧ (((decide ((Proofs.Ytdjnhnfofajpcaa.errM a b m) = (Proofs.Ytdjnhnfofajpcaa.errM a b m))) = Bool.true) ∧ (((decide ((Proofs.Ytdjnhnfofajpcaa.errM a b m) = (Proofs.Ytdjnhnfofajpcaa.errM a b m))) = Bool.true) ∧ (((decide ((Proofs.Ytdjnhnfofajpcaa.errM a b m) = (Proofs.Ytdjnhnfofajpcaa.errM a b m))) = Bool.true) ∧ ((decide ((Proofs.Ytdjnhnfofajpcaa.errM a a m) = (Proofs.Ytdjnhnfofajpcaa.errM a a m))) = Bool.true))))))))) ∧ (R (AV.pv (PV.bool (decide ((Proofs.Ytdjnhnfofajpcaa.errI a m) = (Proofs.Ytdjnhnfofajpcaa.errI a m)))))))) :
    awp [eMAdd, eMSub, eMMul, eMExp, eMInv, eRMAdd, eRMSub, eRMMul, eRMExp, eRMInv] [(98, true), (103, true), (108, true), (113, true), (118, true), (123, true), (128, true), (133, true), (138, true)] [] [] 200 (Try.f20.body.getD .skip) (fnPost Try.f20.results.toList R) (begins [.pv (.words .u64 4 a), .pv (.words .u64 4 b), .pv (.words .u64 4 m)] Try.f20.ntmps) :=
  Eq.mp (by kernel_rfl) (ai (ai tr (ai tr (ai tr (ai t2 tr)))) (ai (ai t2 (ai t2 (ai t2 (ai t2 (ai t2 (ai t2 (ai t2 (ai tr (ai tr (ai t2 tr)))))))))) (ai (ai t2 (ai t2 (ai t2 (ai t2 (ai t2 (ai t2 (ai t2 (ai tr (ai tr (ai t2 tr)))))))))) (ai (ai t2 (ai t2 (ai t2 (ai t2 (ai t2 (ai t2 (ai t2 (ai tr (ai tr (ai t2 tr)))))))))) (ai (ai t2 (ai t2 (ai t2 (ai t2 (ai t2 (ai t2 (ai t2 (ai tr (ai tr (ai t2 tr)))))))))) (ai (ai t2 (ai t2 (ai t2 (ai t2 (ai t2 (ai t2 (ai tr (ai tr (ai t2 tr))))))))) (ai (ai t2 (ai t2 (ai t2 (ai t2 (ai t2 (ai t2 (ai t2 (ai tr (ai tr (ai t2 tr)))))))))) (ai (ai t2 (ai t2 (ai t2 (ai t2 (ai t2 (ai t2 (ai t2 (ai tr (ai tr (ai t2 tr)))))))))) (ai (ai t2 (ai t2 (ai t2 (ai t2 (ai t2 (ai t2 (ai t2 (ai tr (ai tr (ai t2 tr)))))))))) (ai (ai t2 (ai t2 (ai t2 (ai t2 (ai t2 (ai t2 (ai t2 (ai tr (ai tr (ai t2 tr)))))))))) (ai (ai t2 (ai t2 (ai t2 (ai t2 (ai t2 (ai t2 (ai tr (ai tr (ai t2 tr))))))))) (ai (ai t2 (ai t2 (ai t2 (ai (ai tr h.1.1) (ai t2 (ai t2 (ai t2 (ai t2 (ai (ai tr h.1.2.1) (ai t2 (ai t2 (ai t2 (ai t2 (ai (ai tr h.1.2.2.1) (ai t2 (ai t2 (ai t2 (ai t2 (ai (ai tr h.1.2.2.2.1) (ai t2 (ai t2 (ai t2 (ai t2 (ai (ai tr h.1.2.2.2.2.1) (ai t2 (ai t2 (ai t2 (ai t2 (ai (ai tr h.1.2.2.2.2.2.1) (ai t2 (ai t2 (ai t2 (ai t2 (ai (ai tr h.1.2.2.2.2.2.2.1) (ai t2 (ai t2 (ai t2 (ai t2 (ai (ai tr h.1.2.2.2.2.2.2.2.1) (ai t2 (ai t2 (ai t2 (ai t2 (ai (ai tr h.1.2.2.2.2.2.2.2.2) (ai t2 (ai t2 (ai t2 (ai t2 (ai t2 tr))))))))))))))))))))))))))))))))))))))))))))))))) h.2))))))))))))


theorem mof_law_calls (a : Nat) (ha : WF .u64 4 a) (b : Nat) (hb : WF .u64 4 b) (m : Nat) (hm : WF .u64 4 m) (w : World) :
    Calls PP 20 #[.agg (cells .u64 4 a), .agg (cells .u64 4 b), .agg (cells .u64 4 m)] w fun e w' => e = .returned (.bool true) ∧ Below w.heap.size w w' :=
  law_calls (vs := [.agg (cells .u64 4 a), .agg (cells .u64 4 b), .agg (cells .u64 4 m)]) Try.func20 (by kernel_rfl) (TOK.cons eMAdd_ok (.cons eMSub_ok (.cons eMMul_ok (.cons eMExp_ok (.cons eMInv_ok (.cons eRMAdd_ok (.cons eRMSub_ok (.cons eRMMul_ok (.cons eRMExp_ok (.cons eRMInv_ok .nil))))))))))
    [.pv (.words .u64 4 a), .pv (.words .u64 4 b), .pv (.words .u64 4 m)] (by rw [Try.ntmps20]; simp) ⟨_, [], [], 200, mof_law_p a b m _ ⟨⟨decide_eq_true rfl, decide_eq_true rfl, decide_eq_true rfl, decide_eq_true rfl, decide_eq_true rfl, decide_eq_true rfl, decide_eq_true rfl, decide_eq_true rfl, decide_eq_true rfl⟩, rw_bool (decide_eq_true rfl)⟩⟩ (.cons (argV_pv ⟨rfl, ha⟩) (.cons (argV_pv ⟨rfl, hb⟩) (.cons (argV_pv ⟨rfl, hm⟩) .nil)))

theorem modsOf_fact0 : (Rows.modsOfRow.wf (OpenSpec.ofChange Rows.modsOfSpec)) = true := by kernel_rfl
theorem modsOf_fact3 : (Try.f20.params.all (Try.prog.readableRec ·)) = true := by kernel_rfl
theorem modsOf_fact4 : (namedTie Try.prog Rows.modsOfRow.named Rows.modsOfSpec.vars) = true := by kernel_rfl
theorem modsOf_fact5 : ((Rows.modsOfRow.stops == [])) = true := by kernel_rfl
theorem modsOf_fact7 : ((Rows.modsOfRow.knobs == [])) = true := by kernel_rfl
theorem modsOf_fact9 : ((Rows.modsOfRow.inPlace == Try.prog.inPlace 20)) = true := by kernel_rfl
theorem modsOf_fact10 : ((Rows.modsOfRow.unfollowed == Try.prog.unfollowed 20)) = true := by kernel_rfl
theorem modsOf_fact11 : ((Rows.modsOfRow.recurses == Try.prog.recurses 20)) = true := by kernel_rfl
theorem modsOf_fact12 : ((Rows.modsOfRow.named == Try.prog.varsNamed 20)) = true := by kernel_rfl
theorem modsOf_fact13 : ((Rows.modsOfRow.maps == (Try.f20.params.toList ++ Rows.modsOfSpec.plain.varTypes Try.prog).any (Try.prog.mapsRec ·))) = true := by kernel_rfl
theorem modsOf_fact14 : ((Rows.modsOfRow.ifaces == (Try.f20.params.toList ++ Rows.modsOfSpec.plain.varTypes Try.prog).any (Try.prog.ifacesRec ·))) = true := by kernel_rfl
theorem modsOf_fact15 : ((Rows.modsOfRow.mapsOut == Try.prog.mapsAmong Try.f20.resultTypes.toList)) = true := by kernel_rfl
theorem modsOf_fact16 : ((Rows.modsOfRow.loops == (Try.f20.params.toList ++ Rows.modsOfSpec.plain.varTypes Try.prog).any (Try.prog.loopsFrom ·))) = true := by kernel_rfl
theorem modsOf_fact17 : ((Rows.modsOfRow.wideKeys == (Try.f20.params.toList ++ Rows.modsOfSpec.plain.varTypes Try.prog ++ Try.f20.resultTypes.toList).any (Try.prog.wideKeysFrom ·))) = true := by kernel_rfl
theorem modsOf_fact18 : (Rows.modsOfSpec.vars.all (Try.prog.varReadable ·)) = true := by kernel_rfl
theorem modsOf_fact19 : (Try.f20.resultTypes.all (fun t => Try.prog.readableRec t && decide (t < Try.prog.types.size))) = true := by kernel_rfl
theorem modsOf_fact20 : ((Rows.modsOfRow.ifacesOut == Try.f20.resultTypes.toList.any (Try.prog.ifacesRec ·))) = true := by kernel_rfl
theorem modsOf_fact21 : ((Rows.modsOfRow.loopsOut == Try.f20.resultTypes.toList.any (Try.prog.loopsFrom ·))) = true := by kernel_rfl
theorem modsOf_fact22 : ((Rows.modsOfRow.plainKeys == Try.prog.plainKeys)) = true := by kernel_rfl
theorem modsOf_fact23 : (Rows.modsOfRow.shortTexts.isNone) = true := by kernel_rfl
theorem modsOf_fact26 : ((Rows.modsOfRow.lifted == Try.prog.liftsFinal)) = true := by rw [final_ok _ _ io_words]; rfl
theorem modsOf_fact27 : ((Try.prog.make == some Rows.modsOfRow.make)) = true := by rw [make_ok _ _ io_words]; rfl
theorem modsOf_fact29 : ((Rows.modsOfRow.pinned == Rows.modsOfRow.pinnedBy)) = true := by kernel_rfl
theorem modsOf_fact30 : ((Rows.modsOfRow.veiled == (Try.f20.params.toList ++ Rows.modsOfSpec.plain.varTypes Try.prog ++ Try.f20.resultTypes.toList).any (Try.prog.veiledRec ·))) = true := by kernel_rfl
theorem modsOf_fact31 : (Rows.modsOfRow.veiledFits Try.prog Try.f20.params.toList (Try.f20.params.toList ++ Rows.modsOfSpec.plain.varTypes Try.prog ++ Try.f20.resultTypes.toList)) = true := by kernel_rfl
theorem modsOf_facts : joinedFacts Try.prog 20 Try.f20 Rows.modsOfSpec Rows.modsOfRow = true := by
  unfold joinedFacts
  exact (and_t (and_t (and_t (and_t (and_t (and_t (and_t (and_t (and_t (and_t (and_t (and_t (and_t (and_t (and_t (and_t (and_t (and_t (and_t (and_t (and_t (and_t (and_t (and_t (and_t (and_t (and_t (and_t (and_t (and_t (and_t modsOf_fact0 pfact1) pfact2) modsOf_fact3) modsOf_fact4) modsOf_fact5) pfact6) modsOf_fact7) pfact8) modsOf_fact9) modsOf_fact10) modsOf_fact11) modsOf_fact12) modsOf_fact13) modsOf_fact14) modsOf_fact15) modsOf_fact16) modsOf_fact17) modsOf_fact18) modsOf_fact19) modsOf_fact20) modsOf_fact21) modsOf_fact22) modsOf_fact23) pfact24) pfact25) modsOf_fact26) modsOf_fact27) (kinds_ok rfl rfl)) modsOf_fact29) modsOf_fact30) modsOf_fact31)

set_option maxRecDepth 100000 in
theorem modsOf_lifted (os : Os) (started : os.Started) (H : Type) (enc : TypeId × Value → H) :
    ReturnsInHanded {} Try.checked os 20 .any (Rows.modsOfSpec.pre6 enc Try.prog Try.f20 Rows.modsOfRow.domain false) (Rows.modsOfSpec.post enc Try.prog Try.f20 false true false false) := by
  refine returnsInHanded_of_change (C := Try.checked) Try.own started (by kernel_rfl) Try.func20
    (ChangeSpec.witness6 (enc := enc) (C := Try.checked) false ⟨#[], #[.agg (cells .u64 4 0), .agg (cells .u64 4 0), .agg (cells .u64 4 0)], []⟩ 8 (by kernel_rfl) (by kernel_rfl) (by kernel_rfl) (by kernel_rfl)) ?_
  intro W base args ds gs before hval0 hW hcnd _
  have hval : ∀ (j : Nat) t v, Try.f20.params[j]? = some t → args[j]? = some v → Value.okWide Try.prog W .any base t v := hval0
  have hW' := hW
  obtain ⟨p, q, hA0, hV, rfl, hfz, hnd⟩ := hW
  have hA : DataW.TrodAll enc Try.prog W 0 (fun _ => true) true Try.f20.params.toList args.toList ds p := hA0
  rw [Try.params20] at hA hval
  have hAA := hA
  obtain ⟨v0, vs0, d0, ds0, p0, q0, hargs, rfl, rfl, h0, r0⟩ := trodAll_cons hA
  obtain ⟨v1, vs1, d1, ds1, p1, q1, rfl, rfl, rfl, h1, r1⟩ := trodAll_cons r0
  obtain ⟨v2, vs2, d2, ds2, p2, q2, rfl, rfl, rfl, h2, r2⟩ := trodAll_cons r1
  obtain ⟨rfl, rfl, rfl⟩ := trodAll_nil r2
  obtain rfl : args = #[v0, v1, v2] := by cases args; simp_all
  obtain ⟨rfl, rfl⟩ := trodVars_none hV
  obtain ⟨x0, rfl, w0, rfl⟩ := open24 (hval 0 24 v0 rfl rfl) h0
  obtain ⟨x1, rfl, w1, rfl⟩ := open24 (hval 1 24 v1 rfl rfl) h1
  obtain ⟨x2, rfl, w2, rfl⟩ := open24 (hval 2 24 v2 rfl rfl) h2
  refine (mof_law_calls x0 w0 x1 w1 x2 w2 W).mono fun e W' ⟨he, hb⟩ => ?_
  subst he
  exact ⟨_, rfl, post_true hW' Try.laidOut u4 hAA (by decide +kernel) (by kernel_rfl) rfl rfl hb⟩

theorem modsOf_holds : Rows.ModsOfSaid :=
  OpenClaim.holds_of_wide 20 Try.f20 rfl rfl rfl rfl rfl rfl rfl ⟨rfl, rfl, rfl, rfl, rfl⟩ rfl rfl rfl rfl rfl (by kernel_rfl) Try.func20 modsOf_facts
    (of_decide_eq_true (by kernel_rfl)) (by unfold Func.isWrapper; first | (rw [if_pos (by decide +kernel)]; kernel_rfl) | (rw [if_neg (by decide +kernel)]; exact ⟨rfl, rfl⟩))
    (fun os started H enc _ => modsOf_lifted os started H enc)
#print axioms modsOf_holds

end Go.Proofs.Ytdjnhnfofajpcaa
