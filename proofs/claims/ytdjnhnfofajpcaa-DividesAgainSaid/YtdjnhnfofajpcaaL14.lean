/- The law DividesAgain, out of the evaluator. -/
import Derived.Test.YtdjnhnfofajpcaaFd
import Derived.Test.YtdjnhnfofajpcaaR1
namespace Go.Proofs.Ytdjnhnfofajpcaa
open Go Go.Proofs Go.ChangeShapes Go.WideShapes Go.ChangeAt Go.RowKit Av

theorem again_p (a b m : Nat) (R : AV → Prop) (h : ((((decide (m = (0 : Nat))) = Bool.true) → (R (AV.pv (PV.blit Bool.true)))) ∧ (((decide (m = (0 : Nat))) = Bool.false) → ((((decide ((if (m = (0 : Nat)) then (1 : Int) else (0 : Int)) = (0 : Int))) = Bool.true) ∧ (((decide ((if (m = (0 : Nat)) then (1 : Int) else (0 : Int)) = (0 : Int))) = Bool.true) ∧ (((decide ((if (m = (0 : Nat)) then (1 : Int) else (0 : Int)) = (0 : Int))) = Bool.true) ∧ (((decide ((if (m = (0 : Nat)) then (1 : Int) else (0 : Int)) = (0 : Int))) = Bool.true) ∧ (((decide ((if (m = (0 : Nat)) then (1 : Int) else (0 : Int)) = (0 : Int))) = Bool.true) ∧ (((decide ((if (m = (0 : Nat)) then (0 : Nat) else (((b * (115792089237316195423570985008687907853269984665640564039457584007913129639936 : Nat)) + a) % m)) = (if (m = (0 : Nat)) then (0 : Nat) else ((((if (m = (0 : Nat)) then (0 : Nat) else (b % m)) * (115792089237316195423570985008687907853269984665640564039457584007913129639936 : Nat)) + a) % m)))) = Bool.true) ∧ ((decide ((if (m = (0 : Nat)) then (0 : Nat) else (((b * (115792089237316195423570985008687907853269984665640564039457584007913129639936 : Nat)) + a) % m)) = (if (m = (0 : Nat)) then (0 : Nat) else ((((if (m = (0 : Nat)) then (0 : Nat) else (b % m)) * (115792089237316195423570985008687907853269984665640564039457584007913129639936 : Nat)) + (if (m = (0 : Nat)) then (0 : Nat) else (a % m))) % m)))) = Bool.true))))))) ∧ (R (AV.pv (PV.bool (decide ((if ((if (m = (0 : Nat)) then (0 : Nat) else (((b * (115792089237316195423570985008687907853269984665640564039457584007913129639936 : Nat)) + a) % m)) < m) then (-1 : Int) else (if ((if (m = (0 : Nat)) then (0 : Nat) else (((b * (115792089237316195423570985008687907853269984665640564039457584007913129639936 : Nat)) + a) % m)) = m) then (0 : Int) else (1 : Int))) < (0 : Int)))))))))) :
    awp [eAlive3, eOf3, eCommon, eDiv, eWide, eCmp] [(63, true), (67, true), (71, true), (75, true), (79, true), (84, true), (89, true)] [] [] 200 (Try.f14.body.getD .skip) (fnPost Try.f14.results.toList R) (begins [.pv (.words .u64 4 a), .pv (.words .u64 4 b), .pv (.words .u64 4 m)] Try.f14.ntmps) :=
  Eq.mp (by kernel_rfl) (ai (ai tr (ai tr (ai tr (ai t2 tr)))) (ai (ai t2 (ai t2 (ai t2 tr))) (ai (fun (hk1 : ((decide (m = (0 : Nat))) = Bool.true)) => (ai (ai t2 (ai t2 tr)) (h.1 hk1))) (fun (hk2 : ((decide (m = (0 : Nat))) = Bool.false)) => (ai (ai t2 (ai t2 (ai t2 (ai t2 (ai t2 (ai t2 (ai t2 (ai tr (ai tr (ai t2 tr)))))))))) (ai (ai t2 (ai t2 (ai t2 (ai t2 (ai t2 (ai t2 (ai t2 (ai tr (ai tr (ai tr (ai tr (ai t2 tr)))))))))))) (ai (ai t2 (ai t2 (ai t2 (ai t2 (ai t2 (ai t2 (ai t2 (ai tr (ai tr (ai t2 tr)))))))))) (ai (ai t2 (ai t2 (ai t2 (ai t2 (ai t2 (ai t2 (ai t2 (ai tr (ai tr (ai tr (ai tr (ai t2 tr)))))))))))) (ai (ai t2 (ai t2 (ai t2 (ai t2 (ai t2 (ai t2 (ai t2 (ai tr (ai tr (ai t2 tr)))))))))) (ai (ai t2 (ai t2 (ai t2 (ai t2 (ai t2 (ai (ai tr (h.2 hk2).1.1) (ai t2 (ai t2 (ai t2 (ai (ai tr (h.2 hk2).1.2.1) (ai t2 (ai t2 (ai t2 (ai (ai tr (h.2 hk2).1.2.2.1) (ai t2 (ai t2 (ai t2 (ai (ai tr (h.2 hk2).1.2.2.2.1) (ai t2 (ai t2 (ai t2 (ai (ai tr (h.2 hk2).1.2.2.2.2.1) (ai t2 (ai t2 (ai t2 (ai t2 (ai (ai tr (h.2 hk2).1.2.2.2.2.2.1) (ai t2 (ai t2 (ai t2 (ai t2 (ai (ai tr (h.2 hk2).1.2.2.2.2.2.2) (ai t2 (ai t2 (ai t2 (ai t2 (ai t2 (ai t2 tr)))))))))))))))))))))))))))))))))))))) (h.2 hk2).2))))))))))


theorem cmp_lt {x m : Nat} (h : x < m) : decide ((if x < m then (-1 : Int) else if x = m then 0 else 1) < 0) = true := by rw [if_pos h]; decide
theorem again_calls (a : Nat) (ha : WF .u64 4 a) (b : Nat) (hb : WF .u64 4 b) (m : Nat) (hm : WF .u64 4 m) (w : World) :
    Calls PP 14 #[.agg (cells .u64 4 a), .agg (cells .u64 4 b), .agg (cells .u64 4 m)] w fun e w' => e = .returned (.bool true) ∧ Below w.heap.size w w' := by
  refine law_calls (vs := [.agg (cells .u64 4 a), .agg (cells .u64 4 b), .agg (cells .u64 4 m)]) Try.func14 (by kernel_rfl) (TOK.cons eAlive3_ok (.cons eOf3_ok (.cons eCommon_ok (.cons eDiv_ok (.cons eWide_ok (.cons eCmp_ok .nil))))))
    [.pv (.words .u64 4 a), .pv (.words .u64 4 b), .pv (.words .u64 4 m)] (by rw [Try.ntmps14]; simp) ⟨_, [], [], 200, again_p a b m _ ⟨fun _ => rfl, fun h => ?_⟩⟩ (.cons (argV_pv ⟨rfl, ha⟩) (.cons (argV_pv ⟨rfl, hb⟩) (.cons (argV_pv ⟨rfl, hm⟩) .nil)))
  have h0 := of_decide_eq_false h
  simp only [if_neg h0]
  refine ⟨⟨by decide, by decide, by decide, by decide, by decide, decide_eq_true ?_, decide_eq_true ?_⟩, rw_bool (cmp_lt (Nat.mod_lt _ (by omega)))⟩
  · exact place_mod b _ a m
  · rw [Nat.add_mod_mod]; exact place_mod b _ a m

theorem dividesAgain_fact0 : (Rows.dividesAgainRow.wf (OpenSpec.ofChange Rows.dividesAgainSpec)) = true := by kernel_rfl
theorem dividesAgain_fact3 : (Try.f14.params.all (Try.prog.readableRec ·)) = true := by kernel_rfl
theorem dividesAgain_fact4 : (namedTie Try.prog Rows.dividesAgainRow.named Rows.dividesAgainSpec.vars) = true := by kernel_rfl
theorem dividesAgain_fact5 : ((Rows.dividesAgainRow.stops == [])) = true := by kernel_rfl
theorem dividesAgain_fact7 : ((Rows.dividesAgainRow.knobs == [])) = true := by kernel_rfl
theorem dividesAgain_fact9 : ((Rows.dividesAgainRow.inPlace == Try.prog.inPlace 14)) = true := by kernel_rfl
theorem dividesAgain_fact10 : ((Rows.dividesAgainRow.unfollowed == Try.prog.unfollowed 14)) = true := by kernel_rfl
theorem dividesAgain_fact11 : ((Rows.dividesAgainRow.recurses == Try.prog.recurses 14)) = true := by kernel_rfl
theorem dividesAgain_fact12 : ((Rows.dividesAgainRow.named == Try.prog.varsNamed 14)) = true := by kernel_rfl
theorem dividesAgain_fact13 : ((Rows.dividesAgainRow.maps == (Try.f14.params.toList ++ Rows.dividesAgainSpec.plain.varTypes Try.prog).any (Try.prog.mapsRec ·))) = true := by kernel_rfl
theorem dividesAgain_fact14 : ((Rows.dividesAgainRow.ifaces == (Try.f14.params.toList ++ Rows.dividesAgainSpec.plain.varTypes Try.prog).any (Try.prog.ifacesRec ·))) = true := by kernel_rfl
theorem dividesAgain_fact15 : ((Rows.dividesAgainRow.mapsOut == Try.prog.mapsAmong Try.f14.resultTypes.toList)) = true := by kernel_rfl
theorem dividesAgain_fact16 : ((Rows.dividesAgainRow.loops == (Try.f14.params.toList ++ Rows.dividesAgainSpec.plain.varTypes Try.prog).any (Try.prog.loopsFrom ·))) = true := by kernel_rfl
theorem dividesAgain_fact17 : ((Rows.dividesAgainRow.wideKeys == (Try.f14.params.toList ++ Rows.dividesAgainSpec.plain.varTypes Try.prog ++ Try.f14.resultTypes.toList).any (Try.prog.wideKeysFrom ·))) = true := by kernel_rfl
theorem dividesAgain_fact18 : (Rows.dividesAgainSpec.vars.all (Try.prog.varReadable ·)) = true := by kernel_rfl
theorem dividesAgain_fact19 : (Try.f14.resultTypes.all (fun t => Try.prog.readableRec t && decide (t < Try.prog.types.size))) = true := by kernel_rfl
theorem dividesAgain_fact20 : ((Rows.dividesAgainRow.ifacesOut == Try.f14.resultTypes.toList.any (Try.prog.ifacesRec ·))) = true := by kernel_rfl
theorem dividesAgain_fact21 : ((Rows.dividesAgainRow.loopsOut == Try.f14.resultTypes.toList.any (Try.prog.loopsFrom ·))) = true := by kernel_rfl
theorem dividesAgain_fact22 : ((Rows.dividesAgainRow.plainKeys == Try.prog.plainKeys)) = true := by kernel_rfl
theorem dividesAgain_fact23 : (Rows.dividesAgainRow.shortTexts.isNone) = true := by kernel_rfl
theorem dividesAgain_fact26 : ((Rows.dividesAgainRow.lifted == Try.prog.liftsFinal)) = true := by rw [final_ok _ _ io_words]; rfl
theorem dividesAgain_fact27 : ((Try.prog.make == some Rows.dividesAgainRow.make)) = true := by rw [make_ok _ _ io_words]; rfl
theorem dividesAgain_fact29 : ((Rows.dividesAgainRow.pinned == Rows.dividesAgainRow.pinnedBy)) = true := by kernel_rfl
theorem dividesAgain_fact30 : ((Rows.dividesAgainRow.veiled == (Try.f14.params.toList ++ Rows.dividesAgainSpec.plain.varTypes Try.prog ++ Try.f14.resultTypes.toList).any (Try.prog.veiledRec ·))) = true := by kernel_rfl
theorem dividesAgain_fact31 : (Rows.dividesAgainRow.veiledFits Try.prog Try.f14.params.toList (Try.f14.params.toList ++ Rows.dividesAgainSpec.plain.varTypes Try.prog ++ Try.f14.resultTypes.toList)) = true := by kernel_rfl
theorem dividesAgain_facts : joinedFacts Try.prog 14 Try.f14 Rows.dividesAgainSpec Rows.dividesAgainRow = true := by
  unfold joinedFacts
  exact (and_t (and_t (and_t (and_t (and_t (and_t (and_t (and_t (and_t (and_t (and_t (and_t (and_t (and_t (and_t (and_t (and_t (and_t (and_t (and_t (and_t (and_t (and_t (and_t (and_t (and_t (and_t (and_t (and_t (and_t (and_t dividesAgain_fact0 pfact1) pfact2) dividesAgain_fact3) dividesAgain_fact4) dividesAgain_fact5) pfact6) dividesAgain_fact7) pfact8) dividesAgain_fact9) dividesAgain_fact10) dividesAgain_fact11) dividesAgain_fact12) dividesAgain_fact13) dividesAgain_fact14) dividesAgain_fact15) dividesAgain_fact16) dividesAgain_fact17) dividesAgain_fact18) dividesAgain_fact19) dividesAgain_fact20) dividesAgain_fact21) dividesAgain_fact22) dividesAgain_fact23) pfact24) pfact25) dividesAgain_fact26) dividesAgain_fact27) (kinds_ok rfl rfl)) dividesAgain_fact29) dividesAgain_fact30) dividesAgain_fact31)

set_option maxRecDepth 100000 in
theorem dividesAgain_lifted (os : Os) (started : os.Started) (H : Type) (enc : TypeId × Value → H) :
    ReturnsInHanded {} Try.checked os 14 .any (Rows.dividesAgainSpec.pre6 enc Try.prog Try.f14 Rows.dividesAgainRow.domain false) (Rows.dividesAgainSpec.post enc Try.prog Try.f14 false true false false) := by
  refine returnsInHanded_of_change (C := Try.checked) Try.own started (by kernel_rfl) Try.func14
    (ChangeSpec.witness6 (enc := enc) (C := Try.checked) false ⟨#[], #[.agg (cells .u64 4 0), .agg (cells .u64 4 0), .agg (cells .u64 4 0)], []⟩ 8 (by kernel_rfl) (by kernel_rfl) (by kernel_rfl) (by kernel_rfl)) ?_
  intro W base args ds gs before hval0 hW hcnd _
  have hval : ∀ (j : Nat) t v, Try.f14.params[j]? = some t → args[j]? = some v → Value.okWide Try.prog W .any base t v := hval0
  have hW' := hW
  obtain ⟨p, q, hA0, hV, rfl, hfz, hnd⟩ := hW
  have hA : DataW.TrodAll enc Try.prog W 0 (fun _ => true) true Try.f14.params.toList args.toList ds p := hA0
  rw [Try.params14] at hA hval
  have hAA := hA
  obtain ⟨v0, vs0, d0, ds0, p0, q0, hargs, rfl, rfl, h0, r0⟩ := trodAll_cons hA
  obtain ⟨v1, vs1, d1, ds1, p1, q1, rfl, rfl, rfl, h1, r1⟩ := trodAll_cons r0
  obtain ⟨v2, vs2, d2, ds2, p2, q2, rfl, rfl, rfl, h2, r2⟩ := trodAll_cons r1
  obtain ⟨rfl, rfl, rfl⟩ := trodAll_nil r2
  obtain rfl : args = #[v0, v1, v2] := by cases args; simp_all
  obtain ⟨rfl, rfl⟩ := trodVars_none hV
  obtain ⟨x0, rfl, w0, rfl⟩ := open24 (hval 0 24 v0 rfl rfl) h0
  obtain ⟨x1, rfl, w1, rfl⟩ := open24 (hval 1 24 v1 rfl rfl) h1
  obtain ⟨x2, rfl, w2, rfl⟩ := open24 (hval 2 24 v2 rfl rfl) h2
  refine (again_calls x0 w0 x1 w1 x2 w2 W).mono fun e W' ⟨he, hb⟩ => ?_
  subst he
  exact ⟨_, rfl, post_true hW' Try.laidOut u4 hAA (by decide +kernel) (by kernel_rfl) rfl rfl hb⟩

theorem dividesAgain_holds : Rows.DividesAgainSaid :=
  OpenClaim.holds_of_wide 14 Try.f14 rfl rfl rfl rfl rfl rfl rfl ⟨rfl, rfl, rfl, rfl, rfl⟩ rfl rfl rfl rfl rfl (by kernel_rfl) Try.func14 dividesAgain_facts
    (of_decide_eq_true (by kernel_rfl)) (by unfold Func.isWrapper; first | (rw [if_pos (by decide +kernel)]; kernel_rfl) | (rw [if_neg (by decide +kernel)]; exact ⟨rfl, rfl⟩))
    (fun os started H enc _ => dividesAgain_lifted os started H enc)
#print axioms dividesAgain_holds

end Go.Proofs.Ytdjnhnfofajpcaa
