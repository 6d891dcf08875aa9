/- The law DividesBack, out of the evaluator. -/
import Derived.Test.YtdjnhnfofajpcaaFd
import Derived.Test.YtdjnhnfofajpcaaR1
namespace Go.Proofs.Ytdjnhnfofajpcaa
open Go Go.Proofs Go.ChangeShapes Go.WideShapes Go.ChangeAt Go.RowKit Av

theorem back_law_p (a b : Nat) (R : AV → Prop) (h : ((((decide (b = (0 : Nat))) = Bool.true) → ((((decide ((if (b = (0 : Nat)) then (1 : Int) else (0 : Int)) = (1 : Int))) = Bool.true) ∧ ((decide ((a / b) = (0 : Nat))) = Bool.true)) ∧ (R (AV.pv (PV.bool (decide ((if (b = (0 : Nat)) then (0 : Nat) else (a % b)) = (0 : Nat)))))))) ∧ (((decide (b = (0 : Nat))) = Bool.false) → ((((decide ((if (b = (0 : Nat)) then (1 : Int) else (0 : Int)) = (0 : Int))) = Bool.true) ∧ (((decide ((((a / b) * b) / (115792089237316195423570985008687907853269984665640564039457584007913129639936 : Nat)) = (0 : Nat))) = Bool.true) ∧ (((decide ((((((a / b) * b) % (115792089237316195423570985008687907853269984665640564039457584007913129639936 : Nat)) + (if (b = (0 : Nat)) then (0 : Nat) else (a % b))) / (115792089237316195423570985008687907853269984665640564039457584007913129639936 : Nat)) = (0 : Nat))) = Bool.true) ∧ ((decide ((((((a / b) * b) % (115792089237316195423570985008687907853269984665640564039457584007913129639936 : Nat)) + (if (b = (0 : Nat)) then (0 : Nat) else (a % b))) % (115792089237316195423570985008687907853269984665640564039457584007913129639936 : Nat)) = a)) = Bool.true)))) ∧ (R (AV.pv (PV.bool (decide ((if ((if (b = (0 : Nat)) then (0 : Nat) else (a % b)) < b) then (-1 : Int) else (if ((if (b = (0 : Nat)) then (0 : Nat) else (a % b)) = b) then (0 : Int) else (1 : Int))) < (0 : Int)))))))))) :
    awp [eAlive3, eOf3, eDiv, eMul, eAdd, eCmp] [(27, true), (32, true), (54, true), (59, true), (63, true), (68, true)] [] [] 200 (Try.f19.body.getD .skip) (fnPost Try.f19.results.toList R) (begins [.pv (.words .u64 4 a), .pv (.words .u64 4 b)] Try.f19.ntmps) :=
  Eq.mp (by kernel_rfl) (ai (ai tr (ai tr (ai t2 tr))) (ai (ai t2 (ai t2 (ai t2 (ai t2 (ai t2 (ai t2 (ai t2 (ai tr (ai tr (ai tr (ai tr (ai t2 tr)))))))))))) (ai (ai t2 (ai t2 (ai t2 tr))) (ai (fun (hk1 : ((decide (b = (0 : Nat))) = Bool.true)) => (ai (ai t2 (ai t2 (ai t2 (ai t2 (ai t2 (ai (ai tr (h.1 hk1).1.1) (ai t2 (ai t2 (ai t2 (ai t2 (ai (ai tr (h.1 hk1).1.2) (ai t2 (ai t2 (ai t2 (ai t2 (ai t2 tr)))))))))))))))) (h.1 hk1).2)) (fun (hk2 : ((decide (b = (0 : Nat))) = Bool.false)) => (ai (ai t2 (ai t2 (ai t2 (ai t2 (ai t2 (ai t2 (ai tr (ai tr (ai tr t2))))))))) (ai (ai t2 (ai t2 (ai t2 (ai t2 (ai t2 (ai t2 (ai tr (ai tr (ai t2 tr))))))))) (ai (ai t2 (ai t2 (ai t2 (ai t2 (ai t2 (ai (ai tr (h.2 hk2).1.1) (ai t2 (ai t2 (ai t2 (ai t2 (ai (ai tr (h.2 hk2).1.2.1) (ai t2 (ai t2 (ai t2 (ai (ai tr (h.2 hk2).1.2.2.1) (ai t2 (ai t2 (ai t2 (ai t2 (ai (ai tr (h.2 hk2).1.2.2.2) (ai t2 (ai t2 (ai t2 (ai t2 (ai t2 (ai t2 tr)))))))))))))))))))))))))) (h.2 hk2).2))))))))


theorem cmp_lt {x m : Nat} (h : x < m) : decide ((if x < m then (-1 : Int) else if x = m then 0 else 1) < 0) = true := by rw [if_pos h]; decide
theorem back_law_calls (a : Nat) (ha : WF .u64 4 a) (b : Nat) (hb : WF .u64 4 b) (w : World) :
    Calls PP 19 #[.agg (cells .u64 4 a), .agg (cells .u64 4 b)] w fun e w' => e = .returned (.bool true) ∧ Below w.heap.size w w' := by
  refine law_calls (vs := [.agg (cells .u64 4 a), .agg (cells .u64 4 b)]) Try.func19 (by kernel_rfl) (TOK.cons eAlive3_ok (.cons eOf3_ok (.cons eDiv_ok (.cons eMul_ok (.cons eAdd_ok (.cons eCmp_ok .nil))))))
    [.pv (.words .u64 4 a), .pv (.words .u64 4 b)] (by rw [Try.ntmps19]; simp) ⟨_, [], [], 200, back_law_p a b _ ⟨fun h => ?_, fun h => ?_⟩⟩ (.cons (argV_pv ⟨rfl, ha⟩) (.cons (argV_pv ⟨rfl, hb⟩) .nil))
  · have h0 := of_decide_eq_true h
    subst h0
    exact ⟨⟨decide_eq_true rfl, decide_eq_true (Nat.div_zero a)⟩, rw_bool (decide_eq_true rfl)⟩
  have h0 := of_decide_eq_false h
  simp only [if_neg h0]
  have hA := ltW ha.1
  have e := Nat.div_add_mod a b
  rw [Nat.mul_comm] at e
  have h1 : a / b * b < 115792089237316195423570985008687907853269984665640564039457584007913129639936 := by simp only [W] at hA; omega
  rw [Nat.mod_eq_of_lt h1, Nat.div_eq_of_lt h1, e]
  exact ⟨⟨by decide, by decide, decide_eq_true (Nat.div_eq_of_lt hA), decide_eq_true (Nat.mod_eq_of_lt hA)⟩, rw_bool (cmp_lt (Nat.mod_lt _ (by omega)))⟩

theorem dividesBack_fact0 : (Rows.dividesBackRow.wf (OpenSpec.ofChange Rows.dividesBackSpec)) = true := by kernel_rfl
theorem dividesBack_fact3 : (Try.f19.params.all (Try.prog.readableRec ·)) = true := by kernel_rfl
theorem dividesBack_fact4 : (namedTie Try.prog Rows.dividesBackRow.named Rows.dividesBackSpec.vars) = true := by kernel_rfl
theorem dividesBack_fact5 : ((Rows.dividesBackRow.stops == [])) = true := by kernel_rfl
theorem dividesBack_fact7 : ((Rows.dividesBackRow.knobs == [])) = true := by kernel_rfl
theorem dividesBack_fact9 : ((Rows.dividesBackRow.inPlace == Try.prog.inPlace 19)) = true := by kernel_rfl
theorem dividesBack_fact10 : ((Rows.dividesBackRow.unfollowed == Try.prog.unfollowed 19)) = true := by kernel_rfl
theorem dividesBack_fact11 : ((Rows.dividesBackRow.recurses == Try.prog.recurses 19)) = true := by kernel_rfl
theorem dividesBack_fact12 : ((Rows.dividesBackRow.named == Try.prog.varsNamed 19)) = true := by kernel_rfl
theorem dividesBack_fact13 : ((Rows.dividesBackRow.maps == (Try.f19.params.toList ++ Rows.dividesBackSpec.plain.varTypes Try.prog).any (Try.prog.mapsRec ·))) = true := by kernel_rfl
theorem dividesBack_fact14 : ((Rows.dividesBackRow.ifaces == (Try.f19.params.toList ++ Rows.dividesBackSpec.plain.varTypes Try.prog).any (Try.prog.ifacesRec ·))) = true := by kernel_rfl
theorem dividesBack_fact15 : ((Rows.dividesBackRow.mapsOut == Try.prog.mapsAmong Try.f19.resultTypes.toList)) = true := by kernel_rfl
theorem dividesBack_fact16 : ((Rows.dividesBackRow.loops == (Try.f19.params.toList ++ Rows.dividesBackSpec.plain.varTypes Try.prog).any (Try.prog.loopsFrom ·))) = true := by kernel_rfl
theorem dividesBack_fact17 : ((Rows.dividesBackRow.wideKeys == (Try.f19.params.toList ++ Rows.dividesBackSpec.plain.varTypes Try.prog ++ Try.f19.resultTypes.toList).any (Try.prog.wideKeysFrom ·))) = true := by kernel_rfl
theorem dividesBack_fact18 : (Rows.dividesBackSpec.vars.all (Try.prog.varReadable ·)) = true := by kernel_rfl
theorem dividesBack_fact19 : (Try.f19.resultTypes.all (fun t => Try.prog.readableRec t && decide (t < Try.prog.types.size))) = true := by kernel_rfl
theorem dividesBack_fact20 : ((Rows.dividesBackRow.ifacesOut == Try.f19.resultTypes.toList.any (Try.prog.ifacesRec ·))) = true := by kernel_rfl
theorem dividesBack_fact21 : ((Rows.dividesBackRow.loopsOut == Try.f19.resultTypes.toList.any (Try.prog.loopsFrom ·))) = true := by kernel_rfl
theorem dividesBack_fact22 : ((Rows.dividesBackRow.plainKeys == Try.prog.plainKeys)) = true := by kernel_rfl
theorem dividesBack_fact23 : (Rows.dividesBackRow.shortTexts.isNone) = true := by kernel_rfl
theorem dividesBack_fact26 : ((Rows.dividesBackRow.lifted == Try.prog.liftsFinal)) = true := by rw [final_ok _ _ io_words]; rfl
theorem dividesBack_fact27 : ((Try.prog.make == some Rows.dividesBackRow.make)) = true := by rw [make_ok _ _ io_words]; rfl
theorem dividesBack_fact29 : ((Rows.dividesBackRow.pinned == Rows.dividesBackRow.pinnedBy)) = true := by kernel_rfl
theorem dividesBack_fact30 : ((Rows.dividesBackRow.veiled == (Try.f19.params.toList ++ Rows.dividesBackSpec.plain.varTypes Try.prog ++ Try.f19.resultTypes.toList).any (Try.prog.veiledRec ·))) = true := by kernel_rfl
theorem dividesBack_fact31 : (Rows.dividesBackRow.veiledFits Try.prog Try.f19.params.toList (Try.f19.params.toList ++ Rows.dividesBackSpec.plain.varTypes Try.prog ++ Try.f19.resultTypes.toList)) = true := by kernel_rfl
theorem dividesBack_facts : joinedFacts Try.prog 19 Try.f19 Rows.dividesBackSpec Rows.dividesBackRow = true := by
  unfold joinedFacts
  exact (and_t (and_t (and_t (and_t (and_t (and_t (and_t (and_t (and_t (and_t (and_t (and_t (and_t (and_t (and_t (and_t (and_t (and_t (and_t (and_t (and_t (and_t (and_t (and_t (and_t (and_t (and_t (and_t (and_t (and_t (and_t dividesBack_fact0 pfact1) pfact2) dividesBack_fact3) dividesBack_fact4) dividesBack_fact5) pfact6) dividesBack_fact7) pfact8) dividesBack_fact9) dividesBack_fact10) dividesBack_fact11) dividesBack_fact12) dividesBack_fact13) dividesBack_fact14) dividesBack_fact15) dividesBack_fact16) dividesBack_fact17) dividesBack_fact18) dividesBack_fact19) dividesBack_fact20) dividesBack_fact21) dividesBack_fact22) dividesBack_fact23) pfact24) pfact25) dividesBack_fact26) dividesBack_fact27) (kinds_ok rfl rfl)) dividesBack_fact29) dividesBack_fact30) dividesBack_fact31)

set_option maxRecDepth 100000 in
theorem dividesBack_lifted (os : Os) (started : os.Started) (H : Type) (enc : TypeId × Value → H) :
    ReturnsInHanded {} Try.checked os 19 .any (Rows.dividesBackSpec.pre6 enc Try.prog Try.f19 Rows.dividesBackRow.domain false) (Rows.dividesBackSpec.post enc Try.prog Try.f19 false true false false) := by
  refine returnsInHanded_of_change (C := Try.checked) Try.own started (by kernel_rfl) Try.func19
    (ChangeSpec.witness6 (enc := enc) (C := Try.checked) false ⟨#[], #[.agg (cells .u64 4 0), .agg (cells .u64 4 0)], []⟩ 8 (by kernel_rfl) (by kernel_rfl) (by kernel_rfl) (by kernel_rfl)) ?_
  intro W base args ds gs before hval0 hW hcnd _
  have hval : ∀ (j : Nat) t v, Try.f19.params[j]? = some t → args[j]? = some v → Value.okWide Try.prog W .any base t v := hval0
  have hW' := hW
  obtain ⟨p, q, hA0, hV, rfl, hfz, hnd⟩ := hW
  have hA : DataW.TrodAll enc Try.prog W 0 (fun _ => true) true Try.f19.params.toList args.toList ds p := hA0
  rw [Try.params19] at hA hval
  have hAA := hA
  obtain ⟨v0, vs0, d0, ds0, p0, q0, hargs, rfl, rfl, h0, r0⟩ := trodAll_cons hA
  obtain ⟨v1, vs1, d1, ds1, p1, q1, rfl, rfl, rfl, h1, r1⟩ := trodAll_cons r0
  obtain ⟨rfl, rfl, rfl⟩ := trodAll_nil r1
  obtain rfl : args = #[v0, v1] := by cases args; simp_all
  obtain ⟨rfl, rfl⟩ := trodVars_none hV
  obtain ⟨x0, rfl, w0, rfl⟩ := open24 (hval 0 24 v0 rfl rfl) h0
  obtain ⟨x1, rfl, w1, rfl⟩ := open24 (hval 1 24 v1 rfl rfl) h1
  refine (back_law_calls x0 w0 x1 w1 W).mono fun e W' ⟨he, hb⟩ => ?_
  subst he
  exact ⟨_, rfl, post_true hW' Try.laidOut u4 hAA (by decide +kernel) (by kernel_rfl) rfl rfl hb⟩

theorem dividesBack_holds : Rows.DividesBackSaid :=
  OpenClaim.holds_of_wide 19 Try.f19 rfl rfl rfl rfl rfl rfl rfl ⟨rfl, rfl, rfl, rfl, rfl⟩ rfl rfl rfl rfl rfl (by kernel_rfl) Try.func19 dividesBack_facts
    (of_decide_eq_true (by kernel_rfl)) (by unfold Func.isWrapper; first | (rw [if_pos (by decide +kernel)]; kernel_rfl) | (rw [if_neg (by decide +kernel)]; exact ⟨rfl, rfl⟩))
    (fun os started H enc _ => dividesBack_lifted os started H enc)
#print axioms dividesBack_holds

end Go.Proofs.Ytdjnhnfofajpcaa
