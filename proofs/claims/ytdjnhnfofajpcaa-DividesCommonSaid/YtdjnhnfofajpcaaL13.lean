/- The law DividesCommon, out of the evaluator. -/
import Derived.Test.YtdjnhnfofajpcaaFd
import Derived.Test.YtdjnhnfofajpcaaR1
namespace Go.Proofs.Ytdjnhnfofajpcaa
open Go Go.Proofs Go.ChangeShapes Go.WideShapes Go.ChangeAt Go.RowKit Av

theorem common_law_p (a b : Nat) (R : AV → Prop) (h : ((((decide (a = (0 : Nat))) = Bool.true) → (((Bool.not (decide ((Nat.gcd a b) = (Nat.gcd b a)))) = Bool.false) ∧ ((((Bool.not ((decide ((Nat.gcd a b) = (0 : Nat))) == (decide (b = (0 : Nat))))) = Bool.true) → (R (AV.pv (PV.blit Bool.false)))) ∧ (((Bool.not ((decide ((Nat.gcd a b) = (0 : Nat))) == (decide (b = (0 : Nat))))) = Bool.false) → ((((decide ((Nat.gcd a b) = (0 : Nat))) = Bool.true) → (R (AV.pv (PV.blit Bool.true)))) ∧ (((decide ((Nat.gcd a b) = (0 : Nat))) = Bool.false) → ((((Bool.not (decide ((if ((Nat.gcd a b) = (0 : Nat)) then (1 : Int) else (0 : Int)) = (0 : Int)))) = Bool.false) ∧ (((Bool.not (decide ((if ((Nat.gcd a b) = (0 : Nat)) then (1 : Int) else (0 : Int)) = (0 : Int)))) = Bool.false) ∧ (((Bool.not (decide ((if ((Nat.gcd a b) = (0 : Nat)) then (0 : Nat) else (a % (Nat.gcd a b))) = (0 : Nat)))) = Bool.false) ∧ ((Bool.not (decide ((if ((Nat.gcd a b) = (0 : Nat)) then (0 : Nat) else (b % (Nat.gcd a b))) = (0 : Nat)))) = Bool.false)))) ∧ ((((Bool.not (decide ((Nat.gcd (a / (Nat.gcd a b)) (b / (Nat.gcd a b))) = (1 : Nat)))) = Bool.true) → (R (AV.pv (PV.blit Bool.false)))) ∧ (((Bool.not (decide ((Nat.gcd (a / (Nat.gcd a b)) (b / (Nat.gcd a b))) = (1 : Nat)))) = Bool.false) → ((((decide (b = (0 : Nat))) = Bool.true) → (R (AV.pv (PV.bool (decide ((Nat.gcd a b) = a)))))) ∧ (((decide (b = (0 : Nat))) = Bool.false) → (((decide ((if (b = (0 : Nat)) then (1 : Int) else (0 : Int)) = (0 : Int))) = Bool.true) ∧ (R (AV.pv (PV.bool (decide ((Nat.gcd b (if (b = (0 : Nat)) then (0 : Nat) else (a % b))) = (Nat.gcd a b)))))))))))))))))) ∧ (((decide (a = (0 : Nat))) = Bool.false) → (((Bool.not (decide ((Nat.gcd a b) = (Nat.gcd b a)))) = Bool.false) ∧ ((((Bool.not ((decide ((Nat.gcd a b) = (0 : Nat))) == Bool.false)) = Bool.true) → (R (AV.pv (PV.blit Bool.false)))) ∧ (((Bool.not ((decide ((Nat.gcd a b) = (0 : Nat))) == Bool.false)) = Bool.false) → ((((decide ((Nat.gcd a b) = (0 : Nat))) = Bool.true) → (R (AV.pv (PV.blit Bool.true)))) ∧ (((decide ((Nat.gcd a b) = (0 : Nat))) = Bool.false) → ((((Bool.not (decide ((if ((Nat.gcd a b) = (0 : Nat)) then (1 : Int) else (0 : Int)) = (0 : Int)))) = Bool.false) ∧ (((Bool.not (decide ((if ((Nat.gcd a b) = (0 : Nat)) then (1 : Int) else (0 : Int)) = (0 : Int)))) = Bool.false) ∧ (((Bool.not (decide ((if ((Nat.gcd a b) = (0 : Nat)) then (0 : Nat) else (a % (Nat.gcd a b))) = (0 : Nat)))) = Bool.false) ∧ ((Bool.not (decide ((if ((Nat.gcd a b) = (0 : Nat)) then (0 : Nat) else (b % (Nat.gcd a b))) = (0 : Nat)))) = Bool.false)))) ∧ ((((Bool.not (decide ((Nat.gcd (a / (Nat.gcd a b)) (b / (Nat.gcd a b))) = (1 : Nat)))) = Bool.true) → (R (AV.pv (PV.blit Bool.false)))) ∧ (((Bool.not (decide ((Nat.gcd (a / (Nat.gcd a b)) (b / (Nat.gcd a b))) = (1 : Nat)))) = Bool.false) → ((((decide (b = (0 : Nat))) = Bool.true) → (R (AV.pv (PV.bool (decide ((Nat.gcd a b) = a)))))) ∧ (((decide (b = (0 : Nat))) = Bool.false) → (((decide ((if (b = (0 : Nat)) then (1 : Int) else (0 : Int)) = (0 : Int))) = Bool.true) ∧ (R (AV.pv (PV.bool (decide ((Nat.gcd b (if (b = (0 : Nat)) then (0 : Nat) else (a % b))) = (Nat.gcd a b)))))))))))))))))))) :
    awp [eAlive3, eOf3, eCommon, eDiv] [(23, false), (57, false), (61, false), (66, false), (71, false), (99, true)] [30] [] 200 (Try.f13.body.getD .skip) (fnPost Try.f13.results.toList R) (begins [.pv (.words .u64 4 a), .pv (.words .u64 4 b)] Try.f13.ntmps) :=
  Eq.mp (by kernel_rfl) (ai (ai tr (ai tr (ai t2 tr))) (ai (ai t2 (ai t2 (ai t2 (ai tr t2)))) (ai (fun (hk1 : ((decide (a = (0 : Nat))) = Bool.true)) => (ai (ai t2 (ai t2 (ai t2 (ai t2 (ai t2 (ai (ai tr (h.1 hk1).1) (ai t2 (ai t2 (ai t2 (ai t2 (ai t2 (ai t2 (ai (ai tr hk1) (ai t2 (ai t2 (ai t2 (ai t2 (ai t2 (ai t2 tr))))))))))))))))))) (ai (fun (hk2 : ((Bool.not ((decide ((Nat.gcd a b) = (0 : Nat))) == (decide (b = (0 : Nat))))) = Bool.true)) => (ai (ai t2 tr) ((h.1 hk1).2.1 hk2))) (fun (hk3 : ((Bool.not ((decide ((Nat.gcd a b) = (0 : Nat))) == (decide (b = (0 : Nat))))) = Bool.false)) => (ai (ai t2 (ai t2 (ai t2 tr))) (ai (fun (hk4 : ((decide ((Nat.gcd a b) = (0 : Nat))) = Bool.true)) => (ai (ai t2 (ai t2 tr)) (((h.1 hk1).2.2 hk3).1 hk4))) (fun (hk5 : ((decide ((Nat.gcd a b) = (0 : Nat))) = Bool.false)) => (ai (ai t2 (ai t2 (ai t2 (ai t2 (ai t2 (ai t2 (ai t2 (ai tr (ai tr (ai tr (ai tr (ai t2 tr)))))))))))) (ai (ai t2 (ai t2 (ai t2 (ai t2 (ai t2 (ai t2 (ai t2 (ai tr (ai tr (ai tr (ai tr (ai t2 tr)))))))))))) (ai (ai t2 (ai t2 (ai (ai tr (((h.1 hk1).2.2 hk3).2 hk5).1.1) (ai t2 (ai t2 (ai t2 (ai (ai tr (((h.1 hk1).2.2 hk3).2 hk5).1.2.1) (ai t2 (ai t2 (ai t2 (ai t2 (ai (ai tr (((h.1 hk1).2.2 hk3).2 hk5).1.2.2.1) (ai t2 (ai t2 (ai t2 (ai t2 (ai (ai tr (((h.1 hk1).2.2 hk3).2 hk5).1.2.2.2) (ai t2 (ai t2 (ai t2 (ai t2 (ai t2 (ai t2 tr))))))))))))))))))))))) (ai (fun (hk6 : ((Bool.not (decide ((Nat.gcd (a / (Nat.gcd a b)) (b / (Nat.gcd a b))) = (1 : Nat)))) = Bool.true)) => (ai (ai t2 tr) ((((h.1 hk1).2.2 hk3).2 hk5).2.1 hk6))) (fun (hk7 : ((Bool.not (decide ((Nat.gcd (a / (Nat.gcd a b)) (b / (Nat.gcd a b))) = (1 : Nat)))) = Bool.false)) => (ai (ai t2 (ai t2 (ai t2 tr))) (ai (fun (hk8 : ((decide (b = (0 : Nat))) = Bool.true)) => (ai (ai t2 (ai t2 (ai t2 (ai t2 (ai t2 (ai t2 (ai t2 tr))))))) (((((h.1 hk1).2.2 hk3).2 hk5).2.2 hk7).1 hk8))) (fun (hk9 : ((decide (b = (0 : Nat))) = Bool.false)) => (ai (ai t2 (ai t2 (ai t2 (ai t2 (ai t2 (ai t2 (ai t2 (ai tr (ai tr (ai tr (ai tr (ai t2 tr)))))))))))) (ai (ai t2 (ai t2 (ai t2 (ai t2 (ai t2 (ai (ai tr (((((h.1 hk1).2.2 hk3).2 hk5).2.2 hk7).2 hk9).1) (ai t2 (ai t2 (ai t2 (ai t2 (ai t2 (ai t2 (ai t2 tr))))))))))))) (((((h.1 hk1).2.2 hk3).2 hk5).2.2 hk7).2 hk9).2))))))))))))))))) (fun (hk10 : ((decide (a = (0 : Nat))) = Bool.false)) => (ai (ai t2 (ai t2 (ai t2 (ai t2 (ai t2 (ai (ai tr (h.2 hk10).1) (ai t2 (ai t2 (ai t2 (ai t2 (ai t2 (ai t2 (ai (ai tr hk10) (ai tr (ai tr (ai tr (ai t2 (ai t2 (ai t2 tr))))))))))))))))))) (ai (fun (hk11 : ((Bool.not ((decide ((Nat.gcd a b) = (0 : Nat))) == Bool.false)) = Bool.true)) => (ai (ai t2 tr) ((h.2 hk10).2.1 hk11))) (fun (hk12 : ((Bool.not ((decide ((Nat.gcd a b) = (0 : Nat))) == Bool.false)) = Bool.false)) => (ai (ai t2 (ai t2 (ai t2 tr))) (ai (fun (hk13 : ((decide ((Nat.gcd a b) = (0 : Nat))) = Bool.true)) => (ai (ai t2 (ai t2 tr)) (((h.2 hk10).2.2 hk12).1 hk13))) (fun (hk14 : ((decide ((Nat.gcd a b) = (0 : Nat))) = Bool.false)) => (ai (ai t2 (ai t2 (ai t2 (ai t2 (ai t2 (ai t2 (ai t2 (ai tr (ai tr (ai tr (ai tr (ai t2 tr)))))))))))) (ai (ai t2 (ai t2 (ai t2 (ai t2 (ai t2 (ai t2 (ai t2 (ai tr (ai tr (ai tr (ai tr (ai t2 tr)))))))))))) (ai (ai t2 (ai t2 (ai (ai tr (((h.2 hk10).2.2 hk12).2 hk14).1.1) (ai t2 (ai t2 (ai t2 (ai (ai tr (((h.2 hk10).2.2 hk12).2 hk14).1.2.1) (ai t2 (ai t2 (ai t2 (ai t2 (ai (ai tr (((h.2 hk10).2.2 hk12).2 hk14).1.2.2.1) (ai t2 (ai t2 (ai t2 (ai t2 (ai (ai tr (((h.2 hk10).2.2 hk12).2 hk14).1.2.2.2) (ai t2 (ai t2 (ai t2 (ai t2 (ai t2 (ai t2 tr))))))))))))))))))))))) (ai (fun (hk15 : ((Bool.not (decide ((Nat.gcd (a / (Nat.gcd a b)) (b / (Nat.gcd a b))) = (1 : Nat)))) = Bool.true)) => (ai (ai t2 tr) ((((h.2 hk10).2.2 hk12).2 hk14).2.1 hk15))) (fun (hk16 : ((Bool.not (decide ((Nat.gcd (a / (Nat.gcd a b)) (b / (Nat.gcd a b))) = (1 : Nat)))) = Bool.false)) => (ai (ai t2 (ai t2 (ai t2 tr))) (ai (fun (hk17 : ((decide (b = (0 : Nat))) = Bool.true)) => (ai (ai t2 (ai t2 (ai t2 (ai t2 (ai t2 (ai t2 (ai t2 tr))))))) (((((h.2 hk10).2.2 hk12).2 hk14).2.2 hk16).1 hk17))) (fun (hk18 : ((decide (b = (0 : Nat))) = Bool.false)) => (ai (ai t2 (ai t2 (ai t2 (ai t2 (ai t2 (ai t2 (ai t2 (ai tr (ai tr (ai tr (ai tr (ai t2 tr)))))))))))) (ai (ai t2 (ai t2 (ai t2 (ai t2 (ai t2 (ai (ai tr (((((h.2 hk10).2.2 hk12).2 hk14).2.2 hk16).2 hk18).1) (ai t2 (ai t2 (ai t2 (ai t2 (ai t2 (ai t2 (ai t2 tr))))))))))))) (((((h.2 hk10).2.2 hk12).2 hk14).2.2 hk16).2 hk18).2))))))))))))))))))))


theorem common_facts {a b : Nat} (hg : ¬ Nat.gcd a b = 0) : a % Nat.gcd a b = 0 ∧ b % Nat.gcd a b = 0 ∧ Nat.gcd (a / Nat.gcd a b) (b / Nat.gcd a b) = 1 :=
  ⟨Nat.mod_eq_zero_of_dvd (Nat.gcd_dvd_left a b), Nat.mod_eq_zero_of_dvd (Nat.gcd_dvd_right a b), Nat.coprime_div_gcd_div_gcd (Nat.pos_of_ne_zero hg)⟩
theorem common_law_calls (a : Nat) (ha : WF .u64 4 a) (b : Nat) (hb : WF .u64 4 b) (w : World) :
    Calls PP 13 #[.agg (cells .u64 4 a), .agg (cells .u64 4 b)] w fun e w' => e = .returned (.bool true) ∧ Below w.heap.size w w' := by
  refine law_calls (vs := [.agg (cells .u64 4 a), .agg (cells .u64 4 b)]) Try.func13 (by kernel_rfl) (TOK.cons eAlive3_ok (.cons eOf3_ok (.cons eCommon_ok (.cons eDiv_ok .nil))))
    [.pv (.words .u64 4 a), .pv (.words .u64 4 b)] (by rw [Try.ntmps13]; simp) ⟨_, [30], [], 200, common_law_p a b _ ?_⟩ (.cons (argV_pv ⟨rfl, ha⟩) (.cons (argV_pv ⟨rfl, hb⟩) .nil))
  have hc : (!(decide (Nat.gcd a b = Nat.gcd b a))) = false := by rw [Nat.gcd_comm]; simp
  have rest : (decide (Nat.gcd a b = 0) = false →
      ((!(decide ((if Nat.gcd a b = 0 then (1 : Int) else 0) = 0))) = false ∧ (!(decide ((if Nat.gcd a b = 0 then (1 : Int) else 0) = 0))) = false ∧ (!(decide ((if Nat.gcd a b = 0 then 0 else a % Nat.gcd a b) = 0))) = false ∧ (!(decide ((if Nat.gcd a b = 0 then 0 else b % Nat.gcd a b) = 0))) = false) ∧
      ((!(decide (Nat.gcd (a / Nat.gcd a b) (b / Nat.gcd a b) = 1))) = true → retW (.pv (.blit false)) (.pv (.bool true))) ∧
      ((!(decide (Nat.gcd (a / Nat.gcd a b) (b / Nat.gcd a b) = 1))) = false → (decide (b = 0) = true → retW (.pv (.bool (decide (Nat.gcd a b = a)))) (.pv (.bool true))) ∧
        (decide (b = 0) = false → decide ((if b = 0 then (1 : Int) else 0) = 0) = true ∧ retW (.pv (.bool (decide (Nat.gcd b (if b = 0 then 0 else a % b) = Nat.gcd a b)))) (.pv (.bool true))))) := by
    intro h
    have hg := of_decide_eq_false h
    obtain ⟨g1, g2, g3⟩ := common_facts hg
    rw [if_neg hg, if_neg hg, if_neg hg, g1, g2]
    refine ⟨by decide, (fun h => by rw [decide_eq_true g3] at h; cases h), fun _ => ⟨fun hb => ?_, fun hb => ?_⟩⟩
    · have hb := of_decide_eq_true hb
      subst hb
      exact rw_bool (decide_eq_true (Nat.gcd_zero_right a))
    · have hb := of_decide_eq_false hb
      rw [if_neg hb, if_neg hb]
      exact ⟨by decide, rw_bool (decide_eq_true (gcd_next rfl hb |>.1 |> fun h => by rw [if_neg hb] at h; exact h))⟩
  refine ⟨fun h0 => ⟨hc, fun h => ?_, fun _ => ⟨fun _ => rfl, rest⟩⟩, fun h0 => ⟨hc, fun h => ?_, fun _ => ⟨fun _ => rfl, rest⟩⟩⟩
  · have h0 := of_decide_eq_true h0
    subst h0
    rw [Nat.gcd_zero_left] at h
    simp at h
  · have h0 := of_decide_eq_false h0
    have : decide (Nat.gcd a b = 0) = false := decide_eq_false fun h => h0 (Nat.eq_zero_of_gcd_eq_zero_left h)
    rw [this] at h
    simp at h

theorem dividesCommon_fact0 : (Rows.dividesCommonRow.wf (OpenSpec.ofChange Rows.dividesCommonSpec)) = true := by kernel_rfl
theorem dividesCommon_fact3 : (Try.f13.params.all (Try.prog.readableRec ·)) = true := by kernel_rfl
theorem dividesCommon_fact4 : (namedTie Try.prog Rows.dividesCommonRow.named Rows.dividesCommonSpec.vars) = true := by kernel_rfl
theorem dividesCommon_fact5 : ((Rows.dividesCommonRow.stops == [])) = true := by kernel_rfl
theorem dividesCommon_fact7 : ((Rows.dividesCommonRow.knobs == [])) = true := by kernel_rfl
theorem dividesCommon_fact9 : ((Rows.dividesCommonRow.inPlace == Try.prog.inPlace 13)) = true := by kernel_rfl
theorem dividesCommon_fact10 : ((Rows.dividesCommonRow.unfollowed == Try.prog.unfollowed 13)) = true := by kernel_rfl
theorem dividesCommon_fact11 : ((Rows.dividesCommonRow.recurses == Try.prog.recurses 13)) = true := by kernel_rfl
theorem dividesCommon_fact12 : ((Rows.dividesCommonRow.named == Try.prog.varsNamed 13)) = true := by kernel_rfl
theorem dividesCommon_fact13 : ((Rows.dividesCommonRow.maps == (Try.f13.params.toList ++ Rows.dividesCommonSpec.plain.varTypes Try.prog).any (Try.prog.mapsRec ·))) = true := by kernel_rfl
theorem dividesCommon_fact14 : ((Rows.dividesCommonRow.ifaces == (Try.f13.params.toList ++ Rows.dividesCommonSpec.plain.varTypes Try.prog).any (Try.prog.ifacesRec ·))) = true := by kernel_rfl
theorem dividesCommon_fact15 : ((Rows.dividesCommonRow.mapsOut == Try.prog.mapsAmong Try.f13.resultTypes.toList)) = true := by kernel_rfl
theorem dividesCommon_fact16 : ((Rows.dividesCommonRow.loops == (Try.f13.params.toList ++ Rows.dividesCommonSpec.plain.varTypes Try.prog).any (Try.prog.loopsFrom ·))) = true := by kernel_rfl
theorem dividesCommon_fact17 : ((Rows.dividesCommonRow.wideKeys == (Try.f13.params.toList ++ Rows.dividesCommonSpec.plain.varTypes Try.prog ++ Try.f13.resultTypes.toList).any (Try.prog.wideKeysFrom ·))) = true := by kernel_rfl
theorem dividesCommon_fact18 : (Rows.dividesCommonSpec.vars.all (Try.prog.varReadable ·)) = true := by kernel_rfl
theorem dividesCommon_fact19 : (Try.f13.resultTypes.all (fun t => Try.prog.readableRec t && decide (t < Try.prog.types.size))) = true := by kernel_rfl
theorem dividesCommon_fact20 : ((Rows.dividesCommonRow.ifacesOut == Try.f13.resultTypes.toList.any (Try.prog.ifacesRec ·))) = true := by kernel_rfl
theorem dividesCommon_fact21 : ((Rows.dividesCommonRow.loopsOut == Try.f13.resultTypes.toList.any (Try.prog.loopsFrom ·))) = true := by kernel_rfl
theorem dividesCommon_fact22 : ((Rows.dividesCommonRow.plainKeys == Try.prog.plainKeys)) = true := by kernel_rfl
theorem dividesCommon_fact23 : (Rows.dividesCommonRow.shortTexts.isNone) = true := by kernel_rfl
theorem dividesCommon_fact26 : ((Rows.dividesCommonRow.lifted == Try.prog.liftsFinal)) = true := by rw [final_ok _ _ io_words]; rfl
theorem dividesCommon_fact27 : ((Try.prog.make == some Rows.dividesCommonRow.make)) = true := by rw [make_ok _ _ io_words]; rfl
theorem dividesCommon_fact29 : ((Rows.dividesCommonRow.pinned == Rows.dividesCommonRow.pinnedBy)) = true := by kernel_rfl
theorem dividesCommon_fact30 : ((Rows.dividesCommonRow.veiled == (Try.f13.params.toList ++ Rows.dividesCommonSpec.plain.varTypes Try.prog ++ Try.f13.resultTypes.toList).any (Try.prog.veiledRec ·))) = true := by kernel_rfl
theorem dividesCommon_fact31 : (Rows.dividesCommonRow.veiledFits Try.prog Try.f13.params.toList (Try.f13.params.toList ++ Rows.dividesCommonSpec.plain.varTypes Try.prog ++ Try.f13.resultTypes.toList)) = true := by kernel_rfl
theorem dividesCommon_facts : joinedFacts Try.prog 13 Try.f13 Rows.dividesCommonSpec Rows.dividesCommonRow = true := by
  unfold joinedFacts
  exact (and_t (and_t (and_t (and_t (and_t (and_t (and_t (and_t (and_t (and_t (and_t (and_t (and_t (and_t (and_t (and_t (and_t (and_t (and_t (and_t (and_t (and_t (and_t (and_t (and_t (and_t (and_t (and_t (and_t (and_t (and_t dividesCommon_fact0 pfact1) pfact2) dividesCommon_fact3) dividesCommon_fact4) dividesCommon_fact5) pfact6) dividesCommon_fact7) pfact8) dividesCommon_fact9) dividesCommon_fact10) dividesCommon_fact11) dividesCommon_fact12) dividesCommon_fact13) dividesCommon_fact14) dividesCommon_fact15) dividesCommon_fact16) dividesCommon_fact17) dividesCommon_fact18) dividesCommon_fact19) dividesCommon_fact20) dividesCommon_fact21) dividesCommon_fact22) dividesCommon_fact23) pfact24) pfact25) dividesCommon_fact26) dividesCommon_fact27) (kinds_ok rfl rfl)) dividesCommon_fact29) dividesCommon_fact30) dividesCommon_fact31)

set_option maxRecDepth 100000 in
theorem dividesCommon_lifted (os : Os) (started : os.Started) (H : Type) (enc : TypeId × Value → H) :
    ReturnsInHanded {} Try.checked os 13 .any (Rows.dividesCommonSpec.pre6 enc Try.prog Try.f13 Rows.dividesCommonRow.domain false) (Rows.dividesCommonSpec.post enc Try.prog Try.f13 false true false false) := by
  refine returnsInHanded_of_change (C := Try.checked) Try.own started (by kernel_rfl) Try.func13
    (ChangeSpec.witness6 (enc := enc) (C := Try.checked) false ⟨#[], #[.agg (cells .u64 4 0), .agg (cells .u64 4 0)], []⟩ 8 (by kernel_rfl) (by kernel_rfl) (by kernel_rfl) (by kernel_rfl)) ?_
  intro W base args ds gs before hval0 hW hcnd _
  have hval : ∀ (j : Nat) t v, Try.f13.params[j]? = some t → args[j]? = some v → Value.okWide Try.prog W .any base t v := hval0
  have hW' := hW
  obtain ⟨p, q, hA0, hV, rfl, hfz, hnd⟩ := hW
  have hA : DataW.TrodAll enc Try.prog W 0 (fun _ => true) true Try.f13.params.toList args.toList ds p := hA0
  rw [Try.params13] at hA hval
  have hAA := hA
  obtain ⟨v0, vs0, d0, ds0, p0, q0, hargs, rfl, rfl, h0, r0⟩ := trodAll_cons hA
  obtain ⟨v1, vs1, d1, ds1, p1, q1, rfl, rfl, rfl, h1, r1⟩ := trodAll_cons r0
  obtain ⟨rfl, rfl, rfl⟩ := trodAll_nil r1
  obtain rfl : args = #[v0, v1] := by cases args; simp_all
  obtain ⟨rfl, rfl⟩ := trodVars_none hV
  obtain ⟨x0, rfl, w0, rfl⟩ := open24 (hval 0 24 v0 rfl rfl) h0
  obtain ⟨x1, rfl, w1, rfl⟩ := open24 (hval 1 24 v1 rfl rfl) h1
  refine (common_law_calls x0 w0 x1 w1 W).mono fun e W' ⟨he, hb⟩ => ?_
  subst he
  exact ⟨_, rfl, post_true hW' Try.laidOut u4 hAA (by decide +kernel) (by kernel_rfl) rfl rfl hb⟩

theorem dividesCommon_holds : Rows.DividesCommonSaid :=
  OpenClaim.holds_of_wide 13 Try.f13 rfl rfl rfl rfl rfl rfl rfl ⟨rfl, rfl, rfl, rfl, rfl⟩ rfl rfl rfl rfl rfl (by kernel_rfl) Try.func13 dividesCommon_facts
    (of_decide_eq_true (by kernel_rfl)) (by unfold Func.isWrapper; first | (rw [if_pos (by decide +kernel)]; kernel_rfl) | (rw [if_neg (by decide +kernel)]; exact ⟨rfl, rfl⟩))
    (fun os started H enc _ => dividesCommon_lifted os started H enc)
#print axioms dividesCommon_holds

end Go.Proofs.Ytdjnhnfofajpcaa
