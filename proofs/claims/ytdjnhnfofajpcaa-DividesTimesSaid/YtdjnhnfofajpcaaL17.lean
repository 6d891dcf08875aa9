/- The law DividesTimes, out of the evaluator. -/
import Derived.Test.YtdjnhnfofajpcaaFd
import Derived.Test.YtdjnhnfofajpcaaR1
namespace Go.Proofs.Ytdjnhnfofajpcaa
open Go Go.Proofs Go.ChangeShapes Go.WideShapes Go.ChangeAt Go.RowKit Av

theorem times_law_p (a b by' : Nat) (R : AV → Prop) (h : ((((Bool.not (decide (((a * by') / (115792089237316195423570985008687907853269984665640564039457584007913129639936 : Nat)) = (0 : Nat)))) = Bool.true) → (R (AV.pv (PV.blit Bool.true)))) ∧ (((Bool.not (decide (((a * by') / (115792089237316195423570985008687907853269984665640564039457584007913129639936 : Nat)) = (0 : Nat)))) = Bool.false) → ((((Bool.not (decide (((b * by') / (115792089237316195423570985008687907853269984665640564039457584007913129639936 : Nat)) = (0 : Nat)))) = Bool.true) → (R (AV.pv (PV.blit Bool.true)))) ∧ (((Bool.not (decide (((b * by') / (115792089237316195423570985008687907853269984665640564039457584007913129639936 : Nat)) = (0 : Nat)))) = Bool.false) → (((decide ((((Nat.gcd a b) * by') / (115792089237316195423570985008687907853269984665640564039457584007913129639936 : Nat)) = (0 : Nat))) = Bool.true) ∧ (R (AV.pv (PV.bool (decide ((Nat.gcd ((a * by') % (115792089237316195423570985008687907853269984665640564039457584007913129639936 : Nat)) ((b * by') % (115792089237316195423570985008687907853269984665640564039457584007913129639936 : Nat))) = (((Nat.gcd a b) * by') % (115792089237316195423570985008687907853269984665640564039457584007913129639936 : Nat))))))))))))) :
    awp [eAlive3, eOf3, eCommon, eMul] [(54, true)] [32] [] 200 (Try.f17.body.getD .skip) (fnPost Try.f17.results.toList R) (begins [.pv (.words .u64 4 a), .pv (.words .u64 4 b), .pv (.nat .u32 by')] Try.f17.ntmps) :=
  Eq.mp (by kernel_rfl) (ai (ai tr (ai tr (ai t2 tr))) (ai (ai t2 (ai t2 (ai t2 (ai t2 (ai t2 (ai t2 (ai t2 (ai t2 (ai tr (ai tr (ai tr t2))))))))))) (ai (ai t2 (ai t2 (ai t2 (ai t2 (ai t2 (ai t2 (ai t2 (ai t2 (ai tr (ai tr (ai tr t2))))))))))) (ai (fun (hk1 : ((Bool.not (decide (((a * by') / (115792089237316195423570985008687907853269984665640564039457584007913129639936 : Nat)) = (0 : Nat)))) = Bool.true)) => (ai (ai t2 (ai t2 (ai t2 (ai (ai tr hk1) (ai tr (ai tr (ai tr (ai t2 tr)))))))) (ai (ai t2 (ai t2 tr)) (h.1 hk1)))) (fun (hk2 : ((Bool.not (decide (((a * by') / (115792089237316195423570985008687907853269984665640564039457584007913129639936 : Nat)) = (0 : Nat)))) = Bool.false)) => (ai (ai t2 (ai t2 (ai t2 (ai (ai tr hk2) (ai t2 (ai t2 (ai t2 (ai t2 tr)))))))) (ai (fun (hk3 : ((Bool.not (decide (((b * by') / (115792089237316195423570985008687907853269984665640564039457584007913129639936 : Nat)) = (0 : Nat)))) = Bool.true)) => (ai (ai t2 (ai t2 tr)) ((h.2 hk2).1 hk3))) (fun (hk4 : ((Bool.not (decide (((b * by') / (115792089237316195423570985008687907853269984665640564039457584007913129639936 : Nat)) = (0 : Nat)))) = Bool.false)) => (ai (ai t2 (ai t2 (ai t2 (ai t2 (ai t2 (ai t2 (ai t2 (ai t2 (ai t2 (ai t2 (ai tr (ai tr (ai tr t2))))))))))))) (ai (ai t2 (ai t2 (ai t2 (ai t2 (ai t2 (ai t2 (ai (ai tr ((h.2 hk2).2 hk4).1) (ai t2 (ai t2 (ai t2 (ai t2 (ai t2 (ai t2 (ai t2 tr)))))))))))))) ((h.2 hk2).2 hk4).2))))))))))


theorem gcd_room {x y W : Nat} (hx : x < W) (hy : y < W) : Nat.gcd x y < W := by
  rcases Nat.eq_zero_or_pos x with rfl | h
  · rw [Nat.gcd_zero_left]; exact hy
  · exact Nat.lt_of_le_of_lt (Nat.gcd_le_left y h) hx
theorem room_of {x W : Nat} (hW : 0 < W) (h : (!(decide (x / W = 0))) = false) : x < W := by
  have h : ¬ W = 0 → x < W := by simpa using h
  exact h (by omega)
theorem times_law_calls (a : Nat) (ha : WF .u64 4 a) (b : Nat) (hb : WF .u64 4 b) (z : Int) (h1 : IntKind.min .u32 ≤ z) (h2 : z ≤ IntKind.max .u32) (w : World) :
    Calls PP 17 #[.agg (cells .u64 4 a), .agg (cells .u64 4 b), .int .u32 z] w fun e w' => e = .returned (.bool true) ∧ Below w.heap.size w w' := by
  simp [IntKind.min, IntKind.max, IntKind.signed, IntKind.bits] at h1 h2
  obtain ⟨n, rfl⟩ := Int.eq_ofNat_of_zero_le h1
  have hn : n < pw .u32 := by simp only [pw]; omega
  refine law_calls (vs := [.agg (cells .u64 4 a), .agg (cells .u64 4 b), .int .u32 n]) Try.func17 (by kernel_rfl) (TOK.cons eAlive3_ok (.cons eOf3_ok (.cons eCommon_ok (.cons eMul_ok .nil))))
    [.pv (.words .u64 4 a), .pv (.words .u64 4 b), .pv (.nat .u32 n)] (by rw [Try.ntmps17]; simp) ⟨_, [32], [], 200, times_law_p a b n _ ⟨fun _ => rfl, fun h => ⟨fun _ => rfl, fun h' => ?_⟩⟩⟩
    (.cons (argV_pv ⟨rfl, ha⟩) (.cons (argV_pv ⟨rfl, hb⟩) (.cons (argV_pv (PV.natR rfl hn)) .nil)))
  have hA := room_of (by decide) h
  have hB := room_of (by decide) h'
  have hg := gcd_room hA hB
  have e : Nat.gcd (a * n) (b * n) = Nat.gcd a b * n := Nat.gcd_mul_right a n b
  rw [Nat.mod_eq_of_lt hA, Nat.mod_eq_of_lt hB, e]
  rw [e] at hg
  exact ⟨decide_eq_true (Nat.div_eq_of_lt hg), rw_bool (decide_eq_true (Nat.mod_eq_of_lt hg).symm)⟩

theorem dividesTimes_fact0 : (Rows.dividesTimesRow.wf (OpenSpec.ofChange Rows.dividesTimesSpec)) = true := by kernel_rfl
theorem dividesTimes_fact3 : (Try.f17.params.all (Try.prog.readableRec ·)) = true := by kernel_rfl
theorem dividesTimes_fact4 : (namedTie Try.prog Rows.dividesTimesRow.named Rows.dividesTimesSpec.vars) = true := by kernel_rfl
theorem dividesTimes_fact5 : ((Rows.dividesTimesRow.stops == [])) = true := by kernel_rfl
theorem dividesTimes_fact7 : ((Rows.dividesTimesRow.knobs == [])) = true := by kernel_rfl
theorem dividesTimes_fact9 : ((Rows.dividesTimesRow.inPlace == Try.prog.inPlace 17)) = true := by kernel_rfl
theorem dividesTimes_fact10 : ((Rows.dividesTimesRow.unfollowed == Try.prog.unfollowed 17)) = true := by kernel_rfl
theorem dividesTimes_fact11 : ((Rows.dividesTimesRow.recurses == Try.prog.recurses 17)) = true := by kernel_rfl
theorem dividesTimes_fact12 : ((Rows.dividesTimesRow.named == Try.prog.varsNamed 17)) = true := by kernel_rfl
theorem dividesTimes_fact13 : ((Rows.dividesTimesRow.maps == (Try.f17.params.toList ++ Rows.dividesTimesSpec.plain.varTypes Try.prog).any (Try.prog.mapsRec ·))) = true := by kernel_rfl
theorem dividesTimes_fact14 : ((Rows.dividesTimesRow.ifaces == (Try.f17.params.toList ++ Rows.dividesTimesSpec.plain.varTypes Try.prog).any (Try.prog.ifacesRec ·))) = true := by kernel_rfl
theorem dividesTimes_fact15 : ((Rows.dividesTimesRow.mapsOut == Try.prog.mapsAmong Try.f17.resultTypes.toList)) = true := by kernel_rfl
theorem dividesTimes_fact16 : ((Rows.dividesTimesRow.loops == (Try.f17.params.toList ++ Rows.dividesTimesSpec.plain.varTypes Try.prog).any (Try.prog.loopsFrom ·))) = true := by kernel_rfl
theorem dividesTimes_fact17 : ((Rows.dividesTimesRow.wideKeys == (Try.f17.params.toList ++ Rows.dividesTimesSpec.plain.varTypes Try.prog ++ Try.f17.resultTypes.toList).any (Try.prog.wideKeysFrom ·))) = true := by kernel_rfl
theorem dividesTimes_fact18 : (Rows.dividesTimesSpec.vars.all (Try.prog.varReadable ·)) = true := by kernel_rfl
theorem dividesTimes_fact19 : (Try.f17.resultTypes.all (fun t => Try.prog.readableRec t && decide (t < Try.prog.types.size))) = true := by kernel_rfl
theorem dividesTimes_fact20 : ((Rows.dividesTimesRow.ifacesOut == Try.f17.resultTypes.toList.any (Try.prog.ifacesRec ·))) = true := by kernel_rfl
theorem dividesTimes_fact21 : ((Rows.dividesTimesRow.loopsOut == Try.f17.resultTypes.toList.any (Try.prog.loopsFrom ·))) = true := by kernel_rfl
theorem dividesTimes_fact22 : ((Rows.dividesTimesRow.plainKeys == Try.prog.plainKeys)) = true := by kernel_rfl
theorem dividesTimes_fact23 : (Rows.dividesTimesRow.shortTexts.isNone) = true := by kernel_rfl
theorem dividesTimes_fact26 : ((Rows.dividesTimesRow.lifted == Try.prog.liftsFinal)) = true := by rw [final_ok _ _ io_words]; rfl
theorem dividesTimes_fact27 : ((Try.prog.make == some Rows.dividesTimesRow.make)) = true := by rw [make_ok _ _ io_words]; rfl
theorem dividesTimes_fact29 : ((Rows.dividesTimesRow.pinned == Rows.dividesTimesRow.pinnedBy)) = true := by kernel_rfl
theorem dividesTimes_fact30 : ((Rows.dividesTimesRow.veiled == (Try.f17.params.toList ++ Rows.dividesTimesSpec.plain.varTypes Try.prog ++ Try.f17.resultTypes.toList).any (Try.prog.veiledRec ·))) = true := by kernel_rfl
theorem dividesTimes_fact31 : (Rows.dividesTimesRow.veiledFits Try.prog Try.f17.params.toList (Try.f17.params.toList ++ Rows.dividesTimesSpec.plain.varTypes Try.prog ++ Try.f17.resultTypes.toList)) = true := by kernel_rfl
theorem dividesTimes_facts : joinedFacts Try.prog 17 Try.f17 Rows.dividesTimesSpec Rows.dividesTimesRow = true := by
  unfold joinedFacts
  exact (and_t (and_t (and_t (and_t (and_t (and_t (and_t (and_t (and_t (and_t (and_t (and_t (and_t (and_t (and_t (and_t (and_t (and_t (and_t (and_t (and_t (and_t (and_t (and_t (and_t (and_t (and_t (and_t (and_t (and_t (and_t dividesTimes_fact0 pfact1) pfact2) dividesTimes_fact3) dividesTimes_fact4) dividesTimes_fact5) pfact6) dividesTimes_fact7) pfact8) dividesTimes_fact9) dividesTimes_fact10) dividesTimes_fact11) dividesTimes_fact12) dividesTimes_fact13) dividesTimes_fact14) dividesTimes_fact15) dividesTimes_fact16) dividesTimes_fact17) dividesTimes_fact18) dividesTimes_fact19) dividesTimes_fact20) dividesTimes_fact21) dividesTimes_fact22) dividesTimes_fact23) pfact24) pfact25) dividesTimes_fact26) dividesTimes_fact27) (kinds_ok rfl rfl)) dividesTimes_fact29) dividesTimes_fact30) dividesTimes_fact31)

set_option maxRecDepth 100000 in
theorem dividesTimes_lifted (os : Os) (started : os.Started) (H : Type) (enc : TypeId × Value → H) :
    ReturnsInHanded {} Try.checked os 17 .any (Rows.dividesTimesSpec.pre6 enc Try.prog Try.f17 Rows.dividesTimesRow.domain false) (Rows.dividesTimesSpec.post enc Try.prog Try.f17 false true false false) := by
  refine returnsInHanded_of_change (C := Try.checked) Try.own started (by kernel_rfl) Try.func17
    (ChangeSpec.witness6 (enc := enc) (C := Try.checked) false ⟨#[], #[.agg (cells .u64 4 0), .agg (cells .u64 4 0), .int .u32 0], []⟩ 8 (by kernel_rfl) (by kernel_rfl) (by kernel_rfl) (by kernel_rfl)) ?_
  intro W base args ds gs before hval0 hW hcnd _
  have hval : ∀ (j : Nat) t v, Try.f17.params[j]? = some t → args[j]? = some v → Value.okWide Try.prog W .any base t v := hval0
  have hW' := hW
  obtain ⟨p, q, hA0, hV, rfl, hfz, hnd⟩ := hW
  have hA : DataW.TrodAll enc Try.prog W 0 (fun _ => true) true Try.f17.params.toList args.toList ds p := hA0
  rw [Try.params17] at hA hval
  have hAA := hA
  obtain ⟨v0, vs0, d0, ds0, p0, q0, hargs, rfl, rfl, h0, r0⟩ := trodAll_cons hA
  obtain ⟨v1, vs1, d1, ds1, p1, q1, rfl, rfl, rfl, h1, r1⟩ := trodAll_cons r0
  obtain ⟨v2, vs2, d2, ds2, p2, q2, rfl, rfl, rfl, h2, r2⟩ := trodAll_cons r1
  obtain ⟨rfl, rfl, rfl⟩ := trodAll_nil r2
  obtain rfl : args = #[v0, v1, v2] := by cases args; simp_all
  obtain ⟨rfl, rfl⟩ := trodVars_none hV
  obtain ⟨x0, rfl, w0, rfl⟩ := open24 (hval 0 24 v0 rfl rfl) h0
  obtain ⟨x1, rfl, w1, rfl⟩ := open24 (hval 1 24 v1 rfl rfl) h1
  obtain ⟨x2, rfl, w2, y2, rfl⟩ := openInt u55 (hval 2 55 v2 rfl rfl) h2
  refine (times_law_calls x0 w0 x1 w1 x2 w2 y2 W).mono fun e W' ⟨he, hb⟩ => ?_
  subst he
  exact ⟨_, rfl, post_true hW' Try.laidOut u4 hAA (by decide +kernel) (by kernel_rfl) rfl rfl hb⟩

theorem dividesTimes_holds : Rows.DividesTimesSaid :=
  OpenClaim.holds_of_wide 17 Try.f17 rfl rfl rfl rfl rfl rfl rfl ⟨rfl, rfl, rfl, rfl, rfl⟩ rfl rfl rfl rfl rfl (by kernel_rfl) Try.func17 dividesTimes_facts
    (of_decide_eq_true (by kernel_rfl)) (by unfold Func.isWrapper; first | (rw [if_pos (by decide +kernel)]; kernel_rfl) | (rw [if_neg (by decide +kernel)]; exact ⟨rfl, rfl⟩))
    (fun os started H enc _ => dividesTimes_lifted os started H enc)
#print axioms dividesTimes_holds

end Go.Proofs.Ytdjnhnfofajpcaa
