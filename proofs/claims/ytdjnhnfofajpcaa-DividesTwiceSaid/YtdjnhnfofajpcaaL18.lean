/- The law DividesTwice, out of the evaluator. -/
import Derived.Test.YtdjnhnfofajpcaaFd
import Derived.Test.YtdjnhnfofajpcaaR1
namespace Go.Proofs.Ytdjnhnfofajpcaa
open Go Go.Proofs Go.ChangeShapes Go.WideShapes Go.ChangeAt Go.RowKit Av

theorem twice_law_p (a b c : Nat) (R : AV → Prop) (h : ((((decide (((b * c) % (115792089237316195423570985008687907853269984665640564039457584007913129639936 : Nat)) = (0 : Nat))) = Bool.true) → (R (AV.pv (PV.blit Bool.true)))) ∧ (((decide (((b * c) % (115792089237316195423570985008687907853269984665640564039457584007913129639936 : Nat)) = (0 : Nat))) = Bool.false) → ((((Bool.not (decide (((b * c) / (115792089237316195423570985008687907853269984665640564039457584007913129639936 : Nat)) = (0 : Nat)))) = Bool.true) → (R (AV.pv (PV.blit Bool.true)))) ∧ (((Bool.not (decide (((b * c) / (115792089237316195423570985008687907853269984665640564039457584007913129639936 : Nat)) = (0 : Nat)))) = Bool.false) → ((((decide ((if (b = (0 : Nat)) then (1 : Int) else (0 : Int)) = (0 : Int))) = Bool.true) ∧ (((decide ((if (c = (0 : Nat)) then (1 : Int) else (0 : Int)) = (0 : Int))) = Bool.true) ∧ (((decide ((if (((b * c) % (115792089237316195423570985008687907853269984665640564039457584007913129639936 : Nat)) = (0 : Nat)) then (1 : Int) else (0 : Int)) = (0 : Int))) = Bool.true) ∧ (((decide (((a / b) / c) = (a / ((b * c) % (115792089237316195423570985008687907853269984665640564039457584007913129639936 : Nat))))) = Bool.true) ∧ (((decide (((b * (if (c = (0 : Nat)) then (0 : Nat) else ((a / b) % c))) / (115792089237316195423570985008687907853269984665640564039457584007913129639936 : Nat)) = (0 : Nat))) = Bool.true) ∧ ((decide (((((b * (if (c = (0 : Nat)) then (0 : Nat) else ((a / b) % c))) % (115792089237316195423570985008687907853269984665640564039457584007913129639936 : Nat)) + (if (b = (0 : Nat)) then (0 : Nat) else (a % b))) / (115792089237316195423570985008687907853269984665640564039457584007913129639936 : Nat)) = (0 : Nat))) = Bool.true)))))) ∧ (R (AV.pv (PV.bool (decide ((if (((b * c) % (115792089237316195423570985008687907853269984665640564039457584007913129639936 : Nat)) = (0 : Nat)) then (0 : Nat) else (a % ((b * c) % (115792089237316195423570985008687907853269984665640564039457584007913129639936 : Nat)))) = ((((b * (if (c = (0 : Nat)) then (0 : Nat) else ((a / b) % c))) % (115792089237316195423570985008687907853269984665640564039457584007913129639936 : Nat)) + (if (b = (0 : Nat)) then (0 : Nat) else (a % b))) % (115792089237316195423570985008687907853269984665640564039457584007913129639936 : Nat))))))))))))) :
    awp [eAlive3, eOf3, eDiv, eMul, eAdd] [(75, true), (79, true), (83, true), (88, true), (93, true), (97, true)] [31] [] 200 (Try.f18.body.getD .skip) (fnPost Try.f18.results.toList R) (begins [.pv (.words .u64 4 a), .pv (.words .u64 4 b), .pv (.words .u64 4 c)] Try.f18.ntmps) :=
  Eq.mp (by kernel_rfl) (ai (ai tr (ai tr (ai tr (ai t2 tr)))) (ai (ai t2 (ai t2 (ai t2 (ai t2 (ai t2 (ai t2 (ai tr (ai tr (ai tr t2))))))))) (ai (fun (hk1 : ((decide (((b * c) % (115792089237316195423570985008687907853269984665640564039457584007913129639936 : Nat)) = (0 : Nat))) = Bool.true)) => (ai (ai t2 (ai t2 (ai t2 (ai (ai tr hk1) (ai tr (ai tr (ai tr (ai t2 tr)))))))) (ai (ai t2 (ai t2 tr)) (h.1 hk1)))) (fun (hk2 : ((decide (((b * c) % (115792089237316195423570985008687907853269984665640564039457584007913129639936 : Nat)) = (0 : Nat))) = Bool.false)) => (ai (ai t2 (ai t2 (ai t2 (ai (ai tr hk2) (ai t2 (ai t2 (ai t2 (ai t2 tr)))))))) (ai (fun (hk3 : ((Bool.not (decide (((b * c) / (115792089237316195423570985008687907853269984665640564039457584007913129639936 : Nat)) = (0 : Nat)))) = Bool.true)) => (ai (ai t2 (ai t2 tr)) ((h.2 hk2).1 hk3))) (fun (hk4 : ((Bool.not (decide (((b * c) / (115792089237316195423570985008687907853269984665640564039457584007913129639936 : Nat)) = (0 : Nat)))) = Bool.false)) => (ai (ai t2 (ai t2 (ai t2 (ai t2 (ai t2 (ai t2 (ai t2 (ai tr (ai tr (ai tr (ai tr (ai t2 tr)))))))))))) (ai (ai t2 (ai t2 (ai t2 (ai t2 (ai t2 (ai t2 (ai t2 (ai tr (ai tr (ai tr (ai tr (ai t2 tr)))))))))))) (ai (ai t2 (ai t2 (ai t2 (ai t2 (ai t2 (ai t2 (ai t2 (ai tr (ai tr (ai tr (ai tr (ai t2 tr)))))))))))) (ai (ai t2 (ai t2 (ai t2 (ai t2 (ai t2 (ai t2 (ai tr (ai tr (ai tr t2))))))))) (ai (ai t2 (ai t2 (ai t2 (ai t2 (ai t2 (ai t2 (ai tr (ai tr (ai t2 tr))))))))) (ai (ai t2 (ai t2 (ai t2 (ai t2 (ai t2 (ai (ai tr ((h.2 hk2).2 hk4).1.1) (ai t2 (ai t2 (ai t2 (ai (ai tr ((h.2 hk2).2 hk4).1.2.1) (ai t2 (ai t2 (ai t2 (ai (ai tr ((h.2 hk2).2 hk4).1.2.2.1) (ai t2 (ai t2 (ai t2 (ai t2 (ai (ai tr ((h.2 hk2).2 hk4).1.2.2.2.1) (ai t2 (ai t2 (ai t2 (ai t2 (ai (ai tr ((h.2 hk2).2 hk4).1.2.2.2.2.1) (ai t2 (ai t2 (ai t2 (ai (ai tr ((h.2 hk2).2 hk4).1.2.2.2.2.2) (ai t2 (ai t2 (ai t2 (ai t2 (ai t2 tr))))))))))))))))))))))))))))))))) ((h.2 hk2).2 hk4).2)))))))))))))


theorem room_of {x W : Nat} (hW : 0 < W) (h : (!(decide (x / W = 0))) = false) : x < W := by
  have h : ¬ W = 0 → x < W := by simpa using h
  exact h (by omega)
theorem twice_law_calls (a : Nat) (ha : WF .u64 4 a) (b : Nat) (hb : WF .u64 4 b) (c : Nat) (hc : WF .u64 4 c) (w : World) :
    Calls PP 18 #[.agg (cells .u64 4 a), .agg (cells .u64 4 b), .agg (cells .u64 4 c)] w fun e w' => e = .returned (.bool true) ∧ Below w.heap.size w w' := by
  refine law_calls (vs := [.agg (cells .u64 4 a), .agg (cells .u64 4 b), .agg (cells .u64 4 c)]) Try.func18 (by kernel_rfl) (TOK.cons eAlive3_ok (.cons eOf3_ok (.cons eDiv_ok (.cons eMul_ok (.cons eAdd_ok .nil)))))
    [.pv (.words .u64 4 a), .pv (.words .u64 4 b), .pv (.words .u64 4 c)] (by rw [Try.ntmps18]; simp) ⟨_, [31], [], 200, twice_law_p a b c _ ⟨fun _ => rfl, fun h => ⟨fun _ => rfl, fun h' => ?_⟩⟩⟩
    (.cons (argV_pv ⟨rfl, ha⟩) (.cons (argV_pv ⟨rfl, hb⟩) (.cons (argV_pv ⟨rfl, hc⟩) .nil)))
  have hr := room_of (by decide) h'
  have h0 := of_decide_eq_false h
  rw [Nat.mod_eq_of_lt hr] at h0 ⊢
  have hb0 : ¬ b = 0 := fun e => h0 (by rw [e, Nat.zero_mul])
  have hc0 : ¬ c = 0 := fun e => h0 (by rw [e, Nat.mul_zero])
  simp only [if_neg h0, if_neg hb0, if_neg hc0]
  have e : a % (b * c) = a % b + b * (a / b % c) := Nat.mod_mul
  have hl : a % (b * c) < b * c := Nat.mod_lt _ (by omega)
  have h1 : b * (a / b % c) < 115792089237316195423570985008687907853269984665640564039457584007913129639936 := by omega
  have h2 : b * (a / b % c) + a % b < 115792089237316195423570985008687907853269984665640564039457584007913129639936 := by omega
  rw [Nat.mod_eq_of_lt h1, Nat.mod_eq_of_lt h2, Nat.div_eq_of_lt h1, Nat.div_eq_of_lt h2, e, Nat.div_div_eq_div_mul]
  exact ⟨⟨by decide, by decide, by decide, decide_eq_true rfl, by decide, by decide⟩, rw_bool (decide_eq_true (Nat.add_comm _ _))⟩

theorem dividesTwice_fact0 : (Rows.dividesTwiceRow.wf (OpenSpec.ofChange Rows.dividesTwiceSpec)) = true := by kernel_rfl
theorem dividesTwice_fact3 : (Try.f18.params.all (Try.prog.readableRec ·)) = true := by kernel_rfl
theorem dividesTwice_fact4 : (namedTie Try.prog Rows.dividesTwiceRow.named Rows.dividesTwiceSpec.vars) = true := by kernel_rfl
theorem dividesTwice_fact5 : ((Rows.dividesTwiceRow.stops == [])) = true := by kernel_rfl
theorem dividesTwice_fact7 : ((Rows.dividesTwiceRow.knobs == [])) = true := by kernel_rfl
theorem dividesTwice_fact9 : ((Rows.dividesTwiceRow.inPlace == Try.prog.inPlace 18)) = true := by kernel_rfl
theorem dividesTwice_fact10 : ((Rows.dividesTwiceRow.unfollowed == Try.prog.unfollowed 18)) = true := by kernel_rfl
theorem dividesTwice_fact11 : ((Rows.dividesTwiceRow.recurses == Try.prog.recurses 18)) = true := by kernel_rfl
theorem dividesTwice_fact12 : ((Rows.dividesTwiceRow.named == Try.prog.varsNamed 18)) = true := by kernel_rfl
theorem dividesTwice_fact13 : ((Rows.dividesTwiceRow.maps == (Try.f18.params.toList ++ Rows.dividesTwiceSpec.plain.varTypes Try.prog).any (Try.prog.mapsRec ·))) = true := by kernel_rfl
theorem dividesTwice_fact14 : ((Rows.dividesTwiceRow.ifaces == (Try.f18.params.toList ++ Rows.dividesTwiceSpec.plain.varTypes Try.prog).any (Try.prog.ifacesRec ·))) = true := by kernel_rfl
theorem dividesTwice_fact15 : ((Rows.dividesTwiceRow.mapsOut == Try.prog.mapsAmong Try.f18.resultTypes.toList)) = true := by kernel_rfl
theorem dividesTwice_fact16 : ((Rows.dividesTwiceRow.loops == (Try.f18.params.toList ++ Rows.dividesTwiceSpec.plain.varTypes Try.prog).any (Try.prog.loopsFrom ·))) = true := by kernel_rfl
theorem dividesTwice_fact17 : ((Rows.dividesTwiceRow.wideKeys == (Try.f18.params.toList ++ Rows.dividesTwiceSpec.plain.varTypes Try.prog ++ Try.f18.resultTypes.toList).any (Try.prog.wideKeysFrom ·))) = true := by kernel_rfl
theorem dividesTwice_fact18 : (Rows.dividesTwiceSpec.vars.all (Try.prog.varReadable ·)) = true := by kernel_rfl
theorem dividesTwice_fact19 : (Try.f18.resultTypes.all (fun t => Try.prog.readableRec t && decide (t < Try.prog.types.size))) = true := by kernel_rfl
theorem dividesTwice_fact20 : ((Rows.dividesTwiceRow.ifacesOut == Try.f18.resultTypes.toList.any (Try.prog.ifacesRec ·))) = true := by kernel_rfl
theorem dividesTwice_fact21 : ((Rows.dividesTwiceRow.loopsOut == Try.f18.resultTypes.toList.any (Try.prog.loopsFrom ·))) = true := by kernel_rfl
theorem dividesTwice_fact22 : ((Rows.dividesTwiceRow.plainKeys == Try.prog.plainKeys)) = true := by kernel_rfl
theorem dividesTwice_fact23 : (Rows.dividesTwiceRow.shortTexts.isNone) = true := by kernel_rfl
theorem dividesTwice_fact26 : ((Rows.dividesTwiceRow.lifted == Try.prog.liftsFinal)) = true := by rw [final_ok _ _ io_words]; rfl
theorem dividesTwice_fact27 : ((Try.prog.make == some Rows.dividesTwiceRow.make)) = true := by rw [make_ok _ _ io_words]; rfl
theorem dividesTwice_fact29 : ((Rows.dividesTwiceRow.pinned == Rows.dividesTwiceRow.pinnedBy)) = true := by kernel_rfl
theorem dividesTwice_fact30 : ((Rows.dividesTwiceRow.veiled == (Try.f18.params.toList ++ Rows.dividesTwiceSpec.plain.varTypes Try.prog ++ Try.f18.resultTypes.toList).any (Try.prog.veiledRec ·))) = true := by kernel_rfl
theorem dividesTwice_fact31 : (Rows.dividesTwiceRow.veiledFits Try.prog Try.f18.params.toList (Try.f18.params.toList ++ Rows.dividesTwiceSpec.plain.varTypes Try.prog ++ Try.f18.resultTypes.toList)) = true := by kernel_rfl
theorem dividesTwice_facts : joinedFacts Try.prog 18 Try.f18 Rows.dividesTwiceSpec Rows.dividesTwiceRow = true := by
  unfold joinedFacts
  exact (and_t (and_t (and_t (and_t (and_t (and_t (and_t (and_t (and_t (and_t (and_t (and_t (and_t (and_t (and_t (and_t (and_t (and_t (and_t (and_t (and_t (and_t (and_t (and_t (and_t (and_t (and_t (and_t (and_t (and_t (and_t dividesTwice_fact0 pfact1) pfact2) dividesTwice_fact3) dividesTwice_fact4) dividesTwice_fact5) pfact6) dividesTwice_fact7) pfact8) dividesTwice_fact9) dividesTwice_fact10) dividesTwice_fact11) dividesTwice_fact12) dividesTwice_fact13) dividesTwice_fact14) dividesTwice_fact15) dividesTwice_fact16) dividesTwice_fact17) dividesTwice_fact18) dividesTwice_fact19) dividesTwice_fact20) dividesTwice_fact21) dividesTwice_fact22) dividesTwice_fact23) pfact24) pfact25) dividesTwice_fact26) dividesTwice_fact27) (kinds_ok rfl rfl)) dividesTwice_fact29) dividesTwice_fact30) dividesTwice_fact31)

set_option maxRecDepth 100000 in
theorem dividesTwice_lifted (os : Os) (started : os.Started) (H : Type) (enc : TypeId × Value → H) :
    ReturnsInHanded {} Try.checked os 18 .any (Rows.dividesTwiceSpec.pre6 enc Try.prog Try.f18 Rows.dividesTwiceRow.domain false) (Rows.dividesTwiceSpec.post enc Try.prog Try.f18 false true false false) := by
  refine returnsInHanded_of_change (C := Try.checked) Try.own started (by kernel_rfl) Try.func18
    (ChangeSpec.witness6 (enc := enc) (C := Try.checked) false ⟨#[], #[.agg (cells .u64 4 0), .agg (cells .u64 4 0), .agg (cells .u64 4 0)], []⟩ 8 (by kernel_rfl) (by kernel_rfl) (by kernel_rfl) (by kernel_rfl)) ?_
  intro W base args ds gs before hval0 hW hcnd _
  have hval : ∀ (j : Nat) t v, Try.f18.params[j]? = some t → args[j]? = some v → Value.okWide Try.prog W .any base t v := hval0
  have hW' := hW
  obtain ⟨p, q, hA0, hV, rfl, hfz, hnd⟩ := hW
  have hA : DataW.TrodAll enc Try.prog W 0 (fun _ => true) true Try.f18.params.toList args.toList ds p := hA0
  rw [Try.params18] at hA hval
  have hAA := hA
  obtain ⟨v0, vs0, d0, ds0, p0, q0, hargs, rfl, rfl, h0, r0⟩ := trodAll_cons hA
  obtain ⟨v1, vs1, d1, ds1, p1, q1, rfl, rfl, rfl, h1, r1⟩ := trodAll_cons r0
  obtain ⟨v2, vs2, d2, ds2, p2, q2, rfl, rfl, rfl, h2, r2⟩ := trodAll_cons r1
  obtain ⟨rfl, rfl, rfl⟩ := trodAll_nil r2
  obtain rfl : args = #[v0, v1, v2] := by cases args; simp_all
  obtain ⟨rfl, rfl⟩ := trodVars_none hV
  obtain ⟨x0, rfl, w0, rfl⟩ := open24 (hval 0 24 v0 rfl rfl) h0
  obtain ⟨x1, rfl, w1, rfl⟩ := open24 (hval 1 24 v1 rfl rfl) h1
  obtain ⟨x2, rfl, w2, rfl⟩ := open24 (hval 2 24 v2 rfl rfl) h2
  refine (twice_law_calls x0 w0 x1 w1 x2 w2 W).mono fun e W' ⟨he, hb⟩ => ?_
  subst he
  exact ⟨_, rfl, post_true hW' Try.laidOut u4 hAA (by decide +kernel) (by kernel_rfl) rfl rfl hb⟩

theorem dividesTwice_holds : Rows.DividesTwiceSaid :=
  OpenClaim.holds_of_wide 18 Try.f18 rfl rfl rfl rfl rfl rfl rfl ⟨rfl, rfl, rfl, rfl, rfl⟩ rfl rfl rfl rfl rfl (by kernel_rfl) Try.func18 dividesTwice_facts
    (of_decide_eq_true (by kernel_rfl)) (by unfold Func.isWrapper; first | (rw [if_pos (by decide +kernel)]; kernel_rfl) | (rw [if_neg (by decide +kernel)]; exact ⟨rfl, rfl⟩))
    (fun os started H enc _ => dividesTwice_lifted os started H enc)
#print axioms dividesTwice_holds

end Go.Proofs.Ytdjnhnfofajpcaa
