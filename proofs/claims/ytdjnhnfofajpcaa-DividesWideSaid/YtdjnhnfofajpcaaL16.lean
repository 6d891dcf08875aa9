/- The law DividesWide, out of the evaluator. -/
import Derived.Test.YtdjnhnfofajpcaaFd
import Derived.Test.YtdjnhnfofajpcaaR1
namespace Go.Proofs.Ytdjnhnfofajpcaa
open Go Go.Proofs Go.ChangeShapes Go.WideShapes Go.ChangeAt Go.RowKit Av

def wideN (low high m : Nat) : Nat := if m = 0 then 0 else (high * W + low) % m
def remN (a b : Nat) : Nat := if b = 0 then 0 else a % b
def eWideN : Entry := mk 55 [.n 4, .n 4, .n 4] fun (low high m : Nat) => (.tup2 (.words .u64 4 (wideN low high m)) (.int .i64 (if m = 0 then 1 else 0)), True)
def eDivN : Entry := mk 53 [.n 4, .n 4] fun (a b : Nat) => (.tup3 (.words .u64 4 (a / b)) (.words .u64 4 (remN a b)) (.int .i64 (if b = 0 then 1 else 0)), True)
theorem eWideN_ok : eWideN.OK := eWide_ok
theorem eDivN_ok : eDivN.OK := eDiv_ok

theorem wide_law_p (l : Nat) (R : AV → Prop) (h : ((((decide (((l / (1 : Nat)) % (115792089237316195423570985008687907853269984665640564039457584007913129639936 : Nat)) = (0 : Nat))) = Bool.true) → (R (AV.pv (PV.blit Bool.true)))) ∧ (((decide (((l / (1 : Nat)) % (115792089237316195423570985008687907853269984665640564039457584007913129639936 : Nat)) = (0 : Nat))) = Bool.false) → ((((decide ((if (((l / (1 : Nat)) % (115792089237316195423570985008687907853269984665640564039457584007913129639936 : Nat)) = (0 : Nat)) then (1 : Int) else (0 : Int)) = (0 : Int))) = Bool.true) ∧ (((decide ((if (((l / (1 : Nat)) % (115792089237316195423570985008687907853269984665640564039457584007913129639936 : Nat)) = (0 : Nat)) then (1 : Int) else (0 : Int)) = (0 : Int))) = Bool.true) ∧ (((decide ((Proofs.Ytdjnhnfofajpcaa.wideN ((((((l / (1 : Nat)) % (115792089237316195423570985008687907853269984665640564039457584007913129639936 : Nat)) * ((l / (115792089237316195423570985008687907853269984665640564039457584007913129639936 : Nat)) % (115792089237316195423570985008687907853269984665640564039457584007913129639936 : Nat))) % (115792089237316195423570985008687907853269984665640564039457584007913129639936 : Nat)) + (Proofs.Ytdjnhnfofajpcaa.remN ((l / (13407807929942597099574024998205846127479365820592393377723561443721764030073546976801874298166903427690031858186486050853753882811946569946433649006084096 : Nat)) % (115792089237316195423570985008687907853269984665640564039457584007913129639936 : Nat)) ((l / (1 : Nat)) % (115792089237316195423570985008687907853269984665640564039457584007913129639936 : Nat)))) % (115792089237316195423570985008687907853269984665640564039457584007913129639936 : Nat)) ((((((l / (1 : Nat)) % (115792089237316195423570985008687907853269984665640564039457584007913129639936 : Nat)) * ((l / (115792089237316195423570985008687907853269984665640564039457584007913129639936 : Nat)) % (115792089237316195423570985008687907853269984665640564039457584007913129639936 : Nat))) / (115792089237316195423570985008687907853269984665640564039457584007913129639936 : Nat)) + ((((((l / (1 : Nat)) % (115792089237316195423570985008687907853269984665640564039457584007913129639936 : Nat)) * ((l / (115792089237316195423570985008687907853269984665640564039457584007913129639936 : Nat)) % (115792089237316195423570985008687907853269984665640564039457584007913129639936 : Nat))) % (115792089237316195423570985008687907853269984665640564039457584007913129639936 : Nat)) + (Proofs.Ytdjnhnfofajpcaa.remN ((l / (13407807929942597099574024998205846127479365820592393377723561443721764030073546976801874298166903427690031858186486050853753882811946569946433649006084096 : Nat)) % (115792089237316195423570985008687907853269984665640564039457584007913129639936 : Nat)) ((l / (1 : Nat)) % (115792089237316195423570985008687907853269984665640564039457584007913129639936 : Nat)))) / (115792089237316195423570985008687907853269984665640564039457584007913129639936 : Nat))) % (115792089237316195423570985008687907853269984665640564039457584007913129639936 : Nat)) ((l / (1 : Nat)) % (115792089237316195423570985008687907853269984665640564039457584007913129639936 : Nat))) = (Proofs.Ytdjnhnfofajpcaa.remN ((l / (13407807929942597099574024998205846127479365820592393377723561443721764030073546976801874298166903427690031858186486050853753882811946569946433649006084096 : Nat)) % (115792089237316195423570985008687907853269984665640564039457584007913129639936 : Nat)) ((l / (1 : Nat)) % (115792089237316195423570985008687907853269984665640564039457584007913129639936 : Nat))))) = Bool.true) ∧ (((decide ((if (((l / (1 : Nat)) % (115792089237316195423570985008687907853269984665640564039457584007913129639936 : Nat)) = (0 : Nat)) then (1 : Int) else (0 : Int)) = (0 : Int))) = Bool.true) ∧ (((decide ((Proofs.Ytdjnhnfofajpcaa.wideN ((l / (13407807929942597099574024998205846127479365820592393377723561443721764030073546976801874298166903427690031858186486050853753882811946569946433649006084096 : Nat)) % (115792089237316195423570985008687907853269984665640564039457584007913129639936 : Nat)) (0 : Nat) ((l / (1 : Nat)) % (115792089237316195423570985008687907853269984665640564039457584007913129639936 : Nat))) = (Proofs.Ytdjnhnfofajpcaa.remN ((l / (13407807929942597099574024998205846127479365820592393377723561443721764030073546976801874298166903427690031858186486050853753882811946569946433649006084096 : Nat)) % (115792089237316195423570985008687907853269984665640564039457584007913129639936 : Nat)) ((l / (1 : Nat)) % (115792089237316195423570985008687907853269984665640564039457584007913129639936 : Nat))))) = Bool.true) ∧ ((decide ((if (((l / (1 : Nat)) % (115792089237316195423570985008687907853269984665640564039457584007913129639936 : Nat)) = (0 : Nat)) then (1 : Int) else (0 : Int)) = (0 : Int))) = Bool.true)))))) ∧ (R (AV.pv (PV.bool (decide ((Proofs.Ytdjnhnfofajpcaa.wideN (0 : Nat) ((l / (1 : Nat)) % (115792089237316195423570985008687907853269984665640564039457584007913129639936 : Nat)) ((l / (1 : Nat)) % (115792089237316195423570985008687907853269984665640564039457584007913129639936 : Nat))) = (0 : Nat)))))))))) :
    awp [eAlive3, eOf3, eDivN, eWideN, eMul, eAdd] [(77, true), (81, true), (86, true), (90, true), (95, true), (99, true)] [] [] 200 (Try.f16.body.getD .skip) (fnPost Try.f16.results.toList R) (begins [.pv (.words .u64 12 l)] Try.f16.ntmps) :=
  Eq.mp (by kernel_rfl) (ai (ai tr (ai t2 tr)) (ai (ai (ai (ai (show ((0 : Int) ≤ (0 : Int)) from by decide) (show ((1 : Int) ≤ (3 : Int)) from by decide)) tr) (ai (ai (show ((4 : Nat) ≤ (12 : Nat)) from by decide) tr) (ai tr t2))) (ai (ai t2 (ai t2 (ai t2 tr))) (ai (fun (hk1 : ((decide (((l / (1 : Nat)) % (115792089237316195423570985008687907853269984665640564039457584007913129639936 : Nat)) = (0 : Nat))) = Bool.true)) => (ai (ai t2 (ai t2 tr)) (h.1 hk1))) (fun (hk2 : ((decide (((l / (1 : Nat)) % (115792089237316195423570985008687907853269984665640564039457584007913129639936 : Nat)) = (0 : Nat))) = Bool.false)) => (ai (ai (ai (ai (show ((0 : Int) ≤ (2 : Int)) from by decide) (show ((3 : Int) ≤ (3 : Int)) from by decide)) tr) (ai (ai (show ((12 : Nat) ≤ (12 : Nat)) from by decide) tr) (ai t2 (ai t2 (ai t2 (ai t2 (ai t2 (ai t2 (ai tr (ai tr (ai tr (ai tr (ai t2 tr))))))))))))) (ai (ai t2 (ai (ai (ai (show ((0 : Int) ≤ (1 : Int)) from by decide) (show ((2 : Int) ≤ (3 : Int)) from by decide)) tr) (ai (ai (show ((8 : Nat) ≤ (12 : Nat)) from by decide) tr) (ai t2 (ai t2 (ai t2 (ai t2 (ai tr (ai tr (ai tr t2)))))))))) (ai (ai t2 (ai t2 (ai t2 (ai t2 (ai t2 (ai t2 (ai tr (ai t2 tr)))))))) (ai (ai t2 (ai t2 (ai t2 (ai t2 (ai t2 (ai t2 (ai t2 t2))))))) (ai (ai t2 (ai t2 (ai t2 (ai t2 (ai t2 (ai t2 (ai t2 (ai tr (ai tr (ai t2 tr)))))))))) (ai (ai (ai (ai (show ((0 : Int) ≤ (2 : Int)) from by decide) (show ((3 : Int) ≤ (3 : Int)) from by decide)) tr) (ai (ai (show ((12 : Nat) ≤ (12 : Nat)) from by decide) tr) (ai t2 (ai t2 (ai t2 (ai t2 (ai t2 (ai t2 (ai tr (ai tr (ai t2 tr))))))))))) (ai (ai t2 (ai t2 (ai t2 (ai t2 (ai t2 (ai t2 (ai t2 (ai tr (ai tr (ai t2 tr)))))))))) (ai (ai t2 (ai t2 (ai t2 (ai t2 (ai t2 (ai (ai tr (h.2 hk2).1.1) (ai t2 (ai t2 (ai t2 (ai (ai tr (h.2 hk2).1.2.1) (ai t2 (ai t2 (ai t2 (ai t2 (ai (ai tr (h.2 hk2).1.2.2.1) (ai t2 (ai t2 (ai t2 (ai (ai tr (h.2 hk2).1.2.2.2.1) (ai t2 (ai t2 (ai t2 (ai t2 (ai (ai tr (h.2 hk2).1.2.2.2.2.1) (ai t2 (ai t2 (ai t2 (ai (ai tr (h.2 hk2).1.2.2.2.2.2) (ai t2 (ai t2 (ai t2 (ai t2 (ai t2 tr))))))))))))))))))))))))))))))))) (h.2 hk2).2)))))))))))))


theorem whole_sum (P q : Nat) (hP : P ≤ 13407807929942597099574024998205846127479365820592393377723561443721764030073315392623399665776056285720014482370779510884422601683867654778417822746804225) (hq : q < 115792089237316195423570985008687907853269984665640564039457584007913129639936) :
    (P / 115792089237316195423570985008687907853269984665640564039457584007913129639936 + (P % 115792089237316195423570985008687907853269984665640564039457584007913129639936 + q) / 115792089237316195423570985008687907853269984665640564039457584007913129639936) % 115792089237316195423570985008687907853269984665640564039457584007913129639936 * 115792089237316195423570985008687907853269984665640564039457584007913129639936 + (P % 115792089237316195423570985008687907853269984665640564039457584007913129639936 + q) % 115792089237316195423570985008687907853269984665640564039457584007913129639936 = P + q := by omega
theorem W_le {a b : Nat} (ha : a < 115792089237316195423570985008687907853269984665640564039457584007913129639936) (hb : b < 115792089237316195423570985008687907853269984665640564039457584007913129639936) : a * b ≤ 13407807929942597099574024998205846127479365820592393377723561443721764030073315392623399665776056285720014482370779510884422601683867654778417822746804225 := by
  have := Nat.mul_le_mul (show a ≤ 115792089237316195423570985008687907853269984665640564039457584007913129639935 by omega) (show b ≤ 115792089237316195423570985008687907853269984665640564039457584007913129639935 by omega)
  exact Nat.le_trans this (by decide)
theorem wide_law_calls (l : Nat) (hl : WF .u64 12 l) (w : World) :
    Calls PP 16 #[.agg (cells .u64 12 l)] w fun e w' => e = .returned (.bool true) ∧ Below w.heap.size w w' := by
  refine law_calls (vs := [.agg (cells .u64 12 l)]) Try.func16 (by kernel_rfl) (TOK.cons eAlive3_ok (.cons eOf3_ok (.cons eDivN_ok (.cons eWideN_ok (.cons eMul_ok (.cons eAdd_ok .nil))))))
    [.pv (.words .u64 12 l)] (by rw [Try.ntmps16]; simp) ⟨_, [], [], 200, wide_law_p l _ ⟨fun _ => rfl, fun h => ?_⟩⟩ (.cons (argV_pv ⟨rfl, hl⟩) .nil)
  have h0 := of_decide_eq_false h
  clear h
  simp only [wideN, remN, if_neg h0]
  have hm : l / 1 % 115792089237316195423570985008687907853269984665640564039457584007913129639936 < 115792089237316195423570985008687907853269984665640564039457584007913129639936 := Nat.mod_lt _ (by decide)
  have hk : l / 115792089237316195423570985008687907853269984665640564039457584007913129639936 % 115792089237316195423570985008687907853269984665640564039457584007913129639936 < 115792089237316195423570985008687907853269984665640564039457584007913129639936 := Nat.mod_lt _ (by decide)
  generalize l / 1 % 115792089237316195423570985008687907853269984665640564039457584007913129639936 = m at *
  generalize l / 115792089237316195423570985008687907853269984665640564039457584007913129639936 % 115792089237316195423570985008687907853269984665640564039457584007913129639936 = k at *
  generalize l / 13407807929942597099574024998205846127479365820592393377723561443721764030073546976801874298166903427690031858186486050853753882811946569946433649006084096 % 115792089237316195423570985008687907853269984665640564039457584007913129639936 = c at *
  have hq : c % m < 115792089237316195423570985008687907853269984665640564039457584007913129639936 := Nat.lt_trans (Nat.mod_lt _ (by omega)) hm
  refine ⟨⟨by decide, by decide, decide_eq_true ?_, by decide, decide_eq_true ?_, by decide⟩, rw_bool (decide_eq_true ?_)⟩
  · rw [whole_sum _ _ (W_le hm hk) hq, Nat.mul_add_mod, Nat.mod_mod]
  · rw [Nat.zero_mul, Nat.zero_add]
  · rw [Nat.add_zero, Nat.mul_mod_right]

theorem dividesWide_fact0 : (Rows.dividesWideRow.wf (OpenSpec.ofChange Rows.dividesWideSpec)) = true := by kernel_rfl
theorem dividesWide_fact3 : (Try.f16.params.all (Try.prog.readableRec ·)) = true := by kernel_rfl
theorem dividesWide_fact4 : (namedTie Try.prog Rows.dividesWideRow.named Rows.dividesWideSpec.vars) = true := by kernel_rfl
theorem dividesWide_fact5 : ((Rows.dividesWideRow.stops == [])) = true := by kernel_rfl
theorem dividesWide_fact7 : ((Rows.dividesWideRow.knobs == [])) = true := by kernel_rfl
theorem dividesWide_fact9 : ((Rows.dividesWideRow.inPlace == Try.prog.inPlace 16)) = true := by kernel_rfl
theorem dividesWide_fact10 : ((Rows.dividesWideRow.unfollowed == Try.prog.unfollowed 16)) = true := by kernel_rfl
theorem dividesWide_fact11 : ((Rows.dividesWideRow.recurses == Try.prog.recurses 16)) = true := by kernel_rfl
theorem dividesWide_fact12 : ((Rows.dividesWideRow.named == Try.prog.varsNamed 16)) = true := by kernel_rfl
theorem dividesWide_fact13 : ((Rows.dividesWideRow.maps == (Try.f16.params.toList ++ Rows.dividesWideSpec.plain.varTypes Try.prog).any (Try.prog.mapsRec ·))) = true := by kernel_rfl
theorem dividesWide_fact14 : ((Rows.dividesWideRow.ifaces == (Try.f16.params.toList ++ Rows.dividesWideSpec.plain.varTypes Try.prog).any (Try.prog.ifacesRec ·))) = true := by kernel_rfl
theorem dividesWide_fact15 : ((Rows.dividesWideRow.mapsOut == Try.prog.mapsAmong Try.f16.resultTypes.toList)) = true := by kernel_rfl
theorem dividesWide_fact16 : ((Rows.dividesWideRow.loops == (Try.f16.params.toList ++ Rows.dividesWideSpec.plain.varTypes Try.prog).any (Try.prog.loopsFrom ·))) = true := by kernel_rfl
theorem dividesWide_fact17 : ((Rows.dividesWideRow.wideKeys == (Try.f16.params.toList ++ Rows.dividesWideSpec.plain.varTypes Try.prog ++ Try.f16.resultTypes.toList).any (Try.prog.wideKeysFrom ·))) = true := by kernel_rfl
theorem dividesWide_fact18 : (Rows.dividesWideSpec.vars.all (Try.prog.varReadable ·)) = true := by kernel_rfl
theorem dividesWide_fact19 : (Try.f16.resultTypes.all (fun t => Try.prog.readableRec t && decide (t < Try.prog.types.size))) = true := by kernel_rfl
theorem dividesWide_fact20 : ((Rows.dividesWideRow.ifacesOut == Try.f16.resultTypes.toList.any (Try.prog.ifacesRec ·))) = true := by kernel_rfl
theorem dividesWide_fact21 : ((Rows.dividesWideRow.loopsOut == Try.f16.resultTypes.toList.any (Try.prog.loopsFrom ·))) = true := by kernel_rfl
theorem dividesWide_fact22 : ((Rows.dividesWideRow.plainKeys == Try.prog.plainKeys)) = true := by kernel_rfl
theorem dividesWide_fact23 : (Rows.dividesWideRow.shortTexts.isNone) = true := by kernel_rfl
theorem dividesWide_fact26 : ((Rows.dividesWideRow.lifted == Try.prog.liftsFinal)) = true := by rw [final_ok _ _ io_words]; rfl
theorem dividesWide_fact27 : ((Try.prog.make == some Rows.dividesWideRow.make)) = true := by rw [make_ok _ _ io_words]; rfl
theorem dividesWide_fact29 : ((Rows.dividesWideRow.pinned == Rows.dividesWideRow.pinnedBy)) = true := by kernel_rfl
theorem dividesWide_fact30 : ((Rows.dividesWideRow.veiled == (Try.f16.params.toList ++ Rows.dividesWideSpec.plain.varTypes Try.prog ++ Try.f16.resultTypes.toList).any (Try.prog.veiledRec ·))) = true := by kernel_rfl
theorem dividesWide_fact31 : (Rows.dividesWideRow.veiledFits Try.prog Try.f16.params.toList (Try.f16.params.toList ++ Rows.dividesWideSpec.plain.varTypes Try.prog ++ Try.f16.resultTypes.toList)) = true := by kernel_rfl
theorem dividesWide_facts : joinedFacts Try.prog 16 Try.f16 Rows.dividesWideSpec Rows.dividesWideRow = true := by
  unfold joinedFacts
  exact (and_t (and_t (and_t (and_t (and_t (and_t (and_t (and_t (and_t (and_t (and_t (and_t (and_t (and_t (and_t (and_t (and_t (and_t (and_t (and_t (and_t (and_t (and_t (and_t (and_t (and_t (and_t (and_t (and_t (and_t (and_t dividesWide_fact0 pfact1) pfact2) dividesWide_fact3) dividesWide_fact4) dividesWide_fact5) pfact6) dividesWide_fact7) pfact8) dividesWide_fact9) dividesWide_fact10) dividesWide_fact11) dividesWide_fact12) dividesWide_fact13) dividesWide_fact14) dividesWide_fact15) dividesWide_fact16) dividesWide_fact17) dividesWide_fact18) dividesWide_fact19) dividesWide_fact20) dividesWide_fact21) dividesWide_fact22) dividesWide_fact23) pfact24) pfact25) dividesWide_fact26) dividesWide_fact27) (kinds_ok rfl rfl)) dividesWide_fact29) dividesWide_fact30) dividesWide_fact31)

set_option maxRecDepth 100000 in
theorem dividesWide_lifted (os : Os) (started : os.Started) (H : Type) (enc : TypeId × Value → H) :
    ReturnsInHanded {} Try.checked os 16 .any (Rows.dividesWideSpec.pre6 enc Try.prog Try.f16 Rows.dividesWideRow.domain false) (Rows.dividesWideSpec.post enc Try.prog Try.f16 false true false false) := by
  refine returnsInHanded_of_change (C := Try.checked) Try.own started (by kernel_rfl) Try.func16
    (ChangeSpec.witness6 (enc := enc) (C := Try.checked) false ⟨#[], #[.agg (cells .u64 12 0)], []⟩ 8 (by kernel_rfl) (by kernel_rfl) (by kernel_rfl) (by kernel_rfl)) ?_
  intro W base args ds gs before hval0 hW hcnd _
  have hval : ∀ (j : Nat) t v, Try.f16.params[j]? = some t → args[j]? = some v → Value.okWide Try.prog W .any base t v := hval0
  have hW' := hW
  obtain ⟨p, q, hA0, hV, rfl, hfz, hnd⟩ := hW
  have hA : DataW.TrodAll enc Try.prog W 0 (fun _ => true) true Try.f16.params.toList args.toList ds p := hA0
  rw [Try.params16] at hA hval
  have hAA := hA
  obtain ⟨v0, vs0, d0, ds0, p0, q0, hargs, rfl, rfl, h0, r0⟩ := trodAll_cons hA
  obtain ⟨rfl, rfl, rfl⟩ := trodAll_nil r0
  obtain rfl : args = #[v0] := by cases args; simp_all
  obtain ⟨rfl, rfl⟩ := trodVars_none hV
  obtain ⟨x0, rfl, w0, rfl⟩ := open36 (hval 0 36 v0 rfl rfl) h0
  refine (wide_law_calls x0 w0 W).mono fun e W' ⟨he, hb⟩ => ?_
  subst he
  exact ⟨_, rfl, post_true hW' Try.laidOut u4 hAA (by decide +kernel) (by kernel_rfl) rfl rfl hb⟩

theorem dividesWide_holds : Rows.DividesWideSaid :=
  OpenClaim.holds_of_wide 16 Try.f16 rfl rfl rfl rfl rfl rfl rfl ⟨rfl, rfl, rfl, rfl, rfl⟩ rfl rfl rfl rfl rfl (by kernel_rfl) Try.func16 dividesWide_facts
    (of_decide_eq_true (by kernel_rfl)) (by unfold Func.isWrapper; first | (rw [if_pos (by decide +kernel)]; kernel_rfl) | (rw [if_neg (by decide +kernel)]; exact ⟨rfl, rfl⟩))
    (fun os started H enc _ => dividesWide_lifted os started H enc)
#print axioms dividesWide_holds

end Go.Proofs.Ytdjnhnfofajpcaa
