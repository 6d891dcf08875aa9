/- The law ScalarsNext, out of the evaluator. -/
import Derived.Test.YtdjnhnfofajpcaaFk
namespace Go.Proofs.Ytdjnhnfofajpcaa
open Go Go.Proofs Go.ChangeShapes Go.WideShapes Go.ChangeAt Go.RowKit Av

theorem snext_p (N : Nat) (n : Int) (R : AV → Prop) (h : ((((decide ((if (((N / (115792089237316195423570985008687907853269984665640564039457584007913129639936 : Nat)) % (115792089237316195423570985008687907853269984665640564039457584007913129639936 : Nat)) < (1 : Nat)) then (-1 : Int) else (if (((N / (115792089237316195423570985008687907853269984665640564039457584007913129639936 : Nat)) % (115792089237316195423570985008687907853269984665640564039457584007913129639936 : Nat)) = (1 : Nat)) then (0 : Int) else (1 : Int))) ≤ (0 : Int))) = Bool.true) → (R (AV.pv (PV.blit Bool.true)))) ∧ (((decide ((if (((N / (115792089237316195423570985008687907853269984665640564039457584007913129639936 : Nat)) % (115792089237316195423570985008687907853269984665640564039457584007913129639936 : Nat)) < (1 : Nat)) then (-1 : Int) else (if (((N / (115792089237316195423570985008687907853269984665640564039457584007913129639936 : Nat)) % (115792089237316195423570985008687907853269984665640564039457584007913129639936 : Nat)) = (1 : Nat)) then (0 : Int) else (1 : Int))) ≤ (0 : Int))) = Bool.false) → ((((decide (n = (9223372036854775807 : Int))) = Bool.true) → (R (AV.pv (PV.blit Bool.true)))) ∧ (((decide (n = (9223372036854775807 : Int))) = Bool.false) → ((((decide (n = (-9223372036854775808 : Int))) = Bool.true) → (R (AV.pv (PV.blit Bool.true)))) ∧ (((decide (n = (-9223372036854775808 : Int))) = Bool.false) → (((IntKind.wrap IntKind.i64 (n + (1 : Int))) = (n + (1 : Int))) ∧ (((IntKind.wrap IntKind.i64 (-n)) = (-n)) ∧ ((((decide ((Proofs.Ytdjnhnfofajpcaa.ofZ (Proofs.Ytdjnhnfofajpcaa.qN N) (n + (1 : Int))) = (0 : Nat))) = Bool.true) → ((((decide ((Proofs.Ytdjnhnfofajpcaa.errM (Proofs.Ytdjnhnfofajpcaa.ofZ (Proofs.Ytdjnhnfofajpcaa.qN N) n) (1 : Nat) (Proofs.Ytdjnhnfofajpcaa.qN N)) = (0 : Int))) = Bool.true) ∧ (((decide ((Proofs.Ytdjnhnfofajpcaa.errM (Proofs.Ytdjnhnfofajpcaa.ofZ (Proofs.Ytdjnhnfofajpcaa.qN N) n) (Proofs.Ytdjnhnfofajpcaa.ofZ (Proofs.Ytdjnhnfofajpcaa.qN N) (-n)) (Proofs.Ytdjnhnfofajpcaa.qN N)) = (0 : Int))) = Bool.true) ∧ (((decide ((Proofs.Ytdjnhnfofajpcaa.addM (Proofs.Ytdjnhnfofajpcaa.ofZ (Proofs.Ytdjnhnfofajpcaa.qN N) n) (1 : Nat) (Proofs.Ytdjnhnfofajpcaa.qN N)) = (Proofs.Ytdjnhnfofajpcaa.ofZ (Proofs.Ytdjnhnfofajpcaa.qN N) (n + (1 : Int))))) = Bool.true) ∧ ((decide ((Proofs.Ytdjnhnfofajpcaa.addM (Proofs.Ytdjnhnfofajpcaa.ofZ (Proofs.Ytdjnhnfofajpcaa.qN N) n) (Proofs.Ytdjnhnfofajpcaa.ofZ (Proofs.Ytdjnhnfofajpcaa.qN N) (-n)) (Proofs.Ytdjnhnfofajpcaa.qN N)) = (0 : Nat))) = Bool.true)))) ∧ (R (AV.pv (PV.blit Bool.true))))) ∧ (((decide ((Proofs.Ytdjnhnfofajpcaa.ofZ (Proofs.Ytdjnhnfofajpcaa.qN N) (n + (1 : Int))) = (0 : Nat))) = Bool.false) → ((((decide ((Proofs.Ytdjnhnfofajpcaa.errM (Proofs.Ytdjnhnfofajpcaa.ofZ (Proofs.Ytdjnhnfofajpcaa.qN N) n) (1 : Nat) (Proofs.Ytdjnhnfofajpcaa.qN N)) = (0 : Int))) = Bool.true) ∧ (((decide ((Proofs.Ytdjnhnfofajpcaa.errM (Proofs.Ytdjnhnfofajpcaa.ofZ (Proofs.Ytdjnhnfofajpcaa.qN N) n) (Proofs.Ytdjnhnfofajpcaa.ofZ (Proofs.Ytdjnhnfofajpcaa.qN N) (-n)) (Proofs.Ytdjnhnfofajpcaa.qN N)) = (0 : Int))) = Bool.true) ∧ (((decide ((Proofs.Ytdjnhnfofajpcaa.addM (Proofs.Ytdjnhnfofajpcaa.ofZ (Proofs.Ytdjnhnfofajpcaa.qN N) n) (1 : Nat) (Proofs.Ytdjnhnfofajpcaa.qN N)) = (Proofs.Ytdjnhnfofajpcaa.ofZ (Proofs.Ytdjnhnfofajpcaa.qN N) (n + (1 : Int))))) = Bool.true) ∧ ((decide ((Proofs.Ytdjnhnfofajpcaa.addM (Proofs.Ytdjnhnfofajpcaa.ofZ (Proofs.Ytdjnhnfofajpcaa.qN N) n) (Proofs.Ytdjnhnfofajpcaa.ofZ (Proofs.Ytdjnhnfofajpcaa.qN N) (-n)) (Proofs.Ytdjnhnfofajpcaa.qN N)) = (0 : Nat))) = Bool.true)))) ∧ (R (AV.pv (PV.bool (decide ((if ((Proofs.Ytdjnhnfofajpcaa.ofZ (Proofs.Ytdjnhnfofajpcaa.qN N) n) < (Proofs.Ytdjnhnfofajpcaa.ofZ (Proofs.Ytdjnhnfofajpcaa.qN N) (n + (1 : Int)))) then (-1 : Int) else (if ((Proofs.Ytdjnhnfofajpcaa.ofZ (Proofs.Ytdjnhnfofajpcaa.qN N) n) = (Proofs.Ytdjnhnfofajpcaa.ofZ (Proofs.Ytdjnhnfofajpcaa.qN N) (n + (1 : Int)))) then (0 : Int) else (1 : Int))) < (0 : Int)))))))))))))))))) :
    awp [eOf9, eCmp, eAlive9, eSAdd, eSSub, eSInv, eSMul, eSOf] [(50, true), (54, true), (58, true), (63, true), (68, true)] [16, 20, 72] [] 300 (Try.f29.body.getD .skip) (fnPost Try.f29.results.toList R) (begins [.pv (.words .u64 16 N), .pv (.int .i64 n)] Try.f29.ntmps) :=
  Eq.mp (by kernel_rfl) (ai (ai tr (ai t2 tr)) (ai (fun (hk1 : ((decide ((if (((N / (115792089237316195423570985008687907853269984665640564039457584007913129639936 : Nat)) % (115792089237316195423570985008687907853269984665640564039457584007913129639936 : Nat)) < (1 : Nat)) then (-1 : Int) else (if (((N / (115792089237316195423570985008687907853269984665640564039457584007913129639936 : Nat)) % (115792089237316195423570985008687907853269984665640564039457584007913129639936 : Nat)) = (1 : Nat)) then (0 : Int) else (1 : Int))) ≤ (0 : Int))) = Bool.true)) => (ai (ai t2 (ai (ai (show ((8 : Nat) ≤ (16 : Nat)) from by decide) tr) (ai t2 (ai t2 (ai t2 (ai (ai tr hk1) (ai tr (ai tr (ai t2 (ai t2 (ai tr (ai tr (ai t2 tr))))))))))))) (ai (ai t2 (ai t2 tr)) (h.1 hk1)))) (fun (hk2 : ((decide ((if (((N / (115792089237316195423570985008687907853269984665640564039457584007913129639936 : Nat)) % (115792089237316195423570985008687907853269984665640564039457584007913129639936 : Nat)) < (1 : Nat)) then (-1 : Int) else (if (((N / (115792089237316195423570985008687907853269984665640564039457584007913129639936 : Nat)) % (115792089237316195423570985008687907853269984665640564039457584007913129639936 : Nat)) = (1 : Nat)) then (0 : Int) else (1 : Int))) ≤ (0 : Int))) = Bool.false)) => (ai (fun (hk3 : ((decide (n = (9223372036854775807 : Int))) = Bool.true)) => (ai (ai t2 (ai (ai (show ((8 : Nat) ≤ (16 : Nat)) from by decide) tr) (ai t2 (ai t2 (ai t2 (ai (ai tr hk2) (ai t2 (ai t2 (ai t2 (ai (ai tr hk3) (ai tr (ai tr (ai t2 tr))))))))))))) (ai (ai t2 (ai t2 tr)) ((h.2 hk2).1 hk3)))) (fun (hk4 : ((decide (n = (9223372036854775807 : Int))) = Bool.false)) => (ai (ai t2 (ai (ai (show ((8 : Nat) ≤ (16 : Nat)) from by decide) tr) (ai t2 (ai t2 (ai t2 (ai (ai tr hk2) (ai t2 (ai t2 (ai t2 (ai (ai tr hk4) (ai t2 (ai t2 (ai t2 tr))))))))))))) (ai (fun (hk5 : ((decide (n = (-9223372036854775808 : Int))) = Bool.true)) => (ai (ai t2 (ai t2 tr)) (((h.2 hk2).2 hk4).1 hk5))) (fun (hk6 : ((decide (n = (-9223372036854775808 : Int))) = Bool.false)) => (ai (ai t2 (ai t2 (ai t2 (ai tr t2)))) (ai (ai t2 (ai t2 (ai (ai (((h.2 hk2).2 hk4).2 hk6).1 tr) (ai t2 (ai tr t2))))) (ai (ai t2 (ai t2 (ai t2 (ai t2 (ai t2 (ai t2 (ai t2 (ai tr (ai tr (ai t2 tr)))))))))) (ai (ai t2 (ai t2 (ai t2 (ai t2 (ai (ai (((h.2 hk2).2 hk4).2 hk6).2.1 tr) (ai t2 (ai t2 (ai t2 (ai t2 (ai t2 (ai tr (ai tr (ai t2 tr))))))))))))) (ai (fun (hk7 : ((decide ((Proofs.Ytdjnhnfofajpcaa.ofZ (Proofs.Ytdjnhnfofajpcaa.qN N) (n + (1 : Int))) = (0 : Nat))) = Bool.true)) => (ai (ai t2 (ai t2 (ai t2 (ai t2 (ai t2 (ai (ai tr ((((h.2 hk2).2 hk4).2 hk6).2.2.1 hk7).1.1) (ai t2 (ai t2 (ai t2 (ai (ai tr ((((h.2 hk2).2 hk4).2 hk6).2.2.1 hk7).1.2.1) (ai t2 (ai t2 (ai t2 (ai t2 (ai (ai tr ((((h.2 hk2).2 hk4).2 hk6).2.2.1 hk7).1.2.2.1) (ai t2 (ai t2 (ai t2 (ai t2 (ai (ai tr ((((h.2 hk2).2 hk4).2 hk6).2.2.1 hk7).1.2.2.2) (ai t2 (ai t2 (ai t2 (ai (ai tr hk7) (ai tr (ai tr (ai tr (ai tr (ai t2 (ai t2 (ai t2 tr))))))))))))))))))))))))))))))) ((((h.2 hk2).2 hk4).2 hk6).2.2.1 hk7).2)) (fun (hk8 : ((decide ((Proofs.Ytdjnhnfofajpcaa.ofZ (Proofs.Ytdjnhnfofajpcaa.qN N) (n + (1 : Int))) = (0 : Nat))) = Bool.false)) => (ai (ai t2 (ai t2 (ai t2 (ai t2 (ai t2 (ai (ai tr ((((h.2 hk2).2 hk4).2 hk6).2.2.2 hk8).1.1) (ai t2 (ai t2 (ai t2 (ai (ai tr ((((h.2 hk2).2 hk4).2 hk6).2.2.2 hk8).1.2.1) (ai t2 (ai t2 (ai t2 (ai t2 (ai (ai tr ((((h.2 hk2).2 hk4).2 hk6).2.2.2 hk8).1.2.2.1) (ai t2 (ai t2 (ai t2 (ai t2 (ai (ai tr ((((h.2 hk2).2 hk4).2 hk6).2.2.2 hk8).1.2.2.2) (ai t2 (ai t2 (ai t2 (ai (ai tr hk8) (ai t2 (ai t2 (ai t2 (ai t2 (ai t2 (ai t2 (ai t2 tr))))))))))))))))))))))))))))))) ((((h.2 hk2).2 hk4).2 hk6).2.2.2 hk8).2)))))))))))))))


theorem natmod (m n : Nat) : ((m % n : Nat) : Int) = (m : Int) % (n : Int) := rfl
theorem ofZ_at {q : Nat} (hq : 1 < q) (n : Int) : ofZ q n < q ∧ ((ofZ q n : Nat) : Int) = n % (q : Int) := by
  unfold ofZ
  rw [if_neg (by omega)]
  by_cases h : n < 0
  · rw [if_pos h]
    refine ⟨Nat.mod_lt _ (by omega), ?_⟩
    obtain ⟨m, hm, h3⟩ : ∃ m : Nat, n.natAbs = m ∧ n = -(m : Int) := ⟨_, rfl, by omega⟩
    rw [hm, h3]
    clear hm h3 h
    have h1 : m % q < q := Nat.mod_lt _ (by omega)
    have h2 := Nat.div_add_mod m q
    have h4 : ((q * (m / q) + m % q : Nat) : Int) = (m : Int) := by rw [h2]
    rw [natmod, Int.natCast_sub (Nat.le_of_lt h1)]
    clear h2
    generalize m % q = r at *
    generalize m / q = k at *
    simp only [Int.natCast_add, Int.natCast_mul] at h4
    rw [← h4, show -((q : Int) * (k : Int) + (r : Int)) = ((q : Int) - r) + q * (-k - 1) by grind, Int.add_mul_emod_self_left]
  · rw [if_neg h]
    refine ⟨Nat.mod_lt _ (by omega), ?_⟩
    rw [natmod, show ((n.natAbs : Nat) : Int) = n by omega]
theorem ofZ_eq {q x : Nat} (hq : 1 < q) {n : Int} (hx : x < q) (h : ((x : Nat) : Int) % (q : Int) = n % (q : Int)) : x = ofZ q n := by
  have h1 := (ofZ_at hq n).2
  rw [← h, Int.emod_eq_of_lt (by omega) (by omega)] at h1
  omega
theorem ofZ_add {q : Nat} (hq : 1 < q) (m n : Int) : addM (ofZ q m) (ofZ q n) q = ofZ q (m + n) := by
  obtain ⟨h1, h2⟩ := ofZ_at hq m
  obtain ⟨h3, h4⟩ := ofZ_at hq n
  rw [addM_in hq h1 h3]
  refine ofZ_eq hq (Nat.mod_lt _ (by omega)) ?_
  rw [natmod, Int.natCast_add, h2, h4, Int.emod_emod, ← Int.add_emod]
theorem ofZ_one {q : Nat} (hq : 1 < q) : ofZ q 1 = 1 := (ofZ_eq hq hq rfl).symm
theorem ofZ_zero {q : Nat} (hq : 1 < q) : ofZ q 0 = 0 := (ofZ_eq (x := 0) hq (by omega) rfl).symm
theorem snext_law_calls (N : Nat) (hN : WF .u64 16 N) (n : Int) (h1 : IntKind.min .i64 ≤ n) (h2 : n ≤ IntKind.max .i64) (w : World) :
    Calls PP 29 #[.agg (cells .u64 16 N), .int .i64 n] w fun e w' => e = .returned (.bool true) ∧ Below w.heap.size w w' := by
  have hn : inR .i64 n := by
    simp [IntKind.min, IntKind.max, IntKind.signed, IntKind.bits] at h1 h2
    exact i64_ok (by omega) (by omega)
  refine law_calls (vs := [.agg (cells .u64 16 N), .int .i64 n]) Try.func29 (by kernel_rfl) (TOK.cons eOf9_ok (.cons eCmp_ok (.cons eAlive9_ok (.cons eSAdd_ok (.cons eSSub_ok (.cons eSInv_ok (.cons eSMul_ok (.cons eSOf_ok .nil))))))))
    [.pv (.words .u64 16 N), .pv (.int .i64 n)] (by rw [Try.ntmps29]; simp) ⟨_, [16, 20, 72], [], 300, snext_p N n _ ⟨fun _ => rfl, fun h => ⟨fun _ => rfl, fun h3 => ⟨fun _ => rfl, fun h4 => ?_⟩⟩⟩⟩ (.cons (argV_pv ⟨rfl, hN⟩) (.cons (argV_pv ⟨rfl, hn⟩) .nil))
  have hq : 1 < qN N := top_le h
  clear h
  have hnn := inR_i64 hn
  have h3 := of_decide_eq_false h3
  have h4 := of_decide_eq_false h4
  generalize qN N = q at *
  obtain ⟨x1, x2⟩ := ofZ_at hq n
  obtain ⟨y1, y2⟩ := ofZ_at hq (n + 1)
  obtain ⟨z1, _⟩ := ofZ_at hq (-n)
  have e1 : addM (ofZ q n) 1 q = ofZ q (n + 1) := by
    have := ofZ_add hq n 1
    rwa [ofZ_one hq] at this
  have e2 : addM (ofZ q n) (ofZ q (-n)) q = 0 := by rw [ofZ_add hq, Int.add_right_neg, ofZ_zero hq]
  have all := And.intro (e_ok hq x1 hq) (And.intro (e_ok hq x1 z1) (And.intro (decide_eq_true e1) (decide_eq_true e2)))
  refine ⟨i64_ok (by omega) (by omega), i64_ok (by omega) (by omega), fun _ => ⟨all, rfl⟩, fun h5 => ⟨all, rw_bool (decide_eq_true ?_)⟩⟩
  have h5 := of_decide_eq_false h5
  rw [addM_in hq x1 hq] at e1
  have h6 : ofZ q n + 1 < q := by
    refine Decidable.byContradiction fun h6 => h5 ?_
    rw [← e1, show ofZ q n + 1 = q by omega, Nat.mod_self]
  rw [Nat.mod_eq_of_lt h6] at e1
  rw [if_pos (by omega)]
  decide

theorem scalarsNext_fact0 : (Rows.scalarsNextRow.wf (OpenSpec.ofChange Rows.scalarsNextSpec)) = true := by kernel_rfl
theorem scalarsNext_fact3 : (Try.f29.params.all (Try.prog.readableRec ·)) = true := by kernel_rfl
theorem scalarsNext_fact4 : (namedTie Try.prog Rows.scalarsNextRow.named Rows.scalarsNextSpec.vars) = true := by kernel_rfl
theorem scalarsNext_fact5 : ((Rows.scalarsNextRow.stops == [])) = true := by kernel_rfl
theorem scalarsNext_fact7 : ((Rows.scalarsNextRow.knobs == [])) = true := by kernel_rfl
theorem scalarsNext_fact9 : ((Rows.scalarsNextRow.inPlace == Try.prog.inPlace 29)) = true := by kernel_rfl
theorem scalarsNext_fact10 : ((Rows.scalarsNextRow.unfollowed == Try.prog.unfollowed 29)) = true := by kernel_rfl
theorem scalarsNext_fact11 : ((Rows.scalarsNextRow.recurses == Try.prog.recurses 29)) = true := by kernel_rfl
theorem scalarsNext_fact12 : ((Rows.scalarsNextRow.named == Try.prog.varsNamed 29)) = true := by kernel_rfl
theorem scalarsNext_fact13 : ((Rows.scalarsNextRow.maps == (Try.f29.params.toList ++ Rows.scalarsNextSpec.plain.varTypes Try.prog).any (Try.prog.mapsRec ·))) = true := by kernel_rfl
theorem scalarsNext_fact14 : ((Rows.scalarsNextRow.ifaces == (Try.f29.params.toList ++ Rows.scalarsNextSpec.plain.varTypes Try.prog).any (Try.prog.ifacesRec ·))) = true := by kernel_rfl
theorem scalarsNext_fact15 : ((Rows.scalarsNextRow.mapsOut == Try.prog.mapsAmong Try.f29.resultTypes.toList)) = true := by kernel_rfl
theorem scalarsNext_fact16 : ((Rows.scalarsNextRow.loops == (Try.f29.params.toList ++ Rows.scalarsNextSpec.plain.varTypes Try.prog).any (Try.prog.loopsFrom ·))) = true := by kernel_rfl
theorem scalarsNext_fact17 : ((Rows.scalarsNextRow.wideKeys == (Try.f29.params.toList ++ Rows.scalarsNextSpec.plain.varTypes Try.prog ++ Try.f29.resultTypes.toList).any (Try.prog.wideKeysFrom ·))) = true := by kernel_rfl
theorem scalarsNext_fact18 : (Rows.scalarsNextSpec.vars.all (Try.prog.varReadable ·)) = true := by kernel_rfl
theorem scalarsNext_fact19 : (Try.f29.resultTypes.all (fun t => Try.prog.readableRec t && decide (t < Try.prog.types.size))) = true := by kernel_rfl
theorem scalarsNext_fact20 : ((Rows.scalarsNextRow.ifacesOut == Try.f29.resultTypes.toList.any (Try.prog.ifacesRec ·))) = true := by kernel_rfl
theorem scalarsNext_fact21 : ((Rows.scalarsNextRow.loopsOut == Try.f29.resultTypes.toList.any (Try.prog.loopsFrom ·))) = true := by kernel_rfl
theorem scalarsNext_fact22 : ((Rows.scalarsNextRow.plainKeys == Try.prog.plainKeys)) = true := by kernel_rfl
theorem scalarsNext_fact23 : (Rows.scalarsNextRow.shortTexts.isNone) = true := by kernel_rfl
theorem scalarsNext_fact26 : ((Rows.scalarsNextRow.lifted == Try.prog.liftsFinal)) = true := by rw [final_ok _ _ io_words]; rfl
theorem scalarsNext_fact27 : ((Try.prog.make == some Rows.scalarsNextRow.make)) = true := by rw [make_ok _ _ io_words]; rfl
theorem scalarsNext_fact29 : ((Rows.scalarsNextRow.pinned == Rows.scalarsNextRow.pinnedBy)) = true := by kernel_rfl
theorem scalarsNext_fact30 : ((Rows.scalarsNextRow.veiled == (Try.f29.params.toList ++ Rows.scalarsNextSpec.plain.varTypes Try.prog ++ Try.f29.resultTypes.toList).any (Try.prog.veiledRec ·))) = true := by kernel_rfl
theorem scalarsNext_fact31 : (Rows.scalarsNextRow.veiledFits Try.prog Try.f29.params.toList (Try.f29.params.toList ++ Rows.scalarsNextSpec.plain.varTypes Try.prog ++ Try.f29.resultTypes.toList)) = true := by kernel_rfl
theorem scalarsNext_facts : joinedFacts Try.prog 29 Try.f29 Rows.scalarsNextSpec Rows.scalarsNextRow = true := by
  unfold joinedFacts
  exact (and_t (and_t (and_t (and_t (and_t (and_t (and_t (and_t (and_t (and_t (and_t (and_t (and_t (and_t (and_t (and_t (and_t (and_t (and_t (and_t (and_t (and_t (and_t (and_t (and_t (and_t (and_t (and_t (and_t (and_t (and_t scalarsNext_fact0 pfact1) pfact2) scalarsNext_fact3) scalarsNext_fact4) scalarsNext_fact5) pfact6) scalarsNext_fact7) pfact8) scalarsNext_fact9) scalarsNext_fact10) scalarsNext_fact11) scalarsNext_fact12) scalarsNext_fact13) scalarsNext_fact14) scalarsNext_fact15) scalarsNext_fact16) scalarsNext_fact17) scalarsNext_fact18) scalarsNext_fact19) scalarsNext_fact20) scalarsNext_fact21) scalarsNext_fact22) scalarsNext_fact23) pfact24) pfact25) scalarsNext_fact26) scalarsNext_fact27) (kinds_ok rfl rfl)) scalarsNext_fact29) scalarsNext_fact30) scalarsNext_fact31)

set_option maxRecDepth 100000 in
theorem scalarsNext_lifted (os : Os) (started : os.Started) (H : Type) (enc : TypeId × Value → H) :
    ReturnsInHanded {} Try.checked os 29 .any (Rows.scalarsNextSpec.pre6 enc Try.prog Try.f29 Rows.scalarsNextRow.domain false) (Rows.scalarsNextSpec.post enc Try.prog Try.f29 false true false false) := by
  refine returnsInHanded_of_change (C := Try.checked) Try.own started (by kernel_rfl) Try.func29
    (ChangeSpec.witness6 (enc := enc) (C := Try.checked) false ⟨#[], #[.agg (cells .u64 16 0), .int .i64 0], []⟩ 8 (by kernel_rfl) (by kernel_rfl) (by kernel_rfl) (by kernel_rfl)) ?_
  intro W base args ds gs before hval0 hW hcnd _
  have hval : ∀ (j : Nat) t v, Try.f29.params[j]? = some t → args[j]? = some v → Value.okWide Try.prog W .any base t v := hval0
  have hW' := hW
  obtain ⟨p, q, hA0, hV, rfl, hfz, hnd⟩ := hW
  have hA : DataW.TrodAll enc Try.prog W 0 (fun _ => true) true Try.f29.params.toList args.toList ds p := hA0
  rw [Try.params29] at hA hval
  have hAA := hA
  obtain ⟨v0, vs0, d0, ds0, p0, q0, hargs, rfl, rfl, h0, r0⟩ := trodAll_cons hA
  obtain ⟨v1, vs1, d1, ds1, p1, q1, rfl, rfl, rfl, h1, r1⟩ := trodAll_cons r0
  obtain ⟨rfl, rfl, rfl⟩ := trodAll_nil r1
  obtain rfl : args = #[v0, v1] := by cases args; simp_all
  obtain ⟨rfl, rfl⟩ := trodVars_none hV
  obtain ⟨x0, rfl, w0, rfl⟩ := open42 (hval 0 42 v0 rfl rfl) h0
  obtain ⟨x1, rfl, w1, y1, rfl⟩ := openInt u2 (hval 1 2 v1 rfl rfl) h1
  refine (snext_law_calls x0 w0 x1 w1 y1 W).mono fun e W' ⟨he, hb⟩ => ?_
  subst he
  exact ⟨_, rfl, post_true hW' Try.laidOut u4 hAA (by decide +kernel) (by kernel_rfl) rfl rfl hb⟩

theorem scalarsNext_holds : Rows.ScalarsNextSaid :=
  OpenClaim.holds_of_wide 29 Try.f29 rfl rfl rfl rfl rfl rfl rfl ⟨rfl, rfl, rfl, rfl, rfl⟩ rfl rfl rfl rfl rfl (by kernel_rfl) Try.func29 scalarsNext_facts
    (of_decide_eq_true (by kernel_rfl)) (by unfold Func.isWrapper; first | (rw [if_pos (by decide +kernel)]; kernel_rfl) | (rw [if_neg (by decide +kernel)]; exact ⟨rfl, rfl⟩))
    (fun os started H enc _ => scalarsNext_lifted os started H enc)
#print axioms scalarsNext_holds

end Go.Proofs.Ytdjnhnfofajpcaa
