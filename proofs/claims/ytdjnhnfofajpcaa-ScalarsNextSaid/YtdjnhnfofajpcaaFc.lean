/- Contract of divides.Wide. -/
import Derived.Test.YtdjnhnfofajpcaaK2
namespace Go.Proofs.Ytdjnhnfofajpcaa
open Go Go.Proofs Av Go.RowKit

def eWide : Entry := mk 55 [.n 4, .n 4, .n 4] fun (low high m : Nat) => (.tup2 (.words .u64 4 (if m = 0 then 0 else (high * W + low) % m)) (.int .i64 (if m = 0 then 1 else 0)), True)

theorem wide_p (low high m : Nat) (R : AV → Prop) (h : ((((decide (m = (0 : Nat))) = Bool.true) → (R (AV.tup2 (PV.words IntKind.u64 (4 : Nat) (0 : Nat)) (PV.lit IntKind.i64 (1 : Int))))) ∧ (((decide (m = (0 : Nat))) = Bool.false) → ((((decide (m < (18446744073709551616 : Nat))) = Bool.true) → False) ∧ (((decide (m < (18446744073709551616 : Nat))) = Bool.false) → (∃ o5 : (Nat × Nat), (((o5.1 ≤ (2 : Nat)) ∧ (Proofs.Ytdjnhnfofajpcaa.Left ((high * (115792089237316195423570985008687907853269984665640564039457584007913129639936 : Nat)) + low) m ((512 : Nat) - ((256 : Nat) * o5.1)) o5.2)) ∧ ((((0 : Nat) = o5.2) ∧ ((0 : Int) = ((o5.1 : Nat) : Int))) ∧ (∀ x6 : (Nat × Nat), (((x6.1 ≤ (2 : Nat)) ∧ (Proofs.Ytdjnhnfofajpcaa.Left ((high * (115792089237316195423570985008687907853269984665640564039457584007913129639936 : Nat)) + low) m ((512 : Nat) - ((256 : Nat) * x6.1)) x6.2)) → ((((decide (((x6.1 : Nat) : Int) < (2 : Int))) = Bool.true) → ((((0 : Int) ≤ ((x6.1 : Nat) : Int)) ∧ ((((x6.1 : Nat) : Int) + (1 : Int)) ≤ (2 : Int))) ∧ (∃ o9 : (Nat × (Nat × Nat)), ((((o9.1 + (1 : Nat)) ≤ (2 : Nat)) ∧ ((o9.2.1 ≤ (256 : Nat)) ∧ (Proofs.Ytdjnhnfofajpcaa.Left ((high * (115792089237316195423570985008687907853269984665640564039457584007913129639936 : Nat)) + low) m (((512 : Nat) - ((256 : Nat) * o9.1)) - o9.2.1) o9.2.2))) ∧ (((x6.2 = o9.2.2) ∧ (((((setw (setw (0 : Nat) (0 : Nat) (4 : Nat) high) (4 : Nat) (4 : Nat) low) / ((18446744073709551616 : Nat) ^ ((Int.toNat ((x6.1 : Nat) : Int)) * (4 : Nat)))) % (115792089237316195423570985008687907853269984665640564039457584007913129639936 : Nat)) = (if (o9.1 = (0 : Nat)) then high else low)) ∧ ((((x6.1 : Nat) : Int) = ((o9.1 : Nat) : Int)) ∧ ((0 : Int) = ((o9.2.1 : Nat) : Int))))) ∧ (∀ x10 : (Nat × (Nat × Nat)), (((x10.1 = o9.1) ∧ (((x10.1 + (1 : Nat)) ≤ (2 : Nat)) ∧ ((x10.2.1 ≤ (256 : Nat)) ∧ (Proofs.Ytdjnhnfofajpcaa.Left ((high * (115792089237316195423570985008687907853269984665640564039457584007913129639936 : Nat)) + low) m (((512 : Nat) - ((256 : Nat) * x10.1)) - x10.2.1) x10.2.2)))) → ((((decide (((x10.2.1 : Nat) : Int) < (256 : Int))) = Bool.true) → ((((IntKind.wrap IntKind.i64 ((255 : Int) - ((x10.2.1 : Nat) : Int))) = ((255 : Int) - ((x10.2.1 : Nat) : Int))) ∧ (((x10.2.2 + (1 : Nat)) ≤ m) ∧ ((if (((0 : Int) ≤ ((255 : Int) - ((x10.2.1 : Nat) : Int))) ∧ (((255 : Int) - ((x10.2.1 : Nat) : Int)) < (256 : Int))) then (((if (x10.1 = (0 : Nat)) then high else low) / ((2 : Nat) ^ (Int.toNat ((255 : Int) - ((x10.2.1 : Nat) : Int))))) % (2 : Nat)) else (0 : Nat)) ≤ (1 : Nat)))) ∧ (((IntKind.wrap IntKind.i64 (((x10.2.1 : Nat) : Int) + (1 : Int))) = (((x10.2.1 : Nat) : Int) + (1 : Int))) ∧ (∃ y13 : (Nat × (Nat × Nat)), (((y13.1 = o9.1) ∧ (((y13.1 + (1 : Nat)) ≤ (2 : Nat)) ∧ ((y13.2.1 ≤ (256 : Nat)) ∧ (Proofs.Ytdjnhnfofajpcaa.Left ((high * (115792089237316195423570985008687907853269984665640564039457584007913129639936 : Nat)) + low) m (((512 : Nat) - ((256 : Nat) * y13.1)) - y13.2.1) y13.2.2)))) ∧ (((((256 : Nat) - y13.2.1) + (1 : Nat)) ≤ ((256 : Nat) - x10.2.1)) ∧ (((((x10.2.2 * (2 : Nat)) + (if (((0 : Int) ≤ ((255 : Int) - ((x10.2.1 : Nat) : Int))) ∧ (((255 : Int) - ((x10.2.1 : Nat) : Int)) < (256 : Int))) then (((if (x10.1 = (0 : Nat)) then high else low) / ((2 : Nat) ^ (Int.toNat ((255 : Int) - ((x10.2.1 : Nat) : Int))))) % (2 : Nat)) else (0 : Nat))) % m) = y13.2.2) ∧ (((if (x10.1 = (0 : Nat)) then high else low) = (if (y13.1 = (0 : Nat)) then high else low)) ∧ ((((x10.1 : Nat) : Int) = ((y13.1 : Nat) : Int)) ∧ ((((x10.2.1 : Nat) : Int) + (1 : Int)) = ((y13.2.1 : Nat) : Int))))))))))) ∧ (((decide (((x10.2.1 : Nat) : Int) < (256 : Int))) = Bool.false) → (((IntKind.wrap IntKind.i64 (((x10.1 : Nat) : Int) + (1 : Int))) = (((x10.1 : Nat) : Int) + (1 : Int))) ∧ (∃ y16 : (Nat × Nat), (((y16.1 ≤ (2 : Nat)) ∧ (Proofs.Ytdjnhnfofajpcaa.Left ((high * (115792089237316195423570985008687907853269984665640564039457584007913129639936 : Nat)) + low) m ((512 : Nat) - ((256 : Nat) * y16.1)) y16.2)) ∧ (((((2 : Nat) - y16.1) + (1 : Nat)) ≤ ((2 : Nat) - x6.1)) ∧ ((x10.2.2 = y16.2) ∧ ((((x10.1 : Nat) : Int) + (1 : Int)) = ((y16.1 : Nat) : Int)))))))))))))))) ∧ (((decide (((x6.1 : Nat) : Int) < (2 : Int))) = Bool.false) → (R (AV.tup2 (PV.words IntKind.u64 (4 : Nat) x6.2) (PV.lit IntKind.i64 (0 : Int)))))))))))))))) :
    awp [eShort, eBit, eNext] [] [] [⟨3, Nat × Nat, fun _ x => x.1 ≤ 2 ∧ Left (high * W + low) m (512 - 256 * x.1) x.2, fun x => shp 63 0 [(3, .box .u64 4 low), (4, .box .u64 4 high), (5, .box .u64 4 m), (6, .box .u64 4 x.2), (43, .pv (.words .u64 8 (setw (setw 0 0 4 high) 4 4 low))), (44, .pv (.int .i64 x.1))], fun x => 2 - x.1⟩,  ⟨5, Nat × Nat × Nat, fun o x => x.1 = o.1 ∧ x.1 < 2 ∧ x.2.1 ≤ 256 ∧ Left (high * W + low) m (512 - 256 * x.1 - x.2.1) x.2.2, fun x => shp 63 0 [(3, .box .u64 4 low), (4, .box .u64 4 high), (5, .box .u64 4 m), (6, .box .u64 4 x.2.2), (12, .box .u64 4 (if x.1 = 0 then high else low)), (43, .pv (.words .u64 8 (setw (setw 0 0 4 high) 4 4 low))), (44, .pv (.int .i64 x.1)), (47, .pv (.int .i64 x.2.1))], fun x => 256 - x.2.1⟩]  400 (Try.f55.body.getD .skip) (fnPost Try.f55.results.toList R) (begins [.pv (.words .u64 4 low), .pv (.words .u64 4 high), .pv (.words .u64 4 m)] Try.f55.ntmps) :=
  Eq.mp (by kernel_rfl) (ai (ai tr (ai tr (ai tr (ai tr (ai t2 tr))))) (ai (ai t2 (ai t2 (ai t2 (ai t2 tr)))) (ai (fun (hk1 : ((decide (m = (0 : Nat))) = Bool.true)) => (ai (ai t2 (ai tr (ai t2 tr))) (h.1 hk1))) (fun (hk2 : ((decide (m = (0 : Nat))) = Bool.false)) => (ai (ai t2 (ai t2 (ai t2 tr))) (ai (fun (hk3 : ((decide (m < (18446744073709551616 : Nat))) = Bool.true)) => ((h.2 hk2).1 hk3)) (fun (hk4 : ((decide (m < (18446744073709551616 : Nat))) = Bool.false)) => (ai (ai t2 (ai t2 (ai t2 (ai t2 tr)))) (Exists.imp (fun o5 hq20 => (ai (ai hq20.1.1 hq20.1.2) (ai (ai (Eq.refl low) (ai (Eq.refl high) (ai (Eq.refl m) (ai hq20.2.1.1 (ai (Eq.refl (setw (setw (0 : Nat) (0 : Nat) (4 : Nat) high) (4 : Nat) (4 : Nat) low)) (ai hq20.2.1.2 tr)))))) (fun (x6 : (Nat × Nat)) => (fun (hk7 : ((x6.1 ≤ (2 : Nat)) ∧ (Proofs.Ytdjnhnfofajpcaa.Left ((high * (115792089237316195423570985008687907853269984665640564039457584007913129639936 : Nat)) + low) m ((512 : Nat) - ((256 : Nat) * x6.1)) x6.2))) => (ai (ai t2 tr) (ai (fun (hk8 : ((decide (((x6.1 : Nat) : Int) < (2 : Int))) = Bool.true)) => (ai (ai (ai (ai (((hq20.2.2 x6) hk7).1 hk8).1.1 (((hq20.2.2 x6) hk7).1 hk8).1.2) tr) (ai tr t2)) (ai (ai t2 tr) (Exists.imp (fun o9 hq18 => (ai (ai (Eq.refl o9.1) (ai hq18.1.1 (ai hq18.1.2.1 hq18.1.2.2))) (ai (ai (Eq.refl low) (ai (Eq.refl high) (ai (Eq.refl m) (ai hq18.2.1.1 (ai hq18.2.1.2.1 (ai (Eq.refl (setw (setw (0 : Nat) (0 : Nat) (4 : Nat) high) (4 : Nat) (4 : Nat) low)) (ai hq18.2.1.2.2.1 (ai hq18.2.1.2.2.2 tr)))))))) (fun (x10 : (Nat × (Nat × Nat))) => (fun (hk11 : ((x10.1 = o9.1) ∧ (((x10.1 + (1 : Nat)) ≤ (2 : Nat)) ∧ ((x10.2.1 ≤ (256 : Nat)) ∧ (Proofs.Ytdjnhnfofajpcaa.Left ((high * (115792089237316195423570985008687907853269984665640564039457584007913129639936 : Nat)) + low) m (((512 : Nat) - ((256 : Nat) * x10.1)) - x10.2.1) x10.2.2))))) => (ai (ai t2 tr) (ai (fun (hk12 : ((decide (((x10.2.1 : Nat) : Int) < (256 : Int))) = Bool.true)) => (ai (ai t2 (ai t2 tr)) (ai (ai t2 (ai t2 (ai t2 (ai (ai (((hq18.2.2 x10) hk11).1 hk12).1.1 tr) (ai t2 (ai t2 (ai (ai (ai (((hq18.2.2 x10) hk11).1 hk12).1.2.1 (((hq18.2.2 x10) hk11).1 hk12).1.2.2) tr) (ai t2 (ai t2 (ai t2 t2)))))))))) (ai (ai (ai (((hq18.2.2 x10) hk11).1 hk12).2.1 tr) (ai t2 tr)) (Exists.imp (fun y13 hq14 => (ai (ai hq14.1.1 (ai hq14.1.2.1 (ai hq14.1.2.2.1 hq14.1.2.2.2))) (ai hq14.2.1 (ai (Eq.refl low) (ai (Eq.refl high) (ai (Eq.refl m) (ai hq14.2.2.1 (ai hq14.2.2.2.1 (ai (Eq.refl (setw (setw (0 : Nat) (0 : Nat) (4 : Nat) high) (4 : Nat) (4 : Nat) low)) (ai hq14.2.2.2.2.1 (ai hq14.2.2.2.2.2 tr))))))))))) (((hq18.2.2 x10) hk11).1 hk12).2.2))))) (fun (hk15 : ((decide (((x10.2.1 : Nat) : Int) < (256 : Int))) = Bool.false)) => (ai (ai (ai (((hq18.2.2 x10) hk11).2 hk15).1 tr) (ai t2 tr)) (Exists.imp (fun y16 hq17 => (ai (ai hq17.1.1 hq17.1.2) (ai hq17.2.1 (ai (Eq.refl low) (ai (Eq.refl high) (ai (Eq.refl m) (ai hq17.2.2.1 (ai (Eq.refl (setw (setw (0 : Nat) (0 : Nat) (4 : Nat) high) (4 : Nat) (4 : Nat) low)) (ai hq17.2.2.2 tr))))))))) (((hq18.2.2 x10) hk11).2 hk15).2)))))))))) (((hq20.2.2 x6) hk7).1 hk8).2)))) (fun (hk19 : ((decide (((x6.1 : Nat) : Int) < (2 : Int))) = Bool.false)) => (ai (ai t2 (ai tr (ai t2 tr))) (((hq20.2.2 x6) hk7).2 hk19)))))))))) ((h.2 hk2).2 hk4))))))))))



theorem cells_low {r : Nat} (h : r < B) : cells .u64 4 r = #[.int .u64 (r : Int), .int .u64 0, .int .u64 0, .int .u64 0] := by
  have e2 : r / B ^ 2 = 0 := Nat.div_eq_of_lt (Nat.lt_of_lt_of_le h (by decide))
  have e3 : r / B ^ 3 = 0 := Nat.div_eq_of_lt (Nat.lt_of_lt_of_le h (by decide))
  rw [cells4, Nat.mod_eq_of_lt h, Nat.div_eq_of_lt h, e2, e3]
  rfl
theorem rf_down {N m : Nat} (hN : N < B ^ 8) : ∀ k, k ≤ 8 → LeftW N m (8 - k) (rf N m (down k))
  | 0, _ => .start hN
  | k + 1, h => by
    have ih : LeftW N m (7 - k + 1) (rf N m (down k)) := by
      have := rf_down (m := m) hN k (by omega)
      rw [show 7 - k + 1 = 8 - k by omega]; exact this
    have h1 := ih.step
    rw [down_succ, rf_snoc, show 8 - (k + 1) = 7 - k by omega]
    exact h1
theorem rf_all {low high m : Nat} (hl : low < W) (hh : high < W) : rf (low + high * B ^ 4) m (down 8) = (high * W + low) % m := by
  have e : low + high * B ^ 4 = high * W + low := by rw [B4, Nat.add_comm]
  have := (rf_down (m := m) (N := low + high * B ^ 4) (by rw [e, ← W_B8]; exact wide_lt hl hh) 8 (Nat.le_refl _)).done
  rw [this, e]

theorem WF4 {N : Nat} (h : N < B ^ 4) : WF .u64 4 N := ⟨h, fun _ _ => Nat.mod_lt _ (by decide)⟩
theorem one_ne : ¬ (1 = 0) := by decide
theorem three_vals {w : World} {a b c : PV} {vs : List Value} (h : All2 (ArgV w) ([a, b, c].map .pv) vs) : ∃ x y z, vs = [x, y, z] ∧ a.R x ∧ b.R y ∧ c.R z := by
  cases h with
  | cons h1 h => cases h with
    | cons h2 h => cases h with
      | cons h3 h => cases h; exact ⟨_, _, _, rfl, h1.2.2.2, h2.2.2.2, h3.2.2.2⟩

theorem pick_hi {high low : Nat} (_ : low < W) (hh : high < W) : setw (setw 0 0 4 high) 4 4 low / B ^ (0 * 4) % W = high := by
  rw [setw_zero, setw_snoc _ 4 4 _ (by rw [B4]; exact hh), Nat.zero_mul, Nat.pow_zero, Nat.div_one, B4, Nat.add_mul_mod_self_right, Nat.mod_eq_of_lt hh]
theorem pick_lo {high low : Nat} (hl : low < W) (hh : high < W) : setw (setw 0 0 4 high) 4 4 low / B ^ (1 * 4) % W = low := by
  rw [setw_zero, setw_snoc _ 4 4 _ (by rw [B4]; exact hh), Nat.one_mul, B4, Nat.add_mul_div_right _ _ (by decide), Nat.div_eq_of_lt hh, Nat.zero_add, Nat.mod_eq_of_lt hl]

theorem eWide_ok : eWide.OK := mk_ok_calls (c := Try.f55.body.getD .skip) Try.func55 (by kernel_rfl) (by kernel_rfl) (by
  intro low hl4 high hh4 m hm4 _ w vs hv
  have hl := ltW hl4
  have hh := ltW hh4
  have hw := wide_lt hl hh
  by_cases hs : m < B ∧ m ≠ 0
  · obtain ⟨hB, h0⟩ := hs
    obtain ⟨x, y, z, rfl, ⟨rfl, _⟩, ⟨rfl, _⟩, ⟨rfl, _⟩⟩ := three_vals hv
    rw [cells_low hB]
    have hsh : ∀ w : World, Calls PP 88 #[.agg #[.int .u64 (m : Int), .int .u64 0, .int .u64 0, .int .u64 0]] w fun e w' => e = .returned (.bool true) ∧ Below w.heap.size w w' := by
      intro w
      rw [← cells_low hB]
      refine (eShort_ok.calls (args := [(.pv (.words .u64 4 m), .junk)]) rfl trivial Try.func88 (by kernel_rfl) (by kernel_rfl) (vs := [.agg (cells .u64 4 m)]) (.cons ⟨rfl, WF4 hm4⟩ .nil)).mono ?_
      rintro e w' ⟨v, rfl, h1, h2⟩
      have h1 : v = .bool (decide (m < B)) := h1
      rw [decide_eq_true hB] at h1
      exact ⟨by rw [h1], h2⟩
    refine (wide_short low high hl4 hh4 m (by omega) hB w hsh).mono ?_
    rintro e w' ⟨rfl, h2⟩
    have hr : (high * W + low) % m < m := Nat.mod_lt _ (by omega)
    refine ⟨_, rfl, ⟨_, _, rfl, ⟨?_, WF4 (by rw [B4]; exact Nat.lt_trans (by rw [if_neg h0]; exact hr) (ltW hm4))⟩, ?_⟩, h2⟩
    · rw [if_neg h0, rI, rf_all hl hh, cells_low (Nat.lt_trans hr hB)]
    · rw [if_neg h0]
      exact ⟨rfl, rfl⟩
  refine awp_calls Try.func55 (by kernel_rfl) (TOK.cons eShort_ok (.cons eBit_ok (.cons eNext_ok .nil))) _ (by rw [Try.ntmps55]; exact Nat.le_add_left 3 60) ⟨[], [], _, 400, wide_p low high m _ ⟨fun h0 => ?_, fun h0 => ⟨fun h1 => ?_, fun h1 => ?_⟩⟩⟩ hv
  · have h0 := of_decide_eq_true h0
    subst h0
    exact rw_2 (rw_words rfl) (rw_lit rfl)
  · exact hs ⟨of_decide_eq_true h1, of_decide_eq_false h0⟩
  have h0 := of_decide_eq_false h0
  refine ⟨⟨0, 0⟩, ⟨by decide, left_start 256 W_pow.symm hw⟩, ⟨rfl, rfl⟩, ?_⟩
  rintro ⟨k, r⟩ ⟨hk, hD⟩
  dsimp only at *
  refine ⟨fun h => ?_, fun h => ?_⟩
  · have h := of_decide_eq_true h
    have inner : ∀ (half : Nat), (∀ j, j < 256 → (high * W + low) / 2 ^ (512 - 256 * k - 256 + j) % 2 = half / 2 ^ j % 2) → ∀ i r, i < 256 → Left (high * W + low) m (512 - 256 * k - i) r →
        Left (high * W + low) m (512 - 256 * k - (i + 1)) ((r * 2 + half / 2 ^ (255 - i) % 2) % m) := by
      intro half hb i r hi hD
      have e : 512 - 256 * k - i = 512 - 256 * k - 256 + (255 - i) + 1 := by omega
      rw [e] at hD
      have g := hD.step
      rw [hb _ (by omega)] at g
      rw [show 512 - 256 * k - (i + 1) = 512 - 256 * k - 256 + (255 - i) by omega]
      exact g
    have hk2 : k = 0 ∨ k = 1 := by omega
    rcases hk2 with rfl | rfl
    · have step := inner high fun j hj => wide_bit_hi hl
      refine ⟨⟨by omega, by omega⟩, ⟨0, 0, r⟩, ⟨by dsimp only; omega, by dsimp only; omega, hD⟩, ⟨rfl, ?_, rfl, rfl⟩, ?_⟩
      · exact (pick_hi hl hh).trans (if_pos rfl).symm
      rintro ⟨k, i, r⟩ ⟨rfl, _, hi, hD⟩
      dsimp only at *
      have hlt := hD.lt (by omega)
      rw [if_pos rfl]
      refine ⟨fun h2 => ?_, fun h2 => ?_⟩
      · have h2 := of_decide_eq_true h2
        have e1 : (255 : Int) - (i : Int) = ((255 - i : Nat) : Int) := by omega
        rw [e1, bitN _ _ (by omega)]
        exact ⟨⟨i64_ok (by omega) (by omega), hlt, by omega⟩, i64_ok (by omega) (by omega), ⟨0, i + 1, _⟩, ⟨rfl, by dsimp only; omega, by dsimp only; omega, step i r (by omega) hD⟩, by dsimp only; omega, rfl, (if_pos rfl).symm, rfl, rfl⟩
      · have h2 := of_decide_eq_false h2
        obtain rfl : i = 256 := by omega
        exact ⟨by decide, ⟨1, r⟩, ⟨by dsimp only; omega, hD⟩, by dsimp only; omega, rfl, rfl⟩
    · have step := inner low fun j hj => by
        have := wide_bit_lo (high := high) (low := low) hj
        rw [show 512 - 256 * 1 - 256 + j = j by omega]; exact this
      refine ⟨⟨by omega, by omega⟩, ⟨1, 0, r⟩, ⟨by dsimp only; omega, by dsimp only; omega, hD⟩, ⟨rfl, ?_, rfl, rfl⟩, ?_⟩
      · exact (pick_lo hl hh).trans (if_neg one_ne).symm
      rintro ⟨k, i, r⟩ ⟨rfl, _, hi, hD⟩
      dsimp only at *
      have hlt := hD.lt (by omega)
      rw [if_neg one_ne]
      refine ⟨fun h2 => ?_, fun h2 => ?_⟩
      · have h2 := of_decide_eq_true h2
        have e1 : (255 : Int) - (i : Int) = ((255 - i : Nat) : Int) := by omega
        rw [e1, bitN _ _ (by omega)]
        exact ⟨⟨i64_ok (by omega) (by omega), hlt, by omega⟩, i64_ok (by omega) (by omega), ⟨1, i + 1, _⟩, ⟨rfl, by dsimp only; omega, by dsimp only; omega, step i r (by omega) hD⟩, by dsimp only; omega, rfl, (if_neg one_ne).symm, rfl, rfl⟩
      · have h2 := of_decide_eq_false h2
        obtain rfl : i = 256 := by omega
        exact ⟨by decide, ⟨2, r⟩, ⟨by dsimp only; omega, hD⟩, by dsimp only; omega, rfl, rfl⟩
  · have h := of_decide_eq_false h
    obtain rfl : k = 2 := by omega
    exact rw_2 (rw_words ((Left.done hD).trans (if_neg h0).symm)) (rw_lit (if_neg h0).symm))
end Go.Proofs.Ytdjnhnfofajpcaa
