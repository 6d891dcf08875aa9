/- What Exp does. -/
import Derived.Test.YtdjnhnfofajpcaaFg
namespace Go.Proofs.Ytdjnhnfofajpcaa
open Go Go.Proofs Av Go.RowKit

theorem bits_at (m : Nat) (hm : m < B ^ 4) (w : World) : Calls PP 40 #[.agg #[.int .u64 (dg m 0), .int .u64 (dg m 1), .int .u64 (dg m 2), .int .u64 (dg m 3)]] w fun e w' => e = .returned (.int .i64 (bitLen m : Int)) ∧ Below w.heap.size w w' := by
  rw [← cells_dg]
  refine (eBits_ok.calls (args := [(.pv (.words .u64 4 m), .junk)]) rfl trivial Try.func40 (by kernel_rfl) (by kernel_rfl) (vs := [.agg (cells .u64 4 m)]) (.cons ⟨rfl, WF4 hm⟩ .nil)).mono ?_
  rintro e w' ⟨v, rfl, ⟨rfl, _⟩, h2⟩
  exact ⟨rfl, h2⟩
theorem of_dg (n : Nat) (hn : n < B) (w : World) : Calls PP 36 #[.int .u64 (dg n 0)] w fun e w' => e = .returned (.agg #[.int .u64 (dg n 0), .int .u64 (dg n 1), .int .u64 (dg n 2), .int .u64 (dg n 3)]) ∧ Below w.heap.size w w' := by
  have h := of_at n hn w
  rwa [← dg_low hn] at h

set_option maxRecDepth 100000 in
set_option maxHeartbeats 2000000 in
theorem expb_short (a b m n bn : Nat) (en : TypeId) (h1 : 1 < m) (h2 : a < m) (hB : m < B) (hm : m < B ^ 4) (hn : n < B ^ 4) (w : World) (hn0 : w.heap[bn]? = some (.cells #[.int .u64 (dg n 0), .int .u64 (dg n 1), .int .u64 (dg n 2), .int .u64 (dg n 3)] en (0, 0))) :
    Calls PP 99 #[.agg #[.int .u64 (dg a 0), .int .u64 (dg a 1), .int .u64 (dg a 2), .int .u64 (dg a 3)], .agg #[.int .u64 (dg b 0), .int .u64 (dg b 1), .int .u64 (dg b 2), .int .u64 (dg b 3)], .agg #[.int .u64 (dg m 0), .int .u64 (dg m 1), .int .u64 (dg m 2), .int .u64 (dg m 3)], .pointer (some ⟨bn, 0, none⟩)] w fun e w' => e = .returned (.agg #[.int .u64 (dg (a ^ n % m) 0), .int .u64 (dg (a ^ n % m) 1), .int .u64 (dg (a ^ n % m) 2), .int .u64 (dg (a ^ n % m) 3)]) ∧ Below w.heap.size w w' := by
  have hlt : a ^ n % m < B := Nat.lt_trans (Nat.mod_lt _ (by omega)) hB
  obtain ⟨bl, hbl, hle⟩ : ∃ bl : Int, (bitLen m : Int) = bl ∧ bl ≤ 64 := ⟨_, rfl, by have := bitLen_le 64 m hB; omega⟩
  have hbits := bits_at m hm
  rw [hbl] at hbits
  obtain ⟨r, hr⟩ : ∃ r, a ^ n % m = r := ⟨_, rfl⟩
  have hpow := pow64_at a n m h1 h2 hB hn
  rw [hr] at hpow hlt ⊢
  have hbn : bn < w.heap.size := (Array.getElem?_eq_some_iff.1 hn0).1
  go_enter Try.func99, Try.ntmps99
  go_wp2_with (go_at_call 40; refine (hbits _).mono ?_; rintro e W ⟨rfl, hBx⟩; have da : W.heap[w.heap.size]? = some (.cells #[.int .u64 (dg a 0), .int .u64 (dg a 1), .int .u64 (dg a 2), .int .u64 (dg a 3)] 24 (0, 0)) := ((hBx.block (w.heap.size) (by simp <;> omega)).trans (alloc_old _ _ _ (by simp <;> omega) (alloc_old _ _ _ (by simp <;> omega) (alloc_old _ _ _ (by simp <;> omega) (alloc_new _ _ _ (by simp)))))); have db : W.heap[w.heap.size + 1]? = some (.cells #[.int .u64 (dg b 0), .int .u64 (dg b 1), .int .u64 (dg b 2), .int .u64 (dg b 3)] 24 (0, 0)) := ((hBx.block (w.heap.size + 1) (by simp <;> omega)).trans (alloc_old _ _ _ (by simp <;> omega) (alloc_old _ _ _ (by simp <;> omega) (alloc_new _ _ _ (by simp))))); have dm : W.heap[w.heap.size + 1 + 1]? = some (.cells #[.int .u64 (dg m 0), .int .u64 (dg m 1), .int .u64 (dg m 2), .int .u64 (dg m 3)] 24 (0, 0)) := ((hBx.block (w.heap.size + 1 + 1) (by simp <;> omega)).trans (alloc_old _ _ _ (by simp <;> omega) (alloc_new _ _ _ (by simp)))); have dz : W.heap[w.heap.size + 1 + 1 + 1]? = some (.cells #[.int .u64 0, .int .u64 0, .int .u64 0, .int .u64 0] 24 (0, 0)) := ((hBx.block (w.heap.size + 1 + 1 + 1) (by simp <;> omega)).trans (alloc_new _ _ _ (by simp))); have dn := (hBx.block bn (by simp <;> omega)).trans (alloc_old _ _ _ (by simp <;> omega) (alloc_old _ _ _ (by simp <;> omega) (alloc_old _ _ _ (by simp <;> omega) (alloc_old _ _ _ hbn hn0)))); have hBw : Below w.heap.size w W := ((((((Below.refl _ w).alloc (by simp <;> omega) _).alloc (by simp <;> omega) _).alloc (by simp <;> omega) _).alloc (by simp <;> omega) _).trans (hBx.mono (by simp <;> omega))); have dac0 := row_cell (i := 0) da rfl; have dac1 := row_cell (i := 1) da rfl; have dac2 := row_cell (i := 2) da rfl; have dac3 := row_cell (i := 3) da rfl; have dmc0 := row_cell (i := 0) dm rfl; have dmc1 := row_cell (i := 1) dm rfl; have dmc2 := row_cell (i := 2) dm rfl; have dmc3 := row_cell (i := 3) dm rfl; have dnc0 := row_cell (i := 0) dn rfl; have dnc1 := row_cell (i := 1) dn rfl; have dnc2 := row_cell (i := 2) dn rfl; have dnc3 := row_cell (i := 3) dn rfl)
  go_wp2_with (first | (go_at_call 100; refine (hpow _ _ (clo64_R m hB hm W _ 24 dm)).mono ?_; rintro e W2 ⟨rfl, hBx2⟩) | (go_at_call 36; refine (of_dg r hlt _).mono ?_; rintro e W3 ⟨rfl, hBx3⟩; have hB3 := hBx2.trans (hBx3.mono hBx2.size); have dz3 := (hB3.block _ (Array.getElem?_eq_some_iff.1 dz).1).trans dz; have z0 := row_cell (i := 0) dz3 rfl; have z1 := row_cell (i := 1) dz3 rfl; have z2 := row_cell (i := 2) dz3 rfl; have z3 := row_cell (i := 3) dz3 rfl; have y0 := frozen_of_row W3 _ 0 _ _ dz3; have y1 := frozen_of_row W3 _ 1 _ _ dz3; have y2 := frozen_of_row W3 _ 2 _ _ dz3; have y3 := frozen_of_row W3 _ 3 _ _ dz3))
  have hBw3 := hBw.trans (hB3.mono hBw.size)
  have d8 := four_set dz3 (.int .u64 (dg r 0)) (.int .u64 (dg r 1)) (.int .u64 (dg r 2)) (.int .u64 (dg r 3))
  have q0 := row_cell (i := 0) d8 rfl
  have q1 := row_cell (i := 1) d8 rfl
  have q2 := row_cell (i := 2) d8 rfl
  have q3 := row_cell (i := 3) d8 rfl
  refine bodyPost_ret (v := .agg #[.int .u64 (dg r 0), .int .u64 (dg r 1), .int .u64 (dg r 2), .int .u64 (dg r 3)]) ?_ rfl ⟨rfl, four_below hBw3 (by omega) _ _ _ _⟩
  simp [results, go_sem, q0, q1, q2, q3]
end Go.Proofs.Ytdjnhnfofajpcaa
namespace Go.Proofs.Ytdjnhnfofajpcaa
open Go Go.Proofs Av Go.RowKit

set_option maxRecDepth 100000 in
set_option maxHeartbeats 2000000 in
theorem expb_long (a b m n bn : Nat) (en : TypeId) (h1 : 1 < m) (h2 : a < m) (hB : ¬ m < B) (hm : m < B ^ 4) (hn : n < B ^ 4) (w : World) (hn0 : w.heap[bn]? = some (.cells #[.int .u64 (dg n 0), .int .u64 (dg n 1), .int .u64 (dg n 2), .int .u64 (dg n 3)] en (0, 0))) :
    Calls PP 99 #[.agg #[.int .u64 (dg a 0), .int .u64 (dg a 1), .int .u64 (dg a 2), .int .u64 (dg a 3)], .agg #[.int .u64 (dg b 0), .int .u64 (dg b 1), .int .u64 (dg b 2), .int .u64 (dg b 3)], .agg #[.int .u64 (dg m 0), .int .u64 (dg m 1), .int .u64 (dg m 2), .int .u64 (dg m 3)], .pointer (some ⟨bn, 0, none⟩)] w fun e w' => e = .returned (.agg #[.int .u64 (dg (a ^ n % m) 0), .int .u64 (dg (a ^ n % m) 1), .int .u64 (dg (a ^ n % m) 2), .int .u64 (dg (a ^ n % m) 3)]) ∧ Below w.heap.size w w' := by
  obtain ⟨bl, hbl, hle⟩ : ∃ bl : Int, (bitLen m : Int) = bl ∧ 64 < bl := ⟨_, rfl, by
    have h := short_math m
    rw [decide_eq_false hB] at h
    have := of_decide_eq_false h
    omega⟩
  have hbits := bits_at m hm
  rw [hbl] at hbits
  obtain ⟨r, hr⟩ : ∃ r, a ^ n % m = r := ⟨_, rfl⟩
  have hpow := powN_at a n m h1 h2 hm hn
  rw [hr] at hpow ⊢
  have hbn : bn < w.heap.size := (Array.getElem?_eq_some_iff.1 hn0).1
  go_enter Try.func99, Try.ntmps99
  go_wp2_with (go_at_call 40; refine (hbits _).mono ?_; rintro e W ⟨rfl, hBx⟩; have da : W.heap[w.heap.size]? = some (.cells #[.int .u64 (dg a 0), .int .u64 (dg a 1), .int .u64 (dg a 2), .int .u64 (dg a 3)] 24 (0, 0)) := ((hBx.block (w.heap.size) (by simp <;> omega)).trans (alloc_old _ _ _ (by simp <;> omega) (alloc_old _ _ _ (by simp <;> omega) (alloc_old _ _ _ (by simp <;> omega) (alloc_new _ _ _ (by simp)))))); have db : W.heap[w.heap.size + 1]? = some (.cells #[.int .u64 (dg b 0), .int .u64 (dg b 1), .int .u64 (dg b 2), .int .u64 (dg b 3)] 24 (0, 0)) := ((hBx.block (w.heap.size + 1) (by simp <;> omega)).trans (alloc_old _ _ _ (by simp <;> omega) (alloc_old _ _ _ (by simp <;> omega) (alloc_new _ _ _ (by simp))))); have dm : W.heap[w.heap.size + 1 + 1]? = some (.cells #[.int .u64 (dg m 0), .int .u64 (dg m 1), .int .u64 (dg m 2), .int .u64 (dg m 3)] 24 (0, 0)) := ((hBx.block (w.heap.size + 1 + 1) (by simp <;> omega)).trans (alloc_old _ _ _ (by simp <;> omega) (alloc_new _ _ _ (by simp)))); have dz : W.heap[w.heap.size + 1 + 1 + 1]? = some (.cells #[.int .u64 0, .int .u64 0, .int .u64 0, .int .u64 0] 24 (0, 0)) := ((hBx.block (w.heap.size + 1 + 1 + 1) (by simp <;> omega)).trans (alloc_new _ _ _ (by simp))); have dn := (hBx.block bn (by simp <;> omega)).trans (alloc_old _ _ _ (by simp <;> omega) (alloc_old _ _ _ (by simp <;> omega) (alloc_old _ _ _ (by simp <;> omega) (alloc_old _ _ _ hbn hn0)))); have hBw : Below w.heap.size w W := ((((((Below.refl _ w).alloc (by simp <;> omega) _).alloc (by simp <;> omega) _).alloc (by simp <;> omega) _).alloc (by simp <;> omega) _).trans (hBx.mono (by simp <;> omega))))
  have hB0 : Below W.heap.size W W := Below.refl _ _
  have hBd : Below W.heap.size W W.drew := (Below.refl _ _).drew
  have dak0 := keep_cell (i := 0) da rfl
  have dak1 := keep_cell (i := 1) da rfl
  have dak2 := keep_cell (i := 2) da rfl
  have dak3 := keep_cell (i := 3) da rfl
  have dmk0 := keep_cell (i := 0) dm rfl
  have dmk1 := keep_cell (i := 1) dm rfl
  have dmk2 := keep_cell (i := 2) dm rfl
  have dmk3 := keep_cell (i := 3) dm rfl
  have dnk0 := keep_cell (i := 0) dn rfl
  have dnk1 := keep_cell (i := 1) dn rfl
  have dnk2 := keep_cell (i := 2) dn rfl
  have dnk3 := keep_cell (i := 3) dn rfl
  have dzk0 := keep_cell (i := 0) dz rfl
  have dzk1 := keep_cell (i := 1) dz rfl
  have dzk2 := keep_cell (i := 2) dz rfl
  have dzk3 := keep_cell (i := 3) dz rfl
  have zf0 := keep_free 0 dz
  have zf1 := keep_free 1 dz
  have zf2 := keep_free 2 dz
  have zf3 := keep_free 3 dz
  go_region_with (first | (go_at_call 36; refine (of_one _).mono ?_; rintro e W2 ⟨rfl, hBx2⟩; have hBy := below_next (W0 := W) (by assumption) hBx2) | (go_at_call 103; refine (hpow _ _ (cloN_R m hm _ _ 24 (((by assumption : Below W.heap.size W _).block _ (Array.getElem?_eq_some_iff.1 dm).1).trans dm))).mono ?_; rintro e W3 ⟨rfl, hBx3⟩; have hBz := below_next (W0 := W) (by assumption) hBx3))
  all_goals
    go_wp2
    have q0 := keep_set dz (.int .u64 (dg r 0)) (.int .u64 (dg r 1)) (.int .u64 (dg r 2)) (.int .u64 (dg r 3)) (i := 0) rfl
    have q1 := keep_set dz (.int .u64 (dg r 0)) (.int .u64 (dg r 1)) (.int .u64 (dg r 2)) (.int .u64 (dg r 3)) (i := 1) rfl
    have q2 := keep_set dz (.int .u64 (dg r 0)) (.int .u64 (dg r 1)) (.int .u64 (dg r 2)) (.int .u64 (dg r 3)) (i := 2) rfl
    have q3 := keep_set dz (.int .u64 (dg r 0)) (.int .u64 (dg r 1)) (.int .u64 (dg r 2)) (.int .u64 (dg r 3)) (i := 3) rfl
    refine bodyPost_ret (v := .agg #[.int .u64 (dg r 0), .int .u64 (dg r 1), .int .u64 (dg r 2), .int .u64 (dg r 3)]) ?_ rfl ⟨rfl, four_below (hBw.trans ((by assumption : Below W.heap.size W _).mono hBw.size)) (by omega) _ _ _ _⟩
    simp [results, go_sem, *]
end Go.Proofs.Ytdjnhnfofajpcaa
