/- FnSpeed: at the speed that is told for a signal a train stops within its room, and at one more it would not. Conditions: those of the law's row alone. -/
import Derived.Test.YtpdcghclcgbcfaaPx25
import Derived.Test.YtpdcghclcgbcfaaPx24
import Derived.Test.YtpdcghclcgbcfaaLinkSpeed
import Derived.Test.YtpdcghclcgbcfaaLinkSShows
import Derived.Test.YtpdcghclcgbcfaaLinkDraw
namespace Go.Proofs.Ytpdcghclcgbcfaa.Pure
open Go.RowKit Go.Proofs.Ytpdcghclcgbcfaa.P Go.Proofs.Ytpdcghclcgbcfaa.Plain Go.Proofs.Ytpdcghclcgbcfaa.Link Go.Proofs.YtpdcghclcgbcfaaW.PrintWords Go.Proofs.YtpdcghclcgbcfaaW.PrintLast Go.Proofs.YtpdcghclcgbcfaaW.PrintMore
set_option linter.unusedVariables false
set_option linter.unusedSimpArgs false
theorem even_half (q : Int) : 2 * (q * (q - 1) / 2) = q * (q - 1) := by
  have h : q * (q - 1) % 2 = 0 := by
    have h1 := Int.emod_emod_of_dvd q (Int.dvd_refl 2)
    rcases Int.emod_two_eq q with h | h
    · rw [Int.mul_emod, h]; simp
    · rw [Int.mul_emod, Int.sub_emod, h]; simp
  omega
theorem wslow_is {v b : Int} (hb : 10 ≤ b) (hb2 : b ≤ 1000) (h0 : 0 ≤ v) (h1 : v ≤ 10001) : laws_wSlow.f v b = some (slow b v) := by
  have hq0 : 0 ≤ v / b := Int.ediv_nonneg h0 (by omega)
  have hm0 := Int.emod_nonneg v (show b ≠ 0 by omega)
  have hm1 := Int.emod_lt_of_pos v (show 0 < b by omega)
  have he := Int.mul_ediv_add_emod v b
  have ht := slow_top (b := b) (v := v) (by omega) h0 h1
  have hs := slow_nonneg (b := b) (v := v) (by omega) h0
  have e1 : Int.tdiv v b = v / b := Int.tdiv_eq_ediv_of_nonneg h0
  have e2 : Int.tmod v b = v % b := Int.tmod_eq_emod_of_nonneg h0
  unfold laws_wSlow.f
  rw [if_neg (by omega), e1, e2]
  unfold slow at ht hs ⊢
  generalize v / b = q at *
  generalize v % b = m at *
  have hq1 : b * q ≤ 10001 := by omega
  have hq2 : q ≤ 10001 := by
    have : 10 * q ≤ b * q := Int.mul_le_mul_of_nonneg_right hb hq0
    omega
  have hqm0 : 0 ≤ q * m := Int.mul_nonneg hq0 hm0
  have hqm1 : q * m ≤ 10001 * 1000 := Int.mul_le_mul hq2 (by omega) hm0 (by omega)
  have hbq0 : 0 ≤ b * q := Int.mul_nonneg (by omega) hq0
  have hev := even_half q
  have hx : b * q * (q - 1) = 2 * (b * (q * (q - 1) / 2)) := by
    have : 2 * (b * (q * (q - 1) / 2)) = b * (2 * (q * (q - 1) / 2)) := by rw [← Int.mul_assoc, Int.mul_comm 2 b, Int.mul_assoc]
    rw [this, hev, Int.mul_assoc]
  have hz : 0 ≤ b * (q * (q - 1) / 2) ∧ b * (q * (q - 1) / 2) ≤ 1000000000 := by
    constructor
    · by_cases c : q = 0
      · subst c; simp
      · have : 0 ≤ q * (q - 1) := Int.mul_nonneg hq0 (by omega)
        exact Int.mul_nonneg (by omega) (by omega)
    · omega
  rw [w64 (x := q) (by omega) (by omega), w64 (x := q * m) (by omega) (by omega), w64 (x := b * q) (by omega) (by omega), w64 (x := q - 1) (by omega) (by omega), hx]
  generalize b * (q * (q - 1) / 2) = z at *
  have e3 : Int.tdiv (2 * z) 2 = z := by rw [Int.tdiv_eq_ediv_of_nonneg (by omega)]; omega
  rw [w64 (x := 2 * z) (by omega) (by omega), e3, w64 (x := z) (by omega) (by omega), w64 (x := q * m + z) (by omega) (by omega)]
theorem FnSpeed : laws_FnSpeed.Pure := by
  intro l0 l1 _ _ hw _ _ hw1
  apply Ev.rounds
  unfold laws_FnSpeed.f
  have big : Ev (fun k => laws_FnSpeed.j0 k l0 l1 true) true := by
    apply Ev.succ; simp only [laws_FnSpeed.j0]
    exact Ev.pos (by simp) (Ev.ret rfl)
  by_cases c : (l0.length : Int) > 1048576
  · exact Ev.pos c big
  · refine Ev.neg c ?_
    by_cases c1 : (l1.length : Int) > 1048576
    · rw [decide_eq_true c1]; exact big
    · rw [decide_eq_false c1]
      obtain ⟨nx, fa, op, wk, hrow, hr, n1, n9⟩ := rows_ev hw
      obtain ⟨u0, hu0, a0, b0⟩ := wByte_is (by omega) hw1 (a := 0) (by omega)
      obtain ⟨u1, hu1, a1, b1⟩ := wByte_is (by omega) hw1 (a := 1) (by omega)
      obtain ⟨u2, hu2, a2, b2⟩ := wByte_is (by omega) hw1 (a := 2) (by omega)
      have i0 : 0 ≤ Int.tmod u0 nx.length := Int.tmod_nonneg _ a0
      have i1 : Int.tmod u0 nx.length < nx.length := Int.tmod_lt_of_pos _ (by omega)
      have d0 : 0 ≤ Int.tmod u2 5 := Int.tmod_nonneg _ a2
      have d1 : Int.tmod u2 5 < 5 := Int.tmod_lt_of_pos _ (by omega)
      obtain ⟨i, hi⟩ := Int.eq_ofNat_of_zero_le i0
      rw [hi] at i1
      have hlt : i < nx.length := by omega
      have e1 := speed_ev hr hlt (b := 10 + u1) (d := Int.tmod u2 5) (by omega) (by omega) d0 (by omega)
      have e2 := sspeed_ev hr hlt (b := 10 + u1) (d := Int.tmod u2 5) (by omega) (by omega) d0 (by omega)
      have e3 := sroom_ev hr hlt
      have hl := roomOf_lo hr (shown nx op wk i).toNat (i : Int) 0 (by omega)
      have hh := roomOf_hi hr (shown nx op wk i).toNat (i : Int) 0 (by omega)
      have s3 := shown_hi (nx := nx) (op := op) (wk := wk) i
      have sp0 : 0 ≤ speedOf nx fa op wk i (10 + u1) (Int.tmod u2 5) := by
        unfold speedOf
        split
        · omega
        · have := (best_is (d := Int.tmod u2 5) (b := 10 + u1) (room := roomOf nx fa (shown nx op wk i).toNat i 0) 10000 1 (by omega) (by unfold farOf; rw [slow_small (by omega) (by omega) (by omega)]; omega)).1
          omega
      apply Ev.succ; simp only [laws_FnSpeed.j0]
      refine Ev.neg (by simp) (Ev.bind hrow (Ev.bindc hu0 (Ev.neg (by show ¬ ((nx.length : Int) = 0); omega) (Ev.bindc hu1 (Ev.bindc hu2 ?_)))))
      dsimp only
      rw [w64 (x := 10 + u1) (by omega) (by omega), hi]
      refine Ev.bind e1 (Ev.bind e2 (Ev.pos rfl ?_))
      rw [decide_eq_false (show ¬ speedOf nx fa op wk i (10 + u1) (Int.tmod u2 5) < 0 by omega)]
      apply Ev.succ; simp only [laws_FnSpeed.j1]
      refine Ev.neg (by simp) (Ev.bind e3 (Ev.bind (sshows_ev hr) (Ev.pos (by omega) (Ev.pos (by rw [tab_length]; omega) ?_))))
      rw [rd_tab _ hlt]
      by_cases q : shown nx op wk i ≤ 0
      · refine Ev.pos q (Ev.ret ?_)
        unfold speedOf; rw [if_pos q]; rfl
      · refine Ev.neg q ?_
        have hb := best_is (d := Int.tmod u2 5) (b := 10 + u1) (room := roomOf nx fa (shown nx op wk i).toNat i 0) 10000 1 (by omega) (by unfold farOf; rw [slow_small (by omega) (by omega) (by omega)]; omega)
        have he : speedOf nx fa op wk i (10 + u1) (Int.tmod u2 5) = bestF (Int.tmod u2 5) (10 + u1) (roomOf nx fa (shown nx op wk i).toNat i 0) 10000 1 := by unfold speedOf; rw [if_neg q]
        rw [he]
        generalize bestF (Int.tmod u2 5) (10 + u1) (roomOf nx fa (shown nx op wk i).toNat i 0) 10000 1 = v at *
        generalize roomOf nx fa (shown nx op wk i).toNat (i : Int) 0 = room at *
        obtain ⟨g1, g2, g3, g4⟩ := hb
        have m1 := mul_small d0 (by omega) (v := v) (by omega) (by omega)
        have m2 := mul_small d0 (by omega) (v := v + 1) (by omega) (by omega)
        have t1 := slow_top (b := 10 + u1) (v := v) (by omega) (by omega) (by omega)
        have t2 := slow_top (b := 10 + u1) (v := v + 1) (by omega) (by omega) (by omega)
        have t3 := slow_nonneg (b := 10 + u1) (v := v) (by omega) (by omega)
        have t4 := slow_nonneg (b := 10 + u1) (v := v + 1) (by omega) (by omega)
        unfold farOf at g3 g4
        refine Ev.bindc (wslow_is (by omega) (by omega) (by omega) (by omega)) ?_
        rw [w64 (x := Int.tmod u2 5 * v) (by omega) (by omega), w64 (x := slow (10 + u1) v + Int.tmod u2 5 * v) (by omega) (by omega)]
        refine Ev.pos (by omega) ?_
        by_cases z : v = 10000
        · exact Ev.pos z (Ev.ret rfl)
        · refine Ev.neg z ?_
          rw [w64 (x := v + 1) (by omega) (by omega)]
          refine Ev.bindc (wslow_is (by omega) (by omega) (by omega) (by omega)) (Ev.ret ?_)
          rw [w64 (x := Int.tmod u2 5 * (v + 1)) (by omega) (by omega), w64 (x := slow (10 + u1) (v + 1) + Int.tmod u2 5 * (v + 1)) (by omega) (by omega)]
          exact decide_eq_true (by omega)
end Go.Proofs.Ytpdcghclcgbcfaa.Pure
