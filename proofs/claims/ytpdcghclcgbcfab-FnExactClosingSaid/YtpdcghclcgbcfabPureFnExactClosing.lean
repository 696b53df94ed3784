/- FnExactClosing: at every row and every number the program's Closing answers as the reference's, writes into nothing, keeps nothing of the row, and nothing keeps what it gave. Conditions: lengths that stand in memory. -/
import Derived.Test.YtpdcghclcgbcfabRx19
import Derived.Test.YtpdcghclcgbcfabRx18
import Derived.Test.YtpdcghclcgbcfabRx11
import Derived.Test.YtpdcghclcgbcfabRLinkMark0
import Derived.Test.YtpdcghclcgbcfabRLinkChange
import Derived.Test.YtpdcghclcgbcfabRLinkThere
namespace Go.Proofs.Ytpdcghclcgbcfab.Pure
open Go.RowKit Go.Proofs.Ytpdcghclcgbcfab.R Go.Proofs.Ytpdcghclcgbcfab.Plain Go.Proofs.Ytpdcghclcgbcfab.LinkR Go.Proofs.YtpdcghclcgbcfabW.PrintWords Go.Proofs.YtpdcghclcgbcfabW.PrintLast Go.Proofs.YtpdcghclcgbcfabW.PrintMore
set_option linter.unusedVariables false
set_option linter.unusedSimpArgs false
section
variable {nx fa : List Int} {op : List Bool} {wk : List (List Bool)}
theorem small_of (hr : Right nx fa op wk) : Small nx fa op wk := by
  have h1 := hr.n60; have h2 := hr.faL; have h3 := hr.opL; have h4 := hr.wkL
  refine ⟨by omega, by omega, by omega, by omega, fun x hx => ?_⟩
  obtain ⟨j, hj, rfl⟩ := List.mem_iff_getElem.1 hx
  have h5 := hr.wk4 j (by omega)
  rw [List.getD_eq_getElem?_getD, List.getElem?_eq_getElem hj] at h5
  simp only [Option.getD_some] at h5
  omega
theorem closed (hr : Right nx fa op wk) (i : Nat) : Right nx fa (op.set i false) wk :=
  ⟨hr.n60, hr.faL, by rw [List.length_set]; exact hr.opL, hr.wkL, hr.lo, hr.hi, hr.fa0, hr.fa1, hr.wk4⟩
theorem sameClosing (hn : nx.length ≤ 1048576) (i : Int) : ∃ r : List S58, r.length ≤ 1048576 ∧ Ev (fun k => impl_Closing.f k nx fa op wk i) r ∧ Ev (fun k => spec_Closing.f k nx fa op wk i) r := by
  by_cases c : rowcode nx fa op wk = 0 ∧ 0 ≤ i ∧ i < nx.length
  · obtain ⟨c1, c2, c3⟩ := c
    obtain ⟨j, rfl⟩ := Int.eq_ofNat_of_zero_le c2
    have hr := right_of_code c1
    have h60 := hr.n60
    have hop := hr.opL
    have sm := small_of hr
    refine ⟨chg (tab nx.length (shown nx op wk)) (tab nx.length (shown nx (op.set j false) wk)) nx.length, ?_, ?_, ?_⟩
    · have := chg_len (tab nx.length (shown nx op wk)) (tab nx.length (shown nx (op.set j false) wk)) nx.length
      omega
    · unfold impl_Closing.f
      refine Ev.bind (there_yes hr c2 c3) (Ev.pos rfl (Ev.bind (copied_ev sm) (Ev.pos c2 (Ev.pos (by show (j : Int) < (op.length : Int); omega) ?_))))
      simp only [Int.toNat_natCast]
      exact Ev.bind (changes_ev hr (closed hr j)) (Ev.ret rfl)
    · unfold spec_Closing.f
      rw [w64 (x := (nx.length : Int) - 1) (by omega) (by omega)]
      have e : Ev (fun k => spec_Closing.j0 k j false nx fa op wk) (chg (tab nx.length (shown nx op wk)) (tab nx.length (shown nx (op.set j false) wk)) nx.length) := by
        apply Ev.succ; simp only [spec_Closing.j0]
        refine Ev.neg (by simp) (Ev.bind (l2copy_ev sm) (Ev.pos c2 (Ev.pos (by show (j : Int) < (op.length : Int); omega) ?_)))
        simp only [Int.toNat_natCast]
        exact Ev.bind (l2changes_ev hr (closed hr j)) (Ev.ret rfl)
      exact Ev.bind spec_ok (Ev.pos c1 (Ev.bindc (in_true ⟨c2, by omega⟩) e))
  · refine ⟨[], by simp, ?_, ?_⟩
    · unfold impl_Closing.f
      exact Ev.bind (there_no c) (Ev.neg (by simp) (Ev.ret rfl))
    · unfold spec_Closing.f
      rw [w64 (x := (nx.length : Int) - 1) (by omega) (by omega)]
      have e : Ev (fun k => spec_Closing.j0 k i true nx fa op wk) ([] : List S58) := by
        apply Ev.succ; simp only [spec_Closing.j0]
        exact Ev.pos trivial (Ev.ret rfl)
      refine Ev.bind spec_ok ?_
      by_cases c1 : rowcode nx fa op wk = 0
      · exact Ev.pos c1 (Ev.bindc (in_false fun h => c ⟨c1, h.1, by omega⟩) e)
      · exact Ev.neg c1 e
end
theorem FnExactClosing (nx fa : List Int) (op : List Bool) (wk : List (List Bool)) (h : Fits nx fa op wk) (i : Int) (_ : (Lit.int .i64 i).wf = true) : ∃ k, laws_FnExactClosing.f k nx fa op wk i = some true := by
  apply Ev.rounds
  obtain ⟨s, hs, hsm⟩ := sz_ev h
  unfold laws_FnExactClosing.f
  by_cases c : s < 0
  · exact Ev.bind hs (Ev.pos c (Ev.ret rfl))
  · have sm := hsm c
    have e := to_ev sm
    obtain ⟨r, hl, h1, h2⟩ := sameClosing (nx := nx) (fa := fa) (op := op) (wk := wk) sm.1 i
    obtain ⟨m, m0, hm⟩ := markRow_ev sm
    have hq := eqChanges_ev r hl
    obtain ⟨l', hl', hj', mk⟩ := markChg_ev r 1 hl (by omega) (by omega)
    have hd := heldChg_ev l' 1 (by omega) (by omega) (by omega) (fun j hj => hj' j (by omega))
    rw [hl'] at hd
    have hj : Ev (fun k => laws_FnExactClosing.j0 k i r r false nx fa op wk) true := by
      apply Ev.succ; simp only [laws_FnExactClosing.j0]
      exact Ev.neg (by simp) (Ev.bind mk (Ev.bind hd (Ev.neg (by omega) (Ev.pos rfl (Ev.bind e (Ev.bind h1 (Ev.bind hq (Ev.pos rfl (Ev.bind hd (Ev.neg (by omega) (Ev.pos rfl (Ev.ret rfl))))))))))))
    exact Ev.bind hs (Ev.neg c (Ev.bind e (Ev.bind h2 (Ev.bind e (Ev.bind h1 (Ev.bind hq (Ev.pos rfl (Ev.bind e (Ev.bind (eq_ev sm) (Ev.pos rfl (Ev.bind hm (Ev.neg (by omega) (Ev.bind hq hj)))))))))))))
end Go.Proofs.Ytpdcghclcgbcfab.Pure
