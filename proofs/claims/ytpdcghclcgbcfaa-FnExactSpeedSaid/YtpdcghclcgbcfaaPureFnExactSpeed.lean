/- FnExactSpeed: at every row and every number the program's Speed answers as the reference's, and writes into nothing. Conditions: lengths that stand in memory. -/
import Derived.Test.YtpdcghclcgbcfaaPx32
import Derived.Test.YtpdcghclcgbcfaaLinkArg
import Derived.Test.YtpdcghclcgbcfaaLinkSpeed
namespace Go.Proofs.Ytpdcghclcgbcfaa.Pure
open Go.RowKit Go.Proofs.Ytpdcghclcgbcfaa.P Go.Proofs.Ytpdcghclcgbcfaa.Plain Go.Proofs.Ytpdcghclcgbcfaa.Link Go.Proofs.YtpdcghclcgbcfaaW.PrintWords Go.Proofs.YtpdcghclcgbcfaaW.PrintLast Go.Proofs.YtpdcghclcgbcfaaW.PrintMore
set_option linter.unusedVariables false
set_option linter.unusedSimpArgs false
theorem sameSpeed {nx fa : List Int} {op : List Bool} {wk : List (List Bool)} (hn : nx.length ≤ 1000000000) (i b d : Int) : ∃ r, Ev (fun k => impl_Speed.f k nx fa op wk i b d) r ∧ Ev (fun k => spec_Speed.f k nx fa op wk i b d) r := by
  by_cases c : rowcode nx fa op wk = 0 ∧ 0 ≤ i ∧ i < nx.length ∧ 10 ≤ b ∧ b ≤ 1000 ∧ 0 ≤ d ∧ d ≤ 20
  · obtain ⟨c1, c2, c3, c4, c5, c6, c7⟩ := c
    obtain ⟨j, rfl⟩ := Int.eq_ofNat_of_zero_le c2
    have hr := right_of_code c1
    exact ⟨_, speed_ev hr (i := j) (by omega) c4 c5 c6 c7, sspeed_ev hr (by omega) c4 c5 c6 c7⟩
  · exact ⟨-1, speed_no c, sspeed_no hn c⟩
theorem FnExactSpeed (nx fa : List Int) (op : List Bool) (wk : List (List Bool)) (h : Fits nx fa op wk) (i b d : Int) (_ : (Lit.int .i64 i).wf = true) (_ : (Lit.int .i64 b).wf = true) (_ : (Lit.int .i64 d).wf = true) : ∃ k, laws_FnExactSpeed.f k nx fa op wk i b d = some true := by
  apply Ev.rounds
  obtain ⟨s, hs, hsm⟩ := sz_ev h
  unfold laws_FnExactSpeed.f
  by_cases c : s < 0
  · exact Ev.bind hs (Ev.pos c (Ev.ret rfl))
  · have sm := hsm c
    have e := to_ev sm
    obtain ⟨r, h1, h2⟩ := sameSpeed (nx := nx) (fa := fa) (op := op) (wk := wk) (by have := sm.1; omega) i b d
    exact Ev.bind hs (Ev.neg c (Ev.bind e (Ev.bind h2 (Ev.bind e (Ev.bind h1 (Ev.pos rfl (Ev.bind e (Ev.bind (eq_ev sm) (Ev.pos rfl (Ev.ret rfl))))))))))
end Go.Proofs.Ytpdcghclcgbcfaa.Pure
