/- FnExactStop: at every row and every number the program's Stop answers as the reference's, and writes into nothing. Conditions: lengths that stand in memory. -/
import Derived.Test.YtpdcghclcgbcfaaPx31
import Derived.Test.YtpdcghclcgbcfaaLinkArg
import Derived.Test.YtpdcghclcgbcfaaLinkStop
namespace Go.Proofs.Ytpdcghclcgbcfaa.Pure
open Go.RowKit Go.Proofs.Ytpdcghclcgbcfaa.P Go.Proofs.Ytpdcghclcgbcfaa.Plain Go.Proofs.Ytpdcghclcgbcfaa.Link Go.Proofs.YtpdcghclcgbcfaaW.PrintWords Go.Proofs.YtpdcghclcgbcfaaW.PrintLast Go.Proofs.YtpdcghclcgbcfaaW.PrintMore
set_option linter.unusedVariables false
set_option linter.unusedSimpArgs false
theorem sameStop {nx fa : List Int} {op : List Bool} {wk : List (List Bool)} (hn : nx.length ≤ 1000000000) (i : Int) : ∃ r, Ev (fun k => impl_Stop.f k nx fa op wk i) r ∧ Ev (fun k => spec_Stop.f k nx fa op wk i) r := by
  by_cases c : rowcode nx fa op wk = 0 ∧ 0 ≤ i ∧ i < nx.length
  · obtain ⟨c1, c2, c3⟩ := c
    obtain ⟨j, rfl⟩ := Int.eq_ofNat_of_zero_le c2
    have hr := right_of_code c1
    exact ⟨_, stop_ev hr (i := j) (by omega), sstop_ev hr (by omega)⟩
  · exact ⟨-1, stop_no c, sstop_no hn c⟩
theorem FnExactStop (nx fa : List Int) (op : List Bool) (wk : List (List Bool)) (h : Fits nx fa op wk) (i : Int) (_ : (Lit.int .i64 i).wf = true) : ∃ k, laws_FnExactStop.f k nx fa op wk i = some true := by
  apply Ev.rounds
  obtain ⟨s, hs, hsm⟩ := sz_ev h
  unfold laws_FnExactStop.f
  by_cases c : s < 0
  · exact Ev.bind hs (Ev.pos c (Ev.ret rfl))
  · have sm := hsm c
    have e := to_ev sm
    obtain ⟨r, h1, h2⟩ := sameStop (nx := nx) (fa := fa) (op := op) (wk := wk) (by have := sm.1; omega) i
    exact Ev.bind hs (Ev.neg c (Ev.bind e (Ev.bind h2 (Ev.bind e (Ev.bind h1 (Ev.pos rfl (Ev.bind e (Ev.bind (eq_ev sm) (Ev.pos rfl (Ev.ret rfl))))))))))
end Go.Proofs.Ytpdcghclcgbcfaa.Pure
