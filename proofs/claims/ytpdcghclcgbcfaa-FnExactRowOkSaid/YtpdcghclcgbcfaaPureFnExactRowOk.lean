/- FnExactRowOk: at every row the program's RowOk answers as the reference's, and writes into nothing. Conditions: lengths that stand in memory. -/
import Derived.Test.YtpdcghclcgbcfaaPx29
import Derived.Test.YtpdcghclcgbcfaaLinkArg
namespace Go.Proofs.Ytpdcghclcgbcfaa.Pure
open Go.RowKit Go.Proofs.Ytpdcghclcgbcfaa.P Go.Proofs.Ytpdcghclcgbcfaa.Plain Go.Proofs.Ytpdcghclcgbcfaa.Link Go.Proofs.YtpdcghclcgbcfaaW.PrintWords Go.Proofs.YtpdcghclcgbcfaaW.PrintLast Go.Proofs.YtpdcghclcgbcfaaW.PrintMore
set_option linter.unusedVariables false
set_option linter.unusedSimpArgs false
theorem FnExactRowOk (nx fa : List Int) (op : List Bool) (wk : List (List Bool)) (h : Fits nx fa op wk) : ∃ k, laws_FnExactRowOk.f k nx fa op wk = some true := by
  apply Ev.rounds
  obtain ⟨s, hs, hsm⟩ := sz_ev h
  unfold laws_FnExactRowOk.f
  by_cases c : s < 0
  · exact Ev.bind hs (Ev.pos c (Ev.ret rfl))
  · have sm := hsm c
    have e := to_ev sm
    exact Ev.bind hs (Ev.neg c (Ev.bind e (Ev.bind spec_ok (Ev.bind e (Ev.bind impl_ok (Ev.pos rfl (Ev.bind e (Ev.bind (eq_ev sm) (Ev.pos rfl (Ev.ret rfl))))))))))
end Go.Proofs.Ytpdcghclcgbcfaa.Pure
