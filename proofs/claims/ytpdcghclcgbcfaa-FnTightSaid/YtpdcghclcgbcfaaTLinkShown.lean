/- What the program's Shows tells: the least way of agreeing of a right row, nothing of another. Conditions: none. -/
import Derived.Test.YtpdcghclcgbcfaaTx8
import Derived.Test.YtpdcghclcgbcfaaTLinkImpl
namespace Go.Proofs.Ytpdcghclcgbcfaa.LinkT
open Go.RowKit Go.Proofs.Ytpdcghclcgbcfaa.T Go.Proofs.Ytpdcghclcgbcfaa.Plain Go.Proofs.YtpdcghclcgbcfaaW.PrintWords Go.Proofs.YtpdcghclcgbcfaaW.PrintLast Go.Proofs.YtpdcghclcgbcfaaW.PrintMore
set_option linter.unusedVariables false
set_option linter.unusedSimpArgs false
variable {nx fa : List Int} {op : List Bool} {wk : List (List Bool)}
theorem shows_ev (hr : Right nx fa op wk) : Ev (fun k => impl_Shows.f k nx fa op wk) (tab nx.length (shown nx op wk)) := by
  unfold impl_Shows.f
  refine Ev.bind impl_ok (Ev.pos (code_of_right hr) (Ev.bind (work_ev hr) (Ev.ret rfl)))
theorem shows_no (hr : rowcode nx fa op wk ≠ 0) : Ev (fun k => impl_Shows.f k nx fa op wk) [] := by
  unfold impl_Shows.f
  refine Ev.bind impl_ok (Ev.neg hr (Ev.ret rfl))
end Go.Proofs.Ytpdcghclcgbcfaa.LinkT
