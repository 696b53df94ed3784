/- What the reference's Shows tells: the least way of agreeing of a right row, nothing of another. Conditions: none. -/
import Derived.Test.YtpdcghclcgbcfaaTx12
import Derived.Test.YtpdcghclcgbcfaaTLinkSpec
import Derived.Test.YtpdcghclcgbcfaaTLinkShown
namespace Go.Proofs.Ytpdcghclcgbcfaa.LinkT
open Go.RowKit Go.Proofs.Ytpdcghclcgbcfaa.T Go.Proofs.Ytpdcghclcgbcfaa.Plain Go.Proofs.YtpdcghclcgbcfaaW.PrintWords Go.Proofs.YtpdcghclcgbcfaaW.PrintLast Go.Proofs.YtpdcghclcgbcfaaW.PrintMore
set_option linter.unusedVariables false
set_option linter.unusedSimpArgs false
variable {nx fa : List Int} {op : List Bool} {wk : List (List Bool)}
theorem sshows_ev (hr : Right nx fa op wk) : Ev (fun k => spec_Shows.f k nx fa op wk) (tab nx.length (shown nx op wk)) := by
  unfold spec_Shows.f
  refine Ev.bind spec_ok (Ev.pos (code_of_right hr) (Ev.bind (both_ev hr) (Ev.ret rfl)))
theorem sshows_no (hr : rowcode nx fa op wk ≠ 0) : Ev (fun k => spec_Shows.f k nx fa op wk) [] := by
  unfold spec_Shows.f
  refine Ev.bind spec_ok (Ev.neg hr (Ev.ret rfl))
end Go.Proofs.Ytpdcghclcgbcfaa.LinkT
