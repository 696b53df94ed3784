/- What the reference's Wants tells: the least way of agreeing of a right row, nothing of another. Conditions: none. -/
import Derived.Test.YtpdcghclcgbcfaaQx23
import Derived.Test.YtpdcghclcgbcfaaQLinkSpec
import Derived.Test.YtpdcghclcgbcfaaQLinkShown
namespace Go.Proofs.Ytpdcghclcgbcfaa.LinkQ
open Go.RowKit Go.Proofs.Ytpdcghclcgbcfaa.Q Go.Proofs.Ytpdcghclcgbcfaa.Plain Go.Proofs.YtpdcghclcgbcfaaW.PrintWords Go.Proofs.YtpdcghclcgbcfaaW.PrintLast Go.Proofs.YtpdcghclcgbcfaaW.PrintMore
set_option linter.unusedVariables false
set_option linter.unusedSimpArgs false
variable {nx fa : List Int} {op : List Bool} {wk : List (List Bool)}
theorem swants_ev (hr : Right nx fa op wk) : Ev (fun k => spec_Wants.f k nx fa op wk) (tab nx.length (wanted nx op wk)) := by
  unfold spec_Wants.f
  refine Ev.bind spec_ok (Ev.pos (code_of_right hr) (Ev.bind (both_ev hr) (Ev.ret rfl)))
theorem swants_no (hr : rowcode nx fa op wk ≠ 0) : Ev (fun k => spec_Wants.f k nx fa op wk) [] := by
  unfold spec_Wants.f
  refine Ev.bind spec_ok (Ev.neg hr (Ev.ret rfl))
end Go.Proofs.Ytpdcghclcgbcfaa.LinkQ
