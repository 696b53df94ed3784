/- What the program's Shows tells: the least way of agreeing of a right row, nothing of another. Conditions: none. -/
import Derived.Test.YtpdcghclcgbcfabUx13
import Derived.Test.YtpdcghclcgbcfabULinkImpl
namespace Go.Proofs.Ytpdcghclcgbcfab.LinkU
open Go.RowKit Go.Proofs.Ytpdcghclcgbcfab.U Go.Proofs.Ytpdcghclcgbcfab.Plain Go.Proofs.YtpdcghclcgbcfabW.PrintWords Go.Proofs.YtpdcghclcgbcfabW.PrintLast Go.Proofs.YtpdcghclcgbcfabW.PrintMore
set_option linter.unusedVariables false
set_option linter.unusedSimpArgs false
variable {nx fa : List Int} {op : List Bool} {wk : List (List Bool)}
theorem shows_ev (hr : Right nx fa op wk) : Ev (fun k => impl_Shows.f k nx fa op wk) (tab nx.length (shown nx op wk)) := by
  unfold impl_Shows.f
  refine Ev.bind impl_ok (Ev.pos (code_of_right hr) (Ev.bind (work_ev hr) (Ev.ret rfl)))
theorem shows_no (hr : rowcode nx fa op wk ≠ 0) : Ev (fun k => impl_Shows.f k nx fa op wk) [] := by
  unfold impl_Shows.f
  refine Ev.bind impl_ok (Ev.neg hr (Ev.ret rfl))
end Go.Proofs.Ytpdcghclcgbcfab.LinkU
