/- What Shows and Wants tell, the program's and the reference's: the least way of agreeing of a right row, nothing of another. Conditions: none. -/
import Derived.Test.YtlojolldbbooeaaPx13
import Derived.Test.YtlojolldbbooeaaLinkSpec
import Derived.Test.YtlojolldbbooeaaLinkShown
namespace Go.Proofs.Ytlojolldbbooeaa.Link
open Go.RowKit Go.Proofs.Ytlojolldbbooeaa.P Go.Proofs.Ytlojolldbbooeaa.Plain Go.Proofs.YtlojolldbbooeaaW.PrintWords Go.Proofs.YtlojolldbbooeaaW.PrintLast Go.Proofs.YtlojolldbbooeaaW.PrintMore
set_option linter.unusedVariables false
set_option linter.unusedSimpArgs false
variable {nx fa : List Int} {op : List Bool} {wk : List (List Bool)}
theorem sshows_ev (hr : Right nx fa op wk) : Ev (fun k => spec_Shows.f k nx fa op wk) (tab nx.length (shown nx op wk)) := by
  unfold spec_Shows.f
  refine Ev.bind spec_ok (Ev.pos (code_of_right hr) (Ev.bind (both_ev hr) (Ev.ret rfl)))
theorem sshows_no (hr : rowcode nx fa op wk ≠ 0) : Ev (fun k => spec_Shows.f k nx fa op wk) [] := by
  unfold spec_Shows.f
  refine Ev.bind spec_ok (Ev.neg hr (Ev.ret rfl))
theorem swants_ev (hr : Right nx fa op wk) : Ev (fun k => spec_Wants.f k nx fa op wk) (tab nx.length (wanted nx op wk)) := by
  unfold spec_Wants.f
  refine Ev.bind spec_ok (Ev.pos (code_of_right hr) (Ev.bind (both_ev hr) (Ev.ret rfl)))
theorem swants_no (hr : rowcode nx fa op wk ≠ 0) : Ev (fun k => spec_Wants.f k nx fa op wk) [] := by
  unfold spec_Wants.f
  refine Ev.bind spec_ok (Ev.neg hr (Ev.ret rfl))
end Go.Proofs.Ytlojolldbbooeaa.Link
