/- Is there such a signal in a right row. Over the printed functions. Conditions: none. -/
import Derived.Test.YtpdcghclcgbcfaaTx5
import Derived.Test.YtpdcghclcgbcfaaTLinkShown
import Derived.Test.YtpdcghclcgbcfaaTLinkSpec
import Derived.Test.YtpdcghclcgbcfaaPlainRoom
namespace Go.Proofs.Ytpdcghclcgbcfaa.LinkT
open Go.RowKit Go.Proofs.Ytpdcghclcgbcfaa.T Go.Proofs.Ytpdcghclcgbcfaa.Plain Go.Proofs.YtpdcghclcgbcfaaW.PrintWords Go.Proofs.YtpdcghclcgbcfaaW.PrintLast Go.Proofs.YtpdcghclcgbcfaaW.PrintMore
set_option linter.unusedVariables false
set_option linter.unusedSimpArgs false
section
variable {nx fa : List Int} {op : List Bool} {wk : List (List Bool)}
theorem there_yes (hr : Right nx fa op wk) {i : Int} (h0 : 0 ≤ i) (h1 : i < nx.length) : Ev (fun k => impl_there.f k nx fa op wk i) true := by
  unfold impl_there.f
  exact Ev.bind impl_ok (Ev.pos (code_of_right hr) (Ev.pos h0 (Ev.ret (decide_eq_true h1))))
theorem there_no {i : Int} (h : ¬ (rowcode nx fa op wk = 0 ∧ 0 ≤ i ∧ i < nx.length)) : Ev (fun k => impl_there.f k nx fa op wk i) false := by
  unfold impl_there.f
  refine Ev.bind impl_ok ?_
  by_cases c1 : rowcode nx fa op wk = 0
  · refine Ev.pos c1 ?_
    by_cases c2 : i ≥ 0
    · exact Ev.pos c2 (Ev.ret (decide_eq_false fun c3 => h ⟨c1, c2, c3⟩))
    · exact Ev.neg c2 (Ev.ret rfl)
  · exact Ev.neg c1 (Ev.ret rfl)
end
end Go.Proofs.Ytpdcghclcgbcfaa.LinkT
