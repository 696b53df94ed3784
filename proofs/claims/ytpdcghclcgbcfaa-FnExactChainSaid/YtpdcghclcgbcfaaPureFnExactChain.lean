/- FnExactChain: at every row and every number the program's Chain answers as the reference's, writes into nothing, keeps nothing of the row, and nothing keeps what it gave. Conditions: lengths that stand in memory. -/
import Derived.Test.YtpdcghclcgbcfaaQx14
import Derived.Test.YtpdcghclcgbcfaaQLinkMark
import Derived.Test.YtpdcghclcgbcfaaQLinkChain
namespace Go.Proofs.Ytpdcghclcgbcfaa.Pure
open Go.RowKit Go.Proofs.Ytpdcghclcgbcfaa.Q Go.Proofs.Ytpdcghclcgbcfaa.Plain Go.Proofs.Ytpdcghclcgbcfaa.LinkQ Go.Proofs.YtpdcghclcgbcfaaW.PrintWords Go.Proofs.YtpdcghclcgbcfaaW.PrintLast Go.Proofs.YtpdcghclcgbcfaaW.PrintMore
set_option linter.unusedVariables false
set_option linter.unusedSimpArgs false
theorem FnExactChain (nx fa : List Int) (op : List Bool) (wk : List (List Bool)) (h : Fits nx fa op wk) (i : Int) (_ : (Lit.int .i64 i).wf = true) : ∃ k, laws_FnExactChain.f k nx fa op wk i = some true := by
  apply Ev.rounds
  obtain ⟨s, hs, hsm⟩ := sz_ev h
  unfold laws_FnExactChain.f
  by_cases c : s < 0
  · exact Ev.bind hs (Ev.pos c (Ev.ret rfl))
  · have sm := hsm c
    have e := to_ev sm
    obtain ⟨r, hl, h1, h2⟩ := sameChain (nx := nx) (fa := fa) (op := op) (wk := wk) sm.1 i
    obtain ⟨m, m0, hm⟩ := markRow_ev sm
    have hq := eqInt_ev r hl
    have mk := markInt_ev r 1 hl (by omega) (by omega)
    have hd := heldInt_ev r.length 1 hl (by omega) (by omega)
    have hj : Ev (fun k => laws_FnExactChain.j0 k i r r false nx fa op wk) true := by
      apply Ev.succ; simp only [laws_FnExactChain.j0]
      exact Ev.neg (by simp) (Ev.bind mk (Ev.bind hd (Ev.neg (by omega) (Ev.pos rfl (Ev.bind e (Ev.bind h1 (Ev.bind hq (Ev.pos rfl (Ev.bind hd (Ev.neg (by omega) (Ev.pos rfl (Ev.ret rfl))))))))))))
    exact Ev.bind hs (Ev.neg c (Ev.bind e (Ev.bind h2 (Ev.bind e (Ev.bind h1 (Ev.bind hq (Ev.pos rfl (Ev.bind e (Ev.bind (eq_ev sm) (Ev.pos rfl (Ev.bind hm (Ev.neg (by omega) (Ev.bind hq hj)))))))))))))
end Go.Proofs.Ytpdcghclcgbcfaa.Pure
