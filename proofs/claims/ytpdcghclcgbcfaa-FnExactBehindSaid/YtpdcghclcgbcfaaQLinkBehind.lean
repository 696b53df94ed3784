/- Who stands behind a signal, the program's and the reference's: of a right row and a signal of it the same list, else none. Over the printed functions. Conditions: none. -/
import Derived.Test.YtpdcghclcgbcfaaQx6
import Derived.Test.YtpdcghclcgbcfaaQx5
import Derived.Test.YtpdcghclcgbcfaaQLinkThere
namespace Go.Proofs.Ytpdcghclcgbcfaa.LinkQ
open Go.RowKit Go.Proofs.Ytpdcghclcgbcfaa.Q Go.Proofs.Ytpdcghclcgbcfaa.Plain Go.Proofs.YtpdcghclcgbcfaaW.PrintWords Go.Proofs.YtpdcghclcgbcfaaW.PrintLast Go.Proofs.YtpdcghclcgbcfaaW.PrintMore
set_option linter.unusedVariables false
set_option linter.unusedSimpArgs false
def bto (nx : List Int) (a : Int) : Nat → List Int
  | 0 => []
  | i + 1 => if nx.getD i 0 = a then bto nx a i ++ [(i : Int)] else bto nx a i
theorem bto_len (nx : List Int) (a : Int) : ∀ i, (bto nx a i).length ≤ i
  | 0 => by simp [bto]
  | i + 1 => by
    have := bto_len nx a i
    unfold bto
    split
    · rw [List.length_append]; simp; omega
    · omega
section
variable {nx fa : List Int} {op : List Bool} {wk : List (List Bool)}
theorem behind_l0 (a : Int) (h : nx.length ≤ 1048576) : ∀ d i : Nat, i + d = nx.length → Ev (fun k => impl_Behind.l0 k a (bto nx a i) nx nx.length i) (bto nx a nx.length) := by
  intro d
  induction d with
  | zero =>
    intro i hi
    obtain rfl : i = nx.length := by omega
    apply Ev.succ; simp only [impl_Behind.l0]
    exact Ev.neg (by omega) (Ev.ret rfl)
  | succ d ih =>
    intro i hi
    have hlen := bto_len nx a i
    apply Ev.succ; simp only [impl_Behind.l0]
    have e := ih (i + 1) (by omega)
    rw [show ((i + 1 : Nat) : Int) = (i : Int) + 1 by omega] at e
    rw [rd_nat, w64 (x := (i : Int) + 1) (by omega) (by omega)]
    refine Ev.pos (by omega) (Ev.pos (by omega) (Ev.pos (by omega) ?_))
    by_cases c : nx.getD i 0 = a
    · simp only [bto, if_pos c] at e; exact Ev.pos c (Ev.pos (by omega) e)
    · simp only [bto, if_neg c] at e; exact Ev.neg c e
theorem sbehind_l0 (a : Int) (h : nx.length ≤ 1048576) : ∀ d i : Nat, i + d = nx.length → Ev (fun k => spec_Behind.l0 k a (bto nx a i) nx nx.length i) (bto nx a nx.length) := by
  intro d
  induction d with
  | zero =>
    intro i hi
    obtain rfl : i = nx.length := by omega
    apply Ev.succ; simp only [spec_Behind.l0]
    exact Ev.neg (by omega) (Ev.ret rfl)
  | succ d ih =>
    intro i hi
    have hlen := bto_len nx a i
    apply Ev.succ; simp only [spec_Behind.l0]
    have e := ih (i + 1) (by omega)
    rw [show ((i + 1 : Nat) : Int) = (i : Int) + 1 by omega] at e
    rw [rd_nat, w64 (x := (i : Int) + 1) (by omega) (by omega)]
    refine Ev.pos (by omega) (Ev.pos (by omega) (Ev.pos (by omega) ?_))
    by_cases c : nx.getD i 0 = a
    · simp only [bto, if_pos c] at e; exact Ev.pos c (Ev.pos (by omega) e)
    · simp only [bto, if_neg c] at e; exact Ev.neg c e
theorem sameBehind (hn : nx.length ≤ 1048576) (i : Int) : ∃ r : List Int, r.length ≤ 1048576 ∧ Ev (fun k => impl_Behind.f k nx fa op wk i) r ∧ Ev (fun k => spec_Behind.f k nx fa op wk i) r := by
  by_cases c : rowcode nx fa op wk = 0 ∧ 0 ≤ i ∧ i < nx.length
  · obtain ⟨c1, c2, c3⟩ := c
    have hr := right_of_code c1
    refine ⟨bto nx i nx.length, by have := bto_len nx i nx.length; omega, ?_, ?_⟩
    · unfold impl_Behind.f
      exact Ev.bind (there_yes hr c2 c3) (Ev.pos rfl (behind_l0 i hn nx.length 0 (by omega)))
    · unfold spec_Behind.f
      rw [w64 (x := (nx.length : Int) - 1) (by omega) (by omega)]
      have e : Ev (fun k => spec_Behind.j0 k i false nx fa op wk) (bto nx i nx.length) := by
        apply Ev.succ; simp only [spec_Behind.j0]
        exact Ev.neg (by simp) (sbehind_l0 i hn nx.length 0 (by omega))
      exact Ev.bind spec_ok (Ev.pos c1 (Ev.bindc (in_true ⟨c2, by omega⟩) e))
  · refine ⟨[], by simp, ?_, ?_⟩
    · unfold impl_Behind.f
      exact Ev.bind (there_no c) (Ev.neg (by simp) (Ev.ret rfl))
    · unfold spec_Behind.f
      rw [w64 (x := (nx.length : Int) - 1) (by omega) (by omega)]
      have e : Ev (fun k => spec_Behind.j0 k i true nx fa op wk) ([] : List Int) := by
        apply Ev.succ; simp only [spec_Behind.j0]
        exact Ev.pos trivial (Ev.ret rfl)
      refine Ev.bind spec_ok ?_
      by_cases c1 : rowcode nx fa op wk = 0
      · exact Ev.pos c1 (Ev.bindc (in_false fun h => c ⟨c1, h.1, by omega⟩) e)
      · exact Ev.neg c1 e
end
end Go.Proofs.Ytpdcghclcgbcfaa.LinkQ
