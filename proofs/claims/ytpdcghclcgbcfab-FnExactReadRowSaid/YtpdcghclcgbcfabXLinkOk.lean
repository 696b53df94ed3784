/- The program's and the reference's RowOk tell the same code of every row: a walkless law over the printed functions. Conditions: none. -/
import Derived.Test.YtpdcghclcgbcfabXx1
import Derived.Test.YtpdcghclcgbcfabPlain
namespace Go.Proofs.Ytpdcghclcgbcfab.LinkX
open Go.RowKit Go.Proofs.Ytpdcghclcgbcfab.X Go.Proofs.Ytpdcghclcgbcfab.Plain Go.Proofs.YtpdcghclcgbcfabW.PrintWords Go.Proofs.YtpdcghclcgbcfabW.PrintLast Go.Proofs.YtpdcghclcgbcfabW.PrintMore
set_option linter.unusedVariables false
set_option linter.unusedSimpArgs false
variable {nx fa : List Int} {op : List Bool} {wk : List (List Bool)}
theorem rdL_nat (l : List (List Bool)) (i : Nat) : rd_L1 l (i : Int) = l.getD i [] := by unfold rd_L1; rw [Int.toNat_natCast]
theorem ok_l1 (hn : nx.length ≤ 60) (hw : wk.length = nx.length) : ∀ d i : Nat, i + d = nx.length → (∀ j, j < i → (wk.getD j []).length = 4) → Ev (fun k => impl_RowOk.l1 k nx.length i nx fa op wk) (code3 nx wk) := by
  intro d
  induction d with
  | zero =>
    intro i hi hj
    apply Ev.succ; simp only [impl_RowOk.l1]
    refine Ev.neg (by omega) (Ev.ret ?_)
    unfold code3
    rw [if_neg]
    rintro ⟨j, hj1, hj2⟩
    exact hj2 (hj j (by omega))
  | succ d ih =>
    intro i hi hj
    apply Ev.succ; simp only [impl_RowOk.l1]
    refine Ev.pos (by omega) (Ev.pos (by omega) (Ev.pos (by omega) ?_))
    rw [rdL_nat]
    by_cases c : (wk.getD i []).length = 4
    · refine Ev.pos (by omega) ?_
      rw [w64 (by omega) (by omega)]
      refine ih (i + 1) (by omega) (fun j hlt => ?_)
      by_cases e : j = i
      · subst e; exact c
      · exact hj j (by omega)
    · refine Ev.neg (by omega) (Ev.ret ?_)
      unfold code3
      rw [if_pos ⟨i, by omega, c⟩]
theorem ok_l0 (hn : nx.length ≤ 60) (hf : fa.length = nx.length) (hw : wk.length = nx.length) : ∀ d i : Nat, i + d = nx.length → (∀ j, j < i → ¬ badAt nx fa j) → Ev (fun k => impl_RowOk.l0 k nx.length nx.length i nx fa op wk) (code2 nx fa wk) := by
  intro d
  induction d with
  | zero =>
    intro i hi hj
    apply Ev.succ; simp only [impl_RowOk.l0]
    refine Ev.neg (by omega) ?_
    unfold code2
    rw [if_neg]
    · exact ok_l1 hn hw nx.length 0 (by omega) (fun j h => by omega)
    · rintro ⟨j, hj1, hj2⟩
      exact hj j (by omega) hj2
  | succ d ih =>
    intro i hi hj
    apply Ev.succ; simp only [impl_RowOk.l0]
    refine Ev.pos (by omega) (Ev.pos (by omega) (Ev.pos (by omega) ?_))
    rw [rd_nat, rd_nat]
    by_cases c : badAt nx fa i
    · have h2 : code2 nx fa wk = 2 := by unfold code2; rw [if_pos ⟨i, by omega, c⟩]
      rw [h2]
      unfold badAt at c
      by_cases c1 : nx.getD i 0 < -1
      · exact Ev.pos c1 (Ev.ret rfl)
      · refine Ev.neg c1 ?_
        by_cases c2 : (nx.length : Int) ≤ nx.getD i 0
        · exact Ev.pos c2 (Ev.ret rfl)
        · refine Ev.neg c2 (Ev.pos (by omega) ?_)
          by_cases c3 : fa.getD i 0 < 0
          · exact Ev.pos c3 (Ev.ret rfl)
          · refine Ev.neg c3 (Ev.pos (by omega) (Ev.ret rfl))
    · have c' := c
      unfold badAt at c'
      refine Ev.neg (by omega) (Ev.neg (by omega) (Ev.pos (by omega) (Ev.neg (by omega) (Ev.neg (by omega) ?_))))
      rw [w64 (by omega) (by omega)]
      refine ih (i + 1) (by omega) (fun j hlt => ?_)
      by_cases e : j = i
      · subst e; exact c
      · exact hj j (by omega)
theorem impl_ok : Ev (fun k => impl_RowOk.f k nx fa op wk) (rowcode nx fa op wk) := by
  unfold impl_RowOk.f rowcode
  by_cases c : badLen nx fa op wk
  · rw [if_pos c]
    have one : Ev (fun k => impl_RowOk.j0 k nx.length true nx fa op wk) 1 := by
      apply Ev.succ; simp only [impl_RowOk.j0]; exact Ev.pos (by simp) (Ev.ret rfl)
    unfold badLen at c
    by_cases c1 : (nx.length : Int) > 60
    · exact Ev.pos c1 one
    · refine Ev.neg c1 ?_
      by_cases c2 : (fa.length : Int) = nx.length
      · refine Ev.pos c2 ?_
        by_cases c3 : (op.length : Int) = nx.length
        · refine Ev.pos c3 ?_
          rw [show ((wk.length : Int) != (nx.length : Int)) = true by simp only [bne_iff_ne]; omega]
          exact one
        · exact Ev.neg c3 one
      · exact Ev.neg c2 one
  · rw [if_neg c]
    unfold badLen at c
    refine Ev.neg (by omega) (Ev.pos (by omega) (Ev.pos (by omega) ?_))
    rw [show ((wk.length : Int) != (nx.length : Int)) = false by simp only [bne_eq_false_iff_eq]; omega]
    apply Ev.succ; simp only [impl_RowOk.j0]
    refine Ev.neg (by simp) (ok_l0 (by omega) (by omega) (by omega) nx.length 0 (by omega) (fun j h => by omega))
theorem in_true {x a b : Int} (h : a ≤ x ∧ x ≤ b) : spec_l1in.f x a b = some true := by
  unfold spec_l1in.f; rw [if_pos h.1, decide_eq_true h.2]
theorem in_false {x a b : Int} (h : ¬ (a ≤ x ∧ x ≤ b)) : spec_l1in.f x a b = some false := by
  unfold spec_l1in.f
  by_cases c : x ≥ a
  · rw [if_pos c, decide_eq_false (fun e => h ⟨c, e⟩)]
  · rw [if_neg c]
theorem spec_l1 (hn : nx.length ≤ 60) (hw : wk.length = nx.length) : ∀ d i : Nat, i + d = nx.length → (∀ j, j < i → (wk.getD j []).length = 4) → Ev (fun k => spec_RowOk.l1 k wk nx.length i) (code3 nx wk) := by
  intro d
  induction d with
  | zero =>
    intro i hi hj
    apply Ev.succ; simp only [spec_RowOk.l1]
    refine Ev.neg (by omega) (Ev.ret ?_)
    unfold code3
    rw [if_neg]
    rintro ⟨j, hj1, hj2⟩
    exact hj2 (hj j (by omega))
  | succ d ih =>
    intro i hi hj
    apply Ev.succ; simp only [spec_RowOk.l1]
    refine Ev.pos (by omega) (Ev.pos (by omega) (Ev.pos (by omega) ?_))
    rw [rdL_nat]
    by_cases c : (wk.getD i []).length = 4
    · refine Ev.pos (by omega) ?_
      rw [w64 (by omega) (by omega)]
      refine ih (i + 1) (by omega) (fun j hlt => ?_)
      by_cases e : j = i
      · subst e; exact c
      · exact hj j (by omega)
    · refine Ev.neg (by omega) (Ev.ret ?_)
      unfold code3
      rw [if_pos ⟨i, by omega, c⟩]
theorem spec_l0 (hn : nx.length ≤ 60) (hf : fa.length = nx.length) (hw : wk.length = nx.length) : ∀ d i : Nat, i + d = nx.length → (∀ j, j < i → ¬ badAt nx fa j) → Ev (fun k => spec_RowOk.l0 k nx.length nx nx.length i nx fa op wk) (code2 nx fa wk) := by
  intro d
  induction d with
  | zero =>
    intro i hi hj
    apply Ev.succ; simp only [spec_RowOk.l0]
    refine Ev.neg (by omega) ?_
    unfold code2
    rw [if_neg]
    · rw [hw]; exact spec_l1 hn hw nx.length 0 (by omega) (fun j h => by omega)
    · rintro ⟨j, hj1, hj2⟩
      exact hj j (by omega) hj2
  | succ d ih =>
    intro i hi hj
    apply Ev.succ; simp only [spec_RowOk.l0]
    refine Ev.pos (by omega) (Ev.pos (by omega) (Ev.pos (by omega) ?_))
    rw [rd_nat, rd_nat, w64 (x := (nx.length : Int) - 1) (by omega) (by omega)]
    by_cases c : badAt nx fa i
    · have h2 : code2 nx fa wk = 2 := by unfold code2; rw [if_pos ⟨i, by omega, c⟩]
      rw [h2]
      unfold badAt at c
      by_cases c1 : -1 ≤ nx.getD i 0 ∧ nx.getD i 0 ≤ (nx.length : Int) - 1
      · refine Ev.bindc (in_true c1) (Ev.pos rfl (Ev.pos (by omega) ?_))
        exact Ev.bindc (in_false (by omega)) (Ev.neg (by simp) (Ev.ret rfl))
      · exact Ev.bindc (in_false c1) (Ev.neg (by simp) (Ev.ret rfl))
    · have c' := c
      unfold badAt at c'
      refine Ev.bindc (in_true (by omega)) (Ev.pos rfl (Ev.pos (by omega) (Ev.bindc (in_true (by omega)) (Ev.pos rfl ?_))))
      rw [w64 (by omega) (by omega)]
      refine ih (i + 1) (by omega) (fun j hlt => ?_)
      by_cases e : j = i
      · subst e; exact c
      · exact hj j (by omega)
theorem spec_ok : Ev (fun k => spec_RowOk.f k nx fa op wk) (rowcode nx fa op wk) := by
  unfold spec_RowOk.f rowcode
  by_cases c : badLen nx fa op wk
  · rw [if_pos c]
    have one : Ev (fun k => spec_RowOk.j0 k nx.length true nx fa op wk) 1 := by
      apply Ev.succ; simp only [spec_RowOk.j0]; exact Ev.pos (by simp) (Ev.ret rfl)
    unfold badLen at c
    by_cases c1 : (nx.length : Int) > 60
    · exact Ev.pos c1 one
    · refine Ev.neg c1 ?_
      by_cases c2 : (fa.length : Int) = nx.length
      · refine Ev.pos c2 ?_
        by_cases c3 : (op.length : Int) = nx.length
        · refine Ev.pos c3 ?_
          rw [show ((wk.length : Int) != (nx.length : Int)) = true by simp only [bne_iff_ne]; omega]
          exact one
        · exact Ev.neg c3 one
      · exact Ev.neg c2 one
  · rw [if_neg c]
    unfold badLen at c
    refine Ev.neg (by omega) (Ev.pos (by omega) (Ev.pos (by omega) ?_))
    rw [show ((wk.length : Int) != (nx.length : Int)) = false by simp only [bne_eq_false_iff_eq]; omega]
    apply Ev.succ; simp only [spec_RowOk.j0]
    refine Ev.neg (by simp) (spec_l0 (by omega) (by omega) (by omega) nx.length 0 (by omega) (fun j h => by omega))
end Go.Proofs.Ytpdcghclcgbcfab.LinkX
