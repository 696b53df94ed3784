/- What Room tells, the program's and the reference's: of a right row and a signal of it the same sums, else -1. Over the printed functions. Conditions: none. -/
import Derived.Test.YtpdcghclcgbcfaaPx16
import Derived.Test.YtpdcghclcgbcfaaPx18
import Derived.Test.YtpdcghclcgbcfaaLinkThere
namespace Go.Proofs.Ytpdcghclcgbcfaa.Link
open Go.RowKit Go.Proofs.Ytpdcghclcgbcfaa.P Go.Proofs.Ytpdcghclcgbcfaa.Plain Go.Proofs.YtpdcghclcgbcfaaW.PrintWords Go.Proofs.YtpdcghclcgbcfaaW.PrintLast Go.Proofs.YtpdcghclcgbcfaaW.PrintMore
set_option linter.unusedVariables false
set_option linter.unusedSimpArgs false
section
variable {nx fa : List Int} {op : List Bool} {wk : List (List Bool)}
theorem room_l0 (hr : Right nx fa op wk) : ∀ (a : Nat) (x6 p sum : Int), x6 ≤ 100 → x6.toNat = a → -1 ≤ p → p < nx.length → 0 ≤ sum → sum + 1000000 * a ≤ 1000000000 →
    Ev (fun k => impl_Room.l0 k p sum x6 nx fa op wk) (roomOf nx fa a p sum) := by
  have h60 := hr.n60
  have hfL := hr.faL
  intro a
  induction a with
  | zero =>
    intro x6 p sum hx ha h0 h1 h2 h3
    apply Ev.succ; simp only [impl_Room.l0]
    exact Ev.neg (by omega) (Ev.ret rfl)
  | succ a ih =>
    intro x6 p sum hx ha h0 h1 h2 h3
    apply Ev.succ; simp only [impl_Room.l0]
    refine Ev.pos (by omega) ?_
    unfold roomOf
    by_cases c : p = -1
    · rw [if_pos (by omega)]; exact Ev.pos c (Ev.ret rfl)
    · rw [if_neg (by omega)]
      have a1 := hr.lo p.toNat (by omega); have a2 := hr.hi p.toNat (by omega)
      have a3 := hr.fa0 p.toNat (by omega); have a4 := hr.fa1 p.toNat (by omega)
      refine Ev.neg c (Ev.pos (by omega) (Ev.pos (by omega) (Ev.pos (by omega) ?_)))
      have e1 : rd nx p = nx.getD p.toNat 0 := rfl
      have e2 : rd fa p = fa.getD p.toNat 0 := rfl
      rw [e1, e2, w64 (x := sum + fa.getD p.toNat 0) (by omega) (by omega), w64 (x := x6 - 1) (by omega) (by omega)]
      exact ih _ _ _ (by omega) (by omega) a1 a2 (by omega) (by omega)
theorem room_ev (hr : Right nx fa op wk) {i : Nat} (hi : i < nx.length) : Ev (fun k => impl_Room.f k nx fa op wk i) (roomOf nx fa (shown nx op wk i).toNat i 0) := by
  have a1 := shown_lo (nx := nx) (op := op) (wk := wk) i
  have a2 := shown_hi (nx := nx) (op := op) (wk := wk) i
  unfold impl_Room.f
  refine Ev.bind (there_yes hr (by omega) (by omega)) (Ev.pos rfl (Ev.bind (shows_ev hr) (Ev.pos (by omega) (Ev.pos (by rw [tab_length]; omega) ?_))))
  rw [rd_tab _ hi]
  exact room_l0 hr _ _ _ _ (by omega) rfl (by omega) (by omega) (by omega) (by omega)
theorem room_no {i : Int} (h : ¬ (rowcode nx fa op wk = 0 ∧ 0 ≤ i ∧ i < nx.length)) : Ev (fun k => impl_Room.f k nx fa op wk i) (-1) := by
  unfold impl_Room.f
  exact Ev.bind (there_no h) (Ev.neg (by simp) (Ev.ret rfl))
theorem sroom_l0 (hr : Right nx fa op wk) : ∀ (a : Nat) (x6 p sum : Int), x6 ≤ 100 → x6.toNat = a → -1 ≤ p → p < nx.length → 0 ≤ sum → sum + 1000000 * a ≤ 1000000000 →
    Ev (fun k => spec_Room.l0 k sum p x6 nx fa op wk) (roomOf nx fa a p sum) := by
  have h60 := hr.n60
  have hfL := hr.faL
  intro a
  induction a with
  | zero =>
    intro x6 p sum hx ha h0 h1 h2 h3
    apply Ev.succ; simp only [spec_Room.l0]
    exact Ev.neg (by omega) (Ev.ret rfl)
  | succ a ih =>
    intro x6 p sum hx ha h0 h1 h2 h3
    apply Ev.succ; simp only [spec_Room.l0]
    refine Ev.pos (by omega) ?_
    unfold roomOf
    by_cases c : p < 0
    · rw [if_pos c]; exact Ev.neg (by omega) (Ev.ret rfl)
    · rw [if_neg c]
      have a1 := hr.lo p.toNat (by omega); have a2 := hr.hi p.toNat (by omega)
      have a3 := hr.fa0 p.toNat (by omega); have a4 := hr.fa1 p.toNat (by omega)
      refine Ev.pos (by omega) (Ev.pos (by omega) (Ev.pos (by omega) (Ev.pos (by omega) ?_)))
      have e1 : rd nx p = nx.getD p.toNat 0 := rfl
      have e2 : rd fa p = fa.getD p.toNat 0 := rfl
      rw [e1, e2, w64 (x := sum + fa.getD p.toNat 0) (by omega) (by omega), w64 (x := x6 - 1) (by omega) (by omega)]
      exact ih _ _ _ (by omega) (by omega) a1 a2 (by omega) (by omega)
theorem sroom_ev (hr : Right nx fa op wk) {i : Nat} (hi : i < nx.length) : Ev (fun k => spec_Room.f k nx fa op wk i) (roomOf nx fa (shown nx op wk i).toNat i 0) := by
  have h60 := hr.n60
  have a1 := shown_lo (nx := nx) (op := op) (wk := wk) i
  have a2 := shown_hi (nx := nx) (op := op) (wk := wk) i
  unfold spec_Room.f
  rw [w64 (x := (nx.length : Int) - 1) (by omega) (by omega)]
  refine Ev.bind spec_ok (Ev.pos (code_of_right hr) (Ev.bindc (in_true (by omega)) ?_))
  apply Ev.succ; simp only [spec_Room.j0]
  refine Ev.neg (by simp) (Ev.bind (both_ev hr) (Ev.pos (by omega) (Ev.pos (by show (i : Int) < ((tab nx.length (shown nx op wk)).length : Int); rw [tab_length]; omega) ?_)))
  dsimp only
  rw [rd_tab _ hi]
  exact sroom_l0 hr _ _ _ _ (by omega) rfl (by omega) (by omega) (by omega) (by omega)
theorem sroom_no {i : Int} (hn : nx.length ≤ 1000000000) (h : ¬ (rowcode nx fa op wk = 0 ∧ 0 ≤ i ∧ i < nx.length)) : Ev (fun k => spec_Room.f k nx fa op wk i) (-1) := by
  have no : Ev (fun k => spec_Room.j0 k i true nx fa op wk) (-1) := by
    apply Ev.succ; simp only [spec_Room.j0]; exact Ev.pos (by simp) (Ev.ret rfl)
  unfold spec_Room.f
  rw [w64 (x := (nx.length : Int) - 1) (by omega) (by omega)]
  refine Ev.bind spec_ok ?_
  by_cases c : rowcode nx fa op wk = 0
  · refine Ev.pos c (Ev.bindc (in_false (fun e => h ⟨c, by omega, by omega⟩)) ?_)
    exact no
  · exact Ev.neg c no
end
end Go.Proofs.Ytpdcghclcgbcfaa.Link
