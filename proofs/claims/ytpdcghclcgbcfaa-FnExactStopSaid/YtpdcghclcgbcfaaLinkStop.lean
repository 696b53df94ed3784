/- What Stop tells, the program's and the reference's: of a right row and a signal of it the same sums, else -1. Over the printed functions. Conditions: none. -/
import Derived.Test.YtpdcghclcgbcfaaPx17
import Derived.Test.YtpdcghclcgbcfaaPx19
import Derived.Test.YtpdcghclcgbcfaaLinkThere
namespace Go.Proofs.Ytpdcghclcgbcfaa.Link
open Go.RowKit Go.Proofs.Ytpdcghclcgbcfaa.P Go.Proofs.Ytpdcghclcgbcfaa.Plain Go.Proofs.YtpdcghclcgbcfaaW.PrintWords Go.Proofs.YtpdcghclcgbcfaaW.PrintLast Go.Proofs.YtpdcghclcgbcfaaW.PrintMore
set_option linter.unusedVariables false
set_option linter.unusedSimpArgs false
section
variable {nx fa : List Int} {op : List Bool} {wk : List (List Bool)}
theorem stop_l0 (hr : Right nx fa op wk) {s : Nat → Int} : ∀ (f : Nat) (p sum x7 : Int), x7 + f = nx.length + 1 → 0 ≤ x7 → -1 ≤ p → p < nx.length → 0 ≤ sum → sum + 1000000 * f ≤ 1000000000 →
    Ev (fun k => impl_Stop.l0 k p (tab nx.length s) sum x7 nx fa op wk) (stopI nx fa s f p sum) := by
  have h60 := hr.n60
  have hfL := hr.faL
  have L := tab_length nx.length s
  intro f
  induction f with
  | zero =>
    intro p sum x7 hx hx0 h0 h1 h2 h3
    apply Ev.succ; simp only [impl_Stop.l0]
    unfold stopI
    by_cases c : p = -1
    · rw [if_pos (by omega)]
      refine Ev.pos c ?_
      apply Ev.succ; simp only [impl_Stop.j1]
      exact Ev.neg (by simp) (Ev.ret rfl)
    · rw [if_neg (by omega)]
      obtain ⟨q, rfl⟩ := Int.eq_ofNat_of_zero_le (show 0 ≤ p by omega)
      have hq : q < nx.length := by omega
      refine Ev.neg c (Ev.pos (by omega) (Ev.pos (by omega) ?_))
      rw [rd_tab s hq, Int.toNat_natCast]
      apply Ev.succ; simp only [impl_Stop.j1]
      by_cases d : s q ≤ 0
      · rw [if_pos d, decide_eq_false (by omega)]; exact Ev.neg (by simp) (Ev.ret rfl)
      · rw [if_neg d, decide_eq_true (by omega)]; exact Ev.pos (by simp) (Ev.pos (by omega) (Ev.ret rfl))
  | succ f ih =>
    intro p sum x7 hx hx0 h0 h1 h2 h3
    apply Ev.succ; simp only [impl_Stop.l0]
    unfold stopI
    by_cases c : p = -1
    · rw [if_pos (by omega)]
      refine Ev.pos c ?_
      apply Ev.succ; simp only [impl_Stop.j1]
      exact Ev.neg (by simp) (Ev.ret rfl)
    · rw [if_neg (by omega)]
      obtain ⟨q, rfl⟩ := Int.eq_ofNat_of_zero_le (show 0 ≤ p by omega)
      have hq : q < nx.length := by omega
      have a1 := hr.lo q hq; have a2 := hr.hi q hq; have a3 := hr.fa0 q hq; have a4 := hr.fa1 q hq
      refine Ev.neg c (Ev.pos (by omega) (Ev.pos (by omega) ?_))
      rw [rd_tab s hq, Int.toNat_natCast]
      apply Ev.succ; simp only [impl_Stop.j1]
      by_cases d : s q ≤ 0
      · rw [if_pos d, decide_eq_false (by omega)]; exact Ev.neg (by simp) (Ev.ret rfl)
      · rw [if_neg d, decide_eq_true (by omega)]
        refine Ev.pos (by simp) (Ev.neg (by omega) (Ev.pos (by omega) (Ev.pos (by omega) (Ev.pos (by omega) ?_))))
        rw [rd_nat, rd_nat, w64 (x := sum + fa.getD q 0) (by omega) (by omega), w64 (x := x7 + 1) (by omega) (by omega)]
        exact ih _ _ _ (by omega) (by omega) a1 a2 (by omega) (by omega)
theorem stop_ev (hr : Right nx fa op wk) {i : Nat} (hi : i < nx.length) : Ev (fun k => impl_Stop.f k nx fa op wk i) (stopI nx fa (shown nx op wk) (nx.length + 1) i 0) := by
  have h60 := hr.n60
  unfold impl_Stop.f
  refine Ev.bind (there_yes hr (by omega) (by omega)) (Ev.pos rfl (Ev.bind (shows_ev hr) ?_))
  exact stop_l0 hr _ _ _ _ (by omega) (by omega) (by omega) (by omega) (by omega) (by omega)
theorem stop_no {i : Int} (h : ¬ (rowcode nx fa op wk = 0 ∧ 0 ≤ i ∧ i < nx.length)) : Ev (fun k => impl_Stop.f k nx fa op wk i) (-1) := by
  unfold impl_Stop.f
  exact Ev.bind (there_no h) (Ev.neg (by simp) (Ev.ret rfl))

theorem sstop_l0 (hr : Right nx fa op wk) {s : Nat → Int} : ∀ (f : Nat) (p sum x9 : Int), x9 + f = nx.length + 1 → 0 ≤ x9 → 0 ≤ p → p < nx.length → 0 ≤ sum → sum + 1000000 * f ≤ 1000000000 →
    Ev (fun k => spec_Stop.l0 k (tab nx.length s) sum p x9 nx fa op wk) (stopS nx fa s f p sum) := by
  have h60 := hr.n60
  have hfL := hr.faL
  have L := tab_length nx.length s
  intro f
  induction f with
  | zero =>
    intro p sum x9 hx hx0 h0 h1 h2 h3
    apply Ev.succ; simp only [spec_Stop.l0]
    exact Ev.neg (by omega) (Ev.ret rfl)
  | succ f ih =>
    intro p sum x9 hx hx0 h0 h1 h2 h3
    apply Ev.succ; simp only [spec_Stop.l0]
    obtain ⟨q, rfl⟩ := Int.eq_ofNat_of_zero_le h0
    have hq : q < nx.length := by omega
    have a1 := hr.lo q hq; have a2 := hr.hi q hq; have a3 := hr.fa0 q hq; have a4 := hr.fa1 q hq
    unfold stopS
    rw [rd_tab s hq, Int.toNat_natCast, rd_nat, rd_nat, w64 (x := sum + fa.getD q 0) (by omega) (by omega), w64 (x := x9 + 1) (by omega) (by omega)]
    refine Ev.pos (by omega) (Ev.pos (by omega) (Ev.pos (by omega) ?_))
    by_cases c : s q ≤ 0
    · rw [if_pos c]; exact Ev.pos c (Ev.ret rfl)
    · rw [if_neg c]
      refine Ev.neg c (Ev.pos (by omega) (Ev.pos (by omega) ?_))
      by_cases d : nx.getD q 0 < 0
      · rw [if_pos d]; exact Ev.pos d (Ev.ret rfl)
      · rw [if_neg d]; exact Ev.neg d (ih _ _ _ (by omega) (by omega) (by omega) a2 (by omega) (by omega))
theorem sstop_ev (hr : Right nx fa op wk) {i : Nat} (hi : i < nx.length) : Ev (fun k => spec_Stop.f k nx fa op wk i) (stopI nx fa (shown nx op wk) (nx.length + 1) i 0) := by
  have h60 := hr.n60
  have e := stop_same hr (shown nx op wk) hi (nx.length + 1) 0 0 (by omega) hi (fun u h => by omega)
  unfold spec_Stop.f
  rw [w64 (x := (nx.length : Int) - 1) (by omega) (by omega)]
  refine Ev.bind spec_ok (Ev.pos (code_of_right hr) (Ev.bindc (in_true (by omega)) ?_))
  apply Ev.succ; simp only [spec_Stop.j0]
  refine Ev.neg (by simp) (Ev.bind (both_ev hr) ?_)
  dsimp only
  have e2 : pos nx i 0 = i := rfl
  rw [e2] at e
  rw [e]
  exact sstop_l0 hr _ _ _ _ (by omega) (by omega) (by omega) (by omega) (by omega) (by omega)
theorem sstop_no {i : Int} (hn : nx.length ≤ 1000000000) (h : ¬ (rowcode nx fa op wk = 0 ∧ 0 ≤ i ∧ i < nx.length)) : Ev (fun k => spec_Stop.f k nx fa op wk i) (-1) := by
  have no : Ev (fun k => spec_Stop.j0 k i true nx fa op wk) (-1) := by
    apply Ev.succ; simp only [spec_Stop.j0]; exact Ev.pos (by simp) (Ev.ret rfl)
  unfold spec_Stop.f
  rw [w64 (x := (nx.length : Int) - 1) (by omega) (by omega)]
  refine Ev.bind spec_ok ?_
  by_cases c : rowcode nx fa op wk = 0
  · refine Ev.pos c (Ev.bindc (in_false (fun e => h ⟨c, by omega, by omega⟩)) ?_)
    exact no
  · exact Ev.neg c no
end
end Go.Proofs.Ytpdcghclcgbcfaa.Link
