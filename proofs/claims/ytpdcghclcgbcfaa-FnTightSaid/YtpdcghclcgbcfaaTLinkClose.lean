/- What changes when a signal is closed or a lamp breaks, the program's: the copy, the list of changes. Over the printed functions. Conditions: lengths that stand in memory. -/
import Derived.Test.YtpdcghclcgbcfaaTx14
import Derived.Test.YtpdcghclcgbcfaaTx15
import Derived.Test.YtpdcghclcgbcfaaTx16
import Derived.Test.YtpdcghclcgbcfaaTx17
import Derived.Test.YtpdcghclcgbcfaaTLinkThere
namespace Go.Proofs.Ytpdcghclcgbcfaa.LinkT
open Go.RowKit Go.Proofs.Ytpdcghclcgbcfaa.T Go.Proofs.Ytpdcghclcgbcfaa.Plain Go.Proofs.YtpdcghclcgbcfaaW.PrintWords Go.Proofs.YtpdcghclcgbcfaaW.PrintLast Go.Proofs.YtpdcghclcgbcfaaW.PrintMore
set_option linter.unusedVariables false
set_option linter.unusedSimpArgs false
theorem getD_memb {α : Type} {l : List α} {i : Nat} (d : α) (h : i < l.length) : l.getD i d ∈ l := by
  rw [List.getD_eq_getElem?_getD, List.getElem?_eq_getElem h]
  exact List.getElem_mem _
theorem take_next {α : Type} {l : List α} {i : Nat} (d : α) (h : i < l.length) : l.take (i + 1) = l.take i ++ [l.getD i d] := by
  rw [List.take_add_one, List.getD_eq_getElem?_getD, List.getElem?_eq_getElem h]
  rfl
theorem clone_ev {l : List Bool} (h : l.length ≤ 1048576) : slices_Clone_bool_bool.f l = some l := by
  unfold slices_Clone_bool_bool.f
  simp only [Option.bind_some, List.length_nil, List.nil_append]
  rw [if_pos (by omega)]
section
variable {nx fa : List Int} {op : List Bool} {wk : List (List Bool)}
theorem copied_l0 (h3 : wk.length ≤ 1048576) (h4 : ∀ x ∈ wk, x.length ≤ 1048576) : ∀ d i : Nat, i + d = wk.length → Ev (fun k => impl_copied.l0 k wk wk.length i nx fa op (wk.take i)) (nx, fa, op, wk) := by
  intro d
  induction d with
  | zero =>
    intro i hi
    obtain rfl : i = wk.length := by omega
    apply Ev.succ; simp only [impl_copied.l0]
    exact Ev.neg (by omega) (Ev.ret (by rw [List.take_length]))
  | succ d ih =>
    intro i hi
    apply Ev.succ; simp only [impl_copied.l0]
    have e := ih (i + 1) (by omega)
    rw [take_next [] (by omega), show ((i + 1 : Nat) : Int) = (i : Int) + 1 by omega] at e
    rw [rdL_nat, w64 (x := (i : Int) + 1) (by omega) (by omega)]
    exact Ev.pos (by omega) (Ev.pos (by omega) (Ev.pos (by omega) (Ev.bindc (clone_ev (h4 _ (getD_memb [] (show i < wk.length by omega)))) (Ev.pos (by rw [List.length_take]; omega) e))))
theorem copied_ev (hr : Right nx fa op wk) : Ev (fun k => impl_copied.f k nx fa op wk) (nx, fa, op, wk) := by
  have h60 := hr.n60; have hop := hr.opL; have hwl := hr.wkL
  have h2 : op.length ≤ 1048576 := by omega
  have h3 : wk.length ≤ 1048576 := by omega
  have h4 : ∀ x ∈ wk, x.length ≤ 1048576 := fun x hx => by
    obtain ⟨j, hj, rfl⟩ := List.mem_iff_getElem.1 hx
    have h5 := hr.wk4 j (by omega)
    rw [List.getD_eq_getElem?_getD, List.getElem?_eq_getElem hj] at h5
    simp only [Option.getD_some] at h5
    omega
  unfold impl_copied.f
  exact Ev.bindc (clone_ev h2) (copied_l0 h3 h4 wk.length 0 (by omega))
def chg (x y : List Int) : Nat → List S50
  | 0 => []
  | i + 1 => if x.getD i 0 = y.getD i 0 then chg x y i else chg x y i ++ [⟨(i : Int), x.getD i 0, y.getD i 0⟩]
theorem chg_len (x y : List Int) : ∀ i, (chg x y i).length ≤ i
  | 0 => by simp [chg]
  | i + 1 => by
    have := chg_len x y i
    unfold chg
    split
    · omega
    · rw [List.length_append]; simp; omega
theorem changes_l0 {x y : List Int} (hl : x.length = y.length) (h : x.length ≤ 1048576) : ∀ d i : Nat, i + d = x.length → Ev (fun k => impl_changes.l0 k x y (chg x y i) x.length i) (chg x y x.length) := by
  intro d
  induction d with
  | zero =>
    intro i hi
    obtain rfl : i = x.length := by omega
    apply Ev.succ; simp only [impl_changes.l0]
    exact Ev.neg (by omega) (Ev.ret rfl)
  | succ d ih =>
    intro i hi
    have hlen := chg_len x y i
    apply Ev.succ; simp only [impl_changes.l0]
    have e := ih (i + 1) (by omega)
    rw [show ((i + 1 : Nat) : Int) = (i : Int) + 1 by omega] at e
    rw [rd_nat, rd_nat, w64 (x := (i : Int) + 1) (by omega) (by omega)]
    refine Ev.pos (by omega) (Ev.pos (by omega) (Ev.pos (by omega) (Ev.pos (by omega) ?_)))
    by_cases c : x.getD i 0 = y.getD i 0
    · simp only [chg, if_pos c] at e; exact Ev.pos c e
    · simp only [chg, if_neg c] at e; exact Ev.neg c (Ev.pos (by omega) e)
theorem closed (hr : Right nx fa op wk) (i : Nat) : Right nx fa (op.set i false) wk :=
  ⟨hr.n60, hr.faL, by rw [List.length_set]; exact hr.opL, hr.wkL, hr.lo, hr.hi, hr.fa0, hr.fa1, hr.wk4⟩
theorem broken (hr : Right nx fa op wk) (j m : Nat) : Right nx fa op (wk.set j ((wk.getD j []).set m false)) :=
  ⟨hr.n60, hr.faL, hr.opL, by rw [List.length_set]; exact hr.wkL, hr.lo, hr.hi, hr.fa0, hr.fa1, fun i hi => by
    rw [List.getD_eq_getElem?_getD, List.getElem?_set]
    by_cases c : j = i
    · subst c
      rw [if_pos rfl, if_pos (by rw [hr.wkL]; exact hi)]
      simp only [Option.getD_some, List.length_set]
      exact hr.wk4 _ hi
    · rw [if_neg c, ← List.getD_eq_getElem?_getD]
      exact hr.wk4 i hi⟩
theorem changes_ev {fa2 : List Int} {op2 : List Bool} {wk2 : List (List Bool)} (hr : Right nx fa op wk) (hr2 : Right nx fa2 op2 wk2) : Ev (fun k => impl_changes.f k nx fa op wk nx fa2 op2 wk2) (chg (tab nx.length (shown nx op wk)) (tab nx.length (shown nx op2 wk2)) nx.length) := by
  have h60 := hr.n60
  unfold impl_changes.f
  have e := changes_l0 (x := tab nx.length (shown nx op wk)) (y := tab nx.length (shown nx op2 wk2)) (by rw [tab_length, tab_length]) (by rw [tab_length]; omega) nx.length 0 (by rw [tab_length]; omega)
  rw [tab_length] at e
  refine Ev.bind (shows_ev hr) (Ev.bind (shows_ev hr2) ?_)
  rw [tab_length]
  exact e
theorem closing_ev (hr : Right nx fa op wk) {j : Nat} (hj : j < nx.length) : Ev (fun k => impl_Closing.f k nx fa op wk j) (chg (tab nx.length (shown nx op wk)) (tab nx.length (shown nx (op.set j false) wk)) nx.length) := by
  have hop := hr.opL
  unfold impl_Closing.f
  refine Ev.bind (there_yes hr (by omega) (by omega)) (Ev.pos rfl (Ev.bind (copied_ev hr) (Ev.pos (by omega) (Ev.pos (by show (j : Int) < (op.length : Int); omega) ?_))))
  simp only [Int.toNat_natCast]
  exact Ev.bind (changes_ev hr (closed hr j)) (Ev.ret rfl)
theorem breaking_ev (hr : Right nx fa op wk) {j q : Nat} (hj : j < nx.length) (hq : q < 4) : Ev (fun k => impl_Breaking.f k nx fa op wk j q) (chg (tab nx.length (shown nx op wk)) (tab nx.length (shown nx op (wk.set j ((wk.getD j []).set q false)))) nx.length) := by
  have hwl := hr.wkL
  have hw4 := hr.wk4 j hj
  have e : Ev (fun k => impl_Breaking.j0 k j q false nx fa op wk) (chg (tab nx.length (shown nx op wk)) (tab nx.length (shown nx op (wk.set j ((wk.getD j []).set q false)))) nx.length) := by
    apply Ev.succ; simp only [impl_Breaking.j0]
    refine Ev.neg (by simp) (Ev.bind (copied_ev hr) (Ev.pos (by omega) (Ev.pos (by show (j : Int) < (wk.length : Int); omega) (Ev.pos (by omega) (Ev.pos (by show (q : Int) < ((rd_L3 wk j).length : Int); rw [rdL_nat]; omega) ?_)))))
    simp only [Int.toNat_natCast, rdL_nat]
    exact Ev.bind (changes_ev hr (broken hr j q)) (Ev.ret rfl)
  unfold impl_Breaking.f
  refine Ev.bind (there_yes hr (by omega) (by omega)) (Ev.pos rfl (Ev.neg (by omega) ?_))
  rw [show decide ((q : Int) > 3) = false from decide_eq_false (by omega)]
  exact e
end
end Go.Proofs.Ytpdcghclcgbcfaa.LinkT
