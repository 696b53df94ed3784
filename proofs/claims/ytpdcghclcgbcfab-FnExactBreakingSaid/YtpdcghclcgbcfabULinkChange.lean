/- What changes when a signal is closed or a lamp breaks, the program's and the reference's: the copies, the lists of changes, and how the exact laws compare, mark and look again at such a list. Over the printed functions. Conditions: lengths that stand in memory. -/
import Derived.Test.YtpdcghclcgbcfabUx10
import Derived.Test.YtpdcghclcgbcfabUx3
import Derived.Test.YtpdcghclcgbcfabUx14
import Derived.Test.YtpdcghclcgbcfabUx6
import Derived.Test.YtpdcghclcgbcfabUx16
import Derived.Test.YtpdcghclcgbcfabUx17
import Derived.Test.YtpdcghclcgbcfabUx18
import Derived.Test.YtpdcghclcgbcfabULinkShown
import Derived.Test.YtpdcghclcgbcfabULinkSpec
import Derived.Test.YtpdcghclcgbcfabULinkArg
namespace Go.Proofs.Ytpdcghclcgbcfab.LinkU
open Go.RowKit Go.Proofs.Ytpdcghclcgbcfab.U Go.Proofs.Ytpdcghclcgbcfab.Plain Go.Proofs.YtpdcghclcgbcfabW.PrintWords Go.Proofs.YtpdcghclcgbcfabW.PrintLast Go.Proofs.YtpdcghclcgbcfabW.PrintMore
set_option linter.unusedVariables false
set_option linter.unusedSimpArgs false
theorem take_next {α : Type} {l : List α} {i : Nat} (d : α) (h : i < l.length) : l.take (i + 1) = l.take i ++ [l.getD i d] := by
  rw [List.take_add_one, List.getD_eq_getElem?_getD, List.getElem?_eq_getElem h]
  rfl
theorem clone_ev {l : List Bool} (h : l.length ≤ 1048576) : slices_Clone_bool_bool.f l = some l := by
  unfold slices_Clone_bool_bool.f
  simp only [Option.bind_some, List.length_nil, List.nil_append]
  rw [if_pos (by omega)]
section
variable {nx fa : List Int} {op : List Bool} {wk : List (List Bool)}
theorem copied_l0 (h3 : wk.length ≤ 1048576) (h4 : ∀ x ∈ wk, x.length ≤ 1048576) : ∀ d i : Nat, i + d = wk.length → Ev (fun k => impl_copied.l0 k wk wk.length i nx fa op (wk.take i)) (nx, fa, op, wk) := by
  intro d
  induction d with
  | zero =>
    intro i hi
    obtain rfl : i = wk.length := by omega
    apply Ev.succ; simp only [impl_copied.l0]
    exact Ev.neg (by omega) (Ev.ret (by rw [List.take_length]))
  | succ d ih =>
    intro i hi
    apply Ev.succ; simp only [impl_copied.l0]
    have e := ih (i + 1) (by omega)
    rw [take_next [] (by omega), show ((i + 1 : Nat) : Int) = (i : Int) + 1 by omega] at e
    rw [rdL_nat, w64 (x := (i : Int) + 1) (by omega) (by omega)]
    exact Ev.pos (by omega) (Ev.pos (by omega) (Ev.pos (by omega) (Ev.bindc (clone_ev (h4 _ (getD_memb [] (show i < wk.length by omega)))) (Ev.pos (by rw [List.length_take]; omega) e))))
theorem copied_ev (h : Small nx fa op wk) : Ev (fun k => impl_copied.f k nx fa op wk) (nx, fa, op, wk) := by
  obtain ⟨h0, h1, h2, h3, h4⟩ := h
  unfold impl_copied.f
  exact Ev.bindc (clone_ev h2) (copied_l0 h3 h4 wk.length 0 (by omega))
theorem l2copy_l0 (h3 : wk.length ≤ 1048576) (h4 : ∀ x ∈ wk, x.length ≤ 1048576) : ∀ d i : Nat, i + d = wk.length → Ev (fun k => spec_l2copy.l0 k wk wk.length i nx fa op (wk.take i)) (nx, fa, op, wk) := by
  intro d
  induction d with
  | zero =>
    intro i hi
    obtain rfl : i = wk.length := by omega
    apply Ev.succ; simp only [spec_l2copy.l0]
    exact Ev.neg (by omega) (Ev.ret (by rw [List.take_length]))
  | succ d ih =>
    intro i hi
    have hx := h4 _ (getD_memb [] (show i < wk.length by omega))
    apply Ev.succ; simp only [spec_l2copy.l0, Option.bind_some, List.length_nil, List.nil_append]
    have e := ih (i + 1) (by omega)
    rw [take_next [] (by omega), show ((i + 1 : Nat) : Int) = (i : Int) + 1 by omega] at e
    rw [rdL_nat, w64 (x := (i : Int) + 1) (by omega) (by omega)]
    exact Ev.pos (by omega) (Ev.pos (by omega) (Ev.pos (by omega) (Ev.pos (by omega) (Ev.pos (by rw [List.length_take]; omega) e))))
theorem l2copy_ev (h : Small nx fa op wk) : Ev (fun k => spec_l2copy.f k nx fa op wk) (nx, fa, op, wk) := by
  obtain ⟨h0, h1, h2, h3, h4⟩ := h
  unfold spec_l2copy.f
  simp only [List.length_nil, List.nil_append]
  exact Ev.pos (by omega) (Ev.pos (by omega) (Ev.pos (by omega) (l2copy_l0 h3 h4 wk.length 0 (by omega))))
def chg (x y : List Int) : Nat → List S58
  | 0 => []
  | i + 1 => if x.getD i 0 = y.getD i 0 then chg x y i else chg x y i ++ [⟨(i : Int), x.getD i 0, y.getD i 0⟩]
theorem chg_len (x y : List Int) : ∀ i, (chg x y i).length ≤ i
  | 0 => by simp [chg]
  | i + 1 => by
    have := chg_len x y i
    unfold chg
    split
    · omega
    · rw [List.length_append]; simp; omega
theorem changes_l0 {x y : List Int} (hl : x.length = y.length) (h : x.length ≤ 1048576) : ∀ d i : Nat, i + d = x.length → Ev (fun k => impl_changes.l0 k x y (chg x y i) x.length i) (chg x y x.length) := by
  intro d
  induction d with
  | zero =>
    intro i hi
    obtain rfl : i = x.length := by omega
    apply Ev.succ; simp only [impl_changes.l0]
    exact Ev.neg (by omega) (Ev.ret rfl)
  | succ d ih =>
    intro i hi
    have hlen := chg_len x y i
    apply Ev.succ; simp only [impl_changes.l0]
    have e := ih (i + 1) (by omega)
    rw [show ((i + 1 : Nat) : Int) = (i : Int) + 1 by omega] at e
    rw [rd_nat, rd_nat, w64 (x := (i : Int) + 1) (by omega) (by omega)]
    refine Ev.pos (by omega) (Ev.pos (by omega) (Ev.pos (by omega) (Ev.pos (by omega) ?_)))
    by_cases c : x.getD i 0 = y.getD i 0
    · simp only [chg, if_pos c] at e; exact Ev.pos c e
    · simp only [chg, if_neg c] at e; exact Ev.neg c (Ev.pos (by omega) e)
theorem l2changes_l0 {x y : List Int} (hl : x.length = y.length) (h : x.length ≤ 1048576) : ∀ d i : Nat, i + d = x.length → Ev (fun k => spec_l2changes.l0 k x y (chg x y i) x.length i) (chg x y x.length) := by
  intro d
  induction d with
  | zero =>
    intro i hi
    obtain rfl : i = x.length := by omega
    apply Ev.succ; simp only [spec_l2changes.l0]
    exact Ev.neg (by omega) (Ev.ret rfl)
  | succ d ih =>
    intro i hi
    have hlen := chg_len x y i
    apply Ev.succ; simp only [spec_l2changes.l0]
    have e := ih (i + 1) (by omega)
    rw [show ((i + 1 : Nat) : Int) = (i : Int) + 1 by omega] at e
    rw [rd_nat, rd_nat, w64 (x := (i : Int) + 1) (by omega) (by omega)]
    refine Ev.pos (by omega) (Ev.pos (by omega) (Ev.pos (by omega) (Ev.pos (by omega) ?_)))
    by_cases c : x.getD i 0 = y.getD i 0
    · simp only [chg, if_pos c] at e; exact Ev.pos c e
    · simp only [chg, if_neg c] at e; exact Ev.neg c (Ev.pos (by omega) e)
theorem changes_ev {fa2 : List Int} {op2 : List Bool} {wk2 : List (List Bool)} (hr : Right nx fa op wk) (hr2 : Right nx fa2 op2 wk2) : Ev (fun k => impl_changes.f k nx fa op wk nx fa2 op2 wk2) (chg (tab nx.length (shown nx op wk)) (tab nx.length (shown nx op2 wk2)) nx.length) := by
  have h60 := hr.n60
  unfold impl_changes.f
  have e := changes_l0 (x := tab nx.length (shown nx op wk)) (y := tab nx.length (shown nx op2 wk2)) (by rw [tab_length, tab_length]) (by rw [tab_length]; omega) nx.length 0 (by rw [tab_length]; omega)
  rw [tab_length] at e
  refine Ev.bind (shows_ev hr) (Ev.bind (shows_ev hr2) ?_)
  rw [tab_length]
  exact e
theorem l2changes_ev {fa2 : List Int} {op2 : List Bool} {wk2 : List (List Bool)} (hr : Right nx fa op wk) (hr2 : Right nx fa2 op2 wk2) : Ev (fun k => spec_l2changes.f k nx fa op wk nx fa2 op2 wk2) (chg (tab nx.length (shown nx op wk)) (tab nx.length (shown nx op2 wk2)) nx.length) := by
  have h60 := hr.n60
  unfold spec_l2changes.f
  have e := l2changes_l0 (x := tab nx.length (shown nx op wk)) (y := tab nx.length (shown nx op2 wk2)) (by rw [tab_length, tab_length]) (by rw [tab_length]; omega) nx.length 0 (by rw [tab_length]; omega)
  rw [tab_length] at e
  refine Ev.bind (both_ev hr) (Ev.bind (both_ev hr2) ?_)
  simp only [tab_length]
  exact e
end
theorem eqChange_ev (a b c : Int) : laws_eqChange.f a b c a b c = some true := by
  unfold laws_eqChange.f
  rw [if_pos rfl, if_pos rfl, if_pos rfl]
theorem eqChanges_l0 (l : List S58) (h : l.length ≤ 1048576) : ∀ d i : Nat, i + d = l.length → Ev (fun k => laws_eqChangeS.l0 k l l i) true := by
  intro d
  induction d with
  | zero =>
    intro i hi
    apply Ev.succ; simp only [laws_eqChangeS.l0]
    exact Ev.neg (by omega) (Ev.ret rfl)
  | succ d ih =>
    intro i hi
    apply Ev.succ; simp only [laws_eqChangeS.l0]
    rw [w64 (x := (i : Int) + 1) (by omega) (by omega)]
    exact Ev.pos (by omega) (Ev.pos (by omega) (Ev.pos (by omega) (Ev.bindc (eqChange_ev _ _ _) (Ev.pos rfl (ih (i + 1) (by omega))))))
theorem eqChanges_ev (l : List S58) (h : l.length ≤ 1048576) : Ev (fun k => laws_eqChangeS.f k l l) true := by
  unfold laws_eqChangeS.f
  exact Ev.pos rfl (eqChanges_l0 l h l.length 0 (by omega))
def trip (a : Int) (j : Nat) : S58 := ⟨a + 3 * j, a + 3 * j + 1, a + 3 * j + 1 + 1⟩
theorem rdT_set {l : List S58} {i : Nat} (v : S58) (h : i < l.length) : rd_T58 (l.set i v) (i : Int) = v := by
  unfold rd_T58
  rw [Int.toNat_natCast, List.getD_eq_getElem?_getD, List.getElem?_set_self h]
  rfl
theorem rdT_nat (l : List S58) (i : Nat) : rd_T58 l (i : Int) = l.getD i z58 := by unfold rd_T58; rw [Int.toNat_natCast]
theorem markChg_l0 (n : Nat) (a : Int) (h : n ≤ 1048576) (a0 : 0 ≤ a) (a1 : a ≤ 4398046511104) : ∀ (d i : Nat) (l : List S58), l.length = n → i + d = n → (∀ j, j < i → l.getD j z58 = trip a j) → ∃ l', l'.length = n ∧ (∀ j, j < n → l'.getD j z58 = trip a j) ∧ Ev (fun k => laws_markChangeS.l0 k l (a + 3 * i) i) (a + 3 * n, l') := by
  intro d
  induction d with
  | zero =>
    intro i l hl hi hj
    obtain rfl : i = n := by omega
    refine ⟨l, hl, hj, ?_⟩
    apply Ev.succ; simp only [laws_markChangeS.l0]
    exact Ev.neg (by omega) (Ev.ret rfl)
  | succ d ih =>
    intro i l hl hi hj
    have hlt : i < n := by omega
    obtain ⟨l', hl', hj', e⟩ := ih (i + 1) (l.set i (trip a i)) (by rw [List.length_set]; exact hl) (by omega) (fun j hlt2 => by
      rw [List.getD_eq_getElem?_getD, List.getElem?_set]
      by_cases c : i = j
      · subst c
        rw [if_pos rfl, if_pos (by omega)]; rfl
      · rw [if_neg c, ← List.getD_eq_getElem?_getD]
        exact hj j (by omega))
    refine ⟨l', hl', hj', ?_⟩
    apply Ev.succ; simp only [laws_markChangeS.l0, Option.bind_some, Int.toNat_natCast]
    rw [show a + 3 * ((i + 1 : Nat) : Int) = a + 3 * i + 1 + 1 + 1 by omega, show ((i + 1 : Nat) : Int) = (i : Int) + 1 by omega] at e
    simp only [rdT_set _ (show i < l.length by omega), List.set_set]
    rw [w64 (x := a + 3 * i + 1) (by omega) (by omega), w64 (x := a + 3 * i + 1 + 1) (by omega) (by omega), w64 (x := a + 3 * i + 1 + 1 + 1) (by omega) (by omega), w64 (x := (i : Int) + 1) (by omega) (by omega)]
    exact Ev.pos (by omega) (Ev.pos (by omega) e)
theorem markChg_ev (l : List S58) (a : Int) (h : l.length ≤ 1048576) (a0 : 0 ≤ a) (a1 : a ≤ 4398046511104) : ∃ l', l'.length = l.length ∧ (∀ j, j < l.length → l'.getD j z58 = trip a j) ∧ Ev (fun k => laws_markChangeS.f k l a) (a + 3 * l.length, l') := by
  unfold laws_markChangeS.f
  obtain ⟨l', h1, h2, e⟩ := markChg_l0 l.length a h a0 a1 l.length 0 l rfl (by omega) (fun j hj => by omega)
  rw [show a + 3 * ((0 : Nat) : Int) = a by omega] at e
  exact ⟨l', h1, h2, e⟩
theorem heldChg_l0 (l : List S58) (a : Int) (h : l.length ≤ 1048576) (a0 : 0 ≤ a) (a1 : a ≤ 4398046511104) (hj : ∀ j, j < l.length → l.getD j z58 = trip a j) : ∀ d i : Nat, i + d = l.length → Ev (fun k => laws_heldChangeS.l0 k l (a + 3 * i) i) (a + 3 * l.length) := by
  intro d
  induction d with
  | zero =>
    intro i hi
    obtain rfl : i = l.length := by omega
    apply Ev.succ; simp only [laws_heldChangeS.l0]
    exact Ev.neg (by omega) (Ev.ret rfl)
  | succ d ih =>
    intro i hi
    apply Ev.succ; simp only [laws_heldChangeS.l0]
    have e := ih (i + 1) (by omega)
    rw [show a + 3 * ((i + 1 : Nat) : Int) = a + 3 * i + 1 + 1 + 1 by omega, show ((i + 1 : Nat) : Int) = (i : Int) + 1 by omega] at e
    rw [rdT_nat, hj i (by omega), w64 (x := a + 3 * i + 1) (by omega) (by omega), w64 (x := a + 3 * i + 1 + 1) (by omega) (by omega), w64 (x := a + 3 * i + 1 + 1 + 1) (by omega) (by omega), w64 (x := (i : Int) + 1) (by omega) (by omega)]
    exact Ev.pos (by omega) (Ev.pos (by omega) (Ev.pos rfl (Ev.pos rfl (Ev.pos rfl e))))
theorem heldChg_ev (l : List S58) (a : Int) (h : l.length ≤ 1048576) (a0 : 0 ≤ a) (a1 : a ≤ 4398046511104) (hj : ∀ j, j < l.length → l.getD j z58 = trip a j) : Ev (fun k => laws_heldChangeS.f k l a) (a + 3 * l.length) := by
  unfold laws_heldChangeS.f
  have e := heldChg_l0 l a h a0 a1 hj l.length 0 (by omega)
  rw [show a + 3 * ((0 : Nat) : Int) = a by omega] at e
  exact e
end Go.Proofs.Ytpdcghclcgbcfab.LinkU
