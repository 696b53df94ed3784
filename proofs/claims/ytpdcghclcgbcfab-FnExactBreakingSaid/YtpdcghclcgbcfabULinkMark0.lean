/- How the exact laws mark a row they were given. Over the printed functions. Conditions: lengths that stand in memory. -/
import Derived.Test.YtpdcghclcgbcfabUx17
import Derived.Test.YtpdcghclcgbcfabULinkArg
namespace Go.Proofs.Ytpdcghclcgbcfab.LinkU
open Go.RowKit Go.Proofs.Ytpdcghclcgbcfab.U Go.Proofs.Ytpdcghclcgbcfab.Plain Go.Proofs.YtpdcghclcgbcfabW.PrintWords Go.Proofs.YtpdcghclcgbcfabW.PrintLast Go.Proofs.YtpdcghclcgbcfabW.PrintMore
set_option linter.unusedVariables false
set_option linter.unusedSimpArgs false
theorem markInt_l0 (l : List Int) (a : Int) (h : l.length ≤ 1048576) (a0 : 0 ≤ a) (a1 : a ≤ 4398046511104) : ∀ d i : Nat, i + d = l.length → Ev (fun k => laws_markIntS.l0 k (tab l.length (fun j => if j < i then a + (j : Int) else l.getD j 0)) (a + i) i) (a + l.length, tab l.length (fun j => a + (j : Int))) := by
  intro d
  induction d with
  | zero =>
    intro i hi
    obtain rfl : i = l.length := by omega
    apply Ev.succ; simp only [laws_markIntS.l0]
    rw [tab_length]
    refine Ev.neg (by omega) (Ev.ret ?_)
    rw [blend_nA l.length (fun j => a + (j : Int)) (fun j => l.getD j 0)]
  | succ d ih =>
    intro i hi
    have hlt : i < l.length := by omega
    apply Ev.succ; simp only [laws_markIntS.l0]
    have e := ih (i + 1) (by omega)
    rw [← blend_nextA hlt (fun j => a + (j : Int)) (fun j => l.getD j 0), show a + ((i + 1 : Nat) : Int) = a + i + 1 by omega, show ((i + 1 : Nat) : Int) = (i : Int) + 1 by omega] at e
    rw [tab_length, w64 (x := a + i + 1) (by omega) (by omega), w64 (x := (i : Int) + 1) (by omega) (by omega), Int.toNat_natCast]
    exact Ev.pos (by omega) (Ev.pos (by omega) e)
theorem markInt_ev (l : List Int) (a : Int) (h : l.length ≤ 1048576) (a0 : 0 ≤ a) (a1 : a ≤ 4398046511104) : Ev (fun k => laws_markIntS.f k l a) (a + l.length, tab l.length (fun j => a + (j : Int))) := by
  unfold laws_markIntS.f
  have e := markInt_l0 l a h a0 a1 l.length 0 (by omega)
  rw [blend_0A l.length (fun j => a + (j : Int)) (fun j => l.getD j 0), show a + ((0 : Nat) : Int) = a by omega, ← tab_self l 0] at e
  exact e
theorem markBool_l0 (n : Nat) (a : Int) (h : n ≤ 1048576) (a0 : 0 ≤ a) (a1 : a ≤ 4398046511104) : ∀ (d i : Nat) (l : List Bool), l.length = n → i + d = n → ∃ l', l'.length = n ∧ Ev (fun k => laws_markBoolS.l0 k l (a + i) i) (a + n, l') := by
  intro d
  induction d with
  | zero =>
    intro i l hl hi
    obtain rfl : i = n := by omega
    refine ⟨l, hl, ?_⟩
    apply Ev.succ; simp only [laws_markBoolS.l0]
    exact Ev.neg (by omega) (Ev.ret rfl)
  | succ d ih =>
    intro i l hl hi
    have hlt : i < n := by omega
    obtain ⟨l', hl', e⟩ := ih (i + 1) (l.set (i : Int).toNat ((Int.tmod (a + i) 3) == 0)) (by rw [List.length_set]; exact hl) (by omega)
    refine ⟨l', hl', ?_⟩
    apply Ev.succ; simp only [laws_markBoolS.l0]
    rw [show a + ((i + 1 : Nat) : Int) = a + i + 1 by omega, show ((i + 1 : Nat) : Int) = (i : Int) + 1 by omega] at e
    rw [w64 (x := a + i + 1) (by omega) (by omega), w64 (x := (i : Int) + 1) (by omega) (by omega)]
    exact Ev.pos (by omega) (Ev.pos (by omega) e)
theorem markBool_ev (l : List Bool) (a : Int) (h : l.length ≤ 1048576) (a0 : 0 ≤ a) (a1 : a ≤ 4398046511104) : ∃ l', l'.length = l.length ∧ Ev (fun k => laws_markBoolS.f k l a) (a + l.length, l') := by
  unfold laws_markBoolS.f
  obtain ⟨l', hl', e⟩ := markBool_l0 l.length a h a0 a1 l.length 0 l rfl (by omega)
  rw [show a + ((0 : Nat) : Int) = a by omega] at e
  exact ⟨l', hl', e⟩
theorem markBools_l0 (n : Nat) (h : n ≤ 1048576) : ∀ (d i : Nat) (l : List (List Bool)) (a : Int), l.length = n → i + d = n → (∀ j, j < n → (l.getD j []).length ≤ 1048576) → 0 ≤ a → a ≤ 4194304 + (i : Int) * 1048576 → ∃ r, 0 ≤ r ∧ Ev (fun k => laws_markBoolSS.l0 k l a i) r := by
  intro d
  induction d with
  | zero =>
    intro i l a hl hi hx a0 a1
    obtain rfl : i = n := by omega
    refine ⟨a, a0, ?_⟩
    apply Ev.succ; simp only [laws_markBoolSS.l0]
    exact Ev.neg (by omega) (Ev.ret rfl)
  | succ d ih =>
    intro i l a hl hi hx a0 a1
    have hlt : i < n := by omega
    have hs := hx i hlt
    obtain ⟨l', hl', e1⟩ := markBool_ev (l.getD i []) a hs a0 (by omega)
    obtain ⟨r, r0, e⟩ := ih (i + 1) (l.set (i : Int).toNat l') (a + (l.getD i []).length) (by rw [List.length_set]; exact hl) (by omega) (fun j hj => by
      rw [Int.toNat_natCast, List.getD_eq_getElem?_getD, List.getElem?_set]
      by_cases c : i = j
      · subst c
        rw [if_pos rfl, if_pos (by omega)]
        simp only [Option.getD_some]
        omega
      · rw [if_neg c, ← List.getD_eq_getElem?_getD]
        exact hx j hj) (by omega) (by omega)
    refine ⟨r, r0, ?_⟩
    apply Ev.succ; simp only [laws_markBoolSS.l0]
    rw [show ((i + 1 : Nat) : Int) = (i : Int) + 1 by omega] at e
    rw [rdL_nat, w64 (x := (i : Int) + 1) (by omega) (by omega)]
    exact Ev.pos (by omega) (Ev.pos (by omega) (Ev.bind e1 e))
section
variable {nx fa : List Int} {op : List Bool} {wk : List (List Bool)}
theorem markRow_ev (h : Small nx fa op wk) : ∃ r, 0 ≤ r ∧ Ev (fun k => laws_markRow.f k nx fa op wk 1) r := by
  obtain ⟨h0, h1, h2, h3, h4⟩ := h
  unfold laws_markRow.f
  have e0 := markInt_ev nx 1 h0 (by omega) (by omega)
  have e1 := markInt_ev fa (1 + nx.length) h1 (by omega) (by omega)
  obtain ⟨l', _, e2⟩ := markBool_ev op (1 + nx.length + fa.length) h2 (by omega) (by omega)
  obtain ⟨r, r0, e3⟩ := markBools_l0 wk.length h3 wk.length 0 wk (1 + nx.length + fa.length + op.length) rfl (by omega) (fun j hj => h4 _ (getD_memb [] hj)) (by omega) (by omega)
  exact ⟨r, r0, Ev.bind e0 (Ev.bind e1 (Ev.bind e2 e3))⟩
end
end Go.Proofs.Ytpdcghclcgbcfab.LinkU
