/- How the exact laws take a row: its size, a copy of it, two equal ones. Over the printed functions. Conditions: lengths that stand in memory. -/
import Derived.Test.YtpdcghclcgbcfabUx1
import Derived.Test.YtpdcghclcgbcfabUx8
import Derived.Test.YtpdcghclcgbcfabUx16
import Derived.Test.YtpdcghclcgbcfabULinkOk
namespace Go.Proofs.Ytpdcghclcgbcfab.LinkU
open Go.RowKit Go.Proofs.Ytpdcghclcgbcfab.U Go.Proofs.Ytpdcghclcgbcfab.Plain Go.Proofs.YtpdcghclcgbcfabW.PrintWords Go.Proofs.YtpdcghclcgbcfabW.PrintLast Go.Proofs.YtpdcghclcgbcfabW.PrintMore
set_option linter.unusedVariables false
set_option linter.unusedSimpArgs false
/-- Not longer than what a memory holds. -/
def Fits (nx fa : List Int) (op : List Bool) (wk : List (List Bool)) : Prop := nx.length ≤ 9223372036854775807 ∧ fa.length ≤ 9223372036854775807 ∧ op.length ≤ 9223372036854775807 ∧ wk.length ≤ 9223372036854775807 ∧ ∀ x ∈ wk, x.length ≤ 9223372036854775807
def Small (nx fa : List Int) (op : List Bool) (wk : List (List Bool)) : Prop := nx.length ≤ 1048576 ∧ fa.length ≤ 1048576 ∧ op.length ≤ 1048576 ∧ wk.length ≤ 1048576 ∧ ∀ x ∈ wk, x.length ≤ 1048576
theorem szInt {l : List Int} (h : l.length ≤ 9223372036854775807) {a : Int} (a0 : 0 ≤ a) (a1 : a ≤ 1048576) : ∃ s, laws_szIntS.f l a = some s ∧ s ≤ 1048576 ∧ (¬ s < 0 → 0 ≤ s ∧ l.length ≤ 1048576) := by
  unfold laws_szIntS.f
  rw [w64 (by omega) (by omega)]
  by_cases c : a - (l.length : Int) < 0
  · exact ⟨-1, by rw [if_pos c], by omega, fun h => by omega⟩
  · exact ⟨_, by rw [if_neg c], by omega, fun _ => ⟨by omega, by omega⟩⟩
theorem szBool {l : List Bool} (h : l.length ≤ 9223372036854775807) {a : Int} (a0 : 0 ≤ a) (a1 : a ≤ 1048576) : ∃ s, laws_szBoolS.f l a = some s ∧ s ≤ 1048576 ∧ (¬ s < 0 → 0 ≤ s ∧ l.length ≤ 1048576) := by
  unfold laws_szBoolS.f
  rw [w64 (by omega) (by omega)]
  by_cases c : a - (l.length : Int) < 0
  · exact ⟨-1, by rw [if_pos c], by omega, fun h => by omega⟩
  · exact ⟨_, by rw [if_neg c], by omega, fun _ => ⟨by omega, by omega⟩⟩
theorem getD_memb {α : Type} {l : List α} {i : Nat} (d : α) (h : i < l.length) : l.getD i d ∈ l := by
  rw [List.getD_eq_getElem?_getD, List.getElem?_eq_getElem h]
  exact List.getElem_mem _
theorem szBools_l0 {l : List (List Bool)} (h : l.length ≤ 9223372036854775807) (hx : ∀ x ∈ l, x.length ≤ 9223372036854775807) : ∀ (d i : Nat) (a : Int), i + d = l.length → 0 ≤ a → a ≤ 1048576 → (∀ j, j < i → (l.getD j []).length ≤ 1048576) →
    ∃ s, Ev (fun k => laws_szBoolSS.l0 k l a i) s ∧ s ≤ 1048576 ∧ (¬ s < 0 → 0 ≤ s ∧ ∀ j, j < l.length → (l.getD j []).length ≤ 1048576) := by
  intro d
  induction d with
  | zero =>
    intro i a hi a0 a1 hj
    obtain rfl : i = l.length := by omega
    refine ⟨a, ?_, a1, fun _ => ⟨a0, hj⟩⟩
    apply Ev.succ; simp only [laws_szBoolSS.l0]
    exact Ev.neg (by omega) (Ev.ret rfl)
  | succ d ih =>
    intro i a hi a0 a1 hj
    obtain ⟨s, hs, s1, s2⟩ := szBool (hx _ (getD_memb [] (show i < l.length by omega))) a0 a1
    by_cases c : s < 0
    · refine ⟨-1, ?_, by omega, fun h => by omega⟩
      apply Ev.succ; simp only [laws_szBoolSS.l0]
      rw [rdL_nat]
      exact Ev.pos (by omega) (Ev.pos (by omega) (Ev.bindc hs (Ev.pos c (Ev.ret rfl))))
    · obtain ⟨s3, s4⟩ := s2 c
      obtain ⟨r, hr, r1, r2⟩ := ih (i + 1) s (by omega) s3 s1 (fun j hlt => by
        by_cases e : j = i
        · subst e; exact s4
        · exact hj j (by omega))
      refine ⟨r, ?_, r1, r2⟩
      apply Ev.succ; simp only [laws_szBoolSS.l0]
      rw [rdL_nat, w64 (x := (i : Int) + 1) (by omega) (by omega)]
      exact Ev.pos (by omega) (Ev.pos (by omega) (Ev.bindc hs (Ev.neg c hr)))
theorem szBools {l : List (List Bool)} (h : l.length ≤ 9223372036854775807) (hx : ∀ x ∈ l, x.length ≤ 9223372036854775807) {a : Int} (a0 : 0 ≤ a) (a1 : a ≤ 1048576) :
    ∃ s, Ev (fun k => laws_szBoolSS.f k l a) s ∧ s ≤ 1048576 ∧ (¬ s < 0 → 0 ≤ s ∧ l.length ≤ 1048576 ∧ ∀ x ∈ l, x.length ≤ 1048576) := by
  unfold laws_szBoolSS.f
  rw [w64 (by omega) (by omega)]
  by_cases c : a - (l.length : Int) < 0
  · exact ⟨-1, Ev.pos c (Ev.ret rfl), by omega, fun h => by omega⟩
  · obtain ⟨s, hs, s1, s2⟩ := szBools_l0 h hx l.length 0 (a - l.length) (by omega) (by omega) (by omega) (fun j h => by omega)
    refine ⟨s, Ev.neg c hs, s1, fun q => ⟨(s2 q).1, by omega, fun x hm => ?_⟩⟩
    obtain ⟨j, hj, rfl⟩ := List.mem_iff_getElem.1 hm
    have := (s2 q).2 j hj
    rwa [List.getD_eq_getElem?_getD, List.getElem?_eq_getElem hj] at this
section
variable {nx fa : List Int} {op : List Bool} {wk : List (List Bool)}
theorem sz_ev (h : Fits nx fa op wk) : ∃ s, Ev (fun k => laws_szRow.f k nx fa op wk 1048576) s ∧ (¬ s < 0 → Small nx fa op wk) := by
  obtain ⟨h0, h1, h2, h3, h4⟩ := h
  obtain ⟨s0, e0, b0, c0⟩ := szInt h0 (a := 1048576) (by omega) (by omega)
  unfold laws_szRow.f
  by_cases q0 : s0 < 0
  · exact ⟨-1, Ev.bindc e0 (Ev.pos q0 (Ev.ret rfl)), fun h => by omega⟩
  · obtain ⟨s1, e1, b1, c1⟩ := szInt h1 (c0 q0).1 b0
    by_cases q1 : s1 < 0
    · exact ⟨-1, Ev.bindc e0 (Ev.neg q0 (Ev.bindc e1 (Ev.pos q1 (Ev.ret rfl)))), fun h => by omega⟩
    · obtain ⟨s2, e2, b2, c2⟩ := szBool h2 (c1 q1).1 b1
      by_cases q2 : s2 < 0
      · exact ⟨-1, Ev.bindc e0 (Ev.neg q0 (Ev.bindc e1 (Ev.neg q1 (Ev.bindc e2 (Ev.pos q2 (Ev.ret rfl)))))), fun h => by omega⟩
      · obtain ⟨s3, e3, b3, c3⟩ := szBools h3 h4 (c2 q2).1 b2
        by_cases q3 : s3 < 0
        · exact ⟨-1, Ev.bindc e0 (Ev.neg q0 (Ev.bindc e1 (Ev.neg q1 (Ev.bindc e2 (Ev.neg q2 (Ev.bind e3 (Ev.pos q3 (Ev.ret rfl)))))))), fun h => by omega⟩
        · exact ⟨s3, Ev.bindc e0 (Ev.neg q0 (Ev.bindc e1 (Ev.neg q1 (Ev.bindc e2 (Ev.neg q2 (Ev.bind e3 (Ev.neg q3 (Ev.ret rfl)))))))), fun _ => ⟨(c0 q0).2, (c1 q1).2, (c2 q2).2, (c3 q3).2.1, (c3 q3).2.2⟩⟩
theorem blend_nextA {α : Type} {n i : Nat} (hi : i < n) (f g : Nat → α) : (tab n (fun j => if j < i then f j else g j)).set i (f i) = tab n (fun j => if j < i + 1 then f j else g j) := by
  rw [tab_set]
  refine tab_congr fun j hj => ?_
  by_cases e : j = i
  · subst e; rw [if_pos rfl, if_pos (by omega)]
  · rw [if_neg e]
    by_cases c : j < i
    · rw [if_pos c, if_pos (by omega)]
    · rw [if_neg c, if_neg (by omega)]
theorem blend_0A {α : Type} (n : Nat) (f g : Nat → α) : tab n (fun j => if j < 0 then f j else g j) = tab n g := tab_congr fun j _ => if_neg (by omega)
theorem blend_nA {α : Type} (n : Nat) (f g : Nat → α) : tab n (fun j => if j < n then f j else g j) = tab n f := tab_congr fun j h => if_pos h
theorem toInt_l0 (l : List Int) (h : l.length ≤ 1048576) : ∀ d i : Nat, i + d = l.length → Ev (fun k => laws_toIntS.l0 k l (tab l.length (fun j => if j < i then l.getD j 0 else 0)) i) l := by
  intro d
  induction d with
  | zero =>
    intro i hi
    obtain rfl : i = l.length := by omega
    apply Ev.succ; simp only [laws_toIntS.l0]
    refine Ev.neg (by omega) (Ev.ret ?_)
    rw [blend_nA l.length (fun j => l.getD j 0) (fun _ => 0)]
    exact (tab_self l 0).symm
  | succ d ih =>
    intro i hi
    have hlt : i < l.length := by omega
    apply Ev.succ; simp only [laws_toIntS.l0]
    have e := ih (i + 1) (by omega)
    rw [← blend_nextA hlt (fun j => l.getD j 0) (fun _ => 0)] at e
    rw [rd_nat, w64 (x := (i : Int) + 1) (by omega) (by omega), Int.toNat_natCast]
    exact Ev.pos (by omega) (Ev.pos (by omega) (Ev.pos (by rw [tab_length]; omega) e))
theorem toInt_ev (l : List Int) (h : l.length ≤ 1048576) : Ev (fun k => laws_toIntS.f k l) l := by
  unfold laws_toIntS.f
  refine Ev.pos (by omega) (Ev.pos (by omega) ?_)
  rw [Int.toNat_natCast, replicate_tab]
  have e := toInt_l0 l h l.length 0 (by omega)
  rw [blend_0A l.length (fun j => l.getD j 0) (fun _ => 0)] at e
  exact e
theorem toBool_l0 (l : List Bool) (h : l.length ≤ 1048576) : ∀ d i : Nat, i + d = l.length → Ev (fun k => laws_toBoolS.l0 k l (tab l.length (fun j => if j < i then l.getD j false else false)) i) l := by
  intro d
  induction d with
  | zero =>
    intro i hi
    obtain rfl : i = l.length := by omega
    apply Ev.succ; simp only [laws_toBoolS.l0]
    refine Ev.neg (by omega) (Ev.ret ?_)
    rw [blend_nA l.length (fun j => l.getD j false) (fun _ => false)]
    exact (tab_self l false).symm
  | succ d ih =>
    intro i hi
    have hlt : i < l.length := by omega
    apply Ev.succ; simp only [laws_toBoolS.l0]
    have e := ih (i + 1) (by omega)
    rw [← blend_nextA hlt (fun j => l.getD j false) (fun _ => false)] at e
    rw [rdOf_nat, w64 (x := (i : Int) + 1) (by omega) (by omega), Int.toNat_natCast]
    exact Ev.pos (by omega) (Ev.pos (by omega) (Ev.pos (by rw [tab_length]; omega) e))
theorem toBool_ev (l : List Bool) (h : l.length ≤ 1048576) : Ev (fun k => laws_toBoolS.f k l) l := by
  unfold laws_toBoolS.f
  refine Ev.pos (by omega) (Ev.pos (by omega) ?_)
  rw [Int.toNat_natCast, replicate_tab]
  have e := toBool_l0 l h l.length 0 (by omega)
  rw [blend_0A l.length (fun j => l.getD j false) (fun _ => false)] at e
  exact e
theorem toBools_l0 (l : List (List Bool)) (h : l.length ≤ 1048576) (hx : ∀ x ∈ l, x.length ≤ 1048576) : ∀ d i : Nat, i + d = l.length → Ev (fun k => laws_toBoolSS.l0 k l (tab l.length (fun j => if j < i then l.getD j [] else [])) i) l := by
  intro d
  induction d with
  | zero =>
    intro i hi
    obtain rfl : i = l.length := by omega
    apply Ev.succ; simp only [laws_toBoolSS.l0]
    refine Ev.neg (by omega) (Ev.ret ?_)
    rw [blend_nA l.length (fun j => l.getD j []) (fun _ => [])]
    exact (tab_self l []).symm
  | succ d ih =>
    intro i hi
    have hlt : i < l.length := by omega
    apply Ev.succ; simp only [laws_toBoolSS.l0]
    have e := ih (i + 1) (by omega)
    rw [← blend_nextA hlt (fun j => l.getD j []) (fun _ => [])] at e
    rw [rdL_nat, w64 (x := (i : Int) + 1) (by omega) (by omega), Int.toNat_natCast]
    exact Ev.pos (by omega) (Ev.pos (by omega) (Ev.bind (toBool_ev _ (hx _ (getD_memb [] hlt))) (Ev.pos (by rw [tab_length]; omega) e)))
theorem toBools_ev (l : List (List Bool)) (h : l.length ≤ 1048576) (hx : ∀ x ∈ l, x.length ≤ 1048576) : Ev (fun k => laws_toBoolSS.f k l) l := by
  unfold laws_toBoolSS.f
  refine Ev.pos (by omega) (Ev.pos (by omega) ?_)
  rw [Int.toNat_natCast, replicate_tab]
  have e := toBools_l0 l h hx l.length 0 (by omega)
  rw [blend_0A l.length (fun j => l.getD j []) (fun _ => [])] at e
  exact e
theorem to_ev (h : Small nx fa op wk) : Ev (fun k => laws_toRow.f k nx fa op wk) (nx, fa, op, wk) := by
  obtain ⟨h0, h1, h2, h3, h4⟩ := h
  unfold laws_toRow.f
  exact Ev.bind (toInt_ev nx h0) (Ev.bind (toInt_ev fa h1) (Ev.bind (toBool_ev op h2) (Ev.bind (toBools_ev wk h3 h4) (Ev.ret rfl))))
theorem eqInt_l0 (l : List Int) (h : l.length ≤ 1048576) : ∀ d i : Nat, i + d = l.length → Ev (fun k => laws_eqIntS.l0 k l l i) true := by
  intro d
  induction d with
  | zero =>
    intro i hi
    apply Ev.succ; simp only [laws_eqIntS.l0]
    exact Ev.neg (by omega) (Ev.ret rfl)
  | succ d ih =>
    intro i hi
    apply Ev.succ; simp only [laws_eqIntS.l0, if_true]
    rw [w64 (x := (i : Int) + 1) (by omega) (by omega)]
    exact Ev.pos (by omega) (Ev.pos (by omega) (Ev.pos (by omega) (ih (i + 1) (by omega))))
theorem eqInt_ev (l : List Int) (h : l.length ≤ 1048576) : Ev (fun k => laws_eqIntS.f k l l) true := by
  unfold laws_eqIntS.f
  exact Ev.pos rfl (eqInt_l0 l h l.length 0 (by omega))
theorem eqBool_l0 (l : List Bool) (h : l.length ≤ 1048576) : ∀ d i : Nat, i + d = l.length → Ev (fun k => laws_eqBoolS.l0 k l l i) true := by
  intro d
  induction d with
  | zero =>
    intro i hi
    apply Ev.succ; simp only [laws_eqBoolS.l0]
    exact Ev.neg (by omega) (Ev.ret rfl)
  | succ d ih =>
    intro i hi
    apply Ev.succ; simp only [laws_eqBoolS.l0]
    rw [w64 (x := (i : Int) + 1) (by omega) (by omega)]
    exact Ev.pos (by omega) (Ev.pos (by omega) (Ev.pos (by omega) (Ev.neg (by simp) (ih (i + 1) (by omega)))))
theorem eqBool_ev (l : List Bool) (h : l.length ≤ 1048576) : Ev (fun k => laws_eqBoolS.f k l l) true := by
  unfold laws_eqBoolS.f
  exact Ev.pos rfl (eqBool_l0 l h l.length 0 (by omega))
theorem eqBools_l0 (l : List (List Bool)) (h : l.length ≤ 1048576) (hx : ∀ x ∈ l, x.length ≤ 1048576) : ∀ d i : Nat, i + d = l.length → Ev (fun k => laws_eqBoolSS.l0 k l l i) true := by
  intro d
  induction d with
  | zero =>
    intro i hi
    apply Ev.succ; simp only [laws_eqBoolSS.l0]
    exact Ev.neg (by omega) (Ev.ret rfl)
  | succ d ih =>
    intro i hi
    apply Ev.succ; simp only [laws_eqBoolSS.l0]
    rw [rdL_nat, w64 (x := (i : Int) + 1) (by omega) (by omega)]
    exact Ev.pos (by omega) (Ev.pos (by omega) (Ev.pos (by omega) (Ev.bind (eqBool_ev _ (hx _ (getD_memb [] (show i < l.length by omega)))) (Ev.pos rfl (ih (i + 1) (by omega))))))
theorem eqBools_ev (l : List (List Bool)) (h : l.length ≤ 1048576) (hx : ∀ x ∈ l, x.length ≤ 1048576) : Ev (fun k => laws_eqBoolSS.f k l l) true := by
  unfold laws_eqBoolSS.f
  exact Ev.pos rfl (eqBools_l0 l h hx l.length 0 (by omega))
theorem eq_ev (h : Small nx fa op wk) : Ev (fun k => laws_eqRow.f k nx fa op wk nx fa op wk) true := by
  obtain ⟨h0, h1, h2, h3, h4⟩ := h
  unfold laws_eqRow.f
  exact Ev.bind (eqInt_ev nx h0) (Ev.pos rfl (Ev.bind (eqInt_ev fa h1) (Ev.pos rfl (Ev.bind (eqBool_ev op h2) (Ev.pos rfl (Ev.bind (eqBools_ev wk h3 h4) (Ev.pos rfl (Ev.ret rfl))))))))
end
end Go.Proofs.Ytpdcghclcgbcfab.LinkU
