/- What the program's own work tells of a right row: the least way of agreeing. Over the printed functions, without memory. Conditions: the row is right. -/
import Derived.Test.YtpdcghclcgbcfaaTx5
import Derived.Test.YtpdcghclcgbcfaaTx6
import Derived.Test.YtpdcghclcgbcfaaTx7
import Derived.Test.YtpdcghclcgbcfaaTLinkOk
namespace Go.Proofs.Ytpdcghclcgbcfaa.LinkT
open Go.RowKit Go.Proofs.Ytpdcghclcgbcfaa.T Go.Proofs.Ytpdcghclcgbcfaa.Plain Go.Proofs.YtpdcghclcgbcfaaW.PrintWords Go.Proofs.YtpdcghclcgbcfaaW.PrintLast Go.Proofs.YtpdcghclcgbcfaaW.PrintMore
set_option linter.unusedVariables false
set_option linter.unusedSimpArgs false
theorem can_l0 (w : List Bool) : ∀ (m : Nat) (x : Int), x = m → m < w.length → m ≤ 3 → Ev (fun k => impl_can.l0 k w x) (lamp w m) := by
  intro m
  induction m with
  | zero =>
    intro x hx hm _
    apply Ev.succ; simp only [impl_can.l0]
    refine Ev.pos (by omega) (Ev.pos (by omega) (Ev.pos (by omega) ?_))
    have hb : rdOf false w x = w.getD 0 false := by subst hx; exact rdOf_nat _ _ 0
    rw [hb]; unfold lamp
    by_cases c : w.getD 0 false = true
    · rw [if_pos c]; exact Ev.pos c (Ev.ret (by omega))
    · rw [if_neg c]; refine Ev.neg c ?_
      rw [w64 (by omega) (by omega)]
      apply Ev.succ; simp only [impl_can.l0]
      exact Ev.neg (by omega) (Ev.ret (by omega))
  | succ m ih =>
    intro x hx hm h3
    apply Ev.succ; simp only [impl_can.l0]
    refine Ev.pos (by omega) (Ev.pos (by omega) (Ev.pos (by omega) ?_))
    have hb : rdOf false w x = w.getD (m + 1) false := by subst hx; exact rdOf_nat _ _ (m + 1)
    rw [hb, lamp]
    by_cases c : w.getD (m + 1) false = true
    · rw [if_pos c]; exact Ev.pos c (Ev.ret hx)
    · rw [if_neg c]; refine Ev.neg c ?_
      rw [w64 (by omega) (by omega)]
      exact ih (x - 1) (by omega) (by omega) (by omega)
theorem can_ev {w : List Bool} {x : Int} (h0 : 0 ≤ x) (h3 : x ≤ 3) (h4 : w.length = 4) : Ev (fun k => impl_can.f k w x) (lamp w x.toNat) := by
  unfold impl_can.f
  exact can_l0 w x.toNat x (by omega) (by omega) (by omega)
theorem clone_int {l : List Int} (h : l.length < 17592186044416) : slices_Clone_int_int.f l = some l := by
  unfold slices_Clone_int_int.f
  simp only [Option.bind_some, List.length_nil, Nat.zero_add, List.nil_append]
  rw [if_pos h]
theorem mn_is (a b : Int) : mn a b = if b < a then b else a := rfl
/-- One signal is asked anew: all ways through the printed round come to one. -/
theorem tail_ev {R : Type} (G : Bool → Nat → Option R) {x6 : Bool} {i l2 l3 l7 w r2 t r3 : Int} {r : R} (h2 : i < l2) (h3 : i < l3) (h7 : i < l7) (e : Ev (G (x6 || w != r2 || t != r3)) r) :
    Ev (fun k => if x6 = true then (if i < l2 then (if i < l7 then G true k else none) else none) else (if i < l2 then (if w = r2 then (if i < l3 then (if i < l7 then G (t != r3) k else none) else none) else (if i < l7 then G true k else none)) else none)) r := by
  by_cases c : x6 = true
  · subst c
    refine Ev.pos rfl (Ev.pos h2 (Ev.pos h7 ?_))
    simpa using e
  · have c' : x6 = false := by simpa using c
    subst c'
    refine Ev.neg c (Ev.pos h2 ?_)
    by_cases d : w = r2
    · subst d
      refine Ev.pos rfl (Ev.pos h3 (Ev.pos h7 ?_))
      simpa using e
    · refine Ev.neg d (Ev.pos h7 ?_)
      have : (w != r2) = true := by simpa using d
      rw [this] at e
      simpa using e
section
variable {nx fa : List Int} {op : List Bool} {wk : List (List Bool)}
/-- Has anything changed at the first i signals? -/
def Diff (nx : List Int) (op : List Bool) (wk : List (List Bool)) (s w : Nat → Int) (i : Nat) : Prop := ∃ j, j < i ∧ (want nx op s j ≠ w j ∨ gives nx op wk s j ≠ s j)
theorem Diff.next {s w : Nat → Int} {i : Nat} {c : Bool} (h : c = true ↔ Diff nx op wk s w i) : (c || want nx op s i != w i || gives nx op wk s i != s i) = true ↔ Diff nx op wk s w (i + 1) := by
  constructor
  · intro e
    simp only [Bool.or_eq_true, bne_iff_ne] at e
    rcases e with (e | e) | e
    · obtain ⟨j, hj, hd⟩ := h.1 e
      exact ⟨j, by omega, hd⟩
    · exact ⟨i, by omega, .inl e⟩
    · exact ⟨i, by omega, .inr e⟩
  · rintro ⟨j, hj, hd⟩
    simp only [Bool.or_eq_true, bne_iff_ne]
    by_cases e : j = i
    · subst e
      rcases hd with hd | hd
      · exact .inl (.inr hd)
      · exact .inr hd
    · exact .inl (.inl (h.2 ⟨j, by omega, hd⟩))
theorem blend_next {n i : Nat} (hi : i < n) (f g : Nat → Int) : (tab n (fun j => if j < i then f j else g j)).set i (f i) = tab n (fun j => if j < i + 1 then f j else g j) := by
  rw [tab_set]
  refine tab_congr fun j hj => ?_
  by_cases e : j = i
  · subst e; rw [if_pos rfl, if_pos (by omega)]
  · rw [if_neg e]
    by_cases c : j < i
    · rw [if_pos c, if_pos (by omega)]
    · rw [if_neg c, if_neg (by omega)]
theorem blend_0 (n : Nat) (f g : Nat → Int) : tab n (fun j => if j < 0 then f j else g j) = tab n g := tab_congr fun j _ => if_neg (by omega)
theorem blend_n (n : Nat) (f g : Nat → Int) : tab n (fun j => if j < n then f j else g j) = tab n f := tab_congr fun j h => if_pos h
theorem blend_at {n i : Nat} (hi : i < n) (f g : Nat → Int) : rd (tab n (fun j => if j < i then f j else g j)) (i : Int) = g i := by
  rw [rd_tab _ hi]; exact if_neg (by omega)
theorem work_l2 (hr : Right nx fa op wk) {s w : Nat → Int} (hs : ∀ i, -1 ≤ s i) (hs3 : ∀ i, s i ≤ 3) {R : List Int × List Int}
    (hend : ∀ c : Bool, (c = true ↔ Diff nx op wk s w nx.length) → Ev (fun k => impl_work.l1 k (tab nx.length (want nx op s)) (tab nx.length (gives nx op wk s)) nx.length c nx fa op wk) R) :
    ∀ (d i : Nat) (c : Bool), i + d = nx.length → (c = true ↔ Diff nx op wk s w i) →
      Ev (fun k => impl_work.l2 k (tab nx.length (fun j => if j < i then want nx op s j else w j)) (tab nx.length s) nx.length c (tab nx.length (fun j => if j < i then gives nx op wk s j else s j)) nx.length i nx fa op wk) R := by
  have h60 := hr.n60
  have hoL := hr.opL
  have hwL := hr.wkL
  intro d
  induction d with
  | zero =>
    intro i c hi hc
    obtain rfl : i = nx.length := by omega
    apply Ev.succ; simp only [impl_work.l2]
    refine Ev.neg (by omega) ?_
    rw [blend_n, blend_n]
    exact hend c hc
  | succ d ih =>
    intro i c hi hc
    have hlt : i < nx.length := by omega
    have hlo := hr.lo i hlt
    have hhi := hr.hi i hlt
    have h4 := hr.wk4 i hlt
    have hwl := want_lo (nx := nx) (op := op) hs i
    have hwh := want_hi nx op s i
    have hnext := ih (i + 1) _ (by omega) (Diff.next hc)
    rw [← blend_next hlt, ← blend_next hlt] at hnext
    have L2 := tab_length nx.length (fun j => if j < i then want nx op s j else w j)
    have L3 := tab_length nx.length s
    have L7 := tab_length nx.length (fun j => if j < i then gives nx op wk s j else s j)
    have key : Ev (fun k => impl_work.j3 k (tab nx.length (fun j => if j < i then want nx op s j else w j)) (tab nx.length s) nx.length c (tab nx.length (fun j => if j < i then gives nx op wk s j else s j)) i (want nx op s i) nx.length i nx fa op wk) R := by
      apply Ev.succ; simp only [impl_work.j3]
      rw [rdL_nat, blend_at hlt, rd_tab s hlt, w64 (x := (i : Int) + 1) (by omega) (by omega)]
      refine Ev.pos (by omega) (Ev.pos (by omega) (Ev.bind (can_ev hwl hwh h4) ?_))
      refine tail_ev (fun b k => impl_work.l2 k ((tab nx.length (fun j => if j < i then want nx op s j else w j)).set (i : Int).toNat (want nx op s i)) (tab nx.length s) nx.length b ((tab nx.length (fun j => if j < i then gives nx op wk s j else s j)).set (i : Int).toNat (gives nx op wk s i)) nx.length ((i : Int) + 1) nx fa op wk) (by omega) (by omega) (by omega) ?_
      rw [Int.toNat_natCast]; exact hnext
    apply Ev.succ; simp only [impl_work.l2]
    refine Ev.pos (by omega) (Ev.pos (by omega) (Ev.pos (by omega) ?_))
    rw [rdOf_nat, rd_nat nx]
    by_cases c1 : op.getD i false = true
    · refine Ev.pos c1 (Ev.pos (by omega) ?_)
      by_cases c2 : nx.getD i 0 = -1
      · have hw : want nx op s i = 1 := by unfold want; rw [if_pos c1, if_pos (by omega)]
        rw [hw] at key
        exact Ev.pos c2 key
      · have hrs : rd (tab nx.length s) (nx.getD i 0) = s (nx.getD i 0).toNat := by
          unfold rd; exact tab_getD _ _ (by omega)
        have hsl := hs (nx.getD i 0).toNat
        have hsh := hs3 (nx.getD i 0).toNat
        rw [hrs, w64 (x := s (nx.getD i 0).toNat + 1) (by omega) (by omega)]
        have hw : mn (s (nx.getD i 0).toNat + 1) 3 = want nx op s i := by
          unfold want; rw [if_pos c1, if_neg (by omega), mn_is]
          split <;> split <;> omega
        rw [hw]
        exact Ev.neg c2 (Ev.pos (by omega) (Ev.pos (by omega) key))
    · have hw : want nx op s i = 0 := by unfold want; rw [if_neg c1]
      rw [hw] at key
      exact Ev.neg c1 key
theorem work_l1 (hr : Right nx fa op wk) : ∀ d t : Nat, t + d = 4 * nx.length + 2 →
    Ev (fun k => impl_work.l1 k (tab nx.length (wf nx op wk t)) (tab nx.length (sf nx op wk t)) nx.length true nx fa op wk) (tab nx.length (wanted nx op wk), tab nx.length (shown nx op wk)) := by
  have h60 := hr.n60
  intro d
  induction d with
  | zero =>
    intro t ht
    apply Ev.succ; simp only [impl_work.l1]
    refine Ev.pos (by simp) (Ev.bindc (clone_int (by rw [tab_length]; omega)) ?_)
    have := work_l2 hr (s := sf nx op wk t) (sf_lo t) (sf_hi t) (w := wf nx op wk t) (R := (tab nx.length (wanted nx op wk), tab nx.length (shown nx op wk))) (fun c hc => ?_) nx.length 0 false (by omega) (by
      constructor
      · intro e; cases e
      · rintro ⟨j, hj, _⟩; omega)
    · rw [blend_0, blend_0] at this; exact this
    · have hst := stable_late hr (t := t) (by omega)
      have hc' : c = false := by
        cases c with
        | false => rfl
        | true =>
          obtain ⟨j, hj, hd⟩ := hc.1 rfl
          have := hst j hj
          rcases hd with hd | hd
          · exact absurd this.2 hd
          · exact absurd this.1 hd
      subst hc'
      apply Ev.succ; simp only [impl_work.l1]
      refine Ev.neg (by simp) (Ev.ret ?_)
      have h1 := stable_late hr (t := t + 1) (by omega)
      exact Prod.ext (tab_congr fun i hi => (stable_is hr h1 hi).2) (tab_congr fun i hi => (stable_is hr h1 hi).1)
  | succ d ih =>
    intro t ht
    apply Ev.succ; simp only [impl_work.l1]
    refine Ev.pos (by simp) (Ev.bindc (clone_int (by rw [tab_length]; omega)) ?_)
    have := work_l2 hr (s := sf nx op wk t) (sf_lo t) (sf_hi t) (w := wf nx op wk t) (R := (tab nx.length (wanted nx op wk), tab nx.length (shown nx op wk))) (fun c hc => ?_) nx.length 0 false (by omega) (by
      constructor
      · intro e; cases e
      · rintro ⟨j, hj, _⟩; omega)
    · rw [blend_0, blend_0] at this; exact this
    · cases c with
      | true => exact ih (t + 1) (by omega)
      | false =>
        have hst : Stable nx op wk t := fun i hi => by
          have hn : ¬ Diff nx op wk (sf nx op wk t) (wf nx op wk t) nx.length := fun e => by cases hc.2 e
          constructor
          · exact Classical.byContradiction fun e => hn ⟨i, hi, .inr e⟩
          · exact Classical.byContradiction fun e => hn ⟨i, hi, .inl e⟩
        apply Ev.succ; simp only [impl_work.l1]
        refine Ev.neg (by simp) (Ev.ret ?_)
        have h1 := (hst.up hr 1).2
        exact Prod.ext (tab_congr fun i hi => (stable_is hr h1 hi).2) (tab_congr fun i hi => (stable_is hr h1 hi).1)
theorem work_l0 (hr : Right nx fa op wk) : ∀ d i : Nat, i + d = nx.length →
    Ev (fun k => impl_work.l0 k (tab nx.length (fun _ => 0)) (tab nx.length (fun j => if j < i then lamp (wk.getD j []) 0 else 0)) nx.length nx.length i nx fa op wk) (tab nx.length (wanted nx op wk), tab nx.length (shown nx op wk)) := by
  have h60 := hr.n60
  have hwL := hr.wkL
  intro d
  induction d with
  | zero =>
    intro i hi
    obtain rfl : i = nx.length := by omega
    apply Ev.succ; simp only [impl_work.l0]
    refine Ev.neg (by omega) ?_
    rw [blend_n nx.length (fun j => lamp (wk.getD j []) 0) (fun _ => 0)]
    exact work_l1 hr (4 * nx.length + 2) 0 (by omega)
  | succ d ih =>
    intro i hi
    have hlt : i < nx.length := by omega
    apply Ev.succ; simp only [impl_work.l0]
    refine Ev.pos (by omega) (Ev.pos (by omega) (Ev.pos (by omega) ?_))
    rw [rdL_nat, w64 (x := (i : Int) + 1) (by omega) (by omega)]
    refine Ev.bind (can_ev (x := 0) (by omega) (by omega) (hr.wk4 i hlt)) (Ev.pos (by rw [tab_length]; omega) ?_)
    have := ih (i + 1) (by omega)
    rw [← blend_next hlt (fun j => lamp (wk.getD j []) 0) (fun _ => 0)] at this
    rw [Int.toNat_natCast]
    exact this
theorem work_ev (hr : Right nx fa op wk) : Ev (fun k => impl_work.f k nx fa op wk) (tab nx.length (wanted nx op wk), tab nx.length (shown nx op wk)) := by
  have h60 := hr.n60
  unfold impl_work.f
  refine Ev.pos (by omega) (Ev.pos (by omega) ?_)
  rw [Int.toNat_natCast, replicate_tab]
  have := work_l0 hr nx.length 0 (by omega)
  rw [blend_0 nx.length (fun j => lamp (wk.getD j []) 0) (fun _ => 0)] at this
  exact this
end
end Go.Proofs.Ytpdcghclcgbcfaa.LinkT
