/- The chain ahead of a signal, the program's and the reference's: of a right row and a signal of it the same list, else none. Over the printed functions. Conditions: none. -/
import Derived.Test.YtpdcghclcgbcfaaQx13
import Derived.Test.YtpdcghclcgbcfaaQx10
import Derived.Test.YtpdcghclcgbcfaaQLinkThere
namespace Go.Proofs.Ytpdcghclcgbcfaa.LinkQ
open Go.RowKit Go.Proofs.Ytpdcghclcgbcfaa.Q Go.Proofs.Ytpdcghclcgbcfaa.Plain Go.Proofs.YtpdcghclcgbcfaaW.PrintWords Go.Proofs.YtpdcghclcgbcfaaW.PrintLast Go.Proofs.YtpdcghclcgbcfaaW.PrintMore
set_option linter.unusedVariables false
set_option linter.unusedSimpArgs false
theorem pigeon : ∀ (n : Nat) (cs : List Int), cs.Nodup → (∀ x ∈ cs, 0 ≤ x ∧ x < n) → cs.length ≤ n
  | 0, cs, _, h => by
    cases cs with
    | nil => simp
    | cons x xs => have := h x (by simp); omega
  | n + 1, cs, hd, h => by
    by_cases c : (n : Int) ∈ cs
    · have h1 := pigeon n (cs.erase (n : Int)) (hd.erase _) (fun x hx => by
        have hx := (hd.mem_erase_iff).1 hx
        have := h x hx.2
        have := hx.1
        omega)
      rw [List.length_erase_of_mem c] at h1
      omega
    · have h1 := pigeon n cs hd (fun x hx => by
        have := h x hx
        have : x ≠ (n : Int) := fun e => c (e ▸ hx)
        omega)
      omega
theorem notin_of {cs : List Int} {a : Int} (h : ∀ j, j < cs.length → cs.getD j 0 ≠ a) : a ∉ cs := fun hm => by
  obtain ⟨j, hj, e⟩ := List.mem_iff_getElem.1 hm
  apply h j hj
  rw [List.getD_eq_getElem?_getD, List.getElem?_eq_getElem hj]
  exact e
theorem in_of {cs : List Int} {j : Nat} (h : j < cs.length) : cs.getD j 0 ∈ cs := by
  rw [List.getD_eq_getElem?_getD, List.getElem?_eq_getElem h]
  exact List.getElem_mem _
theorem index_l0 (cs : List Int) (a : Int) (h : cs.length ≤ 1048576) : ∀ d i : Nat, i + d = cs.length → (∀ j, j < i → cs.getD j 0 ≠ a) → ∃ r, (r ≥ 0 ↔ a ∈ cs) ∧ Ev (fun k => slices_Index_int_int.l0 k cs a cs.length i) r := by
  intro d
  induction d with
  | zero =>
    intro i hi hj
    obtain rfl : i = cs.length := by omega
    have hn := notin_of hj
    refine ⟨-1, ⟨fun h => by omega, fun h => absurd h hn⟩, ?_⟩
    apply Ev.succ; simp only [slices_Index_int_int.l0]
    exact Ev.neg (by omega) (Ev.ret rfl)
  | succ d ih =>
    intro i hi hj
    by_cases c : cs.getD i 0 = a
    · refine ⟨(i : Int), ⟨fun _ => c ▸ in_of (by omega), fun _ => by omega⟩, ?_⟩
      apply Ev.succ; simp only [slices_Index_int_int.l0]
      rw [rd_nat]
      exact Ev.pos (by omega) (Ev.pos (by omega) (Ev.pos (by omega) (Ev.pos c.symm (Ev.ret rfl))))
    · obtain ⟨r, hr, e⟩ := ih (i + 1) (by omega) (fun j hlt => by
        by_cases q : j = i
        · subst q; exact c
        · exact hj j (by omega))
      refine ⟨r, hr, ?_⟩
      apply Ev.succ; simp only [slices_Index_int_int.l0]
      rw [show ((i + 1 : Nat) : Int) = (i : Int) + 1 by omega] at e
      rw [rd_nat, w64 (x := (i : Int) + 1) (by omega) (by omega)]
      exact Ev.pos (by omega) (Ev.pos (by omega) (Ev.pos (by omega) (Ev.neg (fun q => c q.symm) e)))
theorem contains_ev (cs : List Int) (a : Int) (h : cs.length ≤ 1048576) : Ev (fun k => slices_Contains_int_int.f k cs a) (decide (a ∈ cs)) := by
  unfold slices_Contains_int_int.f
  obtain ⟨r, hr, e⟩ := index_l0 cs a h cs.length 0 (by omega) (fun j hj => by omega)
  exact Ev.bind (by unfold slices_Index_int_int.f; exact e) (Ev.ret (by simp only [hr]))
section
variable {nx fa : List Int} {op : List Bool} {wk : List (List Bool)}
theorem schain_in (cs : List Int) (a : Int) (h : cs.length ≤ 1048576) (hm : a ∈ cs) : ∀ d i : Nat, i + d = cs.length → (∀ j, j < i → cs.getD j 0 ≠ a) → Ev (fun k => spec_Chain.l1 k cs a cs.length i nx fa op wk) cs := by
  intro d
  induction d with
  | zero =>
    intro i hi hj
    obtain rfl : i = cs.length := by omega
    exact absurd hm (notin_of hj)
  | succ d ih =>
    intro i hi hj
    apply Ev.succ; simp only [spec_Chain.l1]
    rw [rd_nat, w64 (x := (i : Int) + 1) (by omega) (by omega)]
    refine Ev.pos (by omega) (Ev.pos (by omega) (Ev.pos (by omega) ?_))
    by_cases c : cs.getD i 0 = a
    · exact Ev.pos c (Ev.ret rfl)
    · have e := ih (i + 1) (by omega) (fun j hlt => by
        by_cases q : j = i
        · subst q; exact c
        · exact hj j (by omega))
      rw [show ((i + 1 : Nat) : Int) = (i : Int) + 1 by omega] at e
      exact Ev.neg c e
theorem schain_out (cs : List Int) (a : Int) (h : cs.length ≤ 1048576) (h0 : 0 ≤ a) (h1 : a < nx.length) (hm : a ∉ cs) {r : List Int} (hr : Ev (fun k => spec_Chain.l0 k (cs ++ [a]) (rd nx a) nx fa op wk) r) : ∀ d i : Nat, i + d = cs.length → Ev (fun k => spec_Chain.l1 k cs a cs.length i nx fa op wk) r := by
  intro d
  induction d with
  | zero =>
    intro i hi
    obtain rfl : i = cs.length := by omega
    apply Ev.succ; simp only [spec_Chain.l1]
    exact Ev.neg (by omega) (Ev.pos (by omega) (Ev.pos h0 (Ev.pos h1 hr)))
  | succ d ih =>
    intro i hi
    apply Ev.succ; simp only [spec_Chain.l1]
    have e := ih (i + 1) (by omega)
    rw [show ((i + 1 : Nat) : Int) = (i : Int) + 1 by omega] at e
    rw [rd_nat, w64 (x := (i : Int) + 1) (by omega) (by omega)]
    exact Ev.pos (by omega) (Ev.pos (by omega) (Ev.pos (by omega) (Ev.neg (fun q => hm (q ▸ in_of (by omega))) e)))
theorem chain_both (hr : Right nx fa op wk) : ∀ (f : Nat) (cs : List Int) (a : Int), cs.Nodup → (∀ x ∈ cs, 0 ≤ x ∧ x < nx.length) → f + cs.length = nx.length + 1 → -1 ≤ a → a < nx.length →
    ∃ r : List Int, r.length ≤ nx.length ∧ Ev (fun k => impl_Chain.l0 k a cs nx fa op wk) r ∧ Ev (fun k => spec_Chain.l0 k cs a nx fa op wk) r := by
  have h60 := hr.n60
  intro f
  induction f with
  | zero =>
    intro cs a hd hx hf h0 h1
    have := pigeon _ cs hd hx
    omega
  | succ f ih =>
    intro cs a hd hx hf h0 h1
    have hp := pigeon _ cs hd hx
    by_cases c : a = -1
    · refine ⟨cs, hp, ?_, ?_⟩
      · apply Ev.succ; simp only [impl_Chain.l0]; exact Ev.pos c (Ev.ret rfl)
      · apply Ev.succ; simp only [spec_Chain.l0]; exact Ev.neg (by omega) (Ev.ret rfl)
    · by_cases cm : a ∈ cs
      · refine ⟨cs, hp, ?_, ?_⟩
        · apply Ev.succ; simp only [impl_Chain.l0]; exact Ev.neg c (Ev.bind (contains_ev cs a (by omega)) (Ev.pos (decide_eq_true cm) (Ev.ret rfl)))
        · apply Ev.succ; simp only [spec_Chain.l0]; exact Ev.pos (by omega) (schain_in cs a (by omega) cm cs.length 0 (by omega) (fun j hj => by omega))
      · obtain ⟨r, hl, e1, e2⟩ := ih (cs ++ [a]) (rd nx a) (by
            rw [List.nodup_append]
            refine ⟨hd, by simp, fun x hx y hy => ?_⟩
            rw [List.mem_singleton] at hy
            rintro rfl
            exact cm (hy ▸ hx)) (fun x hxm => by
              rw [List.mem_append, List.mem_singleton] at hxm
              rcases hxm with hxm | rfl
              · exact hx x hxm
              · omega) (by rw [List.length_append]; simp; omega) (hr.lo a.toNat (by omega)) (hr.hi a.toNat (by omega))
        refine ⟨r, hl, ?_, ?_⟩
        · apply Ev.succ; simp only [impl_Chain.l0]; exact Ev.neg c (Ev.bind (contains_ev cs a (by omega)) (Ev.neg (by simp [cm]) (Ev.pos (by omega) (Ev.pos (by omega) (Ev.pos h1 e1)))))
        · apply Ev.succ; simp only [spec_Chain.l0]; exact Ev.pos (by omega) (schain_out cs a (by omega) (by omega) h1 cm e2 cs.length 0 (by omega))
theorem sameChain (hn : nx.length ≤ 1048576) (i : Int) : ∃ r : List Int, r.length ≤ 1048576 ∧ Ev (fun k => impl_Chain.f k nx fa op wk i) r ∧ Ev (fun k => spec_Chain.f k nx fa op wk i) r := by
  by_cases c : rowcode nx fa op wk = 0 ∧ 0 ≤ i ∧ i < nx.length
  · obtain ⟨c1, c2, c3⟩ := c
    have hr := right_of_code c1
    obtain ⟨r, hl, e1, e2⟩ := chain_both hr (nx.length + 1) [] i (by simp) (fun x hx => by simp at hx) (by simp) (by omega) c3
    refine ⟨r, by omega, ?_, ?_⟩
    · unfold impl_Chain.f
      exact Ev.bind (there_yes hr c2 c3) (Ev.pos rfl e1)
    · unfold spec_Chain.f
      rw [w64 (x := (nx.length : Int) - 1) (by omega) (by omega)]
      have e : Ev (fun k => spec_Chain.j0 k i false nx fa op wk) r := by
        apply Ev.succ; simp only [spec_Chain.j0]
        exact Ev.neg (by simp) e2
      exact Ev.bind spec_ok (Ev.pos c1 (Ev.bindc (in_true ⟨c2, by omega⟩) e))
  · refine ⟨[], by simp, ?_, ?_⟩
    · unfold impl_Chain.f
      exact Ev.bind (there_no c) (Ev.neg (by simp) (Ev.ret rfl))
    · unfold spec_Chain.f
      rw [w64 (x := (nx.length : Int) - 1) (by omega) (by omega)]
      have e : Ev (fun k => spec_Chain.j0 k i true nx fa op wk) ([] : List Int) := by
        apply Ev.succ; simp only [spec_Chain.j0]
        exact Ev.pos trivial (Ev.ret rfl)
      refine Ev.bind spec_ok ?_
      by_cases c1 : rowcode nx fa op wk = 0
      · exact Ev.pos c1 (Ev.bindc (in_false fun h => c ⟨c1, h.1, by omega⟩) e)
      · exact Ev.neg c1 e
end
end Go.Proofs.Ytpdcghclcgbcfaa.LinkQ
