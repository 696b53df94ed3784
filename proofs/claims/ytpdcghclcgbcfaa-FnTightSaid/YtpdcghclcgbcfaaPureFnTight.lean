/- FnTight: whatever is closed or broken, no signal of a drawn row shows more for it, and Closing and Breaking tell just the signals that show other than before. Conditions: those of the law's row alone. -/
import Derived.Test.YtpdcghclcgbcfaaTx18
import Derived.Test.YtpdcghclcgbcfaaTLinkClose
import Derived.Test.YtpdcghclcgbcfaaTLinkByte
import Derived.Test.YtpdcghclcgbcfaaTLinkSShows
import Derived.Test.YtpdcghclcgbcfaaTLinkDrawB
namespace Go.Proofs.Ytpdcghclcgbcfaa.Pure
open Go.RowKit Go.Proofs.Ytpdcghclcgbcfaa.T Go.Proofs.Ytpdcghclcgbcfaa.Plain Go.Proofs.Ytpdcghclcgbcfaa.LinkT Go.Proofs.YtpdcghclcgbcfaaW.PrintWords Go.Proofs.YtpdcghclcgbcfaaW.PrintLast Go.Proofs.YtpdcghclcgbcfaaW.PrintMore
set_option linter.unusedVariables false
set_option linter.unusedSimpArgs false
theorem chg_pre (x y : List Int) (i : Nat) : ∀ d, ∃ t, chg x y (i + d) = chg x y i ++ t
  | 0 => ⟨[], by simp⟩
  | d + 1 => by
    obtain ⟨t, ht⟩ := chg_pre x y i d
    have e : chg x y (i + (d + 1)) = if x.getD (i + d) 0 = y.getD (i + d) 0 then chg x y (i + d) else chg x y (i + d) ++ [⟨((i + d : Nat) : Int), x.getD (i + d) 0, y.getD (i + d) 0⟩] := rfl
    rw [e]
    split
    · exact ⟨t, ht⟩
    · exact ⟨t ++ [⟨((i + d : Nat) : Int), x.getD (i + d) 0, y.getD (i + d) 0⟩], by rw [ht, List.append_assoc]⟩
theorem chg_at {x y : List Int} {i n : Nat} (h : i < n) (hne : ¬ x.getD i 0 = y.getD i 0) : (chg x y i).length < (chg x y n).length ∧ (chg x y n).getD (chg x y i).length z50 = ⟨(i : Int), x.getD i 0, y.getD i 0⟩ := by
  obtain ⟨d, rfl⟩ : ∃ d, n = (i + 1) + d := ⟨n - (i + 1), by omega⟩
  obtain ⟨t, ht⟩ := chg_pre x y (i + 1) d
  have e : chg x y (i + 1) = chg x y i ++ [⟨(i : Int), x.getD i 0, y.getD i 0⟩] := by
    show (if x.getD i 0 = y.getD i 0 then chg x y i else chg x y i ++ [⟨(i : Int), x.getD i 0, y.getD i 0⟩]) = _
    rw [if_neg hne]
  rw [ht, e]
  refine ⟨by simp only [List.length_append, List.length_cons, List.length_nil]; omega, ?_⟩
  rw [List.append_assoc, List.getD_eq_getElem?_getD, List.getElem?_append_right (Nat.le_refl _), Nat.sub_self]
  rfl
theorem rdT_nat (l : List S50) (i : Nat) : rd_T50 l (i : Int) = l.getD i z50 := by unfold rd_T50; rw [Int.toNat_natCast]
section
variable {nx fa : List Int} {op : List Bool} {wk : List (List Bool)}
theorem tight_l1 {x0 : List Int} {s lamp kk : Int} {x y : List Int} (hl : y.length = x.length) (h60 : x.length ≤ 60) (hle : ∀ i, i < x.length → y.getD i 0 ≤ x.getD i 0)
    (hk : Ev (fun k => laws_FnTight.l0 k x0 s lamp x (wrap64 (kk + 1)) nx fa op wk) true) : ∀ d i : Nat, i + d = x.length →
    Ev (fun k => laws_FnTight.l1 k x0 s lamp x kk (chg x y x.length) y ((chg x y i).length : Int) x.length i nx fa op wk) true := by
  intro d
  induction d with
  | zero =>
    intro i hi
    obtain rfl : i = x.length := by omega
    apply Ev.succ; simp only [laws_FnTight.l1]
    exact Ev.neg (by omega) (Ev.pos (by simp) hk)
  | succ d ih =>
    intro i hi
    have hlt : i < x.length := by omega
    have hc := chg_len x y i
    have h1 := hle i hlt
    have e := ih (i + 1) (by omega)
    rw [show ((i + 1 : Nat) : Int) = (i : Int) + 1 by omega] at e
    apply Ev.succ; simp only [laws_FnTight.l1]
    rw [rd_nat, rd_nat, w64 (x := (i : Int) + 1) (by omega) (by omega)]
    refine Ev.pos (by omega) (Ev.pos (by omega) (Ev.pos (by omega) (Ev.pos (by omega) (Ev.neg (by omega) ?_))))
    by_cases c : x.getD i 0 = y.getD i 0
    · have e2 : chg x y (i + 1) = chg x y i := by
        show (if x.getD i 0 = y.getD i 0 then chg x y i else _) = _
        rw [if_pos c]
      rw [e2] at e
      exact Ev.pos c.symm e
    · obtain ⟨h2, h3⟩ := chg_at (n := x.length) hlt c
      have e2 : ((chg x y (i + 1)).length : Int) = ((chg x y i).length : Int) + 1 := by
        have : chg x y (i + 1) = chg x y i ++ [⟨(i : Int), x.getD i 0, y.getD i 0⟩] := by
          show (if x.getD i 0 = y.getD i 0 then chg x y i else chg x y i ++ [⟨(i : Int), x.getD i 0, y.getD i 0⟩]) = _
          rw [if_neg c]
        rw [this, List.length_append]
        simp
      rw [e2] at e
      rw [rdT_nat, h3, w64 (x := ((chg x y i).length : Int) + 1) (by omega) (by omega)]
      exact Ev.neg (fun q => c q.symm) (Ev.neg (by omega) (Ev.pos (by omega) (Ev.pos (by omega) (Ev.neg (by simp) e))))
theorem tight_j2 {op' : List Bool} {wk' : List (List Bool)} (hr : Right nx fa op wk) (hr' : Right nx fa op' wk') {x0 : List Int} {s lamp kk : Int}
    (ho : ∀ i, op'.getD i false = true → op.getD i false = true) (hw : ∀ i j, (wk'.getD i []).getD j false = true → (wk.getD i []).getD j false = true)
    (hk : Ev (fun k => laws_FnTight.l0 k x0 s lamp (tab nx.length (shown nx op wk)) (wrap64 (kk + 1)) nx fa op wk) true) :
    Ev (fun k => laws_FnTight.j2 k x0 s lamp (tab nx.length (shown nx op wk)) kk (chg (tab nx.length (shown nx op wk)) (tab nx.length (shown nx op' wk')) nx.length) nx fa op wk nx fa op' wk') true := by
  have h60 := hr.n60
  apply Ev.succ; simp only [laws_FnTight.j2]
  refine Ev.bind (shows_ev hr') (Ev.pos (by rw [tab_length, tab_length]) ?_)
  have e := tight_l1 (x0 := x0) (s := s) (lamp := lamp) (kk := kk) (x := tab nx.length (shown nx op wk)) (y := tab nx.length (shown nx op' wk')) (by rw [tab_length, tab_length]) (by rw [tab_length]; omega) (fun i hi => by
    rw [tab_length] at hi
    rw [tab_getD _ _ hi, tab_getD _ _ hi]
    exact shown_tight hr hr' ho hw hi) hk nx.length 0 (by rw [tab_length]; omega)
  rw [tab_length] at e
  rw [tab_length]
  exact e
end
theorem FnTight : laws_FnTight.Pure := by
  intro l0 l1 _ _ hw0 _ _ hw1
  apply Ev.rounds
  unfold laws_FnTight.f
  have yes : ∀ x1 : List Int, Ev (fun k => laws_FnTight.j0 k l0 x1 true) true := fun x1 => by
    apply Ev.succ; simp only [laws_FnTight.j0]
    exact Ev.pos trivial (Ev.ret rfl)
  by_cases c : (l0.length : Int) > 1048576
  · exact Ev.pos c (yes l1)
  · refine Ev.neg c ?_
    by_cases c1 : (l1.length : Int) > 1048576
    · rw [decide_eq_true c1]
      exact yes l1
    · rw [decide_eq_false c1]
      obtain ⟨nx, fa, op, wk, hrow, hr, n1, n9⟩ := rows_ev hw0
      obtain ⟨a, ea, a0, a1⟩ := wByte_is (l := l1) (by omega) hw1 (a := 0) (by omega)
      obtain ⟨b, eb, b0, b1⟩ := wByte_is (l := l1) (by omega) hw1 (a := 1) (by omega)
      have s0 : 0 ≤ Int.tmod a nx.length := Int.tmod_nonneg _ a0
      have s1 : Int.tmod a nx.length < nx.length := Int.tmod_lt_of_pos _ (by omega)
      have m0 : 0 ≤ Int.tmod b 4 := Int.tmod_nonneg _ b0
      have m1 : Int.tmod b 4 < 4 := Int.tmod_lt_of_pos _ (by omega)
      apply Ev.succ; simp only [laws_FnTight.j0]
      refine Ev.neg (by simp) (Ev.bind hrow (Ev.bindc ea (Ev.neg (by show ¬ ((nx.length : Int) = 0); omega) (Ev.bindc eb (Ev.bind (sshows_ev hr) ?_)))))
      show Ev (fun k => laws_FnTight.l0 k l0 (Int.tmod a (nx.length : Int)) (Int.tmod b 4) (tab nx.length (shown nx op wk)) 0 nx fa op wk) true
      obtain ⟨s, hs⟩ := Int.eq_ofNat_of_zero_le s0
      obtain ⟨m, hm⟩ := Int.eq_ofNat_of_zero_le m0
      rw [hs] at s1 ⊢
      rw [hm] at m1 ⊢
      have hop := hr.opL
      have hwl := hr.wkL
      have hw4 := hr.wk4 s (by omega)
      have k2 : Ev (fun k => laws_FnTight.l0 k l0 s m (tab nx.length (shown nx op wk)) (wrap64 (1 + 1)) nx fa op wk) true := by
        rw [w64 (by omega) (by omega)]
        apply Ev.succ; simp only [laws_FnTight.l0]
        exact Ev.neg (by omega) (Ev.ret rfl)
      have k1 : Ev (fun k => laws_FnTight.l0 k l0 s m (tab nx.length (shown nx op wk)) (wrap64 (0 + 1)) nx fa op wk) true := by
        rw [w64 (by omega) (by omega)]
        apply Ev.succ; simp only [laws_FnTight.l0]
        refine Ev.pos (by omega) (Ev.bind hrow (Ev.bind (closing_ev hr (j := s) (by omega)) (Ev.neg (by omega) (Ev.pos (by omega) (Ev.pos (by show (s : Int) < (wk.length : Int); omega) (Ev.pos (by omega) (Ev.pos (by show (m : Int) < ((rd_L3 wk s).length : Int); rw [rdL_nat]; omega) (Ev.bind (breaking_ev hr (j := s) (q := m) (by omega) (by omega)) ?_))))))))
        simp only [Int.toNat_natCast, rdL_nat]
        refine tight_j2 hr (broken hr s m) (fun _ h => h) (fun i j h => ?_) k2
        have hg : (wk.set s ((wk.getD s []).set m false)).getD i [] = if s = i then (if s < wk.length then (wk.getD s []).set m false else []) else wk.getD i [] := by
          rw [List.getD_eq_getElem?_getD, List.getElem?_set]
          by_cases q : s = i
          · rw [if_pos q, if_pos q]; split <;> rfl
          · rw [if_neg q, if_neg q, ← List.getD_eq_getElem?_getD]
        rw [hg] at h
        by_cases q : s = i
        · subst q
          rw [if_pos rfl, if_pos (by omega)] at h
          rw [List.getD_eq_getElem?_getD, List.getElem?_set] at h
          by_cases q2 : m = j
          · subst q2
            rw [if_pos rfl] at h
            split at h <;> simp at h
          · rw [if_neg q2, ← List.getD_eq_getElem?_getD] at h
            exact h
        · rw [if_neg q] at h
          exact h
      apply Ev.succ; simp only [laws_FnTight.l0]
      refine Ev.pos (by omega) (Ev.bind hrow (Ev.bind (closing_ev hr (j := s) (by omega)) (Ev.pos (by simp) (Ev.pos (by omega) (Ev.pos (by show (s : Int) < (op.length : Int); omega) ?_)))))
      simp only [Int.toNat_natCast]
      refine tight_j2 hr (closed hr s) (fun i h => ?_) (fun _ _ h => h) k1
      rw [List.getD_eq_getElem?_getD, List.getElem?_set] at h
      by_cases q : s = i
      · subst q
        rw [if_pos rfl] at h
        split at h <;> simp at h
      · rw [if_neg q, ← List.getD_eq_getElem?_getD] at h
        exact h
end Go.Proofs.Ytpdcghclcgbcfaa.Pure
