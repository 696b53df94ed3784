/- FnExactBreaking: at every row and any two numbers the program's Breaking answers as the reference's, writes into nothing, keeps nothing of the row, and nothing keeps what it gave. Conditions: lengths that stand in memory. -/
import Derived.Test.YtpdcghclcgbcfabUx19
import Derived.Test.YtpdcghclcgbcfabUx15
import Derived.Test.YtpdcghclcgbcfabUx7
import Derived.Test.YtpdcghclcgbcfabULinkMark0
import Derived.Test.YtpdcghclcgbcfabULinkChange
import Derived.Test.YtpdcghclcgbcfabULinkThere
namespace Go.Proofs.Ytpdcghclcgbcfab.Pure
open Go.RowKit Go.Proofs.Ytpdcghclcgbcfab.U Go.Proofs.Ytpdcghclcgbcfab.Plain Go.Proofs.Ytpdcghclcgbcfab.LinkU Go.Proofs.YtpdcghclcgbcfabW.PrintWords Go.Proofs.YtpdcghclcgbcfabW.PrintLast Go.Proofs.YtpdcghclcgbcfabW.PrintMore
set_option linter.unusedVariables false
set_option linter.unusedSimpArgs false
section
variable {nx fa : List Int} {op : List Bool} {wk : List (List Bool)}
theorem small_of (hr : Right nx fa op wk) : Small nx fa op wk := by
  have h1 := hr.n60; have h2 := hr.faL; have h3 := hr.opL; have h4 := hr.wkL
  refine ⟨by omega, by omega, by omega, by omega, fun x hx => ?_⟩
  obtain ⟨j, hj, rfl⟩ := List.mem_iff_getElem.1 hx
  have h5 := hr.wk4 j (by omega)
  rw [List.getD_eq_getElem?_getD, List.getElem?_eq_getElem hj] at h5
  simp only [Option.getD_some] at h5
  omega
theorem broken (hr : Right nx fa op wk) (j m : Nat) : Right nx fa op (wk.set j ((wk.getD j []).set m false)) :=
  ⟨hr.n60, hr.faL, hr.opL, by rw [List.length_set]; exact hr.wkL, hr.lo, hr.hi, hr.fa0, hr.fa1, fun i hi => by
    rw [List.getD_eq_getElem?_getD, List.getElem?_set]
    by_cases c : j = i
    · subst c
      rw [if_pos rfl, if_pos (by rw [hr.wkL]; exact hi)]
      simp only [Option.getD_some, List.length_set]
      exact hr.wk4 _ hi
    · rw [if_neg c, ← List.getD_eq_getElem?_getD]
      exact hr.wk4 i hi⟩
theorem ibreak_no (k1 k2 : Int) : Ev (fun k => impl_Breaking.j0 k k1 k2 true nx fa op wk) ([] : List S58) := by
  apply Ev.succ; simp only [impl_Breaking.j0]
  exact Ev.pos trivial (Ev.ret rfl)
theorem sbreak_no (k1 k2 : Int) : Ev (fun k => spec_Breaking.j0 k k1 k2 true nx fa op wk) ([] : List S58) := by
  apply Ev.succ; simp only [spec_Breaking.j0]
  exact Ev.pos trivial (Ev.ret rfl)
theorem sameBreaking (hn : nx.length ≤ 1048576) (i m : Int) : ∃ r : List S58, r.length ≤ 1048576 ∧ Ev (fun k => impl_Breaking.f k nx fa op wk i m) r ∧ Ev (fun k => spec_Breaking.f k nx fa op wk i m) r := by
  by_cases c : rowcode nx fa op wk = 0 ∧ 0 ≤ i ∧ i < nx.length
  · by_cases cm : 0 ≤ m ∧ m ≤ 3
    · obtain ⟨c1, c2, c3⟩ := c
      obtain ⟨m1, m2⟩ := cm
      obtain ⟨j, rfl⟩ := Int.eq_ofNat_of_zero_le c2
      obtain ⟨q, rfl⟩ := Int.eq_ofNat_of_zero_le m1
      have hr := right_of_code c1
      have h60 := hr.n60
      have hwl := hr.wkL
      have hw4 := hr.wk4 j (by omega)
      have sm := small_of hr
      refine ⟨chg (tab nx.length (shown nx op wk)) (tab nx.length (shown nx op (wk.set j ((wk.getD j []).set q false)))) nx.length, ?_, ?_, ?_⟩
      · have := chg_len (tab nx.length (shown nx op wk)) (tab nx.length (shown nx op (wk.set j ((wk.getD j []).set q false)))) nx.length
        omega
      · have e : Ev (fun k => impl_Breaking.j0 k j q false nx fa op wk) (chg (tab nx.length (shown nx op wk)) (tab nx.length (shown nx op (wk.set j ((wk.getD j []).set q false)))) nx.length) := by
          apply Ev.succ; simp only [impl_Breaking.j0]
          refine Ev.neg (by simp) (Ev.bind (copied_ev sm) (Ev.pos c2 (Ev.pos (by show (j : Int) < (wk.length : Int); omega) (Ev.pos m1 (Ev.pos (by show (q : Int) < ((rd_L2 wk j).length : Int); rw [rdL_nat]; omega) ?_)))))
          simp only [Int.toNat_natCast, rdL_nat]
          exact Ev.bind (changes_ev hr (broken hr j q)) (Ev.ret rfl)
        unfold impl_Breaking.f
        refine Ev.bind (there_yes hr c2 c3) (Ev.pos rfl (Ev.neg (by omega) ?_))
        rw [show decide ((q : Int) > 3) = false from decide_eq_false (by omega)]
        exact e
      · have e : Ev (fun k => spec_Breaking.j0 k j q false nx fa op wk) (chg (tab nx.length (shown nx op wk)) (tab nx.length (shown nx op (wk.set j ((wk.getD j []).set q false)))) nx.length) := by
          apply Ev.succ; simp only [spec_Breaking.j0]
          refine Ev.neg (by simp) (Ev.bind (l2copy_ev sm) (Ev.pos c2 (Ev.pos (by show (j : Int) < (wk.length : Int); omega) (Ev.pos m1 (Ev.pos (by show (q : Int) < ((rd_L2 wk j).length : Int); rw [rdL_nat]; omega) ?_)))))
          simp only [Int.toNat_natCast, rdL_nat]
          exact Ev.bind (l2changes_ev hr (broken hr j q)) (Ev.ret rfl)
        unfold spec_Breaking.f
        rw [w64 (x := (nx.length : Int) - 1) (by omega) (by omega)]
        exact Ev.bind spec_ok (Ev.pos c1 (Ev.bindc (in_true ⟨c2, by omega⟩) (Ev.pos rfl (Ev.bindc (in_true ⟨m1, m2⟩) e))))
    · obtain ⟨c1, c2, c3⟩ := c
      have hr := right_of_code c1
      refine ⟨[], by simp, ?_, ?_⟩
      · unfold impl_Breaking.f
        refine Ev.bind (there_yes hr c2 c3) (Ev.pos rfl ?_)
        by_cases c4 : m < 0
        · exact Ev.pos c4 (ibreak_no i m)
        · refine Ev.neg c4 ?_
          rw [show decide (m > 3) = true from decide_eq_true (by omega)]
          exact ibreak_no i m
      · unfold spec_Breaking.f
        rw [w64 (x := (nx.length : Int) - 1) (by omega) (by omega)]
        exact Ev.bind spec_ok (Ev.pos c1 (Ev.bindc (in_true ⟨c2, by omega⟩) (Ev.pos rfl (Ev.bindc (in_false cm) (sbreak_no i m)))))
  · refine ⟨[], by simp, ?_, ?_⟩
    · unfold impl_Breaking.f
      exact Ev.bind (there_no c) (Ev.neg (by simp) (ibreak_no i m))
    · unfold spec_Breaking.f
      rw [w64 (x := (nx.length : Int) - 1) (by omega) (by omega)]
      refine Ev.bind spec_ok ?_
      by_cases c1 : rowcode nx fa op wk = 0
      · exact Ev.pos c1 (Ev.bindc (in_false fun h => c ⟨c1, h.1, by omega⟩) (Ev.neg (by simp) (sbreak_no i m)))
      · exact Ev.neg c1 (sbreak_no i m)
end
theorem FnExactBreaking (nx fa : List Int) (op : List Bool) (wk : List (List Bool)) (h : Fits nx fa op wk) (i m : Int) (_ : (Lit.int .i64 i).wf = true) (_ : (Lit.int .i64 m).wf = true) : ∃ k, laws_FnExactBreaking.f k nx fa op wk i m = some true := by
  apply Ev.rounds
  obtain ⟨s, hs, hsm⟩ := sz_ev h
  unfold laws_FnExactBreaking.f
  by_cases c : s < 0
  · exact Ev.bind hs (Ev.pos c (Ev.ret rfl))
  · have sm := hsm c
    have e := to_ev sm
    obtain ⟨r, hl, h1, h2⟩ := sameBreaking (nx := nx) (fa := fa) (op := op) (wk := wk) sm.1 i m
    obtain ⟨q, m0, hm⟩ := markRow_ev sm
    have hq := eqChanges_ev r hl
    obtain ⟨l', hl', hj', mk⟩ := markChg_ev r 1 hl (by omega) (by omega)
    have hd := heldChg_ev l' 1 (by omega) (by omega) (by omega) (fun j hj => hj' j (by omega))
    rw [hl'] at hd
    have hj : Ev (fun k => laws_FnExactBreaking.j0 k i m r r false nx fa op wk) true := by
      apply Ev.succ; simp only [laws_FnExactBreaking.j0]
      exact Ev.neg (by simp) (Ev.bind mk (Ev.bind hd (Ev.neg (by omega) (Ev.pos rfl (Ev.bind e (Ev.bind h1 (Ev.bind hq (Ev.pos rfl (Ev.bind hd (Ev.neg (by omega) (Ev.pos rfl (Ev.ret rfl))))))))))))
    exact Ev.bind hs (Ev.neg c (Ev.bind e (Ev.bind h2 (Ev.bind e (Ev.bind h1 (Ev.bind hq (Ev.pos rfl (Ev.bind e (Ev.bind (eq_ev sm) (Ev.pos rfl (Ev.bind hm (Ev.neg (by omega) (Ev.bind hq hj)))))))))))))
end Go.Proofs.Ytpdcghclcgbcfab.Pure
