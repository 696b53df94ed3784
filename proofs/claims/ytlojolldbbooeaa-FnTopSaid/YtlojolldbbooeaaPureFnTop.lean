/- FnTop: what the signals of a drawn row show and want is the model's; asked again, after the first answer was written over, it is the same; nothing is written into. Conditions: those of the law's row alone. -/
import Derived.Test.YtlojolldbbooeaaPx14
import Derived.Test.YtlojolldbbooeaaPx15
import Derived.Test.YtlojolldbbooeaaLinkTold
import Derived.Test.YtlojolldbbooeaaLinkDraw
namespace Go.Proofs.Ytlojolldbbooeaa.Pure
open Go.RowKit Go.Proofs.Ytlojolldbbooeaa.P Go.Proofs.Ytlojolldbbooeaa.Plain Go.Proofs.Ytlojolldbbooeaa.Link Go.Proofs.YtlojolldbbooeaaW.PrintWords Go.Proofs.YtlojolldbbooeaaW.PrintLast Go.Proofs.YtlojolldbbooeaaW.PrintMore
set_option linter.unusedVariables false
set_option linter.unusedSimpArgs false
section
variable {nx fa : List Int} {op : List Bool} {wk : List (List Bool)}
theorem same_l2 (hr : Right nx fa op wk) {i : Nat} (hi : i < nx.length) (h : Ev (fun k => laws_wRow.l1 k wk.length ((i : Int) + 1) nx fa op wk nx fa op wk) true) :
    ∀ d j : Nat, j + d = 4 → Ev (fun k => laws_wRow.l2 k i wk.length i 4 j nx fa op wk nx fa op wk) true := by
  have h60 := hr.n60
  have hwL := hr.wkL
  have h4 := hr.wk4 i hi
  intro d
  induction d with
  | zero =>
    intro j hj
    apply Ev.succ; simp only [laws_wRow.l2]
    rw [w64 (x := (i : Int) + 1) (by omega) (by omega)]
    exact Ev.neg (by omega) h
  | succ d ih =>
    intro j hj
    apply Ev.succ; simp only [laws_wRow.l2]
    rw [rdL_nat, w64 (x := (j : Int) + 1) (by omega) (by omega)]
    refine Ev.pos (by omega) (Ev.pos (by omega) (Ev.pos (by omega) (Ev.pos (by omega) (Ev.pos (by omega) (Ev.pos (by omega) (Ev.pos (by omega) (Ev.neg (by simp) (ih (j + 1) (by omega)))))))))
theorem same_l1 (hr : Right nx fa op wk) : ∀ d i : Nat, i + d = nx.length → Ev (fun k => laws_wRow.l1 k wk.length i nx fa op wk nx fa op wk) true := by
  have h60 := hr.n60
  have hwL := hr.wkL
  intro d
  induction d with
  | zero =>
    intro i hi
    apply Ev.succ; simp only [laws_wRow.l1]
    exact Ev.neg (by omega) (Ev.ret rfl)
  | succ d ih =>
    intro i hi
    have h4 := hr.wk4 i (by omega)
    apply Ev.succ; simp only [laws_wRow.l1]
    rw [rdL_nat]
    refine Ev.pos (by omega) (Ev.pos (by omega) (Ev.pos (by omega) (Ev.pos (by omega) (Ev.pos (by simp) ?_))))
    rw [h4]
    exact same_l2 hr (by omega) (ih (i + 1) (by omega)) 4 0 (by omega)
theorem same_l0 (hr : Right nx fa op wk) : ∀ d i : Nat, i + d = nx.length → Ev (fun k => laws_wRow.l0 k op.length i nx fa op wk nx fa op wk) true := by
  have h60 := hr.n60
  have hoL := hr.opL
  intro d
  induction d with
  | zero =>
    intro i hi
    apply Ev.succ; simp only [laws_wRow.l0]
    exact Ev.neg (by omega) (same_l1 hr nx.length 0 (by omega))
  | succ d ih =>
    intro i hi
    apply Ev.succ; simp only [laws_wRow.l0]
    rw [w64 (x := (i : Int) + 1) (by omega) (by omega)]
    refine Ev.pos (by omega) (Ev.pos (by omega) (Ev.pos (by omega) (Ev.pos (by omega) (Ev.neg (by simp) (ih (i + 1) (by omega))))))
theorem same_ev (hr : Right nx fa op wk) : Ev (fun k => laws_wRow.f k nx fa op wk nx fa op wk) true := by
  have h60 := hr.n60
  have hfL := hr.faL
  unfold laws_wRow.f
  refine Ev.bind (wInts_ev nx (by omega)) (Ev.pos rfl (Ev.bind (wInts_ev fa (by omega)) (Ev.pos rfl (Ev.pos rfl ?_))))
  rw [show ((wk.length : Int) != (wk.length : Int)) = false by simp]
  apply Ev.succ; simp only [laws_wRow.j0]
  exact Ev.neg (by simp) (same_l0 hr nx.length 0 (by omega))
theorem top_l0 (hr : Right nx fa op wk) : ∀ (d i : Nat) (a : List Int), a.length = nx.length → i + d = nx.length → Ev (fun k => laws_FnTop.l0 k a nx.length i nx fa op wk nx fa op wk) true := by
  have h60 := hr.n60
  intro d
  induction d with
  | zero =>
    intro i a ha hi
    apply Ev.succ; simp only [laws_FnTop.l0]
    refine Ev.neg (by omega) (Ev.bind (shows_ev hr) (Ev.bind (sshows_ev hr) (Ev.bind (wInts_ev _ (by rw [tab_length]; omega)) (Ev.ret rfl))))
  | succ d ih =>
    intro i a ha hi
    apply Ev.succ; simp only [laws_FnTop.l0]
    rw [w64 (x := (i : Int) + 1) (by omega) (by omega)]
    exact Ev.pos (by omega) (Ev.pos (by omega) (Ev.pos (by omega) (ih (i + 1) _ (by rw [List.length_set]; exact ha) (by omega))))
end
theorem FnTop : laws_FnTop.Pure := by
  intro l0 _ _ hw
  apply Ev.rounds
  unfold laws_FnTop.f
  by_cases c : (l0.length : Int) > 1048576
  · exact Ev.pos c (Ev.ret rfl)
  · refine Ev.neg c ?_
    obtain ⟨nx, fa, op, wk, hrow, hr, n1, n9⟩ := rows_ev hw
    have L : ∀ f, (tab nx.length f : List Int).length ≤ 1000000000 := fun f => by rw [tab_length]; omega
    refine Ev.bind hrow (Ev.bind hrow (Ev.bind (shows_ev hr) (Ev.bind (sshows_ev hr) (Ev.bind (wInts_ev _ (L _)) (Ev.pos rfl (Ev.bind (wants_ev hr) (Ev.bind (swants_ev hr) (Ev.bind (wInts_ev _ (L _)) (Ev.pos rfl (Ev.bind (same_ev hr) ?_))))))))))
    apply Ev.succ; simp only [laws_FnTop.j0]
    rw [tab_length]
    exact Ev.neg (by simp) (top_l0 hr nx.length 0 _ (tab_length _ _) (by omega))
end Go.Proofs.Ytlojolldbbooeaa.Pure
