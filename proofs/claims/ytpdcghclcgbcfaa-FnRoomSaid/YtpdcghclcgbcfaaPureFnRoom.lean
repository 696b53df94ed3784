/- FnRoom: whoever is at a signal that shows no stop has the room that is told for it up to the first one that does, or to the end of the ways; as many signals on it show more than stop as it says; from a stop there is none. Conditions: those of the law's row alone. -/
import Derived.Test.YtpdcghclcgbcfaaPx18
import Derived.Test.YtpdcghclcgbcfaaLinkRoom
import Derived.Test.YtpdcghclcgbcfaaLinkSShows
import Derived.Test.YtpdcghclcgbcfaaLinkDraw
namespace Go.Proofs.Ytpdcghclcgbcfaa.Pure
open Go.RowKit Go.Proofs.Ytpdcghclcgbcfaa.P Go.Proofs.Ytpdcghclcgbcfaa.Plain Go.Proofs.Ytpdcghclcgbcfaa.Link Go.Proofs.YtpdcghclcgbcfaaW.PrintWords Go.Proofs.YtpdcghclcgbcfaaW.PrintLast Go.Proofs.YtpdcghclcgbcfaaW.PrintMore
set_option linter.unusedVariables false
set_option linter.unusedSimpArgs false
section
variable {nx fa : List Int} {op : List Bool} {wk : List (List Bool)}
theorem room_l1 (hr : Right nx fa op wk) {i : Nat} (hi : i < nx.length) (h : Ev (fun k => laws_FnRoom.l0 k (tab nx.length (shown nx op wk)) nx.length ((i : Int) + 1) nx fa op wk) true) :
    ∀ (a : Nat) (x9 p : Int), x9 ≤ 100 → x9.toNat = a → p < nx.length → (0 < a → 0 ≤ p ∧ (a : Int) ≤ shown nx op wk p.toNat) →
      Ev (fun k => laws_FnRoom.l1 k (tab nx.length (shown nx op wk)) p x9 nx.length i nx fa op wk) true := by
  have h60 := hr.n60
  have L := tab_length nx.length (shown nx op wk)
  intro a
  induction a with
  | zero =>
    intro x9 p hx ha hp _
    apply Ev.succ; simp only [laws_FnRoom.l1]
    rw [w64 (x := (i : Int) + 1) (by omega) (by omega)]
    exact Ev.neg (by omega) h
  | succ a ih =>
    intro x9 p hx ha hp hs
    obtain ⟨h0, h1⟩ := hs (by omega)
    obtain ⟨q, rfl⟩ := Int.eq_ofNat_of_zero_le h0
    have hq : q < nx.length := by omega
    rw [Int.toNat_natCast] at h1
    have hh := hr.hi q hq
    apply Ev.succ; simp only [laws_FnRoom.l1]
    rw [rd_tab _ hq, rd_nat nx, w64 (x := x9 - 1) (by omega) (by omega)]
    refine Ev.pos (by omega) (Ev.neg (by omega) (Ev.pos h0 (Ev.pos (by omega) (Ev.neg (by omega) (Ev.pos (by omega) (ih (x9 - 1) _ (by omega) (by omega) hh (fun g => ?_)))))))
    exact reach hr hq (a := (a : Int)) (by omega) (by omega)
theorem room_law (hr : Right nx fa op wk) : ∀ d i : Nat, i + d = nx.length → Ev (fun k => laws_FnRoom.l0 k (tab nx.length (shown nx op wk)) nx.length i nx fa op wk) true := by
  have h60 := hr.n60
  have L := tab_length nx.length (shown nx op wk)
  intro d
  induction d with
  | zero =>
    intro i hi
    apply Ev.succ; simp only [laws_FnRoom.l0]
    exact Ev.neg (by omega) (Ev.ret rfl)
  | succ d ih =>
    intro i hi
    have hlt : i < nx.length := by omega
    have hl := roomOf_lo hr (shown nx op wk i).toNat (i : Int) 0 (by omega)
    have s0 := shown_lo (nx := nx) (op := op) (wk := wk) i
    have s3 := shown_hi (nx := nx) (op := op) (wk := wk) i
    have hs := room_stop hr (shown nx op wk i).toNat (nx.length + 1) (i : Int) 0 (by omega) (fun g _ => by rw [Int.toNat_natCast]; omega)
    have zero : shown nx op wk i ≤ 0 → roomOf nx fa (shown nx op wk i).toNat i 0 = 0 ∧ stopI nx fa (shown nx op wk) (nx.length + 1) i 0 = 0 := fun c => by
      constructor
      · rw [show (shown nx op wk i).toNat = 0 by omega]; rfl
      · unfold stopI; rw [if_neg (by omega), Int.toNat_natCast, if_pos c]
    have r1 := room_ev hr hlt
    have r2 := sroom_ev hr hlt
    have r3 := stop_ev hr hlt
    have r4 := sstop_ev hr hlt
    generalize roomOf nx fa (shown nx op wk i).toNat (i : Int) 0 = room at *
    generalize stopI nx fa (shown nx op wk) (nx.length + 1) (i : Int) 0 = stop at *
    have go : Ev (fun k => laws_FnRoom.j1 k (tab nx.length (shown nx op wk)) i room stop nx.length i false nx fa op wk) true := by
      have l1 := room_l1 hr hlt (ih (i + 1) (by omega)) (shown nx op wk i).toNat (shown nx op wk i) (i : Int) (by omega) rfl (by omega) (fun g => ⟨by omega, by rw [Int.toNat_natCast]; omega⟩)
      have j2 : Ev (fun k => laws_FnRoom.j2 k (tab nx.length (shown nx op wk)) i nx.length i false nx fa op wk) true := by
        apply Ev.succ; simp only [laws_FnRoom.j2]
        rw [rd_tab _ hlt]
        exact Ev.neg (by simp) (Ev.pos (by omega) (Ev.pos (by omega) l1))
      apply Ev.succ; simp only [laws_FnRoom.j1]
      rw [rd_tab _ hlt]
      refine Ev.neg (by simp) (Ev.pos (by omega) (Ev.pos (by omega) ?_))
      by_cases c : shown nx op wk i ≤ 0
      · obtain ⟨e1, e2⟩ := zero c
        rw [e2, show ((0 : Int) != 0) = false from rfl]
        exact Ev.pos c (Ev.pos e1 j2)
      · exact Ev.neg c j2
    apply Ev.succ; simp only [laws_FnRoom.l0]
    refine Ev.pos (by omega) (Ev.bind r1 (Ev.bind r3 (Ev.neg (by omega) (Ev.bind r2 (Ev.pos rfl (Ev.bind r4 (Ev.pos rfl ?_)))))))
    by_cases c : stop = -2
    · exact Ev.pos c go
    · rw [decide_eq_false (show ¬ stop < room by omega)]
      exact Ev.neg c go
end
theorem FnRoom : laws_FnRoom.Pure := by
  intro l0 _ _ hw
  apply Ev.rounds
  unfold laws_FnRoom.f
  by_cases c : (l0.length : Int) > 1048576
  · exact Ev.pos c (Ev.ret rfl)
  · refine Ev.neg c ?_
    obtain ⟨nx, fa, op, wk, hrow, hr, n1, n9⟩ := rows_ev hw
    refine Ev.bind hrow (Ev.bind (shows_ev hr) (Ev.bind (sshows_ev hr) (Ev.bind (wInts_ev (tab nx.length (shown nx op wk)) (by rw [tab_length]; omega)) (Ev.pos rfl ?_))))
    exact room_law hr nx.length 0 (by omega)
end Go.Proofs.Ytpdcghclcgbcfaa.Pure
