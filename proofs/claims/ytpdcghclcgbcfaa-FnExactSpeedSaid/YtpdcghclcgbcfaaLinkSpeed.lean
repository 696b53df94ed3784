/- What Speed tells, the program's and the reference's: the same greatest speed. Over the printed functions. Conditions: none but lengths that stand in memory. -/
import Derived.Test.YtpdcghclcgbcfaaPx21
import Derived.Test.YtpdcghclcgbcfaaPx23
import Derived.Test.YtpdcghclcgbcfaaPx22
import Derived.Test.YtpdcghclcgbcfaaLinkRoom
namespace Go.Proofs.Ytpdcghclcgbcfaa.Link
open Go.RowKit Go.Proofs.Ytpdcghclcgbcfaa.P Go.Proofs.Ytpdcghclcgbcfaa.Plain Go.Proofs.YtpdcghclcgbcfaaW.PrintWords Go.Proofs.YtpdcghclcgbcfaaW.PrintLast Go.Proofs.YtpdcghclcgbcfaaW.PrintMore
set_option linter.unusedVariables false
set_option linter.unusedSimpArgs false
theorem mul_small {d v : Int} (d0 : 0 ≤ d) (d1 : d ≤ 20) (v0 : 0 ≤ v) (v1 : v ≤ 10001) : 0 ≤ d * v ∧ d * v ≤ 200020 := by
  refine ⟨Int.mul_nonneg d0 v0, ?_⟩
  have := Int.mul_le_mul d1 v1 v0 (by omega)
  omega
theorem speed_l1 {b d room best v : Int} (hb : 10 ≤ b) (hb2 : b ≤ 1000) {R : Int} {T : Int} (hT : T ≤ 2000000000)
    (hend : Ev (fun k => if T > room then some best else impl_Speed.l0 k b d room v (wrap64 (v + 1))) R) :
    ∀ (n : Nat) (u way : Int), 0 ≤ u → u ≤ n → u ≤ 10001 → 0 ≤ way → way + slow b u = T → Ev (fun k => impl_Speed.l1 k b d room best v way (u - b)) R := by
  intro n
  induction n with
  | zero =>
    intro u way h0 h1 h2 h3 h4
    rw [slow_small (by omega) h0 (by omega)] at h4
    obtain rfl : way = T := by omega
    apply Ev.succ; simp only [impl_Speed.l1]
    exact Ev.neg (by omega) hend
  | succ n ih =>
    intro u way h0 h1 h2 h3 h4
    have hs := slow_nonneg (b := b) (by omega) h0
    apply Ev.succ; simp only [impl_Speed.l1]
    by_cases c : u ≤ b
    · rw [slow_small (by omega) h0 c] at h4
      obtain rfl : way = T := by omega
      exact Ev.neg (by omega) hend
    · rw [slow_step (by omega) (by omega)] at h4
      have hs2 := slow_nonneg (b := b) (v := u - b) (by omega) (by omega)
      rw [w64 (x := way + (u - b)) (by omega) (by omega), w64 (x := u - b - b) (by omega) (by omega)]
      exact Ev.pos (by omega) (ih (u - b) _ (by omega) (by omega) (by omega) (by omega) (by omega))
theorem speed_l0 {b d room : Int} (hb : 10 ≤ b) (hb2 : b ≤ 1000) (hd : 0 ≤ d) (hd2 : d ≤ 20) : ∀ (f : Nat) (v : Int), v + f = 10001 → 1 ≤ v →
    Ev (fun k => impl_Speed.l0 k b d room (v - 1) v) (bestF d b room f v) := by
  intro f
  induction f with
  | zero =>
    intro v hv h1
    apply Ev.succ; simp only [impl_Speed.l0]
    exact Ev.neg (by omega) (Ev.ret rfl)
  | succ f ih =>
    intro v hv h1
    have hm := mul_small hd hd2 (v := v) (by omega) (by omega)
    have hs := slow_nonneg (b := b) (v := v) (by omega) (by omega)
    have ht := slow_top (b := b) (v := v) (by omega) (by omega) (by omega)
    apply Ev.succ; simp only [impl_Speed.l0]
    rw [w64 (x := d * v) (by omega) (by omega), w64 (x := v - b) (by omega) (by omega)]
    refine Ev.pos (by omega) (speed_l1 hb hb2 (T := farOf d b v) (by unfold farOf; omega) ?_ v.toNat v (d * v) (by omega) (by omega) (by omega) (by omega) rfl)
    unfold bestF
    by_cases c : farOf d b v > room
    · rw [if_pos c]; exact Ev.pos c (Ev.ret rfl)
    · rw [if_neg c, w64 (x := v + 1) (by omega) (by omega)]
      have e := ih (v + 1) (by omega) (by omega)
      rw [Int.add_sub_cancel] at e
      exact Ev.neg c e
theorem slow_l0 {b : Int} (hb : 10 ≤ b) (hb2 : b ≤ 1000) : ∀ (n : Nat) (u far : Int), 0 ≤ u → u ≤ n → u ≤ 10001 → 0 ≤ far → far + slow b u ≤ 2000000000 → Ev (fun k => spec_l3slow.l0 k u b far) (far + slow b u) := by
  intro n
  induction n with
  | zero =>
    intro u far h0 h1 h2 h3 h4
    rw [slow_small (by omega) h0 (by omega)]
    apply Ev.succ; simp only [spec_l3slow.l0]
    exact Ev.neg (by omega) (Ev.ret (by omega))
  | succ n ih =>
    intro u far h0 h1 h2 h3 h4
    apply Ev.succ; simp only [spec_l3slow.l0]
    rw [w64 (x := u - b) (by omega) (by omega)]
    by_cases c0 : u > 0
    · refine Ev.pos c0 ?_
      by_cases c : u ≤ b
      · rw [slow_small (by omega) h0 c]
        refine Ev.neg (by omega) ?_
        apply Ev.succ; simp only [spec_l3slow.l0]
        exact Ev.neg (by omega) (Ev.ret (by omega))
      · rw [slow_step (by omega) (by omega)] at h4 ⊢
        have hs2 := slow_nonneg (b := b) (v := u - b) (by omega) (by omega)
        refine Ev.pos (by omega) ?_
        rw [w64 (x := far + (u - b)) (by omega) (by omega)]
        have e := ih (u - b) (far + (u - b)) (by omega) (by omega) (by omega) (by omega) (by omega)
        rw [Int.add_assoc] at e
        exact e
    · rw [slow_small (by omega) h0 (by omega)]
      exact Ev.neg c0 (Ev.ret (by omega))
theorem slow_ev {b v : Int} (hb : 10 ≤ b) (hb2 : b ≤ 1000) (h0 : 0 ≤ v) (h1 : v ≤ 10001) : Ev (fun k => spec_l3slow.f k v b) (slow b v) := by
  have ht := slow_top (b := b) (v := v) (by omega) h0 h1
  have e := slow_l0 hb hb2 v.toNat v 0 h0 (by omega) h1 (by omega) (by omega)
  rw [Int.zero_add] at e
  unfold spec_l3slow.f
  exact e
theorem sspeed_l0 {b d room : Int} (hb : 10 ≤ b) (hb2 : b ≤ 1000) (hd : 0 ≤ d) (hd2 : d ≤ 20) : ∀ (f : Nat) (v : Int), v + f = 10001 → 1 ≤ v →
    Ev (fun k => spec_Speed.l0 k b d room (v - 1) v) (bestF d b room f v) := by
  intro f
  induction f with
  | zero =>
    intro v hv h1
    apply Ev.succ; simp only [spec_Speed.l0]
    exact Ev.neg (by omega) (Ev.ret rfl)
  | succ f ih =>
    intro v hv h1
    have hm := mul_small hd hd2 (v := v) (by omega) (by omega)
    have hs := slow_nonneg (b := b) (v := v) (by omega) (by omega)
    have ht := slow_top (b := b) (v := v) (by omega) (by omega) (by omega)
    apply Ev.succ; simp only [spec_Speed.l0]
    refine Ev.pos (by omega) (Ev.bind (slow_ev hb hb2 (by omega) (by omega)) ?_)
    rw [w64 (x := d * v) (by omega) (by omega), w64 (x := d * v + slow b v) (by omega) (by omega)]
    unfold bestF
    by_cases c : farOf d b v > room
    · rw [if_pos c]; exact Ev.pos c (Ev.ret rfl)
    · rw [if_neg c, w64 (x := v + 1) (by omega) (by omega)]
      have e := ih (v + 1) (by omega) (by omega)
      rw [Int.add_sub_cancel] at e
      exact Ev.neg c e
/-- What is told for a signal of a right row. -/
def speedOf (nx fa : List Int) (op : List Bool) (wk : List (List Bool)) (i : Nat) (b d : Int) : Int :=
  if shown nx op wk i ≤ 0 then 0 else bestF d b (roomOf nx fa (shown nx op wk i).toNat i 0) 10000 1
section
variable {nx fa : List Int} {op : List Bool} {wk : List (List Bool)}
theorem speed_ev (hr : Right nx fa op wk) {i : Nat} (hi : i < nx.length) {b d : Int} (hb : 10 ≤ b) (hb2 : b ≤ 1000) (hd : 0 ≤ d) (hd2 : d ≤ 20) :
    Ev (fun k => impl_Speed.f k nx fa op wk i b d) (speedOf nx fa op wk i b d) := by
  have hl := roomOf_lo hr (shown nx op wk i).toNat (i : Int) 0 (by omega)
  unfold impl_Speed.f
  refine Ev.bind (room_ev hr hi) (Ev.neg (by omega) (Ev.neg (by omega) (Ev.neg (by omega) (Ev.neg (by omega) ?_))))
  rw [decide_eq_false (by omega)]
  apply Ev.succ; simp only [impl_Speed.j0]
  refine Ev.neg (by simp) (Ev.bind (shows_ev hr) (Ev.pos (by omega) (Ev.pos (by rw [tab_length]; omega) ?_)))
  rw [rd_tab _ hi]
  unfold speedOf
  by_cases c : shown nx op wk i ≤ 0
  · rw [if_pos c]; exact Ev.pos c (Ev.ret rfl)
  · rw [if_neg c]; exact Ev.neg c (speed_l0 hb hb2 hd hd2 10000 1 (by omega) (by omega))
theorem speed_no {i b d : Int} (h : ¬ (rowcode nx fa op wk = 0 ∧ 0 ≤ i ∧ i < nx.length ∧ 10 ≤ b ∧ b ≤ 1000 ∧ 0 ≤ d ∧ d ≤ 20)) : Ev (fun k => impl_Speed.f k nx fa op wk i b d) (-1) := by
  have no : ∀ x, Ev (fun k => impl_Speed.j0 k i b d x true nx fa op wk) (-1) := fun x => by
    apply Ev.succ; simp only [impl_Speed.j0]; exact Ev.pos (by simp) (Ev.ret rfl)
  unfold impl_Speed.f
  by_cases c : rowcode nx fa op wk = 0 ∧ 0 ≤ i ∧ i < nx.length
  · obtain ⟨c1, c2, c3⟩ := c
    have hr := right_of_code c1
    obtain ⟨j, rfl⟩ := Int.eq_ofNat_of_zero_le c2
    have hl := roomOf_lo hr (shown nx op wk j).toNat (j : Int) 0 (by omega)
    refine Ev.bind (room_ev hr (i := j) (by omega)) (Ev.neg (by omega) ?_)
    by_cases d1 : b < 10
    · exact Ev.pos d1 (no _)
    · refine Ev.neg d1 ?_
      by_cases d2 : b > 1000
      · exact Ev.pos d2 (no _)
      · refine Ev.neg d2 ?_
        by_cases d3 : d < 0
        · exact Ev.pos d3 (no _)
        · refine Ev.neg d3 ?_
          rw [decide_eq_true (show d > 20 from by omega)]
          exact no _
  · exact Ev.bind (room_no c) (Ev.pos rfl (no _))
theorem sspeed_ev (hr : Right nx fa op wk) {i : Nat} (hi : i < nx.length) {b d : Int} (hb : 10 ≤ b) (hb2 : b ≤ 1000) (hd : 0 ≤ d) (hd2 : d ≤ 20) :
    Ev (fun k => spec_Speed.f k nx fa op wk i b d) (speedOf nx fa op wk i b d) := by
  have hl := roomOf_lo hr (shown nx op wk i).toNat (i : Int) 0 (by omega)
  unfold spec_Speed.f
  refine Ev.bind (sroom_ev hr hi) (Ev.neg (by omega) (Ev.bindc (in_true ⟨hb, hb2⟩) (Ev.pos rfl (Ev.bindc (in_true ⟨hd, hd2⟩) ?_))))
  apply Ev.succ; simp only [spec_Speed.j0]
  refine Ev.neg (by simp) (Ev.bind (both_ev hr) (Ev.pos (by omega) (Ev.pos (by show (i : Int) < ((tab nx.length (shown nx op wk)).length : Int); rw [tab_length]; omega) ?_)))
  dsimp only
  rw [rd_tab _ hi]
  unfold speedOf
  by_cases c : shown nx op wk i ≤ 0
  · rw [if_pos c]; exact Ev.pos c (Ev.ret rfl)
  · rw [if_neg c]
    refine Ev.neg c ?_
    apply Ev.succ; simp only [spec_Speed.l0]
    refine Ev.pos (by omega) (Ev.bind (slow_ev hb hb2 (v := 0) (by omega) (by omega)) ?_)
    rw [slow_small (by omega) (Int.le_refl 0) (by omega), Int.mul_zero, w64 (x := 0) (by omega) (by omega), Int.add_zero, w64 (x := 0) (by omega) (by omega), Int.zero_add, w64 (x := 1) (by omega) (by omega)]
    exact Ev.neg (by omega) (sspeed_l0 hb hb2 hd hd2 10000 1 (by omega) (by omega))
theorem sspeed_no (hn : nx.length ≤ 1000000000) {i b d : Int} (h : ¬ (rowcode nx fa op wk = 0 ∧ 0 ≤ i ∧ i < nx.length ∧ 10 ≤ b ∧ b ≤ 1000 ∧ 0 ≤ d ∧ d ≤ 20)) : Ev (fun k => spec_Speed.f k nx fa op wk i b d) (-1) := by
  have no : ∀ x, Ev (fun k => spec_Speed.j0 k i b d x true nx fa op wk) (-1) := fun x => by
    apply Ev.succ; simp only [spec_Speed.j0]; exact Ev.pos (by simp) (Ev.ret rfl)
  unfold spec_Speed.f
  by_cases c : rowcode nx fa op wk = 0 ∧ 0 ≤ i ∧ i < nx.length
  · obtain ⟨c1, c2, c3⟩ := c
    have hr := right_of_code c1
    obtain ⟨j, rfl⟩ := Int.eq_ofNat_of_zero_le c2
    have hl := roomOf_lo hr (shown nx op wk j).toNat (j : Int) 0 (by omega)
    refine Ev.bind (sroom_ev hr (i := j) (by omega)) (Ev.neg (by omega) ?_)
    by_cases d1 : 10 ≤ b ∧ b ≤ 1000
    · exact Ev.bindc (in_true d1) (Ev.pos rfl (Ev.bindc (in_false (by omega)) (no _)))
    · exact Ev.bindc (in_false d1) (Ev.neg (by simp) (no _))
  · exact Ev.bind (sroom_no hn c) (Ev.pos (by omega) (no _))
end
end Go.Proofs.Ytpdcghclcgbcfaa.Link
