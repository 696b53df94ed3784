/- FnAgree: what the signals of a drawn row want and show agrees at every signal, and no other way of agreeing is less free anywhere. Conditions: those of the law's row alone. -/
import Derived.Test.YtpdcghclcgbcfaaPx9
import Derived.Test.YtpdcghclcgbcfaaPx10
import Derived.Test.YtpdcghclcgbcfaaPx12
import Derived.Test.YtpdcghclcgbcfaaLinkShown
import Derived.Test.YtpdcghclcgbcfaaLinkWanted
import Derived.Test.YtpdcghclcgbcfaaLinkDraw
namespace Go.Proofs.Ytpdcghclcgbcfaa.Pure
open Go.RowKit Go.Proofs.Ytpdcghclcgbcfaa.P Go.Proofs.Ytpdcghclcgbcfaa.Plain Go.Proofs.Ytpdcghclcgbcfaa.Link Go.Proofs.YtpdcghclcgbcfaaW.PrintWords Go.Proofs.YtpdcghclcgbcfaaW.PrintLast Go.Proofs.YtpdcghclcgbcfaaW.PrintMore
set_option linter.unusedVariables false
set_option linter.unusedSimpArgs false
theorem wlamp_l0 (w : List Bool) : ∀ (m : Nat) (x : Int), x = m → m < w.length → m ≤ 3 → Ev (fun k => laws_wLamp.l0 k w x) (lamp w m) := by
  intro m
  induction m with
  | zero =>
    intro x hx hm _
    apply Ev.succ; simp only [laws_wLamp.l0]
    refine Ev.pos (by omega) (Ev.pos (by omega) (Ev.pos (by omega) ?_))
    have hb : rdOf false w x = w.getD 0 false := by subst hx; exact rdOf_nat _ _ 0
    rw [hb]; unfold lamp
    by_cases c : w.getD 0 false = true
    · rw [if_pos c]; exact Ev.pos c (Ev.ret (by omega))
    · rw [if_neg c]; refine Ev.neg c ?_
      rw [w64 (by omega) (by omega)]
      apply Ev.succ; simp only [laws_wLamp.l0]
      exact Ev.neg (by omega) (Ev.ret (by omega))
  | succ m ih =>
    intro x hx hm h3
    apply Ev.succ; simp only [laws_wLamp.l0]
    refine Ev.pos (by omega) (Ev.pos (by omega) (Ev.pos (by omega) ?_))
    have hb : rdOf false w x = w.getD (m + 1) false := by subst hx; exact rdOf_nat _ _ (m + 1)
    rw [hb, lamp]
    by_cases c : w.getD (m + 1) false = true
    · rw [if_pos c]; exact Ev.pos c (Ev.ret hx)
    · rw [if_neg c]; refine Ev.neg c ?_
      rw [w64 (by omega) (by omega)]
      exact ih (x - 1) (by omega) (by omega) (by omega)
theorem wlamp_ev {w : List Bool} {x : Int} (h0 : 0 ≤ x) (h3 : x ≤ 3) (h4 : w.length = 4) : Ev (fun k => laws_wLamp.f k w x) (lamp w x.toNat) := by
  unfold laws_wLamp.f
  exact wlamp_l0 w x.toNat x (by omega) (by omega) (by omega)
section
variable {nx fa : List Int} {op : List Bool} {wk : List (List Bool)}
theorem wwant_is (hr : Right nx fa op wk) {s : Nat → Int} (hs : ∀ i, -1 ≤ s i) (hs3 : ∀ i, s i ≤ 3) {i : Nat} (hi : i < nx.length) : laws_wWant.f nx fa op wk (tab nx.length s) i = some (want nx op s i) := by
  have h60 := hr.n60
  have hoL := hr.opL
  have hlo := hr.lo i hi
  have hhi := hr.hi i hi
  have L3 := tab_length nx.length s
  unfold laws_wWant.f
  rw [if_pos (by omega), if_pos (by omega), rdOf_nat, rd_nat nx]
  by_cases c1 : op.getD i false = true
  · rw [if_pos c1, if_pos (by omega)]
    unfold want; rw [if_pos c1]
    by_cases c2 : nx.getD i 0 < 0
    · rw [if_pos c2, if_pos c2]
    · have hrs : rd (tab nx.length s) (nx.getD i 0) = s (nx.getD i 0).toNat := by
        unfold rd; exact tab_getD _ _ (by omega)
      have hsl := hs (nx.getD i 0).toNat
      have hsh := hs3 (nx.getD i 0).toNat
      rw [if_neg c2, if_neg c2, if_pos (by omega), if_pos (by omega), hrs, w64 (by omega) (by omega)]
      by_cases c3 : s (nx.getD i 0).toNat + 1 ≤ 3
      · rw [if_neg (by omega), if_pos c3]
      · rw [if_pos (by omega), if_neg c3]
  · rw [if_neg c1]
    unfold want; rw [if_neg c1]
/-- What is wanted and shown agrees at a signal. -/
def AgreeAt (nx : List Int) (op : List Bool) (wk : List (List Bool)) (w s : Nat → Int) (i : Nat) : Prop := w i = want nx op s i ∧ s i = lamp (wk.getD i []) (w i).toNat
theorem agrees_l0 (hr : Right nx fa op wk) {w s : Nat → Int} (hw : ∀ i, 0 ≤ w i) (hw3 : ∀ i, w i ≤ 3) (hs : ∀ i, -1 ≤ s i) (hs3 : ∀ i, s i ≤ 3) :
    ∀ d i : Nat, i + d = nx.length → ∃ b, Ev (fun k => laws_wAgrees.l0 k (tab nx.length w) (tab nx.length s) nx.length i nx fa op wk) b ∧ (b = true ↔ ∀ j, i ≤ j → j < nx.length → AgreeAt nx op wk w s j) := by
  have h60 := hr.n60
  have hwL := hr.wkL
  have L1 := tab_length nx.length w
  have L2 := tab_length nx.length s
  intro d
  induction d with
  | zero =>
    intro i hi
    refine ⟨true, ?_, ⟨fun _ j h1 h2 => by omega, fun _ => rfl⟩⟩
    apply Ev.succ; simp only [laws_wAgrees.l0]
    exact Ev.neg (by omega) (Ev.ret rfl)
  | succ d ih =>
    intro i hi
    have hlt : i < nx.length := by omega
    have a1 := hw i; have a2 := hw3 i; have a3 := hs i; have a4 := hs3 i
    have h4 := hr.wk4 i hlt
    have start : ∀ {b : Bool}, Ev (fun k => ((laws_wWant.f nx fa op wk (tab nx.length s) i).bind fun t => if w i = t then (if (i : Int) < (wk.length : Int) then ((laws_wLamp.f k (wk.getD i []) (w i)).bind fun t2 => if s i = t2 then (laws_wAgrees.l0 k (tab nx.length w) (tab nx.length s) nx.length ((i : Int) + 1) nx fa op wk) else some false) else none) else some false)) b →
        Ev (fun k => laws_wAgrees.l0 k (tab nx.length w) (tab nx.length s) nx.length i nx fa op wk) b := by
      intro b e
      apply Ev.succ; simp only [laws_wAgrees.l0]
      rw [rd_tab w hlt, rd_tab s hlt, rdL_nat, w64 (x := (i : Int) + 1) (by omega) (by omega)]
      exact Ev.pos (by omega) (Ev.pos (by omega) (Ev.pos (by omega) (Ev.neg (by omega) (Ev.neg (by omega) (Ev.pos (by omega) (Ev.neg (by omega) (Ev.neg (by omega) e)))))))
    by_cases c1 : w i = want nx op s i
    · by_cases c2 : s i = lamp (wk.getD i []) (w i).toNat
      · obtain ⟨b, hb, hiff⟩ := ih (i + 1) (by omega)
        refine ⟨b, start (Ev.bindc (wwant_is hr hs hs3 hlt) (Ev.pos c1 (Ev.pos (by omega) (Ev.bind (wlamp_ev a1 a2 h4) (Ev.pos c2 hb))))), ?_⟩
        rw [hiff]
        constructor
        · intro h j h1 h2
          by_cases e : j = i
          · subst e; exact ⟨c1, c2⟩
          · exact h j (by omega) h2
        · intro h j h1 h2; exact h j (by omega) h2
      · refine ⟨false, start (Ev.bindc (wwant_is hr hs hs3 hlt) (Ev.pos c1 (Ev.pos (by omega) (Ev.bind (wlamp_ev a1 a2 h4) (Ev.neg c2 (Ev.ret rfl)))))), ?_⟩
        exact ⟨fun h => (by cases h), fun h => absurd (h i (Nat.le_refl _) hlt).2 c2⟩
    · refine ⟨false, start (Ev.bindc (wwant_is hr hs hs3 hlt) (Ev.neg c1 (Ev.ret rfl))), ?_⟩
      exact ⟨fun h => (by cases h), fun h => absurd (h i (Nat.le_refl _) hlt).1 c1⟩
theorem agrees_ev (hr : Right nx fa op wk) {w s : Nat → Int} (hw : ∀ i, 0 ≤ w i) (hw3 : ∀ i, w i ≤ 3) (hs : ∀ i, -1 ≤ s i) (hs3 : ∀ i, s i ≤ 3) :
    ∃ b, Ev (fun k => laws_wAgrees.f k nx fa op wk (tab nx.length w) (tab nx.length s)) b ∧ (b = true ↔ ∀ j, j < nx.length → AgreeAt nx op wk w s j) := by
  obtain ⟨b, hb, h⟩ := agrees_l0 hr hw hw3 hs hs3 nx.length 0 (by omega)
  refine ⟨b, ?_, ?_⟩
  · unfold laws_wAgrees.f; rw [tab_length]; exact hb
  · rw [h]; exact ⟨fun g j hj => g j (Nat.zero_le _) hj, fun g j _ hj => g j hj⟩
theorem agree_l4 (hr : Right nx fa op wk) {x : Nat → Int} (hx : ∀ i, i < nx.length → shown nx op wk i ≤ x i) : ∀ d i : Nat, i + d = nx.length → Ev (fun k => laws_FnAgree.l4 k (tab nx.length (shown nx op wk)) (tab nx.length x) nx.length i) true := by
  have h60 := hr.n60
  have L1 := tab_length nx.length x
  have L2 := tab_length nx.length (shown nx op wk)
  intro d
  induction d with
  | zero =>
    intro i hi
    apply Ev.succ; simp only [laws_FnAgree.l4]
    exact Ev.neg (by omega) (Ev.ret rfl)
  | succ d ih =>
    intro i hi
    have hlt : i < nx.length := by omega
    have := hx i hlt
    apply Ev.succ; simp only [laws_FnAgree.l4]
    rw [rd_tab x hlt, rd_tab _ hlt, w64 (x := (i : Int) + 1) (by omega) (by omega)]
    exact Ev.pos (by omega) (Ev.pos (by omega) (Ev.pos (by omega) (Ev.pos (by omega) (Ev.neg (by omega) (ih (i + 1) (by omega))))))
theorem agree_l3 (hr : Right nx fa op wk) {x : Nat → Int} (hs : ∀ i, -1 ≤ x i) (hs3 : ∀ i, x i ≤ 3) : ∀ d i : Nat, i + d = nx.length →
    Ev (fun k => laws_FnAgree.l3 k (tab nx.length (shown nx op wk)) (tab nx.length x) (tab nx.length (fun j => if j < i then want nx op x j else 0)) nx.length i nx fa op wk) true := by
  have h60 := hr.n60
  have L1 := tab_length nx.length x
  intro d
  induction d with
  | zero =>
    intro i hi
    obtain rfl : i = nx.length := by omega
    apply Ev.succ; simp only [laws_FnAgree.l3]
    refine Ev.neg (by omega) ?_
    rw [blend_n nx.length (want nx op x) (fun _ => 0)]
    obtain ⟨b, hb, hiff⟩ := agrees_ev hr (w := want nx op x) (s := x) (want_lo hs) (want_hi _ _ _) hs hs3
    refine Ev.bind hb ?_
    by_cases c : b = true
    · refine Ev.pos c ?_
      rw [L1]
      have ag := hiff.1 c
      refine agree_l4 hr (fun i hi => shown_least hr (fun j hj => ?_) hi) nx.length 0 (by omega)
      exact Int.le_of_eq (ag j hj).2.symm
    · exact Ev.neg c (Ev.ret rfl)
  | succ d ih =>
    intro i hi
    have hlt : i < nx.length := by omega
    apply Ev.succ; simp only [laws_FnAgree.l3]
    rw [w64 (x := (i : Int) + 1) (by omega) (by omega)]
    have := ih (i + 1) (by omega)
    rw [← blend_next hlt (want nx op x) (fun _ => 0)] at this
    refine Ev.pos (by omega) (Ev.bindc (wwant_is hr hs hs3 hlt) (Ev.pos (by omega) (Ev.pos (by rw [tab_length]; omega) ?_)))
    rw [Int.toNat_natCast]
    exact this
theorem agree_l2 (hr : Right nx fa op wk) {x : Nat → Int} (hs : ∀ i, -1 ≤ x i) (hs3 : ∀ i, x i ≤ 3) {m : Nat} (hm : m ≤ 1000)
    (hend : Ev (fun k => laws_FnAgree.l1 k (tab nx.length (shown nx op wk)) nx.length (tab nx.length (gives nx op wk x)) ((m : Int) + 1) nx fa op wk) true) : ∀ d i : Nat, i + d = nx.length →
    Ev (fun k => laws_FnAgree.l2 k (tab nx.length (shown nx op wk)) nx.length (tab nx.length x) m (tab nx.length (fun j => if j < i then gives nx op wk x j else 0)) nx.length i nx fa op wk) true := by
  have h60 := hr.n60
  have hwL := hr.wkL
  have L1 := tab_length nx.length x
  intro d
  induction d with
  | zero =>
    intro i hi
    obtain rfl : i = nx.length := by omega
    apply Ev.succ; simp only [laws_FnAgree.l2]
    refine Ev.neg (by omega) ?_
    rw [blend_n nx.length (gives nx op wk x) (fun _ => 0), w64 (x := (m : Int) + 1) (by omega) (by omega)]
    exact hend
  | succ d ih =>
    intro i hi
    have hlt : i < nx.length := by omega
    apply Ev.succ; simp only [laws_FnAgree.l2]
    rw [w64 (x := (i : Int) + 1) (by omega) (by omega), rdL_nat]
    have := ih (i + 1) (by omega)
    rw [← blend_next hlt (gives nx op wk x) (fun _ => 0)] at this
    refine Ev.pos (by omega) (Ev.pos (by omega) (Ev.pos (by omega) (Ev.bindc (wwant_is hr hs hs3 hlt) (Ev.bind (wlamp_ev (want_lo hs i) (want_hi _ _ _ _) (hr.wk4 i hlt)) (Ev.pos (by rw [tab_length]; omega) ?_)))))
    rw [Int.toNat_natCast]
    exact this
theorem agree_l1 (hr : Right nx fa op wk) : ∀ (d m : Nat) (x : Nat → Int), m + d = 5 * nx.length + 5 → (∀ i, -1 ≤ x i) → (∀ i, x i ≤ 3) →
    Ev (fun k => laws_FnAgree.l1 k (tab nx.length (shown nx op wk)) nx.length (tab nx.length x) m nx fa op wk) true := by
  have h60 := hr.n60
  intro d
  induction d with
  | zero =>
    intro m x hm hs hs3
    apply Ev.succ; simp only [laws_FnAgree.l1]
    rw [w64 (x := 5 * (nx.length : Int)) (by omega) (by omega), w64 (x := 5 * (nx.length : Int) + 5) (by omega) (by omega)]
    refine Ev.neg (by omega) (Ev.pos (by omega) (Ev.pos (by omega) ?_))
    rw [Int.toNat_natCast, replicate_tab, tab_length]
    have := agree_l3 hr hs hs3 nx.length 0 (by omega)
    rw [blend_0 nx.length (want nx op x) (fun _ => 0)] at this
    exact this
  | succ d ih =>
    intro m x hm hs hs3
    apply Ev.succ; simp only [laws_FnAgree.l1]
    rw [w64 (x := 5 * (nx.length : Int)) (by omega) (by omega), w64 (x := 5 * (nx.length : Int) + 5) (by omega) (by omega)]
    refine Ev.pos (by omega) (Ev.pos (by omega) (Ev.pos (by omega) ?_))
    rw [Int.toNat_natCast, replicate_tab, tab_length]
    have := agree_l2 hr hs hs3 (m := m) (by omega) (ih (m + 1) _ (by omega) (step_lo _ _ _ _) (step_hi hs)) nx.length 0 (by omega)
    rw [blend_0 nx.length (gives nx op wk x) (fun _ => 0)] at this
    exact this
theorem agree_l0 (hr : Right nx fa op wk) {l1 : List Int} (hl : l1.length ≤ 1048576) (hw : ∀ x ∈ l1, (Lit.int .u8 x).wf = true) : ∀ (d i : Nat) (x : Nat → Int), i + d = nx.length → (∀ i, -1 ≤ x i) → (∀ i, x i ≤ 3) →
    Ev (fun k => laws_FnAgree.l0 k l1 (tab nx.length (shown nx op wk)) nx.length (tab nx.length x) nx.length i nx fa op wk) true := by
  have h60 := hr.n60
  intro d
  induction d with
  | zero =>
    intro i x hi hs hs3
    apply Ev.succ; simp only [laws_FnAgree.l0]
    refine Ev.neg (by omega) ?_
    exact agree_l1 hr (5 * nx.length + 5) 0 x (by omega) hs hs3
  | succ d ih =>
    intro i x hi hs hs3
    obtain ⟨v, hv, v0, v1⟩ := wByte_is hl hw (a := (i : Int)) (by omega)
    have t0 : 0 ≤ Int.tmod v 5 := Int.tmod_nonneg _ v0
    have t1 : Int.tmod v 5 < 5 := Int.tmod_lt_of_pos _ (by omega)
    apply Ev.succ; simp only [laws_FnAgree.l0]
    refine Ev.pos (by omega) (Ev.bindc hv (Ev.pos (by omega) (Ev.pos (by rw [tab_length]; omega) ?_)))
    rw [w64 (x := (i : Int) + 1) (by omega) (by omega), w64 (x := Int.tmod v 5 - 1) (by omega) (by omega), Int.toNat_natCast, tab_set]
    refine ih (i + 1) _ (by omega) (fun j => ?_) (fun j => ?_)
    · show -1 ≤ (if j = i then Int.tmod v 5 - 1 else x j)
      split
      · omega
      · exact hs j
    · show (if j = i then Int.tmod v 5 - 1 else x j) ≤ 3
      split
      · omega
      · exact hs3 j
end
theorem FnAgree : laws_FnAgree.Pure := by
  intro l0 l1 _ _ hw _ _ hw1
  apply Ev.rounds
  unfold laws_FnAgree.f
  have big : Ev (fun k => laws_FnAgree.j0 k l0 l1 true) true := by
    apply Ev.succ; simp only [laws_FnAgree.j0]
    exact Ev.pos (by simp) (Ev.ret rfl)
  by_cases c : (l0.length : Int) > 1048576
  · exact Ev.pos c big
  · refine Ev.neg c ?_
    by_cases c1 : (l1.length : Int) > 1048576
    · rw [decide_eq_true c1]; exact big
    · rw [decide_eq_false c1]
      obtain ⟨nx, fa, op, wk, hrow, hr, n1, n9⟩ := rows_ev hw
      obtain ⟨b, hb, hiff⟩ := agrees_ev hr (w := wanted nx op wk) (s := shown nx op wk) wanted_lo wanted_hi shown_lo shown_hi
      have hb1 : b = true := hiff.2 fun j hj => ⟨wanted_is hr hj, by
        rw [shown_fix hr hj, wanted_is hr hj]; rfl⟩
      subst hb1
      apply Ev.succ; simp only [laws_FnAgree.j0]
      refine Ev.neg (by simp) (Ev.bind hrow (Ev.bind (shows_ev hr) (Ev.bind (wants_ev hr) ?_)))
      rw [tab_length, tab_length]
      refine Ev.pos rfl (Ev.pos rfl (Ev.bind hb ?_))
      apply Ev.succ; simp only [laws_FnAgree.j1]
      refine Ev.neg (by simp) (Ev.pos (by omega) (Ev.pos (by omega) (Ev.bindc rfl ?_)))
      rw [Int.toNat_natCast, replicate_tab, tab_length]
      exact agree_l0 hr (by omega) hw1 nx.length 0 (fun _ => 0) (by omega) (fun _ => by omega) (fun _ => by omega)
end Go.Proofs.Ytpdcghclcgbcfaa.Pure
