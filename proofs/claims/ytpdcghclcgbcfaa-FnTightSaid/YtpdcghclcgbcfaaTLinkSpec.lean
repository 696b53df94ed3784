/- What the reference's own work tells of a right row: the same least way of agreeing. Over the printed functions, without memory. Conditions: the row is right. -/
import Derived.Test.YtpdcghclcgbcfaaTx10
import Derived.Test.YtpdcghclcgbcfaaTx11
import Derived.Test.YtpdcghclcgbcfaaTLinkImpl
namespace Go.Proofs.Ytpdcghclcgbcfaa.LinkT
open Go.RowKit Go.Proofs.Ytpdcghclcgbcfaa.T Go.Proofs.Ytpdcghclcgbcfaa.Plain Go.Proofs.YtpdcghclcgbcfaaW.PrintWords Go.Proofs.YtpdcghclcgbcfaaW.PrintLast Go.Proofs.YtpdcghclcgbcfaaW.PrintMore
set_option linter.unusedVariables false
set_option linter.unusedSimpArgs false
theorem lamp_l0 (w : List Bool) : ∀ (m : Nat) (x : Int), x = m → m < w.length → m ≤ 3 → Ev (fun k => spec_l2lamp.l0 k w x) (lamp w m) := by
  intro m
  induction m with
  | zero =>
    intro x hx hm _
    apply Ev.succ; simp only [spec_l2lamp.l0]
    refine Ev.pos (by omega) (Ev.pos (by omega) (Ev.pos (by omega) ?_))
    have hb : rdOf false w x = w.getD 0 false := by subst hx; exact rdOf_nat _ _ 0
    rw [hb]; unfold lamp
    by_cases c : w.getD 0 false = true
    · rw [if_pos c]; exact Ev.pos c (Ev.ret (by omega))
    · rw [if_neg c]; refine Ev.neg c ?_
      rw [w64 (by omega) (by omega)]
      apply Ev.succ; simp only [spec_l2lamp.l0]
      exact Ev.neg (by omega) (Ev.ret (by omega))
  | succ m ih =>
    intro x hx hm h3
    apply Ev.succ; simp only [spec_l2lamp.l0]
    refine Ev.pos (by omega) (Ev.pos (by omega) (Ev.pos (by omega) ?_))
    have hb : rdOf false w x = w.getD (m + 1) false := by subst hx; exact rdOf_nat _ _ (m + 1)
    rw [hb, lamp]
    by_cases c : w.getD (m + 1) false = true
    · rw [if_pos c]; exact Ev.pos c (Ev.ret hx)
    · rw [if_neg c]; refine Ev.neg c ?_
      rw [w64 (by omega) (by omega)]
      exact ih (x - 1) (by omega) (by omega) (by omega)
theorem lamp_ev {w : List Bool} {x : Int} (h0 : 0 ≤ x) (h3 : x ≤ 3) (h4 : w.length = 4) : Ev (fun k => spec_l2lamp.f k w x) (lamp w x.toNat) := by
  unfold spec_l2lamp.f
  exact lamp_l0 w x.toNat x (by omega) (by omega) (by omega)
section
variable {nx fa : List Int} {op : List Bool} {wk : List (List Bool)}
theorem want_is (hr : Right nx fa op wk) {s : Nat → Int} (hs : ∀ i, -1 ≤ s i) (hs3 : ∀ i, s i ≤ 3) {i : Nat} (hi : i < nx.length) : spec_l2want.f nx fa op wk (tab nx.length s) i = some (want nx op s i) := by
  have h60 := hr.n60
  have hoL := hr.opL
  have hlo := hr.lo i hi
  have hhi := hr.hi i hi
  have L3 := tab_length nx.length s
  unfold spec_l2want.f
  rw [if_pos (by omega), if_pos (by omega), rdOf_nat, rd_nat nx]
  by_cases c1 : op.getD i false = true
  · rw [if_pos c1, if_pos (by omega)]
    unfold want; rw [if_pos c1]
    by_cases c2 : nx.getD i 0 < 0
    · rw [if_pos c2, if_pos c2]
    · have hrs : rd (tab nx.length s) (nx.getD i 0) = s (nx.getD i 0).toNat := by
        unfold rd; exact tab_getD _ _ (by omega)
      have hsl := hs (nx.getD i 0).toNat
      have hsh := hs3 (nx.getD i 0).toNat
      rw [if_neg c2, if_neg c2, if_pos (by omega), if_pos (by omega), hrs, w64 (by omega) (by omega)]
      by_cases c3 : s (nx.getD i 0).toNat + 1 ≤ 3
      · rw [if_neg (by omega), if_pos c3]
      · rw [if_pos (by omega), if_neg c3]
  · rw [if_neg c1]
    unfold want; rw [if_neg c1]
/-- One signal is asked anew by the reference: all ways come to one. -/
theorem tail_sp {R : Type} (G : Bool → Nat → Option R) {x9 : Bool} {i l5 l4 w r4 t r5 : Int} {a b : Nat} {r : R} (h5 : i < l5) (h4 : i < l4) (ha : a < 17592186044416) (hb : b < 17592186044416) (e : Ev (G (x9 && t == r5 && w == r4)) r) :
    Ev (fun k => if x9 = true then (if i < l5 then (if t = r5 then (if i < l4 then (if a < 17592186044416 then (if b < 17592186044416 then G (w == r4) k else none) else none) else none) else (if a < 17592186044416 then (if b < 17592186044416 then G false k else none) else none)) else none) else (if a < 17592186044416 then (if b < 17592186044416 then G false k else none) else none)) r := by
  by_cases c : x9 = true
  · subst c
    refine Ev.pos rfl (Ev.pos h5 ?_)
    by_cases d : t = r5
    · subst d
      refine Ev.pos rfl (Ev.pos h4 (Ev.pos ha (Ev.pos hb ?_)))
      simpa using e
    · refine Ev.neg d (Ev.pos ha (Ev.pos hb ?_))
      have : (t == r5) = false := by simpa using d
      rw [this] at e
      simpa using e
  · have c' : x9 = false := by simpa using c
    subst c'
    refine Ev.neg c (Ev.pos ha (Ev.pos hb ?_))
    simpa using e
theorem Diff.nextN {s w : Nat → Int} {i : Nat} {c : Bool} (h : c = true ↔ ¬ Diff nx op wk s w i) : (c && gives nx op wk s i == s i && want nx op s i == w i) = true ↔ ¬ Diff nx op wk s w (i + 1) := by
  constructor
  · intro e
    simp only [Bool.and_eq_true, beq_iff_eq] at e
    obtain ⟨⟨e1, e2⟩, e3⟩ := e
    rintro ⟨j, hj, hd⟩
    by_cases q : j = i
    · subst q
      rcases hd with hd | hd
      · exact hd e3
      · exact hd e2
    · exact h.1 e1 ⟨j, by omega, hd⟩
  · intro e
    simp only [Bool.and_eq_true, beq_iff_eq]
    refine ⟨⟨h.2 fun ⟨j, hj, hd⟩ => e ⟨j, by omega, hd⟩, ?_⟩, ?_⟩
    · exact Classical.byContradiction fun q => e ⟨i, by omega, .inr q⟩
    · exact Classical.byContradiction fun q => e ⟨i, by omega, .inl q⟩
theorem both_l2 (hr : Right nx fa op wk) {s w : Nat → Int} (hs : ∀ i, -1 ≤ s i) (hs3 : ∀ i, s i ≤ 3) {R : List Int × List Int}
    (hyes : ¬ Diff nx op wk s w nx.length → (tab nx.length w, tab nx.length s) = R)
    (hno : Diff nx op wk s w nx.length → Ev (fun k => spec_l2both.l1 k (tab nx.length (want nx op s)) (tab nx.length (gives nx op wk s)) nx fa op wk) R) :
    ∀ (d i : Nat) (c : Bool), i + d = nx.length → (c = true ↔ ¬ Diff nx op wk s w i) →
      Ev (fun k => spec_l2both.l2 k (tab nx.length w) (tab nx.length s) (tab i (want nx op s)) (tab i (gives nx op wk s)) c nx.length i nx fa op wk) R := by
  have h60 := hr.n60
  have hoL := hr.opL
  have hwL := hr.wkL
  intro d
  induction d with
  | zero =>
    intro i c hi hc
    obtain rfl : i = nx.length := by omega
    apply Ev.succ; simp only [spec_l2both.l2]
    refine Ev.neg (by omega) ?_
    by_cases e : c = true
    · exact Ev.pos e (Ev.ret (hyes (hc.1 e)))
    · exact Ev.neg e (hno (Classical.byContradiction fun q => e (hc.2 q)))
  | succ d ih =>
    intro i c hi hc
    have hlt : i < nx.length := by omega
    have h4 := hr.wk4 i hlt
    have hwl := want_lo (nx := nx) (op := op) hs i
    have hwh := want_hi nx op s i
    have hnext := ih (i + 1) _ (by omega) (Diff.nextN hc)
    rw [tab_succ, tab_succ] at hnext
    have L4 := tab_length nx.length w
    have L5 := tab_length nx.length s
    have L7 := tab_length i (want nx op s)
    have L8 := tab_length i (gives nx op wk s)
    apply Ev.succ; simp only [spec_l2both.l2]
    refine Ev.pos (by omega) (Ev.bindc (want_is hr hs hs3 hlt) (Ev.pos (by omega) (Ev.pos (by omega) ?_)))
    rw [rdL_nat, rd_tab s hlt, rd_tab w hlt, w64 (x := (i : Int) + 1) (by omega) (by omega)]
    refine Ev.bind (lamp_ev hwl hwh h4) ?_
    exact tail_sp (fun b k => spec_l2both.l2 k (tab nx.length w) (tab nx.length s) (tab i (want nx op s) ++ [want nx op s i]) (tab i (gives nx op wk s) ++ [gives nx op wk s i]) b nx.length ((i : Int) + 1) nx fa op wk) (by omega) (by omega) (by omega) (by omega) hnext
theorem both_l1 (hr : Right nx fa op wk) : ∀ d t : Nat, t + d = 4 * nx.length + 2 →
    Ev (fun k => spec_l2both.l1 k (tab nx.length (wf nx op wk t)) (tab nx.length (sf nx op wk t)) nx fa op wk) (tab nx.length (wanted nx op wk), tab nx.length (shown nx op wk)) := by
  have h60 := hr.n60
  have nodiff : ∀ t, ¬ Diff nx op wk (sf nx op wk t) (wf nx op wk t) nx.length → Stable nx op wk t := fun t hn i hi => by
    constructor
    · exact Classical.byContradiction fun e => hn ⟨i, hi, .inr e⟩
    · exact Classical.byContradiction fun e => hn ⟨i, hi, .inl e⟩
  intro d
  induction d with
  | zero =>
    intro t ht
    apply Ev.succ; simp only [spec_l2both.l1]
    rw [tab_length]
    refine both_l2 hr (s := sf nx op wk t) (sf_lo t) (sf_hi t) (w := wf nx op wk t) (R := (tab nx.length (wanted nx op wk), tab nx.length (shown nx op wk))) (fun hn => ?_) (fun hd => ?_) nx.length 0 true (by omega) ⟨fun _ => by rintro ⟨j, hj, _⟩; omega, fun _ => rfl⟩
    · exact Prod.ext (tab_congr fun i hi => (stable_is hr (nodiff t hn) hi).2) (tab_congr fun i hi => (stable_is hr (nodiff t hn) hi).1)
    · obtain ⟨j, hj, hq⟩ := hd
      have := stable_late hr (t := t) (by omega) j hj
      rcases hq with hq | hq
      · exact absurd this.2 hq
      · exact absurd this.1 hq
  | succ d ih =>
    intro t ht
    apply Ev.succ; simp only [spec_l2both.l1]
    rw [tab_length]
    refine both_l2 hr (s := sf nx op wk t) (sf_lo t) (sf_hi t) (w := wf nx op wk t) (R := (tab nx.length (wanted nx op wk), tab nx.length (shown nx op wk))) (fun hn => ?_) (fun hd => ?_) nx.length 0 true (by omega) ⟨fun _ => by rintro ⟨j, hj, _⟩; omega, fun _ => rfl⟩
    · exact Prod.ext (tab_congr fun i hi => (stable_is hr (nodiff t hn) hi).2) (tab_congr fun i hi => (stable_is hr (nodiff t hn) hi).1)
    · exact ih (t + 1) (by omega)
theorem both_l0 (hr : Right nx fa op wk) : ∀ d i : Nat, i + d = nx.length →
    Ev (fun k => spec_l2both.l0 k (tab nx.length (fun _ => 0)) (tab nx.length (fun j => if j < i then lamp (wk.getD j []) 0 else 0)) nx.length i nx fa op wk) (tab nx.length (wanted nx op wk), tab nx.length (shown nx op wk)) := by
  have h60 := hr.n60
  have hwL := hr.wkL
  intro d
  induction d with
  | zero =>
    intro i hi
    obtain rfl : i = nx.length := by omega
    apply Ev.succ; simp only [spec_l2both.l0]
    refine Ev.neg (by omega) ?_
    rw [blend_n nx.length (fun j => lamp (wk.getD j []) 0) (fun _ => 0)]
    exact both_l1 hr (4 * nx.length + 2) 0 (by omega)
  | succ d ih =>
    intro i hi
    have hlt : i < nx.length := by omega
    apply Ev.succ; simp only [spec_l2both.l0]
    refine Ev.pos (by omega) (Ev.pos (by omega) (Ev.pos (by omega) ?_))
    rw [rdL_nat, w64 (x := (i : Int) + 1) (by omega) (by omega)]
    refine Ev.bind (lamp_ev (x := 0) (by omega) (by omega) (hr.wk4 i hlt)) (Ev.pos (by rw [tab_length]; omega) ?_)
    have := ih (i + 1) (by omega)
    rw [← blend_next hlt (fun j => lamp (wk.getD j []) 0) (fun _ => 0)] at this
    rw [Int.toNat_natCast]
    exact this
theorem both_ev (hr : Right nx fa op wk) : Ev (fun k => spec_l2both.f k nx fa op wk) (tab nx.length (wanted nx op wk), tab nx.length (shown nx op wk)) := by
  have h60 := hr.n60
  unfold spec_l2both.f
  refine Ev.pos (by omega) (Ev.pos (by omega) ?_)
  rw [Int.toNat_natCast, replicate_tab]
  refine Ev.bindc rfl ?_
  rw [tab_length]
  have := both_l0 hr nx.length 0 (by omega)
  rw [blend_0 nx.length (fun j => lamp (wk.getD j []) 0) (fun _ => 0)] at this
  exact this
end
end Go.Proofs.Ytpdcghclcgbcfaa.LinkT
