/- A drawn row is right, and holds one signal to nine: over the printed functions of the reference's reader of choices. Conditions: the code's bytes are bytes. -/
import Derived.Test.YtpdcghclcgbcfaaTx2
import Derived.Test.YtpdcghclcgbcfaaTx3
import Derived.Test.YtpdcghclcgbcfaaTx4
import Derived.Test.YtpdcghclcgbcfaaTLinkByte
namespace Go.Proofs.Ytpdcghclcgbcfaa.LinkT
open Go.RowKit Go.Proofs.Ytpdcghclcgbcfaa.T Go.Proofs.Ytpdcghclcgbcfaa.Plain Go.Proofs.YtpdcghclcgbcfaaW.PrintWords Go.Proofs.YtpdcghclcgbcfaaW.PrintLast Go.Proofs.YtpdcghclcgbcfaaW.PrintMore
set_option linter.unusedVariables false
set_option linter.unusedSimpArgs false
theorem u64_range (n : Int) : 0 ≤ IntKind.u64.wrap n ∧ IntKind.u64.wrap n < 18446744073709551616 := by
  simp [IntKind.wrap, IntKind.bits, IntKind.signed]
  omega
theorem and255 {x : Int} (h0 : 0 ≤ x) (h1 : x < 16777216) : Go.bits .and .u64 x 255 = x % 256 := by
  have := bits_mask .u64 24 (by decide) (fun n a b => by simp [IntKind.wrap, IntKind.bits, IntKind.signed]; omega) 8 (by decide) x h0 (by omega)
  simpa using this
theorem next_is {s0 : List Int} (hw : ∀ x ∈ s0, (Lit.int .u8 x).wf = true) {at_ seed : Int} (h0 : 0 ≤ at_) (h1 : at_ ≤ 1000000000000) :
    ∃ b e, spec_l5Cur_next.f s0 at_ seed = some (b, at_ + 1, e) ∧ 0 ≤ b ∧ b ≤ 255 := by
  unfold spec_l5Cur_next.f
  rw [w64 (x := at_ + 1) (by omega) (by omega)]
  by_cases c : at_ < (s0.length : Int)
  · have hm : rd s0 at_ ∈ s0 := by
      unfold rd
      rw [List.getD_eq_getElem?_getD, List.getElem?_eq_getElem (show at_.toNat < s0.length by omega)]
      exact List.getElem_mem _
    have hb := wf_u8 (hw _ hm)
    rw [if_pos c, if_pos h0, w64 (x := rd s0 at_) (by omega) (by omega)]
    exact ⟨_, _, rfl, hb.1, hb.2⟩
  · rw [if_neg c]
    have hr := u64_range ((IntKind.u64.wrap (seed * 6364136223846793005)) + 1442695040888963407)
    generalize IntKind.u64.wrap ((IntKind.u64.wrap (seed * 6364136223846793005)) + 1442695040888963407) = X at hr
    rw [and255 (x := X / 1099511627776) (by omega) (by omega), w64 (by omega) (by omega)]
    exact ⟨_, _, rfl, by omega, by omega⟩
theorem pick_is {s0 : List Int} (hw : ∀ x ∈ s0, (Lit.int .u8 x).wf = true) {at_ seed a : Int} (h0 : 0 ≤ at_) (h1 : at_ ≤ 1000000000000) (ha : 1 ≤ a) (ha2 : a ≤ 200) :
    ∃ b at' e, spec_l5Cur_pick.f s0 at_ seed a = some (b, at', e) ∧ 0 ≤ b ∧ b < a ∧ at_ ≤ at' ∧ at' ≤ at_ + 1 := by
  unfold spec_l5Cur_pick.f
  by_cases c : a ≤ 1
  · rw [if_pos c]
    exact ⟨_, _, _, rfl, by omega, by omega, by omega, by omega⟩
  · obtain ⟨b, e, hb, b0, b1⟩ := next_is hw h0 h1 (seed := seed)
    rw [if_neg c, hb]
    simp only [Option.bind_some]
    rw [if_neg (by omega), if_neg (by omega)]
    exact ⟨_, _, _, rfl, Int.tmod_nonneg _ b0, Int.tmod_lt_of_pos _ (by omega), by omega, by omega⟩
structure Good (n i : Nat) (nx fa : List Int) (op : List Bool) (wk : List (List Bool)) : Prop where
  a : nx.length = i
  b : fa.length = i
  c : op.length = i
  d : wk.length = i
  nx1 : ∀ x ∈ nx, -1 ≤ x ∧ x < n
  fa1 : ∀ x ∈ fa, 0 ≤ x ∧ x ≤ 1000000
  wk1 : ∀ x ∈ wk, x.length = 4
theorem Good.snoc {n i : Nat} {nx fa : List Int} {op : List Bool} {wk : List (List Bool)} (h : Good n i nx fa op wk) {x f : Int} {o : Bool} {w : List Bool} (hx : -1 ≤ x ∧ x < n) (hf : 0 ≤ f ∧ f ≤ 1000000) (hw : w.length = 4) :
    Good n (i + 1) (nx ++ [x]) (fa ++ [f]) (op ++ [o]) (wk ++ [w]) := by
  obtain ⟨a, b, c, d, e1, e2, e3⟩ := h
  refine ⟨by simp [a], by simp [b], by simp [c], by simp [d], ?_, ?_, ?_⟩
  · intro y hy
    rcases List.mem_append.1 hy with hy | hy
    · exact e1 y hy
    · rw [List.mem_singleton] at hy; subst hy; exact hx
  · intro y hy
    rcases List.mem_append.1 hy with hy | hy
    · exact e2 y hy
    · rw [List.mem_singleton] at hy; subst hy; exact hf
  · intro y hy
    rcases List.mem_append.1 hy with hy | hy
    · exact e3 y hy
    · rw [List.mem_singleton] at hy; subst hy; exact hw
theorem getD_mem {α : Type} {l : List α} {i : Nat} (d : α) (h : i < l.length) : l.getD i d ∈ l := by
  rw [List.getD_eq_getElem?_getD, List.getElem?_eq_getElem h]
  exact List.getElem_mem _
theorem Good.right {n : Nat} {nx fa : List Int} {op : List Bool} {wk : List (List Bool)} (h : Good n n nx fa op wk) (hn : n ≤ 60) : Right nx fa op wk := by
  obtain ⟨a, b, c, d, e1, e2, e3⟩ := h
  refine ⟨by omega, by omega, by omega, by omega, ?_, ?_, ?_, ?_, ?_⟩
  · intro i hi; exact (e1 _ (getD_mem 0 hi)).1
  · intro i hi; rw [a]; exact (e1 _ (getD_mem 0 hi)).2
  · intro i hi; exact (e2 _ (getD_mem 0 (by omega))).1
  · intro i hi; exact (e2 _ (getD_mem 0 (by omega))).2
  · intro i hi; exact e3 _ (getD_mem [] (by omega))
def GoodR (n : Nat) (r : List Int × List Int × List Bool × (List (List Bool)) × Int × Int) : Prop := Good n n r.1 r.2.1 r.2.2.1 r.2.2.2.1
theorem row_j3 {s0 : List Int} (hw : ∀ x ∈ s0, (Lit.int .u8 x).wf = true) {n i : Nat} (hn : n ≤ 9) (hi : i < n) {kd : Int}
    (IH : ∀ (at_ seed : Int) (nx fa : List Int) (op : List Bool) (wk : List (List Bool)), 0 ≤ at_ → at_ ≤ 100 + 20 * ((i + 1 : Nat) : Int) → Good n (i + 1) nx fa op wk → ∃ r, Ev (fun k => spec_l5Cur_row.l0 k n kd (i + 1 : Nat) s0 at_ seed nx fa op wk) r ∧ GoodR n r)
    {at_ seed x f : Int} {o : Bool} {nx fa : List Int} {op : List Bool} {wk : List (List Bool)} (w : List Bool) (h0 : 0 ≤ at_) (h1 : at_ ≤ 110 + 20 * (i : Int)) (hg : Good n i nx fa op wk) (hx : -1 ≤ x ∧ x < n) (hf : 0 ≤ f ∧ f ≤ 1000000) (h4 : w.length = 4) :
    ∃ r, Ev (fun k => spec_l5Cur_row.j3 k n kd i w s0 at_ seed (nx ++ [x]) (fa ++ [f]) (op ++ [o]) wk) r ∧ GoodR n r := by
  have hd := hg.d
  obtain ⟨b1, a1, e1, p1, q1, r1, t1, u1⟩ := pick_is hw h0 (by omega) (a := 9) (seed := seed) (by omega) (by omega)
  by_cases c : b1 = 0
  · obtain ⟨b2, a2, e2, p2, q2, r2, t2, u2⟩ := pick_is hw (at_ := a1) (by omega) (by omega) (a := 4) (seed := e1) (by omega) (by omega)
    obtain ⟨b3, a3, e3, p3, q3, r3, t3, u3⟩ := pick_is hw (at_ := a2) (by omega) (by omega) (a := 4) (seed := e2) (by omega) (by omega)
    obtain ⟨r, hr, hgr⟩ := IH a3 e3 _ _ _ _ (by omega) (by omega) (hg.snoc (o := o) (w := (w.set b2.toNat false).set b3.toNat false) hx hf (by simp [h4]))
    refine ⟨r, ?_, hgr⟩
    apply Ev.succ; simp only [spec_l5Cur_row.j3]
    refine Ev.bindc p1 (Ev.pos c (Ev.bindc p2 (Ev.pos q2 (Ev.pos (by dsimp only; omega) (Ev.bindc p3 (Ev.pos q3 (Ev.pos (by dsimp only; omega) (Ev.pos (by omega) ?_))))))))
    rw [w64 (by omega) (by omega)]
    exact hr
  · obtain ⟨r, hr, hgr⟩ := IH a1 e1 _ _ _ _ (by omega) (by omega) (hg.snoc (o := o) (w := w) hx hf h4)
    refine ⟨r, ?_, hgr⟩
    apply Ev.succ; simp only [spec_l5Cur_row.j3]
    refine Ev.bindc p1 (Ev.neg c (Ev.pos (by omega) ?_))
    rw [w64 (by omega) (by omega)]
    exact hr
theorem row_j2 {s0 : List Int} (hw : ∀ x ∈ s0, (Lit.int .u8 x).wf = true) {n i : Nat} (hn : n ≤ 9) (hi : i < n) {kd : Int}
    (IH : ∀ (at_ seed : Int) (nx fa : List Int) (op : List Bool) (wk : List (List Bool)), 0 ≤ at_ → at_ ≤ 100 + 20 * ((i + 1 : Nat) : Int) → Good n (i + 1) nx fa op wk → ∃ r, Ev (fun k => spec_l5Cur_row.l0 k n kd (i + 1 : Nat) s0 at_ seed nx fa op wk) r ∧ GoodR n r)
    {at_ seed x : Int} {nx fa : List Int} {op : List Bool} {wk : List (List Bool)} (h0 : 0 ≤ at_) (h1 : at_ ≤ 101 + 20 * (i : Int)) (hg : Good n i nx fa op wk) (hx : -1 ≤ x ∧ x < n) :
    ∃ r, Ev (fun k => spec_l5Cur_row.j2 k n kd i x s0 at_ seed nx fa op wk) r ∧ GoodR n r := by
  have ha := hg.a; have hb := hg.b; have hc := hg.c
  obtain ⟨b1, e1, p1, q1, r1⟩ := next_is hw h0 (by omega) (seed := seed)
  obtain ⟨b2, a2, e2, p2, q2, r2, t2, u2⟩ := pick_is hw (at_ := at_ + 1) (by omega) (by omega) (a := 9) (seed := e1) (by omega) (by omega)
  obtain ⟨b3, a3, e3, p3, q3, r3, t3, u3⟩ := pick_is hw (at_ := a2) (by omega) (by omega) (a := 6) (seed := e2) (by omega) (by omega)
  obtain ⟨b4, a4, e4, p4, q4, r4, t4, u4⟩ := pick_is hw (at_ := a3) (by omega) (by omega) (a := 4) (seed := e3) (by omega) (by omega)
  have hf : 0 ≤ b1 * (1 + b2) ∧ b1 * (1 + b2) ≤ 255 * 9 := ⟨Int.mul_nonneg q1 (by omega), Int.mul_le_mul r1 (by omega) (by omega) (by omega)⟩
  have L3 : ([true, true, true, true] : List Bool).length = 4 := rfl
  by_cases c : b4 = 0
  · obtain ⟨b5, a5, e5, p5, q5, r5, t5, u5⟩ := pick_is hw (at_ := a4) (by omega) (by omega) (a := 4) (seed := e4) (by omega) (by omega)
    obtain ⟨r, hr, hgr⟩ := row_j3 hw hn hi IH (at_ := a5) (seed := e5) (o := decide (b3 > 0)) (([true, true, true, true] : List Bool).set b5.toNat false) (by omega) (by omega) hg hx (f := b1 * (1 + b2)) ⟨hf.1, by omega⟩ (by simp)
    refine ⟨r, ?_, hgr⟩
    apply Ev.succ; simp only [spec_l5Cur_row.j2]
    refine Ev.pos (by omega) (Ev.bindc rfl (Ev.bindc p1 (Ev.bindc p2 (Ev.pos (by omega) ?_))))
    dsimp only
    rw [w64 (x := 1 + b2) (by omega) (by omega), w64 (x := b1 * (1 + b2)) (by omega) (by omega)]
    refine Ev.bindc rfl (Ev.bindc p3 (Ev.pos (by omega) (Ev.bindc rfl (Ev.bindc rfl (Ev.bindc p4 (Ev.pos c (Ev.bindc p5 (Ev.pos q5 (Ev.pos (by dsimp only; omega) hr)))))))))
  · obtain ⟨r, hr, hgr⟩ := row_j3 hw hn hi IH (at_ := a4) (seed := e4) (o := decide (b3 > 0)) [true, true, true, true] (by omega) (by omega) hg hx (f := b1 * (1 + b2)) ⟨hf.1, by omega⟩ rfl
    refine ⟨r, ?_, hgr⟩
    apply Ev.succ; simp only [spec_l5Cur_row.j2]
    refine Ev.pos (by omega) (Ev.bindc rfl (Ev.bindc p1 (Ev.bindc p2 (Ev.pos (by omega) ?_))))
    dsimp only
    rw [w64 (x := 1 + b2) (by omega) (by omega), w64 (x := b1 * (1 + b2)) (by omega) (by omega)]
    refine Ev.bindc rfl (Ev.bindc p3 (Ev.pos (by omega) (Ev.bindc rfl (Ev.bindc rfl (Ev.bindc p4 (Ev.neg c hr))))))
theorem row_l0 {s0 : List Int} (hw : ∀ x ∈ s0, (Lit.int .u8 x).wf = true) {n : Nat} (hn : n ≤ 9) {kd : Int} : ∀ (d i : Nat), i + d = n →
    ∀ (at_ seed : Int) (nx fa : List Int) (op : List Bool) (wk : List (List Bool)), 0 ≤ at_ → at_ ≤ 100 + 20 * (i : Int) → Good n i nx fa op wk → ∃ r, Ev (fun k => spec_l5Cur_row.l0 k n kd i s0 at_ seed nx fa op wk) r ∧ GoodR n r := by
  intro d
  induction d with
  | zero =>
    intro i hi at_ seed nx fa op wk h0 h1 hg
    obtain rfl : i = n := by omega
    refine ⟨(nx, fa, op, wk, at_, seed), ?_, hg⟩
    apply Ev.succ; simp only [spec_l5Cur_row.l0]
    exact Ev.neg (by omega) (Ev.ret rfl)
  | succ d ih =>
    intro i hi at_ seed nx fa op wk h0 h1 hg
    have hlt : i < n := by omega
    have IH := ih (i + 1) (by omega)
    obtain ⟨b1, a1, e1, p1, q1, r1, t1, u1⟩ := pick_is hw h0 (by omega) (a := (n : Int) + 1) (seed := seed) (by omega) (by omega)
    have go : ∀ x : Int, -1 ≤ x ∧ x < n → ∃ r, Ev (fun k => spec_l5Cur_row.j1 k n kd i x s0 a1 e1 nx fa op wk) r ∧ GoodR n r := by
      intro x hx
      by_cases c : kd = 1
      · have m0 : 0 ≤ Int.tmod ((i : Int) + 1) n := Int.tmod_nonneg _ (by omega)
        have m1 : Int.tmod ((i : Int) + 1) n < n := Int.tmod_lt_of_pos _ (by omega)
        obtain ⟨r, hr, hgr⟩ := row_j2 hw hn hlt IH (x := Int.tmod ((i : Int) + 1) n) (at_ := a1) (seed := e1) (by omega) (by omega) hg ⟨by omega, by omega⟩
        refine ⟨r, ?_, hgr⟩
        apply Ev.succ; simp only [spec_l5Cur_row.j1]
        rw [w64 (x := (i : Int) + 1) (by omega) (by omega)]
        exact Ev.pos c (Ev.neg (by omega) hr)
      · obtain ⟨r, hr, hgr⟩ := row_j2 hw hn hlt IH (x := x) (at_ := a1) (seed := e1) (by omega) (by omega) hg hx
        refine ⟨r, ?_, hgr⟩
        apply Ev.succ; simp only [spec_l5Cur_row.j1]
        exact Ev.neg c hr
    by_cases c : kd = 0
    · obtain ⟨r, hr, hgr⟩ := go ((i : Int) - 1) ⟨by omega, by omega⟩
      refine ⟨r, ?_, hgr⟩
      apply Ev.succ; simp only [spec_l5Cur_row.l0]
      rw [w64 (x := (n : Int) + 1) (by omega) (by omega), w64 (x := (i : Int) - 1) (by omega) (by omega)]
      exact Ev.pos (by omega) (Ev.bindc p1 (Ev.pos c hr))
    · obtain ⟨r, hr, hgr⟩ := go (b1 - 1) ⟨by omega, by omega⟩
      refine ⟨r, ?_, hgr⟩
      apply Ev.succ; simp only [spec_l5Cur_row.l0]
      rw [w64 (x := (n : Int) + 1) (by omega) (by omega)]
      refine Ev.pos (by omega) (Ev.bindc p1 (Ev.neg c ?_))
      dsimp only
      rw [w64 (x := b1 - 1) (by omega) (by omega)]
      exact hr
/-- What the reference draws out of any code. -/
theorem rows_ev {s0 : List Int} (hw : ∀ x ∈ s0, (Lit.int .u8 x).wf = true) : ∃ nx fa op wk, Ev (fun k => spec_Rows.f k s0) (nx, fa, op, wk) ∧ Right nx fa op wk ∧ 1 ≤ nx.length ∧ nx.length ≤ 9 := by
  obtain ⟨b1, a1, e1, p1, q1, r1, t1, u1⟩ := pick_is hw (at_ := 0) (by omega) (by omega) (a := 9) (seed := 0) (by omega) (by omega)
  obtain ⟨b2, a2, e2, p2, q2, r2, t2, u2⟩ := pick_is hw (at_ := a1) (by omega) (by omega) (a := 3) (seed := e1) (by omega) (by omega)
  obtain ⟨n, hn⟩ : ∃ n : Nat, (n : Int) = 1 + b1 := ⟨(1 + b1).toNat, by omega⟩
  obtain ⟨⟨nx, fa, op, wk, a3, e3⟩, hr, hg⟩ := row_l0 hw (n := n) (by omega) (kd := b2) n 0 (by omega) a2 e2 [] [] [] [] (by omega) (by omega) ⟨rfl, rfl, rfl, rfl, by simp, by simp, by simp⟩
  have hg' : Good n n nx fa op wk := hg
  refine ⟨nx, fa, op, wk, ?_, hg'.right (by omega), by have := hg'.a; omega, by have := hg'.a; omega⟩
  unfold spec_Rows.f spec_newCur.f
  refine Ev.bindc rfl ?_
  dsimp only
  have row : Ev (fun k => spec_l5Cur_row.f k s0 0 0) (nx, fa, op, wk, a3, e3) := by
    unfold spec_l5Cur_row.f
    refine Ev.bindc p1 (Ev.bindc p2 ?_)
    dsimp only
    rw [w64 (x := 1 + b1) (by omega) (by omega), ← hn]
    exact hr
  exact Ev.bind row (Ev.ret rfl)
end Go.Proofs.Ytpdcghclcgbcfaa.LinkT
