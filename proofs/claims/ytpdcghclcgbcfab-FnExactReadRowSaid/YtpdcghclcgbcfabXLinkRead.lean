/- The program and the reference read the same off every text of at most 10000 bytes. Conditions: none beyond that length. -/
import Derived.Test.YtpdcghclcgbcfabXx17
import Derived.Test.YtpdcghclcgbcfabXx7
import Derived.Test.YtpdcghclcgbcfabXLinkOk
import Derived.Test.YtpdcghclcgbcfabXLinkSignal
import Derived.Test.YtpdcghclcgbcfabXLinkLine
namespace Go.Proofs.Ytpdcghclcgbcfab.LinkX
open Go.RowKit Go.Proofs.Ytpdcghclcgbcfab.X Go.Proofs.Ytpdcghclcgbcfab.Plain Go.Proofs.YtpdcghclcgbcfabW.PrintWords Go.Proofs.YtpdcghclcgbcfabW.PrintLast Go.Proofs.YtpdcghclcgbcfabW.PrintMore
set_option linter.unusedVariables false
set_option linter.unusedSimpArgs false
structure Sm (q0 q1 : List Int) (q2 : List Bool) (q3 : List (List Bool)) : Prop where
  a : q0.length ≤ 10000
  b : q1.length ≤ 10000
  c : q2.length ≤ 10000
  d : q3.length ≤ 10000
  e : ∀ x ∈ q3, x.length ≤ 10000
theorem sm_nil : Sm [] [] [] [] := ⟨by simp, by simp, by simp, by simp, by intro x hx; cases hx⟩
theorem sm_right {nx fa : List Int} {op : List Bool} {wk : List (List Bool)} (hr : Right nx fa op wk) : Sm nx fa op wk := by
  have h1 := hr.n60; have h2 := hr.faL; have h3 := hr.opL; have h4 := hr.wkL
  refine ⟨by omega, by omega, by omega, by omega, fun x hx => ?_⟩
  obtain ⟨j, hj, rfl⟩ := List.mem_iff_getElem.1 hx
  have h5 := hr.wk4 j (by omega)
  rw [List.getD_eq_getElem?_getD, List.getElem?_eq_getElem hj] at h5
  simp only [Option.getD_some] at h5
  omega
abbrev Told : Type := Int × Int × List Int × List Int × List Bool × (List (List Bool))
section
variable {r0 r1 : List Int} {r2 : List Bool} {r3 : List (List Bool)}
theorem getD_mid {pre a t : List UInt8} {j : Nat} (h : j < a.length) : (pre ++ (a ++ t)).getD (pre.length + j) 0 = a.getD j 0 := by
  simp only [List.getD_eq_getElem?_getD]
  rw [List.getElem?_append_right (by omega), Nat.add_sub_cancel_left, List.getElem?_append_left h]
theorem scan {pre a t : List UInt8} (hl : (pre ++ (a ++ t)).length ≤ 10000) (ha : ∀ x ∈ a, x ≠ 10) {r : Told}
    (h : Ev (fun k => spec_ReadRow.l0 k (B (pre ++ (a ++ t))) ((pre.length : Nat) : Int) ((pre.length + a.length : Nat) : Int) r0 r1 r2 r3) r) :
    ∀ d j : Nat, j + d = a.length → Ev (fun k => spec_ReadRow.l0 k (B (pre ++ (a ++ t))) ((pre.length : Nat) : Int) ((pre.length + j : Nat) : Int) r0 r1 r2 r3) r
  | 0, j, hj => by
    obtain rfl : j = a.length := by omega
    exact h
  | d + 1, j, hj => by
    have ih := scan hl ha h d (j + 1) (by omega)
    rw [List.length_append, List.length_append] at hl
    apply Ev.succ; simp only [spec_ReadRow.l0]
    refine Ev.pos (by rw [B_size, List.length_append, List.length_append]; omega) (Ev.pos (by omega) ?_)
    rw [bt_B (by rw [List.length_append, List.length_append]; omega), getD_mid (by omega)]
    refine Ev.neg (fun e => ?_) ?_
    · have h1 : a.getD j 0 ∈ a := by
        rw [List.getD_eq_getElem?_getD, List.getElem?_eq_getElem (by omega)]
        exact List.getElem_mem _
      exact ha _ h1 (UInt8.toNat_inj.1 (by show (a.getD j 0).toNat = 10; omega))
    · rw [w64 (by omega) (by omega)]
      exact ih
end
theorem read_ev : ∀ (d : Nat) (rest pre : List UInt8) (r0 r1 : List Int) (r2 : List Bool) (r3 : List (List Bool)), rest.length ≤ d → (pre ++ rest).length ≤ 10000 → r0.length ≤ pre.length → r1.length = r0.length → r2.length = r0.length → r3.length = r0.length →
    ∃ c ln q0 q1 q2 q3, Sm q0 q1 q2 q3 ∧ Ev (fun k => impl_ReadRow.l0 k (B rest) ((r0.length + 1 : Nat) : Int) r0 r1 r2 r3) (c, ln, q0, q1, q2, q3) ∧
      Ev (fun k => spec_ReadRow.l0 k (B (pre ++ rest)) ((pre.length : Nat) : Int) ((pre.length : Nat) : Int) r0 r1 r2 r3) (c, ln, q0, q1, q2, q3) := by
  intro d
  induction d with
  | zero =>
    intro rest pre r0 r1 r2 r3 hd hl h0 h1 h2 h3
    obtain rfl : rest = [] := List.length_eq_zero_iff.1 (by omega)
    rw [List.append_nil] at hl
    by_cases c : rowcode r0 r1 r2 r3 = 0
    · refine ⟨0, 0, r0, r1, r2, r3, sm_right (right_of_code c), ?_, ?_⟩
      · apply Ev.succ; simp only [impl_ReadRow.l0]
        exact Ev.pos (by rw [B_toList]) (Ev.bind impl_ok (Ev.pos c (Ev.ret rfl)))
      · rw [List.append_nil]
        apply Ev.succ; simp only [spec_ReadRow.l0]
        exact Ev.neg (by rw [B_size]; omega) (Ev.neg (by rw [B_size]; omega) (Ev.bind spec_ok (Ev.pos c (Ev.ret rfl))))
    · refine ⟨3, 0, [], [], [], [], sm_nil, ?_, ?_⟩
      · apply Ev.succ; simp only [impl_ReadRow.l0]
        exact Ev.pos (by rw [B_toList]) (Ev.bind impl_ok (Ev.neg c (Ev.ret rfl)))
      · rw [List.append_nil]
        apply Ev.succ; simp only [spec_ReadRow.l0]
        exact Ev.neg (by rw [B_size]; omega) (Ev.neg (by rw [B_size]; omega) (Ev.bind spec_ok (Ev.neg c (Ev.ret rfl))))
  | succ d ih =>
    intro rest pre r0 r1 r2 r3 hd hl h0 h1 h2 h3
    by_cases hn : rest = []
    · exact ih rest pre r0 r1 r2 r3 (by rw [hn]; simp) hl h0 h1 h2 h3
    · have hpos : 0 < rest.length := List.length_pos_iff.2 hn
      have hl' := hl
      rw [List.length_append] at hl'
      rcases nl_split rest with hno | ⟨a, b, ha, rfl⟩
      · -- no end of a line
        refine ⟨1, ((r0.length + 1 : Nat) : Int), [], [], [], [], sm_nil, ?_, ?_⟩
        · apply Ev.succ; simp only [impl_ReadRow.l0]
          rw [show (⟨#[10]⟩ : ByteArray) = B [10] from rfl]
          refine Ev.neg (by rw [B_toList]; exact hn) (Ev.bindc (cut_f rest [10] (by omega)) ?_)
          rw [cut_none hno]
          exact Ev.neg (by simp) (Ev.ret rfl)
        · have h := scan (r0 := r0) (r1 := r1) (r2 := r2) (r3 := r3) (pre := pre) (a := rest) (t := []) (r := (1, ((r0.length + 1 : Nat) : Int), [], [], [], [])) (by rw [List.append_nil]; exact hl) hno ?_ rest.length 0 (by omega)
          · rw [List.append_nil] at h
            exact h
          · rw [List.append_nil]
            apply Ev.succ; simp only [spec_ReadRow.l0]
            refine Ev.neg (by rw [B_size, List.length_append]; omega) (Ev.pos (by rw [B_size, List.length_append]; omega) (Ev.ret ?_))
            rw [w64 (by omega) (by omega)]; rfl
      · have hal : a.length + 1 + b.length = (a ++ 10 :: b).length := by rw [List.length_append, List.length_cons]; omega
        have ec : Lib.cut (a ++ 10 :: b) [10] = (a, b, true) := cut_hit (tl := []) b ha
        have ef : pre ++ (a ++ 10 :: b) = (pre ++ (a ++ [10])) ++ b := by simp
        have hlen : (pre ++ (a ++ [10])).length = pre.length + a.length + 1 := by rw [List.length_append, List.length_append]; simp only [List.length_cons, List.length_nil]; omega
        -- the reference goes on to the line's end
        have hspec : ∀ {r : Told}, Ev (fun k => (spec_l4signal.f k (B a)).bind fun bt => (if bt.2.2.2.2 = true then (if 0 < (bt.1.length : Int) then (if r0.length < 17592186044416 then (if 0 < (bt.2.1.length : Int) then (if r1.length < 17592186044416 then (if 0 < (bt.2.2.1.length : Int) then (if r2.length < 140737488355328 then (if 0 < (bt.2.2.2.1.length : Int) then (if r3.length < 5864062014805 then (spec_ReadRow.l0 k (B (pre ++ (a ++ 10 :: b))) (((pre ++ (a ++ [10])).length : Nat) : Int) (((pre ++ (a ++ [10])).length : Nat) : Int) (r0 ++ [rd bt.1 0]) (r1 ++ [rd bt.2.1 0]) (r2 ++ [rdOf false bt.2.2.1 0]) (r3 ++ [rd_L1 bt.2.2.2.1 0])) else (none)) else (none)) else (none)) else (none)) else (none)) else (none)) else (none)) else (none)) else (some (1, ((r0.length + 1 : Nat) : Int), ([] : List Int), ([] : List Int), ([] : List Bool), ([] : List (List Bool)))))) r →
            Ev (fun k => spec_ReadRow.l0 k (B (pre ++ (a ++ 10 :: b))) ((pre.length : Nat) : Int) ((pre.length : Nat) : Int) r0 r1 r2 r3) r := by
          intro r h
          refine scan (pre := pre) (a := a) (t := 10 :: b) hl ha ?_ a.length 0 (by omega)
          apply Ev.succ; simp only [spec_ReadRow.l0]
          refine Ev.pos (by rw [B_size, List.length_append]; omega) (Ev.pos (by omega) ?_)
          have e10 : (pre ++ (a ++ 10 :: b)).getD (pre.length + a.length) 0 = 10 := by
            simp only [List.getD_eq_getElem?_getD]
            rw [List.getElem?_append_right (by omega), Nat.add_sub_cancel_left, List.getElem?_append_right (by omega), Nat.sub_self]
            rfl
          rw [bt_B (by rw [List.length_append]; omega), e10]
          refine Ev.pos rfl (Ev.pos (by omega) (Ev.pos (by omega) (Ev.pos (by rw [B_size, List.length_append]; omega) ?_)))
          have ex : (B (pre ++ (a ++ 10 :: b))).extract ((pre.length : Nat) : Int).toNat ((pre.length + a.length : Nat) : Int).toNat = B a := by
            rw [B_extract, Int.toNat_natCast, Int.toNat_natCast, List.drop_left, Nat.add_sub_cancel_left, List.take_left]
          rw [ex, w64 (x := ((pre.length + a.length : Nat) : Int) + 1) (by omega) (by omega), w64 (x := (r0.length : Int) + 1) (by omega) (by omega), show ((pre.length + a.length : Nat) : Int) + 1 = (((pre ++ (a ++ [10])).length : Nat) : Int) by rw [hlen]; omega]
          exact h
        have himpl : ∀ {r : Told}, Ev (fun k => (impl_line.f k (B a) r0 r1 r2 r3).bind fun bt => (if bt.2.2.2.2 = true then (impl_ReadRow.l0 k (B b) ((r0.length + 1 + 1 : Nat) : Int) bt.1 bt.2.1 bt.2.2.1 bt.2.2.2.1) else (some (1, ((r0.length + 1 : Nat) : Int), ([] : List Int), ([] : List Int), ([] : List Bool), ([] : List (List Bool)))))) r →
            Ev (fun k => impl_ReadRow.l0 k (B (a ++ 10 :: b)) ((r0.length + 1 : Nat) : Int) r0 r1 r2 r3) r := by
          intro r h
          apply Ev.succ; simp only [impl_ReadRow.l0]
          rw [show (⟨#[10]⟩ : ByteArray) = B [10] from rfl]
          refine Ev.neg (by rw [B_toList]; exact hn) (Ev.bindc (cut_f _ [10] (by omega)) ?_)
          rw [ec, w64 (by omega) (by omega)]
          exact Ev.pos rfl h
        rcases line_ev (r0 := r0) (r1 := r1) (r2 := r2) (r3 := r3) (l := a) (by omega) (by omega) (by omega) (by omega) (by omega) with ⟨op, w, nx, fa, g, rfl, e1⟩ | ⟨n1, e1⟩
        · obtain ⟨c, ln, q0, q1, q2, q3, sm, i1, i2⟩ := ih b (pre ++ (fmt op w nx fa ++ [10])) (r0 ++ [nx]) (r1 ++ [fa]) (r2 ++ [op]) (r3 ++ [w]) (by omega) (by rw [← ef]; exact hl)
            (by rw [hlen, List.length_append]; simp only [List.length_cons, List.length_nil]; omega) (by rw [List.length_append, List.length_append, h1]; rfl) (by rw [List.length_append, List.length_append, h2]; rfl) (by rw [List.length_append, List.length_append, h3]; rfl)
          rw [show (r0 ++ [nx]).length = r0.length + 1 by rw [List.length_append]; rfl] at i1
          rw [← ef] at i2
          refine ⟨c, ln, q0, q1, q2, q3, sm, himpl (Ev.bind e1 (Ev.pos rfl i1)), hspec (Ev.bind (sig_fmt op g) (Ev.pos rfl ?_))⟩
          exact Ev.pos (by simp) (Ev.pos (by omega) (Ev.pos (by simp) (Ev.pos (by omega) (Ev.pos (by simp) (Ev.pos (by omega) (Ev.pos (by simp) (Ev.pos (by omega) i2)))))))
        · obtain ⟨s1, s2, s3, s4, s5, e2, e3⟩ := sig_total a (by omega)
          have : s5 = false := by
            cases s5
            · rfl
            · obtain ⟨op, w, nx, fa, g, e, _⟩ := e3 rfl
              exact absurd e (n1 op w nx fa g)
          subst this
          exact ⟨1, ((r0.length + 1 : Nat) : Int), [], [], [], [], sm_nil, himpl (Ev.bind e1 (Ev.neg (by simp) (Ev.ret rfl))), hspec (Ev.bind e2 (Ev.neg (by simp) (Ev.ret rfl)))⟩
theorem readRow_ev (a0 : ByteArray) (h : ¬ (a0.size : Int) > 1048576) : ∃ c ln q0 q1 q2 q3, Sm q0 q1 q2 q3 ∧ Ev (fun k => impl_ReadRow.f k a0) (c, ln, q0, q1, q2, q3) ∧ Ev (fun k => spec_ReadRow.f k a0) (c, ln, q0, q1, q2, q3) := by
  by_cases c : (a0.size : Int) > 10000
  · refine ⟨2, 0, [], [], [], [], sm_nil, ?_, ?_⟩
    · unfold impl_ReadRow.f; exact Ev.pos c (Ev.ret rfl)
    · unfold spec_ReadRow.f; exact Ev.pos c (Ev.ret rfl)
  · have hl : a0.data.toList.length ≤ 10000 := by rw [← Lib.size_eq]; omega
    obtain ⟨c1, ln, q0, q1, q2, q3, sm, i1, i2⟩ := read_ev a0.data.toList.length a0.data.toList [] [] [] [] [] (Nat.le_refl _) hl (by simp) rfl rfl rfl
    rw [List.nil_append, B_of] at i2
    rw [B_of] at i1
    refine ⟨c1, ln, q0, q1, q2, q3, sm, ?_, ?_⟩
    · unfold impl_ReadRow.f; exact Ev.neg c i1
    · unfold spec_ReadRow.f; exact Ev.neg c i2
end Go.Proofs.Ytpdcghclcgbcfab.LinkX
