/- What the reference makes of a line: it takes just the lines that are written as a signal is, and reads what was written. Conditions: a line of at most 10000 bytes. -/
import Derived.Test.YtpdcghclcgbcfabXx6a
import Derived.Test.YtpdcghclcgbcfabXx5
import Derived.Test.YtpdcghclcgbcfabXLinkText
namespace Go.Proofs.Ytpdcghclcgbcfab.LinkX
open Go.RowKit Go.Proofs.Ytpdcghclcgbcfab.X Go.Proofs.Ytpdcghclcgbcfab.Plain Go.Proofs.YtpdcghclcgbcfabW.PrintWords Go.Proofs.YtpdcghclcgbcfabW.PrintLast Go.Proofs.YtpdcghclcgbcfabW.PrintMore
set_option linter.unusedVariables false
set_option linter.unusedSimpArgs false
theorem dec_small : ∀ i, i < 4 → dec i = [chr i] := by decide
theorem line_l0 {w : List Bool} {nx fa : Int} (op : Bool) (g : GoodL w nx fa) : ∀ (d i : Nat) (acc : List UInt8), i + d = 4 → acc.length ≤ 100 + i →
    Ev (fun k => spec_l4line.l0 k 0 (B acc) w ((w.length : Nat) : Int) i [nx] [fa] [op] [w]) (B ((acc ++ lampsF i (w.drop i)) ++ tailF nx fa))
  | 0, i, acc, hi, ha => by
    have h4 := g.w4; have h5 := g.n0; have h6 := g.n1; have h7 := g.f0; have h8 := g.f1
    have e : w.drop i = [] := List.drop_eq_nil_of_le (by omega)
    obtain ⟨f, rfl⟩ := Int.eq_ofNat_of_zero_le h7
    have hf := dec_len f
    rw [e]
    show Ev _ (B ((acc ++ []) ++ tailF nx f))
    rw [List.append_nil]
    apply Ev.succ; simp only [spec_l4line.l0]
    refine Ev.neg (by omega) (Ev.pos (by first | decide | simp) (Ev.pos (by first | decide | simp) ?_))
    rw [show rd [nx] 0 = nx from rfl, show rd [(f : Int)] 0 = (f : Int) from rfl]
    by_cases c : nx ≥ 0
    · obtain ⟨n, rfl⟩ := Int.eq_ofNat_of_zero_le c
      have hn := dec_len n
      refine Ev.pos c (Ev.bind (decimal_ev (by omega)) ?_)
      rw [show (⟨#[32,110,101,120,116,32]⟩ : ByteArray) = B sNext from rfl, show (⟨#[32,102,97,114,32]⟩ : ByteArray) = B sFar from rfl]
      simp only [B_append, B_size, List.length_append, List.length_cons, List.length_nil]
      refine Ev.pos (by omega) (Ev.pos (by omega) (Ev.pos (by omega) (Ev.pos (by first | decide | simp) (Ev.bind (decimal_ev (by omega)) ?_))))
      simp only [B_append, B_size, List.length_append, List.length_cons, List.length_nil]
      refine Ev.pos (by omega) (Ev.ret ?_)
      unfold tailF
      rw [if_pos c, Int.toNat_natCast, Int.toNat_natCast]
      simp
    · refine Ev.neg c ?_
      rw [show (⟨#[32,101,110,100]⟩ : ByteArray) = B sEnd from rfl, show (⟨#[32,102,97,114,32]⟩ : ByteArray) = B sFar from rfl]
      simp only [B_append, B_size, List.length_append, List.length_cons, List.length_nil]
      refine Ev.pos (by omega) (Ev.pos (by omega) (Ev.pos (by first | decide | simp) (Ev.bind (decimal_ev (by omega)) ?_)))
      simp only [B_append, B_size, List.length_append, List.length_cons, List.length_nil]
      refine Ev.pos (by omega) (Ev.ret ?_)
      unfold tailF
      rw [if_neg c, Int.toNat_natCast]
      simp
  | d + 1, i, acc, hi, ha => by
    have h4 := g.w4
    have hlt : i < w.length := by omega
    have ed : w.drop i = w.getD i false :: w.drop (i + 1) := by
      rw [List.drop_eq_getElem_cons hlt, List.getD_eq_getElem?_getD, List.getElem?_eq_getElem hlt]; rfl
    rw [ed]
    show Ev _ (B ((acc ++ lc i (w.getD i false) :: lampsF (i + 1) (w.drop (i + 1))) ++ tailF nx fa))
    have ih := line_l0 op g d (i + 1) (acc ++ [lc i (w.getD i false)]) (by omega) (by rw [List.length_append]; simp only [List.length_cons, List.length_nil]; omega)
    apply Ev.succ; simp only [spec_l4line.l0]
    refine Ev.pos (by omega) (Ev.pos (by omega) (Ev.pos (by omega) ?_))
    rw [rdOf_nat, w64 (x := (i : Int) + 1) (by omega) (by omega)]
    cases hb : w.getD i false
    · rw [hb] at ih
      refine Ev.neg (by first | decide | simp) (Ev.pos (by rw [B_size]; omega) ?_)
      rw [show (⟨#[45]⟩ : ByteArray) = B [45] from rfl, B_append]
      refine Ev.to ih ?_
      show B ((acc ++ [45] ++ _) ++ _) = B ((acc ++ 45 :: _) ++ _)
      simp
    · rw [hb] at ih
      refine Ev.pos rfl (Ev.bind (decimal_ev (by omega)) ?_)
      rw [dec_small i (by omega)]
      refine Ev.pos (by rw [B_size, B_size]; simp only [List.length_cons, List.length_nil]; omega) ?_
      rw [B_append]
      refine Ev.to ih ?_
      show B ((acc ++ [chr i] ++ _) ++ _) = B ((acc ++ chr i :: _) ++ _)
      simp
theorem l4line_ev {w : List Bool} {nx fa : Int} (op : Bool) (g : GoodL w nx fa) : Ev (fun k => spec_l4line.f k [nx] [fa] [op] [w] 0) (B (fmt op w nx fa)) := by
  have h4 := g.w4
  have go : ∀ h : List UInt8, h.length = 4 → Ev (fun k => spec_l4line.j0 k 0 (B h) [nx] [fa] [op] [w]) (B (((h ++ sLamps) ++ lampsF 0 w) ++ tailF nx fa)) := by
    intro h hh
    apply Ev.succ; simp only [spec_l4line.j0]
    refine Ev.pos (by rw [B_size]; omega) (Ev.pos (by first | decide | simp) (Ev.pos (by first | decide | simp) ?_))
    rw [show (⟨#[32,108,97,109,112,115,32]⟩ : ByteArray) = B sLamps from rfl, B_append, show rd_L1 [w] 0 = w from rfl]
    exact line_l0 op g 4 0 (h ++ sLamps) (by omega) (by rw [List.length_append, hh]; decide)
  unfold spec_l4line.f
  refine Ev.pos (by first | decide | simp) (Ev.pos (by first | decide | simp) ?_)
  cases op
  · exact Ev.neg (by first | decide | simp) (go sShut rfl)
  · exact Ev.pos rfl (go sOpen rfl)

/-! ### a line of the reference -/
def wkOf (ls : List UInt8) : List Bool := ls.map (fun c => ((c.toNat : Int) != 45))
theorem wkOf_len (ls : List UInt8) : (wkOf ls).length = ls.length := by unfold wkOf; rw [List.length_map]
theorem wkOf_at {ls : List UInt8} {i : Nat} (h : i < ls.length) (hw : i < (wkOf ls).length) : (wkOf ls)[i]'hw = (((ls.getD i 0).toNat : Int) != 45) := by
  simp [wkOf, List.getD_eq_getElem?_getD, h]
theorem wkOf_lamps : ∀ (i : Nat) (w : List Bool), wkOf (lampsF i w) = w
  | _, [] => rfl
  | i, b :: t => by
    show ((((lc i b).toNat : Nat) : Int) != 45) :: wkOf (lampsF (i + 1) t) = b :: t
    rw [wkOf_lamps (i + 1) t]
    congr 1
    cases b
    · rfl
    · rw [bne_iff_ne]
      intro e
      have := (lc_45 i true).1 e
      cases this
theorem rdOf_map (W : List (List UInt8)) (j : Nat) : rdOf ByteArray.empty (W.map B) (j : Int) = B (W.getD j []) := by
  unfold rdOf
  rw [Int.toNat_natCast, List.getD_eq_getElem?_getD, List.getD_eq_getElem?_getD, List.getElem?_map]
  cases W[j]? <;> rfl
theorem sig_l0 {l : List UInt8} {W : List (List UInt8)} {nx fa : Int} (op : Bool) (h2 : 2 < W.length) (h4 : (W.getD 2 []).length = 4) (hn : nx = -1 ∨ 0 ≤ nx ∧ nx < 100000000) (hf : fa = -1 ∨ 0 ≤ fa ∧ fa < 100000000) :
    ∀ d i : Nat, i + d = 4 → Ev (fun k => spec_l4signal.l0 k (B l) (W.map B) ((wkOf (W.getD 2 [])).take i) i [nx] [fa] [op])
      ([nx], [fa], [op], [wkOf (W.getD 2 [])], if 0 ≤ fa then (fmt op (wkOf (W.getD 2 [])) nx fa == l) else false)
  | 0, i, hi => by
    have e : (wkOf (W.getD 2 [])).take i = wkOf (W.getD 2 []) := List.take_of_length_le (by rw [wkOf_len]; omega)
    rw [e]
    apply Ev.succ; simp only [spec_l4signal.l0]
    refine Ev.neg (by omega) (Ev.bindc rfl (Ev.pos (by simp) ?_))
    rw [show rd [fa] 0 = fa from rfl]
    by_cases c : 0 ≤ fa
    · have g : GoodL (wkOf (W.getD 2 [])) nx fa := ⟨by rw [wkOf_len]; exact h4, by omega, by omega, c, by omega⟩
      rw [if_pos c]
      refine Ev.pos c (Ev.bind (l4line_ev op g) (Ev.ret ?_))
      rw [B_toList, B_toList]
    · rw [if_neg c]
      exact Ev.neg c (Ev.ret rfl)
  | d + 1, i, hi => by
    have ih := sig_l0 (l := l) op h2 h4 hn hf d (i + 1) (by omega)
    apply Ev.succ; simp only [spec_l4signal.l0]
    rw [show rdOf ByteArray.empty (W.map B) 2 = B (W.getD 2 []) from rdOf_map W 2, B_size]
    refine Ev.pos (by omega) (Ev.pos (by rw [List.length_map]; omega) (Ev.pos (by omega) (Ev.pos (by omega) (Ev.pos (by rw [List.length_take, wkOf_len]; omega) ?_))))
    rw [bt_B (by omega), w64 (x := (i : Int) + 1) (by omega) (by omega)]
    have e : (wkOf (W.getD 2 [])).take i ++ [((((W.getD 2 []).getD i 0).toNat : Int) != 45)] = (wkOf (W.getD 2 [])).take (i + 1) := by
      have hlt : i < (wkOf (W.getD 2 [])).length := by rw [wkOf_len]; omega
      rw [List.take_succ_eq_append_getElem hlt]
      rw [wkOf_at (by omega) hlt]
    rw [e]
    exact ih
theorem sig_stage {l : List UInt8} {W : List (List UInt8)} {nx fa : Int} (hl : l.length ≤ 10000) (hW : words [] l = W) (h6 : 6 ≤ W.length) (h4 : (W.getD 2 []).length = 4)
    (ef : Ev (fun k => spec_l4num.f k (B (W.getD (W.length - 1) []))) fa) (hf : fa = -1 ∨ 0 ≤ fa ∧ fa < 100000000)
    (en : W.length = 7 ∧ Ev (fun k => spec_l4num.f k (B (W.getD 4 []))) nx ∧ 0 ≤ nx ∧ nx < 100000000 ∨ W.length ≠ 7 ∧ nx = -1) (h7 : W.length ≤ 10001) :
    Ev (fun k => spec_l4signal.f k (B l)) ([nx], [fa], [W.getD 0 [] == sOpen], [wkOf (W.getD 2 [])], if 0 ≤ fa then (fmt (W.getD 0 [] == sOpen) (wkOf (W.getD 2 [])) nx fa == l) else false) := by
  unfold spec_l4signal.f
  refine Ev.bind (words_ev l hl) ?_
  rw [hW, List.length_map]
  refine Ev.neg (by omega) (Ev.pos (by omega) ?_)
  rw [show rdOf ByteArray.empty (W.map B) 2 = B (W.getD 2 []) from rdOf_map W 2, B_size, h4, show (((4 : Nat) : Int) != 4) = false from rfl]
  apply Ev.succ; simp only [spec_l4signal.j0]
  rw [List.length_map]
  have e1 : wrap64 ((W.length : Int) - 1) = ((W.length - 1 : Nat) : Int) := by rw [w64 (by omega) (by omega)]; omega
  rw [e1, rdOf_map]
  refine Ev.neg (by first | decide | simp) (Ev.bindc rfl (Ev.pos (by omega) (Ev.pos (by omega) (Ev.bind ef (Ev.bindc rfl (Ev.pos (by omega) (Ev.bindc rfl ?_)))))))
  rw [show rdOf ByteArray.empty (W.map B) 0 = B (W.getD 0 []) from rdOf_map W 0, B_toList, show rdOf ByteArray.empty (W.map B) 4 = B (W.getD 4 []) from rdOf_map W 4]
  have j1 : Ev (fun k => spec_l4signal.j1 k (B l) (W.map B) [nx] [fa] [W.getD 0 [] == sOpen]) ([nx], [fa], [W.getD 0 [] == sOpen], [wkOf (W.getD 2 [])], if 0 ≤ fa then (fmt (W.getD 0 [] == sOpen) (wkOf (W.getD 2 [])) nx fa == l) else false) := by
    apply Ev.succ; simp only [spec_l4signal.j1]
    refine sig_l0 (W.getD 0 [] == sOpen) (by omega) h4 ?_ hf 4 0 (by omega)
    rcases en with ⟨_, _, h⟩ | ⟨_, h⟩
    · exact .inr h
    · exact .inl h
  rcases en with ⟨c7, en, n0, n1⟩ | ⟨c7, rfl⟩
  · refine Ev.pos (by omega) (Ev.pos (by omega) (Ev.bind en (Ev.pos (by first | decide | simp) (Ev.neg (by omega) ?_))))
    exact j1
  · refine Ev.neg (by omega) ?_
    exact j1
theorem sig_fmt {w : List Bool} {nx fa : Int} (op : Bool) (g : GoodL w nx fa) : Ev (fun k => spec_l4signal.f k (B (fmt op w nx fa))) ([nx], [fa], [op], [w], true) := by
  have h4 := g.w4; have h5 := g.n0; have h6 := g.n1; have h7 := g.f0; have h8 := g.f1
  have hl := fmt_len op g
  have hw := words_fmt op w nx fa
  obtain ⟨f, rfl⟩ := Int.eq_ofNat_of_zero_le h7
  have eo : (headF op == sOpen) = op := by cases op <;> decide
  by_cases c : 0 ≤ nx
  · rw [if_pos c] at hw
    obtain ⟨n, rfl⟩ := Int.eq_ofNat_of_zero_le c
    refine Ev.to (sig_stage (nx := (n : Int)) (fa := (f : Int)) (by omega) hw (by simp) (by show (lampsF 0 w).length = 4; rw [lampsF_len]; exact h4) (num_dec (n := f) (by omega)) (.inr ⟨by omega, by omega⟩) (.inl ⟨rfl, num_dec (n := n) (by omega), by omega, by omega⟩) (by simp)) ?_
    show ([(n : Int)], [(f : Int)], [headF op == sOpen], [wkOf (lampsF 0 w)], if (0 : Int) ≤ f then (fmt (headF op == sOpen) (wkOf (lampsF 0 w)) n f == _) else false) = _
    rw [eo, wkOf_lamps, if_pos (by omega), beq_self_eq_true]
  · rw [if_neg c] at hw
    have en : nx = -1 := by omega
    refine Ev.to (sig_stage (nx := nx) (fa := (f : Int)) (by omega) hw (by simp) (by show (lampsF 0 w).length = 4; rw [lampsF_len]; exact h4) (num_dec (n := f) (by omega)) (.inr ⟨by omega, by omega⟩) (.inr ⟨by simp, en⟩) (by simp)) ?_
    show ([nx], [(f : Int)], [headF op == sOpen], [wkOf (lampsF 0 w)], if (0 : Int) ≤ f then (fmt (headF op == sOpen) (wkOf (lampsF 0 w)) nx f == _) else false) = _
    rw [eo, wkOf_lamps, if_pos (by omega), beq_self_eq_true]
theorem getD_words {l : List UInt8} (hl : l.length ≤ 10000) (j : Nat) : ((words [] l).getD j []).length ≤ 10000 := by
  by_cases h : j < (words [] l).length
  · have := words_mem l [] _ (List.getElem_mem h)
    rw [List.getD_eq_getElem?_getD, List.getElem?_eq_getElem h]
    rw [List.length_nil] at this
    simp only [Option.getD_some]
    omega
  · rw [List.getD_eq_getElem?_getD, List.getElem?_eq_none (by omega)]
    simp
theorem sig_total (l : List UInt8) (hl : l.length ≤ 10000) : ∃ r1 r2 r3 r4 r5, Ev (fun k => spec_l4signal.f k (B l)) (r1, r2, r3, r4, r5) ∧ (r5 = true → ∃ op w nx fa, GoodL w nx fa ∧ l = fmt op w nx fa ∧ r1 = [nx] ∧ r2 = [fa] ∧ r3 = [op] ∧ r4 = [w]) := by
  have no : ∀ b : Bool, b = true → Ev (fun k => spec_l4signal.j0 k (B l) ((words [] l).map B) b) (([] : List Int), ([] : List Int), ([] : List Bool), ([] : List (List Bool)), false) := by
    intro b hb
    apply Ev.succ; simp only [spec_l4signal.j0]
    exact Ev.pos hb (Ev.ret rfl)
  have wl := words_len l []
  by_cases c6 : (words [] l).length < 6
  · refine ⟨[], [], [], [], false, ?_, fun h => (by cases h)⟩
    unfold spec_l4signal.f
    refine Ev.bind (words_ev l hl) (Ev.pos (by rw [List.length_map]; omega) (no true rfl))
  · by_cases c4 : ((words [] l).getD 2 []).length = 4
    · obtain ⟨fa, ef, hf⟩ := num_total ((words [] l).getD ((words [] l).length - 1) []) (getD_words hl _)
      have fin : ∀ nx, ((words [] l).length = 7 ∧ Ev (fun k => spec_l4num.f k (B ((words [] l).getD 4 []))) nx ∧ 0 ≤ nx ∧ nx < 100000000 ∨ (words [] l).length ≠ 7 ∧ nx = -1) → ∃ r1 r2 r3 r4 r5, Ev (fun k => spec_l4signal.f k (B l)) (r1, r2, r3, r4, r5) ∧ (r5 = true → ∃ op w nx fa, GoodL w nx fa ∧ l = fmt op w nx fa ∧ r1 = [nx] ∧ r2 = [fa] ∧ r3 = [op] ∧ r4 = [w]) := by
        intro nx en
        refine ⟨_, _, _, _, _, sig_stage hl rfl (by omega) c4 ef hf en (by omega), fun h => ?_⟩
        by_cases c0 : 0 ≤ fa
        · rw [if_pos c0] at h
          refine ⟨_, _, nx, fa, ⟨by rw [wkOf_len]; exact c4, by omega, by omega, c0, by omega⟩, (beq_iff_eq.1 h).symm, rfl, rfl, rfl, rfl⟩
        · rw [if_neg c0] at h; cases h
      by_cases c7 : (words [] l).length = 7
      · obtain ⟨nx, en, hn⟩ := num_total ((words [] l).getD 4 []) (getD_words hl _)
        rcases hn with rfl | hn
        · refine ⟨[], [], [], [], false, ?_, fun h => (by cases h)⟩
          unfold spec_l4signal.f
          refine Ev.bind (words_ev l hl) ?_
          rw [List.length_map]
          refine Ev.neg (by omega) (Ev.pos (by omega) ?_)
          rw [show rdOf ByteArray.empty ((words [] l).map B) 2 = B ((words [] l).getD 2 []) from rdOf_map _ 2, B_size, c4, show (((4 : Nat) : Int) != 4) = false from rfl]
          apply Ev.succ; simp only [spec_l4signal.j0]
          rw [List.length_map]
          have e1 : wrap64 (((words [] l).length : Int) - 1) = (((words [] l).length - 1 : Nat) : Int) := by rw [w64 (by omega) (by omega)]; omega
          rw [e1, rdOf_map, show rdOf ByteArray.empty ((words [] l).map B) 4 = B ((words [] l).getD 4 []) from rdOf_map _ 4]
          exact Ev.neg (by decide) (Ev.bindc rfl (Ev.pos (by omega) (Ev.pos (by omega) (Ev.bind ef (Ev.bindc rfl (Ev.pos (by omega) (Ev.bindc rfl (Ev.pos (by omega) (Ev.pos (by omega) (Ev.bind en (Ev.pos (by first | decide | simp) (Ev.pos (by decide) (Ev.ret rfl)))))))))))))
        · exact fin nx (.inl ⟨c7, en, hn.1, hn.2⟩)
      · exact fin (-1) (.inr ⟨c7, rfl⟩)
    · refine ⟨[], [], [], [], false, ?_, fun h => (by cases h)⟩
      unfold spec_l4signal.f
      refine Ev.bind (words_ev l hl) ?_
      rw [List.length_map]
      refine Ev.neg (by omega) (Ev.pos (by omega) ?_)
      rw [show rdOf ByteArray.empty ((words [] l).map B) 2 = B ((words [] l).getD 2 []) from rdOf_map _ 2, B_size]
      exact no _ (by rw [bne_iff_ne]; omega)
end Go.Proofs.Ytpdcghclcgbcfab.LinkX
