/- Plain words for a line of a row's text: how it is written, its words between blanks, where it is cut. No program and no memory in it. Conditions: those of each statement. -/
import Derived.Test.YtpdcghclcgbcfabPlainText
namespace Go.Proofs.Ytpdcghclcgbcfab.Plain
open Go.RowKit Go.Proofs.YtpdcghclcgbcfabW.PrintWords Go.Proofs.YtpdcghclcgbcfabW.PrintMore
set_option linter.unusedVariables false
set_option linter.unusedSimpArgs false
abbrev sOpen : List UInt8 := [111, 112, 101, 110]
abbrev sShut : List UInt8 := [115, 104, 117, 116]
abbrev sLamps : List UInt8 := [32, 108, 97, 109, 112, 115, 32]
abbrev sEnd : List UInt8 := [32, 101, 110, 100]
abbrev sNext : List UInt8 := [32, 110, 101, 120, 116, 32]
abbrev sFar : List UInt8 := [32, 102, 97, 114, 32]
def lc (i : Nat) (b : Bool) : UInt8 := if b = true then chr i else 45
def lampsF : Nat → List Bool → List UInt8
  | _, [] => []
  | i, b :: t => lc i b :: lampsF (i + 1) t
def tailF (nx fa : Int) : List UInt8 := ((if 0 ≤ nx then sNext ++ dec nx.toNat else sEnd) ++ sFar) ++ dec fa.toNat
def headF (op : Bool) : List UInt8 := if op = true then sOpen else sShut
def fmt (op : Bool) (w : List Bool) (nx fa : Int) : List UInt8 := ((headF op ++ sLamps) ++ lampsF 0 w) ++ tailF nx fa
structure GoodL (w : List Bool) (nx fa : Int) : Prop where
  w4 : w.length = 4
  n0 : -1 ≤ nx
  n1 : nx < 100000000
  f0 : 0 ≤ fa
  f1 : fa < 100000000
theorem lc_ne (i : Nat) (b : Bool) : lc i b ≠ 32 := by
  intro e
  have h := congrArg UInt8.toNat e
  unfold lc at h
  split at h
  · rw [chr_nat] at h
    have h2 : (32 : UInt8).toNat = 32 := rfl
    omega
  · exact absurd h (by decide)
theorem lampsF_len : ∀ (i : Nat) (w : List Bool), (lampsF i w).length = w.length
  | _, [] => rfl
  | i, b :: t => by show (lampsF (i + 1) t).length + 1 = t.length + 1; rw [lampsF_len (i + 1) t]
theorem lampsF_ne : ∀ (i : Nat) (w : List Bool), ∀ c ∈ lampsF i w, c ≠ 32
  | _, [] => by intro c hc; cases hc
  | i, b :: t => by
    intro c hc
    rcases List.mem_cons.1 hc with h | h
    · rw [h]; exact lc_ne i b
    · exact lampsF_ne (i + 1) t c h
theorem lc_45 (i : Nat) (b : Bool) : ((lc i b).toNat : Int) = 45 ↔ b = false := by
  unfold lc
  cases b
  · simp
  · simp only [if_true, chr_nat]
    constructor
    · intro h; omega
    · intro h; cases h
theorem lampsF_get : ∀ (i : Nat) (w : List Bool) (j : Nat), j < w.length → (lampsF i w).getD j 0 = lc (i + j) (w.getD j false)
  | _, [], j, h => by simp at h
  | i, b :: t, 0, h => rfl
  | i, b :: t, j + 1, h => by
    show (lampsF (i + 1) t).getD j 0 = _
    rw [lampsF_get (i + 1) t j (by simpa using h), show i + 1 + j = i + (j + 1) by omega]
    rfl
theorem dec_ne (n : Nat) : ∀ c ∈ dec n, c ≠ 32 := by
  intro c hc e
  have := dec_all n c hc
  rw [e] at this
  exact absurd this (by decide)

/-! ### words -/
def words : List UInt8 → List UInt8 → List (List UInt8)
  | cur, [] => [cur]
  | cur, c :: t => if c = 32 then cur :: words [] t else words (cur ++ [c]) t
theorem words_blank : ∀ (a cur t : List UInt8), (∀ c ∈ a, c ≠ 32) → words cur (a ++ 32 :: t) = (cur ++ a) :: words [] t
  | [], cur, t, _ => by
    show (if (32 : UInt8) = 32 then _ else _) = _
    rw [if_pos rfl, List.append_nil]
  | c :: a, cur, t, h => by
    show (if c = 32 then _ else _) = _
    rw [if_neg (h c (by simp))]
    show words (cur ++ [c]) (a ++ 32 :: t) = _
    rw [words_blank a (cur ++ [c]) t (fun x hx => h x (by simp [hx]))]
    simp
theorem words_last : ∀ (a cur : List UInt8), (∀ c ∈ a, c ≠ 32) → words cur a = [cur ++ a]
  | [], cur, _ => by show [cur] = _; rw [List.append_nil]
  | c :: a, cur, h => by
    show (if c = 32 then _ else _) = _
    rw [if_neg (h c (by simp)), words_last a (cur ++ [c]) (fun x hx => h x (by simp [hx]))]
    simp
theorem words_len : ∀ (l cur : List UInt8), (words cur l).length ≤ l.length + 1
  | [], cur => Nat.le_refl _
  | c :: t, cur => by
    show (if c = 32 then _ else _ : List (List UInt8)).length ≤ t.length + 1 + 1
    split
    · have := words_len t []
      rw [List.length_cons]; omega
    · have := words_len t (cur ++ [c])
      omega
theorem words_mem : ∀ (l cur : List UInt8), ∀ x ∈ words cur l, x.length ≤ cur.length + l.length
  | [], cur, x, h => by rw [List.mem_singleton.1 h]; omega
  | c :: t, cur, x, h => by
    replace h : x ∈ (if c = 32 then cur :: words [] t else words (cur ++ [c]) t) := h
    rw [List.length_cons]
    split at h
    · rcases List.mem_cons.1 h with h | h
      · rw [h]; omega
      · have := words_mem t [] x h
        rw [List.length_nil] at this; omega
    · have := words_mem t (cur ++ [c]) x h
      rw [List.length_append, List.length_cons, List.length_nil] at this; omega
theorem headF_ne (op : Bool) : ∀ c ∈ headF op, c ≠ 32 := by cases op <;> decide
theorem words_fmt (op : Bool) (w : List Bool) (nx fa : Int) : words [] (fmt op w nx fa) =
    if 0 ≤ nx then [headF op, [108, 97, 109, 112, 115], lampsF 0 w, [110, 101, 120, 116], dec nx.toNat, [102, 97, 114], dec fa.toNat]
    else [headF op, [108, 97, 109, 112, 115], lampsF 0 w, [101, 110, 100], [102, 97, 114], dec fa.toNat] := by
  have e1 : fmt op w nx fa = headF op ++ 32 :: ([108, 97, 109, 112, 115] ++ 32 :: (lampsF 0 w ++ tailF nx fa)) := by
    unfold fmt; simp
  rw [e1, words_blank _ _ _ (headF_ne op), words_blank _ _ _ (by decide)]
  unfold tailF
  split
  · have e2 : lampsF 0 w ++ ((sNext ++ dec nx.toNat ++ sFar) ++ dec fa.toNat) = lampsF 0 w ++ 32 :: ([110, 101, 120, 116] ++ 32 :: (dec nx.toNat ++ 32 :: ([102, 97, 114] ++ 32 :: dec fa.toNat))) := by simp
    rw [e2, words_blank _ _ _ (lampsF_ne 0 w), words_blank _ _ _ (by decide), words_blank _ _ _ (dec_ne _), words_blank _ _ _ (by decide), words_last _ _ (dec_ne _)]
    simp
  · have e2 : lampsF 0 w ++ ((sEnd ++ sFar) ++ dec fa.toNat) = lampsF 0 w ++ 32 :: ([101, 110, 100] ++ 32 :: ([102, 97, 114] ++ 32 :: dec fa.toNat)) := by simp
    rw [e2, words_blank _ _ _ (lampsF_ne 0 w), words_blank _ _ _ (by decide), words_blank _ _ _ (by decide), words_last _ _ (dec_ne _)]
    simp

/-! ### cuts -/
theorem pre_cons_ne {c x : UInt8} {tl l : List UInt8} (h : x ≠ c) : (c :: tl).isPrefixOf (x :: l) = false := by
  simp only [List.isPrefixOf]
  rw [show (c == x) = false from beq_eq_false_iff_ne.2 (fun e => h e.symm)]
  rfl
theorem pre_append (p t : List UInt8) : p.isPrefixOf (p ++ t) = true := by
  rw [List.isPrefixOf_iff_prefix]; exact List.prefix_append p t
theorem cut_hit {c : UInt8} {tl : List UInt8} {a : List UInt8} (b : List UInt8) (h : ∀ x ∈ a, x ≠ c) : Lib.cut (a ++ ((c :: tl) ++ b)) (c :: tl) = (a, b, true) := by
  have hi : Lib.index (a ++ ((c :: tl) ++ b)) (c :: tl) = a.length := by
    refine Lib.index_hit ?_ (by simp) ?_
    · intro j hj
      unfold Lib.occAt
      rw [List.drop_append_of_le_length (by omega), List.drop_eq_getElem_cons hj]
      exact pre_cons_ne (h _ (List.getElem_mem hj))
    · unfold Lib.occAt
      rw [List.drop_left]
      exact pre_append _ _
  unfold Lib.cut
  rw [hi, if_pos (by omega), Int.toNat_natCast, List.take_left, ← List.drop_drop, List.drop_left, List.drop_left]
theorem cut_ok {l sep : List UInt8} (h : (Lib.cut l sep).2.2 = true) : l = (Lib.cut l sep).1 ++ (sep ++ (Lib.cut l sep).2.1) := by
  rcases Lib.index_spec l sep with ⟨h1, _⟩ | ⟨i, h1, h2, h3, _⟩
  · unfold Lib.cut at h
    rw [h1] at h
    simp at h
  · unfold Lib.cut
    rw [h1, if_pos (by omega), Int.toNat_natCast]
    show l = l.take i ++ (sep ++ l.drop (i + sep.length))
    unfold Lib.occAt at h3
    rw [List.isPrefixOf_iff_prefix] at h3
    obtain ⟨t, ht⟩ := h3
    have e : l.drop (i + sep.length) = t := by rw [← List.drop_drop, ← ht, List.drop_left]
    rw [e, ht, List.take_append_drop]
theorem index_none {l : List UInt8} (h : ∀ x ∈ l, x ≠ 10) : Lib.index l [10] = -1 := by
  induction l with
  | nil => rfl
  | cons b l ih =>
    unfold Lib.index
    rw [pre_cons_ne (h b (by simp)), ih (fun x hx => h x (by simp [hx]))]
    rfl
theorem cut_none {l : List UInt8} (h : ∀ x ∈ l, x ≠ 10) : Lib.cut l [10] = (l, [], false) := by
  unfold Lib.cut
  rw [index_none h]
  rfl
theorem nl_split : ∀ l : List UInt8, (∀ x ∈ l, x ≠ 10) ∨ ∃ a b, (∀ x ∈ a, x ≠ 10) ∧ l = a ++ 10 :: b
  | [] => .inl (by intro x hx; cases hx)
  | c :: l => by
    by_cases c0 : c = 10
    · exact .inr ⟨[], l, (by intro x hx; cases hx), (by rw [c0]; rfl)⟩
    · rcases nl_split l with h | ⟨a, b, h, e⟩
      · refine .inl fun x hx => ?_
        rcases List.mem_cons.1 hx with hx | hx
        · rw [hx]; exact c0
        · exact h x hx
      · refine .inr ⟨c :: a, b, fun x hx => ?_, by rw [e]; rfl⟩
        rcases List.mem_cons.1 hx with hx | hx
        · rw [hx]; exact c0
        · exact h x hx
theorem fmt_len (op : Bool) {w : List Bool} {nx fa : Int} (g : GoodL w nx fa) : (fmt op w nx fa).length ≤ 60 := by
  have h1 := dec_len nx.toNat
  have h2 := dec_len fa.toNat
  have h3 : (headF op).length = 4 := by cases op <;> rfl
  unfold fmt tailF
  simp only [List.length_append, lampsF_len, g.w4, h3]
  split <;> simp only [List.length_append, List.length_cons, List.length_nil] <;> omega
end Go.Proofs.Ytpdcghclcgbcfab.Plain
