/- What the small functions on texts come to: a number of at most eight digits, a number written, the words of a line, a front cut away. Conditions: lengths that are told. -/
import Derived.Test.YtpdcghclcgbcfabXx15
import Derived.Test.YtpdcghclcgbcfabXx3
import Derived.Test.YtpdcghclcgbcfabXx4
import Derived.Test.YtpdcghclcgbcfabXx2
import Derived.Test.YtpdcghclcgbcfabXx14
import Derived.Test.YtpdcghclcgbcfabXCut
import Derived.Test.YtpdcghclcgbcfabPlainLine
namespace Go.Proofs.Ytpdcghclcgbcfab.LinkX
open Go.RowKit Go.Proofs.Ytpdcghclcgbcfab.X Go.Proofs.Ytpdcghclcgbcfab.Plain Go.Proofs.YtpdcghclcgbcfabW.PrintWords Go.Proofs.YtpdcghclcgbcfabW.PrintLast Go.Proofs.YtpdcghclcgbcfabW.PrintMore
set_option linter.unusedVariables false
set_option linter.unusedSimpArgs false
theorem drop_one {l : List UInt8} {i : Nat} (h : i < l.length) : l.drop i = l.getD i 0 :: l.drop (i + 1) := by
  rw [List.drop_eq_getElem_cons h, List.getD_eq_getElem?_getD, List.getElem?_eq_getElem h]
  rfl
theorem step_val {n : Nat} {c : UInt8} (h : digit c) (hn : n < 1000000000) : wrap64 ((wrap64 (10 * (n : Int))) + ((((c.toNat : Nat) : Int) - 48) % 256)) = ((10 * n + (c.toNat - 48) : Nat) : Int) := by
  unfold digit at h
  rw [w64 (x := 10 * (n : Int)) (by omega) (by omega), w64 (by omega) (by omega)]
  omega
theorem pow_step {n i : Nat} {c : UInt8} (h : digit c) (hn : n < 10 ^ i) : 10 * n + (c.toNat - 48) < 10 ^ (i + 1) := by
  unfold digit at h
  rw [Nat.pow_succ]; omega
theorem number_l0 (l : List UInt8) (hl : l.length ≤ 8) : ∀ d i n : Nat, i + d = l.length → n < 10 ^ i →
    ∃ r b, Ev (fun k => impl_number.l0 k (B l) n l.length i) (r, b) ∧ (b = true → ∀ c ∈ l.drop i, digit c) ∧ ((∀ c ∈ l.drop i, digit c) → r = (val n (l.drop i) : Nat) ∧ b = true)
  | 0, i, n, hi, hn => by
    have e : l.drop i = [] := List.drop_eq_nil_of_le (by omega)
    refine ⟨n, true, ?_, fun _ => (by rw [e]; intro c hc; cases hc), fun _ => ⟨by rw [e]; rfl, rfl⟩⟩
    apply Ev.succ; simp only [impl_number.l0]
    exact Ev.neg (by omega) (Ev.ret rfl)
  | d + 1, i, n, hi, hn => by
    have hlt : i < l.length := by omega
    have hp := pow_small (show i ≤ 8 by omega)
    have ed := drop_one hlt
    have key : ∀ g : Nat → Option (Int × Bool), (∃ r b, Ev g (r, b) ∧ (b = true → ∀ c ∈ l.drop i, digit c) ∧ ((∀ c ∈ l.drop i, digit c) → r = (val n (l.drop i) : Nat) ∧ b = true)) → (∀ k, impl_number.l0 (k + 1) (B l) n l.length i = g k) → ∃ r b, Ev (fun k => impl_number.l0 k (B l) n l.length i) (r, b) ∧ (b = true → ∀ c ∈ l.drop i, digit c) ∧ ((∀ c ∈ l.drop i, digit c) → r = (val n (l.drop i) : Nat) ∧ b = true) := by
      rintro g ⟨r, b, h1, h2⟩ hg
      exact ⟨r, b, Ev.step hg h1, h2⟩
    have start : ∀ k, impl_number.l0 (k + 1) (B l) n l.length i = (if ((l.getD i 0).toNat : Int) < 48 then some (0, false) else if ((l.getD i 0).toNat : Int) > 57 then some (0, false) else impl_number.l0 k (B l) (wrap64 ((wrap64 (10 * (n : Int))) + ((((l.getD i 0).toNat : Int) - 48) % 256))) l.length (wrap64 ((i : Int) + 1))) := by
      intro k
      simp only [impl_number.l0]
      rw [if_pos (by omega), if_pos (by omega), if_pos (by rw [B_size]; omega), bt_B hlt]
    by_cases c1 : ((l.getD i 0).toNat : Int) < 48
    · refine key (fun _ => some (0, false)) ⟨0, false, Ev.now _, fun h => (by cases h), fun h => ?_⟩ (fun k => by rw [start, if_pos c1])
      have := h (l.getD i 0) (by rw [ed]; simp)
      unfold digit at this; omega
    · by_cases c2 : ((l.getD i 0).toNat : Int) > 57
      · refine key (fun _ => some (0, false)) ⟨0, false, Ev.now _, fun h => (by cases h), fun h => ?_⟩ (fun k => by rw [start, if_neg c1, if_pos c2])
        have := h (l.getD i 0) (by rw [ed]; simp)
        unfold digit at this; omega
      · have hd : digit (l.getD i 0) := by unfold digit; omega
        obtain ⟨r, b, h1, h2, h3⟩ := number_l0 l hl d (i + 1) (10 * n + ((l.getD i 0).toNat - 48)) (by omega) (pow_step hd hn)
        refine key _ ⟨r, b, h1, fun hb => ?_, fun h => ?_⟩ (fun k => by rw [start, if_neg c1, if_neg c2, step_val hd (by omega), w64 (by omega) (by omega)]; rfl)
        · rw [ed]
          intro c hc
          rcases List.mem_cons.1 hc with hc | hc
          · rw [hc]; exact hd
          · exact h2 hb c hc
        · rw [ed] at h ⊢
          exact h3 (fun c hc => h c (by simp [hc]))
theorem number_total (l : List UInt8) : ∃ r b, Ev (fun k => impl_number.f k (B l)) (r, b) ∧ (b = true → ∃ n : Nat, n < 100000000 ∧ l = dec n ∧ r = n) ∧ (plainNum l → r = (val 0 l : Nat) ∧ b = true) := by
  have off : Ev (fun k => impl_number.j0 k (B l) true) (0, false) := by
    apply Ev.succ; simp only [impl_number.j0]
    exact Ev.pos trivial (Ev.ret rfl)
  by_cases c1 : l.length < 1
  · refine ⟨0, false, ?_, fun h => (by cases h), fun h => absurd h.1 (by omega)⟩
    unfold impl_number.f
    exact Ev.pos (by rw [B_size]; omega) off
  · by_cases c2 : l.length > 8
    · refine ⟨0, false, ?_, fun h => (by cases h), fun h => absurd h.2.1 (by omega)⟩
      unfold impl_number.f
      exact Ev.neg (by rw [B_size]; omega) (Ev.pos (by rw [B_size]; omega) off)
    · have on : ∃ r b, Ev (fun k => impl_number.j0 k (B l) false) (r, b) ∧ (b = true → ∀ c ∈ l, digit c) ∧ ((∀ c ∈ l, digit c) → r = (val 0 l : Nat) ∧ b = true) := by
        obtain ⟨r, b, h1, h2⟩ := number_l0 l (by omega) l.length 0 0 (by omega) (by decide)
        refine ⟨r, b, ?_, by simpa using h2⟩
        apply Ev.succ; simp only [impl_number.j0]
        refine Ev.neg (by simp) ?_
        rw [B_size]; exact h1
      by_cases c3 : l.length > 1
      · by_cases c4 : l.getD 0 0 = 48
        · refine ⟨0, false, ?_, fun h => (by cases h), fun h => absurd c4 (h.2.2.1 c3)⟩
          unfold impl_number.f
          refine Ev.neg (by rw [B_size]; omega) (Ev.neg (by rw [B_size]; omega) (Ev.pos (by rw [B_size]; omega) (Ev.pos (by rw [B_size]; omega) ?_)))
          rw [show bt (B l) 0 = ((l.getD 0 0).toNat : Int) from bt_B (i := 0) (by omega), c4]
          exact off
        · obtain ⟨r, b, h1, h2, h3⟩ := on
          refine ⟨r, b, ?_, fun hb => ?_, fun h => h3 h.2.2.2⟩
          · unfold impl_number.f
            refine Ev.neg (by rw [B_size]; omega) (Ev.neg (by rw [B_size]; omega) (Ev.pos (by rw [B_size]; omega) (Ev.pos (by rw [B_size]; omega) ?_)))
            rw [show bt (B l) 0 = ((l.getD 0 0).toNat : Int) from bt_B (i := 0) (by omega), show (((l.getD 0 0).toNat : Int) == 48) = false from beq_eq_false_iff_ne.2 (fun e => c4 (UInt8.toNat_inj.1 (by show (l.getD 0 0).toNat = 48; omega)))]
            exact h1
          · have pn : plainNum l := ⟨by omega, by omega, fun _ => c4, h2 hb⟩
            exact ⟨val 0 l, val_small (h2 hb) (by omega), (dec_of pn).symm, (h3 (h2 hb)).1⟩
      · obtain ⟨r, b, h1, h2, h3⟩ := on
        refine ⟨r, b, ?_, fun hb => ?_, fun h => h3 h.2.2.2⟩
        · unfold impl_number.f
          exact Ev.neg (by rw [B_size]; omega) (Ev.neg (by rw [B_size]; omega) (Ev.neg (by rw [B_size]; omega) h1))
        · have pn : plainNum l := ⟨by omega, by omega, fun h => absurd h c3, h2 hb⟩
          exact ⟨val 0 l, val_small (h2 hb) (by omega), (dec_of pn).symm, (h3 (h2 hb)).1⟩
theorem number_dec {n : Nat} (h : n < 100000000) : Ev (fun k => impl_number.f k (B (dec n))) ((n : Int), true) := by
  obtain ⟨r, b, h1, _, h3⟩ := number_total (dec n)
  obtain ⟨rfl, rfl⟩ := h3 (dec_plain h)
  rw [dec_val h] at h1
  exact h1
theorem num_l0 (l : List UInt8) (hl : l.length ≤ 10000) : ∀ d i n : Nat, i + d = l.length → i ≤ 8 → n < 10 ^ i →
    ∃ r : Int, Ev (fun k => spec_l4num.l0 k (B l) n i) r ∧ (r = -1 ∨ 0 ≤ r ∧ r < 100000000) ∧ (1 ≤ l.length → l.length ≤ 8 → (∀ c ∈ l.drop i, digit c) → r = (val n (l.drop i) : Nat))
  | 0, i, n, hi, h8, hn => by
    have hp := pow_small h8
    have e : l.drop i = [] := List.drop_eq_nil_of_le (by omega)
    by_cases c0 : l.length = 0
    · refine ⟨-1, ?_, .inl rfl, fun h => absurd h (by omega)⟩
      apply Ev.succ; simp only [spec_l4num.l0]
      exact Ev.neg (by rw [B_size]; omega) (Ev.pos (by rw [B_size]; omega) (Ev.ret rfl))
    · refine ⟨n, ?_, .inr (by omega), fun _ _ _ => by rw [e]; rfl⟩
      apply Ev.succ; simp only [spec_l4num.l0]
      exact Ev.neg (by rw [B_size]; omega) (Ev.neg (by rw [B_size]; omega) (Ev.ret rfl))
  | d + 1, i, n, hi, h8, hn => by
    have hlt : i < l.length := by omega
    have hp := pow_small h8
    have ed := drop_one hlt
    have start : ∀ k, spec_l4num.l0 (k + 1) (B l) n i = (if ((l.getD i 0).toNat : Int) < 48 then some (-1) else if ((l.getD i 0).toNat : Int) > 57 then some (-1) else if (i : Int) = 8 then some (-1) else spec_l4num.l0 k (B l) (wrap64 ((wrap64 (10 * (n : Int))) + ((((l.getD i 0).toNat : Int) - 48) % 256))) (wrap64 ((i : Int) + 1))) := by
      intro k
      simp only [spec_l4num.l0]
      rw [if_pos (by rw [B_size]; omega), if_pos (by omega), bt_B hlt]
    by_cases c1 : ((l.getD i 0).toNat : Int) < 48
    · refine ⟨-1, Ev.step (f := fun _ => some (-1)) (fun k => by rw [start, if_pos c1]) (Ev.now _), .inl rfl, fun _ _ h => ?_⟩
      have := h (l.getD i 0) (by rw [ed]; simp)
      unfold digit at this; omega
    · by_cases c2 : ((l.getD i 0).toNat : Int) > 57
      · refine ⟨-1, Ev.step (f := fun _ => some (-1)) (fun k => by rw [start, if_neg c1, if_pos c2]) (Ev.now _), .inl rfl, fun _ _ h => ?_⟩
        have := h (l.getD i 0) (by rw [ed]; simp)
        unfold digit at this; omega
      · by_cases c3 : i = 8
        · refine ⟨-1, Ev.step (f := fun _ => some (-1)) (fun k => by rw [start, if_neg c1, if_neg c2, if_pos (by omega)]) (Ev.now _), .inl rfl, fun _ h _ => ?_⟩
          omega
        · have hd : digit (l.getD i 0) := by unfold digit; omega
          obtain ⟨r, h1, h2, h3⟩ := num_l0 l hl d (i + 1) (10 * n + ((l.getD i 0).toNat - 48)) (by omega) (by omega) (pow_step hd hn)
          refine ⟨r, Ev.step (fun k => by rw [start, if_neg c1, if_neg c2, if_neg (by omega), step_val hd (by omega), w64 (by omega) (by omega)]; rfl) h1, h2, fun g1 g2 h => ?_⟩
          rw [ed] at h ⊢
          exact h3 g1 g2 (fun c hc => h c (by simp [hc]))
theorem num_total (l : List UInt8) (hl : l.length ≤ 10000) : ∃ r : Int, Ev (fun k => spec_l4num.f k (B l)) r ∧ (r = -1 ∨ 0 ≤ r ∧ r < 100000000) := by
  obtain ⟨r, h1, h2, _⟩ := num_l0 l hl l.length 0 0 (by omega) (by omega) (by decide)
  exact ⟨r, by unfold spec_l4num.f; exact h1, h2⟩
theorem num_dec {n : Nat} (h : n < 100000000) : Ev (fun k => spec_l4num.f k (B (dec n))) (n : Int) := by
  have h8 := dec_len n
  obtain ⟨r, h1, _, h3⟩ := num_l0 (dec n) (by omega) (dec n).length 0 0 (by omega) (by omega) (by decide)
  have := h3 (dec_pos h) h8 (by simpa using dec_all n)
  rw [List.drop_zero, dec_val h] at this
  subst this
  unfold spec_l4num.f; exact h1

/-! ### written numbers -/
theorem str_chr (n : Nat) : strOfNums [(wrap64 (48 + (Int.tmod (n : Int) 10))) % 256] = B [chr n] := by
  have e : (wrap64 (48 + (Int.tmod (n : Int) 10))) % 256 = ((chr n).toNat : Int) := by
    rw [chr_nat]
    have h1 : Int.tmod (n : Int) 10 = ((n % 10 : Nat) : Int) := by rw [Int.tmod_eq_emod_of_nonneg (by omega)]; omega
    rw [h1, w64 (by omega) (by omega)]
    omega
  rw [e]; exact str_one _
theorem decimal_l0 : ∀ (f n : Nat) (t : List UInt8), n < 10 ^ f → f ≤ 8 → t.length + f ≤ 100 → Ev (fun k => spec_l4decimal.l0 k n (B t)) (B (digs f n ++ t))
  | 0, n, t, h, hf, ht => by
    have : n = 0 := by simpa using h
    subst this
    apply Ev.succ; simp only [spec_l4decimal.l0]
    exact Ev.neg (by decide) (Ev.ret rfl)
  | f + 1, n, t, h, hf, ht => by
    by_cases c : n = 0
    · subst c
      apply Ev.succ; simp only [spec_l4decimal.l0]
      exact Ev.neg (by decide) (Ev.ret rfl)
    · apply Ev.succ; simp only [spec_l4decimal.l0]
      refine Ev.pos (by omega) (Ev.bindc rfl ?_)
      have hp : n < 1000000000 := by
        have := pow_small hf
        omega
      rw [str_chr, B_append]
      refine Ev.pos (by rw [B_size, B_size]; simp only [List.length_cons, List.length_nil]; omega) ?_
      have e : wrap64 (Int.tdiv (n : Int) 10) = ((n / 10 : Nat) : Int) := by
        rw [Int.tdiv_eq_ediv_of_nonneg (by omega), w64 (by omega) (by omega)]; omega
      rw [e]
      refine Ev.to (decimal_l0 f (n / 10) ([chr n] ++ t) (by rw [Nat.pow_succ] at h; omega) (by omega) ?_) ?_
      · simp only [List.length_append, List.length_cons, List.length_nil]; omega
      · show _ = B ((if _ then _ else _) ++ t)
        rw [if_neg c]; simp
theorem decimal_ev {n : Nat} (h : n < 100000000) : Ev (fun k => spec_l4decimal.f k (n : Int)) (B (dec n)) := by
  unfold spec_l4decimal.f dec
  by_cases c : n = 0
  · subst c
    exact Ev.pos rfl (Ev.ret rfl)
  · rw [if_neg c]
    refine Ev.neg (by omega) (Ev.to (decimal_l0 8 n [] (by omega) (by omega) (by decide)) ?_)
    rw [List.append_nil]

/-! ### words -/
theorem words_l0 (l : List UInt8) (hl : l.length ≤ 10000) : ∀ (d i : Nat) (ws : List (List UInt8)) (cur : List UInt8), i + d = l.length → ws.length ≤ i → cur.length ≤ i →
    Ev (fun k => spec_l4words.l0 k (B l) (ws.map B) (B cur) i) ((ws ++ words cur (l.drop i)).map B)
  | 0, i, ws, cur, hi, hw, hc => by
    have e : l.drop i = [] := List.drop_eq_nil_of_le (by omega)
    rw [e]
    apply Ev.succ; simp only [spec_l4words.l0]
    refine Ev.pos (by rw [B_size]; omega) (Ev.pos (by rw [B_size]; omega) (Ev.pos (by rw [List.length_map]; omega) ?_))
    rw [w64 (by omega) (by omega)]
    apply Ev.succ; simp only [spec_l4words.l0]
    refine Ev.neg (by rw [B_size]; omega) (Ev.ret ?_)
    show _ = (ws ++ [cur]).map B
    rw [List.map_append]; rfl
  | d + 1, i, ws, cur, hi, hw, hc => by
    have hlt : i < l.length := by omega
    rw [drop_one hlt]
    apply Ev.succ; simp only [spec_l4words.l0]
    refine Ev.pos (by rw [B_size]; omega) (Ev.neg (by rw [B_size]; omega) (Ev.pos (by omega) (Ev.pos (by rw [B_size]; omega) ?_)))
    rw [bt_B hlt, w64 (x := (i : Int) + 1) (by omega) (by omega)]
    show Ev _ ((ws ++ (if l.getD i 0 = 32 then cur :: words [] (l.drop (i + 1)) else words (cur ++ [l.getD i 0]) (l.drop (i + 1)))).map B)
    by_cases c : l.getD i 0 = 32
    · rw [if_pos c, c]
      refine Ev.pos rfl (Ev.pos (by rw [List.length_map]; omega) ?_)
      refine Ev.to (show Ev _ _ from ?_) rfl
      have h := words_l0 l hl d (i + 1) (ws ++ [cur]) [] (by omega) (by rw [List.length_append]; simp only [List.length_cons, List.length_nil]; omega) (by simp)
      rw [List.map_append, List.append_assoc] at h
      exact h
    · rw [if_neg c]
      refine Ev.neg (fun e => c (UInt8.toNat_inj.1 (by show (l.getD i 0).toNat = 32; omega))) (Ev.bindc rfl ?_)
      rw [str_one]
      refine Ev.pos (by rw [B_size, B_size]; simp only [List.length_cons, List.length_nil]; omega) ?_
      rw [B_append]
      exact words_l0 l hl d (i + 1) ws (cur ++ [l.getD i 0]) (by omega) (by omega) (by rw [List.length_append]; simp only [List.length_cons, List.length_nil]; omega)
theorem words_ev (l : List UInt8) (hl : l.length ≤ 10000) : Ev (fun k => spec_l4words.f k (B l)) ((words [] l).map B) := by
  unfold spec_l4words.f
  exact words_l0 l hl l.length 0 [] [] (by omega) (by simp) (by simp)

/-! ### a front, and a cut -/
theorem cutp (l p : List UInt8) : strings_CutPrefix.f (B l) (B p) = some (if p.isPrefixOf l = true then (B (l.drop p.length), true) else (B l, false)) := by
  unfold strings_CutPrefix.f stringslite_CutPrefix.f stringslite_HasPrefix.f
  rw [B_size, B_size]
  by_cases c : p.length ≤ l.length
  · rw [if_pos (by omega), if_pos (by omega), if_pos (by omega), B_extract, B_toList, B_toList, Int.toNat_natCast, List.drop_zero, Nat.sub_zero]
    have e : (l.take p.length == p) = p.isPrefixOf l := by
      have h := Lib.hasPrefix_of_take l p
      rw [decide_eq_true c, Bool.true_and] at h
      exact h
    rw [e]
    simp only [Option.bind_some]
    by_cases c2 : p.isPrefixOf l = true
    · rw [if_pos c2, if_pos c2, if_pos (by omega), if_pos (by omega), B_extract]
      simp only [Option.bind_some, Int.toNat_natCast]
      rw [List.take_of_length_le (by rw [List.length_drop]; exact Nat.le_refl _)]
    · rw [if_neg c2, if_neg c2]
      rfl
  · have np : ¬ (p.isPrefixOf l = true) := by
      intro h
      rw [List.isPrefixOf_iff_prefix] at h
      have := h.length_le
      omega
    rw [if_neg (show ¬ ((l.length : Int) ≥ (p.length : Int)) by omega), if_neg np]
    rfl
theorem cutp_yes (p t : List UInt8) : strings_CutPrefix.f (B (p ++ t)) (B p) = some (B t, true) := by
  rw [cutp, if_pos (pre_append p t), List.drop_left]
theorem cutp_split (l p : List UInt8) : (∃ t, l = p ++ t ∧ strings_CutPrefix.f (B l) (B p) = some (B t, true)) ∨ ((∀ t, l ≠ p ++ t) ∧ strings_CutPrefix.f (B l) (B p) = some (B l, false)) := by
  by_cases c : p.isPrefixOf l = true
  · have h := c
    rw [List.isPrefixOf_iff_prefix] at h
    obtain ⟨t, rfl⟩ := h
    exact .inl ⟨t, rfl, cutp_yes p t⟩
  · refine .inr ⟨fun t e => c (by rw [e]; exact pre_append p t), ?_⟩
    rw [cutp, if_neg c]
theorem cut_f (l sep : List UInt8) (hl : l.length ≤ 10000) : strings_Cut.f (B l) (B sep) = some (B (Lib.cut l sep).1, B (Lib.cut l sep).2.1, (Lib.cut l sep).2.2) := by
  unfold strings_Cut.f
  rw [if_pos (by rw [B_size]; omega)]
  rfl
end Go.Proofs.Ytpdcghclcgbcfab.LinkX
