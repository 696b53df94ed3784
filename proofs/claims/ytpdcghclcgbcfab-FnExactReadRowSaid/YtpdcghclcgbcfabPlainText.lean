/- Plain words for the text of a row: strings as lists of bytes, decimal numbers, a line as it is written, its words, its cuts. No program and no memory in it. Conditions: those of each statement. -/
import Derived.Test.YtpdcghclcgbcfabPlain
import Derived.Lib.IndexMore
import Derived.Lib.IndexLaws
import Derived.Lib.Strings
namespace Go.Proofs.Ytpdcghclcgbcfab.Plain
open Go.RowKit Go.Proofs.YtpdcghclcgbcfabW.PrintWords Go.Proofs.YtpdcghclcgbcfabW.PrintMore
set_option linter.unusedVariables false
set_option linter.unusedSimpArgs false

/-! ### strings as lists of bytes -/
def B (l : List UInt8) : ByteArray := ⟨l.toArray⟩
theorem B_of (s : ByteArray) : B s.data.toList = s := Lib.mk_data s
theorem B_data (l : List UInt8) : (B l).data.toList = l := rfl
theorem B_size (l : List UInt8) : (B l).size = l.length := by rw [Lib.size_eq]; rfl
theorem B_toList (l : List UInt8) : (B l).toList = l := by rw [Lib.toList_data]; rfl
theorem B_inj {a b : List UInt8} (h : B a = B b) : a = b := by rw [← B_data a, h, B_data]
theorem data_append (a b : ByteArray) : (a ++ b).data.toList = a.data.toList ++ b.data.toList := by simp
theorem B_append (a b : List UInt8) : B a ++ B b = B (a ++ b) := by rw [← B_of (B a ++ B b), data_append, B_data, B_data]
theorem B_extract (l : List UInt8) (i j : Nat) : (B l).extract i j = B ((l.drop i).take (j - i)) := by rw [Lib.extract_eq, B_data]; rfl
theorem bt_B {l : List UInt8} {i : Nat} (h : i < l.length) : bt (B l) (i : Int) = ((l.getD i 0).toNat : Int) := by
  unfold bt
  have h1 : (i : Int).toNat < (B l).size := by rw [B_size]; omega
  rw [dif_pos h1]
  have e : (B l)[(i : Int).toNat]'h1 = l.getD i 0 := by
    show (l.toArray)[(i : Int).toNat]'_ = _
    simp [List.getD_eq_getElem?_getD, h]
  rw [e]
theorem str_one (x : UInt8) : strOfNums [(x.toNat : Int)] = B [x] := by
  unfold strOfNums B
  simp

/-! ### numbers in decimal -/
def digit (c : UInt8) : Prop := 48 ≤ c.toNat ∧ c.toNat ≤ 57
instance (c : UInt8) : Decidable (digit c) := by unfold digit; infer_instance
def val : Nat → List UInt8 → Nat
  | n, [] => n
  | n, c :: t => val (10 * n + (c.toNat - 48)) t
def chr (n : Nat) : UInt8 := UInt8.ofNat (48 + n % 10)
theorem chr_nat (n : Nat) : (chr n).toNat = 48 + n % 10 := by
  unfold chr
  rw [UInt8.toNat_ofNat']
  have := Nat.mod_lt n (show 0 < 10 by omega)
  omega
theorem chr_digit (n : Nat) : digit (chr n) := by
  unfold digit; rw [chr_nat]
  have := Nat.mod_lt n (show 0 < 10 by omega)
  omega
/-- n's digits, none for 0: at most so many. -/
def digs : Nat → Nat → List UInt8
  | 0, _ => []
  | f + 1, n => if n = 0 then [] else digs f (n / 10) ++ [chr n]
def dec (n : Nat) : List UInt8 := if n = 0 then [48] else digs 8 n
theorem val_append : ∀ (a b : List UInt8) (n : Nat), val n (a ++ b) = val (val n a) b
  | [], b, n => rfl
  | c :: t, b, n => by show val _ (t ++ b) = _; rw [val_append t b]; rfl
theorem digs_all : ∀ (f n : Nat), ∀ c ∈ digs f n, digit c
  | 0, n => by intro c hc; cases hc
  | f + 1, n => by
    intro c hc
    unfold digs at hc
    split at hc
    · cases hc
    · rcases List.mem_append.1 hc with h | h
      · exact digs_all f _ c h
      · rw [List.mem_singleton.1 h]; exact chr_digit n
theorem digs_len : ∀ (f n : Nat), (digs f n).length ≤ f
  | 0, n => Nat.le_refl _
  | f + 1, n => by
    unfold digs; split
    · simp
    · have := digs_len f (n / 10)
      simp; omega
theorem digs_val : ∀ (f n : Nat), n < 10 ^ f → val 0 (digs f n) = n
  | 0, n, h => by
    have : n = 0 := by simpa using h
    subst this; rfl
  | f + 1, n, h => by
    unfold digs; split
    · rename_i h0; subst h0; rfl
    · rw [val_append, digs_val f (n / 10) (by rw [Nat.pow_succ] at h; omega)]
      show 10 * (n / 10) + ((chr n).toNat - 48) = n
      rw [chr_nat]; omega
theorem digs_head : ∀ (f n : Nat), n < 10 ^ f → n ≠ 0 → ∃ c t, digs f n = c :: t ∧ c ≠ 48
  | 0, n, h, h0 => by exact absurd (by simpa using h) h0
  | f + 1, n, h, h0 => by
    unfold digs; rw [if_neg h0]
    by_cases c0 : n / 10 = 0
    · refine ⟨chr n, [], ?_, ?_⟩
      · rw [c0]; cases f <;> simp [digs]
      · intro e
        have := chr_nat n
        rw [e] at this
        have h2 : (48 : UInt8).toNat = 48 := rfl
        omega
    · obtain ⟨c, t, e, hc⟩ := digs_head f (n / 10) (by rw [Nat.pow_succ] at h; omega) c0
      exact ⟨c, t ++ [chr n], by rw [e]; rfl, hc⟩
theorem dec_all (n : Nat) : ∀ c ∈ dec n, digit c := by
  unfold dec; split
  · intro c hc; rw [List.mem_singleton.1 hc]; decide
  · exact digs_all _ _
theorem dec_len (n : Nat) : (dec n).length ≤ 8 := by
  unfold dec; split
  · simp
  · exact digs_len _ _
theorem dec_pos {n : Nat} (h : n < 100000000) : 1 ≤ (dec n).length := by
  unfold dec; split
  · simp
  · rename_i h0
    obtain ⟨c, t, e, _⟩ := digs_head 8 n (by omega) h0
    rw [e]; simp
theorem dec_val {n : Nat} (h : n < 100000000) : val 0 (dec n) = n := by
  unfold dec; split
  · rename_i h0; subst h0; rfl
  · exact digs_val 8 n (by omega)
/-- No nought stands first, but for 0 itself. -/
def plainNum (l : List UInt8) : Prop := 1 ≤ l.length ∧ l.length ≤ 8 ∧ (1 < l.length → l.getD 0 0 ≠ 48) ∧ ∀ c ∈ l, digit c
theorem dec_plain {n : Nat} (h : n < 100000000) : plainNum (dec n) := by
  refine ⟨dec_pos h, dec_len n, fun h1 => ?_, dec_all n⟩
  unfold dec at h1 ⊢
  split at h1
  · simp at h1
  · rename_i h0
    rw [if_neg h0]
    obtain ⟨c, t, e, hc⟩ := digs_head 8 n (by omega) h0
    rw [e]; exact hc
theorem val_bound : ∀ (l : List UInt8) (n : Nat), (∀ c ∈ l, digit c) → val n l < (n + 1) * 10 ^ l.length
  | [], n, _ => by
    rw [List.length_nil, Nat.pow_zero, Nat.mul_one]
    exact Nat.lt_succ_self n
  | c :: t, n, h => by
    have hc := h c (by simp)
    have ih := val_bound t (10 * n + (c.toNat - 48)) (fun x hx => h x (by simp [hx]))
    unfold digit at hc
    show val _ t < _
    refine Nat.lt_of_lt_of_le ih ?_
    rw [List.length_cons, Nat.pow_succ, show (n + 1) * (10 ^ t.length * 10) = (10 * (n + 1)) * 10 ^ t.length by rw [Nat.mul_comm (10 ^ t.length) 10, ← Nat.mul_assoc, Nat.mul_comm (n + 1) 10]]
    exact Nat.mul_le_mul_right _ (by omega)
theorem pow_small {n : Nat} (h : n ≤ 8) : 10 ^ n ≤ 100000000 := Nat.le_trans (Nat.pow_le_pow_right (by omega) h) (by decide)
theorem val_small {l : List UInt8} (h : ∀ c ∈ l, digit c) (hl : l.length ≤ 8) : val 0 l < 100000000 := by
  have := val_bound l 0 h
  have := pow_small hl
  omega
theorem chr_of {c : UInt8} (h : digit c) (n : Nat) : chr (10 * n + (c.toNat - 48)) = c := by
  unfold digit at h
  apply UInt8.toNat_inj.1
  rw [chr_nat]; omega
/-- the digits of what has been read, one more at a time -/
theorem digs_more {f n : Nat} {c : UInt8} (h : digit c) (hp : n ≠ 0 ∨ c ≠ 48) : digs (f + 1) (10 * n + (c.toNat - 48)) = digs f n ++ [c] := by
  have h' := h
  unfold digit at h'
  have ne : ¬ (10 * n + (c.toNat - 48) = 0) := by
    intro e
    rcases hp with hp | hp
    · omega
    · exact hp (UInt8.toNat_inj.1 (by show c.toNat = 48; omega))
  show (if _ then _ else _) = _
  rw [if_neg ne, chr_of h, show (10 * n + (c.toNat - 48)) / 10 = n by omega]
theorem digs_read : ∀ (l : List UInt8) (f n : Nat), (∀ c ∈ l, digit c) → n ≠ 0 → digs (f + l.length) (val n l) = digs f n ++ l
  | [], f, n, _, _ => by
    show digs (f + 0) n = digs f n ++ []
    rw [Nat.add_zero, List.append_nil]
  | c :: t, f, n, h, h0 => by
    have hc := h c (by simp)
    show digs (f + (t.length + 1)) (val (10 * n + (c.toNat - 48)) t) = _
    rw [show f + (t.length + 1) = (f + 1) + t.length by omega, digs_read t (f + 1) _ (fun x hx => h x (by simp [hx])) (by omega), digs_more hc (.inl h0)]
    simp
theorem digs_enough : ∀ (f n : Nat), n < 10 ^ f → digs (f + 1) n = digs f n
  | 0, n, h => by
    have : n = 0 := by simpa using h
    subst this; rfl
  | f + 1, n, h => by
    show (if _ then _ else _) = (if _ then _ else _)
    by_cases c : n = 0
    · rw [if_pos c, if_pos c]
    · rw [if_neg c, if_neg c, digs_enough f (n / 10) (by rw [Nat.pow_succ] at h; omega)]
theorem digs_up {f n : Nat} (h : n < 10 ^ f) : ∀ d, digs (f + d) n = digs f n
  | 0 => rfl
  | d + 1 => by
    have h2 : n < 10 ^ (f + d) := Nat.lt_of_lt_of_le h (Nat.pow_le_pow_right (by omega) (by omega))
    show digs ((f + d) + 1) n = _
    rw [digs_enough _ _ h2, digs_up h d]
theorem dec_of {l : List UInt8} (h : plainNum l) : dec (val 0 l) = l := by
  obtain ⟨h1, h8, hz, hd⟩ := h
  cases l with
  | nil => simp at h1
  | cons c t =>
    have hc := hd c (by simp)
    have ht : ∀ x ∈ t, digit x := fun x hx => hd x (by simp [hx])
    by_cases c0 : c = 48
    · have : t = [] := by
        cases t with
        | nil => rfl
        | cons x y => exact absurd c0 (hz (by simp))
      subst this; subst c0; rfl
    · have hc' := hc
      unfold digit at hc'
      have n0 : ¬ (10 * 0 + (c.toNat - 48) = 0) := by
        intro e
        exact c0 (UInt8.toNat_inj.1 (by show c.toNat = 48; omega))
      show dec (val (10 * 0 + (c.toNat - 48)) t) = _
      have e1 := digs_read t 1 (10 * 0 + (c.toNat - 48)) ht n0
      have e2 := digs_more (f := 0) (n := 0) hc (.inr c0)
      rw [e2] at e1
      have hb : val (10 * 0 + (c.toNat - 48)) t < 10 ^ (1 + t.length) := by
        have := val_bound (c :: t) 0 hd
        rw [List.length_cons, Nat.zero_add, Nat.one_mul] at this
        rw [Nat.add_comm 1 t.length]
        exact this
      have pos : val (10 * 0 + (c.toNat - 48)) t ≠ 0 := by
        intro e
        rw [e] at e1
        have : digs (1 + t.length) 0 = [] := by rw [Nat.add_comm]; rfl
        rw [this] at e1
        simp at e1
      unfold dec
      rw [if_neg pos, show (8 : Nat) = (1 + t.length) + (7 - t.length) by simp only [List.length_cons] at h8; omega, digs_up hb, e1]
      rfl
end Go.Proofs.Ytpdcghclcgbcfab.Plain
