/- FnLine: n signals one after the other (1 to 20), all open: the last one shows slow, the one ahead near, all others free; ahead of a closed one they show slow, near, free. Conditions: those of the row of the law alone. -/
import Derived.Test.YtlojolldbbooeaaPx2
import Derived.Test.YtlojolldbbooeaaPx7
import Derived.Test.YtlojolldbbooeaaLinkTold
import Derived.Test.YtlojolldbbooeaaLinkLaw
namespace Go.Proofs.Ytlojolldbbooeaa.Pure
open Go.RowKit Go.Proofs.Ytlojolldbbooeaa.P Go.Proofs.Ytlojolldbbooeaa.Plain Go.Proofs.Ytlojolldbbooeaa.Link Go.Proofs.YtlojolldbbooeaaW.PrintWords Go.Proofs.YtlojolldbbooeaaW.PrintLast Go.Proofs.YtlojolldbbooeaaW.PrintMore
set_option linter.unusedVariables false
set_option linter.unusedSimpArgs false
def lineN (n : Nat) : List Int := tab n (fun i => (i : Int) - 1)
def lineF (n : Nat) (f : Int) : List Int := tab n (fun _ => f)
def lineO (n : Nat) : List Bool := tab n (fun _ => true)
def lineW (n : Nat) : List (List Bool) := tab n (fun _ => [true, true, true, true])
theorem made_l0 (n : Nat) (hn : n ≤ 60) (f : Int) : ∀ d i : Nat, i + d = n → Ev (fun k => spec_MadeLine.l0 k n f i (lineN i) (lineF i f) (lineO i) (lineW i)) (lineN n, lineF n f, lineO n, lineW n) := by
  intro d
  induction d with
  | zero =>
    intro i hi
    obtain rfl : i = n := by omega
    apply Ev.succ; simp only [spec_MadeLine.l0]
    exact Ev.neg (by omega) (Ev.ret rfl)
  | succ d ih =>
    intro i hi
    have h1 : (lineN i).length = i := tab_length _ _
    have h2 : (lineF i f).length = i := tab_length _ _
    have h3 : (lineO i).length = i := tab_length _ _
    have h4 : (lineW i).length = i := tab_length _ _
    apply Ev.succ; simp only [spec_MadeLine.l0]
    refine Ev.pos (by omega) (Ev.pos (by omega) (Ev.pos (by omega) (Ev.pos (by omega) (Ev.pos (by omega) ?_))))
    rw [w64 (x := (i : Int) + 1) (by omega) (by omega), w64 (x := (i : Int) - 1) (by omega) (by omega)]
    have e := ih (i + 1) (by omega)
    have g1 : lineN (i + 1) = lineN i ++ [(i : Int) - 1] := tab_succ _ _
    have g2 : lineF (i + 1) f = lineF i f ++ [f] := tab_succ _ _
    have g3 : lineO (i + 1) = lineO i ++ [true] := tab_succ _ _
    have g4 : lineW (i + 1) = lineW i ++ [[true, true, true, true]] := tab_succ _ _
    rw [g1, g2, g3, g4] at e
    exact e
theorem made_ev (n : Nat) (hn : n ≤ 60) (f : Int) : Ev (fun k => spec_MadeLine.f k n f) (lineN n, lineF n f, lineO n, lineW n) := by
  unfold spec_MadeLine.f
  exact made_l0 n hn f n 0 (by omega)
theorem line_right (n : Nat) (hn : n ≤ 60) (op : List Bool) (ho : op.length = n) : Right (lineN n) (lineF n 100) op (lineW n) := by
  have h1 : (lineN n).length = n := tab_length _ _
  have g : ∀ i, i < (lineN n).length → (lineN n).getD i 0 = (i : Int) - 1 := fun i hi => tab_getD _ _ (by omega)
  have g2 : ∀ i, i < (lineN n).length → (lineF n 100).getD i 0 = 100 := fun i hi => tab_getD _ _ (by omega)
  refine ⟨by omega, (tab_length _ _).trans h1.symm, by omega, (tab_length _ _).trans h1.symm, ?_, ?_, ?_, ?_, ?_⟩
  · intro i hi; rw [g i hi]; omega
  · intro i hi; rw [g i hi]; omega
  · intro i hi; rw [g2 i hi]; omega
  · intro i hi; rw [g2 i hi]; omega
  · intro i hi
    have : (lineW n).getD i [] = [true, true, true, true] := tab_getD _ _ (by omega)
    rw [this]; rfl
theorem all_lamps {a : Int} (h0 : 0 ≤ a) (h3 : a ≤ 3) : lamp [true, true, true, true] a.toNat = a := by
  have : a = 0 ∨ a = 1 ∨ a = 2 ∨ a = 3 := by omega
  rcases this with rfl | rfl | rfl | rfl <;> rfl
theorem line_shown (n : Nat) (hn : n ≤ 60) (op : List Bool) (ho : op.length = n) {i : Nat} (hi : i < n) : shown (lineN n) op (lineW n) i = want (lineN n) op (shown (lineN n) op (lineW n)) i := by
  have h1 : (lineN n).length = n := tab_length _ _
  have e := shown_fix (line_right n hn op ho) (i := i) (by omega)
  have hw : (lineW n).getD i [] = [true, true, true, true] := tab_getD _ _ hi
  have hl := want_lo (nx := lineN n) (op := op) (s := shown (lineN n) op (lineW n)) shown_lo i
  have hh := want_hi (lineN n) op (shown (lineN n) op (lineW n)) i
  rw [e]
  conv => lhs; unfold gives
  rw [hw, all_lamps hl hh]
def up3 (i : Nat) : Int := if i < 3 then (i : Int) else 3
theorem line_open (n : Nat) (hn : n ≤ 60) (op : List Bool) (ho : op.length = n) : ∀ i, i < n → (∀ j, j ≤ i → op.getD j false = true) → shown (lineN n) op (lineW n) i = up3 (i + 1) := by
  intro i
  induction i with
  | zero =>
    intro hi hop
    have g : (lineN n).getD 0 0 = ((0 : Nat) : Int) - 1 := tab_getD (fun i : Nat => (i : Int) - 1) _ hi
    rw [line_shown n hn op ho hi]
    unfold want; rw [if_pos (hop 0 (Nat.le_refl _)), g, if_pos (by omega)]; rfl
  | succ i ih =>
    intro hi hop
    have e := ih (by omega) (fun j hj => hop j (by omega))
    have g : (lineN n).getD (i + 1) 0 = ((i + 1 : Nat) : Int) - 1 := tab_getD (fun i : Nat => (i : Int) - 1) _ hi
    rw [line_shown n hn op ho hi]
    unfold want
    rw [if_pos (hop _ (Nat.le_refl _)), g, if_neg (by omega), show (((i + 1 : Nat) : Int) - 1).toNat = i by omega, e]
    unfold up3
    split <;> split <;> split <;> omega
theorem line_shut (n : Nat) (hn : n ≤ 60) (k : Nat) (hk : k < n) : ∀ i, i < n → k ≤ i → shown (lineN n) ((lineO n).set k false) (lineW n) i = up3 (i - k) := by
  have ho : ((lineO n).set k false).length = n := by rw [List.length_set]; exact tab_length _ _
  have hop : ∀ j, j < n → ((lineO n).set k false).getD j false = decide (j ≠ k) := fun j hj => by
    unfold lineO; rw [tab_set, tab_getD _ _ hj]
    by_cases e : j = k
    · subst e; simp
    · simp [e]
  intro i
  induction i with
  | zero =>
    intro hi hki
    obtain rfl : k = 0 := by omega
    rw [line_shown n hn _ ho hi]
    unfold want; rw [hop 0 hi]; rfl
  | succ i ih =>
    intro hi hki
    rw [line_shown n hn _ ho hi]
    by_cases e : k = i + 1
    · subst e
      unfold want; rw [hop _ hi, show i + 1 - (i + 1) = 0 by omega]
      simp; rfl
    · have e1 := ih (by omega) (by omega)
      have g : (lineN n).getD (i + 1) 0 = ((i + 1 : Nat) : Int) - 1 := tab_getD (fun i : Nat => (i : Int) - 1) _ hi
      unfold want
      rw [hop _ hi, if_pos (by simp; omega), g, if_neg (by omega), show (((i + 1 : Nat) : Int) - 1).toNat = i by omega, e1]
      unfold up3
      split <;> split <;> split <;> omega
theorem law_l0 (n k : Nat) (hn : n ≤ 60) (hk : k < n) (a b : Nat → Int) (ha : ∀ i, i < n → a i = up3 (i + 1)) (hb : ∀ i, i < n → b i = if k ≤ i then up3 (i - k) else up3 (i + 1)) :
    ∀ d i : Nat, i + d = n → Ev (fun r => laws_FnLine.l0 r n k (tab n a) (tab n b) i) true := by
  intro d
  induction d with
  | zero =>
    intro i hi
    apply Ev.succ; simp only [laws_FnLine.l0]
    exact Ev.neg (by omega) (Ev.ret rfl)
  | succ d ih =>
    intro i hi
    have hlt : i < n := by omega
    have e := ih (i + 1) (by omega)
    have hai := ha i hlt
    have hbi := hb i hlt
    have L1 := tab_length n a
    have L2 := tab_length n b
    have next : ∀ x : Int, x = up3 (i + 1) → Ev (fun r => laws_FnLine.j2 r n k (tab n a) (tab n b) i x) true := by
      intro x hx
      apply Ev.succ; simp only [laws_FnLine.j2]
      rw [rd_tab a hlt, rd_tab b hlt, w64 (x := (i : Int) + 1) (by omega) (by omega), w64 (x := (i : Int) - k) (by omega) (by omega)]
      by_cases c : k ≤ i
      · rw [if_pos c] at hbi
        refine Ev.pos (by omega) ?_
        by_cases c2 : (i : Int) - k > 3
        · refine Ev.pos c2 (Ev.pos (by omega) (Ev.pos (by omega) (Ev.pos (by omega) (Ev.pos (by omega) (Ev.pos ?_ e)))))
          rw [hbi]; unfold up3; split <;> omega
        · refine Ev.neg c2 (Ev.pos (by omega) (Ev.pos (by omega) (Ev.pos (by omega) (Ev.pos (by omega) (Ev.pos ?_ e)))))
          rw [hbi]; unfold up3; split <;> omega
      · rw [if_neg c] at hbi
        exact Ev.neg (by omega) (Ev.pos (by omega) (Ev.pos (by omega) (Ev.pos (by omega) (Ev.pos (by omega) (Ev.pos (by omega) e)))))
    apply Ev.succ; simp only [laws_FnLine.l0]
    refine Ev.pos (by omega) ?_
    rw [w64 (x := (i : Int) + 1) (by omega) (by omega)]
    by_cases c : (i : Int) + 1 > 3
    · exact Ev.pos c (next 3 (by unfold up3; split <;> omega))
    · exact Ev.neg c (next _ (by unfold up3; split <;> omega))

theorem FnLine : laws_FnLine.Pure := by
  intro l0 _ _ hw
  apply Ev.rounds
  unfold laws_FnLine.f
  by_cases c : (l0.length : Int) > 1048576
  · exact Ev.pos c (Ev.ret rfl)
  · refine Ev.neg c ?_
    obtain ⟨v, hv, hv0, hv1⟩ := wByte_is (by omega) hw (a := 0) (by omega)
    obtain ⟨u, hu, hu0, hu1⟩ := wByte_is (by omega) hw (a := 1) (by omega)
    refine Ev.bindc hv (Ev.bindc hu ?_)
    obtain ⟨n, hn⟩ : ∃ n : Nat, (n : Int) = 1 + Int.tmod v 20 := ⟨(1 + Int.tmod v 20).toNat, by
      have := Int.tmod_nonneg 20 hv0; omega⟩
    have hn1 : 0 ≤ Int.tmod v 20 := Int.tmod_nonneg 20 hv0
    have hn2 : Int.tmod v 20 < 20 := Int.tmod_lt_of_pos _ (by omega)
    rw [w64 (x := 1 + Int.tmod v 20) (by omega) (by omega), ← hn]
    have k0 : 0 ≤ Int.tmod u n := Int.tmod_nonneg _ hu0
    have k1 : Int.tmod u n < n := Int.tmod_lt_of_pos _ (by omega)
    obtain ⟨k, hk⟩ : ∃ k : Nat, (k : Int) = Int.tmod u n := ⟨(Int.tmod u n).toNat, by omega⟩
    rw [← hk]
    refine Ev.neg (by omega) (Ev.bind (made_ev n (by omega) 100) ?_)
    have hN : (lineN n).length = n := tab_length _ _
    have hO : (lineO n).length = n := tab_length _ _
    have hO2 : ((lineO n).set k false).length = n := by rw [List.length_set]; exact hO
    have s1 := shows_ev (line_right n (by omega) (lineO n) hO)
    have s2 := shows_ev (line_right n (by omega) ((lineO n).set k false) hO2)
    refine Ev.bind s1 (Ev.pos (by omega) (Ev.pos (by show (k : Int) < ((lineO n).length : Int); omega) ?_))
    rw [Int.toNat_natCast]
    refine Ev.bind s2 ?_
    rw [hN, tab_length, tab_length]
    refine Ev.pos rfl ?_
    rw [show ((n : Int) != (n : Int)) = false by simp]
    apply Ev.succ; simp only [laws_FnLine.j0]
    refine Ev.neg (by simp) (law_l0 n k (by omega) (by omega) _ _ (fun i hi => ?_) (fun i hi => ?_) n 0 (by omega))
    · exact line_open n (by omega) _ hO i hi (fun j hj => tab_getD _ _ (by omega))
    · by_cases d : k ≤ i
      · rw [if_pos d]; exact line_shut n (by omega) k (by omega) i hi d
      · rw [if_neg d]
        refine line_open n (by omega) _ hO2 i hi (fun j hj => ?_)
        unfold lineO
        rw [tab_set, tab_getD _ _ (by omega), if_neg (by omega)]
end Go.Proofs.Ytlojolldbbooeaa.Pure
