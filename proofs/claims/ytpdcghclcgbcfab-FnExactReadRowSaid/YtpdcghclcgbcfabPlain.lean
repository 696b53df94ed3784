/- Plain words for the statements about signals: tables of numbers, the freest lamp, what a signal wants, the steps to the least way of agreeing, and that they end. No program and no memory in it. Conditions: those of each lemma. -/
import Derived.Test.YtpdcghclcgbcfabVMore
import Derived.Laws.BitsLemmas
namespace Go.Proofs.Ytpdcghclcgbcfab.Plain
open Go.RowKit Go.Proofs.YtpdcghclcgbcfabW.PrintWords Go.Proofs.YtpdcghclcgbcfabW.PrintMore
set_option linter.unusedVariables false
set_option linter.unusedSimpArgs false

/-! ### rounds -/
theorem Ev.succ {α : Type} {g : Nat → Option α} {r : α} (h : Ev (fun k => g (k + 1)) r) : Ev g r := Ev.step (fun _ => rfl) h
theorem Ev.pos {α : Type} {c : Prop} [Decidable c] {a b : Nat → Option α} {r : α} (h : c) (e : Ev a r) : Ev (fun k => if c then a k else b k) r := by
  simpa only [if_pos h] using e
theorem Ev.neg {α : Type} {c : Prop} [Decidable c] {a b : Nat → Option α} {r : α} (h : ¬ c) (e : Ev b r) : Ev (fun k => if c then a k else b k) r := by
  simpa only [if_neg h] using e
theorem Ev.ret {α : Type} {a r : α} (h : a = r) : Ev (fun _ => some a) r := by subst h; exact Ev.now a
theorem Ev.bindc {α β : Type} {g : Option α} {f : Nat → α → Option β} {a : α} {r : β} (h : g = some a) (k : Ev (fun n => f n a) r) : Ev (fun n => g.bind (f n)) r := by
  subst h; exact k
theorem Ev.to {α : Type} {g : Nat → Option α} {a r : α} (e : Ev g a) (h : a = r) : Ev g r := h ▸ e

theorem w64 {x : Int} (h0 : -9223372036854775808 ≤ x) (h1 : x ≤ 9223372036854775807) : wrap64 x = x := by unfold wrap64; omega

/-! ### tables -/
def tab {α : Type} (n : Nat) (f : Nat → α) : List α := (List.range n).map f
theorem tab_length {α : Type} (n : Nat) (f : Nat → α) : (tab n f).length = n := by simp [tab]
theorem tab_getD {α : Type} {n i : Nat} (f : Nat → α) (d : α) (h : i < n) : (tab n f).getD i d = f i := by
  simp [tab, List.getD_eq_getElem?_getD, h]
theorem tab_set {α : Type} (n : Nat) (f : Nat → α) (i : Nat) (v : α) : (tab n f).set i v = tab n (fun j => if j = i then v else f j) := by
  apply List.ext_getElem
  · simp [tab]
  · intro j h1 h2
    simp only [tab, List.getElem_set, List.getElem_map, List.getElem_range]
    by_cases h : i = j
    · subst h; simp
    · rw [if_neg h, if_neg (fun e => h e.symm)]
theorem tab_congr {α : Type} {n : Nat} {f g : Nat → α} (h : ∀ i, i < n → f i = g i) : tab n f = tab n g := by
  simp only [tab]
  exact List.map_congr_left (fun i hi => h i (List.mem_range.1 hi))
theorem tab_inj {α : Type} {n : Nat} {f g : Nat → α} (h : tab n f = tab n g) (i : Nat) (hi : i < n) : f i = g i := by
  have := congrArg (fun l : List α => l.getD i (f i)) h
  simpa only [tab_getD _ _ hi] using this
theorem tab_self {α : Type} (l : List α) (d : α) : l = tab l.length (fun i => l.getD i d) := by
  apply List.ext_getElem
  · simp [tab]
  · intro j h1 h2
    simp [tab, h1]
theorem tab_of {α : Type} {l : List α} {n : Nat} (h : l.length = n) (d : α) : l = tab n (fun i => l.getD i d) := by subst h; exact tab_self l d
theorem tab_succ {α : Type} (n : Nat) (f : Nat → α) : tab (n + 1) f = tab n f ++ [f n] := by simp [tab, List.range_succ]
theorem tab_zero {α : Type} (f : Nat → α) : tab 0 f = [] := rfl
theorem replicate_tab {α : Type} (n : Nat) (a : α) : List.replicate n a = tab n (fun _ => a) := by
  apply List.ext_getElem
  · simp [tab]
  · intro j h1 h2; simp [tab]
theorem rd_tab {n : Nat} (f : Nat → Int) {i : Nat} (h : i < n) : rd (tab n f) (i : Int) = f i := by unfold rd; rw [Int.toNat_natCast, tab_getD _ _ h]
theorem rd_nat (l : List Int) (i : Nat) : rd l (i : Int) = l.getD i 0 := by unfold rd; rw [Int.toNat_natCast]
theorem rdOf_nat {α : Type} (d : α) (l : List α) (i : Nat) : rdOf d l (i : Int) = l.getD i d := by unfold rdOf; rw [Int.toNat_natCast]

/-! ### the freest lamp that works, not above one -/
def lamp (w : List Bool) : Nat → Int
  | 0 => if w.getD 0 false = true then 0 else -1
  | n + 1 => if w.getD (n + 1) false = true then ((n + 1 : Nat) : Int) else lamp w n
theorem lamp_lo (w : List Bool) : ∀ n, -1 ≤ lamp w n
  | 0 => by unfold lamp; split <;> omega
  | n + 1 => by
    have := lamp_lo w n
    unfold lamp; split <;> omega
theorem lamp_hi (w : List Bool) : ∀ n, lamp w n ≤ n
  | 0 => by unfold lamp; split <;> omega
  | n + 1 => by
    have := lamp_hi w n
    unfold lamp; split <;> omega
theorem lamp_mono (w : List Bool) {m n : Nat} (h : m ≤ n) : lamp w m ≤ lamp w n := by
  induction n with
  | zero => obtain rfl : m = 0 := by omega
            exact Int.le_refl _
  | succ n ih =>
    by_cases e : m = n + 1
    · subst e; exact Int.le_refl _
    · have h1 := ih (by omega)
      have h2 := lamp_hi w n
      rw [lamp]
      split
      · omega
      · exact h1
theorem lamp_less {w w' : List Bool} (h : ∀ i, w'.getD i false = true → w.getD i false = true) (n : Nat) : lamp w' n ≤ lamp w n := by
  induction n with
  | zero =>
    unfold lamp
    by_cases e : w'.getD 0 false = true
    · rw [if_pos e, if_pos (h _ e)]; omega
    · rw [if_neg e]; split <;> omega
  | succ n ih =>
    have := lamp_hi w' n
    rw [lamp, lamp]
    by_cases e : w'.getD (n + 1) false = true
    · rw [if_pos e, if_pos (h _ e)]; omega
    · rw [if_neg e]
      split
      · omega
      · exact ih

/-! ### a right row -/
structure Right (nx fa : List Int) (op : List Bool) (wk : List (List Bool)) : Prop where
  n60 : nx.length ≤ 60
  faL : fa.length = nx.length
  opL : op.length = nx.length
  wkL : wk.length = nx.length
  lo : ∀ i, i < nx.length → -1 ≤ nx.getD i 0
  hi : ∀ i, i < nx.length → nx.getD i 0 < nx.length
  fa0 : ∀ i, i < nx.length → 0 ≤ fa.getD i 0
  fa1 : ∀ i, i < nx.length → fa.getD i 0 ≤ 1000000
  wk4 : ∀ i, i < nx.length → (wk.getD i []).length = 4

/-! ### what is wanted and shown -/
def want (nx : List Int) (op : List Bool) (s : Nat → Int) (i : Nat) : Int :=
  if op.getD i false = true then (if nx.getD i 0 < 0 then 1 else if s (nx.getD i 0).toNat + 1 ≤ 3 then s (nx.getD i 0).toNat + 1 else 3) else 0
def gives (nx : List Int) (op : List Bool) (wk : List (List Bool)) (s : Nat → Int) (i : Nat) : Int := lamp (wk.getD i []) (want nx op s i).toNat
theorem want_lo {nx : List Int} {op : List Bool} {s : Nat → Int} (hs : ∀ i, -1 ≤ s i) (i : Nat) : 0 ≤ want nx op s i := by
  have := hs (nx.getD i 0).toNat
  unfold want; split
  · split
    · omega
    · split <;> omega
  · omega
theorem want_hi (nx : List Int) (op : List Bool) (s : Nat → Int) (i : Nat) : want nx op s i ≤ 3 := by
  unfold want; split
  · split
    · omega
    · split <;> omega
  · omega
theorem want_mono {nx : List Int} {op : List Bool} {s s' : Nat → Int} {i : Nat} (h : 0 ≤ nx.getD i 0 → s (nx.getD i 0).toNat ≤ s' (nx.getD i 0).toNat) : want nx op s i ≤ want nx op s' i := by
  unfold want
  by_cases c1 : op.getD i false = true
  · rw [if_pos c1, if_pos c1]
    by_cases c2 : nx.getD i 0 < 0
    · rw [if_pos c2, if_pos c2]; omega
    · have := h (by omega)
      rw [if_neg c2, if_neg c2]
      split <;> split <;> omega
  · rw [if_neg c1, if_neg c1]; omega
theorem want_congr {nx : List Int} {op : List Bool} {s s' : Nat → Int} {i : Nat} (h : 0 ≤ nx.getD i 0 → s (nx.getD i 0).toNat = s' (nx.getD i 0).toNat) : want nx op s i = want nx op s' i :=
  Int.le_antisymm (want_mono fun c => Int.le_of_eq (h c)) (want_mono fun c => Int.le_of_eq (h c).symm)
theorem step_lo (nx : List Int) (op : List Bool) (wk : List (List Bool)) (s : Nat → Int) (i : Nat) : -1 ≤ gives nx op wk s i := lamp_lo _ _
theorem step_le {nx : List Int} {op : List Bool} {wk : List (List Bool)} {s : Nat → Int} (hs : ∀ i, -1 ≤ s i) (i : Nat) : gives nx op wk s i ≤ want nx op s i := by
  have h1 := lamp_hi (wk.getD i []) (want nx op s i).toNat
  have h2 := want_lo (nx := nx) (op := op) hs i
  unfold gives; omega
theorem step_hi {nx : List Int} {op : List Bool} {wk : List (List Bool)} {s : Nat → Int} (hs : ∀ i, -1 ≤ s i) (i : Nat) : gives nx op wk s i ≤ 3 :=
  Int.le_trans (step_le hs i) (want_hi _ _ _ _)
theorem step_mono {nx : List Int} {op : List Bool} {wk : List (List Bool)} {s s' : Nat → Int} {i : Nat} (h : 0 ≤ nx.getD i 0 → s (nx.getD i 0).toNat ≤ s' (nx.getD i 0).toNat) : gives nx op wk s i ≤ gives nx op wk s' i := by
  have := want_mono (nx := nx) (op := op) h
  exact lamp_mono _ (by omega)
theorem step_congr {nx : List Int} {op : List Bool} {wk : List (List Bool)} {s s' : Nat → Int} {i : Nat} (h : 0 ≤ nx.getD i 0 → s (nx.getD i 0).toNat = s' (nx.getD i 0).toNat) : gives nx op wk s i = gives nx op wk s' i := by
  unfold gives; rw [want_congr h]

/-! ### the steps: all are asked anew, all at once -/
def sf (nx : List Int) (op : List Bool) (wk : List (List Bool)) : Nat → Nat → Int
  | 0 => fun i => lamp (wk.getD i []) 0
  | t + 1 => gives nx op wk (sf nx op wk t)
def wf (nx : List Int) (op : List Bool) (wk : List (List Bool)) : Nat → Nat → Int
  | 0 => fun _ => 0
  | t + 1 => want nx op (sf nx op wk t)
section
variable {nx fa : List Int} {op : List Bool} {wk : List (List Bool)}
theorem sf_lo : ∀ (t i : Nat), -1 ≤ sf nx op wk t i
  | 0, i => lamp_lo _ _
  | t + 1, i => step_lo _ _ _ _ _
theorem sf_hi : ∀ (t i : Nat), sf nx op wk t i ≤ 3
  | 0, i => by have := lamp_hi (wk.getD i []) 0; unfold sf; omega
  | t + 1, i => step_hi (sf_lo t) i
theorem wf_lo : ∀ (t i : Nat), 0 ≤ wf nx op wk t i
  | 0, i => Int.le_refl _
  | t + 1, i => want_lo (sf_lo t) i
theorem wf_hi : ∀ (t i : Nat), wf nx op wk t i ≤ 3
  | 0, i => by show (0 : Int) ≤ 3; omega
  | t + 1, i => want_hi _ _ _ _
theorem sf_up : ∀ (t i : Nat), sf nx op wk t i ≤ sf nx op wk (t + 1) i
  | 0, i => by show lamp _ 0 ≤ lamp _ _; exact lamp_mono _ (Nat.zero_le _)
  | t + 1, i => step_mono fun _ => sf_up t _

def tot (f : Nat → Int) : Nat → Nat
  | 0 => 0
  | n + 1 => tot f n + (f n + 1).toNat
theorem tot_le {f g : Nat → Int} (h : ∀ i, f i ≤ g i) : ∀ n, tot f n ≤ tot g n
  | 0 => Nat.le_refl _
  | n + 1 => by have := tot_le h n; have := h n; unfold tot; omega
theorem tot_lt {f g : Nat → Int} (h : ∀ i, f i ≤ g i) (hf : ∀ i, -1 ≤ f i) : ∀ n, (∃ i, i < n ∧ f i ≠ g i) → tot f n < tot g n
  | 0, ⟨i, hi, _⟩ => by omega
  | n + 1, ⟨i, hi, hne⟩ => by
    have h1 := h n
    have h2 := hf n
    by_cases e : i = n
    · subst e
      have := tot_le h i
      unfold tot; omega
    · have := tot_lt h hf n ⟨i, by omega, hne⟩
      unfold tot; omega
theorem tot_hi {f : Nat → Int} (h : ∀ i, f i ≤ 3) : ∀ n, tot f n ≤ 4 * n
  | 0 => Nat.le_refl _
  | n + 1 => by have := tot_hi h n; have := h n; unfold tot; omega

/-- From t on nothing changes. -/
def Stable (nx : List Int) (op : List Bool) (wk : List (List Bool)) (t : Nat) : Prop := ∀ i, i < nx.length → sf nx op wk (t + 1) i = sf nx op wk t i ∧ wf nx op wk (t + 1) i = wf nx op wk t i
theorem some_same (n : Nat) : ∃ t, t ≤ 4 * n ∧ ∀ i, i < n → sf nx op wk (t + 1) i = sf nx op wk t i := by
  apply Classical.byContradiction
  intro hno
  have h1 : ∀ t, t ≤ 4 * n → tot (sf nx op wk t) n < tot (sf nx op wk (t + 1)) n := fun t ht => by
    refine tot_lt (sf_up t) (sf_lo t) n ?_
    apply Classical.byContradiction
    intro hne
    exact hno ⟨t, ht, fun i hi => Classical.byContradiction fun e => hne ⟨i, hi, fun e' => e e'.symm⟩⟩
  have h2 : ∀ t, t ≤ 4 * n + 1 → t ≤ tot (sf nx op wk t) n := by
    intro t
    induction t with
    | zero => intro _; exact Nat.zero_le _
    | succ t ih => intro ht; have := ih (by omega); have := h1 t (by omega); omega
  have h3 := h2 (4 * n + 1) (Nat.le_refl _)
  have h4 := tot_hi (sf_hi (nx := nx) (op := op) (wk := wk) (4 * n + 1)) n
  omega
theorem stable_next (hr : Right nx fa op wk) {t : Nat} (h : ∀ i, i < nx.length → sf nx op wk (t + 1) i = sf nx op wk t i) : Stable nx op wk (t + 1) := by
  intro i hi
  have hn := hr.hi i hi
  constructor
  · exact step_congr fun c => h _ (by omega)
  · exact want_congr fun c => h _ (by omega)
theorem Stable.up (hr : Right nx fa op wk) {t : Nat} (h : Stable nx op wk t) : ∀ d, (∀ i, i < nx.length → sf nx op wk (t + d) i = sf nx op wk t i ∧ wf nx op wk (t + d) i = wf nx op wk t i) ∧ Stable nx op wk (t + d)
  | 0 => ⟨fun _ _ => ⟨rfl, rfl⟩, h⟩
  | d + 1 => by
    obtain ⟨h1, h2⟩ := Stable.up hr h d
    refine ⟨fun i hi => ?_, stable_next hr fun i hi => (h2 i hi).1⟩
    have a := h1 i hi
    have b := h2 i hi
    exact ⟨b.1.trans a.1, b.2.trans a.2⟩
def shown (nx : List Int) (op : List Bool) (wk : List (List Bool)) : Nat → Int := sf nx op wk (4 * nx.length + 2)
def wanted (nx : List Int) (op : List Bool) (wk : List (List Bool)) : Nat → Int := wf nx op wk (4 * nx.length + 2)
theorem stable_late (hr : Right nx fa op wk) {t : Nat} (ht : 4 * nx.length + 1 ≤ t) : Stable nx op wk t := by
  obtain ⟨t0, h0, h⟩ := some_same (nx := nx) (op := op) (wk := wk) nx.length
  have := ((stable_next hr h).up hr (t - (t0 + 1))).2
  rwa [show t0 + 1 + (t - (t0 + 1)) = t by omega] at this
theorem stable_is (hr : Right nx fa op wk) {t : Nat} (h : Stable nx op wk t) {i : Nat} (hi : i < nx.length) : sf nx op wk t i = shown nx op wk i ∧ wf nx op wk t i = wanted nx op wk i := by
  rcases Nat.lt_or_ge (4 * nx.length + 2) t with hl | hl
  · have := ((stable_late hr (t := 4 * nx.length + 2) (by omega)).up hr (t - (4 * nx.length + 2))).1 i hi
    rw [show 4 * nx.length + 2 + (t - (4 * nx.length + 2)) = t by omega] at this
    exact this
  · have := (h.up hr (4 * nx.length + 2 - t)).1 i hi
    rw [show t + (4 * nx.length + 2 - t) = 4 * nx.length + 2 by omega] at this
    exact ⟨this.1.symm, this.2.symm⟩
theorem shown_fix (hr : Right nx fa op wk) {i : Nat} (hi : i < nx.length) : shown nx op wk i = gives nx op wk (shown nx op wk) i :=
  (stable_late hr (t := 4 * nx.length + 2) (by omega) i hi).1.symm
theorem wanted_is (hr : Right nx fa op wk) {i : Nat} (hi : i < nx.length) : wanted nx op wk i = want nx op (shown nx op wk) i :=
  (stable_late hr (t := 4 * nx.length + 2) (by omega) i hi).2.symm
theorem shown_lo (i : Nat) : -1 ≤ shown nx op wk i := sf_lo _ _
theorem shown_hi (i : Nat) : shown nx op wk i ≤ 3 := sf_hi _ _
theorem wanted_lo (i : Nat) : 0 ≤ wanted nx op wk i := wf_lo _ _
theorem wanted_hi (i : Nat) : wanted nx op wk i ≤ 3 := wf_hi _ _
/-- No other way of agreeing is less free anywhere. -/
theorem shown_least (hr : Right nx fa op wk) {x : Nat → Int} (hx : ∀ i, i < nx.length → gives nx op wk x i ≤ x i) {i : Nat} (hi : i < nx.length) : shown nx op wk i ≤ x i := by
  have h : ∀ t i, i < nx.length → sf nx op wk t i ≤ x i := by
    intro t
    induction t with
    | zero => intro i hi; exact Int.le_trans (lamp_mono _ (Nat.zero_le _)) (hx i hi)
    | succ t ih =>
      intro i hi
      have hn := hr.hi i hi
      exact Int.le_trans (step_mono fun c => ih _ (by omega)) (hx i hi)
  exact h _ i hi
end
/-- Less that is open, fewer lamps that work: no signal is freer. -/
theorem shown_tight {nx fa : List Int} {op op' : List Bool} {wk wk' : List (List Bool)} (hr : Right nx fa op wk) (hr' : Right nx fa op' wk')
    (ho : ∀ i, op'.getD i false = true → op.getD i false = true) (hw : ∀ i j, (wk'.getD i []).getD j false = true → (wk.getD i []).getD j false = true) {i : Nat} (hi : i < nx.length) :
    shown nx op' wk' i ≤ shown nx op wk i := by
  refine shown_least hr' (fun i hi => ?_) hi
  have h1 : gives nx op' wk' (shown nx op wk) i ≤ gives nx op wk (shown nx op wk) i := by
    have h2 : want nx op' (shown nx op wk) i ≤ want nx op (shown nx op wk) i := by
      have h0 := want_lo (nx := nx) (op := op) (s := shown nx op wk) shown_lo i
      by_cases c : op'.getD i false = true
      · unfold want; rw [if_pos c, if_pos (ho i c)]; exact Int.le_refl _
      · have : want nx op' (shown nx op wk) i = 0 := by unfold want; rw [if_neg c]
        omega
    exact Int.le_trans (lamp_less (hw i) _) (lamp_mono _ (by omega))
  exact Int.le_trans h1 (Int.le_of_eq (shown_fix hr hi).symm)
/-! ### what is told of a row -/
def badAt (nx fa : List Int) (i : Nat) : Prop := nx.getD i 0 < -1 ∨ (nx.length : Int) ≤ nx.getD i 0 ∨ fa.getD i 0 < 0 ∨ 1000000 < fa.getD i 0
def badLen (nx fa : List Int) (op : List Bool) (wk : List (List Bool)) : Prop := 60 < nx.length ∨ fa.length ≠ nx.length ∨ op.length ≠ nx.length ∨ wk.length ≠ nx.length
open Classical in noncomputable def code3 (nx : List Int) (wk : List (List Bool)) : Int := if ∃ i, i < nx.length ∧ (wk.getD i []).length ≠ 4 then 3 else 0
open Classical in noncomputable def code2 (nx fa : List Int) (wk : List (List Bool)) : Int := if ∃ i, i < nx.length ∧ badAt nx fa i then 2 else code3 nx wk
open Classical in noncomputable def rowcode (nx fa : List Int) (op : List Bool) (wk : List (List Bool)) : Int := if badLen nx fa op wk then 1 else code2 nx fa wk
theorem right_of_code {nx fa : List Int} {op : List Bool} {wk : List (List Bool)} (h : rowcode nx fa op wk = 0) : Right nx fa op wk := by
  unfold rowcode at h
  by_cases c1 : badLen nx fa op wk
  · rw [if_pos c1] at h; cases h
  · rw [if_neg c1] at h
    unfold code2 at h
    by_cases c2 : ∃ i, i < nx.length ∧ badAt nx fa i
    · rw [if_pos c2] at h; cases h
    · rw [if_neg c2] at h
      unfold code3 at h
      by_cases c3 : ∃ i, i < nx.length ∧ (wk.getD i []).length ≠ 4
      · rw [if_pos c3] at h; cases h
      · unfold badLen at c1
        have g : ∀ i, i < nx.length → ¬ badAt nx fa i := fun i hi hb => c2 ⟨i, hi, hb⟩
        refine ⟨by omega, by omega, by omega, by omega, ?_, ?_, ?_, ?_, ?_⟩
        · intro i hi; have := g i hi; unfold badAt at this; omega
        · intro i hi; have := g i hi; unfold badAt at this; omega
        · intro i hi; have := g i hi; unfold badAt at this; omega
        · intro i hi; have := g i hi; unfold badAt at this; omega
        · intro i hi; exact Classical.byContradiction fun e => c3 ⟨i, hi, e⟩
theorem code_of_right {nx fa : List Int} {op : List Bool} {wk : List (List Bool)} (h : Right nx fa op wk) : rowcode nx fa op wk = 0 := by
  unfold rowcode code2 code3
  have h1 := h.n60; have h2 := h.faL; have h3 := h.opL; have h4 := h.wkL
  rw [if_neg (by unfold badLen; omega), if_neg, if_neg]
  · rintro ⟨i, hi, e⟩; exact e (h.wk4 i hi)
  · rintro ⟨i, hi, e⟩
    have := h.lo i hi; have := h.hi i hi; have := h.fa0 i hi; have := h.fa1 i hi
    unfold badAt at e; omega
end Go.Proofs.Ytpdcghclcgbcfab.Plain
