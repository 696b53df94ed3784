/- Plain words on room, stops and speeds: the sums along the ways, the pigeons' law for a way that leads back, how far a train comes that brakes. No program and no memory. Conditions: those of each lemma. -/
import Derived.Test.YtpdcghclcgbcfaaPlain
namespace Go.Proofs.Ytpdcghclcgbcfaa.Plain
open Go.RowKit Go.Proofs.YtpdcghclcgbcfaaW.PrintWords Go.Proofs.YtpdcghclcgbcfaaW.PrintMore
set_option linter.unusedVariables false
set_option linter.unusedSimpArgs false
/-- n + 1 numbers below n: two are the same. -/
theorem pigeons : ∀ (n : Nat) (f : Nat → Nat), (∀ t, t ≤ n → f t < n) → ∃ a b, a < b ∧ b ≤ n ∧ f a = f b := by
  intro n
  induction n with
  | zero => intro f h; have := h 0 (Nat.le_refl _); omega
  | succ n ih =>
    intro f h
    apply Classical.byContradiction
    intro hno
    have inj : ∀ a b, a < b → b ≤ n + 1 → f a ≠ f b := fun a b h1 h2 e => hno ⟨a, b, h1, h2, e⟩
    obtain ⟨a, b, h1, h2, e⟩ := ih (fun t => if f t = n then f (n + 1) else f t) (fun t ht => by
      have h3 := h t (by omega)
      have h4 := h (n + 1) (Nat.le_refl _)
      have h5 := inj t (n + 1) (by omega) (Nat.le_refl _)
      show (if f t = n then f (n + 1) else f t) < n
      split <;> omega)
    have h3 := inj a b h1 (by omega)
    have h4 := inj a (n + 1) (by omega) (Nat.le_refl _)
    have h5 := inj b (n + 1) (by omega) (Nat.le_refl _)
    have e' : (if f a = n then f (n + 1) else f a) = (if f b = n then f (n + 1) else f b) := e
    by_cases ca : f a = n
    · by_cases cb : f b = n
      · omega
      · rw [if_pos ca, if_neg cb] at e'; omega
    · by_cases cb : f b = n
      · rw [if_neg ca, if_pos cb] at e'; omega
      · rw [if_neg ca, if_neg cb] at e'; omega

/-! ### room -/
def roomOf (nx fa : List Int) : Nat → Int → Int → Int
  | 0, _, sum => sum
  | a + 1, p, sum => if p < 0 then sum else roomOf nx fa a (nx.getD p.toNat 0) (sum + fa.getD p.toNat 0)
/-- The stop, with so many signals still to be asked. -/
def stopI (nx fa : List Int) (s : Nat → Int) : Nat → Int → Int → Int
  | 0, p, sum => if p < 0 then sum else if s p.toNat ≤ 0 then sum else -2
  | f + 1, p, sum => if p < 0 then sum else if s p.toNat ≤ 0 then sum else stopI nx fa s f (nx.getD p.toNat 0) (sum + fa.getD p.toNat 0)
def stopS (nx fa : List Int) (s : Nat → Int) : Nat → Int → Int → Int
  | 0, _, _ => -2
  | f + 1, p, sum => if s p.toNat ≤ 0 then sum else if nx.getD p.toNat 0 < 0 then sum + fa.getD p.toNat 0 else stopS nx fa s f (nx.getD p.toNat 0) (sum + fa.getD p.toNat 0)
/-- The signal that is come to behind t ones. -/
def pos (nx : List Int) (i : Nat) : Nat → Nat
  | 0 => i
  | t + 1 => (nx.getD (pos nx i t) 0).toNat
theorem pos_same {nx : List Int} {i a b : Nat} (h : pos nx i a = pos nx i b) : ∀ d, pos nx i (a + d) = pos nx i (b + d)
  | 0 => h
  | d + 1 => by
    have := pos_same h d
    show (nx.getD (pos nx i (a + d)) 0).toNat = (nx.getD (pos nx i (b + d)) 0).toNat
    rw [this]
section
variable {nx fa : List Int} {op : List Bool} {wk : List (List Bool)}
theorem stop_same (hr : Right nx fa op wk) (s : Nat → Int) {i : Nat} (hi : i < nx.length) : ∀ (f t : Nat) (sum : Int), t + f = nx.length + 1 → pos nx i t < nx.length → (∀ u, u < t → pos nx i u < nx.length ∧ 0 < s (pos nx i u)) →
    stopI nx fa s f (pos nx i t) sum = stopS nx fa s f (pos nx i t) sum := by
  intro f
  induction f with
  | zero =>
    intro t sum ht hp hu
    obtain ⟨a, b, hab, hb, e⟩ := pigeons nx.length (pos nx i) (fun u h => (hu u (by omega)).1)
    have h1 := pos_same e (nx.length + 1 - b)
    rw [show b + (nx.length + 1 - b) = nx.length + 1 by omega] at h1
    have h2 := hu (a + (nx.length + 1 - b)) (by omega)
    have h3 : t = nx.length + 1 := by omega
    rw [h1] at h2
    subst h3
    unfold stopI stopS
    rw [if_neg (by omega), Int.toNat_natCast, if_neg (by omega)]
  | succ f ih =>
    intro t sum ht hp hu
    unfold stopI stopS
    rw [if_neg (by omega), Int.toNat_natCast]
    by_cases c : s (pos nx i t) ≤ 0
    · rw [if_pos c, if_pos c]
    · rw [if_neg c, if_neg c]
      by_cases d : nx.getD (pos nx i t) 0 < 0
      · rw [if_pos d]
        cases f with
        | zero => unfold stopI; rw [if_pos d]
        | succ f => unfold stopI; rw [if_pos d]
      · rw [if_neg d]
        have hh := hr.hi _ hp
        have e : nx.getD (pos nx i t) 0 = ((pos nx i (t + 1) : Nat) : Int) := by
          show _ = (((nx.getD (pos nx i t) 0).toNat : Nat) : Int)
          omega
        rw [e]
        refine ih (t + 1) _ (by omega) (by omega) (fun u h => ?_)
        by_cases q : u = t
        · subst q; exact ⟨hp, by omega⟩
        · exact hu u (by omega)
/-- A signal that shows so much has a next one that shows one less at the least. -/
theorem reach (hr : Right nx fa op wk) {p : Nat} (hp : p < nx.length) {a : Int} (h1 : 1 ≤ a) (h : a + 1 ≤ shown nx op wk p) : 0 ≤ nx.getD p 0 ∧ a ≤ shown nx op wk (nx.getD p 0).toNat := by
  have h2 := step_le (nx := nx) (op := op) (wk := wk) (s := shown nx op wk) shown_lo p
  rw [← shown_fix hr hp] at h2
  unfold want at h2
  split at h2
  · split at h2
    · omega
    · refine ⟨by omega, ?_⟩
      split at h2 <;> omega
  · omega
theorem stopI_up (hr : Right nx fa op wk) (s : Nat → Int) : ∀ (f : Nat) (p sum : Int), p < nx.length → stopI nx fa s f p sum = -2 ∨ sum ≤ stopI nx fa s f p sum
  | 0, p, sum, hp => by
    unfold stopI
    split
    · exact .inr (Int.le_refl _)
    · split
      · exact .inr (Int.le_refl _)
      · exact .inl rfl
  | f + 1, p, sum, hp => by
    unfold stopI
    split
    · exact .inr (Int.le_refl _)
    · split
      · exact .inr (Int.le_refl _)
      · have h1 := hr.hi p.toNat (by omega)
        have h2 := hr.fa0 p.toNat (by omega)
        rcases stopI_up hr s f (nx.getD p.toNat 0) (sum + fa.getD p.toNat 0) h1 with h | h
        · exact .inl h
        · exact .inr (by omega)
theorem room_stop (hr : Right nx fa op wk) : ∀ (a f : Nat) (p sum : Int), p < nx.length → (0 < a → 0 ≤ p → (a : Int) ≤ shown nx op wk p.toNat) →
    stopI nx fa (shown nx op wk) f p sum = -2 ∨ roomOf nx fa a p sum ≤ stopI nx fa (shown nx op wk) f p sum := by
  intro a
  induction a with
  | zero => intro f p sum hp _; exact stopI_up hr _ f p sum hp
  | succ a ih =>
    intro f p sum hp h
    unfold roomOf
    by_cases c : p < 0
    · rw [if_pos c]; exact stopI_up hr _ f p sum hp
    · rw [if_neg c]
      have h1 := h (by omega) (by omega)
      cases f with
      | zero => unfold stopI; rw [if_neg c, if_neg (by omega)]; exact .inl rfl
      | succ f =>
        unfold stopI; rw [if_neg c, if_neg (by omega)]
        refine ih f _ _ (hr.hi _ (by omega)) (fun g1 g2 => ?_)
        exact (reach hr (p := p.toNat) (by omega) (a := (a : Int)) (by omega) (by omega)).2
theorem roomOf_lo (hr : Right nx fa op wk) : ∀ (a : Nat) (p sum : Int), p < nx.length → sum ≤ roomOf nx fa a p sum
  | 0, p, sum, _ => Int.le_refl _
  | a + 1, p, sum, hp => by
    unfold roomOf
    split
    · exact Int.le_refl _
    · have h1 := roomOf_lo hr a (nx.getD p.toNat 0) (sum + fa.getD p.toNat 0) (hr.hi _ (by omega))
      have h2 := hr.fa0 p.toNat (by omega)
      omega
theorem roomOf_hi (hr : Right nx fa op wk) : ∀ (a : Nat) (p sum : Int), p < nx.length → roomOf nx fa a p sum ≤ sum + 1000000 * a
  | 0, p, sum, _ => by unfold roomOf; omega
  | a + 1, p, sum, hp => by
    unfold roomOf
    split
    · omega
    · have h1 := roomOf_hi hr a (nx.getD p.toNat 0) (sum + fa.getD p.toNat 0) (hr.hi _ (by omega))
      have h2 := hr.fa1 p.toNat (by omega)
      omega
end

/-! ### how far a train comes that brakes by b in each tick -/
def slow (b v : Int) : Int := (v / b) * (v % b) + b * ((v / b) * (v / b - 1) / 2)
theorem slow_small {b v : Int} (hb : 0 < b) (h0 : 0 ≤ v) (h1 : v ≤ b) : slow b v = 0 := by
  unfold slow
  by_cases e : v = b
  · subst e
    rw [Int.ediv_self (by omega), Int.emod_self]; simp
  · rw [Int.ediv_eq_zero_of_lt h0 (by omega)]; simp
theorem slow_step {b v : Int} (hb : 0 < b) (h : b ≤ v) : slow b v = (v - b) + slow b (v - b) := by
  have hq : (v - b) / b = v / b - 1 := by rw [Int.sub_ediv_of_dvd _ (Int.dvd_refl b), Int.ediv_self (by omega)]
  have hm : (v - b) % b = v % b := by rw [Int.sub_emod, Int.emod_self, Int.sub_zero, Int.emod_emod]
  unfold slow
  rw [hq, hm]
  have h1 := Int.mul_ediv_add_emod v b
  generalize v / b = q at *
  generalize v % b = m at *
  have e : q * (q - 1) = (q - 1) * (q - 1 - 1) + 2 * (q - 1) := by
    simp only [Int.mul_sub, Int.sub_mul, Int.mul_one, Int.one_mul]; omega
  have e2 : q * (q - 1) / 2 = (q - 1) * (q - 1 - 1) / 2 + (q - 1) := by rw [e]; omega
  rw [e2]
  have e3 : b * ((q - 1) * (q - 1 - 1) / 2 + (q - 1)) = b * ((q - 1) * (q - 1 - 1) / 2) + (b * q - b) := by
    have e0 : b * (q - 1) = b * q - b := by rw [Int.mul_sub, Int.mul_one]
    rw [Int.mul_add, e0]
  have e4 : (q - 1) * m = q * m - m := by rw [Int.sub_mul, Int.one_mul]
  rw [e3, e4]
  omega
theorem slow_lo {b : Int} (hb : 0 < b) : ∀ (d : Nat) (v : Int), 0 ≤ v → v ≤ d → 0 ≤ slow b v := by
  intro d
  induction d with
  | zero => intro v h0 h1; rw [slow_small hb h0 (by omega)]; omega
  | succ d ih =>
    intro v h0 h1
    by_cases c : v ≤ b
    · rw [slow_small hb h0 c]; omega
    · rw [slow_step hb (by omega)]
      have := ih (v - b) (by omega) (by omega)
      omega
theorem slow_nonneg {b v : Int} (hb : 0 < b) (h0 : 0 ≤ v) : 0 ≤ slow b v := slow_lo hb v.toNat v h0 (by omega)
theorem slow_hi {b : Int} (hb : 0 < b) : ∀ (d : Nat) (v : Int), 0 ≤ v → v ≤ d → v ≤ 20000 → slow b v ≤ 20000 * v := by
  intro d
  induction d with
  | zero => intro v h0 h1 h2; rw [slow_small hb h0 (by omega)]; omega
  | succ d ih =>
    intro v h0 h1 h2
    by_cases c : v ≤ b
    · rw [slow_small hb h0 c]; omega
    · rw [slow_step hb (by omega)]
      have := ih (v - b) (by omega) (by omega) (by omega)
      omega
theorem slow_top {b v : Int} (hb : 0 < b) (h0 : 0 ≤ v) (h1 : v ≤ 10001) : slow b v ≤ 1000000000 := by
  have := slow_hi hb v.toNat v h0 (by omega) (by omega)
  omega
/-! ### the greatest speed -/
def farOf (d b v : Int) : Int := d * v + slow b v
def bestF (d b room : Int) : Nat → Int → Int
  | 0, v => v - 1
  | f + 1, v => if farOf d b v > room then v - 1 else bestF d b room f (v + 1)
theorem best_is {d b room : Int} : ∀ (f : Nat) (v : Int), v + f = 10001 → farOf d b (v - 1) ≤ room →
    v - 1 ≤ bestF d b room f v ∧ bestF d b room f v ≤ 10000 ∧ farOf d b (bestF d b room f v) ≤ room ∧ (bestF d b room f v = 10000 ∨ farOf d b (bestF d b room f v + 1) > room)
  | 0, v, hv, h => by unfold bestF; exact ⟨by omega, by omega, h, .inl (by omega)⟩
  | f + 1, v, hv, h => by
    unfold bestF
    by_cases c : farOf d b v > room
    · rw [if_pos c]; exact ⟨by omega, by omega, h, .inr (by rw [Int.sub_add_cancel]; exact c)⟩
    · rw [if_neg c]
      have := best_is (d := d) (b := b) (room := room) f (v + 1) (by omega) (by rw [Int.add_sub_cancel]; omega)
      exact ⟨by omega, this.2.1, this.2.2.1, this.2.2.2⟩
end Go.Proofs.Ytpdcghclcgbcfaa.Plain
