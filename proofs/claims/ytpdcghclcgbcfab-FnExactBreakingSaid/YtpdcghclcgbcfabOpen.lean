/- A row of signals that comes in by value (two slices of whole numbers, one of bools, one of slices of bools): its value written out, and its lists as they stand in memory. For whatever program and whatever types of that shape. Conditions: the reading of the argument. -/
import Derived.Test.YtpdcghclcgbcfabTWords
import Derived.Lib.SmallJoins
import Derived.Deep.Grids
import Derived.ChangeSlices
import Derived.OpenShut
namespace Go.Proofs.Ytpdcghclcgbcfab.Open
open Go.ChangeShapes Go.WideShapes Go.ChangeAt Go.RowKit Go.Deep Go.Proofs.YtpdcghclcgbcfabW.PrintWords
set_option linter.unusedVariables false
set_option linter.unusedSimpArgs false
variable {H : Type} {enc : TypeId × Value → H} {P : Program} {w : World} {base : Nat} {held : Bool}
theorem getD_range {α : Type} (n : Nat) (f : Nat → α) (d : α) {j : Nat} (h : j < n) : ((List.range n).map f).getD j d = f j := by
  simp [List.getD_eq_getElem?_getD, h]
/-- A slice of whole numbers. -/
theorem ints {t e : TypeId} {k : IntKind} {fuel : Nat} {v : Value} {x : DataW H × List MemPlace} (ht : P.underlying t = some (.slice e)) (he : P.underlying e = some (.int k)) (hc : P.cellsOf e = 1)
    (h : DataW.trod enc P w base (fun _ => true) held fuel t [v] = some x) :
    ∃ (A : Option Addr) (c : Nat) (l : List Int), v = .slice A l.length c ∧ Kd.C (Kd.int k) w A l.length l ∧ l.length ≤ c ∧ l.length ≤ 9223372036854775807 := by
  rcases open_ints ht he hc h with ⟨hcs, _⟩ | ⟨a, len, cap, zs, hcs, _, hl, hm, hz, _, hcell, hwz⟩
  · obtain rfl : v = .slice none 0 0 := by simpa using hcs
    exact ⟨none, 0, [], rfl, Kd.C_nil _ _, Nat.le_refl _, by simp⟩
  · obtain rfl : v = .slice (some a) len cap := by simpa using hcs
    obtain ⟨l, e, h1, h2, h3, h4⟩ := ReadsInt.ofRowC (k := k) (w := w) (a := some a) (len := len) (cap := cap) (zs := zs) (.inr ⟨a, rfl, hl, hm, by simpa using hz, hcell, hwz⟩)
    subst e
    exact ⟨some a, cap, l, rfl, Kd.C_of_reads (d := 0) h1, h4, h2⟩
/-- A slice of bools. -/
theorem bools {t e : TypeId} {fuel : Nat} {v : Value} {x : DataW H × List MemPlace} (ht : P.underlying t = some (.slice e)) (he : P.underlying e = some .bool) (hc : P.cellsOf e = 1)
    (h : DataW.trod enc P w base (fun _ => true) held fuel t [v] = some x) :
    ∃ (A : Option Addr) (c : Nat) (l : List Bool), v = .slice A l.length c ∧ Kd.C Kd.bool w A l.length l ∧ l.length ≤ c ∧ l.length ≤ 9223372036854775807 := by
  rcases open_bools ht he hc h with ⟨hcs, _⟩ | ⟨a, len, cap, B, hcs, _, hl, hm, _, hcell⟩
  · obtain rfl : v = .slice none 0 0 := by simpa using hcs
    exact ⟨none, 0, [], rfl, Kd.C_nil _ _, Nat.le_refl _, by simp⟩
  · obtain rfl : v = .slice (some a) len cap := by simpa using hcs
    have hM : cap ≤ 9223372036854775807 := hm
    have hn : ((List.range len).map B).length = len := by simp
    refine ⟨some a, cap, (List.range len).map B, by rw [hn], ?_, by omega, by omega⟩
    refine Kd.C_of_reads (d := false) ⟨rfl, by omega, fun _ => ⟨a, rfl, fun j hj => ?_⟩⟩
    rw [hn] at hj
    rw [getD_range _ _ _ hj]
    exact hcell j (by omega)
/-- A slice of slices of bools. -/
theorem rows {t e q : TypeId} {fuel : Nat} {v : Value} {x : DataW H × List MemPlace} (ht : P.underlying t = some (.slice e)) (he : P.underlying e = some (.slice q)) (hq : P.underlying q = some .bool) (ce : P.cellsOf e = 1) (cq : P.cellsOf q = 1)
    (h : DataW.trod enc P w base (fun _ => true) held fuel t [v] = some x) :
    ∃ (A : Option Addr) (c : Nat) (l : List (List Bool)), v = .slice A l.length c ∧ Kd.C (Kd.slice q Kd.bool) w A l.length l ∧ l.length ≤ c ∧ l.length ≤ 9223372036854775807 ∧ ∀ x ∈ l, x.length ≤ 9223372036854775807 := by
  rcases open_bool_rows ht he hq ce cq h with ⟨hcs, _⟩ | ⟨a, len, cap, A, L, C, B, hcs, _, hl, hm, _, hrow⟩
  · obtain rfl : v = .slice none 0 0 := by simpa using hcs
    exact ⟨none, 0, [], rfl, Kd.C_nil _ _, Nat.le_refl _, by simp, by simp⟩
  · obtain rfl : v = .slice (some a) len cap := by simpa using hcs
    have hM : cap ≤ 9223372036854775807 := hm
    have hn : ((List.range len).map fun r => (List.range (L r)).map (B r)).length = len := by simp
    have hLM : ∀ r, r < cap → L r ≤ 9223372036854775807 := fun r hr => by
      obtain ⟨_, h1, h2, _⟩ := hrow r hr
      have h3 : C r ≤ 9223372036854775807 := h2
      omega
    refine ⟨some a, cap, (List.range len).map fun r => (List.range (L r)).map (B r), by rw [hn], ⟨rfl, by omega, fun _ => ⟨a, rfl, fun j p hp => ?_⟩⟩, by omega, by omega, fun x hx => ?_⟩
    · obtain ⟨hj, rfl⟩ := List.getElem?_eq_some_iff.1 hp
      have hj' : j < len := by simpa using hj
      obtain ⟨h1, h2, h3, h4, h5⟩ := hrow j (by omega)
      have hLj := hLM j (by omega)
      simp only [List.getElem_map, List.getElem_range]
      refine ⟨[.slice (A j) (L j) (C j)], rfl, ⟨A j, C j, by simp, by simpa using h2, ?_⟩, fun i u hu => ?_⟩
      · refine Kd.C_of_reads (d := false) ⟨rfl, by simpa using hLj, fun hp0 => ?_⟩
        have hp1 : 0 < L j := by simpa using hp0
        cases hA : A j with
        | none => have := h4 hA; omega
        | some a' =>
          refine ⟨a', rfl, fun i hi => ?_⟩
          have hi' : i < L j := by simpa using hi
          rw [getD_range _ _ _ hi']
          exact (h5 a' hA).2 i (by omega)
      · have hi0 : i = 0 := by
          have := (List.getElem?_eq_some_iff.1 hu).1
          simp at this; omega
        subst hi0
        have hu' : Value.slice (A j) (L j) (C j) = u := by simpa using hu
        subst hu'
        have : (Kd.slice q Kd.bool).sz = 1 := rfl
        rw [this, Nat.mul_one, Nat.add_zero]
        exact h1
    · obtain ⟨r, hr, rfl⟩ := List.mem_map.1 hx
      have := hLM r (by have := List.mem_range.1 hr; omega)
      simpa using this
/-- The whole row. -/
theorem row {r : Reach} {b0 : Nat} {t : TypeId} {f0 f1 f2 f3 : Field} {v : Value} {d : DataW H} {p : List MemPlace} {ti tb q : TypeId} (hs : P.underlying t = some (.struct #[f0, f1, f2, f3])) (hone : oneCellFields P #[f0, f1, f2, f3] = true) (hC : P.cellsOf t = 4)
    (h0 : P.underlying f0.type = some (.slice ti)) (h1 : P.underlying f1.type = some (.slice ti)) (hi : P.underlying ti = some (.int .i64)) (ci : P.cellsOf ti = 1)
    (h2 : P.underlying f2.type = some (.slice q)) (hq : P.underlying q = some .bool) (cq : P.cellsOf q = 1)
    (h3 : P.underlying f3.type = some (.slice tb)) (hb : P.underlying tb = some (.slice q)) (cb : P.cellsOf tb = 1)
    (hv : Value.okWide P w r b0 t v) (h : DataW.Trod enc P w base (fun _ => true) held t v d p) :
    ∃ (A0 : Option Addr) (c0 : Nat) (l0 : List Int) (A1 : Option Addr) (c1 : Nat) (l1 : List Int) (A2 : Option Addr) (c2 : Nat) (l2 : List Bool) (A3 : Option Addr) (c3 : Nat) (l3 : List (List Bool)),
      v = .agg #[.slice A0 l0.length c0, .slice A1 l1.length c1, .slice A2 l2.length c2, .slice A3 l3.length c3] ∧
      (Kd.C (Kd.int .i64) w A0 l0.length l0 ∧ l0.length ≤ c0) ∧ (Kd.C (Kd.int .i64) w A1 l1.length l1 ∧ l1.length ≤ c1) ∧ (Kd.C Kd.bool w A2 l2.length l2 ∧ l2.length ≤ c2) ∧ (Kd.C (Kd.slice q Kd.bool) w A3 l3.length l3 ∧ l3.length ≤ c3) ∧
      (l0.length ≤ 9223372036854775807 ∧ l1.length ≤ 9223372036854775807 ∧ l2.length ≤ 9223372036854775807 ∧ l3.length ≤ 9223372036854775807 ∧ ∀ x ∈ l3, x.length ≤ 9223372036854775807) := by
  obtain ⟨v0, v1, v2, v3, y0, y1, y2, y3, n, rfl, _, _, g0, g1, g2, g3⟩ := Joins.open_agg4 hs hone hC hv h
  obtain ⟨A0, c0, l0, rfl, k0, m0, z0⟩ := ints h0 hi ci g0
  obtain ⟨A1, c1, l1, rfl, k1, m1, z1⟩ := ints h1 hi ci g1
  obtain ⟨A2, c2, l2, rfl, k2, m2, z2⟩ := bools h2 hq cq g2
  obtain ⟨A3, c3, l3, rfl, k3, m3, z3, z4⟩ := rows h3 hb hq cb cq g3
  exact ⟨A0, c0, l0, A1, c1, l1, A2, c2, l2, A3, c3, l3, rfl, ⟨k0, m0⟩, ⟨k1, m1⟩, ⟨k2, m2⟩, ⟨k3, m3⟩, z0, z1, z2, z3, z4⟩
end Go.Proofs.Ytpdcghclcgbcfab.Open
