/- FnExactReadRow: of every text the program reads what the reference reads, and what it gave is marked and held. Conditions: none. -/
import Derived.Test.YtpdcghclcgbcfabXLinkMarkC
namespace Go.Proofs.Ytpdcghclcgbcfab.Pure
open Go.RowKit Go.Proofs.Ytpdcghclcgbcfab.X Go.Proofs.Ytpdcghclcgbcfab.Plain Go.Proofs.Ytpdcghclcgbcfab.LinkX Go.Proofs.YtpdcghclcgbcfabW.PrintWords
theorem FnExactReadRow (a0 : ByteArray) (h : ¬ (a0.size : Int) > 1048576) : ∃ k c ln l0 l1 l2 l3 m q0 q1 q2 q3, spec_ReadRow.f k a0 = some (c, ln, l0, l1, l2, l3) ∧ impl_ReadRow.f k a0 = some (c, ln, l0, l1, l2, l3) ∧ laws_eqTold.f k c ln l0 l1 l2 l3 c ln l0 l1 l2 l3 = some true ∧ laws_markTold.f k c ln l0 l1 l2 l3 1 = some (m, q0, q1, q2, q3) ∧ laws_heldTold.f k c ln q0 q1 q2 q3 1 = some m ∧ 0 ≤ m := by
  obtain ⟨c, ln, l0, l1, l2, l3, s, ⟨k1, e1⟩, ⟨k2, e2⟩⟩ := readRow_ev a0 h
  obtain ⟨m, q0, q1, q2, q3, ⟨k3, e3⟩, ⟨k4, e4⟩, hm⟩ := told_ev c ln s
  obtain ⟨k5, e5⟩ := eqTold_ev c ln s
  exact ⟨k1 + k2 + k3 + k4 + k5, c, ln, l0, l1, l2, l3, m, q0, q1, q2, q3, e2 _ (by omega), e1 _ (by omega), e5 _ (by omega), e3 _ (by omega), e4 _ (by omega), hm⟩
end Go.Proofs.Ytpdcghclcgbcfab.Pure
