/- A byte out of a list. Over the printed functions. Conditions: those of each lemma. -/
import Derived.Test.YtpdcghclcgbcfaaTx9
import Derived.Test.YtpdcghclcgbcfaaPlain
namespace Go.Proofs.Ytpdcghclcgbcfaa.LinkT
open Go.RowKit Go.Proofs.Ytpdcghclcgbcfaa.T Go.Proofs.Ytpdcghclcgbcfaa.Plain Go.Proofs.YtpdcghclcgbcfaaW.PrintWords Go.Proofs.YtpdcghclcgbcfaaW.PrintLast Go.Proofs.YtpdcghclcgbcfaaW.PrintMore
set_option linter.unusedVariables false
set_option linter.unusedSimpArgs false
theorem wf_u8 {x : Int} (h : (Lit.int .u8 x).wf = true) : 0 ≤ x ∧ x ≤ 255 := by
  simp [Lit.wf, IntKind.min, IntKind.max, IntKind.bits, IntKind.signed] at h
  omega
theorem wByte_is {l : List Int} (hl : l.length ≤ 1048576) (hw : ∀ x ∈ l, (Lit.int .u8 x).wf = true) {a : Int} (h0 : 0 ≤ a) : ∃ v, laws_wByte.f l a = some v ∧ 0 ≤ v ∧ v ≤ 255 := by
  unfold laws_wByte.f
  by_cases c : (l.length : Int) = 0
  · exact ⟨0, by rw [if_pos c], by omega, by omega⟩
  · have h1 : 0 ≤ Int.tmod a l.length := Int.tmod_nonneg _ h0
    have h2 : Int.tmod a l.length < l.length := Int.tmod_lt_of_pos _ (by omega)
    have hm : rd l (Int.tmod a l.length) ∈ l := by
      unfold rd
      rw [List.getD_eq_getElem?_getD, List.getElem?_eq_getElem (show (Int.tmod a l.length).toNat < l.length by omega)]
      exact List.getElem_mem _
    have hb := wf_u8 (hw _ hm)
    refine ⟨rd l (Int.tmod a l.length), ?_, hb.1, hb.2⟩
    rw [if_neg c, if_pos h1, if_pos h2, w64 (by omega) (by omega)]
end Go.Proofs.Ytpdcghclcgbcfaa.LinkT
