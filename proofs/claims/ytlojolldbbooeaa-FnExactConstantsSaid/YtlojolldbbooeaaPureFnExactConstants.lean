/- The program's exported constants are the document's: the law FnExactConstants answers true. Conditions: none. -/
import Derived.Test.YtlojolldbbooeaaPFnExactConstantsx1
namespace Go.Proofs.Ytlojolldbbooeaa.Pure
open Go.RowKit Go.Proofs.Ytlojolldbbooeaa.PFnExactConstants Go.Proofs.YtlojolldbbooeaaW.PrintWords Go.Proofs.YtlojolldbbooeaaW.PrintLast

/-- YOURS: laws_FnExactConstants.f  = some true
What it reaches (each with k first where it has rounds; `.mono`: more rounds tell the same; `.l0`, ..: its loops, with `.mono_l`): laws_FnExactConstants.f -/
theorem FnExactConstants : laws_FnExactConstants.Pure := by
  rfl

end Go.Proofs.Ytlojolldbbooeaa.Pure
