/- The law FnExactConstants answers true: each constant of the program has the value that the document names. No condition. -/
import Derived.Test.YtimlilgdbkcpoaaPFnExactConstantsx1
namespace Go.Proofs.Ytimlilgdbkcpoaa.Pure
open Go.RowKit Go.Proofs.Ytimlilgdbkcpoaa.PFnExactConstants Go.Proofs.YtimlilgdbkcpoaaW.PrintWords Go.Proofs.YtimlilgdbkcpoaaW.PrintLast

theorem FnExactConstants : laws_FnExactConstants.Pure := by
  unfold laws_FnExactConstants.Pure laws_FnExactConstants.f
  rfl

end Go.Proofs.Ytimlilgdbkcpoaa.Pure
