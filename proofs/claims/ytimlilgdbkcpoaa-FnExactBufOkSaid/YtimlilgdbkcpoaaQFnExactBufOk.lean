-- Written by mp.py (the session's own driver over the kit's printer) for the seat Ytimlilgdbkcpoaa.
import Derived.Test.YtimlilgdbkcpoaaPlawsFnExactBufOk
namespace Go.Proofs.Ytimlilgdbkcpoaa.P
open Go.RowKit Go.Proofs.YtimlilgdbkcpoaaW.PrintWords Go.Proofs.YtimlilgdbkcpoaaW.PrintLast Go.Proofs.YtimlilgdbkcpoaaW.PrintMore
attribute [local go_sem] max2_int min2_int max_two min_two max_three min_three max_four min_four
set_option linter.unusedVariables false
set_option linter.unusedSimpArgs false

/-- What is left of the law FnExactBufOk: no program and no memory in it. -/
def laws_FnExactBufOk.Left : Prop := ∀ (l0 : List (S75)), (l0.length ≤ 9223372036854775807) → ∃ k, laws_FnExactBufOk.f k l0 = some true
end Go.Proofs.Ytimlilgdbkcpoaa.P
