-- Written by mp.py (the session's own driver over the kit's printer) for the seat Ytimlilgdbkcpoaa.
import Derived.Test.YtimlilgdbkcpoaaPlawsFnExactPeek
namespace Go.Proofs.Ytimlilgdbkcpoaa.P
open Go.RowKit Go.Proofs.YtimlilgdbkcpoaaW.PrintWords Go.Proofs.YtimlilgdbkcpoaaW.PrintLast Go.Proofs.YtimlilgdbkcpoaaW.PrintMore
attribute [local go_sem] max2_int min2_int max_two min_two max_three min_three max_four min_four
set_option linter.unusedVariables false
set_option linter.unusedSimpArgs false

/-- What is left of the law FnExactPeek: no program and no memory in it. -/
def laws_FnExactPeek.Left : Prop := ∀ (l0_0 : List Int) (a1 : Int), (l0_0.length ≤ 9223372036854775807) → ∃ k, laws_FnExactPeek.f k l0_0 a1 = some true
end Go.Proofs.Ytimlilgdbkcpoaa.P
