-- Written by mp.py (the session's own driver over the kit's printer) for the seat Ytimlilgdbkcpoaa.
import Derived.Test.YtimlilgdbkcpoaaPspecWaits
namespace Go.Proofs.Ytimlilgdbkcpoaa.P
open Go.RowKit Go.Proofs.YtimlilgdbkcpoaaW.PrintWords Go.Proofs.YtimlilgdbkcpoaaW.PrintLast Go.Proofs.YtimlilgdbkcpoaaW.PrintMore
attribute [local go_sem] max2_int min2_int max_two min_two max_three min_three max_four min_four
set_option linter.unusedVariables false
set_option linter.unusedSimpArgs false

/-- What is left of the law FnExactWaits: no program and no memory in it. -/
def laws_FnExactWaits.Left : Prop := ∀ (l0 : List (S75)) (a1 : Int), (l0.length ≤ 9223372036854775807) → ∃ k, laws_FnExactWaits.f k l0 a1 = some true
end Go.Proofs.Ytimlilgdbkcpoaa.P
