-- Written by mp.py (the session's own driver over the kit's printer) for the seat Ytkjndikkdbfhbaa.
import Derived.Test.YtkjndikkdbfhbaaPlawsFnExactLiveRefs
namespace Go.Proofs.Ytkjndikkdbfhbaa.P
open Go.RowKit Go.Proofs.YtkjndikkdbfhbaaW.PrintWords Go.Proofs.YtkjndikkdbfhbaaW.PrintLast Go.Proofs.YtkjndikkdbfhbaaW.PrintMore
attribute [local go_sem] max2_int min2_int max_two min_two max_three min_three max_four min_four
set_option linter.unusedVariables false
set_option linter.unusedSimpArgs false

/-- What is left of the law FnExactLiveRefs: no program and no memory in it. -/
def laws_FnExactLiveRefs.Left : Prop := ∀ (l0_0 : List Int) (l0_1 : List Bool), (l0_0.length ≤ 9223372036854775807) → (l0_1.length ≤ 9223372036854775807) → ∃ k, laws_FnExactLiveRefs.f k l0_0 l0_1 = some true
end Go.Proofs.Ytkjndikkdbfhbaa.P
