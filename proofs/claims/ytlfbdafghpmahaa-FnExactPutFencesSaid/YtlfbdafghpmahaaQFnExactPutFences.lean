-- Written by mp.py (the session's own driver over the kit's printer) for the seat Ytlfbdafghpmahaa.
import Derived.Test.YtlfbdafghpmahaaV2
import Derived.Test.YtlfbdafghpmahaaPlawsFnExactPutFences
namespace Go.Proofs.Ytlfbdafghpmahaa.P
open Go.RowKit Go.Proofs.YtlfbdafghpmahaaW.PrintWords Go.Proofs.YtlfbdafghpmahaaW.PrintLast Go.Proofs.YtlfbdafghpmahaaW.PrintMore
attribute [local go_sem] max2_int min2_int max_two min_two max_three min_three max_four min_four
set_option linter.unusedVariables false
set_option linter.unusedSimpArgs false

/-- What is left of the law FnExactPutFences: no program and no memory in it. -/
def laws_FnExactPutFences.Left : Prop := ∀ (a0_0 : Int) (l0_1 : List (List (S84))) (l1 : List (S119)), (l0_1.length ≤ 9223372036854775807 ∧ ∀ q_ ∈ l0_1, q_.length ≤ 9223372036854775807) → (l1.length ≤ 9223372036854775807) → ∃ k, laws_FnExactPutFences.f k a0_0 l0_1 l1 = some true
end Go.Proofs.Ytlfbdafghpmahaa.P
