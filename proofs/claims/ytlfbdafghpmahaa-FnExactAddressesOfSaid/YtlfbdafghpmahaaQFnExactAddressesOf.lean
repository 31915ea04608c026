-- Written by mp.py (the session's own driver over the kit's printer) for the seat Ytlfbdafghpmahaa.
import Derived.Test.YtlfbdafghpmahaaV2
import Derived.Test.YtlfbdafghpmahaaPlawsFnExactAddressesOf
namespace Go.Proofs.Ytlfbdafghpmahaa.P
open Go.RowKit Go.Proofs.YtlfbdafghpmahaaW.PrintWords Go.Proofs.YtlfbdafghpmahaaW.PrintLast Go.Proofs.YtlfbdafghpmahaaW.PrintMore
attribute [local go_sem] max2_int min2_int max_two min_two max_three min_three max_four min_four
set_option linter.unusedVariables false
set_option linter.unusedSimpArgs false

/-- What is left of the law FnExactAddressesOf: no program and no memory in it. -/
def laws_FnExactAddressesOf.Left : Prop := ∀ (l0 : List (S84)), (l0.length ≤ 9223372036854775807) → ∃ k, laws_FnExactAddressesOf.f k l0 = some true
end Go.Proofs.Ytlfbdafghpmahaa.P
