import Derived.Test.YtchpopocnaoabaaDoorPlawsFnExactMemText
import Derived.Test.YtchpopocnaoabaaDoorLine
-- Written by mp.py (the session's own driver over the kit's printer) for the seat YtchpopocnaoabaaDoor.
namespace Go.Proofs.YtchpopocnaoabaaDoor.P
open Go.RowKit Go.Proofs.YtchpopocnaoabaaDoorW.PrintWords Go.Proofs.YtchpopocnaoabaaDoorW.PrintLast Go.Proofs.YtchpopocnaoabaaDoorW.PrintMore
attribute [local go_sem] max2_int min2_int max_two min_two max_three min_three max_four min_four
set_option linter.unusedVariables false
set_option linter.unusedSimpArgs false

/-- What is left of the law FnExactMemText: no program and no memory in it. -/
def laws_FnExactMemText.Left : Prop := ∀ (l0_0 : List Int), (l0_0.length ≤ 9223372036854775807) → ((∀ q_ ∈ l0_0, (-9223372036854775808 ≤ q_ ∧ q_ ≤ 9223372036854775807))) → ∃ k, laws_FnExactMemText.f k l0_0 = some true
end Go.Proofs.YtchpopocnaoabaaDoor.P

/- The law FnExactMemText answers true: the program's text of a memory is the reference's, for every memory; the memory is left as it was. No condition. -/
namespace Go.Proofs.YtchpopocnaoabaaDoor.Pure
open Go.RowKit Go.Proofs.YtchpopocnaoabaaDoor.P Go.Proofs.YtchpopocnaoabaaDoor.Gen Go.Proofs.YtchpopocnaoabaaDoorW.PrintWords

theorem FnExactMemText : laws_FnExactMemText.Left := by
  intro l hl _
  refine ⟨1048577, ?_⟩
  unfold laws_FnExactMemText.f
  rw [szMem l _ hl (by omega) (by omega), Option.bind_some]
  by_cases h : (l.length : Int) ≤ 1048576
  · rw [if_pos h, if_neg (by omega)]
    simp only [toMem l _ (show l.length ≤ 1048576 by omega) (show l.length < 1048577 by omega), Option.bind_some, spec_memText l 1048577 (by omega), impl_memText l 1048577 (by omega), eqMem l l (by unfold Len; omega) 1048577 (by omega)]
    simp
  · rw [if_neg h]
    rfl

end Go.Proofs.YtchpopocnaoabaaDoor.Pure
