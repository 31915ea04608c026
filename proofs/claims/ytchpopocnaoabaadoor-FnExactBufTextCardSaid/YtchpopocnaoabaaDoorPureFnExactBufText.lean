import Derived.Test.YtchpopocnaoabaaDoorPlawsFnExactBufText
import Derived.Test.YtchpopocnaoabaaDoorBufText
-- Written by mp.py (the session's own driver over the kit's printer) for the seat YtchpopocnaoabaaDoor.
namespace Go.Proofs.YtchpopocnaoabaaDoor.P
open Go.RowKit Go.Proofs.YtchpopocnaoabaaDoorW.PrintWords Go.Proofs.YtchpopocnaoabaaDoorW.PrintLast Go.Proofs.YtchpopocnaoabaaDoorW.PrintMore
attribute [local go_sem] max2_int min2_int max_two min_two max_three min_three max_four min_four
set_option linter.unusedVariables false
set_option linter.unusedSimpArgs false

/-- What is left of the law FnExactBufText: no program and no memory in it. -/
def laws_FnExactBufText.Left : Prop := ∀ (l0 : List (S121)), (l0.length ≤ 9223372036854775807) → ((∀ q_ ∈ l0, ((-9223372036854775808 ≤ q_.f0 ∧ q_.f0 ≤ 9223372036854775807) ∧ ((-9223372036854775808 ≤ q_.f1 ∧ q_.f1 ≤ 9223372036854775807))))) → ∃ k, laws_FnExactBufText.f k l0 = some true
end Go.Proofs.YtchpopocnaoabaaDoor.P

/- The law FnExactBufText answers true: the program's text of a buffer is the reference's, for every buffer; the buffer is left as it was. No condition. -/
namespace Go.Proofs.YtchpopocnaoabaaDoor.Pure
open Go.RowKit Go.Proofs.YtchpopocnaoabaaDoor.P Go.Proofs.YtchpopocnaoabaaDoor.Gen Go.Proofs.YtchpopocnaoabaaDoorW.PrintWords

theorem FnExactBufText : laws_FnExactBufText.Left := by
  intro l hl hr
  refine ⟨1048580, ?_⟩
  unfold laws_FnExactBufText.f
  rw [szSlotS l _ hl (by omega) (by omega), Option.bind_some]
  by_cases h : (l.length : Int) ≤ 1048576
  · rw [if_pos h, if_neg (by omega)]
    have hi : SlotsI (l.map cpSlot) := by
      intro x hx
      obtain ⟨y, hy, rfl⟩ := List.mem_map.1 hx
      exact ⟨(hr y hy).1, (hr y hy).2⟩
    simp only [toSlotS l _ (show l.length ≤ 1048576 by omega) (show l.length < 1048580 by omega), Option.bind_some, spec_bufText _ hi 1048580 (by omega), impl_bufText _ (by rw [List.length_map]; omega) hi 1048580 (by rw [List.length_map]; omega), eqSlotS_same (l.map cpSlot) (by unfold Len; rw [List.length_map]; omega) 1048580 (by rw [List.length_map]; omega), if_true]
  · rw [if_neg h]
    rfl

end Go.Proofs.YtchpopocnaoabaaDoor.Pure
