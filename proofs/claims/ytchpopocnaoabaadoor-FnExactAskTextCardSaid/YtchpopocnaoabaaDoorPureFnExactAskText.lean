import Derived.Test.YtchpopocnaoabaaDoorPimplAskText
import Derived.Test.YtchpopocnaoabaaDoorAskText
-- Written by mp.py (the session's own driver over the kit's printer) for the seat YtchpopocnaoabaaDoor.
namespace Go.Proofs.YtchpopocnaoabaaDoor.P
open Go.RowKit Go.Proofs.YtchpopocnaoabaaDoorW.PrintWords Go.Proofs.YtchpopocnaoabaaDoorW.PrintLast Go.Proofs.YtchpopocnaoabaaDoorW.PrintMore
attribute [local go_sem] max2_int min2_int max_two min_two max_three min_three max_four min_four
set_option linter.unusedVariables false
set_option linter.unusedSimpArgs false

/-- What is left of the law FnExactAskText: no program and no memory in it. -/
def laws_FnExactAskText.Left : Prop := ∀ (l0 : List (S128)), (l0.length ≤ 9223372036854775807) → ((∀ q_ ∈ l0, ((-9223372036854775808 ≤ q_.f0 ∧ q_.f0 ≤ 9223372036854775807) ∧ ((-9223372036854775808 ≤ q_.f1 ∧ q_.f1 ≤ 9223372036854775807) ∧ ((-9223372036854775808 ≤ q_.f2 ∧ q_.f2 ≤ 9223372036854775807) ∧ ((-9223372036854775808 ≤ q_.f3 ∧ q_.f3 ≤ 9223372036854775807))))))) → ∃ k, laws_FnExactAskText.f k l0 = some true
end Go.Proofs.YtchpopocnaoabaaDoor.P

/- The law FnExactAskText answers true: the program's text of a query is the reference's, for every query; the query is left as it was. No condition. -/
namespace Go.Proofs.YtchpopocnaoabaaDoor.Pure
open Go.RowKit Go.Proofs.YtchpopocnaoabaaDoor.P Go.Proofs.YtchpopocnaoabaaDoor.Gen Go.Proofs.YtchpopocnaoabaaDoorW.PrintWords

theorem FnExactAskText : laws_FnExactAskText.Left := by
  intro l hl hr
  refine ⟨1048600, ?_⟩
  unfold laws_FnExactAskText.f
  rw [szAtomS l _ hl (by omega) (by omega), Option.bind_some]
  by_cases h : (l.length : Int) ≤ 1048576
  · rw [if_pos h, if_neg (by omega)]
    have hL : (l.map cpAtom).length ≤ 1048576 := by rw [List.length_map]; omega
    simp only [toAtomS l 1048600 (show l.length ≤ 1048576 by omega) (by omega), Option.bind_some, spec_askText _ 1048600 (by omega), impl_askText _ hL 1048600 (by omega)]
    rw [if_pos trivial, bne_self_eq_false]
    simp only [laws_FnExactAskText.j0, toAtomS l 1048599 (show l.length ≤ 1048576 by omega) (by omega), Option.bind_some, eqAtomS_same (l.map cpAtom) (by unfold Len; omega) 1048599 (by omega)]
    simp
  · rw [if_neg h]
    rfl

end Go.Proofs.YtchpopocnaoabaaDoor.Pure
