import Derived.Test.YtchpopocnaoabaaDoorPlawsFnExactCodeText
import Derived.Test.YtchpopocnaoabaaDoorCodeText
-- Written by mp.py (the session's own driver over the kit's printer) for the seat YtchpopocnaoabaaDoor.
namespace Go.Proofs.YtchpopocnaoabaaDoor.P
open Go.RowKit Go.Proofs.YtchpopocnaoabaaDoorW.PrintWords Go.Proofs.YtchpopocnaoabaaDoorW.PrintLast Go.Proofs.YtchpopocnaoabaaDoorW.PrintMore
attribute [local go_sem] max2_int min2_int max_two min_two max_three min_three max_four min_four
set_option linter.unusedVariables false
set_option linter.unusedSimpArgs false

/-- What is left of the law FnExactCodeText: no program and no memory in it. -/
def laws_FnExactCodeText.Left : Prop := ∀ (l0 : List (S44)), (l0.length ≤ 9223372036854775807) → ((∀ q_ ∈ l0, ((-9223372036854775808 ≤ q_.f0 ∧ q_.f0 ≤ 9223372036854775807) ∧ ((-9223372036854775808 ≤ q_.f1 ∧ q_.f1 ≤ 9223372036854775807) ∧ ((-9223372036854775808 ≤ q_.f2 ∧ q_.f2 ≤ 9223372036854775807) ∧ ((-9223372036854775808 ≤ q_.f3 ∧ q_.f3 ≤ 9223372036854775807))))))) → ∃ k, laws_FnExactCodeText.f k l0 = some true
end Go.Proofs.YtchpopocnaoabaaDoor.P

/- The law FnExactCodeText answers true: the program's text of a code is the reference's, for every code; the code is left as it was. No condition. -/
namespace Go.Proofs.YtchpopocnaoabaaDoor.Pure
open Go.RowKit Go.Proofs.YtchpopocnaoabaaDoor.P Go.Proofs.YtchpopocnaoabaaDoor.Gen Go.Proofs.YtchpopocnaoabaaDoorW.PrintWords

theorem FnExactCodeText : laws_FnExactCodeText.Left := by
  intro l hl hr
  refine ⟨1048600, ?_⟩
  unfold laws_FnExactCodeText.f
  rw [szInstrS l _ hl (by omega) (by omega), Option.bind_some]
  by_cases h : (l.length : Int) ≤ 1048576
  · rw [if_pos h, if_neg (by omega)]
    have hi : ∀ x ∈ l.map cpIns, InsI x := by
      intro x hx
      obtain ⟨y, hy, rfl⟩ := List.mem_map.1 hx
      exact (hr y hy).2
    have hL : (l.map cpIns).length ≤ 1048576 := by rw [List.length_map]; omega
    simp only [toInstrS l 1048600 (show l.length ≤ 1048576 by omega) (by omega), Option.bind_some, spec_codeText _ hi 1048600 (by omega), impl_codeText _ hL hi 1048600 (by omega)]
    rw [if_pos trivial, bne_self_eq_false]
    simp only [laws_FnExactCodeText.j0, toInstrS l 1048599 (show l.length ≤ 1048576 by omega) (by omega), Option.bind_some, eqInstrS_same (l.map cpIns) (by unfold Len; omega) 1048599 (by omega)]
    simp
  · rw [if_neg h]
    rfl

end Go.Proofs.YtchpopocnaoabaaDoor.Pure
