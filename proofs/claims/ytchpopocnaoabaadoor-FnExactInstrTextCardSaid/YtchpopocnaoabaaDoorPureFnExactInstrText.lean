import Derived.Test.YtchpopocnaoabaaDoorPlawsFnExactInstrText
import Derived.Test.YtchpopocnaoabaaDoorInstrText
-- Written by mp.py (the session's own driver over the kit's printer) for the seat YtchpopocnaoabaaDoor.
namespace Go.Proofs.YtchpopocnaoabaaDoor.P
open Go.RowKit Go.Proofs.YtchpopocnaoabaaDoorW.PrintWords Go.Proofs.YtchpopocnaoabaaDoorW.PrintLast Go.Proofs.YtchpopocnaoabaaDoorW.PrintMore
attribute [local go_sem] max2_int min2_int max_two min_two max_three min_three max_four min_four
set_option linter.unusedVariables false
set_option linter.unusedSimpArgs false

/-- What is left of the law FnExactInstrText: no program and no memory in it. -/
def laws_FnExactInstrText.Left : Prop := ∀ (a0_0 : Int) (a0_1 : Int) (a0_2 : Int) (a0_3 : Int), ((-9223372036854775808 ≤ a0_0 ∧ a0_0 ≤ 9223372036854775807)) → ((-9223372036854775808 ≤ a0_1 ∧ a0_1 ≤ 9223372036854775807)) → ((-9223372036854775808 ≤ a0_2 ∧ a0_2 ≤ 9223372036854775807)) → ((-9223372036854775808 ≤ a0_3 ∧ a0_3 ≤ 9223372036854775807)) → ∃ k, laws_FnExactInstrText.f k a0_0 a0_1 a0_2 a0_3 = some true
end Go.Proofs.YtchpopocnaoabaaDoor.P

/- The law FnExactInstrText answers true: the program's text of an instruction is the reference's, for every instruction. No condition. -/
namespace Go.Proofs.YtchpopocnaoabaaDoor.Pure
open Go.RowKit Go.Proofs.YtchpopocnaoabaaDoor.P Go.Proofs.YtchpopocnaoabaaDoor.Gen Go.Proofs.YtchpopocnaoabaaDoorW.PrintWords

theorem FnExactInstrText : laws_FnExactInstrText.Left := by
  intro op r s n _ hr hs hn
  refine ⟨40, ?_⟩
  unfold laws_FnExactInstrText.f laws_toInstr.f
  simp only [Option.bind_some, spec_instrText op r s n hr hs hn 40 (by omega), impl_instrText op r s n hr hs hn 40 (by omega), if_true]

end Go.Proofs.YtchpopocnaoabaaDoor.Pure
