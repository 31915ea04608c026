import Derived.Test.YtchpopocnaoabaaDoorPlawsFnExactParseInstr
import Derived.Test.YtchpopocnaoabaaDoorParseInstr
-- Written by mp.py (the session's own driver over the kit's printer) for the seat YtchpopocnaoabaaDoor.
namespace Go.Proofs.YtchpopocnaoabaaDoor.P
open Go.RowKit Go.Proofs.YtchpopocnaoabaaDoorW.PrintWords Go.Proofs.YtchpopocnaoabaaDoorW.PrintLast Go.Proofs.YtchpopocnaoabaaDoorW.PrintMore
attribute [local go_sem] max2_int min2_int max_two min_two max_three min_three max_four min_four
set_option linter.unusedVariables false
set_option linter.unusedSimpArgs false

/-- What is left of the law FnExactParseInstr: no program and no memory in it. -/
def laws_FnExactParseInstr.Left : Prop := ∀ (a0 : ByteArray), (a0.size ≤ 140737488351232) → ∃ k, laws_FnExactParseInstr.f k a0 = some true
end Go.Proofs.YtchpopocnaoabaaDoor.P

/- The law FnExactParseInstr answers true: the program's ParseInstr gives what the reference's gives, for every text. No condition. -/
namespace Go.Proofs.YtchpopocnaoabaaDoor.Pure
open Go.RowKit Go.Proofs.YtchpopocnaoabaaDoor.P Go.Proofs.YtchpopocnaoabaaDoor.Gen Go.Proofs.YtchpopocnaoabaaDoorW.PrintWords

theorem FnExactParseInstr : laws_FnExactParseInstr.Left := by
  intro a0 ha
  refine ⟨300, ?_⟩
  unfold laws_FnExactParseInstr.f
  by_cases hsz : (a0.size : Int) > 1048576
  · rw [if_pos hsz]
  rw [if_neg hsz]
  obtain ⟨a, hs, hi⟩ := parseInstr_same a0.data.toList
  rw [list_mk] at hs hi
  rw [hs _ (Nat.le_refl _), hi _ (Nat.le_refl _)]
  simp [laws_eqInstr.f]

end Go.Proofs.YtchpopocnaoabaaDoor.Pure
