import Derived.Test.YtkjndikkdbfhbaaPlawsFnExactProgOk
import Derived.Test.YtkjndikkdbfhbaaPrg
-- Written by mp.py (the session's own driver over the kit's printer) for the seat Ytkjndikkdbfhbaa.
namespace Go.Proofs.Ytkjndikkdbfhbaa.P
open Go.RowKit Go.Proofs.YtkjndikkdbfhbaaW.PrintWords Go.Proofs.YtkjndikkdbfhbaaW.PrintLast Go.Proofs.YtkjndikkdbfhbaaW.PrintMore
attribute [local go_sem] max2_int min2_int max_two min_two max_three min_three max_four min_four
set_option linter.unusedVariables false
set_option linter.unusedSimpArgs false

/-- What is left of the law FnExactProgOk: no program and no memory in it. -/
def laws_FnExactProgOk.Left : Prop := ∀ (a0_0 : Int) (l0_1 : List (List (S178))), (l0_1.length ≤ 9223372036854775807 ∧ ∀ q_ ∈ l0_1, q_.length ≤ 9223372036854775807) → ∃ k, laws_FnExactProgOk.f k a0_0 l0_1 = some true
end Go.Proofs.Ytkjndikkdbfhbaa.P

/- The law FnExactProgOk answers true: the program's ProgOk gives what the reference's gives, for every program, and leaves the program as it was. No condition. -/
namespace Go.Proofs.Ytkjndikkdbfhbaa.Pure
open Go.RowKit Go.Proofs.Ytkjndikkdbfhbaa.P Go.Proofs.Ytkjndikkdbfhbaa.Gen Go.Proofs.YtkjndikkdbfhbaaW.PrintWords

theorem FnExactProgOk : laws_FnExactProgOk.Left := by
  intro c l hl
  refine ⟨3145730, ?_⟩
  unfold laws_FnExactProgOk.f
  obtain ⟨n, hn, hs⟩ := szProg c l 1048576 hl.1 hl.2 (by omega) (by omega) 3145730 (by omega)
  rw [hn, Option.bind_some]
  by_cases h0 : n < 0
  · rw [if_pos h0]
  · rw [if_neg h0]
    rcases hs with hs | ⟨_, _, h1, h2⟩
    · exact absurd hs h0
    · have s2 : ∀ q ∈ l, q.length ≤ 1048576 := fun q hq => by have := h2 q hq; omega
      have hcl := cpProg_len l
      simp only [toProg c l 3145730 (by omega) s2 (by omega), Option.bind_some, spec_progOk c (cpProg l) 3145730 (by omega), impl_progOk, eqProg_same c (cpProg l) (by show _ ≤ _; omega) (cpProg_small s2) 3145730 (by omega)]
      simp

end Go.Proofs.Ytkjndikkdbfhbaa.Pure
