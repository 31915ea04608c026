import Derived.Test.YtpcfcdnmpginhaaPlawsFnExactBenchOk
import Derived.Test.YtpcfcdnmpginhaaBench
-- Written by mp.py (the session's own driver over the kit's printer) for the seat Ytpcfcdnmpginhaa.
namespace Go.Proofs.Ytpcfcdnmpginhaa.P
open Go.RowKit Go.Proofs.YtpcfcdnmpginhaaW.PrintWords Go.Proofs.YtpcfcdnmpginhaaW.PrintLast Go.Proofs.YtpcfcdnmpginhaaW.PrintMore
attribute [local go_sem] max2_int min2_int max_two min_two max_three min_three max_four min_four
set_option linter.unusedVariables false
set_option linter.unusedSimpArgs false

/-- What is left of the law FnExactBenchOk: no program and no memory in it. -/
def laws_FnExactBenchOk.Left : Prop := ∀ (l0_0 : List Int) (l0_1 : List (S194)) (l0_2 : List Int) (l0_3 : List Int) (a0_4 : Int), (l0_0.length ≤ 9223372036854775807) → (l0_1.length ≤ 9223372036854775807) → (l0_2.length ≤ 9223372036854775807) → (l0_3.length ≤ 9223372036854775807) → ∃ k, laws_FnExactBenchOk.f k l0_0 l0_1 l0_2 l0_3 a0_4 = some true
end Go.Proofs.Ytpcfcdnmpginhaa.P

/- The law FnExactBenchOk answers true: the program's BenchOk gives what the reference's gives, for every bench, and leaves it as it was. No condition. -/
namespace Go.Proofs.Ytpcfcdnmpginhaa.Pure
open Go.RowKit Go.Proofs.Ytpcfcdnmpginhaa.P Go.Proofs.Ytpcfcdnmpginhaa.Gen Go.Proofs.YtpcfcdnmpginhaaW.PrintWords

theorem FnExactBenchOk : laws_FnExactBenchOk.Left := by
  intro A H B C n hA hH hB hC
  refine ⟨3145731, ?_⟩
  unfold laws_FnExactBenchOk.f
  obtain ⟨m, hm, hs⟩ := szBench A H B C n hA hH hB hC
  rw [hm, Option.bind_some]
  by_cases h0 : m < 0
  · rw [if_pos h0]
  · rw [if_neg h0]
    have hs := hs.resolve_left h0
    have hl : (H.map cpHold).length = H.length := List.length_map _
    simp only [toBench A H B C n 3145731 (by omega) (by omega) (by omega) (by omega) (by omega), Option.bind_some, spec_benchOk A (H.map cpHold) B C n (by omega) (by omega) (by omega) 3145731 (by omega), impl_benchOk A (H.map cpHold) B C n (by omega) (by omega) 3145731 (by omega), eqBench_same A (H.map cpHold) B C n 3145731 (by omega) (by omega) (by omega) (by omega) (by omega)]
    simp

end Go.Proofs.Ytpcfcdnmpginhaa.Pure
