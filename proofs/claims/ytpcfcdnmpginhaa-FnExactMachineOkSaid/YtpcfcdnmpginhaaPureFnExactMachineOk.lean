import Derived.Test.YtpcfcdnmpginhaaPlawsFnExactMachineOk
import Derived.Test.YtpcfcdnmpginhaaMOk
-- Written by mp.py (the session's own driver over the kit's printer) for the seat Ytpcfcdnmpginhaa.
namespace Go.Proofs.Ytpcfcdnmpginhaa.P
open Go.RowKit Go.Proofs.YtpcfcdnmpginhaaW.PrintWords Go.Proofs.YtpcfcdnmpginhaaW.PrintLast Go.Proofs.YtpcfcdnmpginhaaW.PrintMore
attribute [local go_sem] max2_int min2_int max_two min_two max_three min_three max_four min_four
set_option linter.unusedVariables false
set_option linter.unusedSimpArgs false

/-- What is left of the law FnExactMachineOk: no program and no memory in it. -/
def laws_FnExactMachineOk.Left : Prop := ∀ (a0_0 : Int) (l0_1 : List (List (S176))) (l1_0 : List Int) (l1_1 : List (S205)), (l0_1.length ≤ 9223372036854775807 ∧ ∀ q_ ∈ l0_1, q_.length ≤ 9223372036854775807) → (l1_0.length ≤ 9223372036854775807) → (l1_1.length ≤ 9223372036854775807 ∧ ∀ q_ ∈ l1_1, ((q_.f1.length ≤ 9223372036854775807) ∧ (q_.f2.length ≤ 9223372036854775807))) → ∃ k, laws_FnExactMachineOk.f k a0_0 l0_1 l1_0 l1_1 = some true
end Go.Proofs.Ytpcfcdnmpginhaa.P

/- The law FnExactMachineOk answers true: the program's MachineOk gives what the reference's gives, for every program and machine, and leaves both as they were. No condition. -/
namespace Go.Proofs.Ytpcfcdnmpginhaa.Pure
open Go.RowKit Go.Proofs.Ytpcfcdnmpginhaa.P Go.Proofs.Ytpcfcdnmpginhaa.Gen Go.Proofs.YtpcfcdnmpginhaaW.PrintWords

theorem FnExactMachineOk : laws_FnExactMachineOk.Left := by
  intro c l m l1 hl hm hl1
  have hl1' : LenThr l1 := hl1
  refine ⟨3145730, ?_⟩
  unfold laws_FnExactMachineOk.f
  obtain ⟨n, hn, hs⟩ := szProg c l 1048576 hl.1 hl.2 (by omega) (by omega) 3145730 (by omega)
  rw [hn, Option.bind_some]
  by_cases h0 : n < 0
  · rw [if_pos h0]
  · rw [if_neg h0]
    rcases hs with hs | ⟨_, a1, a2, a3⟩
    · exact absurd hs h0
    · obtain ⟨n', hn', hs'⟩ := szMachine m l1 n hm hl1' (by omega) (by omega) 3145730 (by omega)
      rw [hn', Option.bind_some]
      by_cases h1 : n' < 0
      · rw [if_pos h1]
      · rw [if_neg h1]
        rcases hs' with hs' | ⟨_, b1, b2, b3, b4⟩
        · exact absurd hs' h1
        · have s1 := cpThrs_len l1
          have s2 := cpThrs_small b4
          have s3 : ∀ q ∈ l, q.length ≤ 1048576 := fun q hq => by have := a3 q hq; omega
          have s4 := cpProg_len l
          simp only [toProg c l 3145730 (by omega) s3 (by omega), toMachine m l1 3145730 (by omega) (by omega) b4 (by omega), Option.bind_some, spec_machineOk c (cpProg l) m (cpThrs l1) (by omega) (by omega) 3145730 (by omega), impl_machineOk c (cpProg l) m (cpThrs l1) 3145730 (by omega), eqProg_same c (cpProg l) (by show _ ≤ _; omega) (cpProg_small s3) 3145730 (by omega), eqMachine_same m (cpThrs l1) (by omega) (by omega) s2 3145730 (by omega)]
          simp

end Go.Proofs.Ytpcfcdnmpginhaa.Pure
