/- The law FnExactHasFence answers true: the program's HasFence gives what the reference's gives, for every instruction. No condition. -/
import Derived.Test.YtimlilgdbkcpoaaQFnExactHasFence
namespace Go.Proofs.Ytimlilgdbkcpoaa.Pure
open Go.RowKit Go.Proofs.Ytimlilgdbkcpoaa.P Go.Proofs.YtimlilgdbkcpoaaW.PrintWords

theorem FnExactHasFence : laws_FnExactHasFence.Left := by
  intro op r s n
  unfold laws_FnExactHasFence.f laws_toInstr.f impl_HasFence.f spec_HasFence.f
  by_cases h1 : op = 4
  · simp [h1]
  · by_cases h2 : op = 5 <;> simp [h1, h2]

end Go.Proofs.Ytimlilgdbkcpoaa.Pure
