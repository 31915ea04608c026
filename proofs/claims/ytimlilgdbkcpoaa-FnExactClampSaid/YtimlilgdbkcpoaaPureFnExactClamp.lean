/- The law FnExactClamp answers true: the program's Clamp gives what the reference's gives, for every number. No condition. -/
import Derived.Test.YtimlilgdbkcpoaaPFnExactClampx1
namespace Go.Proofs.Ytimlilgdbkcpoaa.Pure
open Go.RowKit Go.Proofs.Ytimlilgdbkcpoaa.PFnExactClamp Go.Proofs.YtimlilgdbkcpoaaW.PrintWords Go.Proofs.YtimlilgdbkcpoaaW.PrintLast

theorem clamp_same (a : Int) : impl_Clamp.f a = spec_Clamp.f a := by
  unfold impl_Clamp.f spec_Clamp.f
  by_cases h1 : a > 1000000
  · rw [if_pos h1]; congr 1; unfold mn mx; split <;> split <;> omega
  · rw [if_neg h1]
    by_cases h2 : a < (-1000000)
    · rw [if_pos h2]; congr 1; unfold mn mx; split <;> split <;> omega
    · rw [if_neg h2]; congr 1; unfold mn mx; split <;> split <;> omega

theorem clamp_some (a : Int) : ∃ r, spec_Clamp.f a = some r := by
  unfold spec_Clamp.f
  split
  · exact ⟨_, rfl⟩
  · split <;> exact ⟨_, rfl⟩

theorem FnExactClamp : laws_FnExactClamp.Pure := by
  intro a _
  obtain ⟨r, hr⟩ := clamp_some a
  unfold laws_FnExactClamp.f
  rw [clamp_same, hr]
  simp

end Go.Proofs.Ytimlilgdbkcpoaa.Pure
