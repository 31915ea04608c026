/- The small tests on numbers, of the program and of the reference, as one Bool each. No condition. -/
import Derived.Test.YtbgclnjnngolmaaGen
import Derived.Test.YtbgclnjnngolmaaPlawsbig
import Derived.Test.YtbgclnjnngolmaaPimplwithin
namespace Go.Proofs.Ytbgclnjnngolmaa.Pure
open Go.RowKit Go.Proofs.Ytbgclnjnngolmaa.P Go.Proofs.Ytbgclnjnngolmaa.Gen Go.Proofs.YtbgclnjnngolmaaW.PrintWords

/-- b ≤ a ≤ c. -/
def inB (a b c : Int) : Bool := decide (b ≤ a) && decide (a ≤ c)
theorem inB_true {a b c : Int} : inB a b c = true ↔ b ≤ a ∧ a ≤ c := by simp [inB]
theorem inB_false {a b c : Int} : inB a b c = false ↔ ¬ (b ≤ a ∧ a ≤ c) := by rw [← inB_true]; simp

theorem l01In (a b c : Int) : spec_l01In.f a b c = some (inB a b c) := by
  unfold spec_l01In.f inB
  by_cases h : b ≤ a <;> simp [h]
theorem within (a b c : Int) : impl_within.f a b c = some (inB a b c) := by
  unfold impl_within.f inB
  by_cases h : b ≤ a <;> simp [h]

/-- A value of a cell. -/
def valB (v : Int) : Bool := inB v (-1000000) 1000000

end Go.Proofs.Ytbgclnjnngolmaa.Pure
