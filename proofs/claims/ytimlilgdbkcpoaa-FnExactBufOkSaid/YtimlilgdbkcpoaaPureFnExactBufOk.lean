/- The law FnExactBufOk answers true: the program's BufOk gives what the reference's gives, for every buffer, and leaves it as it was. No condition. -/
import Derived.Test.YtimlilgdbkcpoaaQFnExactBufOk
import Derived.Test.YtimlilgdbkcpoaaSlot
namespace Go.Proofs.Ytimlilgdbkcpoaa.Pure
open Go.RowKit Go.Proofs.Ytimlilgdbkcpoaa.P Go.Proofs.Ytimlilgdbkcpoaa.Gen Go.Proofs.YtimlilgdbkcpoaaW.PrintWords

theorem FnExactBufOk : laws_FnExactBufOk.Left := by
  intro l hl
  refine ⟨1048577, ?_⟩
  unfold laws_FnExactBufOk.f
  rw [szSlotS l _ hl (by omega) (by omega), Option.bind_some]
  by_cases h : (l.length : Int) ≤ 1048576
  · rw [if_pos h, if_neg (by omega)]
    simp only [toSlotS l _ (show l.length ≤ 1048576 by omega) (show l.length < 1048577 by omega), Option.bind_some, spec_bufOk _ 1048577 (by omega), impl_bufOk, eqSlotS_same (l.map cpSlot) (by unfold Len; simp; omega) 1048577 (by simp; omega)]
    simp
  · rw [if_neg h]
    rfl

end Go.Proofs.Ytimlilgdbkcpoaa.Pure
