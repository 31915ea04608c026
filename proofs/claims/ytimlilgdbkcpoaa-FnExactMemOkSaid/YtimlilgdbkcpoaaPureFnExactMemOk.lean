/- The law FnExactMemOk answers true: the program's MemOk gives what the reference's gives, for every memory, and leaves it as it was. No condition. -/
import Derived.Test.YtimlilgdbkcpoaaQFnExactMemOk
import Derived.Test.YtimlilgdbkcpoaaMem
namespace Go.Proofs.Ytimlilgdbkcpoaa.Pure
open Go.RowKit Go.Proofs.Ytimlilgdbkcpoaa.P Go.Proofs.Ytimlilgdbkcpoaa.Gen Go.Proofs.YtimlilgdbkcpoaaW.PrintWords

theorem FnExactMemOk : laws_FnExactMemOk.Left := by
  intro l hl
  refine ⟨1048577, ?_⟩
  unfold laws_FnExactMemOk.f
  rw [szMem l _ hl (by omega) (by omega), Option.bind_some]
  by_cases h : (l.length : Int) ≤ 1048576
  · rw [if_pos h, if_neg (by omega)]
    simp only [toMem l _ (show l.length ≤ 1048576 by omega) (show l.length < 1048577 by omega), Option.bind_some, spec_memOk l 1048577 (by omega), impl_memOk, eqMem l l (by unfold Len; omega) 1048577 (by omega)]
    simp
  · rw [if_neg h]
    rfl

end Go.Proofs.Ytimlilgdbkcpoaa.Pure
