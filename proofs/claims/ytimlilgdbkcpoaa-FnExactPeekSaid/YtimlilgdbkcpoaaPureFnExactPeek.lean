/- The law FnExactPeek answers true: the program's Peek gives what the reference's gives, for every memory and address, and leaves the memory as it was. No condition. -/
import Derived.Test.YtimlilgdbkcpoaaQFnExactPeek
import Derived.Test.YtimlilgdbkcpoaaPeek
namespace Go.Proofs.Ytimlilgdbkcpoaa.Pure
open Go.RowKit Go.Proofs.Ytimlilgdbkcpoaa.P Go.Proofs.Ytimlilgdbkcpoaa.Gen Go.Proofs.YtimlilgdbkcpoaaW.PrintWords

theorem FnExactPeek : laws_FnExactPeek.Left := by
  intro l a hl
  refine ⟨1048577, ?_⟩
  unfold laws_FnExactPeek.f
  rw [szMem l _ hl (by omega) (by omega), Option.bind_some]
  by_cases h : (l.length : Int) ≤ 1048576
  · rw [if_pos h, if_neg (by omega)]
    simp only [toMem l _ (show l.length ≤ 1048576 by omega) (show l.length < 1048577 by omega), Option.bind_some, spec_peek l a 1048577 (by omega), impl_peek, eqMem l l (by unfold Len; omega) 1048577 (by omega)]
    simp
  · rw [if_neg h]
    rfl

end Go.Proofs.Ytimlilgdbkcpoaa.Pure
