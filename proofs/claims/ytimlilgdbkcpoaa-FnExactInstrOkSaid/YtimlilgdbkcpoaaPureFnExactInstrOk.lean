/- The law FnExactInstrOk answers true: the program's InstrOk gives what the reference's gives, for every instruction and every two numbers. No condition. -/
import Derived.Test.YtimlilgdbkcpoaaQFnExactInstrOk
import Derived.Test.YtimlilgdbkcpoaaInstr
namespace Go.Proofs.Ytimlilgdbkcpoaa.Pure
open Go.RowKit Go.Proofs.Ytimlilgdbkcpoaa.P Go.Proofs.YtimlilgdbkcpoaaW.PrintWords

theorem FnExactInstrOk : laws_FnExactInstrOk.Left := by
  intro op r s n c z
  refine ⟨10, ?_⟩
  unfold laws_FnExactInstrOk.f laws_toInstr.f
  simp only [Option.bind_some]
  rw [spec_instrOk op r s n c z 10 (by omega), impl_instrOk op r s n c z 10 (by omega)]
  simp

end Go.Proofs.Ytimlilgdbkcpoaa.Pure
