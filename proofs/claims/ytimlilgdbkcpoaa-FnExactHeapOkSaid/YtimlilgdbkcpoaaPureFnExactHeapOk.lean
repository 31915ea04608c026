/- The law FnExactHeapOk answers true: the program's HeapOk gives what the reference's gives, for every heap, and leaves it as it was. No condition. -/
import Derived.Test.YtimlilgdbkcpoaaQFnExactHeapOk
import Derived.Test.YtimlilgdbkcpoaaHeap
namespace Go.Proofs.Ytimlilgdbkcpoaa.Pure
open Go.RowKit Go.Proofs.Ytimlilgdbkcpoaa.P Go.Proofs.Ytimlilgdbkcpoaa.Gen Go.Proofs.YtimlilgdbkcpoaaW.PrintWords

theorem FnExactHeapOk : laws_FnExactHeapOk.Left := by
  intro g v hg hv
  refine ⟨1048577, ?_⟩
  unfold laws_FnExactHeapOk.f
  obtain ⟨n, hn, hs⟩ := szHeap g v hg hv
  rw [hn, Option.bind_some]
  by_cases h0 : n < 0
  · rw [if_pos h0]
  · obtain ⟨h1, h2⟩ := hs (by omega)
    rw [if_neg h0, toHeap g v _ h1 h2 (by omega)]
    simp only [Option.bind_some]
    rw [spec_heapOk g v _ (by omega), impl_heapOk g v _ (by omega), eqHeap_same g v h1 h2 _ (by omega)]
    simp

end Go.Proofs.Ytimlilgdbkcpoaa.Pure
