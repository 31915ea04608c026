/- The law FnExactGoodRef answers true: the program's GoodRef gives what the reference's gives, for every heap and reference, and leaves the heap as it was. No condition. -/
import Derived.Test.YtkjndikkdbfhbaaQFnExactGoodRef
import Derived.Test.YtkjndikkdbfhbaaHeap
namespace Go.Proofs.Ytkjndikkdbfhbaa.Pure
open Go.RowKit Go.Proofs.Ytkjndikkdbfhbaa.P Go.Proofs.Ytkjndikkdbfhbaa.Gen Go.Proofs.YtkjndikkdbfhbaaW.PrintWords

theorem heapB_lens {g : List Int} {v : List Bool} (h : heapB g v = true) : 1 ≤ g.length ∧ g.length ≤ 24 ∧ v.length = g.length := by
  unfold heapB at h
  simp only [Bool.and_eq_true, decide_eq_true_eq] at h
  have := inB_true.1 h.1.1
  exact ⟨by omega, by omega, h.1.2⟩
def goodV (g : List Int) (v : List Bool) (o n : Int) : Bool := heapB g v && (inB o 0 (g.length - 1) && (rdOf false v o && rd g o == n))
theorem impl_goodRef (g : List Int) (v : List Bool) (o n : Int) (k : Nat) (hk : 26 ≤ k) : impl_GoodRef.f k g v o n = some (goodV g v o n) := by
  unfold impl_GoodRef.f goodV
  rw [impl_heapOk g v k hk, Option.bind_some]
  by_cases h : heapB g v = true
  · obtain ⟨h1, h2, h3⟩ := heapB_lens h
    rw [if_pos h, h, Bool.true_and]
    unfold impl_Heap_isGood.f
    by_cases c : inB o 0 (g.length - 1) = true
    · have := inB_true.1 c
      rw [if_pos this, if_pos (by omega), c]
      by_cases d : rdOf false v o = true <;> simp [d]
    · rw [if_neg (fun q => c (inB_true.2 q))]
      simp [c]
  · simp [h]
theorem spec_goodRef (g : List Int) (v : List Bool) (o n : Int) (k : Nat) (hk : 26 ≤ k) : spec_GoodRef.f k g v o n = some (goodV g v o n) := by
  unfold spec_GoodRef.f goodV
  rw [spec_heapOk g v k hk, Option.bind_some]
  by_cases h : heapB g v = true
  · obtain ⟨h1, h2, h3⟩ := heapB_lens h
    rw [if_pos h, h, Bool.true_and, l01In, wrap_id (by omega) (by omega), Option.bind_some]
    by_cases c : inB o 0 (g.length - 1) = true
    · have := inB_true.1 c
      rw [if_pos c, if_pos (by omega), if_pos (by omega), c]
      by_cases d : rdOf false v o = true
      · rw [if_pos d, if_pos (by omega)]
        simp [d]
      · simp [d]
    · simp [c]
  · simp [h]

theorem FnExactGoodRef : laws_FnExactGoodRef.Left := by
  intro g v o n hg hv
  refine ⟨1048577, ?_⟩
  unfold laws_FnExactGoodRef.f laws_toRef.f
  obtain ⟨n', hn, hs⟩ := szHeap g v hg hv
  rw [hn, Option.bind_some]
  by_cases h0 : n' < 0
  · rw [if_pos h0]
  · obtain ⟨h1, h2⟩ := hs (by omega)
    rw [if_neg h0]
    simp only [toHeap g v _ h1 h2 (show 1048576 < 1048577 by omega), Option.bind_some, spec_goodRef g v o n 1048577 (by omega), impl_goodRef g v o n 1048577 (by omega), eqHeap_same g v h1 h2 1048577 (by omega)]
    simp

end Go.Proofs.Ytkjndikkdbfhbaa.Pure
