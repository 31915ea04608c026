/- Is a heap valid: the program's test and the reference's, as one Bool; and the laws' words on heaps. No condition but that lengths are lengths. -/
import Derived.Test.YtkjndikkdbfhbaaScal
import Derived.Test.YtkjndikkdbfhbaaInts
import Derived.Test.YtkjndikkdbfhbaaBools
import Derived.Test.YtkjndikkdbfhbaaPlawsszBoolS
import Derived.Test.YtkjndikkdbfhbaaPlawstoHeap
import Derived.Test.YtkjndikkdbfhbaaPlawstoHeap
import Derived.Test.YtkjndikkdbfhbaaPlawsszBoolS
import Derived.Test.YtkjndikkdbfhbaaPlawseqHeap
namespace Go.Proofs.Ytkjndikkdbfhbaa.Pure
open Go.RowKit Go.Proofs.Ytkjndikkdbfhbaa.P Go.Proofs.Ytkjndikkdbfhbaa.Gen Go.Proofs.YtkjndikkdbfhbaaW.PrintWords

/-- Generation g of an object that is live (v) or not. -/
def genB (x : Int × Bool) : Bool := inB x.1 0 1000000 && !(x.2 && x.1 == 0)
def heapB (g : List Int) (v : List Bool) : Bool := inB (g.length : Int) 1 24 && decide (v.length = g.length) && (g.zip v).all genB

theorem spec_heapOk (g : List Int) (v : List Bool) (k : Nat) (hk : 26 ≤ k) : spec_HeapOk.f k g v = some (heapB g v) := by
  unfold spec_HeapOk.f heapB
  rw [l01In, Option.bind_some]
  obtain ⟨k, rfl⟩ : ∃ m, k = m + 1 := ⟨k - 1, by omega⟩
  by_cases h1 : inB (g.length : Int) 1 24 = true
  · have hg := inB_true.1 h1
    by_cases h2 : v.length = g.length
    · simp only [h1, if_true, Bool.true_and, spec_HeapOk.j0]
      rw [if_neg (by simp [h2])]
      simp only [h2, decide_true, Bool.true_and]
      have hz : (g.zip v).length = g.length := by simp [h2]
      have := loop_all (g.zip v) genB (fun k i => spec_HeapOk.l0 k i g v) (fun k j h => by
        have hj : j < g.length := by omega
        have hj' : j < v.length := by omega
        simp only [spec_HeapOk.l0, l01In, Option.bind_some]
        rw [if_pos (by omega), if_pos (by omega), rd_nat _ _ hj, rdOf_nat _ _ _ hj', wrap_succ hj (by omega), List.getElem_zip]
        unfold genB
        by_cases c1 : inB g[j] 0 1000000 = true
        · rw [if_pos c1, if_pos (by omega)]
          by_cases c2 : v[j] = true
          · have c3 := inB_true.1 c1
            by_cases c4 : g[j] = 0
            · simp [c2, c4]
            · simp [c1, c2, c4]
          · simp [c1, c2]
        · simp [c1]) (fun k => by
        simp only [spec_HeapOk.l0]
        rw [if_neg (by omega)]) k (by omega)
      exact this
    · simp only [h1, if_true, spec_HeapOk.j0]
      rw [if_pos (by simp; omega)]
      simp [h2]
  · simp only [Bool.not_eq_true] at h1
    simp [h1, spec_HeapOk.j0]

theorem impl_heapOk (g : List Int) (v : List Bool) (k : Nat) (hk : 26 ≤ k) : impl_HeapOk.f k g v = some (heapB g v) := by
  unfold impl_HeapOk.f heapB
  rw [within, Option.bind_some]
  obtain ⟨k, rfl⟩ : ∃ m, k = m + 1 := ⟨k - 1, by omega⟩
  by_cases h1 : inB (g.length : Int) 1 24 = true
  · have hg := inB_true.1 h1
    by_cases h2 : v.length = g.length
    · simp only [h1, if_true, Bool.true_and, impl_HeapOk.j0]
      rw [if_neg (by simp [h2])]
      simp only [h2, decide_true, Bool.true_and]
      have hz : (g.zip v).length = g.length := by simp [h2]
      have := loop_all (g.zip v) genB (fun k i => impl_HeapOk.l0 k g (g.length : Int) i g v) (fun k j h => by
        have hj : j < g.length := by omega
        have hj' : j < v.length := by omega
        simp only [impl_HeapOk.l0]
        rw [if_pos (by omega), if_pos (by omega), if_pos (by omega), if_pos (by omega), rd_nat _ _ hj, rdOf_nat _ _ _ hj', wrap_succ hj (by omega), List.getElem_zip]
        unfold genB impl_flag.f
        by_cases c2 : v[j] = true
        · simp only [c2, if_true, Option.bind_some, within]
          by_cases c1 : inB g[j] 1 1000000 = true
          · have := inB_true.1 c1
            have c3 : inB g[j] 0 1000000 = true := inB_true.2 (by omega)
            have c4 : ¬ g[j] = 0 := by omega
            simp [c1, c3, c4]
          · have c3 : ¬ (inB g[j] 0 1000000 = true ∧ ¬ g[j] = 0) := fun ⟨h, h'⟩ => c1 (inB_true.2 (by have := inB_true.1 h; omega))
            rw [if_neg c1]
            by_cases c4 : g[j] = 0
            · simp [c4]
            · have c5 : inB g[j] 0 1000000 = false := by
                by_cases q : inB g[j] 0 1000000 = true
                · exact absurd ⟨q, c4⟩ c3
                · simpa using q
              simp [c5]
        · simp only [c2, Option.bind_some, within]
          simp) (fun k => by
        simp only [impl_HeapOk.l0]
        rw [if_neg (by omega)]) k (by omega)
      exact this
    · simp only [h1, if_true, impl_HeapOk.j0]
      rw [if_pos (by simp; omega)]
      simp [h2]
  · simp only [Bool.not_eq_true] at h1
    simp [h1, impl_HeapOk.j0]

theorem toHeap (g : List Int) (v : List Bool) (k : Nat) (h1 : g.length ≤ 1048576) (h2 : v.length ≤ 1048576) (hk : 1048576 < k) : laws_toHeap.f k g v = some (g, v) := by
  unfold laws_toHeap.f
  rw [toIntS g k h1 (by omega), Option.bind_some, toBoolS v k h2 (by omega)]
  rfl
theorem szHeap (g : List Int) (v : List Bool) (hg : Len g) (hv : Len v) : ∃ n, laws_szHeap.f g v 1048576 = some n ∧ (0 ≤ n → g.length ≤ 1048576 ∧ v.length ≤ 1048576) := by
  unfold laws_szHeap.f
  rw [szIntS g 1048576 hg (by omega) (by omega), Option.bind_some]
  by_cases c : (g.length : Int) ≤ 1048576
  · rw [if_pos c, if_neg (by omega), szBoolS v _ hv (by omega) (by omega), Option.bind_some]
    by_cases d : (v.length : Int) ≤ 1048576 - g.length
    · rw [if_pos d, if_neg (by omega)]
      exact ⟨_, rfl, fun _ => by omega⟩
    · rw [if_neg d]
      exact ⟨_, rfl, fun h => by simp at h⟩
  · rw [if_neg c]
    exact ⟨_, rfl, fun h => by simp at h⟩
theorem eqHeap_same (g : List Int) (v : List Bool) (h1 : g.length ≤ 1048576) (h2 : v.length ≤ 1048576) (k : Nat) (hk : 1048576 < k) : laws_eqHeap.f k g v g v = some true := by
  unfold laws_eqHeap.f
  rw [eqIntS g g (by unfold Len; omega) k (by omega), Option.bind_some, eqBoolS v v (by unfold Len; omega) k (by omega)]
  simp

end Go.Proofs.Ytkjndikkdbfhbaa.Pure
