/- The law FnExactSameMem answers true: the program's SameMem gives what the reference's gives, for every two memories, and leaves them as they were. No condition. -/
import Derived.Test.YtimlilgdbkcpoaaQFnExactSameMem
import Derived.Test.YtimlilgdbkcpoaaMem
namespace Go.Proofs.Ytimlilgdbkcpoaa.Pure
open Go.RowKit Go.Proofs.Ytimlilgdbkcpoaa.P Go.Proofs.Ytimlilgdbkcpoaa.Gen Go.Proofs.YtimlilgdbkcpoaaW.PrintWords

theorem l01Ints (a b : List Int) (ha : Len a) (k : Nat) (hk : a.length < k) : spec_l01Ints.f k a b = some (decide (a = b)) := by
  unfold spec_l01Ints.f
  by_cases hl : a.length = b.length
  · rw [if_pos (by omega)]
    refine loop_same a b hl (fun k i => spec_l01Ints.l0 k a b i) (fun k j h h' => ?_) (fun k => ?_) k hk
    · simp only [spec_l01Ints.l0]
      rw [if_pos (by omega), if_pos (by omega), if_pos (by omega), rd_nat _ _ h, rd_nat _ _ h', wrap_succ h ha]
    · simp only [spec_l01Ints.l0]
      rw [if_neg (by omega)]
  · rw [if_neg (by omega)]
    refine congrArg some (Eq.symm (decide_eq_false fun h => hl ?_))
    rw [h]
theorem equalInts (a b : List Int) (ha : Len a) (k : Nat) (hk : a.length < k) : slices_Equal_int_int.f k a b = some (decide (a = b)) := by
  unfold slices_Equal_int_int.f
  by_cases hl : a.length = b.length
  · rw [if_pos (by omega)]
    refine loop_same a b hl (fun k i => slices_Equal_int_int.l0 k a b (a.length : Int) i) (fun k j h h' => ?_) (fun k => ?_) k hk
    · simp only [slices_Equal_int_int.l0]
      rw [if_pos (by omega), if_pos (by omega), if_pos (by omega), if_pos (by omega), rd_nat _ _ h, rd_nat _ _ h', wrap_succ h ha]
    · simp only [slices_Equal_int_int.l0]
      rw [if_neg (by omega)]
  · rw [if_neg (by omega)]
    refine congrArg some (Eq.symm (decide_eq_false fun h => hl ?_))
    rw [h]
def sameB (a b : List Int) : Bool := memB a && memB b && decide (a = b)
theorem spec_sameMem (a b : List Int) (k : Nat) (hk : 17 ≤ k) : spec_SameMem.f k a b = some (sameB a b) := by
  unfold spec_SameMem.f sameB
  rw [spec_memOk a k hk, spec_memOk b k hk, Option.bind_some]
  by_cases h : memB a = true
  · have := memB_len h
    rw [if_pos h, Option.bind_some, l01Ints a b (by unfold Len; omega) k (by omega)]
    by_cases h2 : memB b = true <;> simp [h, h2]
  · simp [h]
theorem impl_sameMem (a b : List Int) (k : Nat) (hk : 17 ≤ k) : impl_SameMem.f k a b = some (sameB a b) := by
  unfold impl_SameMem.f sameB
  rw [impl_memOk, impl_memOk, Option.bind_some]
  by_cases h : memB a = true
  · have := memB_len h
    rw [if_pos h, Option.bind_some, equalInts a b (by unfold Len; omega) k (by omega)]
    by_cases h2 : memB b = true <;> simp [h, h2]
  · simp [h]

theorem FnExactSameMem : laws_FnExactSameMem.Left := by
  intro a b ha hb
  refine ⟨1048577, ?_⟩
  unfold laws_FnExactSameMem.f
  rw [szMem a _ ha (by omega) (by omega), Option.bind_some]
  by_cases h : (a.length : Int) ≤ 1048576
  · rw [if_pos h, if_neg (by omega), szMem b _ hb (by omega) (by omega), Option.bind_some]
    by_cases h' : (b.length : Int) ≤ 1048576 - a.length
    · rw [if_pos h', if_neg (by omega)]
      simp only [toMem a _ (show a.length ≤ 1048576 by omega) (show a.length < 1048577 by omega), toMem b _ (show b.length ≤ 1048576 by omega) (show b.length < 1048577 by omega), Option.bind_some, spec_sameMem a b 1048577 (by omega), impl_sameMem a b 1048577 (by omega), eqMem a a (by unfold Len; omega) 1048577 (by omega), eqMem b b (by unfold Len; omega) 1048577 (by omega)]
      simp
    · rw [if_neg h']
      rfl
  · rw [if_neg h]
    rfl

end Go.Proofs.Ytimlilgdbkcpoaa.Pure
