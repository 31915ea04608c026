/- The law FnExactWaits answers true: the program's Waits gives what the reference's gives, for every buffer and address, and leaves the buffer as it was. No condition. -/
import Derived.Test.YtimlilgdbkcpoaaQFnExactWaits
import Derived.Test.YtimlilgdbkcpoaaSlot
namespace Go.Proofs.Ytimlilgdbkcpoaa.Pure
open Go.RowKit Go.Proofs.Ytimlilgdbkcpoaa.P Go.Proofs.Ytimlilgdbkcpoaa.Gen Go.Proofs.YtimlilgdbkcpoaaW.PrintWords

/-- How many slots have the address a, from b on. -/
def waitsV (l : List Slot) (a : Int) : Int := if bufB l = true then l.foldl (fun b x => if x.f0 = a then wrap64 (b + 1) else b) 0 else -1
theorem spec_waits (l : List Slot) (a : Int) (k : Nat) (hk : 5 ≤ k) : spec_Waits.f k l a = some (waitsV l a) := by
  unfold spec_Waits.f waitsV
  rw [spec_bufOk l k (by omega), Option.bind_some]
  by_cases h : bufB l = true
  · have := bufB_len h
    rw [if_pos h, if_pos h]
    exact loop_fold l (fun b x => if x.f0 = a then wrap64 (b + 1) else b) id (fun k b i => spec_Waits.l0 k l a b i) (fun k b j hj => by
      simp only [spec_Waits.l0]
      rw [if_pos (by omega), if_pos (by omega), rdSlot _ _ hj, wrap_succ hj (by omega)]
      by_cases c : l[j].f0 = a <;> simp [c]) (fun k b => by
      simp only [spec_Waits.l0]
      rw [if_neg (by omega)]
      rfl) k 0 (by omega)
  · rw [if_neg h, if_neg h]
theorem impl_waits (l : List Slot) (a : Int) (k : Nat) (hk : 5 ≤ k) : impl_Waits.f k l a = some (waitsV l a) := by
  unfold impl_Waits.f waitsV
  rw [impl_bufOk, Option.bind_some]
  by_cases h : bufB l = true
  · have := bufB_len h
    rw [if_pos h, if_pos h]
    exact loop_fold l (fun b x => if x.f0 = a then wrap64 (b + 1) else b) id (fun k b i => impl_Waits.l0 k a b l (l.length : Int) i) (fun k b j hj => by
      simp only [impl_Waits.l0]
      rw [if_pos (by omega), if_pos (by omega), if_pos (by omega), rdSlot _ _ hj, wrap_succ hj (by omega)]
      by_cases c : l[j].f0 = a <;> simp [c]) (fun k b => by
      simp only [impl_Waits.l0]
      rw [if_neg (by omega)]
      rfl) k 0 (by omega)
  · rw [if_neg h, if_neg h]

theorem FnExactWaits : laws_FnExactWaits.Left := by
  intro l a hl
  refine ⟨1048577, ?_⟩
  unfold laws_FnExactWaits.f
  rw [szSlotS l _ hl (by omega) (by omega), Option.bind_some]
  by_cases h : (l.length : Int) ≤ 1048576
  · rw [if_pos h, if_neg (by omega)]
    simp only [toSlotS l _ (show l.length ≤ 1048576 by omega) (show l.length < 1048577 by omega), Option.bind_some, spec_waits _ a 1048577 (by omega), impl_waits _ a 1048577 (by omega), eqSlotS_same (l.map cpSlot) (by unfold Len; simp; omega) 1048577 (by simp; omega)]
    simp
  · rw [if_neg h]
    rfl

end Go.Proofs.Ytimlilgdbkcpoaa.Pure
