import Derived.Test.YtkjndikkdbfhbaaPlawsFnExactReadThrough
import Derived.Test.YtkjndikkdbfhbaaSlot
import Derived.Test.YtkjndikkdbfhbaaPeek
-- Written by mp.py (the session's own driver over the kit's printer) for the seat Ytkjndikkdbfhbaa.
namespace Go.Proofs.Ytkjndikkdbfhbaa.P
open Go.RowKit Go.Proofs.YtkjndikkdbfhbaaW.PrintWords Go.Proofs.YtkjndikkdbfhbaaW.PrintLast Go.Proofs.YtkjndikkdbfhbaaW.PrintMore
attribute [local go_sem] max2_int min2_int max_two min_two max_three min_three max_four min_four
set_option linter.unusedVariables false
set_option linter.unusedSimpArgs false

/-- What is left of the law FnExactReadThrough: no program and no memory in it. -/
def laws_FnExactReadThrough.Left : Prop := ∀ (l0 : List (S173)) (l1_0 : List Int) (a2 : Int), (l0.length ≤ 9223372036854775807) → (l1_0.length ≤ 9223372036854775807) → ∃ k, laws_FnExactReadThrough.f k l0 l1_0 a2 = some true
end Go.Proofs.Ytkjndikkdbfhbaa.P

/- The law FnExactReadThrough answers true: the program's ReadThrough gives what the reference's gives, for every buffer, memory and address, and leaves both as they were. No condition. -/
namespace Go.Proofs.Ytkjndikkdbfhbaa.Pure
open Go.RowKit Go.Proofs.Ytkjndikkdbfhbaa.P Go.Proofs.Ytkjndikkdbfhbaa.Gen Go.Proofs.YtkjndikkdbfhbaaW.PrintWords

/-- The newest slot's value, or z. -/
def newV (l : List Slot) (a z : Int) : Int := l.foldl (fun b x => if x.f0 = a then x.f1 else b) z
def readV (b : List Slot) (m : List Int) (a : Int) : Int := if bufB b = true ∧ memB m = true then newV b a (peekV m a) else 0
theorem spec_readThrough (b : List Slot) (m : List Int) (a : Int) (k : Nat) (hk : 20 ≤ k) : spec_ReadThrough.f k b m a = some (readV b m a) := by
  unfold spec_ReadThrough.f readV
  rw [spec_bufOk b k (by omega), Option.bind_some]
  obtain ⟨k, rfl⟩ : ∃ q, k = q + 1 := ⟨k - 1, by omega⟩
  by_cases h : bufB b = true
  · have hb := bufB_len h
    rw [if_pos h, spec_memOk m (k + 1) (by omega), Option.bind_some]
    simp only [spec_ReadThrough.j0]
    by_cases h2 : memB m = true
    · rw [if_neg (by simp [h2]), if_pos ⟨h, h2⟩, spec_peek m a k (by omega), Option.bind_some]
      exact loop_fold b (fun z x => if x.f0 = a then x.f1 else z) id (fun k z i => spec_ReadThrough.l0 k b a z i) (fun k z j hj => by
        simp only [spec_ReadThrough.l0]
        rw [if_pos (by omega), if_pos (by omega), rdSlot _ _ hj, wrap_succ hj (by omega)]
        by_cases c : b[j].f0 = a <;> simp [c]) (fun k z => by
        simp only [spec_ReadThrough.l0]
        rw [if_neg (by omega)]
        rfl) k _ (by omega)
    · rw [if_pos (by simpa using h2), if_neg (fun q => h2 q.2)]
  · rw [if_neg h, if_neg (fun q => h q.1)]
    simp [spec_ReadThrough.j0]
theorem newV_snoc (l : List Slot) (x : Slot) (a z : Int) : newV (l ++ [x]) a z = if x.f0 = a then x.f1 else newV l a z := by
  simp [newV]
theorem impl_loop (b : List Slot) (m : List Int) (a : Int) (hb : b.length ≤ 3) : ∀ (d k : Nat), d ≤ b.length → d < k → impl_ReadThrough.l0 k b a ((d : Int) - 1) m = some (newV (b.take d) a (peekV m a)) := by
  intro d
  induction d with
  | zero =>
    intro k hd hk
    obtain ⟨k, rfl⟩ : ∃ q, k = q + 1 := ⟨k - 1, by omega⟩
    simp only [impl_ReadThrough.l0]
    rw [if_neg (by omega), impl_peek]
    rfl
  | succ d ih =>
    intro k hd hk
    obtain ⟨k, rfl⟩ : ∃ q, k = q + 1 := ⟨k - 1, by omega⟩
    have hlt : d < b.length := by omega
    have e : ((d + 1 : Nat) : Int) - 1 = (d : Int) := by omega
    simp only [impl_ReadThrough.l0]
    rw [e, if_pos (by omega), if_pos (by omega), if_pos (by omega), rdSlot _ _ hlt, wrap_id (x := (d : Int) - 1) (by omega) (by omega), ih k (by omega) (by omega), List.take_succ_eq_append_getElem hlt, newV_snoc]
    by_cases c : b[d].f0 = a <;> simp [c]
theorem impl_readThrough (b : List Slot) (m : List Int) (a : Int) (k : Nat) (hk : 20 ≤ k) : impl_ReadThrough.f k b m a = some (readV b m a) := by
  unfold impl_ReadThrough.f readV
  rw [impl_bufOk, Option.bind_some]
  obtain ⟨k, rfl⟩ : ∃ q, k = q + 1 := ⟨k - 1, by omega⟩
  by_cases h : bufB b = true
  · have hb := bufB_len h
    rw [if_pos h, impl_memOk, Option.bind_some]
    simp only [impl_ReadThrough.j0]
    by_cases h2 : memB m = true
    · rw [if_neg (by simp [h2]), if_pos ⟨h, h2⟩, wrap_id (by omega) (by omega), impl_loop b m a hb b.length k (by omega) (by omega), List.take_length]
    · rw [if_pos (by simpa using h2), if_neg (fun q => h2 q.2)]
  · rw [if_neg h, if_neg (fun q => h q.1)]
    simp [impl_ReadThrough.j0]

theorem FnExactReadThrough : laws_FnExactReadThrough.Left := by
  intro b m a hb hm
  refine ⟨1048577, ?_⟩
  unfold laws_FnExactReadThrough.f
  rw [szSlotS b _ hb (by omega) (by omega), Option.bind_some]
  by_cases h : (b.length : Int) ≤ 1048576
  · rw [if_pos h, if_neg (by omega), szMem m _ hm (by omega) (by omega), Option.bind_some]
    by_cases h' : (m.length : Int) ≤ 1048576 - b.length
    · rw [if_pos h', if_neg (by omega)]
      simp only [toSlotS b _ (show b.length ≤ 1048576 by omega) (show b.length < 1048577 by omega), toMem m _ (show m.length ≤ 1048576 by omega) (show m.length < 1048577 by omega), Option.bind_some, spec_readThrough _ m a 1048577 (by omega), impl_readThrough _ m a 1048577 (by omega), eqSlotS_same (b.map cpSlot) (by unfold Len; simp; omega) 1048577 (by simp; omega), eqMem m m (by unfold Len; omega) 1048577 (by omega)]
      simp
    · rw [if_neg h']
      rfl
  · rw [if_neg h]
    rfl

end Go.Proofs.Ytkjndikkdbfhbaa.Pure
