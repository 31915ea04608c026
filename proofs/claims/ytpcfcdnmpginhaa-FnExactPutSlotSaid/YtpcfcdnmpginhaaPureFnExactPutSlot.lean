import Derived.Test.YtpcfcdnmpginhaaPlawsFnExactPutSlot
import Derived.Test.YtpcfcdnmpginhaaSlot
-- Written by mp.py (the session's own driver over the kit's printer) for the seat Ytpcfcdnmpginhaa.
namespace Go.Proofs.Ytpcfcdnmpginhaa.P
open Go.RowKit Go.Proofs.YtpcfcdnmpginhaaW.PrintWords Go.Proofs.YtpcfcdnmpginhaaW.PrintLast Go.Proofs.YtpcfcdnmpginhaaW.PrintMore
attribute [local go_sem] max2_int min2_int max_two min_two max_three min_three max_four min_four
set_option linter.unusedVariables false
set_option linter.unusedSimpArgs false

/-- What is left of the law FnExactPutSlot: no program and no memory in it. -/
def laws_FnExactPutSlot.Left : Prop := ∀ (l0 : List (S184)) (a1 : Int) (a2 : Int), (l0.length ≤ 9223372036854775807) → ∃ k, laws_FnExactPutSlot.f k l0 a1 a2 = some true
end Go.Proofs.Ytpcfcdnmpginhaa.P

/- The law FnExactPutSlot answers true: the program's PutSlot gives what the reference's gives, for every buffer and slot, in memory of its own, and leaves the buffer as it was. No condition. -/
namespace Go.Proofs.Ytpcfcdnmpginhaa.Pure
open Go.RowKit Go.Proofs.Ytpcfcdnmpginhaa.P Go.Proofs.Ytpcfcdnmpginhaa.Gen Go.Proofs.YtpcfcdnmpginhaaW.PrintWords

def putV (l : List Slot) (a v : Int) : List Slot × Bool := if bufB (l ++ [⟨a, v⟩]) = true then (l ++ [⟨a, v⟩], true) else (l, false)
theorem putV_len (l : List Slot) (a v : Int) : (putV l a v).1.length ≤ l.length + 1 := by
  unfold putV
  split
  · simp
  · exact Nat.le_succ _
theorem bufB_front {l : List Slot} {x : Slot} (h : bufB (l ++ [x]) = true) : bufB l = true := by
  unfold bufB at h ⊢
  simp only [Bool.and_eq_true, decide_eq_true_eq, List.length_append, List.length_singleton, List.all_append] at h ⊢
  exact ⟨by omega, h.2.1⟩
theorem impl_putSlot (l : List Slot) (a v : Int) (hl : l.length ≤ 1048576) : impl_PutSlot.f l a v = some (putV l a v) := by
  unfold impl_PutSlot.f impl_Slot_168.f putV
  rw [if_pos (by omega), Option.bind_some, if_pos (by omega), Option.bind_some, impl_bufOk, Option.bind_some]
  by_cases h : bufB (l ++ [⟨a, v⟩]) = true
  · rw [if_pos h, if_pos h]
  · rw [if_neg h, if_neg h]
    rfl
theorem spec_copy (l : List Slot) (hl : l.length ≤ 1048576) (k : Nat) (hk : l.length < k) : spec_l03Copy.f k l = some l := by
  unfold spec_l03Copy.f
  have key : ∀ d k (j : Nat), j ≤ l.length → l.length - j = d → d < k → spec_l03Copy.l0 k l (l.take j) (j : Int) = some l := by
    intro d
    induction d with
    | zero =>
      intro k j hj hd hk
      obtain ⟨k, rfl⟩ : ∃ m, k = m + 1 := ⟨k - 1, by omega⟩
      obtain rfl : j = l.length := by omega
      simp only [spec_l03Copy.l0]
      rw [if_neg (by omega), List.take_length]
    | succ d ih =>
      intro k j hj hd hk
      obtain ⟨k, rfl⟩ : ∃ m, k = m + 1 := ⟨k - 1, by omega⟩
      have hlt : j < l.length := by omega
      have := ih k (j + 1) (by omega) (by omega) (by omega)
      rw [List.take_succ_eq_append_getElem hlt] at this
      simp only [spec_l03Copy.l0]
      rw [if_pos (by omega), if_pos (by omega), if_pos (by rw [List.length_take]; omega), rdSlot _ _ hlt, wrap_succ hlt (by omega)]
      exact this
  have := key l.length k 0 (Nat.zero_le _) (by omega) hk
  simpa using this
theorem spec_putSlot (l : List Slot) (a v : Int) (hl : l.length ≤ 1048576) (k : Nat) (hk : l.length + 5 < k) : spec_PutSlot.f k l a v = some (putV l a v) := by
  unfold spec_PutSlot.f putV
  simp only [spec_copy l hl k (by omega), Option.bind_some, if_pos (show l.length < 8796093022208 by omega), spec_bufOk l k (by omega), spec_bufOk (l ++ [⟨a, v⟩]) k (by omega)]
  by_cases h : bufB (l ++ [⟨a, v⟩]) = true
  · rw [if_pos (bufB_front h), if_pos h, if_pos h]
  · rw [if_neg h, if_neg h]
    by_cases h' : bufB l = true
    · rw [if_pos h']
    · rw [if_neg h']
theorem markSlotS (l : List Slot) (a : Int) (hl : Len l) (h0 : 0 ≤ a) (h1 : a + 2 * l.length ≤ 9223372036854775807) :
    ∃ l', l'.length = l.length ∧ ∀ k, l.length < k → laws_markSlotS.f k l a = some (a + 2 * l.length, l') ∧ laws_heldSlotS.f k l' a = some (a + 2 * l.length) := by
  have := marked 2 (fun a _ => (⟨a, a + 1⟩ : Slot)) laws_markSlotS.l0 laws_heldSlotS.l0
    (fun k p x r a h0 h1 h2 => by
      have e : ((p ++ x :: r).length : Int) = p.length + r.length + 1 := by simp; omega
      simp only [laws_markSlotS.l0, Option.bind_some]
      rw [if_pos (by omega), if_pos (by omega), Int.toNat_natCast, set_mid, rdSlot _ p.length (by simp), get_mid, rdSlot _ p.length (by simp), get_mid, set_mid, wrap_id (x := a + 1) (by omega) (by omega), wrap_id (x := a + 1 + 1) (by omega) (by omega), wrap_succ (n := (p ++ x :: r).length) (by omega) h2, show a + 1 + 1 = a + (2 : Nat) from by omega])
    (fun k p a => by simp only [laws_markSlotS.l0]; rw [if_neg (by omega)])
    (fun k p x r a h0 h1 h2 => by
      have e : ((p ++ (⟨a, a + 1⟩ : Slot) :: r).length : Int) = p.length + r.length + 1 := by simp; omega
      simp only [laws_heldSlotS.l0]
      rw [if_pos (by omega), if_pos (by omega), rdSlot _ p.length (by simp), get_mid, if_pos rfl, wrap_id (x := a + 1) (by omega) (by omega), if_pos rfl, wrap_id (x := a + 1 + 1) (by omega) (by omega), wrap_succ (n := (p ++ (⟨a, a + 1⟩ : Slot) :: r).length) (by omega) h2, show a + 1 + 1 = a + (2 : Nat) from by omega])
    (fun k p a => by simp only [laws_heldSlotS.l0]; rw [if_neg (by omega)]) l [] a hl h0 (by omega)
  simpa [laws_markSlotS.f, laws_heldSlotS.f] using this
theorem FnExactPutSlot : laws_FnExactPutSlot.Left := by
  intro l a v hl
  refine ⟨1048590, ?_⟩
  unfold laws_FnExactPutSlot.f
  rw [szSlotS l 1048576 hl (by omega) (by omega), Option.bind_some]
  by_cases c : (l.length : Int) ≤ 1048576
  · rw [if_pos c, if_neg (by omega)]
    have hm : (l.map cpSlot).length = l.length := List.length_map _
    have hv := putV_len (l.map cpSlot) a v
    obtain ⟨l1, _, h1⟩ := markSlotS (l.map cpSlot) 1 (by show _ ≤ _; omega) (by omega) (by omega)
    obtain ⟨l2, _, h2⟩ := markSlotS (putV (l.map cpSlot) a v).1 1 (by show _ ≤ _; omega) (by omega) (by omega)
    have n1 : ¬ (1 + 2 * ((l.map cpSlot).length : Int) < 0) := by omega
    have n2 : ¬ (1 + 2 * ((putV (l.map cpSlot) a v).1.length : Int) < 0) := by omega
    simp only [toSlotS l 1048590 (by omega) (by omega), Option.bind_some, spec_putSlot (l.map cpSlot) a v (by omega) 1048590 (by omega), impl_putSlot (l.map cpSlot) a v (by omega), eqSlotS_same (putV (l.map cpSlot) a v).1 (by show _ ≤ _; omega) 1048590 (by omega), if_true, bne_self_eq_false,
      laws_FnExactPutSlot.j0, Bool.false_eq_true, if_false, toSlotS l 1048589 (by omega) (by omega), eqSlotS_same (l.map cpSlot) (by show _ ≤ _; omega) 1048589 (by omega), (h1 1048589 (by omega)).1, if_neg n1, eqSlotS_same (putV (l.map cpSlot) a v).1 (by show _ ≤ _; omega) 1048589 (by omega),
      laws_FnExactPutSlot.j1, (h2 1048588 (by omega)).1, (h2 1048588 (by omega)).2, if_neg n2, toSlotS l 1048588 (by omega) (by omega), eqSlotS_same (putV (l.map cpSlot) a v).1 (by show _ ≤ _; omega) 1048588 (by omega),
      laws_FnExactPutSlot.j2, (h2 1048587 (by omega)).2]
  · rw [if_neg c, if_pos (by omega)]

end Go.Proofs.Ytpcfcdnmpginhaa.Pure
