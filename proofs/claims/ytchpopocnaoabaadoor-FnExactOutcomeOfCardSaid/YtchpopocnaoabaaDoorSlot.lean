/- Is a buffer valid: the program's test and the reference's, as one Bool; and the laws' words on buffers. No condition but that lengths are lengths. -/
import Derived.Test.YtchpopocnaoabaaDoorVals
import Derived.Test.YtchpopocnaoabaaDoorPlawsszSlotS
import Derived.Test.YtchpopocnaoabaaDoorPimplBufOk
import Derived.Test.YtchpopocnaoabaaDoorPlawsszSlotS
import Derived.Test.YtchpopocnaoabaaDoorPlawsszSlotS
import Derived.Test.YtchpopocnaoabaaDoorPlawseqSlotS
namespace Go.Proofs.YtchpopocnaoabaaDoor.Pure
open Go.RowKit Go.Proofs.YtchpopocnaoabaaDoor.P Go.Proofs.YtchpopocnaoabaaDoor.Gen Go.Proofs.YtchpopocnaoabaaDoorW.PrintWords

abbrev Slot := S119
def slotB (x : Slot) : Bool := inB x.f0 0 15 && valB x.f1
def bufB (l : List Slot) : Bool := decide (l.length ≤ 3) && l.all slotB
theorem bufB_len {l : List Slot} (h : bufB l = true) : l.length ≤ 3 := by
  unfold bufB at h
  rw [Bool.and_eq_true] at h
  exact of_decide_eq_true h.1
theorem impl_bufOk (l : List Slot) : impl_BufOk.f l = some (bufB l) := by
  unfold impl_BufOk.f
  rfl
theorem rdSlot (l : List Slot) (j : Nat) (h : j < l.length) : rd_T119 l (j : Int) = l[j] := getD_nat _ l j h
theorem spec_bufOk (l : List Slot) (k : Nat) (hk : 4 ≤ k) : spec_BufOk.f k l = some (bufB l) := by
  unfold spec_BufOk.f bufB
  by_cases h : l.length ≤ 3
  · rw [if_neg (by omega), decide_eq_true h, Bool.true_and]
    exact loop_all l slotB (fun k i => spec_BufOk.l0 k l i) (fun k j hj => by
      simp only [spec_BufOk.l0]
      rw [if_pos (by omega), if_pos (by omega), rdSlot _ _ hj, l01In, l01Value, wrap_succ hj (by omega)]
      unfold slotB
      by_cases c : inB l[j].f0 0 15 = true
      · by_cases d : valB l[j].f1 = true <;> simp [c, d]
      · simp [c]) (fun k => by
      simp only [spec_BufOk.l0]
      rw [if_neg (by omega)]) k (by omega)
  · rw [if_pos (by omega), decide_eq_false h]
    rfl

/-- The copy of a slot that came in. -/
def cpSlot (x : S121) : Slot := ⟨x.f0, x.f1⟩
theorem toSlotS (l : List S121) (k : Nat) (hl : l.length ≤ 1048576) (hk : l.length < k) : laws_toSlotS.f k l = some (l.map cpSlot) := by
  unfold laws_toSlotS.f
  rw [if_pos (by omega), if_pos (by omega), Int.toNat_natCast]
  exact fill_loop l cpSlot z119 (fun k out i => laws_toSlotS.l0 k l out i) (fun k out j h ho => by
    simp only [laws_toSlotS.l0, laws_toSlot.f, Option.bind_some]
    rw [if_pos (by omega), if_pos (by omega), if_pos (by omega), show rd_T121 l (j : Int) = l[j] from getD_nat _ l j h, wrap_succ h (by omega), Int.toNat_natCast]
    rfl) (fun k out => by
    simp only [laws_toSlotS.l0]
    rw [if_neg (by omega)]) k hk
theorem szSlotS (l : List S121) (a : Int) (hl : Len l) (h0 : 0 ≤ a) (h1 : a ≤ 1048576) : laws_szSlotS.f l a = some (if l.length ≤ a then a - l.length else -1) := by
  unfold laws_szSlotS.f
  have hl' : l.length ≤ 9223372036854775807 := hl
  rw [wrap_id (x := a - (l.length : Int)) (by omega) (by omega)]
  by_cases c : (l.length : Int) ≤ a
  · rw [if_neg (by omega), if_pos c]
  · rw [if_pos (by omega), if_neg c]
theorem eqSlotS_same (l : List Slot) (hl : Len l) (k : Nat) (hk : l.length < k) : laws_eqSlotS.f k l l = some true := by
  unfold laws_eqSlotS.f
  have hl' : l.length ≤ 9223372036854775807 := hl
  rw [if_pos rfl]
  have := loop_all l (fun _ => true) (fun k i => laws_eqSlotS.l0 k l l i) (fun k j hj => by
    simp only [laws_eqSlotS.l0, laws_eqSlot.f]
    rw [if_pos (by omega), if_pos (by omega), if_pos (by omega), wrap_succ hj hl']
    simp) (fun k => by
    simp only [laws_eqSlotS.l0]
    rw [if_neg (by omega)]) k hk
  rw [this]
  simp

end Go.Proofs.YtchpopocnaoabaaDoor.Pure
