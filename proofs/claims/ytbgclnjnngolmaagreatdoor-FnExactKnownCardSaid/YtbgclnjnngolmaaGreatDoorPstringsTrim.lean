-- Written by mp.py (the session's own driver over the kit's printer) for the seat YtbgclnjnngolmaaGreatDoor.
import Derived.Test.YtbgclnjnngolmaaGreatDoorK
import Derived.Test.YtbgclnjnngolmaaGreatDoorTextP
namespace Go.Proofs.YtbgclnjnngolmaaGreatDoor.P
open Go.RowKit Go.Proofs.YtbgclnjnngolmaaGreatDoorW.PrintWords Go.Proofs.YtbgclnjnngolmaaGreatDoorW.PrintLast Go.Proofs.YtbgclnjnngolmaaGreatDoorW.PrintMore
attribute [local go_sem] max2_int min2_int max_two min_two max_three min_three max_four min_four
set_option linter.unusedVariables false
set_option linter.unusedSimpArgs false

/-! ### strings_Trim: function 47 -/
-- @func strings.Trim
-- @making true
-- @import Derived.Test.YtbgclnjnngolmaaGreatDoorTextP
def strings_Trim.f (a0 a1 : ByteArray) : Option (ByteArray) := if a0.size ≤ 9223372036854775807 then (if a1.size < 4294967281 ∧ (a1.data.toList.all fun b => decide (b.toNat < 128)) = true then some ⟨(Go.Lib.trimS a0.data.toList a1.data.toList).toArray⟩ else none) else none
theorem strings_Trim.calls (a0 a1 : ByteArray) (r : ByteArray) (w : World) (h : strings_Trim.f a0 a1 = some r) :
  Calls Tryz.prog 47 #[.string a0, .string a1] w fun e w' => e = .returned (.string r) ∧ Below w.heap.size w w' := by
 unfold strings_Trim.f at h
 split at h
 ·next hs =>
  split at h
  ·next h1 =>
   obtain rfl := Option.some.inj h
   refine (Go.Proofs.Any.strings_Trim_laid Tryz.lays160 (by kernel_rfl) a0 a1 w hs h1.1 (fun j b hb => ?_)).mono ?_
   ·exact of_decide_eq_true (List.all_eq_true.1 h1.2 b (List.mem_of_getElem? hb))
   ·rintro e w' ⟨rfl, hb⟩
    exact ⟨rfl, hb⟩
  ·cases h
 ·cases h

end Go.Proofs.YtbgclnjnngolmaaGreatDoor.P
