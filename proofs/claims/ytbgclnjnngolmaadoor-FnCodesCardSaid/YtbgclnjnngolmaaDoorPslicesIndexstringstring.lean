-- Written by mp.py (the session's own driver over the kit's printer) for the seat YtbgclnjnngolmaaDoor.
import Derived.Test.YtbgclnjnngolmaaDoorK
import Derived.Test.YtbgclnjnngolmaaDoorE
import Derived.Test.YtbgclnjnngolmaaDoorTextP
namespace Go.Proofs.YtbgclnjnngolmaaDoor.P
open Go.RowKit Go.Proofs.YtbgclnjnngolmaaDoorW.PrintWords Go.Proofs.YtbgclnjnngolmaaDoorW.PrintLast Go.Proofs.YtbgclnjnngolmaaDoorW.PrintMore
attribute [local go_sem] max2_int min2_int max_two min_two max_three min_three max_four min_four
set_option linter.unusedVariables false
set_option linter.unusedSimpArgs false

/-! ### slices_Index_string_string: function 39 -/
-- @func slices.Index[[]string,string]
-- @making true
-- @call (hs_ := js_)
-- @import Derived.Test.YtbgclnjnngolmaaDoorTextP
def slices_Index_string_string.f (l0 : List ByteArray) (a1 : ByteArray) : Option (Int) := if l0.length ≤ 1099511627776 then some (Go.Lib.idxOfS l0 a1) else none
theorem slices_Index_string_string.calls (A0 : Option Addr) (c0 : Nat) (l0 : List ByteArray) (a1 : ByteArray) (r : Int) (w : World) (hs_ : A0 = none ∨ ∃ g, A0 = some ⟨g, 0, none⟩) (hr0 : Kd.C Kd.string w A0 l0.length l0) (hc0 : l0.length ≤ c0) (h : slices_Index_string_string.f l0 a1 = some r) :
  Calls Tryd.prog 39 #[.slice A0 l0.length c0, .string a1] w fun e w' => e = .returned (.int .i64 r) ∧ Below w.heap.size w w' := by
 unfold slices_Index_string_string.f at h
 split at h
 ·next h0 =>
  obtain rfl := Option.some.inj h
  cases l0 with
  | nil =>
   refine (Go.Proofs.Any.slices_Index_string_empty Tryd.lays109 A0 c0 a1 w).mono ?_
   rintro e w' ⟨rfl, rfl⟩
   exact ⟨rfl, Below.refl _ _⟩
  | cons x l =>
   rcases hs_ with rfl | ⟨g, rfl⟩
   ·obtain ⟨ad, he, _⟩ := hr0.2.2 (by simp)
    cases he
   ·refine (Go.Proofs.Any.slices_Index_string Tryd.lays109 g 0 (x :: l).length c0 (x :: l) a1 w (Nat.le_refl _) (by omega) (fun j hj => ?_)).mono ?_
    ·have := C_strings hr0 j ((x :: l)[j]) (List.getElem?_eq_getElem hj)
     rw [this, List.getD_eq_getElem?_getD, List.getElem?_eq_getElem hj]
     rfl
    ·rintro e w' ⟨rfl, rfl⟩
     exact ⟨by rw [List.take_length], Below.refl _ _⟩
 ·cases h

end Go.Proofs.YtbgclnjnngolmaaDoor.P
