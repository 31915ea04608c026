-- Written by mp.py (the session's own driver over the kit's printer) for the seat YtbgclnjnngolmaaDoor.
import Derived.Test.YtbgclnjnngolmaaDoorK
import Derived.Test.YtbgclnjnngolmaaDoorE
import Derived.Test.YtbgclnjnngolmaaDoorTextT
namespace Go.Proofs.YtbgclnjnngolmaaDoor.P
open Go.RowKit Go.Proofs.YtbgclnjnngolmaaDoorW.PrintWords Go.Proofs.YtbgclnjnngolmaaDoorW.PrintLast Go.Proofs.YtbgclnjnngolmaaDoorW.PrintMore
attribute [local go_sem] max2_int min2_int max_two min_two max_three min_three max_four min_four
set_option linter.unusedVariables false
set_option linter.unusedSimpArgs false

/-! ### strings_Join: function 21 -/
-- @func strings.Join
-- @making true
-- @call (hs_ := js_)
-- @import Derived.Test.YtbgclnjnngolmaaDoorTextT
def strings_Join.f (l0 : List ByteArray) (a1 : ByteArray) : Option (ByteArray) := if l0.length ≤ 1099511627776 then (if (Go.Lib.join (l0.map (·.data.toList)) a1.data.toList).length ≤ 140737488355328 then some ⟨(Go.Lib.join (l0.map (·.data.toList)) a1.data.toList).toArray⟩ else none) else none
theorem strings_Join.calls (A0 : Option Addr) (c0 : Nat) (l0 : List ByteArray) (a1 : ByteArray) (r : ByteArray) (w : World) (hs_ : A0 = none ∨ ∃ g, A0 = some ⟨g, 0, none⟩) (hr0 : Kd.C Kd.string w A0 l0.length l0) (hc0 : l0.length ≤ c0) (h : strings_Join.f l0 a1 = some r) :
  Calls Tryd.prog 21 #[.slice A0 l0.length c0, .string a1] w fun e w' => e = .returned (.string r) ∧ Below w.heap.size w w' := by
 unfold strings_Join.f at h
 split at h
 ·next h0 =>
  split at h
  ·next h1 =>
   obtain rfl := Option.some.inj h
   cases l0 with
   | nil =>
    refine (Go.Proofs.Any.strings_Join_none Tryd.lays156 Tryd.Builder_Extra_156 A0 c0 a1 w).mono ?_
    rintro e w' ⟨rfl, rfl⟩
    exact ⟨rfl, Below.refl _ _⟩
   | cons x l =>
    rcases hs_ with rfl | ⟨g, rfl⟩
    ·obtain ⟨ad, he, _⟩ := hr0.2.2 (by simp)
     cases he
    ·have hlt : g < w.heap.size := World.block_lt_of_cell? _ _ (C_strings hr0 0 x rfl)
     exact Go.Proofs.Any.strings_Join Tryd.lays156 Tryd.Builder_Extra_156 g 0 c0 (x :: l) a1 w (C_strings hr0) hlt (by omega) hc0 h1
  ·cases h
 ·cases h

end Go.Proofs.YtbgclnjnngolmaaDoor.P
