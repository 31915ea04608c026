-- Written by mp.py (the session's own driver over the kit's printer) for the seat Ytlfbdafghpmahaa.
import Derived.Test.YtlfbdafghpmahaaV2
import Derived.Test.YtlfbdafghpmahaaK
import Derived.Test.YtlfbdafghpmahaaE
import Derived.Test.YtlfbdafghpmahaaSort
namespace Go.Proofs.Ytlfbdafghpmahaa.P
open Go.RowKit Go.Proofs.YtlfbdafghpmahaaW.PrintWords Go.Proofs.YtlfbdafghpmahaaW.PrintLast Go.Proofs.YtlfbdafghpmahaaW.PrintMore
attribute [local go_sem] max2_int min2_int max_two min_two max_three min_three max_four min_four
set_option linter.unusedVariables false
set_option linter.unusedSimpArgs false

/-! ### slices_Compact_int_int: function 55 -/
-- @func slices.Compact[[]int,int]
-- @making true
-- @import Derived.Test.YtlfbdafghpmahaaSort
/-- The calls of slices.Sort and slices.Compact in AddressesOf, as one. -/
def slices_Compact_int_int.f (l0 : List Int) : Option (List Int) := if l0.length ≤ 1099511627776 then some (Go.Lib.compact (l0.mergeSort fun x y => decide (x ≤ y))) else none
theorem slices_Compact_int_int.le {l r : List Int} (h : slices_Compact_int_int.f l = some r) : l.length ≤ 1099511627776 ∧ r = Go.Lib.compact (l.mergeSort fun x y => decide (x ≤ y)) := by
 unfold slices_Compact_int_int.f at h
 split at h
 ·next hl => exact ⟨hl, (Option.some.inj h).symm⟩
 ·cases h

end Go.Proofs.Ytlfbdafghpmahaa.P
