-- Written by mp.py (the session's own driver over the kit's printer) for the seat YtbgclnjnngolmaaDoor.
import Derived.Test.YtbgclnjnngolmaaDoorK
import Derived.Test.YtbgclnjnngolmaaDoorE
import Derived.Test.YtbgclnjnngolmaaDoorTextT
namespace Go.Proofs.YtbgclnjnngolmaaDoor.P
open Go.RowKit Go.Proofs.YtbgclnjnngolmaaDoorW.PrintWords Go.Proofs.YtbgclnjnngolmaaDoorW.PrintLast Go.Proofs.YtbgclnjnngolmaaDoorW.PrintMore
attribute [local go_sem] max2_int min2_int max_two min_two max_three min_three max_four min_four
set_option linter.unusedVariables false
set_option linter.unusedSimpArgs false

/-! ### strconv_Itoa: function 36 -/
-- @func strconv.Itoa
-- @making true
-- @env T
-- @import Derived.Test.YtbgclnjnngolmaaDoorTextT
def strconv_Itoa.f (a0 : Int) : Option (ByteArray) := if -9223372036854775808 ≤ a0 then (if a0 ≤ 9223372036854775807 then some ⟨(Go.Lib.itoa a0).toArray⟩ else none) else none
theorem strconv_Itoa.calls (a0 : Int) (r : ByteArray) (w : World) (hE_ : EnvOk false w) (h : strconv_Itoa.f a0 = some r) :
  Calls Tryd.prog 36 #[.int .i64 a0] w fun e w' => e = .returned (.string r) ∧ Below w.heap.size w w' := by
 unfold strconv_Itoa.f at h
 split at h
 ·next h0 =>
  split at h
  ·next h1 =>
   obtain rfl := Option.some.inj h
   refine (Go.Proofs.Any.strconv_Itoa Tryd.laysM171 a0 h0 h1 w hE_.1).mono ?_
   rintro e w' ⟨rfl, k, os, rfl⟩
   exact ⟨rfl, below_grown_ k os⟩
  ·cases h
 ·cases h

end Go.Proofs.YtbgclnjnngolmaaDoor.P
