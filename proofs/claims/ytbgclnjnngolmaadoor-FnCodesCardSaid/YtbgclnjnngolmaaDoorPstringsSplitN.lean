-- Written by mp.py (the session's own driver over the kit's printer) for the seat YtbgclnjnngolmaaDoor.
import Derived.Test.YtbgclnjnngolmaaDoorK
import Derived.Test.YtbgclnjnngolmaaDoorE
import Derived.Test.YtbgclnjnngolmaaDoorTextP
namespace Go.Proofs.YtbgclnjnngolmaaDoor.P
open Go.RowKit Go.Proofs.YtbgclnjnngolmaaDoorW.PrintWords Go.Proofs.YtbgclnjnngolmaaDoorW.PrintLast Go.Proofs.YtbgclnjnngolmaaDoorW.PrintMore
attribute [local go_sem] max2_int min2_int max_two min_two max_three min_three max_four min_four
set_option linter.unusedVariables false
set_option linter.unusedSimpArgs false

/-! ### strings_SplitN: function 22 -/
-- @func strings.SplitN
-- @making true
-- @env P
-- @import Derived.Test.YtbgclnjnngolmaaDoorTextP
def strings_SplitN.f (a0 a1 : ByteArray) (a2 : Int) : Option (List ByteArray) := if a0.size < 4294967281 then (if 1 ≤ a1.size then (if 1 ≤ a2 ∧ a2 ≤ 9223372036854775807 then some (Go.Lib.splitB a1 0 (min a2.toNat (a0.size + 1) - 1) a0) else none) else none) else none
theorem strings_SplitN.calls (a0 a1 : ByteArray) (a2 : Int) (r : List ByteArray) (w : World) (hE_ : EnvOk true w) (h : strings_SplitN.f a0 a1 a2 = some r) :
  Calls Tryd.prog 22 #[.string a0, .string a1, .int .i64 a2] w fun e w' => ∃ v0_ : Value, e = .returned (v0_) ∧ Kd.R Kd.string 9 w' w.heap.size (fun _ => True) v0_ r ∧ Below w.heap.size w w' := by
 unfold strings_SplitN.f at h
 split at h
 ·next hs =>
  split at h
  ·next h1 =>
   split at h
   ·next h2 =>
    obtain rfl := Option.some.inj h
    obtain ⟨⟨m, hm⟩, _⟩ := hE_.2 rfl
    obtain ⟨n, rfl⟩ : ∃ n : Nat, a2 = n := ⟨a2.toNat, by omega⟩
    refine (Go.Proofs.Any.strings_SplitN Tryd.lays147 (by kernel_rfl) a0 a1 n m w hs hm h1 (by omega) (by omega)).mono ?_
    rintro e w' ⟨rfl, rfl⟩
    have hl := Go.Lib.splitB_length_le a1 0 (min n (a0.size + 1) - 1) a0
    rw [Int.toNat_natCast]
    exact ⟨_, rfl, R_strs (by omega) (by omega), below_alloc_ _⟩
   ·cases h
  ·cases h
 ·cases h

end Go.Proofs.YtbgclnjnngolmaaDoor.P
