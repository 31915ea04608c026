-- Written by mp.py (the session's own driver over the kit's printer) for the seat YtbgclnjnngolmaaDoor.
import Derived.Test.YtbgclnjnngolmaaDoorK
import Derived.Test.YtbgclnjnngolmaaDoorE
import Derived.Test.YtbgclnjnngolmaaDoorTextP
namespace Go.Proofs.YtbgclnjnngolmaaDoor.P
open Go.RowKit Go.Proofs.YtbgclnjnngolmaaDoorW.PrintWords Go.Proofs.YtbgclnjnngolmaaDoorW.PrintLast Go.Proofs.YtbgclnjnngolmaaDoorW.PrintMore
attribute [local go_sem] max2_int min2_int max_two min_two max_three min_three max_four min_four
set_option linter.unusedVariables false
set_option linter.unusedSimpArgs false

/-! ### strings_Split: function 44 -/
-- @func strings.Split
-- @making true
-- @env P
-- @import Derived.Test.YtbgclnjnngolmaaDoorTextP
def strings_Split.f (a0 a1 : ByteArray) : Option (List ByteArray) := if a0.size < 4294967281 then (if 1 ≤ a1.size then some (Go.Lib.splitB a1 0 (Go.Lib.countB a0 a1) a0) else none) else none
theorem strings_Split.calls (a0 a1 : ByteArray) (r : List ByteArray) (w : World) (hE_ : EnvOk true w) (h : strings_Split.f a0 a1 = some r) :
  Calls Tryd.prog 44 #[.string a0, .string a1] w fun e w' => ∃ v0_ : Value, e = .returned (v0_) ∧ Kd.R Kd.string 9 w' w.heap.size (fun _ => True) v0_ r ∧ Below w.heap.size w w' := by
 unfold strings_Split.f at h
 split at h
 ·next hs =>
  split at h
  ·next h1 =>
   obtain rfl := Option.some.inj h
   obtain ⟨⟨m, hm⟩, _⟩ := hE_.2 rfl
   refine (Go.Proofs.Any.strings_Split Tryd.lays146 (by kernel_rfl) a0 a1 m w hs hm h1).mono ?_
   rintro e w' ⟨rfl, rfl⟩
   have hl := Go.Lib.splitB_all a1 h1 0 _ a0 rfl
   have hc := Go.Lib.countB_le a1 h1 a0.size a0 (Nat.le_refl _)
   have hR := R_strs (w := w) (ss := Go.Lib.splitB a1 0 (Go.Lib.countB a0 a1) a0) (Nat.le_refl _) (by omega)
   rw [Go.Lib.cellsOf_full, hl] at hR
   exact ⟨_, rfl, hR, below_alloc_ _⟩
  ·cases h
 ·cases h

end Go.Proofs.YtbgclnjnngolmaaDoor.P
