-- Written by mp.py (the session's own driver over the kit's printer) for the seat YtbgclnjnngolmaaDoor.
import Derived.Test.YtbgclnjnngolmaaDoorK
import Derived.Test.YtbgclnjnngolmaaDoorE
import Derived.Test.YtbgclnjnngolmaaDoorTextP
namespace Go.Proofs.YtbgclnjnngolmaaDoor.P
open Go.RowKit Go.Proofs.YtbgclnjnngolmaaDoorW.PrintWords Go.Proofs.YtbgclnjnngolmaaDoorW.PrintLast Go.Proofs.YtbgclnjnngolmaaDoorW.PrintMore
attribute [local go_sem] max2_int min2_int max_two min_two max_three min_three max_four min_four
set_option linter.unusedVariables false
set_option linter.unusedSimpArgs false

/-! ### strconv_Atoi: function 45 -/
-- @func strconv.Atoi
-- @making true
-- @env P
-- @results int bool
-- @import Derived.Test.YtbgclnjnngolmaaDoorTextP
/-- The number, and whether there is an error. -/
def strconv_Atoi.f (a0 : ByteArray) : Option (Int × Bool) := if a0.size ≤ 281474976710656 then some (atoiR a0.data.toList) else none
theorem strconv_Atoi.calls (a0 : ByteArray) (r0 : Int) (r1 : Bool) (w : World) (hE_ : EnvOk true w) (h : strconv_Atoi.f a0 = some (r0, r1)) :
  Calls Tryd.prog 45 #[.string a0] w fun e w' => ∃ ev : Value, e = .returned (.tuple #[.int .i64 r0, ev]) ∧ (∀ W : World, (binOp .neq 74 ev .nilIface).run Tryd.prog W = .ok (.bool r1) W) ∧ (∀ (t : Tmp) (W : World), (eqGuard .neq 74 (.tmp t) (.const .nilIface) ev .nilIface).run Tryd.prog W = .ok () W) ∧ Below w.heap.size w w' := by
 unfold strconv_Atoi.f at h
 split at h
 ·next hs =>
  obtain ⟨_, ⟨t1, p1, hv1⟩, ⟨t2, p2, hv2⟩⟩ := hE_.2 rfl
  have h := Option.some.inj h
  unfold atoiR at h
  cases c : Go.Lib.atoiAll a0.data.toList with
  | ok v =>
   rw [c] at h
   obtain ⟨rfl, rfl⟩ := Prod.mk.inj h
   refine (Go.Proofs.Any.strconv_Atoi_ok Tryd.laysC172 a0 (by omega) v c w).mono ?_
   rintro e w' ⟨rfl, hw⟩
   refine ⟨_, rfl, fun W => by kernel_rfl, fun t W => by kernel_rfl, ?_⟩
   rcases hw with rfl | ⟨t, rfl⟩
   ·exact Below.refl _ _
   ·exact Go.Lib.bytesWorld_below _ _ _
  | range =>
   rw [c] at h
   obtain ⟨rfl, rfl⟩ := Prod.mk.inj h
   refine (Go.Proofs.Any.strconv_Atoi_range_var Tryd.laysC172 a0 hs c _ _ w hv2).mono ?_
   rintro e w' ⟨N, rfl, _, _, hb⟩
   exact ⟨_, rfl, fun W => by kernel_rfl, fun t W => by kernel_rfl, hb⟩
  | _ =>
   rw [c] at h
   obtain ⟨rfl, rfl⟩ := Prod.mk.inj h
   refine (Go.Proofs.Any.strconv_Atoi_syntax_var Tryd.laysC172 a0 hs c _ _ w hv1).mono ?_
   rintro e w' ⟨N, rfl, _, _, hb⟩
   exact ⟨_, rfl, fun W => by kernel_rfl, fun t W => by kernel_rfl, hb⟩
 ·cases h

end Go.Proofs.YtbgclnjnngolmaaDoor.P
