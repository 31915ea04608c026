-- Written by mp.py (the session's own driver over the kit's printer) for the seat Ytpcfcdnmpginhaa.
import Derived.Test.YtpcfcdnmpginhaaK
import Derived.Test.YtpcfcdnmpginhaaE
namespace Go.Proofs.Ytpcfcdnmpginhaa.P
open Go.RowKit Go.Proofs.YtpcfcdnmpginhaaW.PrintWords Go.Proofs.YtpcfcdnmpginhaaW.PrintLast Go.Proofs.YtpcfcdnmpginhaaW.PrintMore
attribute [local go_sem] max2_int min2_int max_two min_two max_three min_three max_four min_four
set_option linter.unusedVariables false
set_option linter.unusedSimpArgs false

/-! ### slices_Grow_int_int: function 180 -/
-- @func slices.Grow[[]int,int]
-- @making true
-- @info 3
/-- The call of slices.Grow in slices.Concat: of a nil slice. -/
def slices_Grow_int_int.f (l0 : List Int) (a1 : Int) : Option (List Int) := if l0 = [] ∧ 0 ≤ a1 ∧ a1 ≤ 1099511627776 then some [] else none
set_option maxHeartbeats 4000000 in
theorem slices_Grow_int_int.calls (a1 : Int) (r : List Int) (w : World) (h : slices_Grow_int_int.f [] a1 = some r) :
  Calls Try.prog 180 #[.slice none 0 0, .int .i64 a1] w fun e w' => ∃ v0_ : Value, e = .returned (v0_) ∧ Kd.R (Kd.int .i64) 3 w' w.heap.size (fun _ => True) v0_ r ∧ Below w.heap.size w w' := by
 unfold slices_Grow_int_int.f at h
 split at h
 ·next hh =>
  obtain rfl := Option.some.inj h
  obtain ⟨_, h0, h1⟩ := hh
  have c1 : decide (a1 < 0) = false := decide_eq_false (by omega)
  have hw0 : wrap64 a1 = a1 := by unfold wrap64; omega
  have HN : Aside0 (0 ≤ wrap64 a1) := ⟨by omega⟩
  have HM : Aside0 (wrap64 a1 ≤ 1099511627776) := ⟨by omega⟩
  have HW := Aside0.mk hw0
  clear hw0
  clear h h0 h1
  by_cases hp : 0 < a1
  ·have c2 : decide (0 < wrap64 a1) = true := decide_eq_true (by rw [HW.out]; exact hp)
   go_enter Try.func180, Try.ntmps180
   go_wp2_with ((with_reducible refine gate_builtin (b := .append) (xs := #[.tmp 20, .tmp 21]) rfl ?_); at_builtin; refine Kd.R_append_zeros (Kd.int .i64) (w0 := w) w.heap.size rfl (.tmp 20) (.tmp 21) 22 3 3 (.int .i64 0) 8 rfl Try.underlying22 Try.underlying3 info3 rfl (by decide) (by omega) (.slice none 0 0) [] 0 (wrap64 a1 : Int) (fun _ => True) rfl rfl rfl ?aF ?aO HN.out ?aB ?aS ?aL ?_; (case aB => exact Below.refl _ _); (case aF => exact (fun _ _ => trivial)); (case aO => exact Kd.R_nil _ _ _ _ _); (case aS => exact Nat.le_refl _); (case aL => have := HM.out; simp only [List.length_nil]; omega); intro v22 w12 ho hb hg hat; have HO := Aside0.mk ho; have HB := Aside0.mk hb; obtain ⟨A_, c_, hv_⟩ := Kd.R_slice HO.out; subst hv_; clear ho hb hg hat)
   go_ret
   exact ⟨_, rfl, Kd.R_take HO.out (Nat.zero_le _), HB.out⟩
  ·have c2 : decide (0 < wrap64 a1) = false := decide_eq_false (by rw [HW.out]; exact hp)
   go_enter Try.func180, Try.ntmps180
   go_wp2_with fail
   go_ret
   exact ⟨_, rfl, Kd.R_nil _ _ _ _ _, Below.refl _ _⟩
 ·cases h

end Go.Proofs.Ytpcfcdnmpginhaa.P
