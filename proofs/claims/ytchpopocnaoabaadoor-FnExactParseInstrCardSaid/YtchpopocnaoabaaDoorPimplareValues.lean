-- Written by mp.py (the session's own driver over the kit's printer) for the seat YtchpopocnaoabaaDoor.
import Derived.Test.YtchpopocnaoabaaDoorK
import Derived.Test.YtchpopocnaoabaaDoorE
import Derived.Test.YtchpopocnaoabaaDoorPimplisValue
import Derived.Test.YtchpopocnaoabaaDoorIdxI
namespace Go.Proofs.YtchpopocnaoabaaDoor.P
open Go.RowKit Go.Proofs.YtchpopocnaoabaaDoorW.PrintWords Go.Proofs.YtchpopocnaoabaaDoorW.PrintLast Go.Proofs.YtchpopocnaoabaaDoorW.PrintMore
attribute [local go_sem] max2_int min2_int max_two min_two max_three min_three max_four min_four
set_option linter.unusedVariables false
set_option linter.unusedSimpArgs false

/-! ### impl_areValues: function 137 -/
-- @func loop.example/g00712/impl.areValues
-- @making true
-- @needs loop.example/g00712/impl.isValue
-- @import Derived.Test.YtchpopocnaoabaaDoorIdxI
def impl_areValues.f (l0 : List Int) : Option (Bool) := some (l0.all fun v => decide (-1000000 ≤ v) && decide (v ≤ 1000000))
theorem impl_areValues.value (v : Int) : impl_isValue.f v = some (decide (-1000000 ≤ v) && decide (v ≤ 1000000)) := by
 unfold impl_isValue.f impl_within.f
 by_cases h : -1000000 ≤ v <;> simp [h]
set_option maxHeartbeats 2000000 in
theorem impl_areValues.one (W : World) (x : Int) : Calls Tryd.prog 162 #[.int .i64 x] W fun e w' => e = .returned (.bool (!(decide (-1000000 ≤ x) && decide (x ≤ 1000000)))) ∧ Below W.heap.size W w' := by
 have hv := impl_areValues.value x
 generalize (decide (-1000000 ≤ x) && decide (x ≤ 1000000)) = b at hv
 go_enter Tryd.func162, Tryd.ntmps162
 go_wp2_with (go_at_call 136; refine (impl_isValue.calls x b _ hv).mono ?_; rintro e w' ⟨rfl, ⟨nd, rfl⟩⟩)
 go_ret
 exact ⟨rfl, by repeat (first | exact Below.refl _ _ | apply pw_below_drewN | apply below_drew1)⟩
set_option maxHeartbeats 2000000 in
theorem impl_areValues.calls (A0 : Option Addr) (c0 : Nat) (l0 : List Int) (r : Bool) (w : World) (hr0 : Kd.C (Kd.int .i64) w A0 l0.length l0) (hc0 : l0.length ≤ c0) (h : impl_areValues.f l0 = some r) :
  Calls Tryd.prog 137 #[.slice A0 l0.length c0] w fun e w' => e = .returned (.bool r) ∧ Below w.heap.size w w' := by
 have eg : ∀ args w, (callFunc 162 args).run Tryd.prog w = .ok (.enter 162 args) w := enters_of Tryd.func162 (by kernel_rfl) rfl
 have hcon := contfI 162 #[] (fun v => !(decide (-1000000 ≤ v) && decide (v ≤ 1000000))) eg A0 c0 l0 w hr0 hc0 (fun W x _ hb => (impl_areValues.one W x).mono fun e w' ⟨he, hb'⟩ => ⟨he, hb.trans (hb'.mono hb.size)⟩)
 have hr : r = !(l0.any fun v => !(decide (-1000000 ≤ v) && decide (v ≤ 1000000))) := by
  rw [← Option.some.inj h, List.not_any_eq_all_not]
  simp
 clear hr0 hc0 h eg
 generalize (l0.any fun v => !(decide (-1000000 ≤ v) && decide (v ≤ 1000000))) = b at hcon hr
 have HR := Aside0.mk hr
 clear hr
 go_enter Tryd.func137, Tryd.ntmps137
 go_wp2_with (go_at_call 161; refine hcon.mono ?_; rintro e w' ⟨rfl, hb'⟩)
 go_ret
 exact ⟨by rw [HR.out]; rfl, hb'⟩

end Go.Proofs.YtchpopocnaoabaaDoor.P
