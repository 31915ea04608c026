-- Written by mp.py (the session's own driver over the kit's printer) for the seat YtchpopocnaoabaaDoor.
import Derived.Test.YtchpopocnaoabaaDoorK
import Derived.Test.YtchpopocnaoabaaDoorPimplwithin
import Derived.Test.YtchpopocnaoabaaDoorPspecl01Value
import Derived.Test.YtchpopocnaoabaaDoorIdxSlot
namespace Go.Proofs.YtchpopocnaoabaaDoor.P
open Go.RowKit Go.Proofs.YtchpopocnaoabaaDoorW.PrintWords Go.Proofs.YtchpopocnaoabaaDoorW.PrintLast Go.Proofs.YtchpopocnaoabaaDoorW.PrintMore
attribute [local go_sem] max2_int min2_int max_two min_two max_three min_three max_four min_four
set_option linter.unusedVariables false
set_option linter.unusedSimpArgs false

/-! ### impl_BufOk: function 98 -/
-- @func loop.example/g00712/impl.BufOk
-- @making true
-- @needs loop.example/g00712/impl.isValue loop.example/g00712/impl.within
-- @import Derived.Test.YtchpopocnaoabaaDoorIdxSlot
def impl_BufOk.one_ (x : S119) : Bool := (decide (0 ≤ x.f0) && decide (x.f0 ≤ 15)) && (decide (-1000000 ≤ x.f1) && decide (x.f1 ≤ 1000000))
def impl_BufOk.f (l0 : List S119) : Option (Bool) := some (decide (l0.length ≤ 3) && l0.all impl_BufOk.one_)
theorem impl_BufOk.value (v : Int) : impl_isValue.f v = some (decide (-1000000 ≤ v) && decide (v ≤ 1000000)) := by
 unfold impl_isValue.f impl_within.f
 by_cases h : -1000000 ≤ v <;> simp [h]
theorem impl_BufOk.inside (v : Int) : impl_within.f v 0 15 = some (decide (0 ≤ v) && decide (v ≤ 15)) := by
 unfold impl_within.f
 by_cases h : 0 ≤ v <;> simp [h]
set_option maxHeartbeats 2000000 in
theorem impl_BufOk.one (W : World) (x : S119) : Calls Tryd.prog 135 #[.agg #[.int .i64 x.f0, .int .i64 x.f1]] W fun e w' => e = .returned (.bool (!(impl_BufOk.one_ x))) ∧ Below W.heap.size W w' := by
 have hv := impl_BufOk.value x.f1
 have hi := impl_BufOk.inside x.f0
 have HE : Aside0 (impl_BufOk.one_ x = ((decide (0 ≤ x.f0) && decide (x.f0 ≤ 15)) && (decide (-1000000 ≤ x.f1) && decide (x.f1 ≤ 1000000)))) := ⟨rfl⟩
 generalize (decide (-1000000 ≤ x.f1) && decide (x.f1 ≤ 1000000)) = b at hv HE
 generalize (decide (0 ≤ x.f0) && decide (x.f0 ≤ 15)) = a at hi HE
 generalize x.f0 = x0 at *
 generalize x.f1 = x1 at *
 have HV := Aside0.mk hv
 have HI := Aside0.mk hi
 clear hv hi
 generalize impl_BufOk.one_ x = q at *
 cases a with
 | true =>
  go_enter Tryd.func135, Tryd.ntmps135
  go_wp2_with (first | (go_at_call 90; refine (impl_within.calls _ _ _ _ _ HI.out).mono ?_; rintro e w' ⟨rfl, ⟨nd, rfl⟩⟩) | (go_at_call 136; refine (impl_isValue.calls _ _ _ HV.out).mono ?_; rintro e w' ⟨rfl, ⟨nd, rfl⟩⟩))
  go_ret
  exact ⟨by rw [HE.out]; rfl, by repeat (first | exact Below.refl _ _ | apply below_alloc | apply pw_below_drewN | apply below_drew1)⟩
 | false =>
  go_enter Tryd.func135, Tryd.ntmps135
  go_wp2_with (first | (go_at_call 90; refine (impl_within.calls _ _ _ _ _ HI.out).mono ?_; rintro e w' ⟨rfl, ⟨nd, rfl⟩⟩) | (go_at_call 136; refine (impl_isValue.calls _ _ _ HV.out).mono ?_; rintro e w' ⟨rfl, ⟨nd, rfl⟩⟩))
  go_ret
  exact ⟨by rw [HE.out]; rfl, by repeat (first | exact Below.refl _ _ | apply below_alloc | apply pw_below_drewN | apply below_drew1)⟩
set_option maxHeartbeats 2000000 in
theorem impl_BufOk.calls (A0 : Option Addr) (c0 : Nat) (l0 : List S119) (r : Bool) (w : World) (hr0 : Kd.C k119 w A0 l0.length l0) (hc0 : l0.length ≤ c0) (h : impl_BufOk.f l0 = some r) :
  Calls Tryd.prog 98 #[.slice A0 l0.length c0] w fun e w' => e = .returned (.bool r) ∧ Below w.heap.size w w' := by
 have eg : ∀ args w, (callFunc 135 args).run Tryd.prog w = .ok (.enter 135 args) w := enters_of Tryd.func135 (by kernel_rfl) rfl
 have hcon := contfSlot 135 #[] (fun v => !(impl_BufOk.one_ v)) eg A0 c0 l0 w hr0 hc0 (fun W x _ hb => (impl_BufOk.one W x).mono fun e w' ⟨he, hb'⟩ => ⟨he, hb.trans (hb'.mono hb.size)⟩)
 have HR : Aside0 (r = (decide (l0.length ≤ 3) && !(l0.any fun v => !(impl_BufOk.one_ v)))) := by
  refine ⟨?_⟩
  rw [← Option.some.inj h, List.not_any_eq_all_not]
  simp
 have HL : Aside0 (l0.length ≤ 9223372036854775807) := ⟨hr0.2.1⟩
 clear hr0 hc0 h eg
 generalize (l0.any fun v => !(impl_BufOk.one_ v)) = b at hcon HR
 generalize hn : l0.length = n at *
 clear hn
 by_cases h3 : n ≤ 3
 rotate_left
 ·have hd : decide ((n : Int) ≤ 3) = false := decide_eq_false (by omega)
  have hd' : decide (n ≤ 3) = false := decide_eq_false h3
  go_enter Tryd.func98, Tryd.ntmps98
  go_wp2_with fail
  go_ret
  exact ⟨by rw [HR.out, hd']; rfl, Below.refl _ _⟩
 have hd : decide ((n : Int) ≤ 3) = true := decide_eq_true (by omega)
 have hd' : decide (n ≤ 3) = true := decide_eq_true h3
 go_enter Tryd.func98, Tryd.ntmps98
 go_wp2_with (go_at_call 134; refine hcon.mono ?_; rintro e w' ⟨rfl, hb'⟩)
 go_ret
 exact ⟨by rw [HR.out, hd']; rfl, hb'⟩

end Go.Proofs.YtchpopocnaoabaaDoor.P
