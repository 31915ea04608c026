-- Written by mp.py (the session's own driver over the kit's printer) for the seat Ytkjndikkdbfhbaa.
import Derived.Test.YtkjndikkdbfhbaaK
import Derived.Test.YtkjndikkdbfhbaaE
import Derived.Test.YtkjndikkdbfhbaaPimplwithin
namespace Go.Proofs.Ytkjndikkdbfhbaa.P
open Go.RowKit Go.Proofs.YtkjndikkdbfhbaaW.PrintWords Go.Proofs.YtkjndikkdbfhbaaW.PrintLast Go.Proofs.YtkjndikkdbfhbaaW.PrintMore
attribute [local go_sem] max2_int min2_int max_two min_two max_three min_three max_four min_four
set_option linter.unusedVariables false
set_option linter.unusedSimpArgs false

/-! ### impl_Heap_isGood: function 144 -/
-- @func (loop.example/g00712/impl.Heap).isGood
-- @making true
-- @needs loop.example/g00712/impl.within
def impl_Heap_isGood.f (l0_0 : List Int) (l0_1 : List Bool) (a1_0 : Int) (a1_1 : Int) : Option (Bool) :=
  if 0 ≤ a1_0 ∧ a1_0 ≤ (l0_0.length : Int) - 1 then (if a1_0 < (l0_1.length : Int) then (if rdOf false l0_1 a1_0 = true then some (rd l0_0 a1_0 == a1_1) else some false) else none) else some false
theorem impl_Heap_isGood.inside (v a b : Int) : impl_within.f v a b = some (decide (a ≤ v) && decide (v ≤ b)) := by
  unfold impl_within.f
  by_cases h : a ≤ v <;> simp [h]
set_option maxHeartbeats 4000000 in
set_option maxRecDepth 100000 in
theorem impl_Heap_isGood.calls (A0_0 : Option Addr) (c0_0 : Nat) (l0_0 : List Int) (A0_1 : Option Addr) (c0_1 : Nat) (l0_1 : List Bool) (a1_0 : Int) (a1_1 : Int) (r : Bool) (w : World) (hr0_0 : Kd.C (Kd.int .i64) w A0_0 l0_0.length l0_0) (hc0_0 : l0_0.length ≤ c0_0) (hr0_1 : Kd.C Kd.bool w A0_1 l0_1.length l0_1) (hc0_1 : l0_1.length ≤ c0_1) (h : impl_Heap_isGood.f l0_0 l0_1 a1_0 a1_1 = some r) :
    Calls Try.prog 144 #[.agg #[.slice A0_0 l0_0.length c0_0, .slice A0_1 l0_1.length c0_1], .agg #[.int .i64 a1_0, .int .i64 a1_1]] w fun e w' => e = .returned (.bool r) ∧ Below w.heap.size w w' := by
  have hlen := hr0_0.2.1
  have hin := impl_Heap_isGood.inside a1_0 0 ((l0_0.length : Int) - 1)
  unfold impl_Heap_isGood.f at h
  by_cases h1 : 0 ≤ a1_0 ∧ a1_0 ≤ (l0_0.length : Int) - 1
  · rw [if_pos h1] at h
    rw [show (decide (0 ≤ a1_0) && decide (a1_0 ≤ (l0_0.length : Int) - 1)) = true from by simp [h1]] at hin
    have HI := Aside0.mk hin
    clear hin
    by_cases h2 : a1_0 < (l0_1.length : Int)
    · rw [if_pos h2] at h
      obtain ⟨p1, p2⟩ := h1
      have p3 : a1_0 < (l0_0.length : Int) := by omega
      obtain ⟨ad1, e1, hx1⟩ := Kd.at_bool hr0_1 a1_0 p1 h2
      obtain ⟨ad0, e0, hx0⟩ := Kd.at_int hr0_0 a1_0 p1 p3
      subst e1 e0
      clear hr0_0 hr0_1
      generalize rdOf false l0_1 a1_0 = b at h hx1
      generalize rd l0_0 a1_0 = n at h hx0
      cases b with
      | true =>
        rw [if_pos rfl] at h
        have HR := Aside0.mk (Option.some.inj h)
        clear h
        have q1 := World.block_lt_of_cell? w _ hx1
        have q0 := World.block_lt_of_cell? w _ hx0
        go_enter Try.func144, Try.ntmps144
        go_wp2
        go_quiet ((go_at_call 164; exact Calls.quiet_of ((impl_within.calls _ _ _ _ _ HI.out).mono (by rintro e w' ⟨rfl, ⟨m, rfl⟩⟩; exact ⟨rfl, m, rfl⟩))))
        go_wp2
        go_ret
        exact ⟨by rw [← HR.out]; rfl, by repeat (first | exact Below.refl _ _ | apply pw_below_drewN | apply below_drew1 | apply below_alloc)⟩
      | false =>
        rw [if_neg (by decide)] at h
        have HR := Aside0.mk (Option.some.inj h)
        clear h hx0
        have q1 := World.block_lt_of_cell? w _ hx1
        go_enter Try.func144, Try.ntmps144
        go_wp2
        go_quiet ((go_at_call 164; exact Calls.quiet_of ((impl_within.calls _ _ _ _ _ HI.out).mono (by rintro e w' ⟨rfl, ⟨m, rfl⟩⟩; exact ⟨rfl, m, rfl⟩))))
        go_wp2
        go_ret
        exact ⟨by rw [← HR.out]; rfl, by repeat (first | exact Below.refl _ _ | apply pw_below_drewN | apply below_drew1 | apply below_alloc)⟩
    · rw [if_neg h2] at h
      cases h
  · rw [if_neg h1] at h
    rw [show (decide (0 ≤ a1_0) && decide (a1_0 ≤ (l0_0.length : Int) - 1)) = false from by simp; omega] at hin
    have HI := Aside0.mk hin
    have HR := Aside0.mk (Option.some.inj h)
    clear hin h h1 hr0_0 hr0_1
    go_enter Try.func144, Try.ntmps144
    go_wp2
    go_quiet ((go_at_call 164; exact Calls.quiet_of ((impl_within.calls _ _ _ _ _ HI.out).mono (by rintro e w' ⟨rfl, ⟨m, rfl⟩⟩; exact ⟨rfl, m, rfl⟩))))
    go_wp2
    go_ret
    exact ⟨by rw [← HR.out]; rfl, by repeat (first | exact Below.refl _ _ | apply pw_below_drewN | apply below_drew1 | apply below_alloc)⟩

end Go.Proofs.Ytkjndikkdbfhbaa.P
