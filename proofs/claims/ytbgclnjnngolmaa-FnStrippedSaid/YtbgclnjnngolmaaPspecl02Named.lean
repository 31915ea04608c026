-- Written by mp.py (the session's own driver over the kit's printer) for the seat Ytbgclnjnngolmaa.
import Derived.Test.YtbgclnjnngolmaaK
import Derived.Test.YtbgclnjnngolmaaE
import Derived.Test.YtbgclnjnngolmaaPlawsbig
namespace Go.Proofs.Ytbgclnjnngolmaa.P
open Go.RowKit Go.Proofs.YtbgclnjnngolmaaW.PrintWords Go.Proofs.YtbgclnjnngolmaaW.PrintLast Go.Proofs.YtbgclnjnngolmaaW.PrintMore
attribute [local go_sem] max2_int min2_int max_two min_two max_three min_three max_four min_four
set_option linter.unusedVariables false
set_option linter.unusedSimpArgs false

/-! ### spec_l02Named: function 45 -/
def spec_l02Named.l0 : Nat → Int → ByteArray → Int → Option (Bool)
 | 0, _, _, _ => none
 | k + 1, x1, x5, x6 => if x6 < (x5.size : Int) then (if 0 ≤ x6 then (if (bt x5 x6) = x1 then (some true) else (spec_l02Named.l0 k x1 x5 (wrap64 (x6 + 1)))) else (none)) else (some false)
def spec_l02Named.f (k : Nat) (a0 : Int) (a1 : Int) : Option (Bool) := (spec_l02Form.f a0).bind fun t1 => (spec_l02Named.l0 k a1 t1 0)
theorem spec_l02Named.mono_l : ∀ k, (∀ y0 y1 y2, LeO (spec_l02Named.l0 k y0 y1 y2) (spec_l02Named.l0 (k + 1) y0 y1 y2))
 | 0 => fun _ _ _ r h => by simp [spec_l02Named.l0] at h
 | k + 1 => by
  have ih0 := spec_l02Named.mono_l k
  ·intro y0 y1 y2
   unfold spec_l02Named.l0
   repeat' first | (with_reducible first | exact ih0 _ _ _ | exact lr_ | exact ln_ | refine LeO.ite ?_ ?_ | refine LeO.bind ?_ (fun _ => ?_)) | exact ih0 _ _ _ | exact ln_ | refine LeO.ite ?_ ?_ | refine LeO.bind ?_ (fun _ => ?_)
theorem spec_l02Named.mono : ∀ a0 a1 k, LeO (spec_l02Named.f k a0 a1) (spec_l02Named.f (k + 1) a0 a1) := by
 intro a0 a1 k
 have ih0 := spec_l02Named.mono_l k
 unfold spec_l02Named.f
 repeat' first | (with_reducible first | exact ih0 _ _ _ | exact lr_ | exact ln_ | refine LeO.ite ?_ ?_ | refine LeO.bind ?_ (fun _ => ?_)) | exact ih0 _ _ _ | exact ln_ | refine LeO.ite ?_ ?_ | refine LeO.bind ?_ (fun _ => ?_)
set_option maxHeartbeats 8000000 in
set_option maxRecDepth 100000 in
theorem spec_l02Named.calls (k : Nat) (a0 : Int) (a1 : Int) (r : Bool) (w : World) (h : spec_l02Named.f k a0 a1 = some r) :
  Calls Try.prog 45 #[.int .i64 a0, .int .u8 a1] w fun e w' => e = .returned (.bool r) ∧ Below w.heap.size w w' := by
 have HB := am_ (Below.refl w.heap.size w)
 have H : ((spec_l02Form.f a0).bind fun t1 => (spec_l02Named.l0 k a1 t1 0)) = some r := h
 clear h
 replace H := Option.bind_eq_some_iff.mp H
 obtain ⟨t1, A30, H⟩ := H
 replace H : (spec_l02Named.l0 k a1 t1 0) = some r := H
 have A3 := am_ A30
 clear A30
 have H' := am_ H
 clear H
 go_enter Try.func45, Try.ntmps45
 go_wp2_with (first | ((with_reducible refine gate_callee (f := 53) rfl ?_); refine goesL_ (some 8) rfl rfl Try.func53 kr_ rfl #[.int .i64 a0] rfl ar_ ?_; (with_reducible refine (spec_l02Form.calls a0 t1 _ A3.out).mono ?_); rintro e w4 ⟨rfl, hb⟩; refine ⟨_, rfl, ?_⟩; have n0_ := bs_ hb; clear HB; have HB := n0_; clear n0_; (try clear hb); (try clear hb2); (try clear hk); (try clear hi)))
 go_loopg [6] k (fun kq v6 w' => ∃ (x6_1 : Int), v6 = .int .i64 x6_1 ∧ Aside0 (spec_l02Named.l0 kq a1 t1 x6_1 = some r) ∧ Aside0 (kq ≤ k) ∧ Aside0 (Below w.heap.size w w'))
 case atStart => exact ⟨(0), sd_, H', ⟨Nat.le_refl _⟩, ⟨bw_⟩⟩
 case round =>
  clear H'
  obtain ⟨x6_1, rfl, HA, HK1, HB⟩ := hrel
  cases gk with
  | zero => exact absurd HA.out (by simp [spec_l02Named.l0])
  | succ k1 =>
   have H := HA.out
   clear HA
   simp only [spec_l02Named.l0] at H
   by_cases c5 : x6_1 < (t1.size : Int)
   rotate_left
   ·rw [if_neg c5] at H
    have c5b0 : decide (x6_1 < (t1.size : Int)) = false := decide_eq_false c5
    clear c5
    obtain rfl := Option.some.inj H
    go_wp2
    go_ret
    exact ⟨rr_, bw_⟩
   rw [if_pos c5] at H
   have c5b0 : decide (x6_1 < (t1.size : Int)) = true := decide_eq_true c5
   clear c5
   by_cases c6 : 0 ≤ x6_1
   rotate_left
   ·rw [if_neg c6] at H
    exact absurd H (by simp)
   rw [if_pos c6] at H
   have c6b0 : decide (0 ≤ x6_1) = true := decide_eq_true c6
   clear c6
   by_cases c8 : (bt t1 x6_1) = a1
   ·rw [if_pos c8] at H
    have c8b0 : ((bt t1 x6_1) == a1) = true := beq_iff_eq.mpr c8
    have c8b1 : ((bt t1 x6_1) != a1) = false := bne_eq_false_iff_eq.mpr c8
    clear c8
    obtain rfl := Option.some.inj H
    have p7 : 0 ≤ (x6_1 : Int) := od_
    have q7 : x6_1 < (t1.size : Int) := od_
    have hx7 := bt_at t1 x6_1
    replace p7 := eq_true p7
    replace q7 := eq_true q7
    go_wp2
    go_ret
    exact ⟨rr_, bw_⟩
   rw [if_neg c8] at H
   have c8b0 : ((bt t1 x6_1) == a1) = false := beq_eq_false_iff_ne.mpr c8
   have c8b1 : ((bt t1 x6_1) != a1) = true := bne_iff_ne.mpr c8
   have H' := am_ H
   clear H
   have p7 : 0 ≤ (x6_1 : Int) := od_
   have q7 : x6_1 < (t1.size : Int) := od_
   have hx7 := bt_at t1 x6_1
   replace p7 := eq_true p7
   replace q7 := eq_true q7
   go_wp2
   go_roundg k1
   case measure => have := HK1.out; omega
   case rel => exact ⟨(wrap64 (x6_1 + 1)), sd_, H', ⟨by have := HK1.out; omega⟩, ⟨bw_⟩⟩

end Go.Proofs.Ytbgclnjnngolmaa.P
