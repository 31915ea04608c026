-- Written by mp.py (the session's own driver over the kit's printer) for the seat YtchpopocnaoabaaDoor.
import Derived.Test.YtchpopocnaoabaaDoorK
import Derived.Test.YtchpopocnaoabaaDoorE
import Derived.Test.YtchpopocnaoabaaDoorPimplParseAsk
import Derived.Test.YtchpopocnaoabaaDoorPlawseqAtom
import Derived.Test.YtchpopocnaoabaaDoorPspecParseAsk
import Derived.Test.YtchpopocnaoabaaDoorEnv
namespace Go.Proofs.YtchpopocnaoabaaDoor.P
open Go.RowKit Go.Proofs.YtchpopocnaoabaaDoorW.PrintWords Go.Proofs.YtchpopocnaoabaaDoorW.PrintLast Go.Proofs.YtchpopocnaoabaaDoorW.PrintMore
attribute [local go_sem] max2_int min2_int max_two min_two max_three min_three max_four min_four
set_option linter.unusedVariables false
set_option linter.unusedSimpArgs false

/-! ### laws_heldAtomS: function 28 -/
def laws_heldAtomS.l0 : Nat → List (S110) → Int → Int → Option (Int)
 | 0, _, _, _ => none
 | k + 1, x0, x1, x5 => if x5 < (x0.length : Int) then (if 0 ≤ x5 then (if ((rd_T110 x0 x5).f0) = x1 then (if ((rd_T110 x0 x5).f1) = (wrap64 (x1 + 1)) then (if ((rd_T110 x0 x5).f2) = (wrap64 ((wrap64 (x1 + 1)) + 1)) then (if ((rd_T110 x0 x5).f3) = (wrap64 ((wrap64 ((wrap64 (x1 + 1)) + 1)) + 1)) then (laws_heldAtomS.l0 k x0 (wrap64 ((wrap64 ((wrap64 ((wrap64 (x1 + 1)) + 1)) + 1)) + 1)) (wrap64 (x5 + 1))) else (some (-1))) else (some (-1))) else (some (-1))) else (some (-1))) else (none)) else (some x1)
def laws_heldAtomS.f (k : Nat) (l0 : List (S110)) (a1 : Int) : Option (Int) := laws_heldAtomS.l0 k l0 a1 0
theorem laws_heldAtomS.mono_l : ∀ k, (∀ y0 y1 y2, LeO (laws_heldAtomS.l0 k y0 y1 y2) (laws_heldAtomS.l0 (k + 1) y0 y1 y2))
 | 0 => fun _ _ _ r h => by simp [laws_heldAtomS.l0] at h
 | k + 1 => by
  have ih0 := laws_heldAtomS.mono_l k
  ·intro y0 y1 y2
   unfold laws_heldAtomS.l0
   repeat' first | (with_reducible first | exact ih0 _ _ _ | exact lr_ | exact ln_ | refine LeO.ite ?_ ?_ | refine LeO.bind ?_ (fun _ => ?_)) | exact ih0 _ _ _ | exact ln_ | refine LeO.ite ?_ ?_ | refine LeO.bind ?_ (fun _ => ?_)
theorem laws_heldAtomS.mono : ∀ a0 a1 k, LeO (laws_heldAtomS.f k a0 a1) (laws_heldAtomS.f (k + 1) a0 a1) := by
 intro a0 a1 k
 have ih0 := laws_heldAtomS.mono_l k
 unfold laws_heldAtomS.f
 repeat' first | (with_reducible first | exact ih0 _ _ _ | exact lr_ | exact ln_ | refine LeO.ite ?_ ?_ | refine LeO.bind ?_ (fun _ => ?_)) | exact ih0 _ _ _ | exact ln_ | refine LeO.ite ?_ ?_ | refine LeO.bind ?_ (fun _ => ?_)
set_option maxHeartbeats 8000000 in
set_option maxRecDepth 100000 in
theorem laws_heldAtomS.calls (k : Nat) (A0 : Option Addr) (c0 : Nat) (l0 : List (S110)) (a1 : Int) (r : Int) (w : World) (hr0 : Kd.C k110 w A0 l0.length l0) (hc0 : l0.length ≤ c0) (h : laws_heldAtomS.f k l0 a1 = some r) :
  Calls Tryd.prog 28 #[.slice A0 l0.length c0, .int .i64 a1] w fun e w' => e = .returned (.int .i64 r) ∧ Drawn0 w w' := by
 have HR0 := Aside0.mk hr0
 have HC0 := Aside0.mk hc0
 clear hr0 hc0
 have H : (laws_heldAtomS.l0 k l0 a1 0) = some r := h
 clear h
 have H' := Aside0.mk H
 clear H
 go_enter Tryd.func28, Tryd.ntmps28
 go_wp2
 go_loopg [1, 5] k (fun kq v1 v5 w' => ∃ (x1_1 : Int) (x5_1 : Int), v1 = .int .i64 x1_1 ∧ v5 = .int .i64 x5_1 ∧ Aside0 (laws_heldAtomS.l0 kq l0 x1_1 x5_1 = some r) ∧ Aside0 (kq ≤ k) ∧ Drawn0 w w')
 case atStart => exact ⟨(a1), (0), sd_, sd_, H', ⟨Nat.le_refl _⟩, by repeat (first | exact Drawn0.refl _ | apply Drawn0.step)⟩
 case round =>
  clear H'
  try clear c2
  try clear p2
  obtain ⟨x1_1, x5_1, rfl, rfl, HA, HK1, ⟨m1, rfl⟩⟩ := hrel
  cases gk with
  | zero => exact absurd HA.out (by simp [laws_heldAtomS.l0])
  | succ k1 =>
   have H := HA.out
   clear HA
   simp only [laws_heldAtomS.l0] at H
   by_cases c3 : x5_1 < (l0.length : Int)
   rotate_left
   ·rw [if_neg c3] at H
    have c3b0 : decide (x5_1 < (l0.length : Int)) = false := decide_eq_false c3
    clear c3
    obtain rfl := Option.some.inj H
    go_wp2
    go_ret
    exact ⟨sd_, by repeat (first | exact Drawn0.refl _ | apply Drawn0.step)⟩
   rw [if_pos c3] at H
   have c3b0 : decide (x5_1 < (l0.length : Int)) = true := decide_eq_true c3
   clear c3
   by_cases c4 : 0 ≤ x5_1
   rotate_left
   ·rw [if_neg c4] at H
    exact absurd H (by simp)
   rw [if_pos c4] at H
   have c4b0 : decide (0 ≤ x5_1) = true := decide_eq_true c4
   clear c4
   by_cases c5 : ((rd_T110 l0 x5_1).f0) = x1_1
   rotate_left
   ·rw [if_neg c5] at H
    have c5b0 : (((rd_T110 l0 x5_1).f0) == x1_1) = false := beq_eq_false_iff_ne.mpr c5
    have c5b1 : (((rd_T110 l0 x5_1).f0) != x1_1) = true := bne_iff_ne.mpr c5
    obtain rfl := Option.some.inj H
    have p1 : 0 ≤ (x5_1 : Int) := od_
    have q1 : x5_1 < (l0.length : Int) := od_
    obtain ⟨ad1, e1, hx1_0, hx1_1, hx1_2, hx1_3⟩ := at_T110 HR0.out x5_1 p1 q1
    cases e1
    replace p1 := eq_true p1
    replace q1 := eq_true q1
    go_wp2
    go_ret
    exact ⟨sd_, by repeat (first | exact Drawn0.refl _ | apply Drawn0.step)⟩
   rw [if_pos c5] at H
   have c5b0 : (((rd_T110 l0 x5_1).f0) == x1_1) = true := beq_iff_eq.mpr c5
   have c5b1 : (((rd_T110 l0 x5_1).f0) != x1_1) = false := bne_eq_false_iff_eq.mpr c5
   clear c5
   by_cases c6 : ((rd_T110 l0 x5_1).f1) = (wrap64 (x1_1 + 1))
   rotate_left
   ·rw [if_neg c6] at H
    have c6b0 : (((rd_T110 l0 x5_1).f1) == (wrap64 (x1_1 + 1))) = false := beq_eq_false_iff_ne.mpr c6
    have c6b1 : (((rd_T110 l0 x5_1).f1) != (wrap64 (x1_1 + 1))) = true := bne_iff_ne.mpr c6
    obtain rfl := Option.some.inj H
    have p1 : 0 ≤ (x5_1 : Int) := od_
    have q1 : x5_1 < (l0.length : Int) := od_
    obtain ⟨ad1, e1, hx1_0, hx1_1, hx1_2, hx1_3⟩ := at_T110 HR0.out x5_1 p1 q1
    cases e1
    replace p1 := eq_true p1
    replace q1 := eq_true q1
    have p2 : 0 ≤ (x5_1 : Int) := od_
    have q2 : x5_1 < (l0.length : Int) := od_
    obtain ⟨ad2, e2, hx2_0, hx2_1, hx2_2, hx2_3⟩ := at_T110 HR0.out x5_1 p2 q2
    obtain rfl : ad1 = ad2 := (by injection e2)
    replace p2 := eq_true p2
    replace q2 := eq_true q2
    go_wp2
    go_ret
    exact ⟨sd_, by repeat (first | exact Drawn0.refl _ | apply Drawn0.step)⟩
   rw [if_pos c6] at H
   have c6b0 : (((rd_T110 l0 x5_1).f1) == (wrap64 (x1_1 + 1))) = true := beq_iff_eq.mpr c6
   have c6b1 : (((rd_T110 l0 x5_1).f1) != (wrap64 (x1_1 + 1))) = false := bne_eq_false_iff_eq.mpr c6
   clear c6
   by_cases c7 : ((rd_T110 l0 x5_1).f2) = (wrap64 ((wrap64 (x1_1 + 1)) + 1))
   rotate_left
   ·rw [if_neg c7] at H
    have c7b0 : (((rd_T110 l0 x5_1).f2) == (wrap64 ((wrap64 (x1_1 + 1)) + 1))) = false := beq_eq_false_iff_ne.mpr c7
    have c7b1 : (((rd_T110 l0 x5_1).f2) != (wrap64 ((wrap64 (x1_1 + 1)) + 1))) = true := bne_iff_ne.mpr c7
    obtain rfl := Option.some.inj H
    have p1 : 0 ≤ (x5_1 : Int) := od_
    have q1 : x5_1 < (l0.length : Int) := od_
    obtain ⟨ad1, e1, hx1_0, hx1_1, hx1_2, hx1_3⟩ := at_T110 HR0.out x5_1 p1 q1
    cases e1
    replace p1 := eq_true p1
    replace q1 := eq_true q1
    have p2 : 0 ≤ (x5_1 : Int) := od_
    have q2 : x5_1 < (l0.length : Int) := od_
    obtain ⟨ad2, e2, hx2_0, hx2_1, hx2_2, hx2_3⟩ := at_T110 HR0.out x5_1 p2 q2
    obtain rfl : ad1 = ad2 := (by injection e2)
    replace p2 := eq_true p2
    replace q2 := eq_true q2
    have p3 : 0 ≤ (x5_1 : Int) := od_
    have q3 : x5_1 < (l0.length : Int) := od_
    obtain ⟨ad3, e3, hx3_0, hx3_1, hx3_2, hx3_3⟩ := at_T110 HR0.out x5_1 p3 q3
    obtain rfl : ad1 = ad3 := (by injection e3)
    replace p3 := eq_true p3
    replace q3 := eq_true q3
    go_wp2
    go_ret
    exact ⟨sd_, by repeat (first | exact Drawn0.refl _ | apply Drawn0.step)⟩
   rw [if_pos c7] at H
   have c7b0 : (((rd_T110 l0 x5_1).f2) == (wrap64 ((wrap64 (x1_1 + 1)) + 1))) = true := beq_iff_eq.mpr c7
   have c7b1 : (((rd_T110 l0 x5_1).f2) != (wrap64 ((wrap64 (x1_1 + 1)) + 1))) = false := bne_eq_false_iff_eq.mpr c7
   clear c7
   by_cases c8 : ((rd_T110 l0 x5_1).f3) = (wrap64 ((wrap64 ((wrap64 (x1_1 + 1)) + 1)) + 1))
   rotate_left
   ·rw [if_neg c8] at H
    have c8b0 : (((rd_T110 l0 x5_1).f3) == (wrap64 ((wrap64 ((wrap64 (x1_1 + 1)) + 1)) + 1))) = false := beq_eq_false_iff_ne.mpr c8
    have c8b1 : (((rd_T110 l0 x5_1).f3) != (wrap64 ((wrap64 ((wrap64 (x1_1 + 1)) + 1)) + 1))) = true := bne_iff_ne.mpr c8
    obtain rfl := Option.some.inj H
    have p1 : 0 ≤ (x5_1 : Int) := od_
    have q1 : x5_1 < (l0.length : Int) := od_
    obtain ⟨ad1, e1, hx1_0, hx1_1, hx1_2, hx1_3⟩ := at_T110 HR0.out x5_1 p1 q1
    cases e1
    replace p1 := eq_true p1
    replace q1 := eq_true q1
    have p2 : 0 ≤ (x5_1 : Int) := od_
    have q2 : x5_1 < (l0.length : Int) := od_
    obtain ⟨ad2, e2, hx2_0, hx2_1, hx2_2, hx2_3⟩ := at_T110 HR0.out x5_1 p2 q2
    obtain rfl : ad1 = ad2 := (by injection e2)
    replace p2 := eq_true p2
    replace q2 := eq_true q2
    have p3 : 0 ≤ (x5_1 : Int) := od_
    have q3 : x5_1 < (l0.length : Int) := od_
    obtain ⟨ad3, e3, hx3_0, hx3_1, hx3_2, hx3_3⟩ := at_T110 HR0.out x5_1 p3 q3
    obtain rfl : ad1 = ad3 := (by injection e3)
    replace p3 := eq_true p3
    replace q3 := eq_true q3
    have p4 : 0 ≤ (x5_1 : Int) := od_
    have q4 : x5_1 < (l0.length : Int) := od_
    obtain ⟨ad4, e4, hx4_0, hx4_1, hx4_2, hx4_3⟩ := at_T110 HR0.out x5_1 p4 q4
    obtain rfl : ad1 = ad4 := (by injection e4)
    replace p4 := eq_true p4
    replace q4 := eq_true q4
    go_wp2
    go_ret
    exact ⟨sd_, by repeat (first | exact Drawn0.refl _ | apply Drawn0.step)⟩
   rw [if_pos c8] at H
   have c8b0 : (((rd_T110 l0 x5_1).f3) == (wrap64 ((wrap64 ((wrap64 (x1_1 + 1)) + 1)) + 1))) = true := beq_iff_eq.mpr c8
   have c8b1 : (((rd_T110 l0 x5_1).f3) != (wrap64 ((wrap64 ((wrap64 (x1_1 + 1)) + 1)) + 1))) = false := bne_eq_false_iff_eq.mpr c8
   clear c8
   have H' := Aside0.mk H
   clear H
   have p1 : 0 ≤ (x5_1 : Int) := od_
   have q1 : x5_1 < (l0.length : Int) := od_
   obtain ⟨ad1, e1, hx1_0, hx1_1, hx1_2, hx1_3⟩ := at_T110 HR0.out x5_1 p1 q1
   cases e1
   replace p1 := eq_true p1
   replace q1 := eq_true q1
   have p2 : 0 ≤ (x5_1 : Int) := od_
   have q2 : x5_1 < (l0.length : Int) := od_
   obtain ⟨ad2, e2, hx2_0, hx2_1, hx2_2, hx2_3⟩ := at_T110 HR0.out x5_1 p2 q2
   obtain rfl : ad1 = ad2 := (by injection e2)
   replace p2 := eq_true p2
   replace q2 := eq_true q2
   have p3 : 0 ≤ (x5_1 : Int) := od_
   have q3 : x5_1 < (l0.length : Int) := od_
   obtain ⟨ad3, e3, hx3_0, hx3_1, hx3_2, hx3_3⟩ := at_T110 HR0.out x5_1 p3 q3
   obtain rfl : ad1 = ad3 := (by injection e3)
   replace p3 := eq_true p3
   replace q3 := eq_true q3
   have p4 : 0 ≤ (x5_1 : Int) := od_
   have q4 : x5_1 < (l0.length : Int) := od_
   obtain ⟨ad4, e4, hx4_0, hx4_1, hx4_2, hx4_3⟩ := at_T110 HR0.out x5_1 p4 q4
   obtain rfl : ad1 = ad4 := (by injection e4)
   replace p4 := eq_true p4
   replace q4 := eq_true q4
   go_wp2
   go_roundg k1
   case measure => have := HK1.out; omega
   case rel => exact ⟨(wrap64 ((wrap64 ((wrap64 ((wrap64 (x1_1 + 1)) + 1)) + 1)) + 1)), (wrap64 (x5_1 + 1)), sd_, sd_, H', ⟨by have := HK1.out; omega⟩, by repeat (first | exact Drawn0.refl _ | apply Drawn0.step)⟩

/-! ### laws_FnExactParseAsk: function 4 -/
mutual
def laws_FnExactParseAsk.j0 : Nat → ByteArray → List (S110) → Bool → List (S110) → Bool → Option (Bool)
 | 0, _, _, _, _, _ => none
 | k + 1, x0, x3, x4, x5, x32 => if x32 = true then (some false) else ((laws_markAtomS.f k x5 1).bind fun bt10 => ((laws_heldAtomS.f k bt10.2 1).bind fun t12 => (if t12 < 0 then (some false) else (if t12 = bt10.1 then ((impl_ParseAsk.f k x0).bind fun bt13 => ((laws_eqAtomS.f k bt13.1 x3).bind fun t17 => (if t17 = true then (laws_FnExactParseAsk.j1 k bt10.2 bt10.1 (bt13.2 != x4)) else (laws_FnExactParseAsk.j1 k bt10.2 bt10.1 true)))) else (some false)))))
def laws_FnExactParseAsk.j1 : Nat → List (S110) → Int → Bool → Option (Bool)
 | 0, _, _, _ => none
 | k + 1, x5, x7, x57 => if x57 = true then (some false) else ((laws_heldAtomS.f k x5 1).bind fun t18 => (if t18 < 0 then (some false) else (if t18 = x7 then (some true) else (some false))))
end
def laws_FnExactParseAsk.f (k : Nat) (a0 : ByteArray) : Option (Bool) := if (a0.size : Int) > 1048576 then (some true) else ((spec_ParseAsk.f k a0).bind fun bt1 => ((impl_ParseAsk.f k a0).bind fun bt5 => ((laws_eqAtomS.f k bt5.1 bt1.1).bind fun t9 => (if t9 = true then (laws_FnExactParseAsk.j0 k a0 bt1.1 bt1.2 bt5.1 (bt5.2 != bt1.2)) else (laws_FnExactParseAsk.j0 k a0 bt1.1 bt1.2 bt5.1 true)))))
theorem laws_FnExactParseAsk.mono_l : ∀ k, (∀ y0 y1 y2 y3 y4, LeO (laws_FnExactParseAsk.j0 k y0 y1 y2 y3 y4) (laws_FnExactParseAsk.j0 (k + 1) y0 y1 y2 y3 y4)) ∧ (∀ y0 y1 y2, LeO (laws_FnExactParseAsk.j1 k y0 y1 y2) (laws_FnExactParseAsk.j1 (k + 1) y0 y1 y2))
 | 0 => ⟨fun _ _ _ _ _ r h => by simp [laws_FnExactParseAsk.j0] at h, fun _ _ _ r h => by simp [laws_FnExactParseAsk.j1] at h⟩
 | k + 1 => by
  obtain ⟨ih0, ih1⟩ := laws_FnExactParseAsk.mono_l k
  refine ⟨?_, ?_⟩
  ·intro y0 y1 y2 y3 y4
   unfold laws_FnExactParseAsk.j0
   repeat' first | (with_reducible first | exact ih0 _ _ _ _ _ | exact ih1 _ _ _ | exact impl_ParseAsk.mono _ _ | exact laws_eqAtomS.mono _ _ _ | exact laws_heldAtomS.mono _ _ _ | exact laws_markAtomS.mono _ _ _ | exact spec_ParseAsk.mono _ _ | exact lr_ | exact ln_ | refine LeO.ite ?_ ?_ | refine LeO.bind ?_ (fun _ => ?_)) | exact ih0 _ _ _ _ _ | exact ih1 _ _ _ | exact impl_ParseAsk.mono _ _ | exact laws_eqAtomS.mono _ _ _ | exact laws_heldAtomS.mono _ _ _ | exact laws_markAtomS.mono _ _ _ | exact spec_ParseAsk.mono _ _ | exact ln_ | refine LeO.ite ?_ ?_ | refine LeO.bind ?_ (fun _ => ?_)
  ·intro y0 y1 y2
   unfold laws_FnExactParseAsk.j1
   repeat' first | (with_reducible first | exact ih0 _ _ _ _ _ | exact ih1 _ _ _ | exact impl_ParseAsk.mono _ _ | exact laws_eqAtomS.mono _ _ _ | exact laws_heldAtomS.mono _ _ _ | exact laws_markAtomS.mono _ _ _ | exact spec_ParseAsk.mono _ _ | exact lr_ | exact ln_ | refine LeO.ite ?_ ?_ | refine LeO.bind ?_ (fun _ => ?_)) | exact ih0 _ _ _ _ _ | exact ih1 _ _ _ | exact impl_ParseAsk.mono _ _ | exact laws_eqAtomS.mono _ _ _ | exact laws_heldAtomS.mono _ _ _ | exact laws_markAtomS.mono _ _ _ | exact spec_ParseAsk.mono _ _ | exact ln_ | refine LeO.ite ?_ ?_ | refine LeO.bind ?_ (fun _ => ?_)
theorem laws_FnExactParseAsk.mono : ∀ a0 k, LeO (laws_FnExactParseAsk.f k a0) (laws_FnExactParseAsk.f (k + 1) a0) := by
 intro a0 k
 obtain ⟨ih0, ih1⟩ := laws_FnExactParseAsk.mono_l k
 unfold laws_FnExactParseAsk.f
 repeat' first | (with_reducible first | exact ih0 _ _ _ _ _ | exact ih1 _ _ _ | exact impl_ParseAsk.mono _ _ | exact laws_eqAtomS.mono _ _ _ | exact laws_heldAtomS.mono _ _ _ | exact laws_markAtomS.mono _ _ _ | exact spec_ParseAsk.mono _ _ | exact lr_ | exact ln_ | refine LeO.ite ?_ ?_ | refine LeO.bind ?_ (fun _ => ?_)) | exact ih0 _ _ _ _ _ | exact ih1 _ _ _ | exact impl_ParseAsk.mono _ _ | exact laws_eqAtomS.mono _ _ _ | exact laws_heldAtomS.mono _ _ _ | exact laws_markAtomS.mono _ _ _ | exact spec_ParseAsk.mono _ _ | exact ln_ | refine LeO.ite ?_ ?_ | refine LeO.bind ?_ (fun _ => ?_)
set_option maxHeartbeats 8000000 in
set_option maxRecDepth 100000 in
theorem laws_FnExactParseAsk.calls (k : Nat) (a0 : ByteArray) (r : Bool) (w : World) (hE_ : EnvOk true w) (h : laws_FnExactParseAsk.f k a0 = some r) (hr_ : r = true) :
  Calls Tryd.prog 4 #[.string a0] w fun e w' => e = .returned (.bool r) ∧ Below w.heap.size w w' := by
 have HE_ := Aside0.mk hE_
 clear hE_
 have HB := Aside0.mk (Below.refl w.heap.size w)
 have H : (if (a0.size : Int) > 1048576 then (some true) else ((spec_ParseAsk.f k a0).bind fun bt1 => ((impl_ParseAsk.f k a0).bind fun bt5 => ((laws_eqAtomS.f k bt5.1 bt1.1).bind fun t9 => (if t9 = true then (laws_FnExactParseAsk.j0 k a0 bt1.1 bt1.2 bt5.1 (bt5.2 != bt1.2)) else (laws_FnExactParseAsk.j0 k a0 bt1.1 bt1.2 bt5.1 true)))))) = some r := h
 clear h
 by_cases c2 : (a0.size : Int) > 1048576
 ·rw [if_pos c2] at H
  have c2b0 : decide (1048576 < (a0.size : Int)) = true := decide_eq_true c2
  have c2b1 : decide (1048576 < a0.size) = true := decide_eq_true (by omega)
  clear c2
  obtain rfl := Option.some.inj H
  clear hr_
  go_enter Tryd.func4, Tryd.ntmps4
  go_wp2
  go_ret
  exact ⟨rr_, bw_⟩
 rw [if_neg c2] at H
 have c2b0 : decide (1048576 < (a0.size : Int)) = false := decide_eq_false c2
 have c2b1 : decide (1048576 < a0.size) = false := decide_eq_false (by omega)
 clear c2
 replace H := Option.bind_eq_some_iff.mp H
 obtain ⟨⟨t1, t2⟩, A30, H⟩ := H
 replace H : ((impl_ParseAsk.f k a0).bind fun bt5 => ((laws_eqAtomS.f k bt5.1 t1).bind fun t9 => (if t9 = true then (laws_FnExactParseAsk.j0 k a0 t1 t2 bt5.1 (bt5.2 != t2)) else (laws_FnExactParseAsk.j0 k a0 t1 t2 bt5.1 true)))) = some r := H
 have A3 := Aside0.mk A30
 clear A30
 replace H := Option.bind_eq_some_iff.mp H
 obtain ⟨⟨t5, t6⟩, A40, H⟩ := H
 replace H : ((laws_eqAtomS.f k t5 t1).bind fun t9 => (if t9 = true then (laws_FnExactParseAsk.j0 k a0 t1 t2 t5 (t6 != t2)) else (laws_FnExactParseAsk.j0 k a0 t1 t2 t5 true))) = some r := H
 have A4 := Aside0.mk A40
 clear A40
 have HC5 := Aside0.mk H
 clear H
 go_enter Tryd.func4, Tryd.ntmps4
 go_upto_region 5 with (first | ((with_reducible refine gate_callee (f := 24) rfl ?_); refine goesL_ (some 16) rfl rfl Tryd.func24 (by kernel_rfl) rfl #[.string a0] rfl ar_ ?_; (with_reducible refine (spec_ParseAsk.calls k a0 t1 t2 _ A3.out).mono ?_); rintro e w6 ⟨v3, rfl, ho0, hb⟩; refine ⟨_, rfl, ?_⟩; have n0_ := Aside0.mk (Kd.R_lower ho0 (below_size bw_)); have n1_ := bs_ hb; clear HB; have HO4 := n0_; have HB := n1_; clear n0_ n1_; (try clear hb); (try clear hb2); (try clear hk); (try clear hi); (try clear ho0)) | ((with_reducible refine gate_callee (f := 25) rfl ?_); refine goesL_ (some 21) rfl rfl Tryd.func25 (by kernel_rfl) rfl #[.string a0] rfl ar_ ?_; (with_reducible refine (impl_ParseAsk.calls (hE_ := ee_) k a0 t5 t6 _ A4.out).mono ?_); rintro e w7 ⟨v7, rfl, ho0, hb⟩; refine ⟨_, rfl, ?_⟩; have n0_ := Aside0.mk (Kd.R_elder' (rx_ HO4.out) (Kd.R_base ho0) hb); have n1_ := Aside0.mk (Kd.R_lower (Kd.R_new' ho0 (Kd.R_lt (rx_ HO4.out))) (below_size bw_)); have n2_ := bs_ hb; clear HO4; clear HB; have HO4 := n0_; have HO8 := n1_; have HB := n2_; clear n0_ n1_ n2_; (try clear hb); (try clear hb2); (try clear hk); (try clear hi); (try clear ho0)))
 (try simp only [Act.put, List.setIfInBounds_toArray, List.set_cons_zero, List.set_cons_succ])
 go_cut [32] (fun v32 wc => ∃ (kq : Nat) (x32_4 : Bool), v32 = .bool x32_4 ∧ Aside0 (laws_FnExactParseAsk.j0 kq a0 t1 t2 t5 x32_4 = some r) ∧ Aside0 (kq ≤ k) ∧ Aside0 (Kd.R k110 110 wc w.heap.size (fun k_ => some k_ ≠ (v7 : Value).ownBlock) v3 t1) ∧ Aside0 (Kd.R k110 110 wc w.heap.size (fun k_ => some k_ ≠ (v3 : Value).ownBlock) v7 t5) ∧ Aside0 (Below w.heap.size w wc))
 case first =>
  have H := HC5.out
  clear HC5
  replace H := Option.bind_eq_some_iff.mp H
  obtain ⟨t9, A80, H⟩ := H
  replace H : (if t9 = true then (laws_FnExactParseAsk.j0 k a0 t1 t2 t5 (t6 != t2)) else (laws_FnExactParseAsk.j0 k a0 t1 t2 t5 true)) = some r := H
  have A8 := Aside0.mk A80
  clear A80
  by_cases c9 : t9 = true
  ·subst c9
   have H1 : (laws_FnExactParseAsk.j0 k a0 t1 t2 t5 (t6 != t2)) = some r := by rw [if_pos rfl] at H; exact H
   clear H
   have H := H1
   clear H1
   have H' := Aside0.mk H
   clear H
   obtain ⟨Ao10, co10, eo10⟩ := Kd.R_slice HO8.out
   subst eo10
   obtain ⟨Ao11, co11, eo11⟩ := Kd.R_slice HO4.out
   subst eo11
   go_wp2_with (first | ((with_reducible refine gate_callee (f := 26) rfl ?_); refine goesL_ (some 26) rfl rfl Tryd.func26 (by kernel_rfl) rfl #[.slice Ao10 t5.length co10, .slice Ao11 t1.length co11] rfl ar_ ?_; (with_reducible refine (laws_eqAtomS.calls k _ _ t5 _ _ t1 true _ ?side1 ?side2 ?side3 ?side4 A8.out).mono ?_); (case side1 => repeat (first | exact (Kd.R_reads' HO8.out).2.2 | (with_reducible refine Kd.C_alloc ?_ _) | (with_reducible refine Kd.C_drewN ?_ _) | (with_reducible refine Kd.C_drew ?_))); (case side2 => exact (Kd.R_reads' HO8.out).2.1); (case side3 => repeat (first | exact (Kd.R_reads' HO4.out).2.2 | (with_reducible refine Kd.C_alloc ?_ _) | (with_reducible refine Kd.C_drewN ?_ _) | (with_reducible refine Kd.C_drew ?_))); (case side4 => exact (Kd.R_reads' HO4.out).2.1); rintro e w12 ⟨rfl, hb⟩; refine ⟨_, rfl, ?_⟩; have n0_ := Aside0.mk (Kd.R_below (rx_ HO4.out) hb); have n1_ := Aside0.mk (Kd.R_below (rx_ HO8.out) hb); have n2_ := bs_ hb; clear HO4; clear HO8; clear HB; have HO4 := n0_; have HO8 := n1_; have HB := n2_; clear n0_ n1_ n2_; (try clear hb); (try clear hb2); (try clear hk); (try clear hi)))
   go_meet
   case rel => exact ⟨_, ((t6 != t2)), sd_, H', ⟨by first | omega | exact Nat.le_refl _⟩, ⟨by (with_reducible repeat (first | apply Kd.R_alloc | apply Kd.R_drewN | apply Kd.R_drew)); exact Kd.R_mono HO4.out (fun _ hk => hk.2)⟩, ⟨by (with_reducible repeat (first | apply Kd.R_alloc | apply Kd.R_drewN | apply Kd.R_drew)); exact Kd.R_mono HO8.out (fun _ hk => hk.2)⟩, ⟨bw_⟩⟩
  replace c9 := Bool.eq_false_iff.mpr c9
  subst c9
  have H1 : (laws_FnExactParseAsk.j0 k a0 t1 t2 t5 true) = some r := by rw [if_neg (show ¬ (false = true) by decide)] at H; exact H
  clear H
  have H := H1
  clear H1
  have H' := Aside0.mk H
  clear H
  obtain ⟨Ao13, co13, eo13⟩ := Kd.R_slice HO8.out
  subst eo13
  obtain ⟨Ao14, co14, eo14⟩ := Kd.R_slice HO4.out
  subst eo14
  go_wp2_with (first | ((with_reducible refine gate_callee (f := 26) rfl ?_); refine goesL_ (some 26) rfl rfl Tryd.func26 (by kernel_rfl) rfl #[.slice Ao13 t5.length co13, .slice Ao14 t1.length co14] rfl ar_ ?_; (with_reducible refine (laws_eqAtomS.calls k _ _ t5 _ _ t1 false _ ?side1 ?side2 ?side3 ?side4 A8.out).mono ?_); (case side1 => repeat (first | exact (Kd.R_reads' HO8.out).2.2 | (with_reducible refine Kd.C_alloc ?_ _) | (with_reducible refine Kd.C_drewN ?_ _) | (with_reducible refine Kd.C_drew ?_))); (case side2 => exact (Kd.R_reads' HO8.out).2.1); (case side3 => repeat (first | exact (Kd.R_reads' HO4.out).2.2 | (with_reducible refine Kd.C_alloc ?_ _) | (with_reducible refine Kd.C_drewN ?_ _) | (with_reducible refine Kd.C_drew ?_))); (case side4 => exact (Kd.R_reads' HO4.out).2.1); rintro e w15 ⟨rfl, hb⟩; refine ⟨_, rfl, ?_⟩; have n0_ := Aside0.mk (Kd.R_below (rx_ HO4.out) hb); have n1_ := Aside0.mk (Kd.R_below (rx_ HO8.out) hb); have n2_ := bs_ hb; clear HO4; clear HO8; clear HB; have HO4 := n0_; have HO8 := n1_; have HB := n2_; clear n0_ n1_ n2_; (try clear hb); (try clear hb2); (try clear hk); (try clear hi)))
  go_meet
  case rel => exact ⟨_, (true), sd_, H', ⟨by first | omega | exact Nat.le_refl _⟩, ⟨by (with_reducible repeat (first | apply Kd.R_alloc | apply Kd.R_drewN | apply Kd.R_drew)); exact Kd.R_mono HO4.out (fun _ hk => hk.2)⟩, ⟨by (with_reducible repeat (first | apply Kd.R_alloc | apply Kd.R_drewN | apply Kd.R_drew)); exact Kd.R_mono HO8.out (fun _ hk => hk.2)⟩, ⟨bw_⟩⟩
 case rest =>
  clear HC5
  try clear c2
  try clear c2b0
  try clear c2b1
  try clear p2
  try clear c4
  try clear c9
  obtain ⟨kq, x32_4, rfl, HA, HJ4, HO_3, HO_5, HB⟩ := hcut
  cases kq with
  | zero => exact absurd HA.out (by simp [laws_FnExactParseAsk.j0])
  | succ kj4 =>
   have H := HA.out
   clear HA
   simp only [laws_FnExactParseAsk.j0] at H
   by_cases c16 : x32_4 = true
   ·subst c16
    have H1 : (some false) = some r := by rw [if_pos rfl] at H; exact H
    clear H
    have H := H1
    clear H1
    obtain rfl := Option.some.inj H
    exact absurd hr_ (by decide)
   replace c16 := Bool.eq_false_iff.mpr c16
   subst c16
   have H1 : ((laws_markAtomS.f kj4 t5 1).bind fun bt10 => ((laws_heldAtomS.f kj4 bt10.2 1).bind fun t12 => (if t12 < 0 then (some false) else (if t12 = bt10.1 then ((impl_ParseAsk.f kj4 a0).bind fun bt13 => ((laws_eqAtomS.f kj4 bt13.1 t1).bind fun t17 => (if t17 = true then (laws_FnExactParseAsk.j1 kj4 bt10.2 bt10.1 (bt13.2 != t2)) else (laws_FnExactParseAsk.j1 kj4 bt10.2 bt10.1 true)))) else (some false))))) = some r := by rw [if_neg (show ¬ (false = true) by decide)] at H; exact H
   clear H
   have H := H1
   clear H1
   replace H := Option.bind_eq_some_iff.mp H
   obtain ⟨⟨t10, t11⟩, A170, H⟩ := H
   replace H : ((laws_heldAtomS.f kj4 t11 1).bind fun t12 => (if t12 < 0 then (some false) else (if t12 = t10 then ((impl_ParseAsk.f kj4 a0).bind fun bt13 => ((laws_eqAtomS.f kj4 bt13.1 t1).bind fun t17 => (if t17 = true then (laws_FnExactParseAsk.j1 kj4 t11 t10 (bt13.2 != t2)) else (laws_FnExactParseAsk.j1 kj4 t11 t10 true)))) else (some false)))) = some r := H
   have A17 := Aside0.mk A170
   clear A170
   replace H := Option.bind_eq_some_iff.mp H
   obtain ⟨t12, A180, H⟩ := H
   replace H : (if t12 < 0 then (some false) else (if t12 = t10 then ((impl_ParseAsk.f kj4 a0).bind fun bt13 => ((laws_eqAtomS.f kj4 bt13.1 t1).bind fun t17 => (if t17 = true then (laws_FnExactParseAsk.j1 kj4 t11 t10 (bt13.2 != t2)) else (laws_FnExactParseAsk.j1 kj4 t11 t10 true)))) else (some false))) = some r := H
   have A18 := Aside0.mk A180
   clear A180
   by_cases c19 : t12 < 0
   ·rw [if_pos c19] at H
    have c19b0 : decide (t12 < 0) = true := decide_eq_true c19
    clear c19
    obtain rfl := Option.some.inj H
    exact absurd hr_ (by decide)
   rw [if_neg c19] at H
   have c19b0 : decide (t12 < 0) = false := decide_eq_false c19
   clear c19
   by_cases c22 : t12 = t10
   rotate_left
   ·rw [if_neg c22] at H
    have c22b0 : (t12 == t10) = false := beq_eq_false_iff_ne.mpr c22
    have c22b1 : (t12 != t10) = true := bne_iff_ne.mpr c22
    obtain rfl := Option.some.inj H
    exact absurd hr_ (by decide)
   rw [if_pos c22] at H
   have c22b0 : (t12 == t10) = true := beq_iff_eq.mpr c22
   have c22b1 : (t12 != t10) = false := bne_eq_false_iff_eq.mpr c22
   clear c22
   replace H := Option.bind_eq_some_iff.mp H
   obtain ⟨⟨t13, t14⟩, A230, H⟩ := H
   replace H : ((laws_eqAtomS.f kj4 t13 t1).bind fun t17 => (if t17 = true then (laws_FnExactParseAsk.j1 kj4 t11 t10 (t14 != t2)) else (laws_FnExactParseAsk.j1 kj4 t11 t10 true))) = some r := H
   have A23 := Aside0.mk A230
   clear A230
   have HC24 := Aside0.mk H
   clear H
   obtain ⟨Ao25, co25, eo25⟩ := Kd.R_slice HO_5.out
   subst eo25
   go_upto_region 16 with (first | ((with_reducible refine gate_callee (f := 27) rfl ?_); refine goesL_ (some 35) rfl rfl Tryd.func27 (by kernel_rfl) rfl #[.slice Ao25 t5.length co25, .int .i64 1] rfl ar_ ?_; (with_reducible refine (laws_markAtomS.calls kj4 (fun k_ => some k_ = (.slice Ao25 t5.length co25 : Value).ownBlock) (.slice Ao25 t5.length co25) t5 1 t10 t11 w _ ?side1 ?side2 A17.out).mono ?_); (case side1 => repeat (first | (with_reducible first | exact HB.out | apply below_alloc | apply pw_below_drewN | apply below_drew1) | exact HB.out)); (case side2 => exact Kd.R_tight rfl HO_5.out); rintro e w26 ⟨rfl, hy0, hb, hkp⟩; refine ⟨_, rfl, ?_⟩; have n0_ := Aside0.mk (Kd.R_mono (ok' := fun k_ => some k_ ≠ (.slice Ao25 t5.length co25 : Value).ownBlock) (Kd.R_keptB (HO_3.out) hkp (fun k_ hk_ hs_ => (hk_) hs_)) (fun k_ hk_ => hk_.1)); have n1_ := Aside0.mk (Kd.R_reok rfl hy0 (fun k_ e_ => HO_5.out.1 k_ e_)); have n2_ := Aside0.mk (hb); clear HO_3; clear HO_5; clear HB; have HO_3 := n0_; have HO_5 := n1_; have HB := n2_; clear n0_ n1_ n2_; (try clear hb); (try clear hkp); (try clear hy0)) | ((with_reducible refine gate_callee (f := 28) rfl ?_); refine goesL_ (some 38) rfl rfl Tryd.func28 (by kernel_rfl) rfl #[.slice Ao25 t11.length co25, .int .i64 1] rfl (by (try simp only [List.map_toArray, List.map_cons, List.map_nil]); first | done | (rw [show t11.length = t5.length from (Kd.R_reads' HO_5.out).1.symm] <;> rfl) | rfl | (simp only [List.length_drop, List.length_take]; rfl)) ?_; (with_reducible refine (laws_heldAtomS.calls kj4 _ _ t11 1 t12 _ ?side1 ?side2 A18.out).mono ?_); (case side1 => repeat (first | exact (Kd.R_reads' HO_5.out).2.2 | (with_reducible refine Kd.C_alloc ?_ _) | (with_reducible refine Kd.C_drewN ?_ _) | (with_reducible refine Kd.C_drew ?_))); (case side2 => rw [show t11.length = t5.length from (Kd.R_reads' HO_5.out).1.symm]; exact (Kd.R_reads' HO_5.out).2.1); rintro e w' ⟨rfl, ⟨nd, rfl⟩⟩; refine ⟨_, rfl, ?_⟩) | ((with_reducible refine gate_callee (f := 25) rfl ?_); refine goesL_ (some 46) rfl rfl Tryd.func25 (by kernel_rfl) rfl #[.string a0] rfl ar_ ?_; (with_reducible refine (impl_ParseAsk.calls (hE_ := ee_) kj4 a0 t13 t14 _ A23.out).mono ?_); rintro e w27 ⟨v15, rfl, ho0, hb⟩; refine ⟨_, rfl, ?_⟩; have n0_ := Aside0.mk (Kd.R_elder' (rx_ HO_3.out) (Kd.R_base ho0) hb); have n1_ := Aside0.mk (Kd.R_elder' (rx_ HO_5.out) (Kd.R_base ho0) hb); have n2_ := Aside0.mk (Kd.R_lower (Kd.R_new' (Kd.R_new' ho0 (Kd.R_lt (rx_ HO_3.out))) (Kd.R_lt (rx_ HO_5.out))) (below_size bw_)); have n3_ := bs_ hb; clear HO_3; clear HO_5; clear HB; have HO_3 := n0_; have HO_5 := n1_; have HO16 := n2_; have HB := n3_; clear n0_ n1_ n2_ n3_; (try clear hb); (try clear hb2); (try clear hk); (try clear hi); (try clear ho0)))
   (try simp only [Act.put, List.setIfInBounds_toArray, List.set_cons_zero, List.set_cons_succ])
   go_cut [57] (fun v57 wc => ∃ (kq : Nat) (x57_23 : Bool), v57 = .bool x57_23 ∧ Aside0 (laws_FnExactParseAsk.j1 kq t11 t10 x57_23 = some r) ∧ Aside0 (kq ≤ kj4) ∧ Aside0 (Kd.R k110 110 wc w.heap.size (fun _ => True) (.slice Ao25 t5.length co25) t11) ∧ Aside0 (Below w.heap.size w wc))
   case first =>
    have H := HC24.out
    clear HC24
    replace H := Option.bind_eq_some_iff.mp H
    obtain ⟨t17, A280, H⟩ := H
    replace H : (if t17 = true then (laws_FnExactParseAsk.j1 kj4 t11 t10 (t14 != t2)) else (laws_FnExactParseAsk.j1 kj4 t11 t10 true)) = some r := H
    have A28 := Aside0.mk A280
    clear A280
    by_cases c29 : t17 = true
    ·subst c29
     have H1 : (laws_FnExactParseAsk.j1 kj4 t11 t10 (t14 != t2)) = some r := by rw [if_pos rfl] at H; exact H
     clear H
     have H := H1
     clear H1
     have H' := Aside0.mk H
     clear H
     obtain ⟨Ao30, co30, eo30⟩ := Kd.R_slice HO16.out
     subst eo30
     obtain ⟨Ao31, co31, eo31⟩ := Kd.R_slice HO_3.out
     subst eo31
     go_wp2_with (first | ((with_reducible refine gate_callee (f := 26) rfl ?_); refine goesL_ (some 51) rfl rfl Tryd.func26 (by kernel_rfl) rfl #[.slice Ao30 t13.length co30, .slice Ao31 t1.length co31] rfl ar_ ?_; (with_reducible refine (laws_eqAtomS.calls kj4 _ _ t13 _ _ t1 true _ ?side1 ?side2 ?side3 ?side4 A28.out).mono ?_); (case side1 => repeat (first | exact (Kd.R_reads' HO16.out).2.2 | (with_reducible refine Kd.C_alloc ?_ _) | (with_reducible refine Kd.C_drewN ?_ _) | (with_reducible refine Kd.C_drew ?_))); (case side2 => exact (Kd.R_reads' HO16.out).2.1); (case side3 => repeat (first | exact (Kd.R_reads' HO_3.out).2.2 | (with_reducible refine Kd.C_alloc ?_ _) | (with_reducible refine Kd.C_drewN ?_ _) | (with_reducible refine Kd.C_drew ?_))); (case side4 => exact (Kd.R_reads' HO_3.out).2.1); rintro e w32 ⟨rfl, hb⟩; refine ⟨_, rfl, ?_⟩; have n0_ := Aside0.mk (Kd.R_below (rx_ HO_3.out) hb); have n1_ := Aside0.mk (Kd.R_below (rx_ HO_5.out) hb); have n2_ := Aside0.mk (Kd.R_below (rx_ HO16.out) hb); have n3_ := bs_ hb; clear HO_3; clear HO_5; clear HO16; clear HB; have HO_3 := n0_; have HO_5 := n1_; have HO16 := n2_; have HB := n3_; clear n0_ n1_ n2_ n3_; (try clear hb); (try clear hb2); (try clear hk); (try clear hi)))
     go_meet
     case rel => exact ⟨_, ((t14 != t2)), sd_, H', ⟨by have := HJ4.out; first | omega | exact Nat.le_refl _⟩, ⟨by (with_reducible repeat (first | apply Kd.R_alloc | apply Kd.R_drewN | apply Kd.R_drew)); exact Kd.R_mono HO_5.out (fun _ hk => trivial)⟩, ⟨bw_⟩⟩
    replace c29 := Bool.eq_false_iff.mpr c29
    subst c29
    have H1 : (laws_FnExactParseAsk.j1 kj4 t11 t10 true) = some r := by rw [if_neg (show ¬ (false = true) by decide)] at H; exact H
    clear H
    have H := H1
    clear H1
    have H' := Aside0.mk H
    clear H
    obtain ⟨Ao33, co33, eo33⟩ := Kd.R_slice HO16.out
    subst eo33
    obtain ⟨Ao34, co34, eo34⟩ := Kd.R_slice HO_3.out
    subst eo34
    go_wp2_with (first | ((with_reducible refine gate_callee (f := 26) rfl ?_); refine goesL_ (some 51) rfl rfl Tryd.func26 (by kernel_rfl) rfl #[.slice Ao33 t13.length co33, .slice Ao34 t1.length co34] rfl ar_ ?_; (with_reducible refine (laws_eqAtomS.calls kj4 _ _ t13 _ _ t1 false _ ?side1 ?side2 ?side3 ?side4 A28.out).mono ?_); (case side1 => repeat (first | exact (Kd.R_reads' HO16.out).2.2 | (with_reducible refine Kd.C_alloc ?_ _) | (with_reducible refine Kd.C_drewN ?_ _) | (with_reducible refine Kd.C_drew ?_))); (case side2 => exact (Kd.R_reads' HO16.out).2.1); (case side3 => repeat (first | exact (Kd.R_reads' HO_3.out).2.2 | (with_reducible refine Kd.C_alloc ?_ _) | (with_reducible refine Kd.C_drewN ?_ _) | (with_reducible refine Kd.C_drew ?_))); (case side4 => exact (Kd.R_reads' HO_3.out).2.1); rintro e w35 ⟨rfl, hb⟩; refine ⟨_, rfl, ?_⟩; have n0_ := Aside0.mk (Kd.R_below (rx_ HO_3.out) hb); have n1_ := Aside0.mk (Kd.R_below (rx_ HO_5.out) hb); have n2_ := Aside0.mk (Kd.R_below (rx_ HO16.out) hb); have n3_ := bs_ hb; clear HO_3; clear HO_5; clear HO16; clear HB; have HO_3 := n0_; have HO_5 := n1_; have HO16 := n2_; have HB := n3_; clear n0_ n1_ n2_ n3_; (try clear hb); (try clear hb2); (try clear hk); (try clear hi)))
    go_meet
    case rel => exact ⟨_, (true), sd_, H', ⟨by have := HJ4.out; first | omega | exact Nat.le_refl _⟩, ⟨by (with_reducible repeat (first | apply Kd.R_alloc | apply Kd.R_drewN | apply Kd.R_drew)); exact Kd.R_mono HO_5.out (fun _ hk => trivial)⟩, ⟨bw_⟩⟩
   case rest =>
    clear HC24
    try clear c1
    try clear c2
    try clear c2b0
    try clear c2b1
    try clear p2
    try clear c4
    try clear c9
    try clear c16
    try clear c19
    try clear c19b0
    try clear c22
    try clear c22b0
    try clear c22b1
    try clear c24
    try clear c25
    try clear c26
    try clear c27
    try clear c28
    try clear c29
    try clear p2
    obtain ⟨kq, x57_23, rfl, HA, HJ23, HO_5, HB⟩ := hcut
    have hl5_23 := (Kd.R_reads' HO_5.out).1
    rw [hl5_23] at HO_5
    (try simp only [hl5_23])
    cases kq with
    | zero => exact absurd HA.out (by simp [laws_FnExactParseAsk.j1])
    | succ kj23 =>
     have H := HA.out
     clear HA
     simp only [laws_FnExactParseAsk.j1] at H
     by_cases c36 : x57_23 = true
     ·subst c36
      have H1 : (some false) = some r := by rw [if_pos rfl] at H; exact H
      clear H
      have H := H1
      clear H1
      obtain rfl := Option.some.inj H
      exact absurd hr_ (by decide)
     replace c36 := Bool.eq_false_iff.mpr c36
     subst c36
     have H1 : ((laws_heldAtomS.f kj23 t11 1).bind fun t18 => (if t18 < 0 then (some false) else (if t18 = t10 then (some true) else (some false)))) = some r := by rw [if_neg (show ¬ (false = true) by decide)] at H; exact H
     clear H
     have H := H1
     clear H1
     replace H := Option.bind_eq_some_iff.mp H
     obtain ⟨t18, A370, H⟩ := H
     replace H : (if t18 < 0 then (some false) else (if t18 = t10 then (some true) else (some false))) = some r := H
     have A37 := Aside0.mk A370
     clear A370
     by_cases c38 : t18 < 0
     ·rw [if_pos c38] at H
      have c38b0 : decide (t18 < 0) = true := decide_eq_true c38
      clear c38
      obtain rfl := Option.some.inj H
      exact absurd hr_ (by decide)
     rw [if_neg c38] at H
     have c38b0 : decide (t18 < 0) = false := decide_eq_false c38
     clear c38
     by_cases c39 : t18 = t10
     rotate_left
     ·rw [if_neg c39] at H
      have c39b0 : (t18 == t10) = false := beq_eq_false_iff_ne.mpr c39
      have c39b1 : (t18 != t10) = true := bne_iff_ne.mpr c39
      obtain rfl := Option.some.inj H
      exact absurd hr_ (by decide)
     rw [if_pos c39] at H
     have c39b0 : (t18 == t10) = true := beq_iff_eq.mpr c39
     have c39b1 : (t18 != t10) = false := bne_eq_false_iff_eq.mpr c39
     clear c39
     obtain rfl := Option.some.inj H
     clear hr_
     go_wp2_with (first | ((with_reducible refine gate_callee (f := 28) rfl ?_); refine goesL_ (some 60) rfl rfl Tryd.func28 (by kernel_rfl) rfl #[.slice Ao25 t11.length co25, .int .i64 1] rfl ar_ ?_; (with_reducible refine (laws_heldAtomS.calls kj23 _ _ t11 1 t18 _ ?side1 ?side2 A37.out).mono ?_); (case side1 => repeat (first | exact (Kd.R_reads' HO_5.out).2.2 | (with_reducible refine Kd.C_alloc ?_ _) | (with_reducible refine Kd.C_drewN ?_ _) | (with_reducible refine Kd.C_drew ?_))); (case side2 => exact (Kd.R_reads' HO_5.out).2.1); rintro e w' ⟨rfl, ⟨nd, rfl⟩⟩; refine ⟨_, rfl, ?_⟩))
     go_ret
     exact ⟨rr_, bw_⟩


end Go.Proofs.YtchpopocnaoabaaDoor.P
