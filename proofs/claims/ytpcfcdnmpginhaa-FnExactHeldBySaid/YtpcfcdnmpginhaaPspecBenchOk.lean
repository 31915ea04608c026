-- Written by mp.py (the session's own driver over the kit's printer) for the seat Ytpcfcdnmpginhaa.
import Derived.Test.YtpcfcdnmpginhaaK
import Derived.Test.YtpcfcdnmpginhaaE
import Derived.Test.YtpcfcdnmpginhaaPspecl01Has
import Derived.Test.YtpcfcdnmpginhaaPspecl01In
namespace Go.Proofs.Ytpcfcdnmpginhaa.P
open Go.RowKit Go.Proofs.YtpcfcdnmpginhaaW.PrintWords Go.Proofs.YtpcfcdnmpginhaaW.PrintLast Go.Proofs.YtpcfcdnmpginhaaW.PrintMore
attribute [local go_sem] max2_int min2_int max_two min_two max_three min_three max_four min_four
set_option linter.unusedVariables false
set_option linter.unusedSimpArgs false

attribute [local go_sem high] eqA123
/-! ### spec_BenchOk: function 21 -/
mutual
def spec_BenchOk.j0 : Nat → Bool → List Int → List (S123) → List Int → List Int → Int → Option (Bool)
 | 0, _, _, _, _, _, _ => none
 | k + 1, x34, x2000, x2001, x2002, x2003, x2004 => if x34 = true then (some false) else (spec_BenchOk.l0 k 1 x2000 x2001 x2002 x2003 x2004)
def spec_BenchOk.l0 : Nat → Int → List Int → List (S123) → List Int → List Int → Int → Option (Bool)
 | 0, _, _, _, _, _, _ => none
 | k + 1, x3, x2000, x2001, x2002, x2003, x2004 => if x3 < (x2000.length : Int) then (if 0 ≤ (wrap64 (x3 - 1)) then (if (wrap64 (x3 - 1)) < (x2000.length : Int) then (if 0 ≤ x3 then (if (rd x2000 (wrap64 (x3 - 1))) ≥ (rd x2000 x3) then (some false) else (spec_BenchOk.l0 k (wrap64 (x3 + 1)) x2000 x2001 x2002 x2003 x2004)) else (none)) else (none)) else (none)) else (spec_BenchOk.l1 k 1 x2000 x2001 x2002 x2003 x2004)
def spec_BenchOk.l1 : Nat → Int → List Int → List (S123) → List Int → List Int → Int → Option (Bool)
 | 0, _, _, _, _, _, _ => none
 | k + 1, x4, x2000, x2001, x2002, x2003, x2004 => if x4 < x2004 then ((spec_l01Has.f k x2000 x4).bind fun t5 => (if t5 = true then (spec_BenchOk.j3 k x4 (0 + 1) x2000 x2001 x2002 x2003 x2004) else (spec_BenchOk.j3 k x4 0 x2000 x2001 x2002 x2003 x2004))) else (spec_BenchOk.l2 k 0 x2000 x2001 x2002 x2003 x2004)
def spec_BenchOk.j3 : Nat → Int → Int → List Int → List (S123) → List Int → List Int → Int → Option (Bool)
 | 0, _, _, _, _, _, _, _ => none
 | k + 1, x4, x5, x2000, x2001, x2002, x2003, x2004 => (spec_l01Has.f k x2002 x4).bind fun t6 => (if t6 = true then (spec_BenchOk.j4 k x4 (wrap64 (x5 + 1)) x2000 x2001 x2002 x2003 x2004) else (spec_BenchOk.j4 k x4 x5 x2000 x2001 x2002 x2003 x2004))
def spec_BenchOk.j4 : Nat → Int → Int → List Int → List (S123) → List Int → List Int → Int → Option (Bool)
 | 0, _, _, _, _, _, _, _ => none
 | k + 1, x4, x5, x2000, x2001, x2002, x2003, x2004 => (spec_l01Has.f k x2003 x4).bind fun t7 => (if t7 = true then (if (wrap64 (x5 + 1)) = 1 then (spec_BenchOk.l1 k (wrap64 (x4 + 1)) x2000 x2001 x2002 x2003 x2004) else (some false)) else (if x5 = 1 then (spec_BenchOk.l1 k (wrap64 (x4 + 1)) x2000 x2001 x2002 x2003 x2004) else (some false)))
def spec_BenchOk.l2 : Nat → Int → List Int → List (S123) → List Int → List Int → Int → Option (Bool)
 | 0, _, _, _, _, _, _ => none
 | k + 1, x6, x2000, x2001, x2002, x2003, x2004 => if x6 < (x2001.length : Int) then (if 0 ≤ x6 then ((spec_l01In.f ((rd_T123 x2001 x6).f0) 0 4).bind fun t9 => (if t9 = true then ((spec_l01In.f ((rd_T123 x2001 x6).f1) 1 (wrap64 (x2004 - 1))).bind fun t11 => (spec_BenchOk.j6 k x6 (!t11) x2000 x2001 x2002 x2003 x2004)) else (spec_BenchOk.j6 k x6 true x2000 x2001 x2002 x2003 x2004))) else (none)) else (some true)
def spec_BenchOk.j6 : Nat → Int → Bool → List Int → List (S123) → List Int → List Int → Int → Option (Bool)
 | 0, _, _, _, _, _, _, _ => none
 | k + 1, x6, x107, x2000, x2001, x2002, x2003, x2004 => if x107 = true then (some false) else (spec_BenchOk.l3 k x6 0 x2000 x2001 x2002 x2003 x2004)
def spec_BenchOk.l3 : Nat → Int → Int → List Int → List (S123) → List Int → List Int → Int → Option (Bool)
 | 0, _, _, _, _, _, _, _ => none
 | k + 1, x6, x7, x2000, x2001, x2002, x2003, x2004 => if x7 < x6 then (if 0 ≤ x7 then (if x7 < (x2001.length : Int) then (if 0 ≤ x6 then (if x6 < (x2001.length : Int) then (if (((rd_T123 x2001 x7).f0) == ((rd_T123 x2001 x6).f0) && (((rd_T123 x2001 x7).f1) == ((rd_T123 x2001 x6).f1))) = true then (some false) else (spec_BenchOk.l3 k x6 (wrap64 (x7 + 1)) x2000 x2001 x2002 x2003 x2004)) else (none)) else (none)) else (none)) else (none)) else (spec_BenchOk.l2 k (wrap64 (x6 + 1)) x2000 x2001 x2002 x2003 x2004)
end
def spec_BenchOk.f (k : Nat) (l0_0 : List Int) (l0_1 : List (S123)) (l0_2 : List Int) (l0_3 : List Int) (a0_4 : Int) : Option (Bool) := (spec_l01In.f a0_4 1 61).bind fun t2 => (if t2 = true then (if (wrap64 ((wrap64 ((l0_0.length : Int) + (l0_2.length : Int))) + (l0_3.length : Int))) = (wrap64 (a0_4 - 1)) then (spec_BenchOk.j0 k (decide ((l0_1.length : Int) > 300)) l0_0 l0_1 l0_2 l0_3 a0_4) else (spec_BenchOk.j0 k true l0_0 l0_1 l0_2 l0_3 a0_4)) else (spec_BenchOk.j0 k true l0_0 l0_1 l0_2 l0_3 a0_4))
theorem spec_BenchOk.mono_l : ∀ k, (∀ y0 y1 y2 y3 y4 y5, LeO (spec_BenchOk.j0 k y0 y1 y2 y3 y4 y5) (spec_BenchOk.j0 (k + 1) y0 y1 y2 y3 y4 y5)) ∧ (∀ y0 y1 y2 y3 y4 y5, LeO (spec_BenchOk.l0 k y0 y1 y2 y3 y4 y5) (spec_BenchOk.l0 (k + 1) y0 y1 y2 y3 y4 y5)) ∧ (∀ y0 y1 y2 y3 y4 y5, LeO (spec_BenchOk.l1 k y0 y1 y2 y3 y4 y5) (spec_BenchOk.l1 (k + 1) y0 y1 y2 y3 y4 y5)) ∧ (∀ y0 y1 y2 y3 y4 y5 y6, LeO (spec_BenchOk.j3 k y0 y1 y2 y3 y4 y5 y6) (spec_BenchOk.j3 (k + 1) y0 y1 y2 y3 y4 y5 y6)) ∧ (∀ y0 y1 y2 y3 y4 y5 y6, LeO (spec_BenchOk.j4 k y0 y1 y2 y3 y4 y5 y6) (spec_BenchOk.j4 (k + 1) y0 y1 y2 y3 y4 y5 y6)) ∧ (∀ y0 y1 y2 y3 y4 y5, LeO (spec_BenchOk.l2 k y0 y1 y2 y3 y4 y5) (spec_BenchOk.l2 (k + 1) y0 y1 y2 y3 y4 y5)) ∧ (∀ y0 y1 y2 y3 y4 y5 y6, LeO (spec_BenchOk.j6 k y0 y1 y2 y3 y4 y5 y6) (spec_BenchOk.j6 (k + 1) y0 y1 y2 y3 y4 y5 y6)) ∧ (∀ y0 y1 y2 y3 y4 y5 y6, LeO (spec_BenchOk.l3 k y0 y1 y2 y3 y4 y5 y6) (spec_BenchOk.l3 (k + 1) y0 y1 y2 y3 y4 y5 y6))
 | 0 => ⟨fun _ _ _ _ _ _ r h => by simp [spec_BenchOk.j0] at h, fun _ _ _ _ _ _ r h => by simp [spec_BenchOk.l0] at h, fun _ _ _ _ _ _ r h => by simp [spec_BenchOk.l1] at h, fun _ _ _ _ _ _ _ r h => by simp [spec_BenchOk.j3] at h, fun _ _ _ _ _ _ _ r h => by simp [spec_BenchOk.j4] at h, fun _ _ _ _ _ _ r h => by simp [spec_BenchOk.l2] at h, fun _ _ _ _ _ _ _ r h => by simp [spec_BenchOk.j6] at h, fun _ _ _ _ _ _ _ r h => by simp [spec_BenchOk.l3] at h⟩
 | k + 1 => by
  obtain ⟨ih0, ih1, ih2, ih3, ih4, ih5, ih6, ih7⟩ := spec_BenchOk.mono_l k
  refine ⟨?_, ?_, ?_, ?_, ?_, ?_, ?_, ?_⟩
  ·intro y0 y1 y2 y3 y4 y5
   unfold spec_BenchOk.j0
   repeat' first
   | (with_reducible exact ih0 _ _ _ _ _ _)
   | (with_reducible exact ih1 _ _ _ _ _ _)
   | (with_reducible exact ih2 _ _ _ _ _ _)
   | (with_reducible exact ih3 _ _ _ _ _ _ _)
   | (with_reducible exact ih4 _ _ _ _ _ _ _)
   | (with_reducible exact ih5 _ _ _ _ _ _)
   | (with_reducible exact ih6 _ _ _ _ _ _ _)
   | (with_reducible exact ih7 _ _ _ _ _ _ _)
   | (with_reducible exact spec_l01Has.mono _ _ _)
   | (with_reducible exact LeO.refl _)
   | (with_reducible exact LeO.none _)
   | (with_reducible refine LeO.ite ?_ ?_)
   | (with_reducible refine LeO.bind ?_ (fun _ => ?_))
   | exact ih0 _ _ _ _ _ _
   | exact ih1 _ _ _ _ _ _
   | exact ih2 _ _ _ _ _ _
   | exact ih3 _ _ _ _ _ _ _
   | exact ih4 _ _ _ _ _ _ _
   | exact ih5 _ _ _ _ _ _
   | exact ih6 _ _ _ _ _ _ _
   | exact ih7 _ _ _ _ _ _ _
   | exact spec_l01Has.mono _ _ _
   | exact LeO.none _
   | refine LeO.ite ?_ ?_
   | refine LeO.bind ?_ (fun _ => ?_)
  ·intro y0 y1 y2 y3 y4 y5
   unfold spec_BenchOk.l0
   repeat' first
   | (with_reducible exact ih0 _ _ _ _ _ _)
   | (with_reducible exact ih1 _ _ _ _ _ _)
   | (with_reducible exact ih2 _ _ _ _ _ _)
   | (with_reducible exact ih3 _ _ _ _ _ _ _)
   | (with_reducible exact ih4 _ _ _ _ _ _ _)
   | (with_reducible exact ih5 _ _ _ _ _ _)
   | (with_reducible exact ih6 _ _ _ _ _ _ _)
   | (with_reducible exact ih7 _ _ _ _ _ _ _)
   | (with_reducible exact spec_l01Has.mono _ _ _)
   | (with_reducible exact LeO.refl _)
   | (with_reducible exact LeO.none _)
   | (with_reducible refine LeO.ite ?_ ?_)
   | (with_reducible refine LeO.bind ?_ (fun _ => ?_))
   | exact ih0 _ _ _ _ _ _
   | exact ih1 _ _ _ _ _ _
   | exact ih2 _ _ _ _ _ _
   | exact ih3 _ _ _ _ _ _ _
   | exact ih4 _ _ _ _ _ _ _
   | exact ih5 _ _ _ _ _ _
   | exact ih6 _ _ _ _ _ _ _
   | exact ih7 _ _ _ _ _ _ _
   | exact spec_l01Has.mono _ _ _
   | exact LeO.none _
   | refine LeO.ite ?_ ?_
   | refine LeO.bind ?_ (fun _ => ?_)
  ·intro y0 y1 y2 y3 y4 y5
   unfold spec_BenchOk.l1
   repeat' first
   | (with_reducible exact ih0 _ _ _ _ _ _)
   | (with_reducible exact ih1 _ _ _ _ _ _)
   | (with_reducible exact ih2 _ _ _ _ _ _)
   | (with_reducible exact ih3 _ _ _ _ _ _ _)
   | (with_reducible exact ih4 _ _ _ _ _ _ _)
   | (with_reducible exact ih5 _ _ _ _ _ _)
   | (with_reducible exact ih6 _ _ _ _ _ _ _)
   | (with_reducible exact ih7 _ _ _ _ _ _ _)
   | (with_reducible exact spec_l01Has.mono _ _ _)
   | (with_reducible exact LeO.refl _)
   | (with_reducible exact LeO.none _)
   | (with_reducible refine LeO.ite ?_ ?_)
   | (with_reducible refine LeO.bind ?_ (fun _ => ?_))
   | exact ih0 _ _ _ _ _ _
   | exact ih1 _ _ _ _ _ _
   | exact ih2 _ _ _ _ _ _
   | exact ih3 _ _ _ _ _ _ _
   | exact ih4 _ _ _ _ _ _ _
   | exact ih5 _ _ _ _ _ _
   | exact ih6 _ _ _ _ _ _ _
   | exact ih7 _ _ _ _ _ _ _
   | exact spec_l01Has.mono _ _ _
   | exact LeO.none _
   | refine LeO.ite ?_ ?_
   | refine LeO.bind ?_ (fun _ => ?_)
  ·intro y0 y1 y2 y3 y4 y5 y6
   unfold spec_BenchOk.j3
   repeat' first
   | (with_reducible exact ih0 _ _ _ _ _ _)
   | (with_reducible exact ih1 _ _ _ _ _ _)
   | (with_reducible exact ih2 _ _ _ _ _ _)
   | (with_reducible exact ih3 _ _ _ _ _ _ _)
   | (with_reducible exact ih4 _ _ _ _ _ _ _)
   | (with_reducible exact ih5 _ _ _ _ _ _)
   | (with_reducible exact ih6 _ _ _ _ _ _ _)
   | (with_reducible exact ih7 _ _ _ _ _ _ _)
   | (with_reducible exact spec_l01Has.mono _ _ _)
   | (with_reducible exact LeO.refl _)
   | (with_reducible exact LeO.none _)
   | (with_reducible refine LeO.ite ?_ ?_)
   | (with_reducible refine LeO.bind ?_ (fun _ => ?_))
   | exact ih0 _ _ _ _ _ _
   | exact ih1 _ _ _ _ _ _
   | exact ih2 _ _ _ _ _ _
   | exact ih3 _ _ _ _ _ _ _
   | exact ih4 _ _ _ _ _ _ _
   | exact ih5 _ _ _ _ _ _
   | exact ih6 _ _ _ _ _ _ _
   | exact ih7 _ _ _ _ _ _ _
   | exact spec_l01Has.mono _ _ _
   | exact LeO.none _
   | refine LeO.ite ?_ ?_
   | refine LeO.bind ?_ (fun _ => ?_)
  ·intro y0 y1 y2 y3 y4 y5 y6
   unfold spec_BenchOk.j4
   repeat' first
   | (with_reducible exact ih0 _ _ _ _ _ _)
   | (with_reducible exact ih1 _ _ _ _ _ _)
   | (with_reducible exact ih2 _ _ _ _ _ _)
   | (with_reducible exact ih3 _ _ _ _ _ _ _)
   | (with_reducible exact ih4 _ _ _ _ _ _ _)
   | (with_reducible exact ih5 _ _ _ _ _ _)
   | (with_reducible exact ih6 _ _ _ _ _ _ _)
   | (with_reducible exact ih7 _ _ _ _ _ _ _)
   | (with_reducible exact spec_l01Has.mono _ _ _)
   | (with_reducible exact LeO.refl _)
   | (with_reducible exact LeO.none _)
   | (with_reducible refine LeO.ite ?_ ?_)
   | (with_reducible refine LeO.bind ?_ (fun _ => ?_))
   | exact ih0 _ _ _ _ _ _
   | exact ih1 _ _ _ _ _ _
   | exact ih2 _ _ _ _ _ _
   | exact ih3 _ _ _ _ _ _ _
   | exact ih4 _ _ _ _ _ _ _
   | exact ih5 _ _ _ _ _ _
   | exact ih6 _ _ _ _ _ _ _
   | exact ih7 _ _ _ _ _ _ _
   | exact spec_l01Has.mono _ _ _
   | exact LeO.none _
   | refine LeO.ite ?_ ?_
   | refine LeO.bind ?_ (fun _ => ?_)
  ·intro y0 y1 y2 y3 y4 y5
   unfold spec_BenchOk.l2
   repeat' first
   | (with_reducible exact ih0 _ _ _ _ _ _)
   | (with_reducible exact ih1 _ _ _ _ _ _)
   | (with_reducible exact ih2 _ _ _ _ _ _)
   | (with_reducible exact ih3 _ _ _ _ _ _ _)
   | (with_reducible exact ih4 _ _ _ _ _ _ _)
   | (with_reducible exact ih5 _ _ _ _ _ _)
   | (with_reducible exact ih6 _ _ _ _ _ _ _)
   | (with_reducible exact ih7 _ _ _ _ _ _ _)
   | (with_reducible exact spec_l01Has.mono _ _ _)
   | (with_reducible exact LeO.refl _)
   | (with_reducible exact LeO.none _)
   | (with_reducible refine LeO.ite ?_ ?_)
   | (with_reducible refine LeO.bind ?_ (fun _ => ?_))
   | exact ih0 _ _ _ _ _ _
   | exact ih1 _ _ _ _ _ _
   | exact ih2 _ _ _ _ _ _
   | exact ih3 _ _ _ _ _ _ _
   | exact ih4 _ _ _ _ _ _ _
   | exact ih5 _ _ _ _ _ _
   | exact ih6 _ _ _ _ _ _ _
   | exact ih7 _ _ _ _ _ _ _
   | exact spec_l01Has.mono _ _ _
   | exact LeO.none _
   | refine LeO.ite ?_ ?_
   | refine LeO.bind ?_ (fun _ => ?_)
  ·intro y0 y1 y2 y3 y4 y5 y6
   unfold spec_BenchOk.j6
   repeat' first
   | (with_reducible exact ih0 _ _ _ _ _ _)
   | (with_reducible exact ih1 _ _ _ _ _ _)
   | (with_reducible exact ih2 _ _ _ _ _ _)
   | (with_reducible exact ih3 _ _ _ _ _ _ _)
   | (with_reducible exact ih4 _ _ _ _ _ _ _)
   | (with_reducible exact ih5 _ _ _ _ _ _)
   | (with_reducible exact ih6 _ _ _ _ _ _ _)
   | (with_reducible exact ih7 _ _ _ _ _ _ _)
   | (with_reducible exact spec_l01Has.mono _ _ _)
   | (with_reducible exact LeO.refl _)
   | (with_reducible exact LeO.none _)
   | (with_reducible refine LeO.ite ?_ ?_)
   | (with_reducible refine LeO.bind ?_ (fun _ => ?_))
   | exact ih0 _ _ _ _ _ _
   | exact ih1 _ _ _ _ _ _
   | exact ih2 _ _ _ _ _ _
   | exact ih3 _ _ _ _ _ _ _
   | exact ih4 _ _ _ _ _ _ _
   | exact ih5 _ _ _ _ _ _
   | exact ih6 _ _ _ _ _ _ _
   | exact ih7 _ _ _ _ _ _ _
   | exact spec_l01Has.mono _ _ _
   | exact LeO.none _
   | refine LeO.ite ?_ ?_
   | refine LeO.bind ?_ (fun _ => ?_)
  ·intro y0 y1 y2 y3 y4 y5 y6
   unfold spec_BenchOk.l3
   repeat' first
   | (with_reducible exact ih0 _ _ _ _ _ _)
   | (with_reducible exact ih1 _ _ _ _ _ _)
   | (with_reducible exact ih2 _ _ _ _ _ _)
   | (with_reducible exact ih3 _ _ _ _ _ _ _)
   | (with_reducible exact ih4 _ _ _ _ _ _ _)
   | (with_reducible exact ih5 _ _ _ _ _ _)
   | (with_reducible exact ih6 _ _ _ _ _ _ _)
   | (with_reducible exact ih7 _ _ _ _ _ _ _)
   | (with_reducible exact spec_l01Has.mono _ _ _)
   | (with_reducible exact LeO.refl _)
   | (with_reducible exact LeO.none _)
   | (with_reducible refine LeO.ite ?_ ?_)
   | (with_reducible refine LeO.bind ?_ (fun _ => ?_))
   | exact ih0 _ _ _ _ _ _
   | exact ih1 _ _ _ _ _ _
   | exact ih2 _ _ _ _ _ _
   | exact ih3 _ _ _ _ _ _ _
   | exact ih4 _ _ _ _ _ _ _
   | exact ih5 _ _ _ _ _ _
   | exact ih6 _ _ _ _ _ _ _
   | exact ih7 _ _ _ _ _ _ _
   | exact spec_l01Has.mono _ _ _
   | exact LeO.none _
   | refine LeO.ite ?_ ?_
   | refine LeO.bind ?_ (fun _ => ?_)
theorem spec_BenchOk.mono : ∀ a0 a1 a2 a3 a4 k, LeO (spec_BenchOk.f k a0 a1 a2 a3 a4) (spec_BenchOk.f (k + 1) a0 a1 a2 a3 a4) := by
 intro a0 a1 a2 a3 a4 k
 obtain ⟨ih0, ih1, ih2, ih3, ih4, ih5, ih6, ih7⟩ := spec_BenchOk.mono_l k
 unfold spec_BenchOk.f
 repeat' first
   | (with_reducible exact ih0 _ _ _ _ _ _)
   | (with_reducible exact ih1 _ _ _ _ _ _)
   | (with_reducible exact ih2 _ _ _ _ _ _)
   | (with_reducible exact ih3 _ _ _ _ _ _ _)
   | (with_reducible exact ih4 _ _ _ _ _ _ _)
   | (with_reducible exact ih5 _ _ _ _ _ _)
   | (with_reducible exact ih6 _ _ _ _ _ _ _)
   | (with_reducible exact ih7 _ _ _ _ _ _ _)
   | (with_reducible exact spec_l01Has.mono _ _ _)
   | (with_reducible exact LeO.refl _)
   | (with_reducible exact LeO.none _)
   | (with_reducible refine LeO.ite ?_ ?_)
   | (with_reducible refine LeO.bind ?_ (fun _ => ?_))
   | exact ih0 _ _ _ _ _ _
   | exact ih1 _ _ _ _ _ _
   | exact ih2 _ _ _ _ _ _
   | exact ih3 _ _ _ _ _ _ _
   | exact ih4 _ _ _ _ _ _ _
   | exact ih5 _ _ _ _ _ _
   | exact ih6 _ _ _ _ _ _ _
   | exact ih7 _ _ _ _ _ _ _
   | exact spec_l01Has.mono _ _ _
   | exact LeO.none _
   | refine LeO.ite ?_ ?_
   | refine LeO.bind ?_ (fun _ => ?_)
set_option maxHeartbeats 8000000 in
set_option maxRecDepth 100000 in
theorem spec_BenchOk.calls (k : Nat) (A0_0 : Option Addr) (c0_0 : Nat) (l0_0 : List Int) (A0_1 : Option Addr) (c0_1 : Nat) (l0_1 : List (S123)) (A0_2 : Option Addr) (c0_2 : Nat) (l0_2 : List Int) (A0_3 : Option Addr) (c0_3 : Nat) (l0_3 : List Int) (a0_4 : Int) (r : Bool) (w : World) (hr0_0 : Kd.C (Kd.int .i64) w A0_0 l0_0.length l0_0) (hc0_0 : l0_0.length ≤ c0_0) (hr0_1 : Kd.C k123 w A0_1 l0_1.length l0_1) (hc0_1 : l0_1.length ≤ c0_1) (hr0_2 : Kd.C (Kd.int .i64) w A0_2 l0_2.length l0_2) (hc0_2 : l0_2.length ≤ c0_2) (hr0_3 : Kd.C (Kd.int .i64) w A0_3 l0_3.length l0_3) (hc0_3 : l0_3.length ≤ c0_3) (h : spec_BenchOk.f k l0_0 l0_1 l0_2 l0_3 a0_4 = some r) :
  Calls Try.prog 21 #[.agg #[.slice A0_0 l0_0.length c0_0, .slice A0_1 l0_1.length c0_1, .slice A0_2 l0_2.length c0_2, .slice A0_3 l0_3.length c0_3, .int .i64 a0_4]] w fun e w' => e = .returned (.bool r) ∧ Below w.heap.size w w' := by
 have hu30 := Try.underlying30
 have hu123 := Try.underlying123
 have HR0_0 := Aside0.mk hr0_0
 have HC0_0 := Aside0.mk hc0_0
 clear hr0_0 hc0_0
 have HR0_1 := Aside0.mk hr0_1
 have HC0_1 := Aside0.mk hc0_1
 clear hr0_1 hc0_1
 have HR0_2 := Aside0.mk hr0_2
 have HC0_2 := Aside0.mk hc0_2
 clear hr0_2 hc0_2
 have HR0_3 := Aside0.mk hr0_3
 have HC0_3 := Aside0.mk hc0_3
 clear hr0_3 hc0_3
 have HB := Aside0.mk (Below.refl w.heap.size w)
 have H : ((spec_l01In.f a0_4 1 61).bind fun t2 => (if t2 = true then (if (wrap64 ((wrap64 ((l0_0.length : Int) + (l0_2.length : Int))) + (l0_3.length : Int))) = (wrap64 (a0_4 - 1)) then (spec_BenchOk.j0 k (decide ((l0_1.length : Int) > 300)) l0_0 l0_1 l0_2 l0_3 a0_4) else (spec_BenchOk.j0 k true l0_0 l0_1 l0_2 l0_3 a0_4)) else (spec_BenchOk.j0 k true l0_0 l0_1 l0_2 l0_3 a0_4))) = some r := h
 clear h
 have HC2 := Aside0.mk H
 clear H
 go_enter Try.func21, Try.ntmps21
 go_upto_region 1 with (first | ((with_reducible refine gate_dst (N := 1) rfl ?_); (try (refine gate_guard (by rfl) ?_; dsimp only)); refine box_event ?hg (N := 1) ?hd (cs := #[.slice A0_0 l0_0.length c0_0, .slice A0_1 l0_1.length c0_1, .slice A0_2 l0_2.length c0_2, .slice A0_3 l0_3.length c0_3, .int .i64 a0_4]) (t := 30) ?hr ?_; (case hd => rfl); (case hg => rfl); (case hr => first | (go_simp; done) | (go_simp; rfl)); intro gb1 hg w3 hbox hb; have n0_ := Aside0.mk (below_step bw_ hb); have n1_ := Aside0.mk (hbox); have n2_ := Aside0.mk ((by rw [hg]; exact (below_size bw_) : w.heap.size ≤ gb1)); have n3_ := Aside0.mk ((by rw [hg]; exact (below_size bw_) : w.heap.size ≤ gb1)); clear HB; have HB := n0_; have BK1 := n1_; have GW1 := n2_; have GE1 := n3_; clear n0_ n1_ n2_ n3_; clear hb hbox hg))
 repeat (go_quiet (first | ((with_reducible refine gate_dst (N := 1) rfl ?_); (try (refine gate_guard (by rfl) ?_; dsimp only)); refine box_event ?hg (N := 1) ?hd (cs := #[.slice A0_0 l0_0.length c0_0, .slice A0_1 l0_1.length c0_1, .slice A0_2 l0_2.length c0_2, .slice A0_3 l0_3.length c0_3, .int .i64 a0_4]) (t := 30) ?hr ?_; (case hd => rfl); (case hg => rfl); (case hr => first | (go_simp; done) | (go_simp; rfl)); intro gb1 hg w3 hbox hb; have n0_ := Aside0.mk (below_step bw_ hb); have n1_ := Aside0.mk (hbox); have n2_ := Aside0.mk ((by rw [hg]; exact (below_size bw_) : w.heap.size ≤ gb1)); have n3_ := Aside0.mk ((by rw [hg]; exact (below_size bw_) : w.heap.size ≤ gb1)); clear HB; have HB := n0_; have BK1 := n1_; have GW1 := n2_; have GE1 := n3_; clear n0_ n1_ n2_ n3_; clear hb hbox hg)); go_upto_region 1 with (first | ((with_reducible refine gate_dst (N := 1) rfl ?_); (try (refine gate_guard (by rfl) ?_; dsimp only)); refine box_event ?hg (N := 1) ?hd (cs := #[.slice A0_0 l0_0.length c0_0, .slice A0_1 l0_1.length c0_1, .slice A0_2 l0_2.length c0_2, .slice A0_3 l0_3.length c0_3, .int .i64 a0_4]) (t := 30) ?hr ?_; (case hd => rfl); (case hg => rfl); (case hr => first | (go_simp; done) | (go_simp; rfl)); intro gb1 hg w3 hbox hb; have n0_ := Aside0.mk (below_step bw_ hb); have n1_ := Aside0.mk (hbox); have n2_ := Aside0.mk ((by rw [hg]; exact (below_size bw_) : w.heap.size ≤ gb1)); have n3_ := Aside0.mk ((by rw [hg]; exact (below_size bw_) : w.heap.size ≤ gb1)); clear HB; have HB := n0_; have BK1 := n1_; have GW1 := n2_; have GE1 := n3_; clear n0_ n1_ n2_ n3_; clear hb hbox hg)))
 (try simp only [Act.put, List.setIfInBounds_toArray, List.set_cons_zero, List.set_cons_succ])
 go_cut [34] (fun v34 wc => ∃ (kq : Nat) (x34_1 : Bool), v34 = .bool x34_1 ∧ Aside0 (spec_BenchOk.j0 kq x34_1 l0_0 l0_1 l0_2 l0_3 a0_4 = some r) ∧ Aside0 (kq ≤ k) ∧ Aside0 (wc.heap[gb1]? = some (.cells #[(.slice A0_0 l0_0.length c0_0), (.slice A0_1 l0_1.length c0_1), (.slice A0_2 l0_2.length c0_2), (.slice A0_3 l0_3.length c0_3), .int .i64 a0_4] 30 (0, 0))) ∧ Aside0 (Below w.heap.size w wc))
 case first =>
  have H := HC2.out
  clear HC2
  replace H := Option.bind_eq_some_iff.mp H
  obtain ⟨t2, A40, H⟩ := H
  replace H : (if t2 = true then (if (wrap64 ((wrap64 ((l0_0.length : Int) + (l0_2.length : Int))) + (l0_3.length : Int))) = (wrap64 (a0_4 - 1)) then (spec_BenchOk.j0 k (decide ((l0_1.length : Int) > 300)) l0_0 l0_1 l0_2 l0_3 a0_4) else (spec_BenchOk.j0 k true l0_0 l0_1 l0_2 l0_3 a0_4)) else (spec_BenchOk.j0 k true l0_0 l0_1 l0_2 l0_3 a0_4)) = some r := H
  have A4 := Aside0.mk A40
  clear A40
  by_cases c5 : t2 = true
  ·subst c5
   have H1 : (if (wrap64 ((wrap64 ((l0_0.length : Int) + (l0_2.length : Int))) + (l0_3.length : Int))) = (wrap64 (a0_4 - 1)) then (spec_BenchOk.j0 k (decide ((l0_1.length : Int) > 300)) l0_0 l0_1 l0_2 l0_3 a0_4) else (spec_BenchOk.j0 k true l0_0 l0_1 l0_2 l0_3 a0_4)) = some r := by rw [if_pos rfl] at H; exact H
   clear H
   have H := H1
   clear H1
   by_cases c6 : (wrap64 ((wrap64 ((l0_0.length : Int) + (l0_2.length : Int))) + (l0_3.length : Int))) = (wrap64 (a0_4 - 1))
   ·rw [if_pos c6] at H
    have c6b0 : ((wrap64 ((wrap64 ((l0_0.length : Int) + (l0_2.length : Int))) + (l0_3.length : Int))) == (wrap64 (a0_4 - 1))) = true := beq_iff_eq.mpr c6
    have c6b1 : ((wrap64 ((wrap64 ((l0_0.length : Int) + (l0_2.length : Int))) + (l0_3.length : Int))) != (wrap64 (a0_4 - 1))) = false := bne_eq_false_iff_eq.mpr c6
    clear c6
    (first | rw [c6b0] | (simp only [i64_w, i32_w]; rw [c6b0]) | skip)
    have H' := Aside0.mk H
    clear H
    have hcz7_0 := (blk_cell BK1.out 0).trans rfl
    have hcz7_1 := (blk_cell BK1.out 1).trans rfl
    have hcz7_2 := (blk_cell BK1.out 2).trans rfl
    have hcz7_3 := (blk_cell BK1.out 3).trans rfl
    have hcz7_4 := (blk_cell BK1.out 4).trans rfl
    have hfz7_0 := blk_frozen BK1.out 0
    have hfz7_1 := blk_frozen BK1.out 1
    have hfz7_2 := blk_frozen BK1.out 2
    have hfz7_3 := blk_frozen BK1.out 3
    have hfz7_4 := blk_frozen BK1.out 4
    go_wp2_with (first | (go_at_call 97; (with_reducible refine (spec_l01In.calls a0_4 1 61 true _ A4.out).mono ?_); rintro e w' ⟨rfl, ⟨nd, rfl⟩⟩; (try first | exact ⟨rfl, _, World.drewN_drewN _ _ _⟩ | exact ⟨rfl, _, Eq.trans (World.drewN_drewN _ _ _) (congrArg (World.drewN _) (Nat.add_assoc _ _ _))⟩)))
    repeat (go_quiet (first | (go_at_call 97; (with_reducible refine (spec_l01In.calls a0_4 1 61 true _ A4.out).mono ?_); rintro e w' ⟨rfl, ⟨nd, rfl⟩⟩; (try first | exact ⟨rfl, _, World.drewN_drewN _ _ _⟩ | exact ⟨rfl, _, Eq.trans (World.drewN_drewN _ _ _) (congrArg (World.drewN _) (Nat.add_assoc _ _ _))⟩))); try go_wp2_with (first | (go_at_call 97; (with_reducible refine (spec_l01In.calls a0_4 1 61 true _ A4.out).mono ?_); rintro e w' ⟨rfl, ⟨nd, rfl⟩⟩; (try first | exact ⟨rfl, _, World.drewN_drewN _ _ _⟩ | exact ⟨rfl, _, Eq.trans (World.drewN_drewN _ _ _) (congrArg (World.drewN _) (Nat.add_assoc _ _ _))⟩))))
    go_meet
    case rel => exact ⟨_, (decide ((l0_1.length : Int) > 300)), sd_, H', ⟨by first | omega | exact Nat.le_refl _⟩, ⟨bk_⟩, ⟨bw_⟩⟩
   ·rw [if_neg c6] at H
    have c6b0 : ((wrap64 ((wrap64 ((l0_0.length : Int) + (l0_2.length : Int))) + (l0_3.length : Int))) == (wrap64 (a0_4 - 1))) = false := beq_eq_false_iff_ne.mpr c6
    have c6b1 : ((wrap64 ((wrap64 ((l0_0.length : Int) + (l0_2.length : Int))) + (l0_3.length : Int))) != (wrap64 (a0_4 - 1))) = true := bne_iff_ne.mpr c6
    (first | rw [c6b0] | (simp only [i64_w, i32_w]; rw [c6b0]) | skip)
    have H' := Aside0.mk H
    clear H
    have hcz8_0 := (blk_cell BK1.out 0).trans rfl
    have hcz8_1 := (blk_cell BK1.out 1).trans rfl
    have hcz8_2 := (blk_cell BK1.out 2).trans rfl
    have hcz8_3 := (blk_cell BK1.out 3).trans rfl
    have hcz8_4 := (blk_cell BK1.out 4).trans rfl
    have hfz8_0 := blk_frozen BK1.out 0
    have hfz8_1 := blk_frozen BK1.out 1
    have hfz8_2 := blk_frozen BK1.out 2
    have hfz8_3 := blk_frozen BK1.out 3
    have hfz8_4 := blk_frozen BK1.out 4
    go_wp2_with (first | (go_at_call 97; (with_reducible refine (spec_l01In.calls a0_4 1 61 true _ A4.out).mono ?_); rintro e w' ⟨rfl, ⟨nd, rfl⟩⟩; (try first | exact ⟨rfl, _, World.drewN_drewN _ _ _⟩ | exact ⟨rfl, _, Eq.trans (World.drewN_drewN _ _ _) (congrArg (World.drewN _) (Nat.add_assoc _ _ _))⟩)))
    repeat (go_quiet (first | (go_at_call 97; (with_reducible refine (spec_l01In.calls a0_4 1 61 true _ A4.out).mono ?_); rintro e w' ⟨rfl, ⟨nd, rfl⟩⟩; (try first | exact ⟨rfl, _, World.drewN_drewN _ _ _⟩ | exact ⟨rfl, _, Eq.trans (World.drewN_drewN _ _ _) (congrArg (World.drewN _) (Nat.add_assoc _ _ _))⟩))); try go_wp2_with (first | (go_at_call 97; (with_reducible refine (spec_l01In.calls a0_4 1 61 true _ A4.out).mono ?_); rintro e w' ⟨rfl, ⟨nd, rfl⟩⟩; (try first | exact ⟨rfl, _, World.drewN_drewN _ _ _⟩ | exact ⟨rfl, _, Eq.trans (World.drewN_drewN _ _ _) (congrArg (World.drewN _) (Nat.add_assoc _ _ _))⟩))))
    go_meet
    case rel => exact ⟨_, (true), sd_, H', ⟨by first | omega | exact Nat.le_refl _⟩, ⟨bk_⟩, ⟨bw_⟩⟩
  ·replace c5 := Bool.eq_false_iff.mpr c5
   subst c5
   have H1 : (spec_BenchOk.j0 k true l0_0 l0_1 l0_2 l0_3 a0_4) = some r := by rw [if_neg (show ¬ (false = true) by decide)] at H; exact H
   clear H
   have H := H1
   clear H1
   have H' := Aside0.mk H
   clear H
   have hcz9_0 := (blk_cell BK1.out 0).trans rfl
   have hcz9_1 := (blk_cell BK1.out 1).trans rfl
   have hcz9_2 := (blk_cell BK1.out 2).trans rfl
   have hcz9_3 := (blk_cell BK1.out 3).trans rfl
   have hcz9_4 := (blk_cell BK1.out 4).trans rfl
   have hfz9_0 := blk_frozen BK1.out 0
   have hfz9_1 := blk_frozen BK1.out 1
   have hfz9_2 := blk_frozen BK1.out 2
   have hfz9_3 := blk_frozen BK1.out 3
   have hfz9_4 := blk_frozen BK1.out 4
   go_wp2_with (first | (go_at_call 97; (with_reducible refine (spec_l01In.calls a0_4 1 61 false _ A4.out).mono ?_); rintro e w' ⟨rfl, ⟨nd, rfl⟩⟩; (try first | exact ⟨rfl, _, World.drewN_drewN _ _ _⟩ | exact ⟨rfl, _, Eq.trans (World.drewN_drewN _ _ _) (congrArg (World.drewN _) (Nat.add_assoc _ _ _))⟩)))
   repeat (go_quiet (first | (go_at_call 97; (with_reducible refine (spec_l01In.calls a0_4 1 61 false _ A4.out).mono ?_); rintro e w' ⟨rfl, ⟨nd, rfl⟩⟩; (try first | exact ⟨rfl, _, World.drewN_drewN _ _ _⟩ | exact ⟨rfl, _, Eq.trans (World.drewN_drewN _ _ _) (congrArg (World.drewN _) (Nat.add_assoc _ _ _))⟩))); try go_wp2_with (first | (go_at_call 97; (with_reducible refine (spec_l01In.calls a0_4 1 61 false _ A4.out).mono ?_); rintro e w' ⟨rfl, ⟨nd, rfl⟩⟩; (try first | exact ⟨rfl, _, World.drewN_drewN _ _ _⟩ | exact ⟨rfl, _, Eq.trans (World.drewN_drewN _ _ _) (congrArg (World.drewN _) (Nat.add_assoc _ _ _))⟩))))
   go_meet
   case rel => exact ⟨_, (true), sd_, H', ⟨by first | omega | exact Nat.le_refl _⟩, ⟨bk_⟩, ⟨bw_⟩⟩
 case rest =>
  clear HC2
  try clear c2
  try clear p2
  try clear c5
  try clear c6
  try clear c6b0
  try clear c6b1
  try clear p6
  try clear hcz7_0
  try clear hcz7_1
  try clear hcz7_2
  try clear hcz7_3
  try clear hcz7_4
  try clear hcz8_0
  try clear hcz8_1
  try clear hcz8_2
  try clear hcz8_3
  try clear hcz8_4
  try clear hcz9_0
  try clear hcz9_1
  try clear hcz9_2
  try clear hcz9_3
  try clear hcz9_4
  try clear hfz7_0
  try clear hfz7_1
  try clear hfz7_2
  try clear hfz7_3
  try clear hfz7_4
  try clear hfz8_0
  try clear hfz8_1
  try clear hfz8_2
  try clear hfz8_3
  try clear hfz8_4
  try clear hfz9_0
  try clear hfz9_1
  try clear hfz9_2
  try clear hfz9_3
  try clear hfz9_4
  obtain ⟨kq, x34_1, rfl, HA, HJ1, BK1, HB⟩ := hcut
  cases kq with
  | zero => exact absurd HA.out (by simp [spec_BenchOk.j0])
  | succ kj1 =>
   have H := HA.out
   clear HA
   simp only [spec_BenchOk.j0] at H
   by_cases c10 : x34_1 = true
   ·subst c10
    have H1 : (some false) = some r := by rw [if_pos rfl] at H; exact H
    clear H
    have H := H1
    clear H1
    obtain rfl := Option.some.inj H
    go_wp2
    repeat (go_quiet (fail); try go_wp2)
    go_ret
    exact ⟨rr_, bw_⟩
   ·replace c10 := Bool.eq_false_iff.mpr c10
    subst c10
    have H1 : (spec_BenchOk.l0 kj1 1 l0_0 l0_1 l0_2 l0_3 a0_4) = some r := by rw [if_neg (show ¬ (false = true) by decide)] at H; exact H
    clear H
    have H := H1
    clear H1
    have H' := Aside0.mk H
    clear H
    go_wp2
    repeat (go_quiet (fail); try go_wp2)
    go_loopg [3] kj1 (fun kq v3 w' => ∃ (x3_2 : Int), v3 = .int .i64 x3_2 ∧ Aside0 (spec_BenchOk.l0 kq x3_2 l0_0 l0_1 l0_2 l0_3 a0_4 = some r) ∧ Aside0 (kq ≤ kj1) ∧ Aside0 (w'.heap[gb1]? = some (.cells #[(.slice A0_0 l0_0.length c0_0), (.slice A0_1 l0_1.length c0_1), (.slice A0_2 l0_2.length c0_2), (.slice A0_3 l0_3.length c0_3), .int .i64 a0_4] 30 (0, 0))) ∧ Aside0 (Below w.heap.size w w'))
    case atStart => exact ⟨(1), sd_, H', ⟨Nat.le_refl _⟩, ⟨bk_⟩, ⟨bw_⟩⟩
    case round =>
     clear H'
     try clear c1
     try clear c2
     try clear p2
     try clear c5
     try clear c6
     try clear c6b0
     try clear c6b1
     try clear p6
     try clear c10
     try clear hcz7_0
     try clear hcz7_1
     try clear hcz7_2
     try clear hcz7_3
     try clear hcz7_4
     try clear hcz8_0
     try clear hcz8_1
     try clear hcz8_2
     try clear hcz8_3
     try clear hcz8_4
     try clear hcz9_0
     try clear hcz9_1
     try clear hcz9_2
     try clear hcz9_3
     try clear hcz9_4
     try clear hfz7_0
     try clear hfz7_1
     try clear hfz7_2
     try clear hfz7_3
     try clear hfz7_4
     try clear hfz8_0
     try clear hfz8_1
     try clear hfz8_2
     try clear hfz8_3
     try clear hfz8_4
     try clear hfz9_0
     try clear hfz9_1
     try clear hfz9_2
     try clear hfz9_3
     try clear hfz9_4
     try clear p2
     try clear p6
     obtain ⟨x3_2, rfl, HA, HK2, BK1, HB⟩ := hrel
     cases gk with
     | zero => exact absurd HA.out (by simp [spec_BenchOk.l0])
     | succ k2 =>
      have H := HA.out
      clear HA
      simp only [spec_BenchOk.l0] at H
      by_cases c11 : x3_2 < (l0_0.length : Int)
      ·rw [if_pos c11] at H
       have c11b0 : decide (x3_2 < (l0_0.length : Int)) = true := decide_eq_true c11
       clear c11
       obtain ⟨ji12, hji12⟩ : ∃ j_ : Int, (wrap64 (x3_2 - 1)) = j_ := ⟨_, rfl⟩
       replace H : (if 0 ≤ (ji12) then (if (ji12) < (l0_0.length : Int) then (if 0 ≤ x3_2 then (if (rd l0_0 (ji12)) ≥ (rd l0_0 x3_2) then (some false) else (spec_BenchOk.l0 k2 (wrap64 (x3_2 + 1)) l0_0 l0_1 l0_2 l0_3 a0_4)) else (none)) else (none)) else (none)) = some r := by first | (rw [hji12] at H; exact H) | (simp only [hji12] at H ⊢; exact H)
       have hji12w : (IntKind.i64.wrap (x3_2 - 1)) = ji12 := (i64_w _).trans hji12
       by_cases c13 : 0 ≤ (ji12)
       ·rw [if_pos c13] at H
        have c13b0 : decide (0 ≤ (ji12)) = true := decide_eq_true c13
        clear c13
        by_cases c14 : (ji12) < (l0_0.length : Int)
        ·rw [if_pos c14] at H
         have c14b0 : decide ((ji12) < (l0_0.length : Int)) = true := decide_eq_true c14
         clear c14
         by_cases c15 : 0 ≤ x3_2
         ·rw [if_pos c15] at H
          have c15b0 : decide (0 ≤ x3_2) = true := decide_eq_true c15
          clear c15
          by_cases c16 : (rd l0_0 (ji12)) ≥ (rd l0_0 x3_2)
          ·rw [if_pos c16] at H
           have c16b0 : decide ((rd l0_0 x3_2) ≤ (rd l0_0 (ji12))) = true := decide_eq_true c16
           clear c16
           obtain rfl := Option.some.inj H
           have hcz17_0 := (blk_cell BK1.out 0).trans rfl
           have hcz17_1 := (blk_cell BK1.out 1).trans rfl
           have hcz17_2 := (blk_cell BK1.out 2).trans rfl
           have hcz17_3 := (blk_cell BK1.out 3).trans rfl
           have hcz17_4 := (blk_cell BK1.out 4).trans rfl
           have hfz17_0 := blk_frozen BK1.out 0
           have hfz17_1 := blk_frozen BK1.out 1
           have hfz17_2 := blk_frozen BK1.out 2
           have hfz17_3 := blk_frozen BK1.out 3
           have hfz17_4 := blk_frozen BK1.out 4
           have p3 : 0 ≤ ((ji12) : Int) := od_
           have q3 : (ji12) < (l0_0.length : Int) := od_
           obtain ⟨ad3, e3, hx3_0⟩ := Kd.at_int HR0_0.out (ji12) p3 q3
           cases e3
           replace hx3_0 := (HB.out.cell (World.block_lt_of_cell? w _ hx3_0)).trans hx3_0
           replace p3 := eq_true p3
           replace q3 := eq_true q3
           have p4 : 0 ≤ (x3_2 : Int) := od_
           have q4 : x3_2 < (l0_0.length : Int) := od_
           obtain ⟨ad4, e4, hx4_0⟩ := Kd.at_int HR0_0.out x3_2 p4 q4
           obtain rfl : ad3 = ad4 := (by injection e4)
           replace hx4_0 := (HB.out.cell (World.block_lt_of_cell? w _ hx4_0)).trans hx4_0
           replace p4 := eq_true p4
           replace q4 := eq_true q4
           go_wp2
           repeat (go_quiet (fail); try go_wp2)
           go_ret
           exact ⟨by first | rfl | (simp [errW_none, errW_some] <;> rfl) | (simp only [← hji12]; first | rfl | (simp [errW_none, errW_some] <;> rfl)) | (simp [*, errW_none, errW_some] <;> rfl), bw_⟩
          ·rw [if_neg c16] at H
           have c16b0 : decide ((rd l0_0 x3_2) ≤ (rd l0_0 (ji12))) = false := decide_eq_false c16
           clear c16
           have H' := Aside0.mk H
           clear H
           have hcz18_0 := (blk_cell BK1.out 0).trans rfl
           have hcz18_1 := (blk_cell BK1.out 1).trans rfl
           have hcz18_2 := (blk_cell BK1.out 2).trans rfl
           have hcz18_3 := (blk_cell BK1.out 3).trans rfl
           have hcz18_4 := (blk_cell BK1.out 4).trans rfl
           have hfz18_0 := blk_frozen BK1.out 0
           have hfz18_1 := blk_frozen BK1.out 1
           have hfz18_2 := blk_frozen BK1.out 2
           have hfz18_3 := blk_frozen BK1.out 3
           have hfz18_4 := blk_frozen BK1.out 4
           have p3 : 0 ≤ ((ji12) : Int) := od_
           have q3 : (ji12) < (l0_0.length : Int) := od_
           obtain ⟨ad3, e3, hx3_0⟩ := Kd.at_int HR0_0.out (ji12) p3 q3
           cases e3
           replace hx3_0 := (HB.out.cell (World.block_lt_of_cell? w _ hx3_0)).trans hx3_0
           replace p3 := eq_true p3
           replace q3 := eq_true q3
           have p4 : 0 ≤ (x3_2 : Int) := od_
           have q4 : x3_2 < (l0_0.length : Int) := od_
           obtain ⟨ad4, e4, hx4_0⟩ := Kd.at_int HR0_0.out x3_2 p4 q4
           obtain rfl : ad3 = ad4 := (by injection e4)
           replace hx4_0 := (HB.out.cell (World.block_lt_of_cell? w _ hx4_0)).trans hx4_0
           replace p4 := eq_true p4
           replace q4 := eq_true q4
           go_wp2
           repeat (go_quiet (fail); try go_wp2)
           go_roundg k2
           case measure => have := HJ1.out; have := HK2.out; omega
           case rel => exact ⟨(wrap64 (x3_2 + 1)), sd_, H', ⟨by have := HJ1.out; have := HK2.out; omega⟩, ⟨bk_⟩, ⟨bw_⟩⟩
         ·rw [if_neg c15] at H
          exact absurd H (by simp)
        ·rw [if_neg c14] at H
         exact absurd H (by simp)
       ·rw [if_neg c13] at H
        exact absurd H (by simp)
      ·rw [if_neg c11] at H
       have c11b0 : decide (x3_2 < (l0_0.length : Int)) = false := decide_eq_false c11
       clear c11
       have H' := Aside0.mk H
       clear H
       have hcz19_0 := (blk_cell BK1.out 0).trans rfl
       have hcz19_1 := (blk_cell BK1.out 1).trans rfl
       have hcz19_2 := (blk_cell BK1.out 2).trans rfl
       have hcz19_3 := (blk_cell BK1.out 3).trans rfl
       have hcz19_4 := (blk_cell BK1.out 4).trans rfl
       have hfz19_0 := blk_frozen BK1.out 0
       have hfz19_1 := blk_frozen BK1.out 1
       have hfz19_2 := blk_frozen BK1.out 2
       have hfz19_3 := blk_frozen BK1.out 3
       have hfz19_4 := blk_frozen BK1.out 4
       go_wp2
       repeat (go_quiet (fail); try go_wp2)
       go_loopg [4] k2 (fun kq v4 w' => ∃ (x4_3 : Int), v4 = .int .i64 x4_3 ∧ Aside0 (spec_BenchOk.l1 kq x4_3 l0_0 l0_1 l0_2 l0_3 a0_4 = some r) ∧ Aside0 (kq ≤ k2) ∧ Aside0 (w'.heap[gb1]? = some (.cells #[(.slice A0_0 l0_0.length c0_0), (.slice A0_1 l0_1.length c0_1), (.slice A0_2 l0_2.length c0_2), (.slice A0_3 l0_3.length c0_3), .int .i64 a0_4] 30 (0, 0))) ∧ Aside0 (Below w.heap.size w w'))
       case atStart => exact ⟨(1), sd_, H', ⟨Nat.le_refl _⟩, ⟨bk_⟩, ⟨bw_⟩⟩
       case round =>
        clear H'
        try clear c1
        try clear c2
        try clear p2
        try clear p3
        try clear q3
        try clear hx3
        try clear p4
        try clear q4
        try clear hx4
        try clear c5
        try clear c6
        try clear c6b0
        try clear c6b1
        try clear p6
        try clear c10
        try clear c11
        try clear c11b0
        try clear c13
        try clear c13b0
        try clear c14
        try clear c14b0
        try clear c15
        try clear c15b0
        try clear c16
        try clear c16b0
        try clear hcz17_0
        try clear hcz17_1
        try clear hcz17_2
        try clear hcz17_3
        try clear hcz17_4
        try clear hcz18_0
        try clear hcz18_1
        try clear hcz18_2
        try clear hcz18_3
        try clear hcz18_4
        try clear hcz19_0
        try clear hcz19_1
        try clear hcz19_2
        try clear hcz19_3
        try clear hcz19_4
        try clear hcz7_0
        try clear hcz7_1
        try clear hcz7_2
        try clear hcz7_3
        try clear hcz7_4
        try clear hcz8_0
        try clear hcz8_1
        try clear hcz8_2
        try clear hcz8_3
        try clear hcz8_4
        try clear hcz9_0
        try clear hcz9_1
        try clear hcz9_2
        try clear hcz9_3
        try clear hcz9_4
        try clear hfz17_0
        try clear hfz17_1
        try clear hfz17_2
        try clear hfz17_3
        try clear hfz17_4
        try clear hfz18_0
        try clear hfz18_1
        try clear hfz18_2
        try clear hfz18_3
        try clear hfz18_4
        try clear hfz19_0
        try clear hfz19_1
        try clear hfz19_2
        try clear hfz19_3
        try clear hfz19_4
        try clear hfz7_0
        try clear hfz7_1
        try clear hfz7_2
        try clear hfz7_3
        try clear hfz7_4
        try clear hfz8_0
        try clear hfz8_1
        try clear hfz8_2
        try clear hfz8_3
        try clear hfz8_4
        try clear hfz9_0
        try clear hfz9_1
        try clear hfz9_2
        try clear hfz9_3
        try clear hfz9_4
        try clear hx3_0
        try clear hx4_0
        try clear p2
        try clear p3
        try clear p4
        try clear p6
        try clear q3
        try clear q4
        obtain ⟨x4_3, rfl, HA, HK3, BK1, HB⟩ := hrel
        cases gk with
        | zero => exact absurd HA.out (by simp [spec_BenchOk.l1])
        | succ k3 =>
         have H := HA.out
         clear HA
         simp only [spec_BenchOk.l1] at H
         by_cases c20 : x4_3 < a0_4
         ·rw [if_pos c20] at H
          have c20b0 : decide (x4_3 < a0_4) = true := decide_eq_true c20
          clear c20
          replace H := Option.bind_eq_some_iff.mp H
          obtain ⟨t5, A210, H⟩ := H
          replace H : (if t5 = true then (spec_BenchOk.j3 k3 x4_3 (0 + 1) l0_0 l0_1 l0_2 l0_3 a0_4) else (spec_BenchOk.j3 k3 x4_3 0 l0_0 l0_1 l0_2 l0_3 a0_4)) = some r := H
          have A21 := Aside0.mk A210
          clear A210
          have HC22 := Aside0.mk H
          clear H
          have hcz23_0 := (blk_cell BK1.out 0).trans rfl
          have hcz23_1 := (blk_cell BK1.out 1).trans rfl
          have hcz23_2 := (blk_cell BK1.out 2).trans rfl
          have hcz23_3 := (blk_cell BK1.out 3).trans rfl
          have hcz23_4 := (blk_cell BK1.out 4).trans rfl
          have hfz23_0 := blk_frozen BK1.out 0
          have hfz23_1 := blk_frozen BK1.out 1
          have hfz23_2 := blk_frozen BK1.out 2
          have hfz23_3 := blk_frozen BK1.out 3
          have hfz23_4 := blk_frozen BK1.out 4
          go_upto_if 63 with (first | (go_at_call 98; (with_reducible refine (spec_l01Has.calls k3 _ _ l0_0 x4_3 t5 _ ?side1 ?side2 A21.out).mono ?_); (case side1 => exact cb_); (case side2 => exact HC0_0.out); rintro e w' ⟨rfl, ⟨nd, rfl⟩⟩; (try first | exact ⟨rfl, _, World.drewN_drewN _ _ _⟩ | exact ⟨rfl, _, Eq.trans (World.drewN_drewN _ _ _) (congrArg (World.drewN _) (Nat.add_assoc _ _ _))⟩)))
          repeat (go_quiet (first | (go_at_call 98; (with_reducible refine (spec_l01Has.calls k3 _ _ l0_0 x4_3 t5 _ ?side1 ?side2 A21.out).mono ?_); (case side1 => exact cb_); (case side2 => exact HC0_0.out); rintro e w' ⟨rfl, ⟨nd, rfl⟩⟩; (try first | exact ⟨rfl, _, World.drewN_drewN _ _ _⟩ | exact ⟨rfl, _, Eq.trans (World.drewN_drewN _ _ _) (congrArg (World.drewN _) (Nat.add_assoc _ _ _))⟩))); go_upto_if 63 with (first | (go_at_call 98; (with_reducible refine (spec_l01Has.calls k3 _ _ l0_0 x4_3 t5 _ ?side1 ?side2 A21.out).mono ?_); (case side1 => exact cb_); (case side2 => exact HC0_0.out); rintro e w' ⟨rfl, ⟨nd, rfl⟩⟩; (try first | exact ⟨rfl, _, World.drewN_drewN _ _ _⟩ | exact ⟨rfl, _, Eq.trans (World.drewN_drewN _ _ _) (congrArg (World.drewN _) (Nat.add_assoc _ _ _))⟩))))
          (try simp only [Act.put, List.setIfInBounds_toArray, List.set_cons_zero, List.set_cons_succ])
          go_cut [5] (fun v5 wc => ∃ (kq : Nat) (x5_21 : Int), v5 = .int .i64 x5_21 ∧ Aside0 (spec_BenchOk.j3 kq x4_3 x5_21 l0_0 l0_1 l0_2 l0_3 a0_4 = some r) ∧ Aside0 (kq ≤ k3) ∧ Aside0 (wc.heap[gb1]? = some (.cells #[(.slice A0_0 l0_0.length c0_0), (.slice A0_1 l0_1.length c0_1), (.slice A0_2 l0_2.length c0_2), (.slice A0_3 l0_3.length c0_3), .int .i64 a0_4] 30 (0, 0))) ∧ Aside0 (Below w.heap.size w wc))
          case first =>
           have H := HC22.out
           clear HC22
           by_cases c24 : t5 = true
           ·subst c24
            have H1 : (spec_BenchOk.j3 k3 x4_3 (0 + 1) l0_0 l0_1 l0_2 l0_3 a0_4) = some r := by rw [if_pos rfl] at H; exact H
            clear H
            have H := H1
            clear H1
            have H' := Aside0.mk H
            clear H
            go_wp2
            repeat (go_quiet (fail); try go_wp2)
            go_meet
            case rel => exact ⟨_, (0 + 1), sd_, H', ⟨by have := HJ1.out; have := HK2.out; have := HK3.out; first | omega | exact Nat.le_refl _⟩, ⟨bk_⟩, ⟨bw_⟩⟩
           ·replace c24 := Bool.eq_false_iff.mpr c24
            subst c24
            have H1 : (spec_BenchOk.j3 k3 x4_3 0 l0_0 l0_1 l0_2 l0_3 a0_4) = some r := by rw [if_neg (show ¬ (false = true) by decide)] at H; exact H
            clear H
            have H := H1
            clear H1
            have H' := Aside0.mk H
            clear H
            go_wp2
            repeat (go_quiet (fail); try go_wp2)
            go_meet
            case rel => exact ⟨_, (0), sd_, H', ⟨by have := HJ1.out; have := HK2.out; have := HK3.out; first | omega | exact Nat.le_refl _⟩, ⟨bk_⟩, ⟨bw_⟩⟩
          case rest =>
           clear HC22
           try clear c1
           try clear c2
           try clear p2
           try clear p3
           try clear q3
           try clear hx3
           try clear p4
           try clear q4
           try clear hx4
           try clear c5
           try clear c6
           try clear c6b0
           try clear c6b1
           try clear p6
           try clear c10
           try clear c11
           try clear c11b0
           try clear c13
           try clear c13b0
           try clear c14
           try clear c14b0
           try clear c15
           try clear c15b0
           try clear c16
           try clear c16b0
           try clear c20
           try clear c20b0
           try clear c21
           try clear c24
           try clear hcz17_0
           try clear hcz17_1
           try clear hcz17_2
           try clear hcz17_3
           try clear hcz17_4
           try clear hcz18_0
           try clear hcz18_1
           try clear hcz18_2
           try clear hcz18_3
           try clear hcz18_4
           try clear hcz19_0
           try clear hcz19_1
           try clear hcz19_2
           try clear hcz19_3
           try clear hcz19_4
           try clear hcz23_0
           try clear hcz23_1
           try clear hcz23_2
           try clear hcz23_3
           try clear hcz23_4
           try clear hcz7_0
           try clear hcz7_1
           try clear hcz7_2
           try clear hcz7_3
           try clear hcz7_4
           try clear hcz8_0
           try clear hcz8_1
           try clear hcz8_2
           try clear hcz8_3
           try clear hcz8_4
           try clear hcz9_0
           try clear hcz9_1
           try clear hcz9_2
           try clear hcz9_3
           try clear hcz9_4
           try clear hfz17_0
           try clear hfz17_1
           try clear hfz17_2
           try clear hfz17_3
           try clear hfz17_4
           try clear hfz18_0
           try clear hfz18_1
           try clear hfz18_2
           try clear hfz18_3
           try clear hfz18_4
           try clear hfz19_0
           try clear hfz19_1
           try clear hfz19_2
           try clear hfz19_3
           try clear hfz19_4
           try clear hfz23_0
           try clear hfz23_1
           try clear hfz23_2
           try clear hfz23_3
           try clear hfz23_4
           try clear hfz7_0
           try clear hfz7_1
           try clear hfz7_2
           try clear hfz7_3
           try clear hfz7_4
           try clear hfz8_0
           try clear hfz8_1
           try clear hfz8_2
           try clear hfz8_3
           try clear hfz8_4
           try clear hfz9_0
           try clear hfz9_1
           try clear hfz9_2
           try clear hfz9_3
           try clear hfz9_4
           try clear hx3_0
           try clear hx4_0
           try clear p2
           try clear p3
           try clear p4
           try clear p6
           try clear q3
           try clear q4
           obtain ⟨kq, x5_21, rfl, HA, HJ21, BK1, HB⟩ := hcut
           cases kq with
           | zero => exact absurd HA.out (by simp [spec_BenchOk.j3])
           | succ kj21 =>
            have H := HA.out
            clear HA
            simp only [spec_BenchOk.j3] at H
            replace H := Option.bind_eq_some_iff.mp H
            obtain ⟨t6, A250, H⟩ := H
            replace H : (if t6 = true then (spec_BenchOk.j4 kj21 x4_3 (wrap64 (x5_21 + 1)) l0_0 l0_1 l0_2 l0_3 a0_4) else (spec_BenchOk.j4 kj21 x4_3 x5_21 l0_0 l0_1 l0_2 l0_3 a0_4)) = some r := H
            have A25 := Aside0.mk A250
            clear A250
            have HC26 := Aside0.mk H
            clear H
            have hcz27_0 := (blk_cell BK1.out 0).trans rfl
            have hcz27_1 := (blk_cell BK1.out 1).trans rfl
            have hcz27_2 := (blk_cell BK1.out 2).trans rfl
            have hcz27_3 := (blk_cell BK1.out 3).trans rfl
            have hcz27_4 := (blk_cell BK1.out 4).trans rfl
            have hfz27_0 := blk_frozen BK1.out 0
            have hfz27_1 := blk_frozen BK1.out 1
            have hfz27_2 := blk_frozen BK1.out 2
            have hfz27_3 := blk_frozen BK1.out 3
            have hfz27_4 := blk_frozen BK1.out 4
            go_upto_if 69 with (first | (go_at_call 98; (with_reducible refine (spec_l01Has.calls kj21 _ _ l0_2 x4_3 t6 _ ?side1 ?side2 A25.out).mono ?_); (case side1 => exact cb_); (case side2 => exact HC0_2.out); rintro e w' ⟨rfl, ⟨nd, rfl⟩⟩; (try first | exact ⟨rfl, _, World.drewN_drewN _ _ _⟩ | exact ⟨rfl, _, Eq.trans (World.drewN_drewN _ _ _) (congrArg (World.drewN _) (Nat.add_assoc _ _ _))⟩)))
            repeat (go_quiet (first | (go_at_call 98; (with_reducible refine (spec_l01Has.calls kj21 _ _ l0_2 x4_3 t6 _ ?side1 ?side2 A25.out).mono ?_); (case side1 => exact cb_); (case side2 => exact HC0_2.out); rintro e w' ⟨rfl, ⟨nd, rfl⟩⟩; (try first | exact ⟨rfl, _, World.drewN_drewN _ _ _⟩ | exact ⟨rfl, _, Eq.trans (World.drewN_drewN _ _ _) (congrArg (World.drewN _) (Nat.add_assoc _ _ _))⟩))); go_upto_if 69 with (first | (go_at_call 98; (with_reducible refine (spec_l01Has.calls kj21 _ _ l0_2 x4_3 t6 _ ?side1 ?side2 A25.out).mono ?_); (case side1 => exact cb_); (case side2 => exact HC0_2.out); rintro e w' ⟨rfl, ⟨nd, rfl⟩⟩; (try first | exact ⟨rfl, _, World.drewN_drewN _ _ _⟩ | exact ⟨rfl, _, Eq.trans (World.drewN_drewN _ _ _) (congrArg (World.drewN _) (Nat.add_assoc _ _ _))⟩))))
            (try simp only [Act.put, List.setIfInBounds_toArray, List.set_cons_zero, List.set_cons_succ])
            go_cut [5] (fun v5 wc => ∃ (kq : Nat) (x5_25 : Int), v5 = .int .i64 x5_25 ∧ Aside0 (spec_BenchOk.j4 kq x4_3 x5_25 l0_0 l0_1 l0_2 l0_3 a0_4 = some r) ∧ Aside0 (kq ≤ kj21) ∧ Aside0 (wc.heap[gb1]? = some (.cells #[(.slice A0_0 l0_0.length c0_0), (.slice A0_1 l0_1.length c0_1), (.slice A0_2 l0_2.length c0_2), (.slice A0_3 l0_3.length c0_3), .int .i64 a0_4] 30 (0, 0))) ∧ Aside0 (Below w.heap.size w wc))
            case first =>
             have H := HC26.out
             clear HC26
             by_cases c28 : t6 = true
             ·subst c28
              have H1 : (spec_BenchOk.j4 kj21 x4_3 (wrap64 (x5_21 + 1)) l0_0 l0_1 l0_2 l0_3 a0_4) = some r := by rw [if_pos rfl] at H; exact H
              clear H
              have H := H1
              clear H1
              have H' := Aside0.mk H
              clear H
              go_wp2
              repeat (go_quiet (fail); try go_wp2)
              go_meet
              case rel => exact ⟨_, (wrap64 (x5_21 + 1)), sd_, H', ⟨by have := HJ1.out; have := HK2.out; have := HK3.out; have := HJ21.out; first | omega | exact Nat.le_refl _⟩, ⟨bk_⟩, ⟨bw_⟩⟩
             ·replace c28 := Bool.eq_false_iff.mpr c28
              subst c28
              have H1 : (spec_BenchOk.j4 kj21 x4_3 x5_21 l0_0 l0_1 l0_2 l0_3 a0_4) = some r := by rw [if_neg (show ¬ (false = true) by decide)] at H; exact H
              clear H
              have H := H1
              clear H1
              have H' := Aside0.mk H
              clear H
              go_wp2
              repeat (go_quiet (fail); try go_wp2)
              go_meet
              case rel => exact ⟨_, (x5_21), sd_, H', ⟨by have := HJ1.out; have := HK2.out; have := HK3.out; have := HJ21.out; first | omega | exact Nat.le_refl _⟩, ⟨bk_⟩, ⟨bw_⟩⟩
            case rest =>
             clear HC26
             try clear c1
             try clear c2
             try clear p2
             try clear p3
             try clear q3
             try clear hx3
             try clear p4
             try clear q4
             try clear hx4
             try clear c5
             try clear c6
             try clear c6b0
             try clear c6b1
             try clear p6
             try clear c10
             try clear c11
             try clear c11b0
             try clear c13
             try clear c13b0
             try clear c14
             try clear c14b0
             try clear c15
             try clear c15b0
             try clear c16
             try clear c16b0
             try clear c20
             try clear c20b0
             try clear c21
             try clear c24
             try clear c28
             try clear hcz17_0
             try clear hcz17_1
             try clear hcz17_2
             try clear hcz17_3
             try clear hcz17_4
             try clear hcz18_0
             try clear hcz18_1
             try clear hcz18_2
             try clear hcz18_3
             try clear hcz18_4
             try clear hcz19_0
             try clear hcz19_1
             try clear hcz19_2
             try clear hcz19_3
             try clear hcz19_4
             try clear hcz23_0
             try clear hcz23_1
             try clear hcz23_2
             try clear hcz23_3
             try clear hcz23_4
             try clear hcz27_0
             try clear hcz27_1
             try clear hcz27_2
             try clear hcz27_3
             try clear hcz27_4
             try clear hcz7_0
             try clear hcz7_1
             try clear hcz7_2
             try clear hcz7_3
             try clear hcz7_4
             try clear hcz8_0
             try clear hcz8_1
             try clear hcz8_2
             try clear hcz8_3
             try clear hcz8_4
             try clear hcz9_0
             try clear hcz9_1
             try clear hcz9_2
             try clear hcz9_3
             try clear hcz9_4
             try clear hfz17_0
             try clear hfz17_1
             try clear hfz17_2
             try clear hfz17_3
             try clear hfz17_4
             try clear hfz18_0
             try clear hfz18_1
             try clear hfz18_2
             try clear hfz18_3
             try clear hfz18_4
             try clear hfz19_0
             try clear hfz19_1
             try clear hfz19_2
             try clear hfz19_3
             try clear hfz19_4
             try clear hfz23_0
             try clear hfz23_1
             try clear hfz23_2
             try clear hfz23_3
             try clear hfz23_4
             try clear hfz27_0
             try clear hfz27_1
             try clear hfz27_2
             try clear hfz27_3
             try clear hfz27_4
             try clear hfz7_0
             try clear hfz7_1
             try clear hfz7_2
             try clear hfz7_3
             try clear hfz7_4
             try clear hfz8_0
             try clear hfz8_1
             try clear hfz8_2
             try clear hfz8_3
             try clear hfz8_4
             try clear hfz9_0
             try clear hfz9_1
             try clear hfz9_2
             try clear hfz9_3
             try clear hfz9_4
             try clear hx3_0
             try clear hx4_0
             try clear p2
             try clear p3
             try clear p4
             try clear p6
             try clear q3
             try clear q4
             obtain ⟨kq, x5_25, rfl, HA, HJ25, BK1, HB⟩ := hcut
             cases kq with
             | zero => exact absurd HA.out (by simp [spec_BenchOk.j4])
             | succ kj25 =>
              have H := HA.out
              clear HA
              simp only [spec_BenchOk.j4] at H
              replace H := Option.bind_eq_some_iff.mp H
              obtain ⟨t7, A290, H⟩ := H
              replace H : (if t7 = true then (if (wrap64 (x5_25 + 1)) = 1 then (spec_BenchOk.l1 kj25 (wrap64 (x4_3 + 1)) l0_0 l0_1 l0_2 l0_3 a0_4) else (some false)) else (if x5_25 = 1 then (spec_BenchOk.l1 kj25 (wrap64 (x4_3 + 1)) l0_0 l0_1 l0_2 l0_3 a0_4) else (some false))) = some r := H
              have A29 := Aside0.mk A290
              clear A290
              by_cases c30 : t7 = true
              ·subst c30
               have H1 : (if (wrap64 (x5_25 + 1)) = 1 then (spec_BenchOk.l1 kj25 (wrap64 (x4_3 + 1)) l0_0 l0_1 l0_2 l0_3 a0_4) else (some false)) = some r := by rw [if_pos rfl] at H; exact H
               clear H
               have H := H1
               clear H1
               by_cases c31 : (wrap64 (x5_25 + 1)) = 1
               ·rw [if_pos c31] at H
                have c31b0 : ((wrap64 (x5_25 + 1)) == 1) = true := beq_iff_eq.mpr c31
                have c31b1 : ((wrap64 (x5_25 + 1)) != 1) = false := bne_eq_false_iff_eq.mpr c31
                clear c31
                have H' := Aside0.mk H
                clear H
                have hcz32_0 := (blk_cell BK1.out 0).trans rfl
                have hcz32_1 := (blk_cell BK1.out 1).trans rfl
                have hcz32_2 := (blk_cell BK1.out 2).trans rfl
                have hcz32_3 := (blk_cell BK1.out 3).trans rfl
                have hcz32_4 := (blk_cell BK1.out 4).trans rfl
                have hfz32_0 := blk_frozen BK1.out 0
                have hfz32_1 := blk_frozen BK1.out 1
                have hfz32_2 := blk_frozen BK1.out 2
                have hfz32_3 := blk_frozen BK1.out 3
                have hfz32_4 := blk_frozen BK1.out 4
                go_wp2_with (first | (go_at_call 98; (with_reducible refine (spec_l01Has.calls kj25 _ _ l0_3 x4_3 true _ ?side1 ?side2 A29.out).mono ?_); (case side1 => exact cb_); (case side2 => exact HC0_3.out); rintro e w' ⟨rfl, ⟨nd, rfl⟩⟩; (try first | exact ⟨rfl, _, World.drewN_drewN _ _ _⟩ | exact ⟨rfl, _, Eq.trans (World.drewN_drewN _ _ _) (congrArg (World.drewN _) (Nat.add_assoc _ _ _))⟩)))
                repeat (go_quiet (first | (go_at_call 98; (with_reducible refine (spec_l01Has.calls kj25 _ _ l0_3 x4_3 true _ ?side1 ?side2 A29.out).mono ?_); (case side1 => exact cb_); (case side2 => exact HC0_3.out); rintro e w' ⟨rfl, ⟨nd, rfl⟩⟩; (try first | exact ⟨rfl, _, World.drewN_drewN _ _ _⟩ | exact ⟨rfl, _, Eq.trans (World.drewN_drewN _ _ _) (congrArg (World.drewN _) (Nat.add_assoc _ _ _))⟩))); try go_wp2_with (first | (go_at_call 98; (with_reducible refine (spec_l01Has.calls kj25 _ _ l0_3 x4_3 true _ ?side1 ?side2 A29.out).mono ?_); (case side1 => exact cb_); (case side2 => exact HC0_3.out); rintro e w' ⟨rfl, ⟨nd, rfl⟩⟩; (try first | exact ⟨rfl, _, World.drewN_drewN _ _ _⟩ | exact ⟨rfl, _, Eq.trans (World.drewN_drewN _ _ _) (congrArg (World.drewN _) (Nat.add_assoc _ _ _))⟩))))
                go_roundg kj25
                case measure => have := HJ1.out; have := HK2.out; have := HK3.out; have := HJ21.out; have := HJ25.out; omega
                case rel => exact ⟨(wrap64 (x4_3 + 1)), sd_, H', ⟨by have := HJ1.out; have := HK2.out; have := HK3.out; have := HJ21.out; have := HJ25.out; omega⟩, ⟨bk_⟩, ⟨bw_⟩⟩
               ·rw [if_neg c31] at H
                have c31b0 : ((wrap64 (x5_25 + 1)) == 1) = false := beq_eq_false_iff_ne.mpr c31
                have c31b1 : ((wrap64 (x5_25 + 1)) != 1) = true := bne_iff_ne.mpr c31
                obtain rfl := Option.some.inj H
                have hcz33_0 := (blk_cell BK1.out 0).trans rfl
                have hcz33_1 := (blk_cell BK1.out 1).trans rfl
                have hcz33_2 := (blk_cell BK1.out 2).trans rfl
                have hcz33_3 := (blk_cell BK1.out 3).trans rfl
                have hcz33_4 := (blk_cell BK1.out 4).trans rfl
                have hfz33_0 := blk_frozen BK1.out 0
                have hfz33_1 := blk_frozen BK1.out 1
                have hfz33_2 := blk_frozen BK1.out 2
                have hfz33_3 := blk_frozen BK1.out 3
                have hfz33_4 := blk_frozen BK1.out 4
                go_wp2_with (first | (go_at_call 98; (with_reducible refine (spec_l01Has.calls kj25 _ _ l0_3 x4_3 true _ ?side1 ?side2 A29.out).mono ?_); (case side1 => exact cb_); (case side2 => exact HC0_3.out); rintro e w' ⟨rfl, ⟨nd, rfl⟩⟩; (try first | exact ⟨rfl, _, World.drewN_drewN _ _ _⟩ | exact ⟨rfl, _, Eq.trans (World.drewN_drewN _ _ _) (congrArg (World.drewN _) (Nat.add_assoc _ _ _))⟩)))
                repeat (go_quiet (first | (go_at_call 98; (with_reducible refine (spec_l01Has.calls kj25 _ _ l0_3 x4_3 true _ ?side1 ?side2 A29.out).mono ?_); (case side1 => exact cb_); (case side2 => exact HC0_3.out); rintro e w' ⟨rfl, ⟨nd, rfl⟩⟩; (try first | exact ⟨rfl, _, World.drewN_drewN _ _ _⟩ | exact ⟨rfl, _, Eq.trans (World.drewN_drewN _ _ _) (congrArg (World.drewN _) (Nat.add_assoc _ _ _))⟩))); try go_wp2_with (first | (go_at_call 98; (with_reducible refine (spec_l01Has.calls kj25 _ _ l0_3 x4_3 true _ ?side1 ?side2 A29.out).mono ?_); (case side1 => exact cb_); (case side2 => exact HC0_3.out); rintro e w' ⟨rfl, ⟨nd, rfl⟩⟩; (try first | exact ⟨rfl, _, World.drewN_drewN _ _ _⟩ | exact ⟨rfl, _, Eq.trans (World.drewN_drewN _ _ _) (congrArg (World.drewN _) (Nat.add_assoc _ _ _))⟩))))
                go_ret
                exact ⟨rr_, bw_⟩
              ·replace c30 := Bool.eq_false_iff.mpr c30
               subst c30
               have H1 : (if x5_25 = 1 then (spec_BenchOk.l1 kj25 (wrap64 (x4_3 + 1)) l0_0 l0_1 l0_2 l0_3 a0_4) else (some false)) = some r := by rw [if_neg (show ¬ (false = true) by decide)] at H; exact H
               clear H
               have H := H1
               clear H1
               by_cases c34 : x5_25 = 1
               ·rw [if_pos c34] at H
                have c34b0 : (x5_25 == 1) = true := beq_iff_eq.mpr c34
                have c34b1 : (x5_25 != 1) = false := bne_eq_false_iff_eq.mpr c34
                clear c34
                have H' := Aside0.mk H
                clear H
                have hcz35_0 := (blk_cell BK1.out 0).trans rfl
                have hcz35_1 := (blk_cell BK1.out 1).trans rfl
                have hcz35_2 := (blk_cell BK1.out 2).trans rfl
                have hcz35_3 := (blk_cell BK1.out 3).trans rfl
                have hcz35_4 := (blk_cell BK1.out 4).trans rfl
                have hfz35_0 := blk_frozen BK1.out 0
                have hfz35_1 := blk_frozen BK1.out 1
                have hfz35_2 := blk_frozen BK1.out 2
                have hfz35_3 := blk_frozen BK1.out 3
                have hfz35_4 := blk_frozen BK1.out 4
                go_wp2_with (first | (go_at_call 98; (with_reducible refine (spec_l01Has.calls kj25 _ _ l0_3 x4_3 false _ ?side1 ?side2 A29.out).mono ?_); (case side1 => exact cb_); (case side2 => exact HC0_3.out); rintro e w' ⟨rfl, ⟨nd, rfl⟩⟩; (try first | exact ⟨rfl, _, World.drewN_drewN _ _ _⟩ | exact ⟨rfl, _, Eq.trans (World.drewN_drewN _ _ _) (congrArg (World.drewN _) (Nat.add_assoc _ _ _))⟩)))
                repeat (go_quiet (first | (go_at_call 98; (with_reducible refine (spec_l01Has.calls kj25 _ _ l0_3 x4_3 false _ ?side1 ?side2 A29.out).mono ?_); (case side1 => exact cb_); (case side2 => exact HC0_3.out); rintro e w' ⟨rfl, ⟨nd, rfl⟩⟩; (try first | exact ⟨rfl, _, World.drewN_drewN _ _ _⟩ | exact ⟨rfl, _, Eq.trans (World.drewN_drewN _ _ _) (congrArg (World.drewN _) (Nat.add_assoc _ _ _))⟩))); try go_wp2_with (first | (go_at_call 98; (with_reducible refine (spec_l01Has.calls kj25 _ _ l0_3 x4_3 false _ ?side1 ?side2 A29.out).mono ?_); (case side1 => exact cb_); (case side2 => exact HC0_3.out); rintro e w' ⟨rfl, ⟨nd, rfl⟩⟩; (try first | exact ⟨rfl, _, World.drewN_drewN _ _ _⟩ | exact ⟨rfl, _, Eq.trans (World.drewN_drewN _ _ _) (congrArg (World.drewN _) (Nat.add_assoc _ _ _))⟩))))
                go_roundg kj25
                case measure => have := HJ1.out; have := HK2.out; have := HK3.out; have := HJ21.out; have := HJ25.out; omega
                case rel => exact ⟨(wrap64 (x4_3 + 1)), sd_, H', ⟨by have := HJ1.out; have := HK2.out; have := HK3.out; have := HJ21.out; have := HJ25.out; omega⟩, ⟨bk_⟩, ⟨bw_⟩⟩
               ·rw [if_neg c34] at H
                have c34b0 : (x5_25 == 1) = false := beq_eq_false_iff_ne.mpr c34
                have c34b1 : (x5_25 != 1) = true := bne_iff_ne.mpr c34
                obtain rfl := Option.some.inj H
                have hcz36_0 := (blk_cell BK1.out 0).trans rfl
                have hcz36_1 := (blk_cell BK1.out 1).trans rfl
                have hcz36_2 := (blk_cell BK1.out 2).trans rfl
                have hcz36_3 := (blk_cell BK1.out 3).trans rfl
                have hcz36_4 := (blk_cell BK1.out 4).trans rfl
                have hfz36_0 := blk_frozen BK1.out 0
                have hfz36_1 := blk_frozen BK1.out 1
                have hfz36_2 := blk_frozen BK1.out 2
                have hfz36_3 := blk_frozen BK1.out 3
                have hfz36_4 := blk_frozen BK1.out 4
                go_wp2_with (first | (go_at_call 98; (with_reducible refine (spec_l01Has.calls kj25 _ _ l0_3 x4_3 false _ ?side1 ?side2 A29.out).mono ?_); (case side1 => exact cb_); (case side2 => exact HC0_3.out); rintro e w' ⟨rfl, ⟨nd, rfl⟩⟩; (try first | exact ⟨rfl, _, World.drewN_drewN _ _ _⟩ | exact ⟨rfl, _, Eq.trans (World.drewN_drewN _ _ _) (congrArg (World.drewN _) (Nat.add_assoc _ _ _))⟩)))
                repeat (go_quiet (first | (go_at_call 98; (with_reducible refine (spec_l01Has.calls kj25 _ _ l0_3 x4_3 false _ ?side1 ?side2 A29.out).mono ?_); (case side1 => exact cb_); (case side2 => exact HC0_3.out); rintro e w' ⟨rfl, ⟨nd, rfl⟩⟩; (try first | exact ⟨rfl, _, World.drewN_drewN _ _ _⟩ | exact ⟨rfl, _, Eq.trans (World.drewN_drewN _ _ _) (congrArg (World.drewN _) (Nat.add_assoc _ _ _))⟩))); try go_wp2_with (first | (go_at_call 98; (with_reducible refine (spec_l01Has.calls kj25 _ _ l0_3 x4_3 false _ ?side1 ?side2 A29.out).mono ?_); (case side1 => exact cb_); (case side2 => exact HC0_3.out); rintro e w' ⟨rfl, ⟨nd, rfl⟩⟩; (try first | exact ⟨rfl, _, World.drewN_drewN _ _ _⟩ | exact ⟨rfl, _, Eq.trans (World.drewN_drewN _ _ _) (congrArg (World.drewN _) (Nat.add_assoc _ _ _))⟩))))
                go_ret
                exact ⟨rr_, bw_⟩
         ·rw [if_neg c20] at H
          have c20b0 : decide (x4_3 < a0_4) = false := decide_eq_false c20
          clear c20
          have H' := Aside0.mk H
          clear H
          have hcz37_0 := (blk_cell BK1.out 0).trans rfl
          have hcz37_1 := (blk_cell BK1.out 1).trans rfl
          have hcz37_2 := (blk_cell BK1.out 2).trans rfl
          have hcz37_3 := (blk_cell BK1.out 3).trans rfl
          have hcz37_4 := (blk_cell BK1.out 4).trans rfl
          have hfz37_0 := blk_frozen BK1.out 0
          have hfz37_1 := blk_frozen BK1.out 1
          have hfz37_2 := blk_frozen BK1.out 2
          have hfz37_3 := blk_frozen BK1.out 3
          have hfz37_4 := blk_frozen BK1.out 4
          go_wp2
          repeat (go_quiet (fail); try go_wp2)
          go_loopg [6] k3 (fun kq v6 w' => ∃ (x6_4 : Int), v6 = .int .i64 x6_4 ∧ Aside0 (spec_BenchOk.l2 kq x6_4 l0_0 l0_1 l0_2 l0_3 a0_4 = some r) ∧ Aside0 (kq ≤ k3) ∧ Aside0 (w'.heap[gb1]? = some (.cells #[(.slice A0_0 l0_0.length c0_0), (.slice A0_1 l0_1.length c0_1), (.slice A0_2 l0_2.length c0_2), (.slice A0_3 l0_3.length c0_3), .int .i64 a0_4] 30 (0, 0))) ∧ Aside0 (Below w.heap.size w w'))
          case atStart => exact ⟨(0), sd_, H', ⟨Nat.le_refl _⟩, ⟨bk_⟩, ⟨bw_⟩⟩
          case round =>
           clear H'
           try clear c1
           try clear c2
           try clear p2
           try clear c3
           try clear p3
           try clear q3
           try clear hx3
           try clear p4
           try clear q4
           try clear hx4
           try clear c5
           try clear c6
           try clear c6b0
           try clear c6b1
           try clear p6
           try clear c10
           try clear c11
           try clear c11b0
           try clear c13
           try clear c13b0
           try clear c14
           try clear c14b0
           try clear c15
           try clear c15b0
           try clear c16
           try clear c16b0
           try clear c20
           try clear c20b0
           try clear c21
           try clear c24
           try clear c28
           try clear c30
           try clear c31
           try clear c31b0
           try clear c31b1
           try clear c34
           try clear c34b0
           try clear c34b1
           try clear hcz17_0
           try clear hcz17_1
           try clear hcz17_2
           try clear hcz17_3
           try clear hcz17_4
           try clear hcz18_0
           try clear hcz18_1
           try clear hcz18_2
           try clear hcz18_3
           try clear hcz18_4
           try clear hcz19_0
           try clear hcz19_1
           try clear hcz19_2
           try clear hcz19_3
           try clear hcz19_4
           try clear hcz23_0
           try clear hcz23_1
           try clear hcz23_2
           try clear hcz23_3
           try clear hcz23_4
           try clear hcz27_0
           try clear hcz27_1
           try clear hcz27_2
           try clear hcz27_3
           try clear hcz27_4
           try clear hcz32_0
           try clear hcz32_1
           try clear hcz32_2
           try clear hcz32_3
           try clear hcz32_4
           try clear hcz33_0
           try clear hcz33_1
           try clear hcz33_2
           try clear hcz33_3
           try clear hcz33_4
           try clear hcz35_0
           try clear hcz35_1
           try clear hcz35_2
           try clear hcz35_3
           try clear hcz35_4
           try clear hcz36_0
           try clear hcz36_1
           try clear hcz36_2
           try clear hcz36_3
           try clear hcz36_4
           try clear hcz37_0
           try clear hcz37_1
           try clear hcz37_2
           try clear hcz37_3
           try clear hcz37_4
           try clear hcz7_0
           try clear hcz7_1
           try clear hcz7_2
           try clear hcz7_3
           try clear hcz7_4
           try clear hcz8_0
           try clear hcz8_1
           try clear hcz8_2
           try clear hcz8_3
           try clear hcz8_4
           try clear hcz9_0
           try clear hcz9_1
           try clear hcz9_2
           try clear hcz9_3
           try clear hcz9_4
           try clear hfz17_0
           try clear hfz17_1
           try clear hfz17_2
           try clear hfz17_3
           try clear hfz17_4
           try clear hfz18_0
           try clear hfz18_1
           try clear hfz18_2
           try clear hfz18_3
           try clear hfz18_4
           try clear hfz19_0
           try clear hfz19_1
           try clear hfz19_2
           try clear hfz19_3
           try clear hfz19_4
           try clear hfz23_0
           try clear hfz23_1
           try clear hfz23_2
           try clear hfz23_3
           try clear hfz23_4
           try clear hfz27_0
           try clear hfz27_1
           try clear hfz27_2
           try clear hfz27_3
           try clear hfz27_4
           try clear hfz32_0
           try clear hfz32_1
           try clear hfz32_2
           try clear hfz32_3
           try clear hfz32_4
           try clear hfz33_0
           try clear hfz33_1
           try clear hfz33_2
           try clear hfz33_3
           try clear hfz33_4
           try clear hfz35_0
           try clear hfz35_1
           try clear hfz35_2
           try clear hfz35_3
           try clear hfz35_4
           try clear hfz36_0
           try clear hfz36_1
           try clear hfz36_2
           try clear hfz36_3
           try clear hfz36_4
           try clear hfz37_0
           try clear hfz37_1
           try clear hfz37_2
           try clear hfz37_3
           try clear hfz37_4
           try clear hfz7_0
           try clear hfz7_1
           try clear hfz7_2
           try clear hfz7_3
           try clear hfz7_4
           try clear hfz8_0
           try clear hfz8_1
           try clear hfz8_2
           try clear hfz8_3
           try clear hfz8_4
           try clear hfz9_0
           try clear hfz9_1
           try clear hfz9_2
           try clear hfz9_3
           try clear hfz9_4
           try clear hx3_0
           try clear hx4_0
           try clear p2
           try clear p3
           try clear p4
           try clear p6
           try clear q3
           try clear q4
           obtain ⟨x6_4, rfl, HA, HK4, BK1, HB⟩ := hrel
           cases gk with
           | zero => exact absurd HA.out (by simp [spec_BenchOk.l2])
           | succ k4 =>
            have H := HA.out
            clear HA
            simp only [spec_BenchOk.l2] at H
            by_cases c38 : x6_4 < (l0_1.length : Int)
            ·rw [if_pos c38] at H
             have c38b0 : decide (x6_4 < (l0_1.length : Int)) = true := decide_eq_true c38
             clear c38
             have HC39 := Aside0.mk H
             clear H
             have hcz40_0 := (blk_cell BK1.out 0).trans rfl
             have hcz40_1 := (blk_cell BK1.out 1).trans rfl
             have hcz40_2 := (blk_cell BK1.out 2).trans rfl
             have hcz40_3 := (blk_cell BK1.out 3).trans rfl
             have hcz40_4 := (blk_cell BK1.out 4).trans rfl
             have hfz40_0 := blk_frozen BK1.out 0
             have hfz40_1 := blk_frozen BK1.out 1
             have hfz40_2 := blk_frozen BK1.out 2
             have hfz40_3 := blk_frozen BK1.out 3
             have hfz40_4 := blk_frozen BK1.out 4
             go_upto_region 23 with (fail)
             repeat (go_quiet (fail); go_upto_region 23 with (fail))
             go_cut [107] (fun v107 wc => ∃ (kq : Nat) (x107_38 : Bool), v107 = .bool x107_38 ∧ Aside0 (spec_BenchOk.j6 kq x6_4 x107_38 l0_0 l0_1 l0_2 l0_3 a0_4 = some r) ∧ Aside0 (kq ≤ k4) ∧ Aside0 (wc.heap[gb1]? = some (.cells #[(.slice A0_0 l0_0.length c0_0), (.slice A0_1 l0_1.length c0_1), (.slice A0_2 l0_2.length c0_2), (.slice A0_3 l0_3.length c0_3), .int .i64 a0_4] 30 (0, 0))) ∧ Aside0 (Below w.heap.size w wc))
             case first =>
              have H := HC39.out
              clear HC39
              by_cases c41 : 0 ≤ x6_4
              ·rw [if_pos c41] at H
               have c41b0 : decide (0 ≤ x6_4) = true := decide_eq_true c41
               clear c41
               (first | rw [c41b0] | (simp only [i64_w, i32_w]; rw [c41b0]) | skip)
               replace H := Option.bind_eq_some_iff.mp H
               obtain ⟨t9, A420, H⟩ := H
               replace H : (if t9 = true then ((spec_l01In.f ((rd_T123 l0_1 x6_4).f1) 1 (wrap64 (a0_4 - 1))).bind fun t11 => (spec_BenchOk.j6 k4 x6_4 (!t11) l0_0 l0_1 l0_2 l0_3 a0_4)) else (spec_BenchOk.j6 k4 x6_4 true l0_0 l0_1 l0_2 l0_3 a0_4)) = some r := H
               have A42 := Aside0.mk A420
               clear A420
               by_cases c43 : t9 = true
               ·subst c43
                have H1 : ((spec_l01In.f ((rd_T123 l0_1 x6_4).f1) 1 (wrap64 (a0_4 - 1))).bind fun t11 => (spec_BenchOk.j6 k4 x6_4 (!t11) l0_0 l0_1 l0_2 l0_3 a0_4)) = some r := by rw [if_pos rfl] at H; exact H
                clear H
                have H := H1
                clear H1
                replace H := Option.bind_eq_some_iff.mp H
                obtain ⟨t11, A440, H⟩ := H
                replace H : (spec_BenchOk.j6 k4 x6_4 (!t11) l0_0 l0_1 l0_2 l0_3 a0_4) = some r := H
                have A44 := Aside0.mk A440
                clear A440
                have H' := Aside0.mk H
                clear H
                have hcz45_0 := (blk_cell BK1.out 0).trans rfl
                have hcz45_1 := (blk_cell BK1.out 1).trans rfl
                have hcz45_2 := (blk_cell BK1.out 2).trans rfl
                have hcz45_3 := (blk_cell BK1.out 3).trans rfl
                have hcz45_4 := (blk_cell BK1.out 4).trans rfl
                have hfz45_0 := blk_frozen BK1.out 0
                have hfz45_1 := blk_frozen BK1.out 1
                have hfz45_2 := blk_frozen BK1.out 2
                have hfz45_3 := blk_frozen BK1.out 3
                have hfz45_4 := blk_frozen BK1.out 4
                have p8 : 0 ≤ (x6_4 : Int) := od_
                have q8 : x6_4 < (l0_1.length : Int) := od_
                obtain ⟨ad8, e8, hx8_0, hx8_1⟩ := at_T123 HR0_1.out x6_4 p8 q8
                cases e8
                replace hx8_0 := (HB.out.cell (World.block_lt_of_cell? w _ hx8_0)).trans hx8_0
                replace hx8_1 := (HB.out.cell (World.block_lt_of_cell? w _ hx8_1)).trans hx8_1
                replace p8 := eq_true p8
                replace q8 := eq_true q8
                go_wp2_with (first | (go_at_call 97; (with_reducible refine (spec_l01In.calls ((rd_T123 l0_1 x6_4).f0) 0 4 true _ A42.out).mono ?_); rintro e w' ⟨rfl, ⟨nd, rfl⟩⟩; (try first | exact ⟨rfl, _, World.drewN_drewN _ _ _⟩ | exact ⟨rfl, _, Eq.trans (World.drewN_drewN _ _ _) (congrArg (World.drewN _) (Nat.add_assoc _ _ _))⟩); have p10 : 0 ≤ (x6_4 : Int) := od_; have q10 : x6_4 < (l0_1.length : Int) := od_; obtain ⟨ad10, e10, hx10_0, hx10_1⟩ := at_T123 HR0_1.out x6_4 p10 q10; obtain rfl : ad8 = ad10 := (by injection e10); replace hx10_0 := (HB.out.cell (World.block_lt_of_cell? w _ hx10_0)).trans hx10_0; replace hx10_1 := (HB.out.cell (World.block_lt_of_cell? w _ hx10_1)).trans hx10_1; replace p10 := eq_true p10; replace q10 := eq_true q10) | (go_at_call 97; (with_reducible refine (spec_l01In.calls ((rd_T123 l0_1 x6_4).f1) 1 (wrap64 (a0_4 - 1)) t11 _ A44.out).mono ?_); rintro e w' ⟨rfl, ⟨nd, rfl⟩⟩; (try first | exact ⟨rfl, _, World.drewN_drewN _ _ _⟩ | exact ⟨rfl, _, Eq.trans (World.drewN_drewN _ _ _) (congrArg (World.drewN _) (Nat.add_assoc _ _ _))⟩)))
                repeat (go_quiet (first | (go_at_call 97; (with_reducible refine (spec_l01In.calls ((rd_T123 l0_1 x6_4).f0) 0 4 true _ A42.out).mono ?_); rintro e w' ⟨rfl, ⟨nd, rfl⟩⟩; (try first | exact ⟨rfl, _, World.drewN_drewN _ _ _⟩ | exact ⟨rfl, _, Eq.trans (World.drewN_drewN _ _ _) (congrArg (World.drewN _) (Nat.add_assoc _ _ _))⟩); (try (have p10 : 0 ≤ (x6_4 : Int) := od_; have q10 : x6_4 < (l0_1.length : Int) := od_; obtain ⟨ad10, e10, hx10_0, hx10_1⟩ := at_T123 HR0_1.out x6_4 p10 q10; obtain rfl : ad8 = ad10 := (by injection e10); replace hx10_0 := (HB.out.cell (World.block_lt_of_cell? w _ hx10_0)).trans hx10_0; replace hx10_1 := (HB.out.cell (World.block_lt_of_cell? w _ hx10_1)).trans hx10_1; replace p10 := eq_true p10; replace q10 := eq_true q10))) | (go_at_call 97; (with_reducible refine (spec_l01In.calls ((rd_T123 l0_1 x6_4).f1) 1 (wrap64 (a0_4 - 1)) t11 _ A44.out).mono ?_); rintro e w' ⟨rfl, ⟨nd, rfl⟩⟩; (try first | exact ⟨rfl, _, World.drewN_drewN _ _ _⟩ | exact ⟨rfl, _, Eq.trans (World.drewN_drewN _ _ _) (congrArg (World.drewN _) (Nat.add_assoc _ _ _))⟩))); try go_wp2_with (first | (go_at_call 97; (with_reducible refine (spec_l01In.calls ((rd_T123 l0_1 x6_4).f0) 0 4 true _ A42.out).mono ?_); rintro e w' ⟨rfl, ⟨nd, rfl⟩⟩; (try first | exact ⟨rfl, _, World.drewN_drewN _ _ _⟩ | exact ⟨rfl, _, Eq.trans (World.drewN_drewN _ _ _) (congrArg (World.drewN _) (Nat.add_assoc _ _ _))⟩); (try (have p10 : 0 ≤ (x6_4 : Int) := od_; have q10 : x6_4 < (l0_1.length : Int) := od_; obtain ⟨ad10, e10, hx10_0, hx10_1⟩ := at_T123 HR0_1.out x6_4 p10 q10; obtain rfl : ad8 = ad10 := (by injection e10); replace hx10_0 := (HB.out.cell (World.block_lt_of_cell? w _ hx10_0)).trans hx10_0; replace hx10_1 := (HB.out.cell (World.block_lt_of_cell? w _ hx10_1)).trans hx10_1; replace p10 := eq_true p10; replace q10 := eq_true q10))) | (go_at_call 97; (with_reducible refine (spec_l01In.calls ((rd_T123 l0_1 x6_4).f1) 1 (wrap64 (a0_4 - 1)) t11 _ A44.out).mono ?_); rintro e w' ⟨rfl, ⟨nd, rfl⟩⟩; (try first | exact ⟨rfl, _, World.drewN_drewN _ _ _⟩ | exact ⟨rfl, _, Eq.trans (World.drewN_drewN _ _ _) (congrArg (World.drewN _) (Nat.add_assoc _ _ _))⟩))))
                go_meet
                case rel => exact ⟨_, (!t11), sd_, H', ⟨by have := HJ1.out; have := HK2.out; have := HK3.out; have := HK4.out; first | omega | exact Nat.le_refl _⟩, ⟨bk_⟩, ⟨bw_⟩⟩
               ·replace c43 := Bool.eq_false_iff.mpr c43
                subst c43
                have H1 : (spec_BenchOk.j6 k4 x6_4 true l0_0 l0_1 l0_2 l0_3 a0_4) = some r := by rw [if_neg (show ¬ (false = true) by decide)] at H; exact H
                clear H
                have H := H1
                clear H1
                have H' := Aside0.mk H
                clear H
                have hcz46_0 := (blk_cell BK1.out 0).trans rfl
                have hcz46_1 := (blk_cell BK1.out 1).trans rfl
                have hcz46_2 := (blk_cell BK1.out 2).trans rfl
                have hcz46_3 := (blk_cell BK1.out 3).trans rfl
                have hcz46_4 := (blk_cell BK1.out 4).trans rfl
                have hfz46_0 := blk_frozen BK1.out 0
                have hfz46_1 := blk_frozen BK1.out 1
                have hfz46_2 := blk_frozen BK1.out 2
                have hfz46_3 := blk_frozen BK1.out 3
                have hfz46_4 := blk_frozen BK1.out 4
                have p8 : 0 ≤ (x6_4 : Int) := od_
                have q8 : x6_4 < (l0_1.length : Int) := od_
                obtain ⟨ad8, e8, hx8_0, hx8_1⟩ := at_T123 HR0_1.out x6_4 p8 q8
                cases e8
                replace hx8_0 := (HB.out.cell (World.block_lt_of_cell? w _ hx8_0)).trans hx8_0
                replace hx8_1 := (HB.out.cell (World.block_lt_of_cell? w _ hx8_1)).trans hx8_1
                replace p8 := eq_true p8
                replace q8 := eq_true q8
                go_wp2_with (first | (go_at_call 97; (with_reducible refine (spec_l01In.calls ((rd_T123 l0_1 x6_4).f0) 0 4 false _ A42.out).mono ?_); rintro e w' ⟨rfl, ⟨nd, rfl⟩⟩; (try first | exact ⟨rfl, _, World.drewN_drewN _ _ _⟩ | exact ⟨rfl, _, Eq.trans (World.drewN_drewN _ _ _) (congrArg (World.drewN _) (Nat.add_assoc _ _ _))⟩)))
                repeat (go_quiet (first | (go_at_call 97; (with_reducible refine (spec_l01In.calls ((rd_T123 l0_1 x6_4).f0) 0 4 false _ A42.out).mono ?_); rintro e w' ⟨rfl, ⟨nd, rfl⟩⟩; (try first | exact ⟨rfl, _, World.drewN_drewN _ _ _⟩ | exact ⟨rfl, _, Eq.trans (World.drewN_drewN _ _ _) (congrArg (World.drewN _) (Nat.add_assoc _ _ _))⟩))); try go_wp2_with (first | (go_at_call 97; (with_reducible refine (spec_l01In.calls ((rd_T123 l0_1 x6_4).f0) 0 4 false _ A42.out).mono ?_); rintro e w' ⟨rfl, ⟨nd, rfl⟩⟩; (try first | exact ⟨rfl, _, World.drewN_drewN _ _ _⟩ | exact ⟨rfl, _, Eq.trans (World.drewN_drewN _ _ _) (congrArg (World.drewN _) (Nat.add_assoc _ _ _))⟩))))
                go_meet
                case rel => exact ⟨_, (true), sd_, H', ⟨by have := HJ1.out; have := HK2.out; have := HK3.out; have := HK4.out; first | omega | exact Nat.le_refl _⟩, ⟨bk_⟩, ⟨bw_⟩⟩
              ·rw [if_neg c41] at H
               exact absurd H (by simp)
             case rest =>
              clear HC39
              try clear c1
              try clear p1
              try clear q1
              try clear hx1
              try clear c2
              try clear p2
              try clear c3
              try clear p3
              try clear q3
              try clear hx3
              try clear c4
              try clear p4
              try clear q4
              try clear hx4
              try clear c5
              try clear c6
              try clear c6b0
              try clear c6b1
              try clear p6
              try clear p8
              try clear q8
              try clear hx8
              try clear c10
              try clear p10
              try clear q10
              try clear hx10
              try clear c11
              try clear c11b0
              try clear c13
              try clear c13b0
              try clear c14
              try clear c14b0
              try clear c15
              try clear c15b0
              try clear c16
              try clear c16b0
              try clear c20
              try clear c20b0
              try clear c21
              try clear c24
              try clear c28
              try clear c30
              try clear c31
              try clear c31b0
              try clear c31b1
              try clear c34
              try clear c34b0
              try clear c34b1
              try clear c38
              try clear c38b0
              try clear c41
              try clear c41b0
              try clear c43
              try clear hcz17_0
              try clear hcz17_1
              try clear hcz17_2
              try clear hcz17_3
              try clear hcz17_4
              try clear hcz18_0
              try clear hcz18_1
              try clear hcz18_2
              try clear hcz18_3
              try clear hcz18_4
              try clear hcz19_0
              try clear hcz19_1
              try clear hcz19_2
              try clear hcz19_3
              try clear hcz19_4
              try clear hcz23_0
              try clear hcz23_1
              try clear hcz23_2
              try clear hcz23_3
              try clear hcz23_4
              try clear hcz27_0
              try clear hcz27_1
              try clear hcz27_2
              try clear hcz27_3
              try clear hcz27_4
              try clear hcz32_0
              try clear hcz32_1
              try clear hcz32_2
              try clear hcz32_3
              try clear hcz32_4
              try clear hcz33_0
              try clear hcz33_1
              try clear hcz33_2
              try clear hcz33_3
              try clear hcz33_4
              try clear hcz35_0
              try clear hcz35_1
              try clear hcz35_2
              try clear hcz35_3
              try clear hcz35_4
              try clear hcz36_0
              try clear hcz36_1
              try clear hcz36_2
              try clear hcz36_3
              try clear hcz36_4
              try clear hcz37_0
              try clear hcz37_1
              try clear hcz37_2
              try clear hcz37_3
              try clear hcz37_4
              try clear hcz40_0
              try clear hcz40_1
              try clear hcz40_2
              try clear hcz40_3
              try clear hcz40_4
              try clear hcz45_0
              try clear hcz45_1
              try clear hcz45_2
              try clear hcz45_3
              try clear hcz45_4
              try clear hcz46_0
              try clear hcz46_1
              try clear hcz46_2
              try clear hcz46_3
              try clear hcz46_4
              try clear hcz7_0
              try clear hcz7_1
              try clear hcz7_2
              try clear hcz7_3
              try clear hcz7_4
              try clear hcz8_0
              try clear hcz8_1
              try clear hcz8_2
              try clear hcz8_3
              try clear hcz8_4
              try clear hcz9_0
              try clear hcz9_1
              try clear hcz9_2
              try clear hcz9_3
              try clear hcz9_4
              try clear hfz17_0
              try clear hfz17_1
              try clear hfz17_2
              try clear hfz17_3
              try clear hfz17_4
              try clear hfz18_0
              try clear hfz18_1
              try clear hfz18_2
              try clear hfz18_3
              try clear hfz18_4
              try clear hfz19_0
              try clear hfz19_1
              try clear hfz19_2
              try clear hfz19_3
              try clear hfz19_4
              try clear hfz23_0
              try clear hfz23_1
              try clear hfz23_2
              try clear hfz23_3
              try clear hfz23_4
              try clear hfz27_0
              try clear hfz27_1
              try clear hfz27_2
              try clear hfz27_3
              try clear hfz27_4
              try clear hfz32_0
              try clear hfz32_1
              try clear hfz32_2
              try clear hfz32_3
              try clear hfz32_4
              try clear hfz33_0
              try clear hfz33_1
              try clear hfz33_2
              try clear hfz33_3
              try clear hfz33_4
              try clear hfz35_0
              try clear hfz35_1
              try clear hfz35_2
              try clear hfz35_3
              try clear hfz35_4
              try clear hfz36_0
              try clear hfz36_1
              try clear hfz36_2
              try clear hfz36_3
              try clear hfz36_4
              try clear hfz37_0
              try clear hfz37_1
              try clear hfz37_2
              try clear hfz37_3
              try clear hfz37_4
              try clear hfz40_0
              try clear hfz40_1
              try clear hfz40_2
              try clear hfz40_3
              try clear hfz40_4
              try clear hfz45_0
              try clear hfz45_1
              try clear hfz45_2
              try clear hfz45_3
              try clear hfz45_4
              try clear hfz46_0
              try clear hfz46_1
              try clear hfz46_2
              try clear hfz46_3
              try clear hfz46_4
              try clear hfz7_0
              try clear hfz7_1
              try clear hfz7_2
              try clear hfz7_3
              try clear hfz7_4
              try clear hfz8_0
              try clear hfz8_1
              try clear hfz8_2
              try clear hfz8_3
              try clear hfz8_4
              try clear hfz9_0
              try clear hfz9_1
              try clear hfz9_2
              try clear hfz9_3
              try clear hfz9_4
              try clear hx10_0
              try clear hx10_1
              try clear hx3_0
              try clear hx4_0
              try clear hx8_0
              try clear hx8_1
              try clear p10
              try clear p2
              try clear p3
              try clear p4
              try clear p6
              try clear p8
              try clear q10
              try clear q3
              try clear q4
              try clear q8
              obtain ⟨kq, x107_38, rfl, HA, HJ38, BK1, HB⟩ := hcut
              cases kq with
              | zero => exact absurd HA.out (by simp [spec_BenchOk.j6])
              | succ kj38 =>
               have H := HA.out
               clear HA
               simp only [spec_BenchOk.j6] at H
               by_cases c47 : x107_38 = true
               ·subst c47
                have H1 : (some false) = some r := by rw [if_pos rfl] at H; exact H
                clear H
                have H := H1
                clear H1
                obtain rfl := Option.some.inj H
                go_wp2
                repeat (go_quiet (fail); try go_wp2)
                go_ret
                exact ⟨rr_, bw_⟩
               ·replace c47 := Bool.eq_false_iff.mpr c47
                subst c47
                have H1 : (spec_BenchOk.l3 kj38 x6_4 0 l0_0 l0_1 l0_2 l0_3 a0_4) = some r := by rw [if_neg (show ¬ (false = true) by decide)] at H; exact H
                clear H
                have H := H1
                clear H1
                have H' := Aside0.mk H
                clear H
                go_wp2
                repeat (go_quiet (fail); try go_wp2)
                go_loopg [7] kj38 (fun kq v7 w' => ∃ (x7_6 : Int), v7 = .int .i64 x7_6 ∧ Aside0 (spec_BenchOk.l3 kq x6_4 x7_6 l0_0 l0_1 l0_2 l0_3 a0_4 = some r) ∧ Aside0 (kq ≤ kj38) ∧ Aside0 (w'.heap[gb1]? = some (.cells #[(.slice A0_0 l0_0.length c0_0), (.slice A0_1 l0_1.length c0_1), (.slice A0_2 l0_2.length c0_2), (.slice A0_3 l0_3.length c0_3), .int .i64 a0_4] 30 (0, 0))) ∧ Aside0 (Below w.heap.size w w'))
                case atStart => exact ⟨(0), sd_, H', ⟨Nat.le_refl _⟩, ⟨bk_⟩, ⟨bw_⟩⟩
                case round =>
                 clear H'
                 try clear c1
                 try clear p1
                 try clear q1
                 try clear hx1
                 try clear c2
                 try clear p2
                 try clear c3
                 try clear p3
                 try clear q3
                 try clear hx3
                 try clear c4
                 try clear p4
                 try clear q4
                 try clear hx4
                 try clear c5
                 try clear c6
                 try clear c6b0
                 try clear c6b1
                 try clear p6
                 try clear p8
                 try clear q8
                 try clear hx8
                 try clear c10
                 try clear p10
                 try clear q10
                 try clear hx10
                 try clear c11
                 try clear c11b0
                 try clear c13
                 try clear c13b0
                 try clear c14
                 try clear c14b0
                 try clear c15
                 try clear c15b0
                 try clear c16
                 try clear c16b0
                 try clear c20
                 try clear c20b0
                 try clear c21
                 try clear c24
                 try clear c28
                 try clear c30
                 try clear c31
                 try clear c31b0
                 try clear c31b1
                 try clear c34
                 try clear c34b0
                 try clear c34b1
                 try clear c38
                 try clear c38b0
                 try clear c41
                 try clear c41b0
                 try clear c43
                 try clear c47
                 try clear hcz17_0
                 try clear hcz17_1
                 try clear hcz17_2
                 try clear hcz17_3
                 try clear hcz17_4
                 try clear hcz18_0
                 try clear hcz18_1
                 try clear hcz18_2
                 try clear hcz18_3
                 try clear hcz18_4
                 try clear hcz19_0
                 try clear hcz19_1
                 try clear hcz19_2
                 try clear hcz19_3
                 try clear hcz19_4
                 try clear hcz23_0
                 try clear hcz23_1
                 try clear hcz23_2
                 try clear hcz23_3
                 try clear hcz23_4
                 try clear hcz27_0
                 try clear hcz27_1
                 try clear hcz27_2
                 try clear hcz27_3
                 try clear hcz27_4
                 try clear hcz32_0
                 try clear hcz32_1
                 try clear hcz32_2
                 try clear hcz32_3
                 try clear hcz32_4
                 try clear hcz33_0
                 try clear hcz33_1
                 try clear hcz33_2
                 try clear hcz33_3
                 try clear hcz33_4
                 try clear hcz35_0
                 try clear hcz35_1
                 try clear hcz35_2
                 try clear hcz35_3
                 try clear hcz35_4
                 try clear hcz36_0
                 try clear hcz36_1
                 try clear hcz36_2
                 try clear hcz36_3
                 try clear hcz36_4
                 try clear hcz37_0
                 try clear hcz37_1
                 try clear hcz37_2
                 try clear hcz37_3
                 try clear hcz37_4
                 try clear hcz40_0
                 try clear hcz40_1
                 try clear hcz40_2
                 try clear hcz40_3
                 try clear hcz40_4
                 try clear hcz45_0
                 try clear hcz45_1
                 try clear hcz45_2
                 try clear hcz45_3
                 try clear hcz45_4
                 try clear hcz46_0
                 try clear hcz46_1
                 try clear hcz46_2
                 try clear hcz46_3
                 try clear hcz46_4
                 try clear hcz7_0
                 try clear hcz7_1
                 try clear hcz7_2
                 try clear hcz7_3
                 try clear hcz7_4
                 try clear hcz8_0
                 try clear hcz8_1
                 try clear hcz8_2
                 try clear hcz8_3
                 try clear hcz8_4
                 try clear hcz9_0
                 try clear hcz9_1
                 try clear hcz9_2
                 try clear hcz9_3
                 try clear hcz9_4
                 try clear hfz17_0
                 try clear hfz17_1
                 try clear hfz17_2
                 try clear hfz17_3
                 try clear hfz17_4
                 try clear hfz18_0
                 try clear hfz18_1
                 try clear hfz18_2
                 try clear hfz18_3
                 try clear hfz18_4
                 try clear hfz19_0
                 try clear hfz19_1
                 try clear hfz19_2
                 try clear hfz19_3
                 try clear hfz19_4
                 try clear hfz23_0
                 try clear hfz23_1
                 try clear hfz23_2
                 try clear hfz23_3
                 try clear hfz23_4
                 try clear hfz27_0
                 try clear hfz27_1
                 try clear hfz27_2
                 try clear hfz27_3
                 try clear hfz27_4
                 try clear hfz32_0
                 try clear hfz32_1
                 try clear hfz32_2
                 try clear hfz32_3
                 try clear hfz32_4
                 try clear hfz33_0
                 try clear hfz33_1
                 try clear hfz33_2
                 try clear hfz33_3
                 try clear hfz33_4
                 try clear hfz35_0
                 try clear hfz35_1
                 try clear hfz35_2
                 try clear hfz35_3
                 try clear hfz35_4
                 try clear hfz36_0
                 try clear hfz36_1
                 try clear hfz36_2
                 try clear hfz36_3
                 try clear hfz36_4
                 try clear hfz37_0
                 try clear hfz37_1
                 try clear hfz37_2
                 try clear hfz37_3
                 try clear hfz37_4
                 try clear hfz40_0
                 try clear hfz40_1
                 try clear hfz40_2
                 try clear hfz40_3
                 try clear hfz40_4
                 try clear hfz45_0
                 try clear hfz45_1
                 try clear hfz45_2
                 try clear hfz45_3
                 try clear hfz45_4
                 try clear hfz46_0
                 try clear hfz46_1
                 try clear hfz46_2
                 try clear hfz46_3
                 try clear hfz46_4
                 try clear hfz7_0
                 try clear hfz7_1
                 try clear hfz7_2
                 try clear hfz7_3
                 try clear hfz7_4
                 try clear hfz8_0
                 try clear hfz8_1
                 try clear hfz8_2
                 try clear hfz8_3
                 try clear hfz8_4
                 try clear hfz9_0
                 try clear hfz9_1
                 try clear hfz9_2
                 try clear hfz9_3
                 try clear hfz9_4
                 try clear hx10_0
                 try clear hx10_1
                 try clear hx3_0
                 try clear hx4_0
                 try clear hx8_0
                 try clear hx8_1
                 try clear p1
                 try clear p10
                 try clear p2
                 try clear p3
                 try clear p4
                 try clear p6
                 try clear p8
                 try clear q1
                 try clear q10
                 try clear q3
                 try clear q4
                 try clear q8
                 obtain ⟨x7_6, rfl, HA, HK6, BK1, HB⟩ := hrel
                 cases gk with
                 | zero => exact absurd HA.out (by simp [spec_BenchOk.l3])
                 | succ k6 =>
                  have H := HA.out
                  clear HA
                  simp only [spec_BenchOk.l3] at H
                  by_cases c48 : x7_6 < x6_4
                  ·rw [if_pos c48] at H
                   have c48b0 : decide (x7_6 < x6_4) = true := decide_eq_true c48
                   clear c48
                   by_cases c49 : 0 ≤ x7_6
                   ·rw [if_pos c49] at H
                    have c49b0 : decide (0 ≤ x7_6) = true := decide_eq_true c49
                    clear c49
                    by_cases c50 : x7_6 < (l0_1.length : Int)
                    ·rw [if_pos c50] at H
                     have c50b0 : decide (x7_6 < (l0_1.length : Int)) = true := decide_eq_true c50
                     clear c50
                     by_cases c51 : 0 ≤ x6_4
                     ·rw [if_pos c51] at H
                      have c51b0 : decide (0 ≤ x6_4) = true := decide_eq_true c51
                      clear c51
                      by_cases c52 : x6_4 < (l0_1.length : Int)
                      ·rw [if_pos c52] at H
                       have c52b0 : decide (x6_4 < (l0_1.length : Int)) = true := decide_eq_true c52
                       clear c52
                       by_cases c53 : (((rd_T123 l0_1 x7_6).f0) == ((rd_T123 l0_1 x6_4).f0) && (((rd_T123 l0_1 x7_6).f1) == ((rd_T123 l0_1 x6_4).f1))) = true
                       ·rw [if_pos c53] at H
                        have c53b0 : (((rd_T123 l0_1 x7_6).f0) == ((rd_T123 l0_1 x6_4).f0) && (((rd_T123 l0_1 x7_6).f1) == ((rd_T123 l0_1 x6_4).f1))) = true := c53
                        (try (have c53b1 : decide (((rd_T123 l0_1 x7_6).f0) = ((rd_T123 l0_1 x6_4).f0) && (((rd_T123 l0_1 x7_6).f1) == ((rd_T123 l0_1 x6_4).f1))) = true := by simpa using c53))
                        (try (have c53b2 : (((rd_T123 l0_1 x7_6).f0) == ((rd_T123 l0_1 x6_4).f0) && (((rd_T123 l0_1 x7_6).f1) == ((rd_T123 l0_1 x6_4).f1))) = true := by simpa using c53))
                        clear c53
                        obtain rfl := Option.some.inj H
                        have hcz54_0 := (blk_cell BK1.out 0).trans rfl
                        have hcz54_1 := (blk_cell BK1.out 1).trans rfl
                        have hcz54_2 := (blk_cell BK1.out 2).trans rfl
                        have hcz54_3 := (blk_cell BK1.out 3).trans rfl
                        have hcz54_4 := (blk_cell BK1.out 4).trans rfl
                        have hfz54_0 := blk_frozen BK1.out 0
                        have hfz54_1 := blk_frozen BK1.out 1
                        have hfz54_2 := blk_frozen BK1.out 2
                        have hfz54_3 := blk_frozen BK1.out 3
                        have hfz54_4 := blk_frozen BK1.out 4
                        have p12 : 0 ≤ (x7_6 : Int) := od_
                        have q12 : x7_6 < (l0_1.length : Int) := od_
                        obtain ⟨ad12, e12, hx12_0, hx12_1⟩ := at_T123 HR0_1.out x7_6 p12 q12
                        cases e12
                        replace hx12_0 := (HB.out.cell (World.block_lt_of_cell? w _ hx12_0)).trans hx12_0
                        replace hx12_1 := (HB.out.cell (World.block_lt_of_cell? w _ hx12_1)).trans hx12_1
                        replace p12 := eq_true p12
                        replace q12 := eq_true q12
                        have p13 : 0 ≤ (x6_4 : Int) := od_
                        have q13 : x6_4 < (l0_1.length : Int) := od_
                        obtain ⟨ad13, e13, hx13_0, hx13_1⟩ := at_T123 HR0_1.out x6_4 p13 q13
                        obtain rfl : ad12 = ad13 := (by injection e13)
                        replace hx13_0 := (HB.out.cell (World.block_lt_of_cell? w _ hx13_0)).trans hx13_0
                        replace hx13_1 := (HB.out.cell (World.block_lt_of_cell? w _ hx13_1)).trans hx13_1
                        replace p13 := eq_true p13
                        replace q13 := eq_true q13
                        go_wp2
                        repeat (go_quiet (fail); try go_wp2)
                        go_ret
                        exact ⟨rr_, bw_⟩
                       ·rw [if_neg c53] at H
                        have c53b0 : (((rd_T123 l0_1 x7_6).f0) == ((rd_T123 l0_1 x6_4).f0) && (((rd_T123 l0_1 x7_6).f1) == ((rd_T123 l0_1 x6_4).f1))) = false := by simpa using c53
                        (try (have c53b1 : decide (((rd_T123 l0_1 x7_6).f0) = ((rd_T123 l0_1 x6_4).f0) && (((rd_T123 l0_1 x7_6).f1) == ((rd_T123 l0_1 x6_4).f1))) = false := by simpa using c53))
                        (try (have c53b2 : (((rd_T123 l0_1 x7_6).f0) == ((rd_T123 l0_1 x6_4).f0) && (((rd_T123 l0_1 x7_6).f1) == ((rd_T123 l0_1 x6_4).f1))) = false := by simpa using c53))
                        (try (have c53b3 : ¬ (((rd_T123 l0_1 x7_6).f0) = ((rd_T123 l0_1 x6_4).f0) && (((rd_T123 l0_1 x7_6).f1) == ((rd_T123 l0_1 x6_4).f1))) := by simpa using c53))
                        clear c53
                        have H' := Aside0.mk H
                        clear H
                        have hcz55_0 := (blk_cell BK1.out 0).trans rfl
                        have hcz55_1 := (blk_cell BK1.out 1).trans rfl
                        have hcz55_2 := (blk_cell BK1.out 2).trans rfl
                        have hcz55_3 := (blk_cell BK1.out 3).trans rfl
                        have hcz55_4 := (blk_cell BK1.out 4).trans rfl
                        have hfz55_0 := blk_frozen BK1.out 0
                        have hfz55_1 := blk_frozen BK1.out 1
                        have hfz55_2 := blk_frozen BK1.out 2
                        have hfz55_3 := blk_frozen BK1.out 3
                        have hfz55_4 := blk_frozen BK1.out 4
                        have p12 : 0 ≤ (x7_6 : Int) := od_
                        have q12 : x7_6 < (l0_1.length : Int) := od_
                        obtain ⟨ad12, e12, hx12_0, hx12_1⟩ := at_T123 HR0_1.out x7_6 p12 q12
                        cases e12
                        replace hx12_0 := (HB.out.cell (World.block_lt_of_cell? w _ hx12_0)).trans hx12_0
                        replace hx12_1 := (HB.out.cell (World.block_lt_of_cell? w _ hx12_1)).trans hx12_1
                        replace p12 := eq_true p12
                        replace q12 := eq_true q12
                        have p13 : 0 ≤ (x6_4 : Int) := od_
                        have q13 : x6_4 < (l0_1.length : Int) := od_
                        obtain ⟨ad13, e13, hx13_0, hx13_1⟩ := at_T123 HR0_1.out x6_4 p13 q13
                        obtain rfl : ad12 = ad13 := (by injection e13)
                        replace hx13_0 := (HB.out.cell (World.block_lt_of_cell? w _ hx13_0)).trans hx13_0
                        replace hx13_1 := (HB.out.cell (World.block_lt_of_cell? w _ hx13_1)).trans hx13_1
                        replace p13 := eq_true p13
                        replace q13 := eq_true q13
                        go_wp2
                        repeat (go_quiet (fail); try go_wp2)
                        go_roundg k6
                        case measure => have := HJ1.out; have := HK2.out; have := HK3.out; have := HK4.out; have := HJ38.out; have := HK6.out; omega
                        case rel => exact ⟨(wrap64 (x7_6 + 1)), sd_, H', ⟨by have := HJ1.out; have := HK2.out; have := HK3.out; have := HK4.out; have := HJ38.out; have := HK6.out; omega⟩, ⟨bk_⟩, ⟨bw_⟩⟩
                      ·rw [if_neg c52] at H
                       exact absurd H (by simp)
                     ·rw [if_neg c51] at H
                      exact absurd H (by simp)
                    ·rw [if_neg c50] at H
                     exact absurd H (by simp)
                   ·rw [if_neg c49] at H
                    exact absurd H (by simp)
                  ·rw [if_neg c48] at H
                   have c48b0 : decide (x7_6 < x6_4) = false := decide_eq_false c48
                   clear c48
                   have H' := Aside0.mk H
                   clear H
                   go_wp2
                   repeat (go_quiet (fail); try go_wp2)
                   go_roundg k6
                   case measure => have := HJ1.out; have := HK2.out; have := HK3.out; have := HK4.out; have := HJ38.out; have := HK6.out; omega
                   case rel => exact ⟨(wrap64 (x6_4 + 1)), sd_, H', ⟨by have := HJ1.out; have := HK2.out; have := HK3.out; have := HK4.out; have := HJ38.out; have := HK6.out; omega⟩, ⟨bk_⟩, ⟨bw_⟩⟩
            ·rw [if_neg c38] at H
             have c38b0 : decide (x6_4 < (l0_1.length : Int)) = false := decide_eq_false c38
             clear c38
             obtain rfl := Option.some.inj H
             have hcz56_0 := (blk_cell BK1.out 0).trans rfl
             have hcz56_1 := (blk_cell BK1.out 1).trans rfl
             have hcz56_2 := (blk_cell BK1.out 2).trans rfl
             have hcz56_3 := (blk_cell BK1.out 3).trans rfl
             have hcz56_4 := (blk_cell BK1.out 4).trans rfl
             have hfz56_0 := blk_frozen BK1.out 0
             have hfz56_1 := blk_frozen BK1.out 1
             have hfz56_2 := blk_frozen BK1.out 2
             have hfz56_3 := blk_frozen BK1.out 3
             have hfz56_4 := blk_frozen BK1.out 4
             go_wp2
             repeat (go_quiet (fail); try go_wp2)
             go_ret
             exact ⟨rr_, bw_⟩

end Go.Proofs.Ytpcfcdnmpginhaa.P
