-- Written by mp.py (the session's own driver over the kit's printer) for the seat YtbgclnjnngolmaaGreatDoor.
import Derived.Test.YtbgclnjnngolmaaGreatDoorK
import Derived.Test.YtbgclnjnngolmaaGreatDoorPspecl01Parts
import Derived.Test.YtbgclnjnngolmaaGreatDoorPspecl01Value
namespace Go.Proofs.YtbgclnjnngolmaaGreatDoor.P
open Go.RowKit Go.Proofs.YtbgclnjnngolmaaGreatDoorW.PrintWords Go.Proofs.YtbgclnjnngolmaaGreatDoorW.PrintLast Go.Proofs.YtbgclnjnngolmaaGreatDoorW.PrintMore
attribute [local go_sem] max2_int min2_int max_two min_two max_three min_three max_four min_four
set_option linter.unusedVariables false
set_option linter.unusedSimpArgs false

/-! ### spec_AskText: function 23 -/
mutual
def spec_AskText.l0 : Nat → List (S46) → ByteArray → Int → Option (ByteArray × Bool)
 | 0, _, _, _ => none
 | k + 1, x0, x4, x5 => if x5 < (x0.length : Int) then (if 0 ≤ x5 then ((spec_l01In.f ((rd_T46 x0 x5).f0) 0 1).bind fun t3 => (if t3 = true then (if ((rd_T46 x0 x5).f0) = 1 then (if ((rd_T46 x0 x5).f1) = 0 then ((spec_l01Value.f ((rd_T46 x0 x5).f1)).bind fun t4 => (if t4 = true then ((spec_l01Value.f ((rd_T46 x0 x5).f2)).bind fun t5 => (if t5 = true then ((spec_l01Value.f ((rd_T46 x0 x5).f3)).bind fun t6 => (spec_AskText.j1 k x0 x4 x5 (!t6) ((rd_T46 x0 x5).f0) ((rd_T46 x0 x5).f1) ((rd_T46 x0 x5).f2) ((rd_T46 x0 x5).f3))) else (spec_AskText.j1 k x0 x4 x5 true ((rd_T46 x0 x5).f0) ((rd_T46 x0 x5).f1) ((rd_T46 x0 x5).f2) ((rd_T46 x0 x5).f3)))) else (spec_AskText.j1 k x0 x4 x5 true ((rd_T46 x0 x5).f0) ((rd_T46 x0 x5).f1) ((rd_T46 x0 x5).f2) ((rd_T46 x0 x5).f3)))) else (spec_AskText.j1 k x0 x4 x5 true ((rd_T46 x0 x5).f0) ((rd_T46 x0 x5).f1) ((rd_T46 x0 x5).f2) ((rd_T46 x0 x5).f3))) else ((spec_l01Value.f ((rd_T46 x0 x5).f1)).bind fun t7 => (if t7 = true then ((spec_l01Value.f ((rd_T46 x0 x5).f2)).bind fun t8 => (if t8 = true then ((spec_l01Value.f ((rd_T46 x0 x5).f3)).bind fun t9 => (spec_AskText.j1 k x0 x4 x5 (!t9) ((rd_T46 x0 x5).f0) ((rd_T46 x0 x5).f1) ((rd_T46 x0 x5).f2) ((rd_T46 x0 x5).f3))) else (spec_AskText.j1 k x0 x4 x5 true ((rd_T46 x0 x5).f0) ((rd_T46 x0 x5).f1) ((rd_T46 x0 x5).f2) ((rd_T46 x0 x5).f3)))) else (spec_AskText.j1 k x0 x4 x5 true ((rd_T46 x0 x5).f0) ((rd_T46 x0 x5).f1) ((rd_T46 x0 x5).f2) ((rd_T46 x0 x5).f3))))) else (spec_AskText.j1 k x0 x4 x5 true ((rd_T46 x0 x5).f0) ((rd_T46 x0 x5).f1) ((rd_T46 x0 x5).f2) ((rd_T46 x0 x5).f3)))) else (none)) else (some (x4, true))
def spec_AskText.j1 : Nat → List (S46) → ByteArray → Int → Bool → Int → Int → Int → Int → Option (ByteArray × Bool)
 | 0, _, _, _, _, _, _, _, _ => none
 | k + 1, x0, x4, x5, x51, x3000, x3001, x3002, x3003 => if x51 = true then (some ((⟨#[]⟩ : ByteArray), false)) else (if x5 > 0 then (if x4.size + 3 ≤ 9223372036854775807 then (spec_AskText.j2 k x0 (x4 ++ (⟨#[32, 38, 32]⟩ : ByteArray)) x5 x3000 x3001 x3002 x3003) else (none)) else (spec_AskText.j2 k x0 x4 x5 x3000 x3001 x3002 x3003))
def spec_AskText.j2 : Nat → List (S46) → ByteArray → Int → Int → Int → Int → Int → Option (ByteArray × Bool)
 | 0, _, _, _, _, _, _, _ => none
 | k + 1, x0, x4, x5, x3000, x3001, x3002, x3003 => if x3000 = 0 then ((spec_l01Num.f k x3001).bind fun t10 => (if x4.size + t10.size ≤ 9223372036854775807 then (if (x4 ++ t10).size + 1 ≤ 9223372036854775807 then ((spec_l01Num.f k x3002).bind fun t11 => (if ((x4 ++ t10) ++ (⟨#[58]⟩ : ByteArray)).size + t11.size ≤ 9223372036854775807 then (if (((x4 ++ t10) ++ (⟨#[58]⟩ : ByteArray)) ++ t11).size + 1 ≤ 9223372036854775807 then ((spec_l01Num.f k x3003).bind fun t12 => (if ((((x4 ++ t10) ++ (⟨#[58]⟩ : ByteArray)) ++ t11) ++ (⟨#[61]⟩ : ByteArray)).size + t12.size ≤ 9223372036854775807 then (spec_AskText.l0 k x0 (((((x4 ++ t10) ++ (⟨#[58]⟩ : ByteArray)) ++ t11) ++ (⟨#[61]⟩ : ByteArray)) ++ t12) (wrap64 (x5 + 1))) else (none))) else (none)) else (none))) else (none)) else (none))) else (if x4.size + 1 ≤ 9223372036854775807 then ((spec_l01Num.f k x3002).bind fun t13 => (if (x4 ++ (⟨#[91]⟩ : ByteArray)).size + t13.size ≤ 9223372036854775807 then (if ((x4 ++ (⟨#[91]⟩ : ByteArray)) ++ t13).size + 2 ≤ 9223372036854775807 then ((spec_l01Num.f k x3003).bind fun t14 => (if (((x4 ++ (⟨#[91]⟩ : ByteArray)) ++ t13) ++ (⟨#[93, 61]⟩ : ByteArray)).size + t14.size ≤ 9223372036854775807 then (spec_AskText.l0 k x0 ((((x4 ++ (⟨#[91]⟩ : ByteArray)) ++ t13) ++ (⟨#[93, 61]⟩ : ByteArray)) ++ t14) (wrap64 (x5 + 1))) else (none))) else (none)) else (none))) else (none))
end
def spec_AskText.f (k : Nat) (l0 : List (S46)) : Option (ByteArray × Bool) := if (l0.length : Int) > 8 then (some ((⟨#[]⟩ : ByteArray), false)) else (spec_AskText.l0 k l0 (⟨#[]⟩ : ByteArray) 0)
theorem spec_AskText.mono_l : ∀ k, (∀ y0 y1 y2, LeO (spec_AskText.l0 k y0 y1 y2) (spec_AskText.l0 (k + 1) y0 y1 y2)) ∧ (∀ y0 y1 y2 y3 y4 y5 y6 y7, LeO (spec_AskText.j1 k y0 y1 y2 y3 y4 y5 y6 y7) (spec_AskText.j1 (k + 1) y0 y1 y2 y3 y4 y5 y6 y7)) ∧ (∀ y0 y1 y2 y3 y4 y5 y6, LeO (spec_AskText.j2 k y0 y1 y2 y3 y4 y5 y6) (spec_AskText.j2 (k + 1) y0 y1 y2 y3 y4 y5 y6))
 | 0 => ⟨fun _ _ _ r h => by simp [spec_AskText.l0] at h, fun _ _ _ _ _ _ _ _ r h => by simp [spec_AskText.j1] at h, fun _ _ _ _ _ _ _ r h => by simp [spec_AskText.j2] at h⟩
 | k + 1 => by
  obtain ⟨ih0, ih1, ih2⟩ := spec_AskText.mono_l k
  refine ⟨?_, ?_, ?_⟩
  ·intro y0 y1 y2
   unfold spec_AskText.l0
   repeat' first | (with_reducible first | exact ih0 _ _ _ | exact ih1 _ _ _ _ _ _ _ _ | exact ih2 _ _ _ _ _ _ _ | exact spec_l01Num.mono _ _ | exact lr_ | exact ln_ | refine LeO.ite ?_ ?_ | refine LeO.bind ?_ (fun _ => ?_)) | exact ih0 _ _ _ | exact ih1 _ _ _ _ _ _ _ _ | exact ih2 _ _ _ _ _ _ _ | exact spec_l01Num.mono _ _ | exact ln_ | refine LeO.ite ?_ ?_ | refine LeO.bind ?_ (fun _ => ?_)
  ·intro y0 y1 y2 y3 y4 y5 y6 y7
   unfold spec_AskText.j1
   repeat' first | (with_reducible first | exact ih0 _ _ _ | exact ih1 _ _ _ _ _ _ _ _ | exact ih2 _ _ _ _ _ _ _ | exact spec_l01Num.mono _ _ | exact lr_ | exact ln_ | refine LeO.ite ?_ ?_ | refine LeO.bind ?_ (fun _ => ?_)) | exact ih0 _ _ _ | exact ih1 _ _ _ _ _ _ _ _ | exact ih2 _ _ _ _ _ _ _ | exact spec_l01Num.mono _ _ | exact ln_ | refine LeO.ite ?_ ?_ | refine LeO.bind ?_ (fun _ => ?_)
  ·intro y0 y1 y2 y3 y4 y5 y6
   unfold spec_AskText.j2
   repeat' first | (with_reducible first | exact ih0 _ _ _ | exact ih1 _ _ _ _ _ _ _ _ | exact ih2 _ _ _ _ _ _ _ | exact spec_l01Num.mono _ _ | exact lr_ | exact ln_ | refine LeO.ite ?_ ?_ | refine LeO.bind ?_ (fun _ => ?_)) | exact ih0 _ _ _ | exact ih1 _ _ _ _ _ _ _ _ | exact ih2 _ _ _ _ _ _ _ | exact spec_l01Num.mono _ _ | exact ln_ | refine LeO.ite ?_ ?_ | refine LeO.bind ?_ (fun _ => ?_)
theorem spec_AskText.mono : ∀ a0 k, LeO (spec_AskText.f k a0) (spec_AskText.f (k + 1) a0) := by
 intro a0 k
 obtain ⟨ih0, ih1, ih2⟩ := spec_AskText.mono_l k
 unfold spec_AskText.f
 repeat' first | (with_reducible first | exact ih0 _ _ _ | exact ih1 _ _ _ _ _ _ _ _ | exact ih2 _ _ _ _ _ _ _ | exact spec_l01Num.mono _ _ | exact lr_ | exact ln_ | refine LeO.ite ?_ ?_ | refine LeO.bind ?_ (fun _ => ?_)) | exact ih0 _ _ _ | exact ih1 _ _ _ _ _ _ _ _ | exact ih2 _ _ _ _ _ _ _ | exact spec_l01Num.mono _ _ | exact ln_ | refine LeO.ite ?_ ?_ | refine LeO.bind ?_ (fun _ => ?_)
def spec_AskText.T13 : Bool × List (List Nat × List Nat) := (true, [([], []), ([], []), ([1], [1]), ([2], [2]), ([0, 3], [0, 3]), ([4], [4]), ([], []), ([6], [6]), ([7, 3], [7]), ([5, 8], [5, 8]), ([9], [9]), ([], []), ([11], [11]), ([12, 8], [12]), ([10, 13], [10, 13]), ([14, 13, 0, 1, 2, 3, 4, 5, 6, 7, 8, 9, 10, 11, 12, 13, 14], [0, 14])])
def spec_AskText.B13 : List Nat := [0, 0, 2, 6, 15, 31, 0, 64, 206, 511, 1023, 0, 2048, 6606, 16383, 32767]
theorem spec_AskText.tab13 : rtab .any (opsOf Tryz.f23 13) = spec_AskText.T13 := by kernel_rfl
theorem spec_AskText.bits13 : waitsOk spec_AskText.T13.2 spec_AskText.B13 = true := by kernel_rfl
def spec_AskText.T14 : Bool × List (List Nat × List Nat) := (true, [([], []), ([0], [0]), ([], []), ([2], [2]), ([3], [3]), ([1, 4], [1, 4]), ([5], [5]), ([], []), ([7], [7]), ([8, 4], [8]), ([6, 9], [6, 9]), ([10, 9, 0, 1, 2, 3, 4, 5, 6, 7, 8, 9, 10], [0, 10])])
def spec_AskText.B14 : List Nat := [0, 1, 0, 4, 12, 31, 63, 0, 128, 412, 1023, 2047]
theorem spec_AskText.tab14 : rtab .any (opsOf Tryz.f23 14) = spec_AskText.T14 := by kernel_rfl
theorem spec_AskText.bits14 : waitsOk spec_AskText.T14.2 spec_AskText.B14 = true := by kernel_rfl
set_option maxHeartbeats 8000000 in
set_option maxRecDepth 100000 in
theorem spec_AskText.calls (k : Nat) (A0 : Option Addr) (c0 : Nat) (l0 : List (S46)) (r1 : ByteArray) (r2 : Bool) (w : World) (hr0 : Kd.C k46 w A0 l0.length l0) (hc0 : l0.length ≤ c0) (h : spec_AskText.f k l0 = some (r1, r2)) :
  Calls Tryz.prog 23 #[.slice A0 l0.length c0] w fun e w' => e = .returned (.tuple #[.string r1, .bool r2]) ∧ Below w.heap.size w w' := by
 have hu46 := Tryz.underlying46
 have HR0 := Aside0.mk hr0
 have HC0 := Aside0.mk hc0
 clear hr0 hc0
 have HB := Aside0.mk (Below.refl w.heap.size w)
 have H : (if (l0.length : Int) > 8 then (some ((⟨#[]⟩ : ByteArray), false)) else (spec_AskText.l0 k l0 (⟨#[]⟩ : ByteArray) 0)) = some (r1, r2) := h
 clear h
 by_cases c2 : (l0.length : Int) > 8
 ·rw [if_pos c2] at H
  have c2b0 : decide (8 < (l0.length : Int)) = true := decide_eq_true c2
  have c2b1 : decide (8 < l0.length) = true := decide_eq_true (by omega)
  clear c2
  simp only [Option.some.injEq, Prod.mk.injEq] at H
  obtain ⟨rfl, rfl⟩ := H
  go_enter Tryz.func23, Tryz.ntmps23
  go_wp2
  go_ret2
  exact ⟨rr_, bw_⟩
 rw [if_neg c2] at H
 have c2b0 : decide (8 < (l0.length : Int)) = false := decide_eq_false c2
 have c2b1 : decide (8 < l0.length) = false := decide_eq_false (by omega)
 clear c2
 have H' := Aside0.mk H
 clear H
 go_enter Tryz.func23, Tryz.ntmps23
 go_wp2
 go_loopg [4, 5] k (fun kq v4 v5 w' => ∃ (x4_1 : ByteArray) (x5_1 : Int), v4 = .string x4_1 ∧ v5 = .int .i64 x5_1 ∧ Aside0 (spec_AskText.l0 kq l0 x4_1 x5_1 = some (r1, r2)) ∧ Aside0 (kq ≤ k) ∧ Aside0 (Below w.heap.size w w'))
 case atStart => exact ⟨((⟨#[]⟩ : ByteArray)), (0), sd_, sd_, H', ⟨Nat.le_refl _⟩, ⟨bw_⟩⟩
 case round =>
  clear H'
  try clear c2
  try clear c2b0
  try clear c2b1
  try clear p2
  obtain ⟨x4_1, x5_1, rfl, rfl, HA, HK1, HB⟩ := hrel
  cases gk with
  | zero => exact absurd HA.out (by simp [spec_AskText.l0])
  | succ k1 =>
   have H := HA.out
   clear HA
   simp only [spec_AskText.l0] at H
   by_cases c3 : x5_1 < (l0.length : Int)
   rotate_left
   ·rw [if_neg c3] at H
    have c3b0 : decide (x5_1 < (l0.length : Int)) = false := decide_eq_false c3
    clear c3
    simp only [Option.some.injEq, Prod.mk.injEq] at H
    obtain ⟨rfl, rfl⟩ := H
    go_wp2
    go_ret2
    exact ⟨rr_, bw_⟩
   rw [if_pos c3] at H
   have c3b0 : decide (x5_1 < (l0.length : Int)) = true := decide_eq_true c3
   clear c3
   by_cases c4 : 0 ≤ x5_1
   rotate_left
   ·rw [if_neg c4] at H
    exact absurd H (by simp)
   rw [if_pos c4] at H
   have c4b0 : decide (0 ≤ x5_1) = true := decide_eq_true c4
   clear c4
   have HC5 := Aside0.mk H
   clear H
   have p1 : 0 ≤ (x5_1 : Int) := od_
   have q1 : x5_1 < (l0.length : Int) := od_
   obtain ⟨ad1, e1, hx1_0, hx1_1, hx1_2, hx1_3⟩ := at_T46 HR0.out x5_1 p1 q1
   cases e1
   replace hx1_0 := (HB.out.cell (World.block_lt_of_cell? w _ hx1_0)).trans hx1_0
   replace hx1_1 := (HB.out.cell (World.block_lt_of_cell? w _ hx1_1)).trans hx1_1
   replace hx1_2 := (HB.out.cell (World.block_lt_of_cell? w _ hx1_2)).trans hx1_2
   replace hx1_3 := (HB.out.cell (World.block_lt_of_cell? w _ hx1_3)).trans hx1_3
   replace p1 := eq_true p1
   replace q1 := eq_true q1
   go_upto_region 8 with (first | ((with_reducible refine gate_dst (N := 6) rfl ?_); refine box_event ?hg (N := 6) ?hd (cs := #[.int .i64 0, .int .i64 0, .int .i64 0, .int .i64 0]) (t := 46) ?hr ?_; (case hd => rfl); (case hg => rfl); (case hr => exact hrr_); intro gb2 hg w6 hbox hb; have n0_ := bs_ hb; have n1_ := Aside0.mk (hbox); have n2_ := ge_ (w := w) hg; have n3_ := ge_ (w := w) hg; clear HB; have HB := n0_; have BK2 := n1_; have GW2 := n2_; have GE2 := n3_; clear n0_ n1_ n2_ n3_; clear hb hbox hg; obtain ⟨hcz7_0, hcz7_1, hcz7_2, hcz7_3, hfz7_0, hfz7_1, hfz7_2, hfz7_3⟩ := bc4_ BK2.out))
   (try simp only [Act.put, List.setIfInBounds_toArray, List.set_cons_zero, List.set_cons_succ])
   go_cut [51] (fun v51 wc => ∃ (kq : Nat) (x51_4 : Bool), v51 = .bool x51_4 ∧ Aside0 (spec_AskText.j1 kq l0 x4_1 x5_1 x51_4 ((rd_T46 l0 x5_1).f0) ((rd_T46 l0 x5_1).f1) ((rd_T46 l0 x5_1).f2) ((rd_T46 l0 x5_1).f3) = some (r1, r2)) ∧ Aside0 (kq ≤ k1) ∧ Aside0 (wc.heap[gb2]? = some (.cells #[.int .i64 ((rd_T46 l0 x5_1).f0), .int .i64 ((rd_T46 l0 x5_1).f1), .int .i64 ((rd_T46 l0 x5_1).f2), .int .i64 ((rd_T46 l0 x5_1).f3)] 46 (0, 0))) ∧ Aside0 (Below w.heap.size w wc))
   case first =>
    have H := HC5.out
    clear HC5
    replace H := Option.bind_eq_some_iff.mp H
    obtain ⟨t3, A80, H⟩ := H
    replace H : (if t3 = true then (if ((rd_T46 l0 x5_1).f0) = 1 then (if ((rd_T46 l0 x5_1).f1) = 0 then ((spec_l01Value.f ((rd_T46 l0 x5_1).f1)).bind fun t4 => (if t4 = true then ((spec_l01Value.f ((rd_T46 l0 x5_1).f2)).bind fun t5 => (if t5 = true then ((spec_l01Value.f ((rd_T46 l0 x5_1).f3)).bind fun t6 => (spec_AskText.j1 k1 l0 x4_1 x5_1 (!t6) ((rd_T46 l0 x5_1).f0) ((rd_T46 l0 x5_1).f1) ((rd_T46 l0 x5_1).f2) ((rd_T46 l0 x5_1).f3))) else (spec_AskText.j1 k1 l0 x4_1 x5_1 true ((rd_T46 l0 x5_1).f0) ((rd_T46 l0 x5_1).f1) ((rd_T46 l0 x5_1).f2) ((rd_T46 l0 x5_1).f3)))) else (spec_AskText.j1 k1 l0 x4_1 x5_1 true ((rd_T46 l0 x5_1).f0) ((rd_T46 l0 x5_1).f1) ((rd_T46 l0 x5_1).f2) ((rd_T46 l0 x5_1).f3)))) else (spec_AskText.j1 k1 l0 x4_1 x5_1 true ((rd_T46 l0 x5_1).f0) ((rd_T46 l0 x5_1).f1) ((rd_T46 l0 x5_1).f2) ((rd_T46 l0 x5_1).f3))) else ((spec_l01Value.f ((rd_T46 l0 x5_1).f1)).bind fun t7 => (if t7 = true then ((spec_l01Value.f ((rd_T46 l0 x5_1).f2)).bind fun t8 => (if t8 = true then ((spec_l01Value.f ((rd_T46 l0 x5_1).f3)).bind fun t9 => (spec_AskText.j1 k1 l0 x4_1 x5_1 (!t9) ((rd_T46 l0 x5_1).f0) ((rd_T46 l0 x5_1).f1) ((rd_T46 l0 x5_1).f2) ((rd_T46 l0 x5_1).f3))) else (spec_AskText.j1 k1 l0 x4_1 x5_1 true ((rd_T46 l0 x5_1).f0) ((rd_T46 l0 x5_1).f1) ((rd_T46 l0 x5_1).f2) ((rd_T46 l0 x5_1).f3)))) else (spec_AskText.j1 k1 l0 x4_1 x5_1 true ((rd_T46 l0 x5_1).f0) ((rd_T46 l0 x5_1).f1) ((rd_T46 l0 x5_1).f2) ((rd_T46 l0 x5_1).f3))))) else (spec_AskText.j1 k1 l0 x4_1 x5_1 true ((rd_T46 l0 x5_1).f0) ((rd_T46 l0 x5_1).f1) ((rd_T46 l0 x5_1).f2) ((rd_T46 l0 x5_1).f3))) = some (r1, r2) := H
    have A8 := Aside0.mk A80
    clear A80
    by_cases c9 : t3 = true
    rotate_left
    ·replace c9 := Bool.eq_false_iff.mpr c9
     subst c9
     have H1 : (spec_AskText.j1 k1 l0 x4_1 x5_1 true ((rd_T46 l0 x5_1).f0) ((rd_T46 l0 x5_1).f1) ((rd_T46 l0 x5_1).f2) ((rd_T46 l0 x5_1).f3)) = some (r1, r2) := by rw [if_neg (show ¬ (false = true) by decide)] at H; exact H
     clear H
     have H := H1
     clear H1
     have H' := Aside0.mk H
     clear H
     obtain ⟨hcz29_0, hcz29_1, hcz29_2, hcz29_3, hfz29_0, hfz29_1, hfz29_2, hfz29_3⟩ := bc4_ BK2.out
     go_wp2_with (first | ((with_reducible refine gate_callee (f := 32) rfl ?_); refine goesL_ (some 22) rfl rfl Tryz.func32 (by kernel_rfl) rfl #[.int .i64 ((rd_T46 l0 x5_1).f0), .int .i64 0, .int .i64 1] rfl ar_ ?_; (with_reducible refine (spec_l01In.calls ((rd_T46 l0 x5_1).f0) 0 1 false _ A8.out).mono ?_); rintro e w' ⟨rfl, ⟨nd, rfl⟩⟩; refine ⟨_, rfl, ?_⟩))
     go_meet
     case rel => exact ⟨_, (true), sd_, H', ⟨by have := HK1.out; first | omega | exact Nat.le_refl _⟩, ⟨by (with_reducible repeat (first | refine blk_drewN ?_ _ | refine blk_drew ?_ | refine blk_alloc ?_ _)); refine blk_put (cs := #[.int .i64 ((rd_T46 l0 x5_1).f0), .int .i64 ((rd_T46 l0 x5_1).f1), .int .i64 ((rd_T46 l0 x5_1).f2), .int .i64 0]) ?_ 3 _ rfl; (with_reducible repeat (first | refine blk_drewN ?_ _ | refine blk_drew ?_ | refine blk_alloc ?_ _)); refine blk_put (cs := #[.int .i64 ((rd_T46 l0 x5_1).f0), .int .i64 ((rd_T46 l0 x5_1).f1), .int .i64 0, .int .i64 0]) ?_ 2 _ rfl; (with_reducible repeat (first | refine blk_drewN ?_ _ | refine blk_drew ?_ | refine blk_alloc ?_ _)); refine blk_put (cs := #[.int .i64 ((rd_T46 l0 x5_1).f0), .int .i64 0, .int .i64 0, .int .i64 0]) ?_ 1 _ rfl; (with_reducible repeat (first | refine blk_drewN ?_ _ | refine blk_drew ?_ | refine blk_alloc ?_ _)); refine blk_put (cs := #[.int .i64 0, .int .i64 0, .int .i64 0, .int .i64 0]) ?_ 0 _ rfl; (with_reducible repeat (first | refine blk_drewN ?_ _ | refine blk_drew ?_ | refine blk_alloc ?_ _)); exact BK2.out⟩, ⟨bw_⟩⟩
    subst c9
    have H1 : (if ((rd_T46 l0 x5_1).f0) = 1 then (if ((rd_T46 l0 x5_1).f1) = 0 then ((spec_l01Value.f ((rd_T46 l0 x5_1).f1)).bind fun t4 => (if t4 = true then ((spec_l01Value.f ((rd_T46 l0 x5_1).f2)).bind fun t5 => (if t5 = true then ((spec_l01Value.f ((rd_T46 l0 x5_1).f3)).bind fun t6 => (spec_AskText.j1 k1 l0 x4_1 x5_1 (!t6) ((rd_T46 l0 x5_1).f0) ((rd_T46 l0 x5_1).f1) ((rd_T46 l0 x5_1).f2) ((rd_T46 l0 x5_1).f3))) else (spec_AskText.j1 k1 l0 x4_1 x5_1 true ((rd_T46 l0 x5_1).f0) ((rd_T46 l0 x5_1).f1) ((rd_T46 l0 x5_1).f2) ((rd_T46 l0 x5_1).f3)))) else (spec_AskText.j1 k1 l0 x4_1 x5_1 true ((rd_T46 l0 x5_1).f0) ((rd_T46 l0 x5_1).f1) ((rd_T46 l0 x5_1).f2) ((rd_T46 l0 x5_1).f3)))) else (spec_AskText.j1 k1 l0 x4_1 x5_1 true ((rd_T46 l0 x5_1).f0) ((rd_T46 l0 x5_1).f1) ((rd_T46 l0 x5_1).f2) ((rd_T46 l0 x5_1).f3))) else ((spec_l01Value.f ((rd_T46 l0 x5_1).f1)).bind fun t7 => (if t7 = true then ((spec_l01Value.f ((rd_T46 l0 x5_1).f2)).bind fun t8 => (if t8 = true then ((spec_l01Value.f ((rd_T46 l0 x5_1).f3)).bind fun t9 => (spec_AskText.j1 k1 l0 x4_1 x5_1 (!t9) ((rd_T46 l0 x5_1).f0) ((rd_T46 l0 x5_1).f1) ((rd_T46 l0 x5_1).f2) ((rd_T46 l0 x5_1).f3))) else (spec_AskText.j1 k1 l0 x4_1 x5_1 true ((rd_T46 l0 x5_1).f0) ((rd_T46 l0 x5_1).f1) ((rd_T46 l0 x5_1).f2) ((rd_T46 l0 x5_1).f3)))) else (spec_AskText.j1 k1 l0 x4_1 x5_1 true ((rd_T46 l0 x5_1).f0) ((rd_T46 l0 x5_1).f1) ((rd_T46 l0 x5_1).f2) ((rd_T46 l0 x5_1).f3))))) = some (r1, r2) := by rw [if_pos rfl] at H; exact H
    clear H
    have H := H1
    clear H1
    by_cases c10 : ((rd_T46 l0 x5_1).f0) = 1
    rotate_left
    ·rw [if_neg c10] at H
     have c10b0 : (((rd_T46 l0 x5_1).f0) == 1) = false := beq_eq_false_iff_ne.mpr c10
     have c10b1 : (((rd_T46 l0 x5_1).f0) != 1) = true := bne_iff_ne.mpr c10
     (first | rw [c10b0] | (simp only [i64_w, i32_w]; rw [c10b0]) | skip)
     replace H := Option.bind_eq_some_iff.mp H
     obtain ⟨t7, A210, H⟩ := H
     replace H : (if t7 = true then ((spec_l01Value.f ((rd_T46 l0 x5_1).f2)).bind fun t8 => (if t8 = true then ((spec_l01Value.f ((rd_T46 l0 x5_1).f3)).bind fun t9 => (spec_AskText.j1 k1 l0 x4_1 x5_1 (!t9) ((rd_T46 l0 x5_1).f0) ((rd_T46 l0 x5_1).f1) ((rd_T46 l0 x5_1).f2) ((rd_T46 l0 x5_1).f3))) else (spec_AskText.j1 k1 l0 x4_1 x5_1 true ((rd_T46 l0 x5_1).f0) ((rd_T46 l0 x5_1).f1) ((rd_T46 l0 x5_1).f2) ((rd_T46 l0 x5_1).f3)))) else (spec_AskText.j1 k1 l0 x4_1 x5_1 true ((rd_T46 l0 x5_1).f0) ((rd_T46 l0 x5_1).f1) ((rd_T46 l0 x5_1).f2) ((rd_T46 l0 x5_1).f3))) = some (r1, r2) := H
     have A21 := Aside0.mk A210
     clear A210
     by_cases c22 : t7 = true
     rotate_left
     ·replace c22 := Bool.eq_false_iff.mpr c22
      subst c22
      have H1 : (spec_AskText.j1 k1 l0 x4_1 x5_1 true ((rd_T46 l0 x5_1).f0) ((rd_T46 l0 x5_1).f1) ((rd_T46 l0 x5_1).f2) ((rd_T46 l0 x5_1).f3)) = some (r1, r2) := by rw [if_neg (show ¬ (false = true) by decide)] at H; exact H
      clear H
      have H := H1
      clear H1
      have H' := Aside0.mk H
      clear H
      obtain ⟨hcz28_0, hcz28_1, hcz28_2, hcz28_3, hfz28_0, hfz28_1, hfz28_2, hfz28_3⟩ := bc4_ BK2.out
      go_wp2_with (first | ((with_reducible refine gate_callee (f := 32) rfl ?_); refine goesL_ (some 22) rfl rfl Tryz.func32 (by kernel_rfl) rfl #[.int .i64 ((rd_T46 l0 x5_1).f0), .int .i64 0, .int .i64 1] rfl ar_ ?_; (with_reducible refine (spec_l01In.calls ((rd_T46 l0 x5_1).f0) 0 1 true _ A8.out).mono ?_); rintro e w' ⟨rfl, ⟨nd, rfl⟩⟩; refine ⟨_, rfl, ?_⟩) | (go_at_call 33; (with_reducible refine (spec_l01Value.calls ((rd_T46 l0 x5_1).f1) false _ A21.out).mono ?_); rintro e w' ⟨rfl, ⟨nd, rfl⟩⟩))
      go_meet
      case rel => exact ⟨_, (true), sd_, H', ⟨by have := HK1.out; first | omega | exact Nat.le_refl _⟩, ⟨by (with_reducible repeat (first | refine blk_drewN ?_ _ | refine blk_drew ?_ | refine blk_alloc ?_ _)); refine blk_put (cs := #[.int .i64 ((rd_T46 l0 x5_1).f0), .int .i64 ((rd_T46 l0 x5_1).f1), .int .i64 ((rd_T46 l0 x5_1).f2), .int .i64 0]) ?_ 3 _ rfl; (with_reducible repeat (first | refine blk_drewN ?_ _ | refine blk_drew ?_ | refine blk_alloc ?_ _)); refine blk_put (cs := #[.int .i64 ((rd_T46 l0 x5_1).f0), .int .i64 ((rd_T46 l0 x5_1).f1), .int .i64 0, .int .i64 0]) ?_ 2 _ rfl; (with_reducible repeat (first | refine blk_drewN ?_ _ | refine blk_drew ?_ | refine blk_alloc ?_ _)); refine blk_put (cs := #[.int .i64 ((rd_T46 l0 x5_1).f0), .int .i64 0, .int .i64 0, .int .i64 0]) ?_ 1 _ rfl; (with_reducible repeat (first | refine blk_drewN ?_ _ | refine blk_drew ?_ | refine blk_alloc ?_ _)); refine blk_put (cs := #[.int .i64 0, .int .i64 0, .int .i64 0, .int .i64 0]) ?_ 0 _ rfl; (with_reducible repeat (first | refine blk_drewN ?_ _ | refine blk_drew ?_ | refine blk_alloc ?_ _)); exact BK2.out⟩, ⟨bw_⟩⟩
     subst c22
     have H1 : ((spec_l01Value.f ((rd_T46 l0 x5_1).f2)).bind fun t8 => (if t8 = true then ((spec_l01Value.f ((rd_T46 l0 x5_1).f3)).bind fun t9 => (spec_AskText.j1 k1 l0 x4_1 x5_1 (!t9) ((rd_T46 l0 x5_1).f0) ((rd_T46 l0 x5_1).f1) ((rd_T46 l0 x5_1).f2) ((rd_T46 l0 x5_1).f3))) else (spec_AskText.j1 k1 l0 x4_1 x5_1 true ((rd_T46 l0 x5_1).f0) ((rd_T46 l0 x5_1).f1) ((rd_T46 l0 x5_1).f2) ((rd_T46 l0 x5_1).f3)))) = some (r1, r2) := by rw [if_pos rfl] at H; exact H
     clear H
     have H := H1
     clear H1
     replace H := Option.bind_eq_some_iff.mp H
     obtain ⟨t8, A230, H⟩ := H
     replace H : (if t8 = true then ((spec_l01Value.f ((rd_T46 l0 x5_1).f3)).bind fun t9 => (spec_AskText.j1 k1 l0 x4_1 x5_1 (!t9) ((rd_T46 l0 x5_1).f0) ((rd_T46 l0 x5_1).f1) ((rd_T46 l0 x5_1).f2) ((rd_T46 l0 x5_1).f3))) else (spec_AskText.j1 k1 l0 x4_1 x5_1 true ((rd_T46 l0 x5_1).f0) ((rd_T46 l0 x5_1).f1) ((rd_T46 l0 x5_1).f2) ((rd_T46 l0 x5_1).f3))) = some (r1, r2) := H
     have A23 := Aside0.mk A230
     clear A230
     by_cases c24 : t8 = true
     rotate_left
     ·replace c24 := Bool.eq_false_iff.mpr c24
      subst c24
      have H1 : (spec_AskText.j1 k1 l0 x4_1 x5_1 true ((rd_T46 l0 x5_1).f0) ((rd_T46 l0 x5_1).f1) ((rd_T46 l0 x5_1).f2) ((rd_T46 l0 x5_1).f3)) = some (r1, r2) := by rw [if_neg (show ¬ (false = true) by decide)] at H; exact H
      clear H
      have H := H1
      clear H1
      have H' := Aside0.mk H
      clear H
      obtain ⟨hcz27_0, hcz27_1, hcz27_2, hcz27_3, hfz27_0, hfz27_1, hfz27_2, hfz27_3⟩ := bc4_ BK2.out
      go_wp2_with (first | ((with_reducible refine gate_callee (f := 32) rfl ?_); refine goesL_ (some 22) rfl rfl Tryz.func32 (by kernel_rfl) rfl #[.int .i64 ((rd_T46 l0 x5_1).f0), .int .i64 0, .int .i64 1] rfl ar_ ?_; (with_reducible refine (spec_l01In.calls ((rd_T46 l0 x5_1).f0) 0 1 true _ A8.out).mono ?_); rintro e w' ⟨rfl, ⟨nd, rfl⟩⟩; refine ⟨_, rfl, ?_⟩) | (go_at_call 33; (with_reducible refine (spec_l01Value.calls ((rd_T46 l0 x5_1).f1) true _ A21.out).mono ?_); rintro e w' ⟨rfl, ⟨nd, rfl⟩⟩) | (go_at_call 33; (with_reducible refine (spec_l01Value.calls ((rd_T46 l0 x5_1).f2) false _ A23.out).mono ?_); rintro e w' ⟨rfl, ⟨nd, rfl⟩⟩))
      go_meet
      case rel => exact ⟨_, (true), sd_, H', ⟨by have := HK1.out; first | omega | exact Nat.le_refl _⟩, ⟨by (with_reducible repeat (first | refine blk_drewN ?_ _ | refine blk_drew ?_ | refine blk_alloc ?_ _)); refine blk_put (cs := #[.int .i64 ((rd_T46 l0 x5_1).f0), .int .i64 ((rd_T46 l0 x5_1).f1), .int .i64 ((rd_T46 l0 x5_1).f2), .int .i64 0]) ?_ 3 _ rfl; (with_reducible repeat (first | refine blk_drewN ?_ _ | refine blk_drew ?_ | refine blk_alloc ?_ _)); refine blk_put (cs := #[.int .i64 ((rd_T46 l0 x5_1).f0), .int .i64 ((rd_T46 l0 x5_1).f1), .int .i64 0, .int .i64 0]) ?_ 2 _ rfl; (with_reducible repeat (first | refine blk_drewN ?_ _ | refine blk_drew ?_ | refine blk_alloc ?_ _)); refine blk_put (cs := #[.int .i64 ((rd_T46 l0 x5_1).f0), .int .i64 0, .int .i64 0, .int .i64 0]) ?_ 1 _ rfl; (with_reducible repeat (first | refine blk_drewN ?_ _ | refine blk_drew ?_ | refine blk_alloc ?_ _)); refine blk_put (cs := #[.int .i64 0, .int .i64 0, .int .i64 0, .int .i64 0]) ?_ 0 _ rfl; (with_reducible repeat (first | refine blk_drewN ?_ _ | refine blk_drew ?_ | refine blk_alloc ?_ _)); exact BK2.out⟩, ⟨bw_⟩⟩
     subst c24
     have H1 : ((spec_l01Value.f ((rd_T46 l0 x5_1).f3)).bind fun t9 => (spec_AskText.j1 k1 l0 x4_1 x5_1 (!t9) ((rd_T46 l0 x5_1).f0) ((rd_T46 l0 x5_1).f1) ((rd_T46 l0 x5_1).f2) ((rd_T46 l0 x5_1).f3))) = some (r1, r2) := by rw [if_pos rfl] at H; exact H
     clear H
     have H := H1
     clear H1
     replace H := Option.bind_eq_some_iff.mp H
     obtain ⟨t9, A250, H⟩ := H
     replace H : (spec_AskText.j1 k1 l0 x4_1 x5_1 (!t9) ((rd_T46 l0 x5_1).f0) ((rd_T46 l0 x5_1).f1) ((rd_T46 l0 x5_1).f2) ((rd_T46 l0 x5_1).f3)) = some (r1, r2) := H
     have A25 := Aside0.mk A250
     clear A250
     have H' := Aside0.mk H
     clear H
     obtain ⟨hcz26_0, hcz26_1, hcz26_2, hcz26_3, hfz26_0, hfz26_1, hfz26_2, hfz26_3⟩ := bc4_ BK2.out
     go_wp2_with (first | ((with_reducible refine gate_callee (f := 32) rfl ?_); refine goesL_ (some 22) rfl rfl Tryz.func32 (by kernel_rfl) rfl #[.int .i64 ((rd_T46 l0 x5_1).f0), .int .i64 0, .int .i64 1] rfl ar_ ?_; (with_reducible refine (spec_l01In.calls ((rd_T46 l0 x5_1).f0) 0 1 true _ A8.out).mono ?_); rintro e w' ⟨rfl, ⟨nd, rfl⟩⟩; refine ⟨_, rfl, ?_⟩) | (go_at_call 33; (with_reducible refine (spec_l01Value.calls ((rd_T46 l0 x5_1).f1) true _ A21.out).mono ?_); rintro e w' ⟨rfl, ⟨nd, rfl⟩⟩) | (go_at_call 33; (with_reducible refine (spec_l01Value.calls ((rd_T46 l0 x5_1).f2) true _ A23.out).mono ?_); rintro e w' ⟨rfl, ⟨nd, rfl⟩⟩) | (go_at_call 33; (with_reducible refine (spec_l01Value.calls ((rd_T46 l0 x5_1).f3) t9 _ A25.out).mono ?_); rintro e w' ⟨rfl, ⟨nd, rfl⟩⟩))
     go_meet
     case rel => exact ⟨_, (!t9), sd_, H', ⟨by have := HK1.out; first | omega | exact Nat.le_refl _⟩, ⟨by (with_reducible repeat (first | refine blk_drewN ?_ _ | refine blk_drew ?_ | refine blk_alloc ?_ _)); refine blk_put (cs := #[.int .i64 ((rd_T46 l0 x5_1).f0), .int .i64 ((rd_T46 l0 x5_1).f1), .int .i64 ((rd_T46 l0 x5_1).f2), .int .i64 0]) ?_ 3 _ rfl; (with_reducible repeat (first | refine blk_drewN ?_ _ | refine blk_drew ?_ | refine blk_alloc ?_ _)); refine blk_put (cs := #[.int .i64 ((rd_T46 l0 x5_1).f0), .int .i64 ((rd_T46 l0 x5_1).f1), .int .i64 0, .int .i64 0]) ?_ 2 _ rfl; (with_reducible repeat (first | refine blk_drewN ?_ _ | refine blk_drew ?_ | refine blk_alloc ?_ _)); refine blk_put (cs := #[.int .i64 ((rd_T46 l0 x5_1).f0), .int .i64 0, .int .i64 0, .int .i64 0]) ?_ 1 _ rfl; (with_reducible repeat (first | refine blk_drewN ?_ _ | refine blk_drew ?_ | refine blk_alloc ?_ _)); refine blk_put (cs := #[.int .i64 0, .int .i64 0, .int .i64 0, .int .i64 0]) ?_ 0 _ rfl; (with_reducible repeat (first | refine blk_drewN ?_ _ | refine blk_drew ?_ | refine blk_alloc ?_ _)); exact BK2.out⟩, ⟨bw_⟩⟩
    rw [if_pos c10] at H
    have c10b0 : (((rd_T46 l0 x5_1).f0) == 1) = true := beq_iff_eq.mpr c10
    have c10b1 : (((rd_T46 l0 x5_1).f0) != 1) = false := bne_eq_false_iff_eq.mpr c10
    clear c10
    (first | rw [c10b0] | (simp only [i64_w, i32_w]; rw [c10b0]) | skip)
    by_cases c11 : ((rd_T46 l0 x5_1).f1) = 0
    rotate_left
    ·rw [if_neg c11] at H
     have c11b0 : (((rd_T46 l0 x5_1).f1) == 0) = false := beq_eq_false_iff_ne.mpr c11
     have c11b1 : (((rd_T46 l0 x5_1).f1) != 0) = true := bne_iff_ne.mpr c11
     have H' := Aside0.mk H
     clear H
     obtain ⟨hcz20_0, hcz20_1, hcz20_2, hcz20_3, hfz20_0, hfz20_1, hfz20_2, hfz20_3⟩ := bc4_ BK2.out
     go_wp2_with (first | ((with_reducible refine gate_callee (f := 32) rfl ?_); refine goesL_ (some 22) rfl rfl Tryz.func32 (by kernel_rfl) rfl #[.int .i64 ((rd_T46 l0 x5_1).f0), .int .i64 0, .int .i64 1] rfl ar_ ?_; (with_reducible refine (spec_l01In.calls ((rd_T46 l0 x5_1).f0) 0 1 true _ A8.out).mono ?_); rintro e w' ⟨rfl, ⟨nd, rfl⟩⟩; refine ⟨_, rfl, ?_⟩))
     go_meet
     case rel => exact ⟨_, (true), sd_, H', ⟨by have := HK1.out; first | omega | exact Nat.le_refl _⟩, ⟨by (with_reducible repeat (first | refine blk_drewN ?_ _ | refine blk_drew ?_ | refine blk_alloc ?_ _)); refine blk_put (cs := #[.int .i64 ((rd_T46 l0 x5_1).f0), .int .i64 ((rd_T46 l0 x5_1).f1), .int .i64 ((rd_T46 l0 x5_1).f2), .int .i64 0]) ?_ 3 _ rfl; (with_reducible repeat (first | refine blk_drewN ?_ _ | refine blk_drew ?_ | refine blk_alloc ?_ _)); refine blk_put (cs := #[.int .i64 ((rd_T46 l0 x5_1).f0), .int .i64 ((rd_T46 l0 x5_1).f1), .int .i64 0, .int .i64 0]) ?_ 2 _ rfl; (with_reducible repeat (first | refine blk_drewN ?_ _ | refine blk_drew ?_ | refine blk_alloc ?_ _)); refine blk_put (cs := #[.int .i64 ((rd_T46 l0 x5_1).f0), .int .i64 0, .int .i64 0, .int .i64 0]) ?_ 1 _ rfl; (with_reducible repeat (first | refine blk_drewN ?_ _ | refine blk_drew ?_ | refine blk_alloc ?_ _)); refine blk_put (cs := #[.int .i64 0, .int .i64 0, .int .i64 0, .int .i64 0]) ?_ 0 _ rfl; (with_reducible repeat (first | refine blk_drewN ?_ _ | refine blk_drew ?_ | refine blk_alloc ?_ _)); exact BK2.out⟩, ⟨bw_⟩⟩
    rw [if_pos c11] at H
    have c11b0 : (((rd_T46 l0 x5_1).f1) == 0) = true := beq_iff_eq.mpr c11
    have c11b1 : (((rd_T46 l0 x5_1).f1) != 0) = false := bne_eq_false_iff_eq.mpr c11
    clear c11
    replace H := Option.bind_eq_some_iff.mp H
    obtain ⟨t4, A120, H⟩ := H
    replace H : (if t4 = true then ((spec_l01Value.f ((rd_T46 l0 x5_1).f2)).bind fun t5 => (if t5 = true then ((spec_l01Value.f ((rd_T46 l0 x5_1).f3)).bind fun t6 => (spec_AskText.j1 k1 l0 x4_1 x5_1 (!t6) ((rd_T46 l0 x5_1).f0) ((rd_T46 l0 x5_1).f1) ((rd_T46 l0 x5_1).f2) ((rd_T46 l0 x5_1).f3))) else (spec_AskText.j1 k1 l0 x4_1 x5_1 true ((rd_T46 l0 x5_1).f0) ((rd_T46 l0 x5_1).f1) ((rd_T46 l0 x5_1).f2) ((rd_T46 l0 x5_1).f3)))) else (spec_AskText.j1 k1 l0 x4_1 x5_1 true ((rd_T46 l0 x5_1).f0) ((rd_T46 l0 x5_1).f1) ((rd_T46 l0 x5_1).f2) ((rd_T46 l0 x5_1).f3))) = some (r1, r2) := H
    have A12 := Aside0.mk A120
    clear A120
    by_cases c13 : t4 = true
    rotate_left
    ·replace c13 := Bool.eq_false_iff.mpr c13
     subst c13
     have H1 : (spec_AskText.j1 k1 l0 x4_1 x5_1 true ((rd_T46 l0 x5_1).f0) ((rd_T46 l0 x5_1).f1) ((rd_T46 l0 x5_1).f2) ((rd_T46 l0 x5_1).f3)) = some (r1, r2) := by rw [if_neg (show ¬ (false = true) by decide)] at H; exact H
     clear H
     have H := H1
     clear H1
     have H' := Aside0.mk H
     clear H
     obtain ⟨hcz19_0, hcz19_1, hcz19_2, hcz19_3, hfz19_0, hfz19_1, hfz19_2, hfz19_3⟩ := bc4_ BK2.out
     go_wp2_with (first | ((with_reducible refine gate_callee (f := 32) rfl ?_); refine goesL_ (some 22) rfl rfl Tryz.func32 (by kernel_rfl) rfl #[.int .i64 ((rd_T46 l0 x5_1).f0), .int .i64 0, .int .i64 1] rfl ar_ ?_; (with_reducible refine (spec_l01In.calls ((rd_T46 l0 x5_1).f0) 0 1 true _ A8.out).mono ?_); rintro e w' ⟨rfl, ⟨nd, rfl⟩⟩; refine ⟨_, rfl, ?_⟩) | (go_at_call 33; (with_reducible refine (spec_l01Value.calls ((rd_T46 l0 x5_1).f1) false _ A12.out).mono ?_); rintro e w' ⟨rfl, ⟨nd, rfl⟩⟩))
     go_meet
     case rel => exact ⟨_, (true), sd_, H', ⟨by have := HK1.out; first | omega | exact Nat.le_refl _⟩, ⟨by (with_reducible repeat (first | refine blk_drewN ?_ _ | refine blk_drew ?_ | refine blk_alloc ?_ _)); refine blk_put (cs := #[.int .i64 ((rd_T46 l0 x5_1).f0), .int .i64 ((rd_T46 l0 x5_1).f1), .int .i64 ((rd_T46 l0 x5_1).f2), .int .i64 0]) ?_ 3 _ rfl; (with_reducible repeat (first | refine blk_drewN ?_ _ | refine blk_drew ?_ | refine blk_alloc ?_ _)); refine blk_put (cs := #[.int .i64 ((rd_T46 l0 x5_1).f0), .int .i64 ((rd_T46 l0 x5_1).f1), .int .i64 0, .int .i64 0]) ?_ 2 _ rfl; (with_reducible repeat (first | refine blk_drewN ?_ _ | refine blk_drew ?_ | refine blk_alloc ?_ _)); refine blk_put (cs := #[.int .i64 ((rd_T46 l0 x5_1).f0), .int .i64 0, .int .i64 0, .int .i64 0]) ?_ 1 _ rfl; (with_reducible repeat (first | refine blk_drewN ?_ _ | refine blk_drew ?_ | refine blk_alloc ?_ _)); refine blk_put (cs := #[.int .i64 0, .int .i64 0, .int .i64 0, .int .i64 0]) ?_ 0 _ rfl; (with_reducible repeat (first | refine blk_drewN ?_ _ | refine blk_drew ?_ | refine blk_alloc ?_ _)); exact BK2.out⟩, ⟨bw_⟩⟩
    subst c13
    have H1 : ((spec_l01Value.f ((rd_T46 l0 x5_1).f2)).bind fun t5 => (if t5 = true then ((spec_l01Value.f ((rd_T46 l0 x5_1).f3)).bind fun t6 => (spec_AskText.j1 k1 l0 x4_1 x5_1 (!t6) ((rd_T46 l0 x5_1).f0) ((rd_T46 l0 x5_1).f1) ((rd_T46 l0 x5_1).f2) ((rd_T46 l0 x5_1).f3))) else (spec_AskText.j1 k1 l0 x4_1 x5_1 true ((rd_T46 l0 x5_1).f0) ((rd_T46 l0 x5_1).f1) ((rd_T46 l0 x5_1).f2) ((rd_T46 l0 x5_1).f3)))) = some (r1, r2) := by rw [if_pos rfl] at H; exact H
    clear H
    have H := H1
    clear H1
    replace H := Option.bind_eq_some_iff.mp H
    obtain ⟨t5, A140, H⟩ := H
    replace H : (if t5 = true then ((spec_l01Value.f ((rd_T46 l0 x5_1).f3)).bind fun t6 => (spec_AskText.j1 k1 l0 x4_1 x5_1 (!t6) ((rd_T46 l0 x5_1).f0) ((rd_T46 l0 x5_1).f1) ((rd_T46 l0 x5_1).f2) ((rd_T46 l0 x5_1).f3))) else (spec_AskText.j1 k1 l0 x4_1 x5_1 true ((rd_T46 l0 x5_1).f0) ((rd_T46 l0 x5_1).f1) ((rd_T46 l0 x5_1).f2) ((rd_T46 l0 x5_1).f3))) = some (r1, r2) := H
    have A14 := Aside0.mk A140
    clear A140
    by_cases c15 : t5 = true
    rotate_left
    ·replace c15 := Bool.eq_false_iff.mpr c15
     subst c15
     have H1 : (spec_AskText.j1 k1 l0 x4_1 x5_1 true ((rd_T46 l0 x5_1).f0) ((rd_T46 l0 x5_1).f1) ((rd_T46 l0 x5_1).f2) ((rd_T46 l0 x5_1).f3)) = some (r1, r2) := by rw [if_neg (show ¬ (false = true) by decide)] at H; exact H
     clear H
     have H := H1
     clear H1
     have H' := Aside0.mk H
     clear H
     obtain ⟨hcz18_0, hcz18_1, hcz18_2, hcz18_3, hfz18_0, hfz18_1, hfz18_2, hfz18_3⟩ := bc4_ BK2.out
     go_wp2_with (first | ((with_reducible refine gate_callee (f := 32) rfl ?_); refine goesL_ (some 22) rfl rfl Tryz.func32 (by kernel_rfl) rfl #[.int .i64 ((rd_T46 l0 x5_1).f0), .int .i64 0, .int .i64 1] rfl ar_ ?_; (with_reducible refine (spec_l01In.calls ((rd_T46 l0 x5_1).f0) 0 1 true _ A8.out).mono ?_); rintro e w' ⟨rfl, ⟨nd, rfl⟩⟩; refine ⟨_, rfl, ?_⟩) | (go_at_call 33; (with_reducible refine (spec_l01Value.calls ((rd_T46 l0 x5_1).f1) true _ A12.out).mono ?_); rintro e w' ⟨rfl, ⟨nd, rfl⟩⟩) | (go_at_call 33; (with_reducible refine (spec_l01Value.calls ((rd_T46 l0 x5_1).f2) false _ A14.out).mono ?_); rintro e w' ⟨rfl, ⟨nd, rfl⟩⟩))
     go_meet
     case rel => exact ⟨_, (true), sd_, H', ⟨by have := HK1.out; first | omega | exact Nat.le_refl _⟩, ⟨by (with_reducible repeat (first | refine blk_drewN ?_ _ | refine blk_drew ?_ | refine blk_alloc ?_ _)); refine blk_put (cs := #[.int .i64 ((rd_T46 l0 x5_1).f0), .int .i64 ((rd_T46 l0 x5_1).f1), .int .i64 ((rd_T46 l0 x5_1).f2), .int .i64 0]) ?_ 3 _ rfl; (with_reducible repeat (first | refine blk_drewN ?_ _ | refine blk_drew ?_ | refine blk_alloc ?_ _)); refine blk_put (cs := #[.int .i64 ((rd_T46 l0 x5_1).f0), .int .i64 ((rd_T46 l0 x5_1).f1), .int .i64 0, .int .i64 0]) ?_ 2 _ rfl; (with_reducible repeat (first | refine blk_drewN ?_ _ | refine blk_drew ?_ | refine blk_alloc ?_ _)); refine blk_put (cs := #[.int .i64 ((rd_T46 l0 x5_1).f0), .int .i64 0, .int .i64 0, .int .i64 0]) ?_ 1 _ rfl; (with_reducible repeat (first | refine blk_drewN ?_ _ | refine blk_drew ?_ | refine blk_alloc ?_ _)); refine blk_put (cs := #[.int .i64 0, .int .i64 0, .int .i64 0, .int .i64 0]) ?_ 0 _ rfl; (with_reducible repeat (first | refine blk_drewN ?_ _ | refine blk_drew ?_ | refine blk_alloc ?_ _)); exact BK2.out⟩, ⟨bw_⟩⟩
    subst c15
    have H1 : ((spec_l01Value.f ((rd_T46 l0 x5_1).f3)).bind fun t6 => (spec_AskText.j1 k1 l0 x4_1 x5_1 (!t6) ((rd_T46 l0 x5_1).f0) ((rd_T46 l0 x5_1).f1) ((rd_T46 l0 x5_1).f2) ((rd_T46 l0 x5_1).f3))) = some (r1, r2) := by rw [if_pos rfl] at H; exact H
    clear H
    have H := H1
    clear H1
    replace H := Option.bind_eq_some_iff.mp H
    obtain ⟨t6, A160, H⟩ := H
    replace H : (spec_AskText.j1 k1 l0 x4_1 x5_1 (!t6) ((rd_T46 l0 x5_1).f0) ((rd_T46 l0 x5_1).f1) ((rd_T46 l0 x5_1).f2) ((rd_T46 l0 x5_1).f3)) = some (r1, r2) := H
    have A16 := Aside0.mk A160
    clear A160
    have H' := Aside0.mk H
    clear H
    obtain ⟨hcz17_0, hcz17_1, hcz17_2, hcz17_3, hfz17_0, hfz17_1, hfz17_2, hfz17_3⟩ := bc4_ BK2.out
    go_wp2_with (first | ((with_reducible refine gate_callee (f := 32) rfl ?_); refine goesL_ (some 22) rfl rfl Tryz.func32 (by kernel_rfl) rfl #[.int .i64 ((rd_T46 l0 x5_1).f0), .int .i64 0, .int .i64 1] rfl ar_ ?_; (with_reducible refine (spec_l01In.calls ((rd_T46 l0 x5_1).f0) 0 1 true _ A8.out).mono ?_); rintro e w' ⟨rfl, ⟨nd, rfl⟩⟩; refine ⟨_, rfl, ?_⟩) | (go_at_call 33; (with_reducible refine (spec_l01Value.calls ((rd_T46 l0 x5_1).f1) true _ A12.out).mono ?_); rintro e w' ⟨rfl, ⟨nd, rfl⟩⟩) | (go_at_call 33; (with_reducible refine (spec_l01Value.calls ((rd_T46 l0 x5_1).f2) true _ A14.out).mono ?_); rintro e w' ⟨rfl, ⟨nd, rfl⟩⟩) | (go_at_call 33; (with_reducible refine (spec_l01Value.calls ((rd_T46 l0 x5_1).f3) t6 _ A16.out).mono ?_); rintro e w' ⟨rfl, ⟨nd, rfl⟩⟩))
    go_meet
    case rel => exact ⟨_, (!t6), sd_, H', ⟨by have := HK1.out; first | omega | exact Nat.le_refl _⟩, ⟨by (with_reducible repeat (first | refine blk_drewN ?_ _ | refine blk_drew ?_ | refine blk_alloc ?_ _)); refine blk_put (cs := #[.int .i64 ((rd_T46 l0 x5_1).f0), .int .i64 ((rd_T46 l0 x5_1).f1), .int .i64 ((rd_T46 l0 x5_1).f2), .int .i64 0]) ?_ 3 _ rfl; (with_reducible repeat (first | refine blk_drewN ?_ _ | refine blk_drew ?_ | refine blk_alloc ?_ _)); refine blk_put (cs := #[.int .i64 ((rd_T46 l0 x5_1).f0), .int .i64 ((rd_T46 l0 x5_1).f1), .int .i64 0, .int .i64 0]) ?_ 2 _ rfl; (with_reducible repeat (first | refine blk_drewN ?_ _ | refine blk_drew ?_ | refine blk_alloc ?_ _)); refine blk_put (cs := #[.int .i64 ((rd_T46 l0 x5_1).f0), .int .i64 0, .int .i64 0, .int .i64 0]) ?_ 1 _ rfl; (with_reducible repeat (first | refine blk_drewN ?_ _ | refine blk_drew ?_ | refine blk_alloc ?_ _)); refine blk_put (cs := #[.int .i64 0, .int .i64 0, .int .i64 0, .int .i64 0]) ?_ 0 _ rfl; (with_reducible repeat (first | refine blk_drewN ?_ _ | refine blk_drew ?_ | refine blk_alloc ?_ _)); exact BK2.out⟩, ⟨bw_⟩⟩
   case rest =>
    clear HC5
    try clear c1
    try clear p1
    try clear q1
    try clear hx1
    try clear c2
    try clear c2b0
    try clear c2b1
    try clear p2
    try clear c3
    try clear c3b0
    try clear c4
    try clear c4b0
    try clear c9
    try clear c10
    try clear c10b0
    try clear c10b1
    try clear c11
    try clear c11b0
    try clear c11b1
    try clear c13
    try clear c15
    try clear c22
    try clear c23
    try clear c24
    try clear hcz17_0 hcz17_1 hcz17_2 hcz17_3
    try clear hcz18_0 hcz18_1 hcz18_2 hcz18_3
    try clear hcz19_0 hcz19_1 hcz19_2 hcz19_3
    try clear hcz20_0 hcz20_1 hcz20_2 hcz20_3
    try clear hcz26_0 hcz26_1 hcz26_2 hcz26_3
    try clear hcz27_0 hcz27_1 hcz27_2 hcz27_3
    try clear hcz28_0 hcz28_1 hcz28_2 hcz28_3
    try clear hcz29_0 hcz29_1 hcz29_2 hcz29_3
    try clear hcz7_0 hcz7_1 hcz7_2 hcz7_3
    try clear hfz17_0 hfz17_1 hfz17_2 hfz17_3
    try clear hfz18_0 hfz18_1 hfz18_2 hfz18_3
    try clear hfz19_0 hfz19_1 hfz19_2 hfz19_3
    try clear hfz20_0 hfz20_1 hfz20_2 hfz20_3
    try clear hfz26_0 hfz26_1 hfz26_2 hfz26_3
    try clear hfz27_0 hfz27_1 hfz27_2 hfz27_3
    try clear hfz28_0 hfz28_1 hfz28_2 hfz28_3
    try clear hfz29_0 hfz29_1 hfz29_2 hfz29_3
    try clear hfz7_0 hfz7_1 hfz7_2 hfz7_3
    try clear hx1_0
    try clear hx1_1
    try clear hx1_2
    try clear hx1_3
    try clear p1
    try clear p2
    try clear q1
    obtain ⟨kq, x51_4, rfl, HA, HJ4, BK2, HB⟩ := hcut
    cases kq with
    | zero => exact absurd HA.out (by simp [spec_AskText.j1])
    | succ kj4 =>
     have H := HA.out
     clear HA
     simp only [spec_AskText.j1] at H
     by_cases c30 : x51_4 = true
     ·subst c30
      have H1 : (some ((⟨#[]⟩ : ByteArray), false)) = some (r1, r2) := by rw [if_pos rfl] at H; exact H
      clear H
      have H := H1
      clear H1
      simp only [Option.some.injEq, Prod.mk.injEq] at H
      obtain ⟨rfl, rfl⟩ := H
      go_wp2
      go_ret2
      exact ⟨rr_, bw_⟩
     replace c30 := Bool.eq_false_iff.mpr c30
     subst c30
     have H1 : (if x5_1 > 0 then (if x4_1.size + 3 ≤ 9223372036854775807 then (spec_AskText.j2 kj4 l0 (x4_1 ++ (⟨#[32, 38, 32]⟩ : ByteArray)) x5_1 ((rd_T46 l0 x5_1).f0) ((rd_T46 l0 x5_1).f1) ((rd_T46 l0 x5_1).f2) ((rd_T46 l0 x5_1).f3)) else (none)) else (spec_AskText.j2 kj4 l0 x4_1 x5_1 ((rd_T46 l0 x5_1).f0) ((rd_T46 l0 x5_1).f1) ((rd_T46 l0 x5_1).f2) ((rd_T46 l0 x5_1).f3))) = some (r1, r2) := by rw [if_neg (show ¬ (false = true) by decide)] at H; exact H
     clear H
     have H := H1
     clear H1
     have HC31 := Aside0.mk H
     clear H
     go_upto_if 53 with (fail)
     go_cut [4] (fun v4 wc => ∃ (kq : Nat) (x4_30 : ByteArray), v4 = .string x4_30 ∧ Aside0 (spec_AskText.j2 kq l0 x4_30 x5_1 ((rd_T46 l0 x5_1).f0) ((rd_T46 l0 x5_1).f1) ((rd_T46 l0 x5_1).f2) ((rd_T46 l0 x5_1).f3) = some (r1, r2)) ∧ Aside0 (kq ≤ kj4) ∧ Aside0 (wc.heap[gb2]? = some (.cells #[.int .i64 ((rd_T46 l0 x5_1).f0), .int .i64 ((rd_T46 l0 x5_1).f1), .int .i64 ((rd_T46 l0 x5_1).f2), .int .i64 ((rd_T46 l0 x5_1).f3)] 46 (0, 0))) ∧ Aside0 (Below w.heap.size w wc))
     case first =>
      have H := HC31.out
      clear HC31
      by_cases c32 : x5_1 > 0
      rotate_left
      ·rw [if_neg c32] at H
       have c32b0 : decide (0 < x5_1) = false := decide_eq_false c32
       clear c32
       (first | rw [c32b0] | (simp only [i64_w, i32_w]; rw [c32b0]) | skip)
       have H' := Aside0.mk H
       clear H
       go_wp2
       go_meet
       case rel => exact ⟨_, (x4_1), sd_, H', ⟨by have := HK1.out; have := HJ4.out; first | omega | exact Nat.le_refl _⟩, ⟨bk_⟩, ⟨bw_⟩⟩
      rw [if_pos c32] at H
      have c32b0 : decide (0 < x5_1) = true := decide_eq_true c32
      clear c32
      (first | rw [c32b0] | (simp only [i64_w, i32_w]; rw [c32b0]) | skip)
      by_cases c33 : x4_1.size + 3 ≤ 9223372036854775807
      rotate_left
      ·rw [if_neg c33] at H
       exact absurd H (by simp)
      rw [if_pos c33] at H
      have c33b0 := eq_true c33
      have c33b1 : decide (x4_1.size + 3 ≤ 9223372036854775807) = true := decide_eq_true c33
      try have c33b2 : (9223372036854775807 < x4_1.size + 3) = False := eq_false (Nat.not_lt.2 c33)
      have H' := Aside0.mk H
      clear H
      go_wp2
      go_meet
      case rel => exact ⟨_, (x4_1 ++ (⟨#[32, 38, 32]⟩ : ByteArray)), sd_, H', ⟨by have := HK1.out; have := HJ4.out; first | omega | exact Nat.le_refl _⟩, ⟨bk_⟩, ⟨bw_⟩⟩
     case rest =>
      clear HC31
      try clear c1
      try clear p1
      try clear q1
      try clear hx1
      try clear c2
      try clear c2b0
      try clear c2b1
      try clear p2
      try clear c3
      try clear c3b0
      try clear c4
      try clear c4b0
      try clear c9
      try clear c10
      try clear c10b0
      try clear c10b1
      try clear c11
      try clear c11b0
      try clear c11b1
      try clear c13
      try clear c15
      try clear c22
      try clear c23
      try clear c24
      try clear c30
      try clear c32
      try clear c32b0
      try clear c33
      try clear c33b0
      try clear c33b1
      try clear c33b2
      try clear hcz17_0 hcz17_1 hcz17_2 hcz17_3
      try clear hcz18_0 hcz18_1 hcz18_2 hcz18_3
      try clear hcz19_0 hcz19_1 hcz19_2 hcz19_3
      try clear hcz20_0 hcz20_1 hcz20_2 hcz20_3
      try clear hcz26_0 hcz26_1 hcz26_2 hcz26_3
      try clear hcz27_0 hcz27_1 hcz27_2 hcz27_3
      try clear hcz28_0 hcz28_1 hcz28_2 hcz28_3
      try clear hcz29_0 hcz29_1 hcz29_2 hcz29_3
      try clear hcz7_0 hcz7_1 hcz7_2 hcz7_3
      try clear hfz17_0 hfz17_1 hfz17_2 hfz17_3
      try clear hfz18_0 hfz18_1 hfz18_2 hfz18_3
      try clear hfz19_0 hfz19_1 hfz19_2 hfz19_3
      try clear hfz20_0 hfz20_1 hfz20_2 hfz20_3
      try clear hfz26_0 hfz26_1 hfz26_2 hfz26_3
      try clear hfz27_0 hfz27_1 hfz27_2 hfz27_3
      try clear hfz28_0 hfz28_1 hfz28_2 hfz28_3
      try clear hfz29_0 hfz29_1 hfz29_2 hfz29_3
      try clear hfz7_0 hfz7_1 hfz7_2 hfz7_3
      try clear hx1_0
      try clear hx1_1
      try clear hx1_2
      try clear hx1_3
      try clear p1
      try clear p2
      try clear q1
      obtain ⟨kq, x4_30, rfl, HA, HJ30, BK2, HB⟩ := hcut
      cases kq with
      | zero => exact absurd HA.out (by simp [spec_AskText.j2])
      | succ kj30 =>
       have H := HA.out
       clear HA
       simp only [spec_AskText.j2] at H
       by_cases c34 : ((rd_T46 l0 x5_1).f0) = 0
       rotate_left
       ·rw [if_neg c34] at H
        have c34b0 : (((rd_T46 l0 x5_1).f0) == 0) = false := beq_eq_false_iff_ne.mpr c34
        have c34b1 : (((rd_T46 l0 x5_1).f0) != 0) = true := bne_iff_ne.mpr c34
        by_cases c48 : x4_30.size + 1 ≤ 9223372036854775807
        rotate_left
        ·rw [if_neg c48] at H
         exact absurd H (by simp)
        rw [if_pos c48] at H
        have c48b0 := eq_true c48
        have c48b1 : decide (x4_30.size + 1 ≤ 9223372036854775807) = true := decide_eq_true c48
        try have c48b2 : (9223372036854775807 < x4_30.size + 1) = False := eq_false (Nat.not_lt.2 c48)
        replace H := Option.bind_eq_some_iff.mp H
        obtain ⟨t13, A490, H⟩ := H
        replace H : (if (x4_30 ++ (⟨#[91]⟩ : ByteArray)).size + t13.size ≤ 9223372036854775807 then (if ((x4_30 ++ (⟨#[91]⟩ : ByteArray)) ++ t13).size + 2 ≤ 9223372036854775807 then ((spec_l01Num.f kj30 ((rd_T46 l0 x5_1).f3)).bind fun t14 => (if (((x4_30 ++ (⟨#[91]⟩ : ByteArray)) ++ t13) ++ (⟨#[93, 61]⟩ : ByteArray)).size + t14.size ≤ 9223372036854775807 then (spec_AskText.l0 kj30 l0 ((((x4_30 ++ (⟨#[91]⟩ : ByteArray)) ++ t13) ++ (⟨#[93, 61]⟩ : ByteArray)) ++ t14) (wrap64 (x5_1 + 1))) else (none))) else (none)) else (none)) = some (r1, r2) := H
        have A49 := Aside0.mk A490
        clear A490
        by_cases c50 : (x4_30 ++ (⟨#[91]⟩ : ByteArray)).size + t13.size ≤ 9223372036854775807
        rotate_left
        ·rw [if_neg c50] at H
         exact absurd H (by simp)
        rw [if_pos c50] at H
        have c50b0 := eq_true c50
        have c50z0 := eq_true (show (x4_30.size + 1) + t13.size ≤ 9223372036854775807 by have h_ := c50; simp only [ByteArray.size_append] at h_; exact h_)
        have c50z2 : (9223372036854775807 < (x4_30.size + 1) + t13.size) = False := eq_false (Nat.not_lt.2 (show (x4_30.size + 1) + t13.size ≤ 9223372036854775807 by have h_ := c50; simp only [ByteArray.size_append] at h_; exact h_))
        have c50b1 : decide ((x4_30 ++ (⟨#[91]⟩ : ByteArray)).size + t13.size ≤ 9223372036854775807) = true := decide_eq_true c50
        try have c50b2 : (9223372036854775807 < (x4_30 ++ (⟨#[91]⟩ : ByteArray)).size + t13.size) = False := eq_false (Nat.not_lt.2 c50)
        by_cases c51 : ((x4_30 ++ (⟨#[91]⟩ : ByteArray)) ++ t13).size + 2 ≤ 9223372036854775807
        rotate_left
        ·rw [if_neg c51] at H
         exact absurd H (by simp)
        rw [if_pos c51] at H
        have c51b0 := eq_true c51
        have c51z0 := eq_true (show (x4_30.size + 1 + t13.size) + 2 ≤ 9223372036854775807 by have h_ := c51; simp only [ByteArray.size_append] at h_; exact h_)
        have c51z2 : (9223372036854775807 < (x4_30.size + 1 + t13.size) + 2) = False := eq_false (Nat.not_lt.2 (show (x4_30.size + 1 + t13.size) + 2 ≤ 9223372036854775807 by have h_ := c51; simp only [ByteArray.size_append] at h_; exact h_))
        have c51b1 : decide (((x4_30 ++ (⟨#[91]⟩ : ByteArray)) ++ t13).size + 2 ≤ 9223372036854775807) = true := decide_eq_true c51
        try have c51b2 : (9223372036854775807 < ((x4_30 ++ (⟨#[91]⟩ : ByteArray)) ++ t13).size + 2) = False := eq_false (Nat.not_lt.2 c51)
        replace H := Option.bind_eq_some_iff.mp H
        obtain ⟨t14, A520, H⟩ := H
        replace H : (if (((x4_30 ++ (⟨#[91]⟩ : ByteArray)) ++ t13) ++ (⟨#[93, 61]⟩ : ByteArray)).size + t14.size ≤ 9223372036854775807 then (spec_AskText.l0 kj30 l0 ((((x4_30 ++ (⟨#[91]⟩ : ByteArray)) ++ t13) ++ (⟨#[93, 61]⟩ : ByteArray)) ++ t14) (wrap64 (x5_1 + 1))) else (none)) = some (r1, r2) := H
        have A52 := Aside0.mk A520
        clear A520
        by_cases c53 : (((x4_30 ++ (⟨#[91]⟩ : ByteArray)) ++ t13) ++ (⟨#[93, 61]⟩ : ByteArray)).size + t14.size ≤ 9223372036854775807
        rotate_left
        ·rw [if_neg c53] at H
         exact absurd H (by simp)
        rw [if_pos c53] at H
        have c53b0 := eq_true c53
        have c53z0 := eq_true (show (x4_30.size + 1 + t13.size + 2) + t14.size ≤ 9223372036854775807 by have h_ := c53; simp only [ByteArray.size_append] at h_; exact h_)
        have c53z2 : (9223372036854775807 < (x4_30.size + 1 + t13.size + 2) + t14.size) = False := eq_false (Nat.not_lt.2 (show (x4_30.size + 1 + t13.size + 2) + t14.size ≤ 9223372036854775807 by have h_ := c53; simp only [ByteArray.size_append] at h_; exact h_))
        have c53b1 : decide ((((x4_30 ++ (⟨#[91]⟩ : ByteArray)) ++ t13) ++ (⟨#[93, 61]⟩ : ByteArray)).size + t14.size ≤ 9223372036854775807) = true := decide_eq_true c53
        try have c53b2 : (9223372036854775807 < (((x4_30 ++ (⟨#[91]⟩ : ByteArray)) ++ t13) ++ (⟨#[93, 61]⟩ : ByteArray)).size + t14.size) = False := eq_false (Nat.not_lt.2 c53)
        have H' := Aside0.mk H
        clear H
        obtain ⟨hcz54_0, hcz54_1, hcz54_2, hcz54_3, hfz54_0, hfz54_1, hfz54_2, hfz54_3⟩ := bc4_ BK2.out
        try go_wp2
        have n0_ := Aside0.mk (blk_drew BK2.out)
        have n1_ := Aside0.mk (below_drew1 HB.out)
        clear BK2
        clear HB
        have BK2 := n0_
        have HB := n1_
        clear n0_ n1_
        refine start_ (n := 12) (S := fun w' => w'.cell? ⟨gb2, 0, none⟩ = some (.int .i64 ((rd_T46 l0 x5_1).f0)) ∧ w'.cell? ⟨gb2, 1, none⟩ = some (.int .i64 ((rd_T46 l0 x5_1).f1)) ∧ w'.cell? ⟨gb2, 2, none⟩ = some (.int .i64 ((rd_T46 l0 x5_1).f2)) ∧ w'.cell? ⟨gb2, 3, none⟩ = some (.int .i64 ((rd_T46 l0 x5_1).f3))) (ds := []) #[false, false, false, false, false, false, false, false, false, false, false, false] (by kernel_rfl) rfl rfl ⟨(blk_cell BK2.out 0).trans rfl, (blk_cell BK2.out 1).trans rfl, (blk_cell BK2.out 2).trans rfl, (blk_cell BK2.out 3).trans rfl⟩ (fun hHeld => ?_); refine with_tabW spec_AskText.tab14 spec_AskText.bits14 (fun HT_ HW_ => ?_)
        generalize wc.drew = w55 at BK2 HB hHeld ⊢
        refine pure_ (i := 0) (N := some 74) (bm_ 12 1) rfl rfl (any_of HT_.out kr_) (fun _ _ _ h => h) (Or.inl ⟨rfl, yi_⟩) pu_ ?_
        refine pure_ (i := 1) (N := some 75) (bm_ 12 3) rfl rfl (any_of HT_.out kr_) (fun _ _ _ h => h) (Or.inl ⟨rfl, yi_⟩) pu_ ?_
        refine pure_ (i := 2) (N := some 76) (bm_ 12 7) rfl rfl (any_of HT_.out kr_) (fun _ _ _ h => h) (Or.inl ⟨rfl, yi_⟩) pu_ ?_
        refine pure_ (i := 7) (N := some 81) (bm_ 12 135) rfl rfl (any_of HT_.out kr_) (fun _ _ _ h => h) (Or.inl ⟨rfl, yi_⟩) pu_ ?_
        refine take_ (i := 3) (N := some 77) (v := ?_) (a' := ?_) (bm_ 12 143) rfl rfl (take_ofW HT_.out HW_.out (by kernel_rfl)) (fun _ _ _ h => h) (Or.inl ⟨by rfl, ?_⟩) hHeld ?_ ?_
        rotate_left
        ·rintro w' ⟨s0, s1, s2, s3⟩
         go_simp
         with_reducible rfl
        rotate_left
        ·exact pu_
        refine take_ (i := 8) (N := some 82) (v := ?_) (a' := ?_) (bm_ 12 399) rfl rfl (take_ofW HT_.out HW_.out (by kernel_rfl)) (fun _ _ _ h => h) (Or.inl ⟨by rfl, ?_⟩) hHeld ?_ ?_
        rotate_left
        ·rintro w' ⟨s0, s1, s2, s3⟩
         go_simp
         with_reducible rfl
        rotate_left
        ·exact pu_
        refine one_ (i := 4) (N := some 78) (bm_ 12 415) rfl rfl (one_of HT_.out (by kernel_rfl)) (by decide) (fun K hK => ?_)
        refine goes_ Tryz.func34 (by kernel_rfl) rfl #[.int .i64 ((rd_T46 l0 x5_1).f2)] (by rfl) rfl rfl ar_ ?_
        with_reducible refine (spec_l01Num.calls kj30 ((rd_T46 l0 x5_1).f2) t13 _ A49.out).mono ?_
        rintro e w56 ⟨rfl, hb⟩
        refine ⟨_, rfl, ?_⟩
        have n0_ := bb_ BK2.out hb
        have n1_ := bs_ hb
        clear BK2
        clear HB
        have BK2 := n0_
        have HB := n1_
        clear n0_ n1_
        (try clear hb)
        (try clear hb2)
        (try clear hk)
        (try clear hi)
        refine hK.out _ _ ⟨(blk_cell BK2.out 0).trans rfl, (blk_cell BK2.out 1).trans rfl, (blk_cell BK2.out 2).trans rfl, (blk_cell BK2.out 3).trans rfl⟩ (fun hHeld => ?_)
        clear hK K
        refine norm_ (a' := ?_) ?_ ?_
        rotate_left
        ·show Act.put _ (some 78) _ = _
         simp only [Act.put, List.setIfInBounds_toArray, List.set_cons_zero, List.set_cons_succ, i64_w, i32_w]
         rfl
        refine pure_ (i := 5) (N := some 79) (bm_ 12 447) rfl rfl (any_of HT_.out kr_) (fun _ _ _ h => h) (Or.inl ⟨rfl, yi_⟩) pu_ ?_
        refine pure_ (i := 6) (N := some 80) (bm_ 12 511) rfl rfl (any_of HT_.out kr_) (fun _ _ _ h => h) (Or.inl ⟨rfl, yi_⟩) pu_ ?_
        refine one_ (i := 9) (N := some 83) (bm_ 12 1023) rfl rfl (one_of HT_.out (by kernel_rfl)) (by decide) (fun K hK => ?_)
        refine goes_ Tryz.func34 (by kernel_rfl) rfl #[.int .i64 ((rd_T46 l0 x5_1).f3)] (by rfl) rfl rfl ar_ ?_
        with_reducible refine (spec_l01Num.calls kj30 ((rd_T46 l0 x5_1).f3) t14 _ A52.out).mono ?_
        rintro e w57 ⟨rfl, hb⟩
        refine ⟨_, rfl, ?_⟩
        have n0_ := bb_ BK2.out hb
        have n1_ := bs_ hb
        clear BK2
        clear HB
        have BK2 := n0_
        have HB := n1_
        clear n0_ n1_
        (try clear hb)
        (try clear hb2)
        (try clear hk)
        (try clear hi)
        refine hK.out _ _ ⟨(blk_cell BK2.out 0).trans rfl, (blk_cell BK2.out 1).trans rfl, (blk_cell BK2.out 2).trans rfl, (blk_cell BK2.out 3).trans rfl⟩ (fun hHeld => ?_)
        clear hK K
        refine norm_ (a' := ?_) ?_ ?_
        rotate_left
        ·show Act.put _ (some 83) _ = _
         simp only [Act.put, List.setIfInBounds_toArray, List.set_cons_zero, List.set_cons_succ, i64_w, i32_w]
         rfl
        refine pure_ (i := 10) (N := some 84) (bm_ 12 2047) rfl rfl (any_of HT_.out kr_) (fun _ _ _ h => h) (Or.inl ⟨rfl, yi_⟩) pu_ ?_
        refine pure_ (i := 11) (N := some 4) (bm_ 12 4095) rfl rfl (any_of HT_.out kr_) (fun _ _ _ h => h) (Or.inl ⟨rfl, yi_⟩) pu_ ?_
        refine done_ (done_of HT_.out (by kernel_rfl)) ?_
        try go_wp2
        go_roundg kj30
        case measure => have := HK1.out; have := HJ4.out; have := HJ30.out; omega
        case rel => exact ⟨((((x4_30 ++ (⟨#[91]⟩ : ByteArray)) ++ t13) ++ (⟨#[93, 61]⟩ : ByteArray)) ++ t14), (wrap64 (x5_1 + 1)), sd_, sd_, H', ⟨by have := HK1.out; have := HJ4.out; have := HJ30.out; omega⟩, ⟨bw_⟩⟩
       rw [if_pos c34] at H
       have c34b0 : (((rd_T46 l0 x5_1).f0) == 0) = true := beq_iff_eq.mpr c34
       have c34b1 : (((rd_T46 l0 x5_1).f0) != 0) = false := bne_eq_false_iff_eq.mpr c34
       clear c34
       replace H := Option.bind_eq_some_iff.mp H
       obtain ⟨t10, A350, H⟩ := H
       replace H : (if x4_30.size + t10.size ≤ 9223372036854775807 then (if (x4_30 ++ t10).size + 1 ≤ 9223372036854775807 then ((spec_l01Num.f kj30 ((rd_T46 l0 x5_1).f2)).bind fun t11 => (if ((x4_30 ++ t10) ++ (⟨#[58]⟩ : ByteArray)).size + t11.size ≤ 9223372036854775807 then (if (((x4_30 ++ t10) ++ (⟨#[58]⟩ : ByteArray)) ++ t11).size + 1 ≤ 9223372036854775807 then ((spec_l01Num.f kj30 ((rd_T46 l0 x5_1).f3)).bind fun t12 => (if ((((x4_30 ++ t10) ++ (⟨#[58]⟩ : ByteArray)) ++ t11) ++ (⟨#[61]⟩ : ByteArray)).size + t12.size ≤ 9223372036854775807 then (spec_AskText.l0 kj30 l0 (((((x4_30 ++ t10) ++ (⟨#[58]⟩ : ByteArray)) ++ t11) ++ (⟨#[61]⟩ : ByteArray)) ++ t12) (wrap64 (x5_1 + 1))) else (none))) else (none)) else (none))) else (none)) else (none)) = some (r1, r2) := H
       have A35 := Aside0.mk A350
       clear A350
       by_cases c36 : x4_30.size + t10.size ≤ 9223372036854775807
       rotate_left
       ·rw [if_neg c36] at H
        exact absurd H (by simp)
       rw [if_pos c36] at H
       have c36b0 := eq_true c36
       have c36b1 : decide (x4_30.size + t10.size ≤ 9223372036854775807) = true := decide_eq_true c36
       try have c36b2 : (9223372036854775807 < x4_30.size + t10.size) = False := eq_false (Nat.not_lt.2 c36)
       by_cases c37 : (x4_30 ++ t10).size + 1 ≤ 9223372036854775807
       rotate_left
       ·rw [if_neg c37] at H
        exact absurd H (by simp)
       rw [if_pos c37] at H
       have c37b0 := eq_true c37
       have c37z0 := eq_true (show (x4_30.size + t10.size) + 1 ≤ 9223372036854775807 by have h_ := c37; simp only [ByteArray.size_append] at h_; exact h_)
       have c37z2 : (9223372036854775807 < (x4_30.size + t10.size) + 1) = False := eq_false (Nat.not_lt.2 (show (x4_30.size + t10.size) + 1 ≤ 9223372036854775807 by have h_ := c37; simp only [ByteArray.size_append] at h_; exact h_))
       have c37b1 : decide ((x4_30 ++ t10).size + 1 ≤ 9223372036854775807) = true := decide_eq_true c37
       try have c37b2 : (9223372036854775807 < (x4_30 ++ t10).size + 1) = False := eq_false (Nat.not_lt.2 c37)
       replace H := Option.bind_eq_some_iff.mp H
       obtain ⟨t11, A380, H⟩ := H
       replace H : (if ((x4_30 ++ t10) ++ (⟨#[58]⟩ : ByteArray)).size + t11.size ≤ 9223372036854775807 then (if (((x4_30 ++ t10) ++ (⟨#[58]⟩ : ByteArray)) ++ t11).size + 1 ≤ 9223372036854775807 then ((spec_l01Num.f kj30 ((rd_T46 l0 x5_1).f3)).bind fun t12 => (if ((((x4_30 ++ t10) ++ (⟨#[58]⟩ : ByteArray)) ++ t11) ++ (⟨#[61]⟩ : ByteArray)).size + t12.size ≤ 9223372036854775807 then (spec_AskText.l0 kj30 l0 (((((x4_30 ++ t10) ++ (⟨#[58]⟩ : ByteArray)) ++ t11) ++ (⟨#[61]⟩ : ByteArray)) ++ t12) (wrap64 (x5_1 + 1))) else (none))) else (none)) else (none)) = some (r1, r2) := H
       have A38 := Aside0.mk A380
       clear A380
       by_cases c39 : ((x4_30 ++ t10) ++ (⟨#[58]⟩ : ByteArray)).size + t11.size ≤ 9223372036854775807
       rotate_left
       ·rw [if_neg c39] at H
        exact absurd H (by simp)
       rw [if_pos c39] at H
       have c39b0 := eq_true c39
       have c39z0 := eq_true (show (x4_30.size + t10.size + 1) + t11.size ≤ 9223372036854775807 by have h_ := c39; simp only [ByteArray.size_append] at h_; exact h_)
       have c39z2 : (9223372036854775807 < (x4_30.size + t10.size + 1) + t11.size) = False := eq_false (Nat.not_lt.2 (show (x4_30.size + t10.size + 1) + t11.size ≤ 9223372036854775807 by have h_ := c39; simp only [ByteArray.size_append] at h_; exact h_))
       have c39b1 : decide (((x4_30 ++ t10) ++ (⟨#[58]⟩ : ByteArray)).size + t11.size ≤ 9223372036854775807) = true := decide_eq_true c39
       try have c39b2 : (9223372036854775807 < ((x4_30 ++ t10) ++ (⟨#[58]⟩ : ByteArray)).size + t11.size) = False := eq_false (Nat.not_lt.2 c39)
       by_cases c40 : (((x4_30 ++ t10) ++ (⟨#[58]⟩ : ByteArray)) ++ t11).size + 1 ≤ 9223372036854775807
       rotate_left
       ·rw [if_neg c40] at H
        exact absurd H (by simp)
       rw [if_pos c40] at H
       have c40b0 := eq_true c40
       have c40z0 := eq_true (show (x4_30.size + t10.size + 1 + t11.size) + 1 ≤ 9223372036854775807 by have h_ := c40; simp only [ByteArray.size_append] at h_; exact h_)
       have c40z2 : (9223372036854775807 < (x4_30.size + t10.size + 1 + t11.size) + 1) = False := eq_false (Nat.not_lt.2 (show (x4_30.size + t10.size + 1 + t11.size) + 1 ≤ 9223372036854775807 by have h_ := c40; simp only [ByteArray.size_append] at h_; exact h_))
       have c40b1 : decide ((((x4_30 ++ t10) ++ (⟨#[58]⟩ : ByteArray)) ++ t11).size + 1 ≤ 9223372036854775807) = true := decide_eq_true c40
       try have c40b2 : (9223372036854775807 < (((x4_30 ++ t10) ++ (⟨#[58]⟩ : ByteArray)) ++ t11).size + 1) = False := eq_false (Nat.not_lt.2 c40)
       replace H := Option.bind_eq_some_iff.mp H
       obtain ⟨t12, A410, H⟩ := H
       replace H : (if ((((x4_30 ++ t10) ++ (⟨#[58]⟩ : ByteArray)) ++ t11) ++ (⟨#[61]⟩ : ByteArray)).size + t12.size ≤ 9223372036854775807 then (spec_AskText.l0 kj30 l0 (((((x4_30 ++ t10) ++ (⟨#[58]⟩ : ByteArray)) ++ t11) ++ (⟨#[61]⟩ : ByteArray)) ++ t12) (wrap64 (x5_1 + 1))) else (none)) = some (r1, r2) := H
       have A41 := Aside0.mk A410
       clear A410
       by_cases c42 : ((((x4_30 ++ t10) ++ (⟨#[58]⟩ : ByteArray)) ++ t11) ++ (⟨#[61]⟩ : ByteArray)).size + t12.size ≤ 9223372036854775807
       rotate_left
       ·rw [if_neg c42] at H
        exact absurd H (by simp)
       rw [if_pos c42] at H
       have c42b0 := eq_true c42
       have c42z0 := eq_true (show (x4_30.size + t10.size + 1 + t11.size + 1) + t12.size ≤ 9223372036854775807 by have h_ := c42; simp only [ByteArray.size_append] at h_; exact h_)
       have c42z2 : (9223372036854775807 < (x4_30.size + t10.size + 1 + t11.size + 1) + t12.size) = False := eq_false (Nat.not_lt.2 (show (x4_30.size + t10.size + 1 + t11.size + 1) + t12.size ≤ 9223372036854775807 by have h_ := c42; simp only [ByteArray.size_append] at h_; exact h_))
       have c42b1 : decide (((((x4_30 ++ t10) ++ (⟨#[58]⟩ : ByteArray)) ++ t11) ++ (⟨#[61]⟩ : ByteArray)).size + t12.size ≤ 9223372036854775807) = true := decide_eq_true c42
       try have c42b2 : (9223372036854775807 < ((((x4_30 ++ t10) ++ (⟨#[58]⟩ : ByteArray)) ++ t11) ++ (⟨#[61]⟩ : ByteArray)).size + t12.size) = False := eq_false (Nat.not_lt.2 c42)
       have H' := Aside0.mk H
       clear H
       obtain ⟨hcz43_0, hcz43_1, hcz43_2, hcz43_3, hfz43_0, hfz43_1, hfz43_2, hfz43_3⟩ := bc4_ BK2.out
       try go_wp2
       have n0_ := Aside0.mk (blk_drew BK2.out)
       have n1_ := Aside0.mk (below_drew1 HB.out)
       clear BK2
       clear HB
       have BK2 := n0_
       have HB := n1_
       clear n0_ n1_
       refine start_ (n := 16) (S := fun w' => w'.cell? ⟨gb2, 0, none⟩ = some (.int .i64 ((rd_T46 l0 x5_1).f0)) ∧ w'.cell? ⟨gb2, 1, none⟩ = some (.int .i64 ((rd_T46 l0 x5_1).f1)) ∧ w'.cell? ⟨gb2, 2, none⟩ = some (.int .i64 ((rd_T46 l0 x5_1).f2)) ∧ w'.cell? ⟨gb2, 3, none⟩ = some (.int .i64 ((rd_T46 l0 x5_1).f3))) (ds := []) #[false, false, false, false, false, false, false, false, false, false, false, false, false, false, false, false] (by kernel_rfl) rfl rfl ⟨(blk_cell BK2.out 0).trans rfl, (blk_cell BK2.out 1).trans rfl, (blk_cell BK2.out 2).trans rfl, (blk_cell BK2.out 3).trans rfl⟩ (fun hHeld => ?_); refine with_tabW spec_AskText.tab13 spec_AskText.bits13 (fun HT_ HW_ => ?_)
       generalize wc.drew = w44 at BK2 HB hHeld ⊢
       refine pure_ (i := 0) (N := some 59) (bm_ 16 1) rfl rfl (any_of HT_.out kr_) (fun _ _ _ h => h) (Or.inl ⟨rfl, yi_⟩) pu_ ?_
       refine pure_ (i := 1) (N := some 60) (bm_ 16 3) rfl rfl (any_of HT_.out kr_) (fun _ _ _ h => h) (Or.inl ⟨rfl, yi_⟩) pu_ ?_
       refine pure_ (i := 6) (N := some 65) (bm_ 16 67) rfl rfl (any_of HT_.out kr_) (fun _ _ _ h => h) (Or.inl ⟨rfl, yi_⟩) pu_ ?_
       refine pure_ (i := 11) (N := some 70) (bm_ 16 2115) rfl rfl (any_of HT_.out kr_) (fun _ _ _ h => h) (Or.inl ⟨rfl, yi_⟩) pu_ ?_
       refine take_ (i := 2) (N := some 61) (v := ?_) (a' := ?_) (bm_ 16 2119) rfl rfl (take_ofW HT_.out HW_.out (by kernel_rfl)) (fun _ _ _ h => h) (Or.inl ⟨by rfl, ?_⟩) hHeld ?_ ?_
       rotate_left
       ·rintro w' ⟨s0, s1, s2, s3⟩
        go_simp
        with_reducible rfl
       rotate_left
       ·exact pu_
       refine take_ (i := 7) (N := some 66) (v := ?_) (a' := ?_) (bm_ 16 2247) rfl rfl (take_ofW HT_.out HW_.out (by kernel_rfl)) (fun _ _ _ h => h) (Or.inl ⟨by rfl, ?_⟩) hHeld ?_ ?_
       rotate_left
       ·rintro w' ⟨s0, s1, s2, s3⟩
        go_simp
        with_reducible rfl
       rotate_left
       ·exact pu_
       refine take_ (i := 12) (N := some 71) (v := ?_) (a' := ?_) (bm_ 16 6343) rfl rfl (take_ofW HT_.out HW_.out (by kernel_rfl)) (fun _ _ _ h => h) (Or.inl ⟨by rfl, ?_⟩) hHeld ?_ ?_
       rotate_left
       ·rintro w' ⟨s0, s1, s2, s3⟩
        go_simp
        with_reducible rfl
       rotate_left
       ·exact pu_
       refine one_ (i := 3) (N := some 62) (bm_ 16 6351) rfl rfl (one_of HT_.out (by kernel_rfl)) (by decide) (fun K hK => ?_)
       refine goes_ Tryz.func34 (by kernel_rfl) rfl #[.int .i64 ((rd_T46 l0 x5_1).f1)] (by rfl) rfl rfl ar_ ?_
       with_reducible refine (spec_l01Num.calls kj30 ((rd_T46 l0 x5_1).f1) t10 _ A35.out).mono ?_
       rintro e w45 ⟨rfl, hb⟩
       refine ⟨_, rfl, ?_⟩
       have n0_ := bb_ BK2.out hb
       have n1_ := bs_ hb
       clear BK2
       clear HB
       have BK2 := n0_
       have HB := n1_
       clear n0_ n1_
       (try clear hb)
       (try clear hb2)
       (try clear hk)
       (try clear hi)
       refine hK.out _ _ ⟨(blk_cell BK2.out 0).trans rfl, (blk_cell BK2.out 1).trans rfl, (blk_cell BK2.out 2).trans rfl, (blk_cell BK2.out 3).trans rfl⟩ (fun hHeld => ?_)
       clear hK K
       refine norm_ (a' := ?_) ?_ ?_
       rotate_left
       ·show Act.put _ (some 62) _ = _
        simp only [Act.put, List.setIfInBounds_toArray, List.set_cons_zero, List.set_cons_succ, i64_w, i32_w]
        rfl
       refine pure_ (i := 4) (N := some 63) (bm_ 16 6367) rfl rfl (any_of HT_.out kr_) (fun _ _ _ h => h) (Or.inl ⟨rfl, yi_⟩) pu_ ?_
       refine pure_ (i := 5) (N := some 64) (bm_ 16 6399) rfl rfl (any_of HT_.out kr_) (fun _ _ _ h => h) (Or.inl ⟨rfl, yi_⟩) pu_ ?_
       refine one_ (i := 8) (N := some 67) (bm_ 16 6655) rfl rfl (one_of HT_.out (by kernel_rfl)) (by decide) (fun K hK => ?_)
       refine goes_ Tryz.func34 (by kernel_rfl) rfl #[.int .i64 ((rd_T46 l0 x5_1).f2)] (by rfl) rfl rfl ar_ ?_
       with_reducible refine (spec_l01Num.calls kj30 ((rd_T46 l0 x5_1).f2) t11 _ A38.out).mono ?_
       rintro e w46 ⟨rfl, hb⟩
       refine ⟨_, rfl, ?_⟩
       have n0_ := bb_ BK2.out hb
       have n1_ := bs_ hb
       clear BK2
       clear HB
       have BK2 := n0_
       have HB := n1_
       clear n0_ n1_
       (try clear hb)
       (try clear hb2)
       (try clear hk)
       (try clear hi)
       refine hK.out _ _ ⟨(blk_cell BK2.out 0).trans rfl, (blk_cell BK2.out 1).trans rfl, (blk_cell BK2.out 2).trans rfl, (blk_cell BK2.out 3).trans rfl⟩ (fun hHeld => ?_)
       clear hK K
       refine norm_ (a' := ?_) ?_ ?_
       rotate_left
       ·show Act.put _ (some 67) _ = _
        simp only [Act.put, List.setIfInBounds_toArray, List.set_cons_zero, List.set_cons_succ, i64_w, i32_w]
        rfl
       refine pure_ (i := 9) (N := some 68) (bm_ 16 7167) rfl rfl (any_of HT_.out kr_) (fun _ _ _ h => h) (Or.inl ⟨rfl, yi_⟩) pu_ ?_
       refine pure_ (i := 10) (N := some 69) (bm_ 16 8191) rfl rfl (any_of HT_.out kr_) (fun _ _ _ h => h) (Or.inl ⟨rfl, yi_⟩) pu_ ?_
       refine one_ (i := 13) (N := some 72) (bm_ 16 16383) rfl rfl (one_of HT_.out (by kernel_rfl)) (by decide) (fun K hK => ?_)
       refine goes_ Tryz.func34 (by kernel_rfl) rfl #[.int .i64 ((rd_T46 l0 x5_1).f3)] (by rfl) rfl rfl ar_ ?_
       with_reducible refine (spec_l01Num.calls kj30 ((rd_T46 l0 x5_1).f3) t12 _ A41.out).mono ?_
       rintro e w47 ⟨rfl, hb⟩
       refine ⟨_, rfl, ?_⟩
       have n0_ := bb_ BK2.out hb
       have n1_ := bs_ hb
       clear BK2
       clear HB
       have BK2 := n0_
       have HB := n1_
       clear n0_ n1_
       (try clear hb)
       (try clear hb2)
       (try clear hk)
       (try clear hi)
       refine hK.out _ _ ⟨(blk_cell BK2.out 0).trans rfl, (blk_cell BK2.out 1).trans rfl, (blk_cell BK2.out 2).trans rfl, (blk_cell BK2.out 3).trans rfl⟩ (fun hHeld => ?_)
       clear hK K
       refine norm_ (a' := ?_) ?_ ?_
       rotate_left
       ·show Act.put _ (some 72) _ = _
        simp only [Act.put, List.setIfInBounds_toArray, List.set_cons_zero, List.set_cons_succ, i64_w, i32_w]
        rfl
       refine pure_ (i := 14) (N := some 73) (bm_ 16 32767) rfl rfl (any_of HT_.out kr_) (fun _ _ _ h => h) (Or.inl ⟨rfl, yi_⟩) pu_ ?_
       refine pure_ (i := 15) (N := some 4) (bm_ 16 65535) rfl rfl (any_of HT_.out kr_) (fun _ _ _ h => h) (Or.inl ⟨rfl, yi_⟩) pu_ ?_
       refine done_ (done_of HT_.out (by kernel_rfl)) ?_
       try go_wp2
       go_roundg kj30
       case measure => have := HK1.out; have := HJ4.out; have := HJ30.out; omega
       case rel => exact ⟨(((((x4_30 ++ t10) ++ (⟨#[58]⟩ : ByteArray)) ++ t11) ++ (⟨#[61]⟩ : ByteArray)) ++ t12), (wrap64 (x5_1 + 1)), sd_, sd_, H', ⟨by have := HK1.out; have := HJ4.out; have := HJ30.out; omega⟩, ⟨bw_⟩⟩

end Go.Proofs.YtbgclnjnngolmaaGreatDoor.P
