-- Written by mp.py (the session's own driver over the kit's printer) for the seat Ytlfbdafghpmahaa.
import Derived.Test.YtlfbdafghpmahaaK
import Derived.Test.YtlfbdafghpmahaaPspecHasFence
namespace Go.Proofs.Ytlfbdafghpmahaa.P
open Go.RowKit Go.Proofs.YtlfbdafghpmahaaW.PrintWords Go.Proofs.YtlfbdafghpmahaaW.PrintLast Go.Proofs.YtlfbdafghpmahaaW.PrintMore
attribute [local go_sem] max2_int min2_int max_two min_two max_three min_three max_four min_four
set_option linter.unusedVariables false
set_option linter.unusedSimpArgs false

/-! ### spec_l04Can: function 122 -/
def spec_l04Can.f (a0_0 : Int) (l0_1 : List (List (S82))) (l1_0 : List Int) (l1_1 : List (S102)) (a2_0 : Int) (a2_1 : Bool) : Option (Bool) := if 0 ≤ a2_0 then (if a2_0 < (l1_1.length : Int) then (if a2_1 = true then (some (decide ((((rd_T102 l1_1 a2_0).f2).length : Int) > 0))) else (if a2_0 < (l0_1.length : Int) then (if ((rd_T102 l1_1 a2_0).f0) = ((rd_L4 l0_1 a2_0).length : Int) then (some false) else (if 0 ≤ ((rd_T102 l1_1 a2_0).f0) then (if ((rd_T102 l1_1 a2_0).f0) < ((rd_L4 l0_1 a2_0).length : Int) then (if ((rd_T82 (rd_L4 l0_1 a2_0) ((rd_T102 l1_1 a2_0).f0)).f0) = 3 then (some (decide ((((rd_T102 l1_1 a2_0).f2).length : Int) < 3))) else ((spec_HasFence.f ((rd_T82 (rd_L4 l0_1 a2_0) ((rd_T102 l1_1 a2_0).f0)).f0) ((rd_T82 (rd_L4 l0_1 a2_0) ((rd_T102 l1_1 a2_0).f0)).f1) ((rd_T82 (rd_L4 l0_1 a2_0) ((rd_T102 l1_1 a2_0).f0)).f2) ((rd_T82 (rd_L4 l0_1 a2_0) ((rd_T102 l1_1 a2_0).f0)).f3)).bind fun t10 => (if t10 = true then (some ((((rd_T102 l1_1 a2_0).f2).length : Int) == 0)) else (some true)))) else (none)) else (none))) else (none))) else (none)) else (none)
def spec_l04Can.T4 : Bool × List (List Nat × List Nat) := (true, [([], []), ([0], [0]), ([], []), ([2], [2]), ([], []), ([4], [4]), ([3, 5], [3, 5]), ([6], [6]), ([7], [7]), ([1, 8], [1, 8])])
def spec_l04Can.B4 : List Nat := [0, 1, 0, 4, 0, 16, 60, 124, 252, 511]
theorem spec_l04Can.tab4 : rtab .any (opsOf Try.f122 4) = spec_l04Can.T4 := by kernel_rfl
theorem spec_l04Can.bits4 : waitsOk spec_l04Can.T4.2 spec_l04Can.B4 = true := by kernel_rfl
def spec_l04Can.T6 : Bool × List (List Nat × List Nat) := (true, [([], []), ([0], [0]), ([], []), ([2], [2]), ([1, 3], [1, 3]), ([4], [4]), ([], []), ([6], [6]), ([5, 7], [5, 7]), ([8], [8]), ([], []), ([10, 9, 0, 1, 2, 3, 4, 5, 6, 7, 8, 9, 10], [9, 10])])
def spec_l04Can.B6 : List Nat := [0, 1, 0, 4, 15, 31, 0, 64, 255, 511, 0, 2047]
theorem spec_l04Can.tab6 : rtab .any (opsOf Try.f122 6) = spec_l04Can.T6 := by kernel_rfl
theorem spec_l04Can.bits6 : waitsOk spec_l04Can.T6.2 spec_l04Can.B6 = true := by kernel_rfl
set_option maxHeartbeats 8000000 in
set_option maxRecDepth 100000 in
theorem spec_l04Can.calls (a0_0 : Int) (A0_1 : Option Addr) (c0_1 : Nat) (l0_1 : List (List (S82))) (A1_0 : Option Addr) (c1_0 : Nat) (l1_0 : List Int) (A1_1 : Option Addr) (c1_1 : Nat) (l1_1 : List (S102)) (a2_0 : Int) (a2_1 : Bool) (r : Bool) (w : World) (hr0_1 : Kd.C (Kd.slice 82 k82) w A0_1 l0_1.length l0_1) (hc0_1 : l0_1.length ≤ c0_1) (hr1_0 : Kd.C (Kd.int .i64) w A1_0 l1_0.length l1_0) (hc1_0 : l1_0.length ≤ c1_0) (hr1_1 : Kd.C k102 w A1_1 l1_1.length l1_1) (hc1_1 : l1_1.length ≤ c1_1) (h : spec_l04Can.f a0_0 l0_1 l1_0 l1_1 a2_0 a2_1 = some r) :
  Calls Try.prog 122 #[.agg #[.int .i64 a0_0, .slice A0_1 l0_1.length c0_1], .agg #[.slice A1_0 l1_0.length c1_0, .slice A1_1 l1_1.length c1_1], .agg #[.int .i64 a2_0, .bool a2_1]] w fun e w' => e = .returned (.bool r) ∧ Below w.heap.size w w' := by
 have hu39 := Try.underlying39
 have hu54 := Try.underlying54
 have hu127 := Try.underlying127
 have hu102 := Try.underlying102
 have hu82 := Try.underlying82
 have HR0_1 := Aside0.mk hr0_1
 have HC0_1 := Aside0.mk hc0_1
 clear hr0_1 hc0_1
 have HR1_0 := Aside0.mk hr1_0
 have HC1_0 := Aside0.mk hc1_0
 clear hr1_0 hc1_0
 have HR1_1 := Aside0.mk hr1_1
 have HC1_1 := Aside0.mk hc1_1
 clear hr1_1 hc1_1
 have HB := Aside0.mk (Below.refl w.heap.size w)
 have H : (if 0 ≤ a2_0 then (if a2_0 < (l1_1.length : Int) then (if a2_1 = true then (some (decide ((((rd_T102 l1_1 a2_0).f2).length : Int) > 0))) else (if a2_0 < (l0_1.length : Int) then (if ((rd_T102 l1_1 a2_0).f0) = ((rd_L4 l0_1 a2_0).length : Int) then (some false) else (if 0 ≤ ((rd_T102 l1_1 a2_0).f0) then (if ((rd_T102 l1_1 a2_0).f0) < ((rd_L4 l0_1 a2_0).length : Int) then (if ((rd_T82 (rd_L4 l0_1 a2_0) ((rd_T102 l1_1 a2_0).f0)).f0) = 3 then (some (decide ((((rd_T102 l1_1 a2_0).f2).length : Int) < 3))) else ((spec_HasFence.f ((rd_T82 (rd_L4 l0_1 a2_0) ((rd_T102 l1_1 a2_0).f0)).f0) ((rd_T82 (rd_L4 l0_1 a2_0) ((rd_T102 l1_1 a2_0).f0)).f1) ((rd_T82 (rd_L4 l0_1 a2_0) ((rd_T102 l1_1 a2_0).f0)).f2) ((rd_T82 (rd_L4 l0_1 a2_0) ((rd_T102 l1_1 a2_0).f0)).f3)).bind fun t10 => (if t10 = true then (some ((((rd_T102 l1_1 a2_0).f2).length : Int) == 0)) else (some true)))) else (none)) else (none))) else (none))) else (none)) else (none)) = some r := h
 clear h
 by_cases c4 : 0 ≤ a2_0
 rotate_left
 ·rw [if_neg c4] at H
  exact absurd H (by simp)
 rw [if_pos c4] at H
 have c4b0 : decide (0 ≤ a2_0) = true := decide_eq_true c4
 clear c4
 by_cases c5 : a2_0 < (l1_1.length : Int)
 rotate_left
 ·rw [if_neg c5] at H
  exact absurd H (by simp)
 rw [if_pos c5] at H
 have c5b0 : decide (a2_0 < (l1_1.length : Int)) = true := decide_eq_true c5
 clear c5
 by_cases c6 : a2_1 = true
 ·subst c6
  have H1 : (some (decide ((((rd_T102 l1_1 a2_0).f2).length : Int) > 0))) = some r := by rw [if_pos rfl] at H; exact H
  clear H
  have H := H1
  clear H1
  obtain rfl := Option.some.inj H
  go_enter Try.func122, Try.ntmps122
  go_wp2_with (first | ((with_reducible refine gate_dst (N := 3) rfl ?_); (try (refine gate_guard (by rfl) ?_; dsimp only)); refine box_event ?hg (N := 3) ?hd (cs := #[.int .i64 a0_0, .slice A0_1 l0_1.length c0_1]) (t := 39) ?hr ?_; (case hd => rfl); (case hg => rfl); (case hr => exact hr_); intro gb1 hg w7 hbox hb; have n0_ := bs_ hb; have n1_ := Aside0.mk (hbox); have n2_ := ge_ (w := w) hg; have n3_ := ge_ (w := w) hg; clear HB; have HB := n0_; have BK1 := n1_; have GW1 := n2_; have GE1 := n3_; clear n0_ n1_ n2_ n3_; clear hb hbox hg) | ((with_reducible refine gate_dst (N := 4) rfl ?_); (try (refine gate_guard (by rfl) ?_; dsimp only)); refine box_event ?hg (N := 4) ?hd (cs := #[.slice A1_0 l1_0.length c1_0, .slice A1_1 l1_1.length c1_1]) (t := 54) ?hr ?_; (case hd => rfl); (case hg => rfl); (case hr => exact hr_); intro gb2 hg w8 hbox hb; have n0_ := bb_ BK1.out hb; have n1_ := bs_ hb; have n2_ := Aside0.mk (hbox); have n3_ := ge_ (w := w) hg; have n4_ := ge_ (w := w) hg; have n5_ := nl_ BK1.out hg; have n6_ := nr_ BK1.out hg; clear BK1; clear HB; have BK1 := n0_; have HB := n1_; have BK2 := n2_; have GW2 := n3_; have GE2 := n4_; have NB1_2 := n5_; have NB2_1 := n6_; clear n0_ n1_ n2_ n3_ n4_ n5_ n6_; clear hb hbox hg) | ((with_reducible refine gate_dst (N := 5) rfl ?_); (try (refine gate_guard (by rfl) ?_; dsimp only)); refine box_event ?hg (N := 5) ?hd (cs := #[.int .i64 a2_0, .bool true]) (t := 127) ?hr ?_; (case hd => rfl); (case hg => rfl); (case hr => exact hr_); intro gb3 hg w9 hbox hb; have n0_ := bb_ BK1.out hb; have n1_ := bb_ BK2.out hb; have n2_ := bs_ hb; have n3_ := Aside0.mk (hbox); have n4_ := ge_ (w := w) hg; have n5_ := ge_ (w := w) hg; have n6_ := nl_ BK1.out hg; have n7_ := nr_ BK1.out hg; have n8_ := nl_ BK2.out hg; have n9_ := nr_ BK2.out hg; clear BK1; clear BK2; clear HB; have BK1 := n0_; have BK2 := n1_; have HB := n2_; have BK3 := n3_; have GW3 := n4_; have GE3 := n5_; have NB1_3 := n6_; have NB3_1 := n7_; have NB2_3 := n8_; have NB3_2 := n9_; clear n0_ n1_ n2_ n3_ n4_ n5_ n6_ n7_ n8_ n9_; clear hb hbox hg; have hnb10 := NB2_1.out; have hnc10 := NB1_2.out; have hnb11 := NB2_3.out; have hnc11 := NB3_2.out; obtain ⟨hcz12_0, hcz12_1, hfz12_0, hfz12_1⟩ := bc2_ BK2.out; have hnb13 := NB3_1.out; have hnc13 := NB1_3.out; obtain ⟨hcz14_0, hcz14_1, hfz14_0, hfz14_1⟩ := bc2_ BK3.out; have p4 : 0 ≤ (a2_0 : Int) := od_; have q4 : a2_0 < (l1_1.length : Int) := od_; obtain ⟨ad4, A4_1, c4_1, A4_2, c4_2, e4, hx4_0, hx4_1, hx4_2, hl4_1, hi4_1, hl4_2, hi4_2⟩ := at_T102 HR1_1.out a2_0 p4 q4; cases e4; replace hx4_0 := (HB.out.cell (World.block_lt_of_cell? w _ hx4_0)).trans hx4_0; replace hx4_1 := (HB.out.cell (World.block_lt_of_cell? w _ hx4_1)).trans hx4_1; replace hx4_2 := (HB.out.cell (World.block_lt_of_cell? w _ hx4_2)).trans hx4_2; have HR4_1 := Aside0.mk hi4_1; have HC4_1 := Aside0.mk hl4_1; clear hi4_1 hl4_1; have HR4_2 := Aside0.mk hi4_2; have HC4_2 := Aside0.mk hl4_2; clear hi4_2 hl4_2; replace p4 := eq_true p4; replace q4 := eq_true q4) | ((with_reducible refine gate_dst (N := 7) rfl ?_); (try (refine gate_guard (by rfl) ?_; dsimp only)); refine box_event ?hg (N := 7) ?hd (cs := #[.int .i64 0, .slice none 0 0, .slice none 0 0]) (t := 102) ?hr ?_; (case hd => rfl); (case hg => rfl); (case hr => exact hr_); intro gb5 hg w15 hbox hb; have n0_ := bb_ BK1.out hb; have n1_ := bb_ BK2.out hb; have n2_ := bb_ BK3.out hb; have n3_ := bs_ hb; have n4_ := Aside0.mk (hbox); have n5_ := ge_ (w := w) hg; have n6_ := ge_ (w := w) hg; have n7_ := nl_ BK1.out hg; have n8_ := nr_ BK1.out hg; have n9_ := nl_ BK2.out hg; have n10_ := nr_ BK2.out hg; have n11_ := nl_ BK3.out hg; have n12_ := nr_ BK3.out hg; clear BK1; clear BK2; clear BK3; clear HB; have BK1 := n0_; have BK2 := n1_; have BK3 := n2_; have HB := n3_; have BK5 := n4_; have GW5 := n5_; have GE5 := n6_; have NB1_5 := n7_; have NB5_1 := n8_; have NB2_5 := n9_; have NB5_2 := n10_; have NB3_5 := n11_; have NB5_3 := n12_; clear n0_ n1_ n2_ n3_ n4_ n5_ n6_ n7_ n8_ n9_ n10_ n11_ n12_; clear hb hbox hg; have hnb16 := NB5_1.out; have hnc16 := NB1_5.out; have hnb17 := NB5_2.out; have hnc17 := NB2_5.out; have hnb18 := NB5_3.out; have hnc18 := NB3_5.out; obtain ⟨hcz19_0, hcz19_1, hcz19_2, hfz19_0, hfz19_1, hfz19_2⟩ := bc3_ BK5.out; obtain ⟨hcz20_0, hcz20_1, hfz20_0, hfz20_1⟩ := bc2_ BK3.out))
  go_ret
  exact ⟨rr_, bw_⟩
 replace c6 := Bool.eq_false_iff.mpr c6
 subst c6
 have H1 : (if a2_0 < (l0_1.length : Int) then (if ((rd_T102 l1_1 a2_0).f0) = ((rd_L4 l0_1 a2_0).length : Int) then (some false) else (if 0 ≤ ((rd_T102 l1_1 a2_0).f0) then (if ((rd_T102 l1_1 a2_0).f0) < ((rd_L4 l0_1 a2_0).length : Int) then (if ((rd_T82 (rd_L4 l0_1 a2_0) ((rd_T102 l1_1 a2_0).f0)).f0) = 3 then (some (decide ((((rd_T102 l1_1 a2_0).f2).length : Int) < 3))) else ((spec_HasFence.f ((rd_T82 (rd_L4 l0_1 a2_0) ((rd_T102 l1_1 a2_0).f0)).f0) ((rd_T82 (rd_L4 l0_1 a2_0) ((rd_T102 l1_1 a2_0).f0)).f1) ((rd_T82 (rd_L4 l0_1 a2_0) ((rd_T102 l1_1 a2_0).f0)).f2) ((rd_T82 (rd_L4 l0_1 a2_0) ((rd_T102 l1_1 a2_0).f0)).f3)).bind fun t10 => (if t10 = true then (some ((((rd_T102 l1_1 a2_0).f2).length : Int) == 0)) else (some true)))) else (none)) else (none))) else (none)) = some r := by rw [if_neg (show ¬ (false = true) by decide)] at H; exact H
 clear H
 have H := H1
 clear H1
 by_cases c21 : a2_0 < (l0_1.length : Int)
 rotate_left
 ·rw [if_neg c21] at H
  exact absurd H (by simp)
 rw [if_pos c21] at H
 have c21b0 : decide (a2_0 < (l0_1.length : Int)) = true := decide_eq_true c21
 clear c21
 go_enter Try.func122, Try.ntmps122
 try go_wp2_with (first | ((with_reducible refine gate_dst (N := 3) rfl ?_); (try (refine gate_guard (by rfl) ?_; dsimp only)); refine box_event ?hg (N := 3) ?hd (cs := #[.int .i64 a0_0, .slice A0_1 l0_1.length c0_1]) (t := 39) ?hr ?_; (case hd => rfl); (case hg => rfl); (case hr => exact hr_); intro gb1 hg w23 hbox hb; have n0_ := bs_ hb; have n1_ := Aside0.mk (hbox); have n2_ := ge_ (w := w) hg; have n3_ := ge_ (w := w) hg; clear HB; have HB := n0_; have BK1 := n1_; have GW1 := n2_; have GE1 := n3_; clear n0_ n1_ n2_ n3_; clear hb hbox hg) | ((with_reducible refine gate_dst (N := 4) rfl ?_); (try (refine gate_guard (by rfl) ?_; dsimp only)); refine box_event ?hg (N := 4) ?hd (cs := #[.slice A1_0 l1_0.length c1_0, .slice A1_1 l1_1.length c1_1]) (t := 54) ?hr ?_; (case hd => rfl); (case hg => rfl); (case hr => exact hr_); intro gb2 hg w24 hbox hb; have n0_ := bb_ BK1.out hb; have n1_ := bs_ hb; have n2_ := Aside0.mk (hbox); have n3_ := ge_ (w := w) hg; have n4_ := ge_ (w := w) hg; have n5_ := nl_ BK1.out hg; have n6_ := nr_ BK1.out hg; clear BK1; clear HB; have BK1 := n0_; have HB := n1_; have BK2 := n2_; have GW2 := n3_; have GE2 := n4_; have NB1_2 := n5_; have NB2_1 := n6_; clear n0_ n1_ n2_ n3_ n4_ n5_ n6_; clear hb hbox hg) | ((with_reducible refine gate_dst (N := 5) rfl ?_); (try (refine gate_guard (by rfl) ?_; dsimp only)); refine box_event ?hg (N := 5) ?hd (cs := #[.int .i64 a2_0, .bool false]) (t := 127) ?hr ?_; (case hd => rfl); (case hg => rfl); (case hr => exact hr_); intro gb3 hg w25 hbox hb; have n0_ := bb_ BK1.out hb; have n1_ := bb_ BK2.out hb; have n2_ := bs_ hb; have n3_ := Aside0.mk (hbox); have n4_ := ge_ (w := w) hg; have n5_ := ge_ (w := w) hg; have n6_ := nl_ BK1.out hg; have n7_ := nr_ BK1.out hg; have n8_ := nl_ BK2.out hg; have n9_ := nr_ BK2.out hg; clear BK1; clear BK2; clear HB; have BK1 := n0_; have BK2 := n1_; have HB := n2_; have BK3 := n3_; have GW3 := n4_; have GE3 := n5_; have NB1_3 := n6_; have NB3_1 := n7_; have NB2_3 := n8_; have NB3_2 := n9_; clear n0_ n1_ n2_ n3_ n4_ n5_ n6_ n7_ n8_ n9_; clear hb hbox hg; have hnb26 := NB2_1.out; have hnc26 := NB1_2.out; have hnb27 := NB2_3.out; have hnc27 := NB3_2.out; obtain ⟨hcz28_0, hcz28_1, hfz28_0, hfz28_1⟩ := bc2_ BK2.out; have hnb29 := NB3_1.out; have hnc29 := NB1_3.out; obtain ⟨hcz30_0, hcz30_1, hfz30_0, hfz30_1⟩ := bc2_ BK3.out; have p4 : 0 ≤ (a2_0 : Int) := od_; have q4 : a2_0 < (l1_1.length : Int) := od_; obtain ⟨ad4, A4_1, c4_1, A4_2, c4_2, e4, hx4_0, hx4_1, hx4_2, hl4_1, hi4_1, hl4_2, hi4_2⟩ := at_T102 HR1_1.out a2_0 p4 q4; cases e4; replace hx4_0 := (HB.out.cell (World.block_lt_of_cell? w _ hx4_0)).trans hx4_0; replace hx4_1 := (HB.out.cell (World.block_lt_of_cell? w _ hx4_1)).trans hx4_1; replace hx4_2 := (HB.out.cell (World.block_lt_of_cell? w _ hx4_2)).trans hx4_2; have HR4_1 := Aside0.mk hi4_1; have HC4_1 := Aside0.mk hl4_1; clear hi4_1 hl4_1; have HR4_2 := Aside0.mk hi4_2; have HC4_2 := Aside0.mk hl4_2; clear hi4_2 hl4_2; replace p4 := eq_true p4; replace q4 := eq_true q4) | ((with_reducible refine gate_dst (N := 7) rfl ?_); (try (refine gate_guard (by rfl) ?_; dsimp only)); refine box_event ?hg (N := 7) ?hd (cs := #[.int .i64 0, .slice none 0 0, .slice none 0 0]) (t := 102) ?hr ?_; (case hd => rfl); (case hg => rfl); (case hr => exact hr_); intro gb5 hg w31 hbox hb; have n0_ := bb_ BK1.out hb; have n1_ := bb_ BK2.out hb; have n2_ := bb_ BK3.out hb; have n3_ := bs_ hb; have n4_ := Aside0.mk (hbox); have n5_ := ge_ (w := w) hg; have n6_ := ge_ (w := w) hg; have n7_ := nl_ BK1.out hg; have n8_ := nr_ BK1.out hg; have n9_ := nl_ BK2.out hg; have n10_ := nr_ BK2.out hg; have n11_ := nl_ BK3.out hg; have n12_ := nr_ BK3.out hg; clear BK1; clear BK2; clear BK3; clear HB; have BK1 := n0_; have BK2 := n1_; have BK3 := n2_; have HB := n3_; have BK5 := n4_; have GW5 := n5_; have GE5 := n6_; have NB1_5 := n7_; have NB5_1 := n8_; have NB2_5 := n9_; have NB5_2 := n10_; have NB3_5 := n11_; have NB5_3 := n12_; clear n0_ n1_ n2_ n3_ n4_ n5_ n6_ n7_ n8_ n9_ n10_ n11_ n12_; clear hb hbox hg; have hnb32 := NB5_1.out; have hnc32 := NB1_5.out; have hnb33 := NB5_2.out; have hnc33 := NB2_5.out; have hnb34 := NB5_3.out; have hnc34 := NB3_5.out; obtain ⟨hcz35_0, hcz35_1, hcz35_2, hfz35_0, hfz35_1, hfz35_2⟩ := bc3_ BK5.out; obtain ⟨hcz36_0, hcz36_1, hfz36_0, hfz36_1⟩ := bc2_ BK3.out))
 have n0_ : Aside0 ((((w31.setCell ⟨gb5, 0, none⟩ (.int .i64 ((rd_T102 l1_1 a2_0).f0))).setCell ⟨gb5, 1, none⟩ (.slice A4_1 ((rd_T102 l1_1 a2_0).f1).length c4_1)).setCell ⟨gb5, 2, none⟩ (.slice A4_2 ((rd_T102 l1_1 a2_0).f2).length c4_2)).heap[gb1]? = some (.cells #[.int .i64 a0_0, .slice A0_1 l0_1.length c0_1] 39 (0, 0))) := ⟨by (with_reducible repeat (first | refine blk_drewN ?_ _ | refine blk_drew ?_ | refine blk_alloc ?_ _)); refine blk_far ?_ NB1_5.out _; (with_reducible repeat (first | refine blk_drewN ?_ _ | refine blk_drew ?_ | refine blk_alloc ?_ _)); refine blk_far ?_ NB1_5.out _; (with_reducible repeat (first | refine blk_drewN ?_ _ | refine blk_drew ?_ | refine blk_alloc ?_ _)); refine blk_far ?_ NB1_5.out _; (with_reducible repeat (first | refine blk_drewN ?_ _ | refine blk_drew ?_ | refine blk_alloc ?_ _)); exact BK1.out⟩
 have n1_ : Aside0 ((((w31.setCell ⟨gb5, 0, none⟩ (.int .i64 ((rd_T102 l1_1 a2_0).f0))).setCell ⟨gb5, 1, none⟩ (.slice A4_1 ((rd_T102 l1_1 a2_0).f1).length c4_1)).setCell ⟨gb5, 2, none⟩ (.slice A4_2 ((rd_T102 l1_1 a2_0).f2).length c4_2)).heap[gb2]? = some (.cells #[.slice A1_0 l1_0.length c1_0, .slice (some ad4) l1_1.length c1_1] 54 (0, 0))) := ⟨by (with_reducible repeat (first | refine blk_drewN ?_ _ | refine blk_drew ?_ | refine blk_alloc ?_ _)); refine blk_far ?_ NB2_5.out _; (with_reducible repeat (first | refine blk_drewN ?_ _ | refine blk_drew ?_ | refine blk_alloc ?_ _)); refine blk_far ?_ NB2_5.out _; (with_reducible repeat (first | refine blk_drewN ?_ _ | refine blk_drew ?_ | refine blk_alloc ?_ _)); refine blk_far ?_ NB2_5.out _; (with_reducible repeat (first | refine blk_drewN ?_ _ | refine blk_drew ?_ | refine blk_alloc ?_ _)); exact BK2.out⟩
 have n2_ : Aside0 ((((w31.setCell ⟨gb5, 0, none⟩ (.int .i64 ((rd_T102 l1_1 a2_0).f0))).setCell ⟨gb5, 1, none⟩ (.slice A4_1 ((rd_T102 l1_1 a2_0).f1).length c4_1)).setCell ⟨gb5, 2, none⟩ (.slice A4_2 ((rd_T102 l1_1 a2_0).f2).length c4_2)).heap[gb3]? = some (.cells #[.int .i64 a2_0, .bool false] 127 (0, 0))) := ⟨by (with_reducible repeat (first | refine blk_drewN ?_ _ | refine blk_drew ?_ | refine blk_alloc ?_ _)); refine blk_far ?_ NB3_5.out _; (with_reducible repeat (first | refine blk_drewN ?_ _ | refine blk_drew ?_ | refine blk_alloc ?_ _)); refine blk_far ?_ NB3_5.out _; (with_reducible repeat (first | refine blk_drewN ?_ _ | refine blk_drew ?_ | refine blk_alloc ?_ _)); refine blk_far ?_ NB3_5.out _; (with_reducible repeat (first | refine blk_drewN ?_ _ | refine blk_drew ?_ | refine blk_alloc ?_ _)); exact BK3.out⟩
 have n3_ : Aside0 ((((w31.setCell ⟨gb5, 0, none⟩ (.int .i64 ((rd_T102 l1_1 a2_0).f0))).setCell ⟨gb5, 1, none⟩ (.slice A4_1 ((rd_T102 l1_1 a2_0).f1).length c4_1)).setCell ⟨gb5, 2, none⟩ (.slice A4_2 ((rd_T102 l1_1 a2_0).f2).length c4_2)).heap[gb5]? = some (.cells #[.int .i64 ((rd_T102 l1_1 a2_0).f0), .slice A4_1 ((rd_T102 l1_1 a2_0).f1).length c4_1, .slice A4_2 ((rd_T102 l1_1 a2_0).f2).length c4_2] 102 (0, 0))) := ⟨by (with_reducible repeat (first | refine blk_drewN ?_ _ | refine blk_drew ?_ | refine blk_alloc ?_ _)); refine blk_put (cs := #[.int .i64 ((rd_T102 l1_1 a2_0).f0), .slice A4_1 ((rd_T102 l1_1 a2_0).f1).length c4_1, .slice none 0 0]) ?_ 2 _ rfl; (with_reducible repeat (first | refine blk_drewN ?_ _ | refine blk_drew ?_ | refine blk_alloc ?_ _)); refine blk_put (cs := #[.int .i64 ((rd_T102 l1_1 a2_0).f0), .slice none 0 0, .slice none 0 0]) ?_ 1 _ rfl; (with_reducible repeat (first | refine blk_drewN ?_ _ | refine blk_drew ?_ | refine blk_alloc ?_ _)); refine blk_put (cs := #[.int .i64 0, .slice none 0 0, .slice none 0 0]) ?_ 0 _ rfl; (with_reducible repeat (first | refine blk_drewN ?_ _ | refine blk_drew ?_ | refine blk_alloc ?_ _)); exact BK5.out⟩
 have n4_ : Aside0 (Below w.heap.size w (((w31.setCell ⟨gb5, 0, none⟩ (.int .i64 ((rd_T102 l1_1 a2_0).f0))).setCell ⟨gb5, 1, none⟩ (.slice A4_1 ((rd_T102 l1_1 a2_0).f1).length c4_1)).setCell ⟨gb5, 2, none⟩ (.slice A4_2 ((rd_T102 l1_1 a2_0).f2).length c4_2))) := ⟨bw_⟩
 (try clear BK1)
 (try clear BK2)
 (try clear BK3)
 (try clear BK5)
 (try clear HB)
 generalize (((w31.setCell ⟨gb5, 0, none⟩ (.int .i64 ((rd_T102 l1_1 a2_0).f0))).setCell ⟨gb5, 1, none⟩ (.slice A4_1 ((rd_T102 l1_1 a2_0).f1).length c4_1)).setCell ⟨gb5, 2, none⟩ (.slice A4_2 ((rd_T102 l1_1 a2_0).f2).length c4_2)) = w37 at n0_ n1_ n2_ n3_ n4_ ⊢
 have BK1 := n0_
 have BK2 := n1_
 have BK3 := n2_
 have BK5 := n3_
 have HB := n4_
 clear n0_ n1_ n2_ n3_ n4_
 have n0_ := Aside0.mk (blk_drew BK1.out)
 have n1_ := Aside0.mk (blk_drew BK2.out)
 have n2_ := Aside0.mk (blk_drew BK3.out)
 have n3_ := Aside0.mk (blk_drew BK5.out)
 have n4_ := Aside0.mk (below_drew1 HB.out)
 clear BK1
 clear BK2
 clear BK3
 clear BK5
 clear HB
 have BK1 := n0_
 have BK2 := n1_
 have BK3 := n2_
 have BK5 := n3_
 have HB := n4_
 clear n0_ n1_ n2_ n3_ n4_
 have p6 : 0 ≤ (a2_0 : Int) := od_
 have q6 : a2_0 < (l0_1.length : Int) := od_
 obtain ⟨ad6, A6_0, c6_0, e6, hx6_0, hl6_0, hi6_0⟩ := at_L4 HR0_1.out a2_0 p6 q6
 have hw6_0 := hx6_0
 cases e6
 replace hx6_0 := (HB.out.cell (World.block_lt_of_cell? w _ hx6_0)).trans hx6_0
 have HR6_0 := Aside0.mk hi6_0
 have HC6_0 := Aside0.mk hl6_0
 clear hi6_0 hl6_0
 replace p6 := eq_true p6
 replace q6 := eq_true q6
 refine start_ (n := 10) (S := fun w' => w'.cell? ⟨gb5, 0, none⟩ = some (.int .i64 ((rd_T102 l1_1 a2_0).f0)) ∧ w'.cell? ⟨gb5, 1, none⟩ = some (.slice A4_1 ((rd_T102 l1_1 a2_0).f1).length c4_1) ∧ w'.cell? ⟨gb5, 2, none⟩ = some (.slice A4_2 ((rd_T102 l1_1 a2_0).f2).length c4_2) ∧ w'.cell? ⟨gb1, 0, none⟩ = some (.int .i64 a0_0) ∧ w'.cell? ⟨gb1, 1, none⟩ = some (.slice (some ad6) l0_1.length c0_1) ∧ w'.cell? ⟨gb3, 0, none⟩ = some (.int .i64 a2_0) ∧ w'.cell? ⟨gb3, 1, none⟩ = some (.bool false) ∧ w'.cell? (ad6.add (a2_0).toNat) = some (.slice A6_0 (rd_L4 l0_1 a2_0).length c6_0)) (ds := []) #[false, false, false, false, false, false, false, false, false, false] (by kernel_rfl) rfl rfl ⟨(blk_cell BK5.out 0).trans rfl, (blk_cell BK5.out 1).trans rfl, (blk_cell BK5.out 2).trans rfl, (blk_cell BK1.out 0).trans rfl, (blk_cell BK1.out 1).trans rfl, (blk_cell BK3.out 0).trans rfl, (blk_cell BK3.out 1).trans rfl, ((HB.out.cell (World.block_lt_of_cell? w _ hw6_0)).trans hw6_0)⟩ (fun hHeld => ?_); refine with_tabW spec_l04Can.tab4 spec_l04Can.bits4 (fun HT_ HW_ => ?_)
 generalize w37.drew = w38 at BK1 BK2 BK3 BK5 HB HR6_0 hx6_0 hHeld ⊢
 refine pure_ (i := 0) (N := some 21) (bm_ 10 1) rfl rfl (any_of HT_.out kr_) (fun _ _ _ h => h) (Or.inl ⟨rfl, yi_⟩) pu_ ?_
 refine pure_ (i := 2) (N := some 23) (bm_ 10 5) rfl rfl (any_of HT_.out kr_) (fun _ _ _ h => h) (Or.inl ⟨rfl, yi_⟩) pu_ ?_
 refine pure_ (i := 4) (N := some 25) (bm_ 10 21) rfl rfl (any_of HT_.out kr_) (fun _ _ _ h => h) (Or.inl ⟨rfl, yi_⟩) pu_ ?_
 refine take_ (i := 1) (N := some 22) (v := ?_) (a' := ?_) (bm_ 10 23) rfl rfl (take_ofW HT_.out HW_.out (by kernel_rfl)) (fun _ _ _ h => h) (Or.inl ⟨by rfl, ?_⟩) hHeld ?_ ?_
 rotate_left
 ·rintro w' ⟨s0, s1, s2, s3, s4, s5, s6, s7⟩
  go_simp
  with_reducible rfl
 rotate_left
 ·exact pu_
 refine take_ (i := 3) (N := some 24) (v := ?_) (a' := ?_) (bm_ 10 31) rfl rfl (take_ofW HT_.out HW_.out (by kernel_rfl)) (fun _ _ _ h => h) (Or.inl ⟨by rfl, ?_⟩) hHeld ?_ ?_
 rotate_left
 ·rintro w' ⟨s0, s1, s2, s3, s4, s5, s6, s7⟩
  go_simp
  with_reducible rfl
 rotate_left
 ·exact pu_
 refine take_ (i := 5) (N := some 26) (v := ?_) (a' := ?_) (bm_ 10 63) rfl rfl (take_ofW HT_.out HW_.out (by kernel_rfl)) (fun _ _ _ h => h) (Or.inl ⟨by rfl, ?_⟩) hHeld ?_ ?_
 rotate_left
 ·rintro w' ⟨s0, s1, s2, s3, s4, s5, s6, s7⟩
  go_simp
  with_reducible rfl
 rotate_left
 ·exact pu_
 refine pure_ (i := 6) (N := some 27) (bm_ 10 127) rfl rfl (any_of HT_.out kr_) (fun _ _ _ h => h) (Or.inl ⟨rfl, yi_⟩) pu_ ?_
 refine take_ (i := 7) (N := some 28) (v := ?_) (a' := ?_) (bm_ 10 255) rfl rfl (take_ofW HT_.out HW_.out (by kernel_rfl)) (fun _ _ _ h => h) (Or.inl ⟨by rfl, ?_⟩) hHeld ?_ ?_
 rotate_left
 ·rintro w' ⟨s0, s1, s2, s3, s4, s5, s6, s7⟩
  go_simp
  with_reducible rfl
 rotate_left
 ·exact pu_
 refine pure_ (i := 8) (N := some 29) (bm_ 10 511) rfl rfl (any_of HT_.out kr_) (fun _ _ _ h => h) (Or.inl ⟨rfl, yi_⟩) pu_ ?_
 refine pure_ (i := 9) (N := some 30) (bm_ 10 1023) rfl rfl (any_of HT_.out kr_) (fun _ _ _ h => h) (Or.inl ⟨rfl, yi_⟩) pu_ ?_
 refine done_ (done_of HT_.out (by kernel_rfl)) ?_
 by_cases c22 : ((rd_T102 l1_1 a2_0).f0) = ((rd_L4 l0_1 a2_0).length : Int)
 ·rw [if_pos c22] at H
  have c22b0 : (((rd_T102 l1_1 a2_0).f0) == ((rd_L4 l0_1 a2_0).length : Int)) = true := beq_iff_eq.mpr c22
  have c22b1 : (((rd_T102 l1_1 a2_0).f0) != ((rd_L4 l0_1 a2_0).length : Int)) = false := bne_eq_false_iff_eq.mpr c22
  clear c22
  obtain rfl := Option.some.inj H
  try go_wp2
  go_ret
  exact ⟨rr_, bw_⟩
 rw [if_neg c22] at H
 have c22b0 : (((rd_T102 l1_1 a2_0).f0) == ((rd_L4 l0_1 a2_0).length : Int)) = false := beq_eq_false_iff_ne.mpr c22
 have c22b1 : (((rd_T102 l1_1 a2_0).f0) != ((rd_L4 l0_1 a2_0).length : Int)) = true := bne_iff_ne.mpr c22
 by_cases c39 : 0 ≤ ((rd_T102 l1_1 a2_0).f0)
 rotate_left
 ·rw [if_neg c39] at H
  exact absurd H (by simp)
 rw [if_pos c39] at H
 have c39b0 : decide (0 ≤ ((rd_T102 l1_1 a2_0).f0)) = true := decide_eq_true c39
 clear c39
 by_cases c40 : ((rd_T102 l1_1 a2_0).f0) < ((rd_L4 l0_1 a2_0).length : Int)
 rotate_left
 ·rw [if_neg c40] at H
  exact absurd H (by simp)
 rw [if_pos c40] at H
 have c40b0 : decide (((rd_T102 l1_1 a2_0).f0) < ((rd_L4 l0_1 a2_0).length : Int)) = true := decide_eq_true c40
 clear c40
 try go_wp2
 have n0_ := Aside0.mk (blk_drew BK1.out)
 have n1_ := Aside0.mk (blk_drew BK2.out)
 have n2_ := Aside0.mk (blk_drew BK3.out)
 have n3_ := Aside0.mk (blk_drew BK5.out)
 have n4_ := Aside0.mk (below_drew1 HB.out)
 clear BK1
 clear BK2
 clear BK3
 clear BK5
 clear HB
 have BK1 := n0_
 have BK2 := n1_
 have BK3 := n2_
 have BK5 := n3_
 have HB := n4_
 clear n0_ n1_ n2_ n3_ n4_
 have p7 : 0 ≤ (a2_0 : Int) := od_
 have q7 : a2_0 < (l0_1.length : Int) := od_
 obtain ⟨ad7, A7_0, c7_0, e7, hx7_0, hl7_0, hi7_0⟩ := at_L4 HR0_1.out a2_0 p7 q7
 have hw7_0 := hx7_0
 obtain rfl : ad6 = ad7 := (by injection e7)
 replace hx7_0 := (HB.out.cell (World.block_lt_of_cell? w _ hx7_0)).trans hx7_0
 have HR7_0 := Aside0.mk hi7_0
 have HC7_0 := Aside0.mk hl7_0
 clear hi7_0 hl7_0
 replace p7 := eq_true p7
 replace q7 := eq_true q7
 have p8 : 0 ≤ (((rd_T102 l1_1 a2_0).f0) : Int) := od_
 have q8 : ((rd_T102 l1_1 a2_0).f0) < ((rd_L4 l0_1 a2_0).length : Int) := od_
 obtain ⟨ad8, e8, hx8_0, hx8_1, hx8_2, hx8_3⟩ := at_T82 HR7_0.out ((rd_T102 l1_1 a2_0).f0) p8 q8
 have hw8_3 := hx8_3
 have hw8_2 := hx8_2
 have hw8_1 := hx8_1
 have hw8_0 := hx8_0
 cases e8
 replace hx8_0 := (HB.out.cell (World.block_lt_of_cell? w _ hx8_0)).trans hx8_0
 replace hx8_1 := (HB.out.cell (World.block_lt_of_cell? w _ hx8_1)).trans hx8_1
 replace hx8_2 := (HB.out.cell (World.block_lt_of_cell? w _ hx8_2)).trans hx8_2
 replace hx8_3 := (HB.out.cell (World.block_lt_of_cell? w _ hx8_3)).trans hx8_3
 replace p8 := eq_true p8
 replace q8 := eq_true q8
 refine start_ (n := 12) (S := fun w' => w'.cell? ⟨gb1, 0, none⟩ = some (.int .i64 a0_0) ∧ w'.cell? ⟨gb1, 1, none⟩ = some (.slice (some ad6) l0_1.length c0_1) ∧ w'.cell? ⟨gb3, 0, none⟩ = some (.int .i64 a2_0) ∧ w'.cell? ⟨gb3, 1, none⟩ = some (.bool false) ∧ w'.cell? ⟨gb5, 0, none⟩ = some (.int .i64 ((rd_T102 l1_1 a2_0).f0)) ∧ w'.cell? ⟨gb5, 1, none⟩ = some (.slice A4_1 ((rd_T102 l1_1 a2_0).f1).length c4_1) ∧ w'.cell? ⟨gb5, 2, none⟩ = some (.slice A4_2 ((rd_T102 l1_1 a2_0).f2).length c4_2) ∧ w'.cell? (ad6.add (a2_0).toNat) = some (.slice (some ad8) (rd_L4 l0_1 a2_0).length c7_0) ∧ w'.cell? (ad8.add ((((rd_T102 l1_1 a2_0).f0)).toNat * 4)) = some (.int .i64 ((rd_T82 (rd_L4 l0_1 a2_0) ((rd_T102 l1_1 a2_0).f0)).f0)) ∧ w'.cell? ⟨(ad8.add ((((rd_T102 l1_1 a2_0).f0)).toNat * 4)).block, (ad8.add ((((rd_T102 l1_1 a2_0).f0)).toNat * 4)).off + 1, none⟩ = some (.int .i64 ((rd_T82 (rd_L4 l0_1 a2_0) ((rd_T102 l1_1 a2_0).f0)).f1)) ∧ w'.cell? ⟨(ad8.add ((((rd_T102 l1_1 a2_0).f0)).toNat * 4)).block, (ad8.add ((((rd_T102 l1_1 a2_0).f0)).toNat * 4)).off + 2, none⟩ = some (.int .i64 ((rd_T82 (rd_L4 l0_1 a2_0) ((rd_T102 l1_1 a2_0).f0)).f2)) ∧ w'.cell? ⟨(ad8.add ((((rd_T102 l1_1 a2_0).f0)).toNat * 4)).block, (ad8.add ((((rd_T102 l1_1 a2_0).f0)).toNat * 4)).off + 3, none⟩ = some (.int .i64 ((rd_T82 (rd_L4 l0_1 a2_0) ((rd_T102 l1_1 a2_0).f0)).f3))) (ds := []) #[false, false, false, false, false, false, false, false, false, false, false, false] (by kernel_rfl) rfl rfl ⟨(blk_cell BK1.out 0).trans rfl, (blk_cell BK1.out 1).trans rfl, (blk_cell BK3.out 0).trans rfl, (blk_cell BK3.out 1).trans rfl, (blk_cell BK5.out 0).trans rfl, (blk_cell BK5.out 1).trans rfl, (blk_cell BK5.out 2).trans rfl, ((HB.out.cell (World.block_lt_of_cell? w _ hw7_0)).trans hw7_0), ((HB.out.cell (World.block_lt_of_cell? w _ hw8_0)).trans hw8_0), ((HB.out.cell (World.block_lt_of_cell? w _ hw8_1)).trans hw8_1), ((HB.out.cell (World.block_lt_of_cell? w _ hw8_2)).trans hw8_2), ((HB.out.cell (World.block_lt_of_cell? w _ hw8_3)).trans hw8_3)⟩ (fun hHeld => ?_); refine with_tabW spec_l04Can.tab6 spec_l04Can.bits6 (fun HT_ HW_ => ?_)
 generalize w38.drew = w58 at BK1 BK2 BK3 BK5 HB HR7_0 hx7_0 hx8_0 hx8_1 hx8_2 hx8_3 hHeld ⊢
 refine pure_ (i := 0) (N := some 31) (bm_ 12 1) rfl rfl (any_of HT_.out kr_) (fun _ _ _ h => h) (Or.inl ⟨rfl, yi_⟩) pu_ ?_
 refine pure_ (i := 2) (N := some 33) (bm_ 12 5) rfl rfl (any_of HT_.out kr_) (fun _ _ _ h => h) (Or.inl ⟨rfl, yi_⟩) pu_ ?_
 refine pure_ (i := 6) (N := some 37) (bm_ 12 69) rfl rfl (any_of HT_.out kr_) (fun _ _ _ h => h) (Or.inl ⟨rfl, yi_⟩) pu_ ?_
 refine take_ (i := 1) (N := some 32) (v := ?_) (a' := ?_) (bm_ 12 71) rfl rfl (take_ofW HT_.out HW_.out (by kernel_rfl)) (fun _ _ _ h => h) (Or.inl ⟨by rfl, ?_⟩) hHeld ?_ ?_
 rotate_left
 ·rintro w' ⟨s0, s1, s2, s3, s4, s5, s6, s7, s8, s9, s10, s11⟩
  go_simp
  with_reducible rfl
 rotate_left
 ·exact pu_
 refine take_ (i := 3) (N := some 34) (v := ?_) (a' := ?_) (bm_ 12 79) rfl rfl (take_ofW HT_.out HW_.out (by kernel_rfl)) (fun _ _ _ h => h) (Or.inl ⟨by rfl, ?_⟩) hHeld ?_ ?_
 rotate_left
 ·rintro w' ⟨s0, s1, s2, s3, s4, s5, s6, s7, s8, s9, s10, s11⟩
  go_simp
  with_reducible rfl
 rotate_left
 ·exact pu_
 refine pure_ (i := 4) (N := some 35) (bm_ 12 95) rfl rfl (any_of HT_.out kr_) (fun _ _ _ h => h) (Or.inl ⟨rfl, yi_⟩) pu_ ?_
 refine take_ (i := 5) (N := some 36) (v := ?_) (a' := ?_) (bm_ 12 127) rfl rfl (take_ofW HT_.out HW_.out (by kernel_rfl)) (fun _ _ _ h => h) (Or.inl ⟨by rfl, ?_⟩) hHeld ?_ ?_
 rotate_left
 ·rintro w' ⟨s0, s1, s2, s3, s4, s5, s6, s7, s8, s9, s10, s11⟩
  go_simp
  with_reducible rfl
 rotate_left
 ·exact pu_
 refine take_ (i := 7) (N := some 38) (v := ?_) (a' := ?_) (bm_ 12 255) rfl rfl (take_ofW HT_.out HW_.out (by kernel_rfl)) (fun _ _ _ h => h) (Or.inl ⟨by rfl, ?_⟩) hHeld ?_ ?_
 rotate_left
 ·rintro w' ⟨s0, s1, s2, s3, s4, s5, s6, s7, s8, s9, s10, s11⟩
  go_simp
  with_reducible rfl
 rotate_left
 ·exact pu_
 refine pure_ (i := 8) (N := some 39) (bm_ 12 511) rfl rfl (any_of HT_.out kr_) (fun _ _ _ h => h) (Or.inl ⟨rfl, yi_⟩) pu_ ?_
 refine take_ (i := 9) (N := some 40) (v := ?_) (a' := ?_) (bm_ 12 1023) rfl rfl (take_ofW HT_.out HW_.out (by kernel_rfl)) (fun _ _ _ h => h) (Or.inl ⟨by rfl, ?_⟩) hHeld ?_ ?_
 rotate_left
 ·rintro w' ⟨s0, s1, s2, s3, s4, s5, s6, s7, s8, s9, s10, s11⟩
  go_simp
  with_reducible rfl
 rotate_left
 ·exact pu_
 refine one_ (i := 10) (N := some 8) (bm_ 12 2047) rfl rfl (one_of HT_.out (by kernel_rfl)) (by decide) (fun K hK => ?_)
 refine box_step ?hg (N := 8) ?hd (cs := #[.int .i64 0, .int .i64 0, .int .i64 0, .int .i64 0]) (t := 82) ?hr ?_; (case hd => rfl); (case hg => rfl); (case hr => first | (go_simp; done) | (go_simp; rfl))
 intro gb9 hg w59 hbox hb
 have n0_ := bb_ BK1.out hb
 have n1_ := bb_ BK2.out hb
 have n2_ := bb_ BK3.out hb
 have n3_ := bb_ BK5.out hb
 have n4_ := bs_ hb
 have n5_ := Aside0.mk (hbox)
 have n6_ := ge_ (w := w) hg
 have n7_ := ge_ (w := w) hg
 have n8_ := nl_ BK1.out hg
 have n9_ := nr_ BK1.out hg
 have n10_ := nl_ BK2.out hg
 have n11_ := nr_ BK2.out hg
 have n12_ := nl_ BK3.out hg
 have n13_ := nr_ BK3.out hg
 have n14_ := nl_ BK5.out hg
 have n15_ := nr_ BK5.out hg
 clear BK1
 clear BK2
 clear BK3
 clear BK5
 clear HB
 have BK1 := n0_
 have BK2 := n1_
 have BK3 := n2_
 have BK5 := n3_
 have HB := n4_
 have BK9 := n5_
 have GW9 := n6_
 have GE9 := n7_
 have NB1_9 := n8_
 have NB9_1 := n9_
 have NB2_9 := n10_
 have NB9_2 := n11_
 have NB3_9 := n12_
 have NB9_3 := n13_
 have NB5_9 := n14_
 have NB9_5 := n15_
 clear n0_ n1_ n2_ n3_ n4_ n5_ n6_ n7_ n8_ n9_ n10_ n11_ n12_ n13_ n14_ n15_
 clear hb hbox hg
 refine hK.out _ _ ⟨(blk_cell BK1.out 0).trans rfl, (blk_cell BK1.out 1).trans rfl, (blk_cell BK3.out 0).trans rfl, (blk_cell BK3.out 1).trans rfl, (blk_cell BK5.out 0).trans rfl, (blk_cell BK5.out 1).trans rfl, (blk_cell BK5.out 2).trans rfl, ((HB.out.cell (World.block_lt_of_cell? w _ hw7_0)).trans hw7_0), ((HB.out.cell (World.block_lt_of_cell? w _ hw8_0)).trans hw8_0), ((HB.out.cell (World.block_lt_of_cell? w _ hw8_1)).trans hw8_1), ((HB.out.cell (World.block_lt_of_cell? w _ hw8_2)).trans hw8_2), ((HB.out.cell (World.block_lt_of_cell? w _ hw8_3)).trans hw8_3)⟩ (fun hHeld => ?_)
 clear hK K
 refine norm_ (a' := ?_) ?_ ?_
 rotate_left
 ·show Act.put _ (some 8) _ = _
  simp only [Act.put, List.setIfInBounds_toArray, List.set_cons_zero, List.set_cons_succ, i64_w, i32_w]
  rfl
 refine one_ (i := 11) (N := none) (bm_ 12 4095) rfl rfl (one_of HT_.out (by kernel_rfl)) (by decide) (fun K hK => ?_)
 have hs60 : w59.cell? ⟨gb9, 0, none⟩ = some (.int .i64 0) := (blk_cell BK9.out 0).trans rfl
 have hfs60 := blk_frozen BK9.out 0
 have hns60_0 := NB1_9.out
 have hns60_1 := NB2_9.out
 have hns60_2 := NB3_9.out
 have hns60_3 := NB5_9.out
 have hms60_0 := NB9_1.out
 have hms60_1 := NB9_2.out
 have hms60_2 := NB9_3.out
 have hms60_3 := NB9_5.out
 have hs61 : w59.cell? ⟨gb9, 1, none⟩ = some (.int .i64 0) := (blk_cell BK9.out 1).trans rfl
 have hfs61 := blk_frozen BK9.out 1
 have hns61_0 := NB1_9.out
 have hns61_1 := NB2_9.out
 have hns61_2 := NB3_9.out
 have hns61_3 := NB5_9.out
 have hms61_0 := NB9_1.out
 have hms61_1 := NB9_2.out
 have hms61_2 := NB9_3.out
 have hms61_3 := NB9_5.out
 have hs62 : w59.cell? ⟨gb9, 2, none⟩ = some (.int .i64 0) := (blk_cell BK9.out 2).trans rfl
 have hfs62 := blk_frozen BK9.out 2
 have hns62_0 := NB1_9.out
 have hns62_1 := NB2_9.out
 have hns62_2 := NB3_9.out
 have hns62_3 := NB5_9.out
 have hms62_0 := NB9_1.out
 have hms62_1 := NB9_2.out
 have hms62_2 := NB9_3.out
 have hms62_3 := NB9_5.out
 have hs63 : w59.cell? ⟨gb9, 3, none⟩ = some (.int .i64 0) := (blk_cell BK9.out 3).trans rfl
 have hfs63 := blk_frozen BK9.out 3
 have hns63_0 := NB1_9.out
 have hns63_1 := NB2_9.out
 have hns63_2 := NB3_9.out
 have hns63_3 := NB5_9.out
 have hms63_0 := NB9_1.out
 have hms63_1 := NB9_2.out
 have hms63_2 := NB9_3.out
 have hms63_3 := NB9_5.out
 refine skip_ (w1 := ?_) (by rfl) rfl ?_ ?_
 rotate_left
 ·go_simp
  rfl
 refine hK.out _ _ ⟨((cell_far (p := ⟨gb9, _, none⟩) NB1_9.out _).trans (((cell_far (p := ⟨gb9, _, none⟩) NB1_9.out _).trans (((cell_far (p := ⟨gb9, _, none⟩) NB1_9.out _).trans (((cell_far (p := ⟨gb9, _, none⟩) NB1_9.out _).trans (hHeld.1)))))))), ((cell_far (p := ⟨gb9, _, none⟩) NB1_9.out _).trans (((cell_far (p := ⟨gb9, _, none⟩) NB1_9.out _).trans (((cell_far (p := ⟨gb9, _, none⟩) NB1_9.out _).trans (((cell_far (p := ⟨gb9, _, none⟩) NB1_9.out _).trans (hHeld.2.1)))))))), ((cell_far (p := ⟨gb9, _, none⟩) NB3_9.out _).trans (((cell_far (p := ⟨gb9, _, none⟩) NB3_9.out _).trans (((cell_far (p := ⟨gb9, _, none⟩) NB3_9.out _).trans (((cell_far (p := ⟨gb9, _, none⟩) NB3_9.out _).trans (hHeld.2.2.1)))))))), ((cell_far (p := ⟨gb9, _, none⟩) NB3_9.out _).trans (((cell_far (p := ⟨gb9, _, none⟩) NB3_9.out _).trans (((cell_far (p := ⟨gb9, _, none⟩) NB3_9.out _).trans (((cell_far (p := ⟨gb9, _, none⟩) NB3_9.out _).trans (hHeld.2.2.2.1)))))))), ((cell_far (p := ⟨gb9, _, none⟩) NB5_9.out _).trans (((cell_far (p := ⟨gb9, _, none⟩) NB5_9.out _).trans (((cell_far (p := ⟨gb9, _, none⟩) NB5_9.out _).trans (((cell_far (p := ⟨gb9, _, none⟩) NB5_9.out _).trans (hHeld.2.2.2.2.1)))))))), ((cell_far (p := ⟨gb9, _, none⟩) NB5_9.out _).trans (((cell_far (p := ⟨gb9, _, none⟩) NB5_9.out _).trans (((cell_far (p := ⟨gb9, _, none⟩) NB5_9.out _).trans (((cell_far (p := ⟨gb9, _, none⟩) NB5_9.out _).trans (hHeld.2.2.2.2.2.1)))))))), ((cell_far (p := ⟨gb9, _, none⟩) NB5_9.out _).trans (((cell_far (p := ⟨gb9, _, none⟩) NB5_9.out _).trans (((cell_far (p := ⟨gb9, _, none⟩) NB5_9.out _).trans (((cell_far (p := ⟨gb9, _, none⟩) NB5_9.out _).trans (hHeld.2.2.2.2.2.2.1)))))))), ((cell_far (p := ⟨gb9, _, none⟩) (by first | exact Nat.ne_of_lt (Nat.lt_of_lt_of_le (by have := World.block_lt_of_cell? _ _ hw7_0; first | rwa [add_block] at this | exact this) GW9.out) | (rw [add_block]; exact Nat.ne_of_lt (Nat.lt_of_lt_of_le (by have := World.block_lt_of_cell? _ _ hw7_0; first | rwa [add_block] at this | exact this) GW9.out)) | (show (Addr.add _ _).block ≠ _; rw [add_block]; exact Nat.ne_of_lt (Nat.lt_of_lt_of_le (by have := World.block_lt_of_cell? _ _ hw7_0; first | rwa [add_block] at this | exact this) GW9.out)) | (dsimp only; exact Nat.ne_of_lt (Nat.lt_of_lt_of_le (by have := World.block_lt_of_cell? _ _ hw7_0; first | rwa [add_block] at this | exact this) GW9.out))) _).trans (((cell_far (p := ⟨gb9, _, none⟩) (by first | exact Nat.ne_of_lt (Nat.lt_of_lt_of_le (by have := World.block_lt_of_cell? _ _ hw7_0; first | rwa [add_block] at this | exact this) GW9.out) | (rw [add_block]; exact Nat.ne_of_lt (Nat.lt_of_lt_of_le (by have := World.block_lt_of_cell? _ _ hw7_0; first | rwa [add_block] at this | exact this) GW9.out)) | (show (Addr.add _ _).block ≠ _; rw [add_block]; exact Nat.ne_of_lt (Nat.lt_of_lt_of_le (by have := World.block_lt_of_cell? _ _ hw7_0; first | rwa [add_block] at this | exact this) GW9.out)) | (dsimp only; exact Nat.ne_of_lt (Nat.lt_of_lt_of_le (by have := World.block_lt_of_cell? _ _ hw7_0; first | rwa [add_block] at this | exact this) GW9.out))) _).trans (((cell_far (p := ⟨gb9, _, none⟩) (by first | exact Nat.ne_of_lt (Nat.lt_of_lt_of_le (by have := World.block_lt_of_cell? _ _ hw7_0; first | rwa [add_block] at this | exact this) GW9.out) | (rw [add_block]; exact Nat.ne_of_lt (Nat.lt_of_lt_of_le (by have := World.block_lt_of_cell? _ _ hw7_0; first | rwa [add_block] at this | exact this) GW9.out)) | (show (Addr.add _ _).block ≠ _; rw [add_block]; exact Nat.ne_of_lt (Nat.lt_of_lt_of_le (by have := World.block_lt_of_cell? _ _ hw7_0; first | rwa [add_block] at this | exact this) GW9.out)) | (dsimp only; exact Nat.ne_of_lt (Nat.lt_of_lt_of_le (by have := World.block_lt_of_cell? _ _ hw7_0; first | rwa [add_block] at this | exact this) GW9.out))) _).trans (((cell_far (p := ⟨gb9, _, none⟩) (by first | exact Nat.ne_of_lt (Nat.lt_of_lt_of_le (by have := World.block_lt_of_cell? _ _ hw7_0; first | rwa [add_block] at this | exact this) GW9.out) | (rw [add_block]; exact Nat.ne_of_lt (Nat.lt_of_lt_of_le (by have := World.block_lt_of_cell? _ _ hw7_0; first | rwa [add_block] at this | exact this) GW9.out)) | (show (Addr.add _ _).block ≠ _; rw [add_block]; exact Nat.ne_of_lt (Nat.lt_of_lt_of_le (by have := World.block_lt_of_cell? _ _ hw7_0; first | rwa [add_block] at this | exact this) GW9.out)) | (dsimp only; exact Nat.ne_of_lt (Nat.lt_of_lt_of_le (by have := World.block_lt_of_cell? _ _ hw7_0; first | rwa [add_block] at this | exact this) GW9.out))) _).trans (hHeld.2.2.2.2.2.2.2.1)))))))), ((cell_far (p := ⟨gb9, _, none⟩) (by first | exact Nat.ne_of_lt (Nat.lt_of_lt_of_le (by have := World.block_lt_of_cell? _ _ hw8_0; first | rwa [add_block] at this | exact this) GW9.out) | (rw [add_block]; exact Nat.ne_of_lt (Nat.lt_of_lt_of_le (by have := World.block_lt_of_cell? _ _ hw8_0; first | rwa [add_block] at this | exact this) GW9.out)) | (show (Addr.add _ _).block ≠ _; rw [add_block]; exact Nat.ne_of_lt (Nat.lt_of_lt_of_le (by have := World.block_lt_of_cell? _ _ hw8_0; first | rwa [add_block] at this | exact this) GW9.out)) | (dsimp only; exact Nat.ne_of_lt (Nat.lt_of_lt_of_le (by have := World.block_lt_of_cell? _ _ hw8_0; first | rwa [add_block] at this | exact this) GW9.out))) _).trans (((cell_far (p := ⟨gb9, _, none⟩) (by first | exact Nat.ne_of_lt (Nat.lt_of_lt_of_le (by have := World.block_lt_of_cell? _ _ hw8_0; first | rwa [add_block] at this | exact this) GW9.out) | (rw [add_block]; exact Nat.ne_of_lt (Nat.lt_of_lt_of_le (by have := World.block_lt_of_cell? _ _ hw8_0; first | rwa [add_block] at this | exact this) GW9.out)) | (show (Addr.add _ _).block ≠ _; rw [add_block]; exact Nat.ne_of_lt (Nat.lt_of_lt_of_le (by have := World.block_lt_of_cell? _ _ hw8_0; first | rwa [add_block] at this | exact this) GW9.out)) | (dsimp only; exact Nat.ne_of_lt (Nat.lt_of_lt_of_le (by have := World.block_lt_of_cell? _ _ hw8_0; first | rwa [add_block] at this | exact this) GW9.out))) _).trans (((cell_far (p := ⟨gb9, _, none⟩) (by first | exact Nat.ne_of_lt (Nat.lt_of_lt_of_le (by have := World.block_lt_of_cell? _ _ hw8_0; first | rwa [add_block] at this | exact this) GW9.out) | (rw [add_block]; exact Nat.ne_of_lt (Nat.lt_of_lt_of_le (by have := World.block_lt_of_cell? _ _ hw8_0; first | rwa [add_block] at this | exact this) GW9.out)) | (show (Addr.add _ _).block ≠ _; rw [add_block]; exact Nat.ne_of_lt (Nat.lt_of_lt_of_le (by have := World.block_lt_of_cell? _ _ hw8_0; first | rwa [add_block] at this | exact this) GW9.out)) | (dsimp only; exact Nat.ne_of_lt (Nat.lt_of_lt_of_le (by have := World.block_lt_of_cell? _ _ hw8_0; first | rwa [add_block] at this | exact this) GW9.out))) _).trans (((cell_far (p := ⟨gb9, _, none⟩) (by first | exact Nat.ne_of_lt (Nat.lt_of_lt_of_le (by have := World.block_lt_of_cell? _ _ hw8_0; first | rwa [add_block] at this | exact this) GW9.out) | (rw [add_block]; exact Nat.ne_of_lt (Nat.lt_of_lt_of_le (by have := World.block_lt_of_cell? _ _ hw8_0; first | rwa [add_block] at this | exact this) GW9.out)) | (show (Addr.add _ _).block ≠ _; rw [add_block]; exact Nat.ne_of_lt (Nat.lt_of_lt_of_le (by have := World.block_lt_of_cell? _ _ hw8_0; first | rwa [add_block] at this | exact this) GW9.out)) | (dsimp only; exact Nat.ne_of_lt (Nat.lt_of_lt_of_le (by have := World.block_lt_of_cell? _ _ hw8_0; first | rwa [add_block] at this | exact this) GW9.out))) _).trans (hHeld.2.2.2.2.2.2.2.2.1)))))))), ((cell_far (p := ⟨gb9, _, none⟩) (by first | exact Nat.ne_of_lt (Nat.lt_of_lt_of_le (by have := World.block_lt_of_cell? _ _ hw8_1; first | rwa [add_block] at this | exact this) GW9.out) | (rw [add_block]; exact Nat.ne_of_lt (Nat.lt_of_lt_of_le (by have := World.block_lt_of_cell? _ _ hw8_1; first | rwa [add_block] at this | exact this) GW9.out)) | (show (Addr.add _ _).block ≠ _; rw [add_block]; exact Nat.ne_of_lt (Nat.lt_of_lt_of_le (by have := World.block_lt_of_cell? _ _ hw8_1; first | rwa [add_block] at this | exact this) GW9.out)) | (dsimp only; exact Nat.ne_of_lt (Nat.lt_of_lt_of_le (by have := World.block_lt_of_cell? _ _ hw8_1; first | rwa [add_block] at this | exact this) GW9.out))) _).trans (((cell_far (p := ⟨gb9, _, none⟩) (by first | exact Nat.ne_of_lt (Nat.lt_of_lt_of_le (by have := World.block_lt_of_cell? _ _ hw8_1; first | rwa [add_block] at this | exact this) GW9.out) | (rw [add_block]; exact Nat.ne_of_lt (Nat.lt_of_lt_of_le (by have := World.block_lt_of_cell? _ _ hw8_1; first | rwa [add_block] at this | exact this) GW9.out)) | (show (Addr.add _ _).block ≠ _; rw [add_block]; exact Nat.ne_of_lt (Nat.lt_of_lt_of_le (by have := World.block_lt_of_cell? _ _ hw8_1; first | rwa [add_block] at this | exact this) GW9.out)) | (dsimp only; exact Nat.ne_of_lt (Nat.lt_of_lt_of_le (by have := World.block_lt_of_cell? _ _ hw8_1; first | rwa [add_block] at this | exact this) GW9.out))) _).trans (((cell_far (p := ⟨gb9, _, none⟩) (by first | exact Nat.ne_of_lt (Nat.lt_of_lt_of_le (by have := World.block_lt_of_cell? _ _ hw8_1; first | rwa [add_block] at this | exact this) GW9.out) | (rw [add_block]; exact Nat.ne_of_lt (Nat.lt_of_lt_of_le (by have := World.block_lt_of_cell? _ _ hw8_1; first | rwa [add_block] at this | exact this) GW9.out)) | (show (Addr.add _ _).block ≠ _; rw [add_block]; exact Nat.ne_of_lt (Nat.lt_of_lt_of_le (by have := World.block_lt_of_cell? _ _ hw8_1; first | rwa [add_block] at this | exact this) GW9.out)) | (dsimp only; exact Nat.ne_of_lt (Nat.lt_of_lt_of_le (by have := World.block_lt_of_cell? _ _ hw8_1; first | rwa [add_block] at this | exact this) GW9.out))) _).trans (((cell_far (p := ⟨gb9, _, none⟩) (by first | exact Nat.ne_of_lt (Nat.lt_of_lt_of_le (by have := World.block_lt_of_cell? _ _ hw8_1; first | rwa [add_block] at this | exact this) GW9.out) | (rw [add_block]; exact Nat.ne_of_lt (Nat.lt_of_lt_of_le (by have := World.block_lt_of_cell? _ _ hw8_1; first | rwa [add_block] at this | exact this) GW9.out)) | (show (Addr.add _ _).block ≠ _; rw [add_block]; exact Nat.ne_of_lt (Nat.lt_of_lt_of_le (by have := World.block_lt_of_cell? _ _ hw8_1; first | rwa [add_block] at this | exact this) GW9.out)) | (dsimp only; exact Nat.ne_of_lt (Nat.lt_of_lt_of_le (by have := World.block_lt_of_cell? _ _ hw8_1; first | rwa [add_block] at this | exact this) GW9.out))) _).trans (hHeld.2.2.2.2.2.2.2.2.2.1)))))))), ((cell_far (p := ⟨gb9, _, none⟩) (by first | exact Nat.ne_of_lt (Nat.lt_of_lt_of_le (by have := World.block_lt_of_cell? _ _ hw8_2; first | rwa [add_block] at this | exact this) GW9.out) | (rw [add_block]; exact Nat.ne_of_lt (Nat.lt_of_lt_of_le (by have := World.block_lt_of_cell? _ _ hw8_2; first | rwa [add_block] at this | exact this) GW9.out)) | (show (Addr.add _ _).block ≠ _; rw [add_block]; exact Nat.ne_of_lt (Nat.lt_of_lt_of_le (by have := World.block_lt_of_cell? _ _ hw8_2; first | rwa [add_block] at this | exact this) GW9.out)) | (dsimp only; exact Nat.ne_of_lt (Nat.lt_of_lt_of_le (by have := World.block_lt_of_cell? _ _ hw8_2; first | rwa [add_block] at this | exact this) GW9.out))) _).trans (((cell_far (p := ⟨gb9, _, none⟩) (by first | exact Nat.ne_of_lt (Nat.lt_of_lt_of_le (by have := World.block_lt_of_cell? _ _ hw8_2; first | rwa [add_block] at this | exact this) GW9.out) | (rw [add_block]; exact Nat.ne_of_lt (Nat.lt_of_lt_of_le (by have := World.block_lt_of_cell? _ _ hw8_2; first | rwa [add_block] at this | exact this) GW9.out)) | (show (Addr.add _ _).block ≠ _; rw [add_block]; exact Nat.ne_of_lt (Nat.lt_of_lt_of_le (by have := World.block_lt_of_cell? _ _ hw8_2; first | rwa [add_block] at this | exact this) GW9.out)) | (dsimp only; exact Nat.ne_of_lt (Nat.lt_of_lt_of_le (by have := World.block_lt_of_cell? _ _ hw8_2; first | rwa [add_block] at this | exact this) GW9.out))) _).trans (((cell_far (p := ⟨gb9, _, none⟩) (by first | exact Nat.ne_of_lt (Nat.lt_of_lt_of_le (by have := World.block_lt_of_cell? _ _ hw8_2; first | rwa [add_block] at this | exact this) GW9.out) | (rw [add_block]; exact Nat.ne_of_lt (Nat.lt_of_lt_of_le (by have := World.block_lt_of_cell? _ _ hw8_2; first | rwa [add_block] at this | exact this) GW9.out)) | (show (Addr.add _ _).block ≠ _; rw [add_block]; exact Nat.ne_of_lt (Nat.lt_of_lt_of_le (by have := World.block_lt_of_cell? _ _ hw8_2; first | rwa [add_block] at this | exact this) GW9.out)) | (dsimp only; exact Nat.ne_of_lt (Nat.lt_of_lt_of_le (by have := World.block_lt_of_cell? _ _ hw8_2; first | rwa [add_block] at this | exact this) GW9.out))) _).trans (((cell_far (p := ⟨gb9, _, none⟩) (by first | exact Nat.ne_of_lt (Nat.lt_of_lt_of_le (by have := World.block_lt_of_cell? _ _ hw8_2; first | rwa [add_block] at this | exact this) GW9.out) | (rw [add_block]; exact Nat.ne_of_lt (Nat.lt_of_lt_of_le (by have := World.block_lt_of_cell? _ _ hw8_2; first | rwa [add_block] at this | exact this) GW9.out)) | (show (Addr.add _ _).block ≠ _; rw [add_block]; exact Nat.ne_of_lt (Nat.lt_of_lt_of_le (by have := World.block_lt_of_cell? _ _ hw8_2; first | rwa [add_block] at this | exact this) GW9.out)) | (dsimp only; exact Nat.ne_of_lt (Nat.lt_of_lt_of_le (by have := World.block_lt_of_cell? _ _ hw8_2; first | rwa [add_block] at this | exact this) GW9.out))) _).trans (hHeld.2.2.2.2.2.2.2.2.2.2.1)))))))), ((cell_far (p := ⟨gb9, _, none⟩) (by first | exact Nat.ne_of_lt (Nat.lt_of_lt_of_le (by have := World.block_lt_of_cell? _ _ hw8_3; first | rwa [add_block] at this | exact this) GW9.out) | (rw [add_block]; exact Nat.ne_of_lt (Nat.lt_of_lt_of_le (by have := World.block_lt_of_cell? _ _ hw8_3; first | rwa [add_block] at this | exact this) GW9.out)) | (show (Addr.add _ _).block ≠ _; rw [add_block]; exact Nat.ne_of_lt (Nat.lt_of_lt_of_le (by have := World.block_lt_of_cell? _ _ hw8_3; first | rwa [add_block] at this | exact this) GW9.out)) | (dsimp only; exact Nat.ne_of_lt (Nat.lt_of_lt_of_le (by have := World.block_lt_of_cell? _ _ hw8_3; first | rwa [add_block] at this | exact this) GW9.out))) _).trans (((cell_far (p := ⟨gb9, _, none⟩) (by first | exact Nat.ne_of_lt (Nat.lt_of_lt_of_le (by have := World.block_lt_of_cell? _ _ hw8_3; first | rwa [add_block] at this | exact this) GW9.out) | (rw [add_block]; exact Nat.ne_of_lt (Nat.lt_of_lt_of_le (by have := World.block_lt_of_cell? _ _ hw8_3; first | rwa [add_block] at this | exact this) GW9.out)) | (show (Addr.add _ _).block ≠ _; rw [add_block]; exact Nat.ne_of_lt (Nat.lt_of_lt_of_le (by have := World.block_lt_of_cell? _ _ hw8_3; first | rwa [add_block] at this | exact this) GW9.out)) | (dsimp only; exact Nat.ne_of_lt (Nat.lt_of_lt_of_le (by have := World.block_lt_of_cell? _ _ hw8_3; first | rwa [add_block] at this | exact this) GW9.out))) _).trans (((cell_far (p := ⟨gb9, _, none⟩) (by first | exact Nat.ne_of_lt (Nat.lt_of_lt_of_le (by have := World.block_lt_of_cell? _ _ hw8_3; first | rwa [add_block] at this | exact this) GW9.out) | (rw [add_block]; exact Nat.ne_of_lt (Nat.lt_of_lt_of_le (by have := World.block_lt_of_cell? _ _ hw8_3; first | rwa [add_block] at this | exact this) GW9.out)) | (show (Addr.add _ _).block ≠ _; rw [add_block]; exact Nat.ne_of_lt (Nat.lt_of_lt_of_le (by have := World.block_lt_of_cell? _ _ hw8_3; first | rwa [add_block] at this | exact this) GW9.out)) | (dsimp only; exact Nat.ne_of_lt (Nat.lt_of_lt_of_le (by have := World.block_lt_of_cell? _ _ hw8_3; first | rwa [add_block] at this | exact this) GW9.out))) _).trans (((cell_far (p := ⟨gb9, _, none⟩) (by first | exact Nat.ne_of_lt (Nat.lt_of_lt_of_le (by have := World.block_lt_of_cell? _ _ hw8_3; first | rwa [add_block] at this | exact this) GW9.out) | (rw [add_block]; exact Nat.ne_of_lt (Nat.lt_of_lt_of_le (by have := World.block_lt_of_cell? _ _ hw8_3; first | rwa [add_block] at this | exact this) GW9.out)) | (show (Addr.add _ _).block ≠ _; rw [add_block]; exact Nat.ne_of_lt (Nat.lt_of_lt_of_le (by have := World.block_lt_of_cell? _ _ hw8_3; first | rwa [add_block] at this | exact this) GW9.out)) | (dsimp only; exact Nat.ne_of_lt (Nat.lt_of_lt_of_le (by have := World.block_lt_of_cell? _ _ hw8_3; first | rwa [add_block] at this | exact this) GW9.out))) _).trans (hHeld.2.2.2.2.2.2.2.2.2.2.2))))))))⟩ (fun hHeld => ?_)
 clear hK K
 refine done_ (done_of HT_.out (by kernel_rfl)) ?_
 by_cases c41 : ((rd_T82 (rd_L4 l0_1 a2_0) ((rd_T102 l1_1 a2_0).f0)).f0) = 3
 ·rw [if_pos c41] at H
  have c41b0 : (((rd_T82 (rd_L4 l0_1 a2_0) ((rd_T102 l1_1 a2_0).f0)).f0) == 3) = true := beq_iff_eq.mpr c41
  have c41b1 : (((rd_T82 (rd_L4 l0_1 a2_0) ((rd_T102 l1_1 a2_0).f0)).f0) != 3) = false := bne_eq_false_iff_eq.mpr c41
  clear c41
  obtain rfl := Option.some.inj H
  have hnb64 := NB9_1.out
  have hnc64 := NB1_9.out
  have hnb65 := NB9_2.out
  have hnc65 := NB2_9.out
  have hnb66 := NB9_3.out
  have hnc66 := NB3_9.out
  have hnb67 := NB9_5.out
  have hnc67 := NB5_9.out
  obtain ⟨hcz68_0, hcz68_1, hcz68_2, hcz68_3, hfz68_0, hfz68_1, hfz68_2, hfz68_3⟩ := bc4_ BK9.out
  obtain ⟨hcz69_0, hcz69_1, hcz69_2, hfz69_0, hfz69_1, hfz69_2⟩ := bc3_ BK5.out
  try go_wp2
  go_ret
  exact ⟨rr_, bw_⟩
 rw [if_neg c41] at H
 have c41b0 : (((rd_T82 (rd_L4 l0_1 a2_0) ((rd_T102 l1_1 a2_0).f0)).f0) == 3) = false := beq_eq_false_iff_ne.mpr c41
 have c41b1 : (((rd_T82 (rd_L4 l0_1 a2_0) ((rd_T102 l1_1 a2_0).f0)).f0) != 3) = true := bne_iff_ne.mpr c41
 replace H := Option.bind_eq_some_iff.mp H
 obtain ⟨t10, A700, H⟩ := H
 replace H : (if t10 = true then (some ((((rd_T102 l1_1 a2_0).f2).length : Int) == 0)) else (some true)) = some r := H
 have A70 := Aside0.mk A700
 clear A700
 by_cases c71 : t10 = true
 ·subst c71
  have H1 : (some ((((rd_T102 l1_1 a2_0).f2).length : Int) == 0)) = some r := by rw [if_pos rfl] at H; exact H
  clear H
  have H := H1
  clear H1
  obtain rfl := Option.some.inj H
  have hnb94 := NB9_1.out
  have hnc94 := NB1_9.out
  have hnb95 := NB9_2.out
  have hnc95 := NB2_9.out
  have hnb96 := NB9_3.out
  have hnc96 := NB3_9.out
  have hnb97 := NB9_5.out
  have hnc97 := NB5_9.out
  obtain ⟨hcz98_0, hcz98_1, hcz98_2, hcz98_3, hfz98_0, hfz98_1, hfz98_2, hfz98_3⟩ := bc4_ BK9.out
  try go_wp2_with (first | ((with_reducible refine gate_callee (f := 65) rfl ?_); refine goesL_ (some 49) rfl rfl Try.func65 (by kernel_rfl) rfl #[.agg #[.int .i64 ((rd_T82 (rd_L4 l0_1 a2_0) ((rd_T102 l1_1 a2_0).f0)).f0), .int .i64 ((rd_T82 (rd_L4 l0_1 a2_0) ((rd_T102 l1_1 a2_0).f0)).f1), .int .i64 ((rd_T82 (rd_L4 l0_1 a2_0) ((rd_T102 l1_1 a2_0).f0)).f2), .int .i64 ((rd_T82 (rd_L4 l0_1 a2_0) ((rd_T102 l1_1 a2_0).f0)).f3)]] rfl ar_ ?_; (with_reducible refine (spec_HasFence.calls ((rd_T82 (rd_L4 l0_1 a2_0) ((rd_T102 l1_1 a2_0).f0)).f0) ((rd_T82 (rd_L4 l0_1 a2_0) ((rd_T102 l1_1 a2_0).f0)).f1) ((rd_T82 (rd_L4 l0_1 a2_0) ((rd_T102 l1_1 a2_0).f0)).f2) ((rd_T82 (rd_L4 l0_1 a2_0) ((rd_T102 l1_1 a2_0).f0)).f3) true _ A70.out).mono ?_); rintro e w99 ⟨rfl, hb⟩; refine ⟨_, rfl, ?_⟩; have n0_ := Aside0.mk (blk_below (g := gb1) (o := .cells #[.int .i64 a0_0, .slice (some ad6) l0_1.length c0_1] 39 (0, 0)) (by (with_reducible repeat (first | refine blk_drewN ?_ _ | refine blk_drew ?_ | refine blk_alloc ?_ _)); refine blk_far ?_ NB1_9.out _; (with_reducible repeat (first | refine blk_drewN ?_ _ | refine blk_drew ?_ | refine blk_alloc ?_ _)); refine blk_far ?_ NB1_9.out _; (with_reducible repeat (first | refine blk_drewN ?_ _ | refine blk_drew ?_ | refine blk_alloc ?_ _)); refine blk_far ?_ NB1_9.out _; (with_reducible repeat (first | refine blk_drewN ?_ _ | refine blk_drew ?_ | refine blk_alloc ?_ _)); refine blk_far ?_ NB1_9.out _; (with_reducible repeat (first | refine blk_drewN ?_ _ | refine blk_drew ?_ | refine blk_alloc ?_ _)); exact BK1.out) hb); have n1_ := Aside0.mk (blk_below (g := gb2) (o := .cells #[.slice A1_0 l1_0.length c1_0, .slice (some ad4) l1_1.length c1_1] 54 (0, 0)) (by (with_reducible repeat (first | refine blk_drewN ?_ _ | refine blk_drew ?_ | refine blk_alloc ?_ _)); refine blk_far ?_ NB2_9.out _; (with_reducible repeat (first | refine blk_drewN ?_ _ | refine blk_drew ?_ | refine blk_alloc ?_ _)); refine blk_far ?_ NB2_9.out _; (with_reducible repeat (first | refine blk_drewN ?_ _ | refine blk_drew ?_ | refine blk_alloc ?_ _)); refine blk_far ?_ NB2_9.out _; (with_reducible repeat (first | refine blk_drewN ?_ _ | refine blk_drew ?_ | refine blk_alloc ?_ _)); refine blk_far ?_ NB2_9.out _; (with_reducible repeat (first | refine blk_drewN ?_ _ | refine blk_drew ?_ | refine blk_alloc ?_ _)); exact BK2.out) hb); have n2_ := Aside0.mk (blk_below (g := gb3) (o := .cells #[.int .i64 a2_0, .bool false] 127 (0, 0)) (by (with_reducible repeat (first | refine blk_drewN ?_ _ | refine blk_drew ?_ | refine blk_alloc ?_ _)); refine blk_far ?_ NB3_9.out _; (with_reducible repeat (first | refine blk_drewN ?_ _ | refine blk_drew ?_ | refine blk_alloc ?_ _)); refine blk_far ?_ NB3_9.out _; (with_reducible repeat (first | refine blk_drewN ?_ _ | refine blk_drew ?_ | refine blk_alloc ?_ _)); refine blk_far ?_ NB3_9.out _; (with_reducible repeat (first | refine blk_drewN ?_ _ | refine blk_drew ?_ | refine blk_alloc ?_ _)); refine blk_far ?_ NB3_9.out _; (with_reducible repeat (first | refine blk_drewN ?_ _ | refine blk_drew ?_ | refine blk_alloc ?_ _)); exact BK3.out) hb); have n3_ := Aside0.mk (blk_below (g := gb5) (o := .cells #[.int .i64 ((rd_T102 l1_1 a2_0).f0), .slice A4_1 ((rd_T102 l1_1 a2_0).f1).length c4_1, .slice A4_2 ((rd_T102 l1_1 a2_0).f2).length c4_2] 102 (0, 0)) (by (with_reducible repeat (first | refine blk_drewN ?_ _ | refine blk_drew ?_ | refine blk_alloc ?_ _)); refine blk_far ?_ NB5_9.out _; (with_reducible repeat (first | refine blk_drewN ?_ _ | refine blk_drew ?_ | refine blk_alloc ?_ _)); refine blk_far ?_ NB5_9.out _; (with_reducible repeat (first | refine blk_drewN ?_ _ | refine blk_drew ?_ | refine blk_alloc ?_ _)); refine blk_far ?_ NB5_9.out _; (with_reducible repeat (first | refine blk_drewN ?_ _ | refine blk_drew ?_ | refine blk_alloc ?_ _)); refine blk_far ?_ NB5_9.out _; (with_reducible repeat (first | refine blk_drewN ?_ _ | refine blk_drew ?_ | refine blk_alloc ?_ _)); exact BK5.out) hb); have n4_ := Aside0.mk (blk_below (g := gb9) (o := .cells #[.int .i64 ((rd_T82 (rd_L4 l0_1 a2_0) ((rd_T102 l1_1 a2_0).f0)).f0), .int .i64 ((rd_T82 (rd_L4 l0_1 a2_0) ((rd_T102 l1_1 a2_0).f0)).f1), .int .i64 ((rd_T82 (rd_L4 l0_1 a2_0) ((rd_T102 l1_1 a2_0).f0)).f2), .int .i64 ((rd_T82 (rd_L4 l0_1 a2_0) ((rd_T102 l1_1 a2_0).f0)).f3)] 82 (0, 0)) (by (with_reducible repeat (first | refine blk_drewN ?_ _ | refine blk_drew ?_ | refine blk_alloc ?_ _)); refine blk_put (cs := #[.int .i64 ((rd_T82 (rd_L4 l0_1 a2_0) ((rd_T102 l1_1 a2_0).f0)).f0), .int .i64 ((rd_T82 (rd_L4 l0_1 a2_0) ((rd_T102 l1_1 a2_0).f0)).f1), .int .i64 ((rd_T82 (rd_L4 l0_1 a2_0) ((rd_T102 l1_1 a2_0).f0)).f2), .int .i64 0]) ?_ 3 _ rfl; (with_reducible repeat (first | refine blk_drewN ?_ _ | refine blk_drew ?_ | refine blk_alloc ?_ _)); refine blk_put (cs := #[.int .i64 ((rd_T82 (rd_L4 l0_1 a2_0) ((rd_T102 l1_1 a2_0).f0)).f0), .int .i64 ((rd_T82 (rd_L4 l0_1 a2_0) ((rd_T102 l1_1 a2_0).f0)).f1), .int .i64 0, .int .i64 0]) ?_ 2 _ rfl; (with_reducible repeat (first | refine blk_drewN ?_ _ | refine blk_drew ?_ | refine blk_alloc ?_ _)); refine blk_put (cs := #[.int .i64 ((rd_T82 (rd_L4 l0_1 a2_0) ((rd_T102 l1_1 a2_0).f0)).f0), .int .i64 0, .int .i64 0, .int .i64 0]) ?_ 1 _ rfl; (with_reducible repeat (first | refine blk_drewN ?_ _ | refine blk_drew ?_ | refine blk_alloc ?_ _)); refine blk_put (cs := #[.int .i64 0, .int .i64 0, .int .i64 0, .int .i64 0]) ?_ 0 _ rfl; (with_reducible repeat (first | refine blk_drewN ?_ _ | refine blk_drew ?_ | refine blk_alloc ?_ _)); exact BK9.out) hb); have n5_ := bs_ hb; clear BK1; clear BK2; clear BK3; clear BK5; clear BK9; clear HB; have BK1 := n0_; have BK2 := n1_; have BK3 := n2_; have BK5 := n3_; have BK9 := n4_; have HB := n5_; clear n0_ n1_ n2_ n3_ n4_ n5_; (try clear hb); (try clear hb2); (try clear hk); (try clear hi); obtain ⟨hcz100_0, hcz100_1, hcz100_2, hfz100_0, hfz100_1, hfz100_2⟩ := bc3_ BK5.out))
  go_ret
  exact ⟨rr_, bw_⟩
 replace c71 := Bool.eq_false_iff.mpr c71
 subst c71
 have H1 : (some true) = some r := by rw [if_neg (show ¬ (false = true) by decide)] at H; exact H
 clear H
 have H := H1
 clear H1
 obtain rfl := Option.some.inj H
 have hnb123 := NB9_1.out
 have hnc123 := NB1_9.out
 have hnb124 := NB9_2.out
 have hnc124 := NB2_9.out
 have hnb125 := NB9_3.out
 have hnc125 := NB3_9.out
 have hnb126 := NB9_5.out
 have hnc126 := NB5_9.out
 obtain ⟨hcz127_0, hcz127_1, hcz127_2, hcz127_3, hfz127_0, hfz127_1, hfz127_2, hfz127_3⟩ := bc4_ BK9.out
 try go_wp2_with (first | ((with_reducible refine gate_callee (f := 65) rfl ?_); refine goesL_ (some 49) rfl rfl Try.func65 (by kernel_rfl) rfl #[.agg #[.int .i64 ((rd_T82 (rd_L4 l0_1 a2_0) ((rd_T102 l1_1 a2_0).f0)).f0), .int .i64 ((rd_T82 (rd_L4 l0_1 a2_0) ((rd_T102 l1_1 a2_0).f0)).f1), .int .i64 ((rd_T82 (rd_L4 l0_1 a2_0) ((rd_T102 l1_1 a2_0).f0)).f2), .int .i64 ((rd_T82 (rd_L4 l0_1 a2_0) ((rd_T102 l1_1 a2_0).f0)).f3)]] rfl ar_ ?_; (with_reducible refine (spec_HasFence.calls ((rd_T82 (rd_L4 l0_1 a2_0) ((rd_T102 l1_1 a2_0).f0)).f0) ((rd_T82 (rd_L4 l0_1 a2_0) ((rd_T102 l1_1 a2_0).f0)).f1) ((rd_T82 (rd_L4 l0_1 a2_0) ((rd_T102 l1_1 a2_0).f0)).f2) ((rd_T82 (rd_L4 l0_1 a2_0) ((rd_T102 l1_1 a2_0).f0)).f3) false _ A70.out).mono ?_); rintro e w128 ⟨rfl, hb⟩; refine ⟨_, rfl, ?_⟩; have n0_ := Aside0.mk (blk_below (g := gb1) (o := .cells #[.int .i64 a0_0, .slice (some ad6) l0_1.length c0_1] 39 (0, 0)) (by (with_reducible repeat (first | refine blk_drewN ?_ _ | refine blk_drew ?_ | refine blk_alloc ?_ _)); refine blk_far ?_ NB1_9.out _; (with_reducible repeat (first | refine blk_drewN ?_ _ | refine blk_drew ?_ | refine blk_alloc ?_ _)); refine blk_far ?_ NB1_9.out _; (with_reducible repeat (first | refine blk_drewN ?_ _ | refine blk_drew ?_ | refine blk_alloc ?_ _)); refine blk_far ?_ NB1_9.out _; (with_reducible repeat (first | refine blk_drewN ?_ _ | refine blk_drew ?_ | refine blk_alloc ?_ _)); refine blk_far ?_ NB1_9.out _; (with_reducible repeat (first | refine blk_drewN ?_ _ | refine blk_drew ?_ | refine blk_alloc ?_ _)); exact BK1.out) hb); have n1_ := Aside0.mk (blk_below (g := gb2) (o := .cells #[.slice A1_0 l1_0.length c1_0, .slice (some ad4) l1_1.length c1_1] 54 (0, 0)) (by (with_reducible repeat (first | refine blk_drewN ?_ _ | refine blk_drew ?_ | refine blk_alloc ?_ _)); refine blk_far ?_ NB2_9.out _; (with_reducible repeat (first | refine blk_drewN ?_ _ | refine blk_drew ?_ | refine blk_alloc ?_ _)); refine blk_far ?_ NB2_9.out _; (with_reducible repeat (first | refine blk_drewN ?_ _ | refine blk_drew ?_ | refine blk_alloc ?_ _)); refine blk_far ?_ NB2_9.out _; (with_reducible repeat (first | refine blk_drewN ?_ _ | refine blk_drew ?_ | refine blk_alloc ?_ _)); refine blk_far ?_ NB2_9.out _; (with_reducible repeat (first | refine blk_drewN ?_ _ | refine blk_drew ?_ | refine blk_alloc ?_ _)); exact BK2.out) hb); have n2_ := Aside0.mk (blk_below (g := gb3) (o := .cells #[.int .i64 a2_0, .bool false] 127 (0, 0)) (by (with_reducible repeat (first | refine blk_drewN ?_ _ | refine blk_drew ?_ | refine blk_alloc ?_ _)); refine blk_far ?_ NB3_9.out _; (with_reducible repeat (first | refine blk_drewN ?_ _ | refine blk_drew ?_ | refine blk_alloc ?_ _)); refine blk_far ?_ NB3_9.out _; (with_reducible repeat (first | refine blk_drewN ?_ _ | refine blk_drew ?_ | refine blk_alloc ?_ _)); refine blk_far ?_ NB3_9.out _; (with_reducible repeat (first | refine blk_drewN ?_ _ | refine blk_drew ?_ | refine blk_alloc ?_ _)); refine blk_far ?_ NB3_9.out _; (with_reducible repeat (first | refine blk_drewN ?_ _ | refine blk_drew ?_ | refine blk_alloc ?_ _)); exact BK3.out) hb); have n3_ := Aside0.mk (blk_below (g := gb5) (o := .cells #[.int .i64 ((rd_T102 l1_1 a2_0).f0), .slice A4_1 ((rd_T102 l1_1 a2_0).f1).length c4_1, .slice A4_2 ((rd_T102 l1_1 a2_0).f2).length c4_2] 102 (0, 0)) (by (with_reducible repeat (first | refine blk_drewN ?_ _ | refine blk_drew ?_ | refine blk_alloc ?_ _)); refine blk_far ?_ NB5_9.out _; (with_reducible repeat (first | refine blk_drewN ?_ _ | refine blk_drew ?_ | refine blk_alloc ?_ _)); refine blk_far ?_ NB5_9.out _; (with_reducible repeat (first | refine blk_drewN ?_ _ | refine blk_drew ?_ | refine blk_alloc ?_ _)); refine blk_far ?_ NB5_9.out _; (with_reducible repeat (first | refine blk_drewN ?_ _ | refine blk_drew ?_ | refine blk_alloc ?_ _)); refine blk_far ?_ NB5_9.out _; (with_reducible repeat (first | refine blk_drewN ?_ _ | refine blk_drew ?_ | refine blk_alloc ?_ _)); exact BK5.out) hb); have n4_ := Aside0.mk (blk_below (g := gb9) (o := .cells #[.int .i64 ((rd_T82 (rd_L4 l0_1 a2_0) ((rd_T102 l1_1 a2_0).f0)).f0), .int .i64 ((rd_T82 (rd_L4 l0_1 a2_0) ((rd_T102 l1_1 a2_0).f0)).f1), .int .i64 ((rd_T82 (rd_L4 l0_1 a2_0) ((rd_T102 l1_1 a2_0).f0)).f2), .int .i64 ((rd_T82 (rd_L4 l0_1 a2_0) ((rd_T102 l1_1 a2_0).f0)).f3)] 82 (0, 0)) (by (with_reducible repeat (first | refine blk_drewN ?_ _ | refine blk_drew ?_ | refine blk_alloc ?_ _)); refine blk_put (cs := #[.int .i64 ((rd_T82 (rd_L4 l0_1 a2_0) ((rd_T102 l1_1 a2_0).f0)).f0), .int .i64 ((rd_T82 (rd_L4 l0_1 a2_0) ((rd_T102 l1_1 a2_0).f0)).f1), .int .i64 ((rd_T82 (rd_L4 l0_1 a2_0) ((rd_T102 l1_1 a2_0).f0)).f2), .int .i64 0]) ?_ 3 _ rfl; (with_reducible repeat (first | refine blk_drewN ?_ _ | refine blk_drew ?_ | refine blk_alloc ?_ _)); refine blk_put (cs := #[.int .i64 ((rd_T82 (rd_L4 l0_1 a2_0) ((rd_T102 l1_1 a2_0).f0)).f0), .int .i64 ((rd_T82 (rd_L4 l0_1 a2_0) ((rd_T102 l1_1 a2_0).f0)).f1), .int .i64 0, .int .i64 0]) ?_ 2 _ rfl; (with_reducible repeat (first | refine blk_drewN ?_ _ | refine blk_drew ?_ | refine blk_alloc ?_ _)); refine blk_put (cs := #[.int .i64 ((rd_T82 (rd_L4 l0_1 a2_0) ((rd_T102 l1_1 a2_0).f0)).f0), .int .i64 0, .int .i64 0, .int .i64 0]) ?_ 1 _ rfl; (with_reducible repeat (first | refine blk_drewN ?_ _ | refine blk_drew ?_ | refine blk_alloc ?_ _)); refine blk_put (cs := #[.int .i64 0, .int .i64 0, .int .i64 0, .int .i64 0]) ?_ 0 _ rfl; (with_reducible repeat (first | refine blk_drewN ?_ _ | refine blk_drew ?_ | refine blk_alloc ?_ _)); exact BK9.out) hb); have n5_ := bs_ hb; clear BK1; clear BK2; clear BK3; clear BK5; clear BK9; clear HB; have BK1 := n0_; have BK2 := n1_; have BK3 := n2_; have BK5 := n3_; have BK9 := n4_; have HB := n5_; clear n0_ n1_ n2_ n3_ n4_ n5_; (try clear hb); (try clear hb2); (try clear hk); (try clear hi)))
 go_ret
 exact ⟨rr_, bw_⟩

end Go.Proofs.Ytlfbdafghpmahaa.P
