-- Written by mp.py (the session's own driver over the kit's printer) for the seat Ytlfbdafghpmahaa.
import Derived.Test.YtlfbdafghpmahaaK
import Derived.Test.YtlfbdafghpmahaaPimplMachineOk
import Derived.Test.YtlfbdafghpmahaaPlawstoThread
namespace Go.Proofs.Ytlfbdafghpmahaa.P
open Go.RowKit Go.Proofs.YtlfbdafghpmahaaW.PrintWords Go.Proofs.YtlfbdafghpmahaaW.PrintLast Go.Proofs.YtlfbdafghpmahaaW.PrintMore
attribute [local go_sem] max2_int min2_int max_two min_two max_three min_three max_four min_four
set_option linter.unusedVariables false
set_option linter.unusedSimpArgs false

/-! ### impl_canMove: function 126 -/
def impl_canMove.f (a0_0 : Int) (l0_1 : List (List (S82))) (l1_0 : List Int) (l1_1 : List (S102)) (a2_0 : Int) (a2_1 : Bool) : Option (Bool) := (impl_within.f a2_0 0 (wrap64 ((l1_1.length : Int) - 1))).bind fun t4 => (if t4 = true then (if 0 ≤ a2_0 then (if a2_0 < (l1_1.length : Int) then (if a2_0 < (l0_1.length : Int) then (if a2_1 = true then (some (decide ((((rd_T102 l1_1 a2_0).f2).length : Int) > 0))) else (if ((rd_T102 l1_1 a2_0).f0) = ((rd_L4 l0_1 a2_0).length : Int) then (some false) else (if 0 ≤ ((rd_T102 l1_1 a2_0).f0) then (if ((rd_T102 l1_1 a2_0).f0) < ((rd_L4 l0_1 a2_0).length : Int) then (if ((rd_T82 (rd_L4 l0_1 a2_0) ((rd_T102 l1_1 a2_0).f0)).f0) = 3 then (some (decide ((((rd_T102 l1_1 a2_0).f2).length : Int) < 3))) else ((impl_HasFence.f ((rd_T82 (rd_L4 l0_1 a2_0) ((rd_T102 l1_1 a2_0).f0)).f0) ((rd_T82 (rd_L4 l0_1 a2_0) ((rd_T102 l1_1 a2_0).f0)).f1) ((rd_T82 (rd_L4 l0_1 a2_0) ((rd_T102 l1_1 a2_0).f0)).f2) ((rd_T82 (rd_L4 l0_1 a2_0) ((rd_T102 l1_1 a2_0).f0)).f3)).bind fun t10 => (if t10 = true then (some ((((rd_T102 l1_1 a2_0).f2).length : Int) == 0)) else (some true)))) else (none)) else (none)))) else (none)) else (none)) else (none)) else (some false))
def impl_canMove.T3 : Bool × List (List Nat × List Nat) := (true, [([], []), ([0], [0]), ([], []), ([2], [2]), ([1, 3], [1, 3]), ([4], [4]), ([], []), ([6], [6]), ([], []), ([8], [8]), ([7, 9], [7, 9]), ([10], [10]), ([], []), ([12, 5, 0, 1, 2, 3, 4, 5, 12], [5, 12]), ([11, 13, 0, 1, 2, 3, 4, 5, 6, 7, 8, 9, 10, 11, 12, 13], [11])])
def impl_canMove.B3 : List Nat := [0, 1, 0, 4, 15, 31, 0, 64, 0, 256, 960, 1984, 0, 4159, 16383]
theorem impl_canMove.tab3 : rtab .any (opsOf Try.f126 3) = impl_canMove.T3 := by kernel_rfl
theorem impl_canMove.bits3 : waitsOk impl_canMove.T3.2 impl_canMove.B3 = true := by kernel_rfl
set_option maxHeartbeats 8000000 in
set_option maxRecDepth 100000 in
theorem impl_canMove.calls (a0_0 : Int) (A0_1 : Option Addr) (c0_1 : Nat) (l0_1 : List (List (S82))) (A1_0 : Option Addr) (c1_0 : Nat) (l1_0 : List Int) (A1_1 : Option Addr) (c1_1 : Nat) (l1_1 : List (S102)) (a2_0 : Int) (a2_1 : Bool) (r : Bool) (w : World) (hr0_1 : Kd.C (Kd.slice 82 k82) w A0_1 l0_1.length l0_1) (hc0_1 : l0_1.length ≤ c0_1) (hr1_0 : Kd.C (Kd.int .i64) w A1_0 l1_0.length l1_0) (hc1_0 : l1_0.length ≤ c1_0) (hr1_1 : Kd.C k102 w A1_1 l1_1.length l1_1) (hc1_1 : l1_1.length ≤ c1_1) (h : impl_canMove.f a0_0 l0_1 l1_0 l1_1 a2_0 a2_1 = some r) :
  Calls Try.prog 126 #[.agg #[.int .i64 a0_0, .slice A0_1 l0_1.length c0_1], .agg #[.slice A1_0 l1_0.length c1_0, .slice A1_1 l1_1.length c1_1], .agg #[.int .i64 a2_0, .bool a2_1]] w fun e w' => e = .returned (.bool r) ∧ Below w.heap.size w w' := by
 have hu39 := Try.underlying39
 have hu54 := Try.underlying54
 have hu127 := Try.underlying127
 have hu102 := Try.underlying102
 have hu82 := Try.underlying82
 have HR0_1 := Aside0.mk hr0_1
 have HC0_1 := Aside0.mk hc0_1
 clear hr0_1 hc0_1
 have HR1_0 := Aside0.mk hr1_0
 have HC1_0 := Aside0.mk hc1_0
 clear hr1_0 hc1_0
 have HR1_1 := Aside0.mk hr1_1
 have HC1_1 := Aside0.mk hc1_1
 clear hr1_1 hc1_1
 have HB := Aside0.mk (Below.refl w.heap.size w)
 have H : ((impl_within.f a2_0 0 (wrap64 ((l1_1.length : Int) - 1))).bind fun t4 => (if t4 = true then (if 0 ≤ a2_0 then (if a2_0 < (l1_1.length : Int) then (if a2_0 < (l0_1.length : Int) then (if a2_1 = true then (some (decide ((((rd_T102 l1_1 a2_0).f2).length : Int) > 0))) else (if ((rd_T102 l1_1 a2_0).f0) = ((rd_L4 l0_1 a2_0).length : Int) then (some false) else (if 0 ≤ ((rd_T102 l1_1 a2_0).f0) then (if ((rd_T102 l1_1 a2_0).f0) < ((rd_L4 l0_1 a2_0).length : Int) then (if ((rd_T82 (rd_L4 l0_1 a2_0) ((rd_T102 l1_1 a2_0).f0)).f0) = 3 then (some (decide ((((rd_T102 l1_1 a2_0).f2).length : Int) < 3))) else ((impl_HasFence.f ((rd_T82 (rd_L4 l0_1 a2_0) ((rd_T102 l1_1 a2_0).f0)).f0) ((rd_T82 (rd_L4 l0_1 a2_0) ((rd_T102 l1_1 a2_0).f0)).f1) ((rd_T82 (rd_L4 l0_1 a2_0) ((rd_T102 l1_1 a2_0).f0)).f2) ((rd_T82 (rd_L4 l0_1 a2_0) ((rd_T102 l1_1 a2_0).f0)).f3)).bind fun t10 => (if t10 = true then (some ((((rd_T102 l1_1 a2_0).f2).length : Int) == 0)) else (some true)))) else (none)) else (none)))) else (none)) else (none)) else (none)) else (some false))) = some r := h
 clear h
 replace H := Option.bind_eq_some_iff.mp H
 obtain ⟨t4, A40, H⟩ := H
 replace H : (if t4 = true then (if 0 ≤ a2_0 then (if a2_0 < (l1_1.length : Int) then (if a2_0 < (l0_1.length : Int) then (if a2_1 = true then (some (decide ((((rd_T102 l1_1 a2_0).f2).length : Int) > 0))) else (if ((rd_T102 l1_1 a2_0).f0) = ((rd_L4 l0_1 a2_0).length : Int) then (some false) else (if 0 ≤ ((rd_T102 l1_1 a2_0).f0) then (if ((rd_T102 l1_1 a2_0).f0) < ((rd_L4 l0_1 a2_0).length : Int) then (if ((rd_T82 (rd_L4 l0_1 a2_0) ((rd_T102 l1_1 a2_0).f0)).f0) = 3 then (some (decide ((((rd_T102 l1_1 a2_0).f2).length : Int) < 3))) else ((impl_HasFence.f ((rd_T82 (rd_L4 l0_1 a2_0) ((rd_T102 l1_1 a2_0).f0)).f0) ((rd_T82 (rd_L4 l0_1 a2_0) ((rd_T102 l1_1 a2_0).f0)).f1) ((rd_T82 (rd_L4 l0_1 a2_0) ((rd_T102 l1_1 a2_0).f0)).f2) ((rd_T82 (rd_L4 l0_1 a2_0) ((rd_T102 l1_1 a2_0).f0)).f3)).bind fun t10 => (if t10 = true then (some ((((rd_T102 l1_1 a2_0).f2).length : Int) == 0)) else (some true)))) else (none)) else (none)))) else (none)) else (none)) else (none)) else (some false)) = some r := H
 have A4 := Aside0.mk A40
 clear A40
 by_cases c5 : t4 = true
 rotate_left
 ·replace c5 := Bool.eq_false_iff.mpr c5
  subst c5
  have H1 : (some false) = some r := by rw [if_neg (show ¬ (false = true) by decide)] at H; exact H
  clear H
  have H := H1
  clear H1
  obtain rfl := Option.some.inj H
  go_enter Try.func126, Try.ntmps126
  go_wp2_with (first | ((with_reducible refine gate_dst (N := 3) rfl ?_); refine box_event ?hg (N := 3) ?hd (cs := #[.int .i64 a0_0, .slice A0_1 l0_1.length c0_1]) (t := 39) ?hr ?_; (case hd => rfl); (case hg => rfl); (case hr => exact hr_); intro gb1 hg w109 hbox hb; have n0_ := bs_ hb; have n1_ := Aside0.mk (hbox); have n2_ := ge_ (w := w) hg; have n3_ := ge_ (w := w) hg; clear HB; have HB := n0_; have BK1 := n1_; have GW1 := n2_; have GE1 := n3_; clear n0_ n1_ n2_ n3_; clear hb hbox hg) | ((with_reducible refine gate_dst (N := 4) rfl ?_); refine box_event ?hg (N := 4) ?hd (cs := #[.slice A1_0 l1_0.length c1_0, .slice A1_1 l1_1.length c1_1]) (t := 54) ?hr ?_; (case hd => rfl); (case hg => rfl); (case hr => exact hr_); intro gb2 hg w110 hbox hb; have n0_ := bb_ BK1.out hb; have n1_ := bs_ hb; have n2_ := Aside0.mk (hbox); have n3_ := ge_ (w := w) hg; have n4_ := ge_ (w := w) hg; have n5_ := nl_ BK1.out hg; have n6_ := nr_ BK1.out hg; clear BK1; clear HB; have BK1 := n0_; have HB := n1_; have BK2 := n2_; have GW2 := n3_; have GE2 := n4_; have NB1_2 := n5_; have NB2_1 := n6_; clear n0_ n1_ n2_ n3_ n4_ n5_ n6_; clear hb hbox hg) | ((with_reducible refine gate_dst (N := 5) rfl ?_); refine box_event ?hg (N := 5) ?hd (cs := #[.int .i64 a2_0, .bool a2_1]) (t := 127) ?hr ?_; (case hd => rfl); (case hg => rfl); (case hr => exact hr_); intro gb3 hg w111 hbox hb; have n0_ := bb_ BK1.out hb; have n1_ := bb_ BK2.out hb; have n2_ := bs_ hb; have n3_ := Aside0.mk (hbox); have n4_ := ge_ (w := w) hg; have n5_ := ge_ (w := w) hg; have n6_ := nl_ BK1.out hg; have n7_ := nr_ BK1.out hg; have n8_ := nl_ BK2.out hg; have n9_ := nr_ BK2.out hg; clear BK1; clear BK2; clear HB; have BK1 := n0_; have BK2 := n1_; have HB := n2_; have BK3 := n3_; have GW3 := n4_; have GE3 := n5_; have NB1_3 := n6_; have NB3_1 := n7_; have NB2_3 := n8_; have NB3_2 := n9_; clear n0_ n1_ n2_ n3_ n4_ n5_ n6_ n7_ n8_ n9_; clear hb hbox hg; have hnb112 := NB3_1.out; have hnc112 := NB1_3.out; have hnb113 := NB3_2.out; have hnc113 := NB2_3.out; obtain ⟨hcz114_0, hcz114_1, hfz114_0, hfz114_1⟩ := bc2_ BK3.out; have hnb115 := NB2_1.out; have hnc115 := NB1_2.out; obtain ⟨hcz116_0, hcz116_1, hfz116_0, hfz116_1⟩ := bc2_ BK2.out) | ((with_reducible refine gate_callee (f := 103) rfl ?_); refine goesL_ (some 15) rfl rfl Try.func103 (by kernel_rfl) rfl #[.int .i64 a2_0, .int .i64 0, .int .i64 (wrap64 ((l1_1.length : Int) - 1))] rfl ar_ ?_; (with_reducible refine (impl_within.calls a2_0 0 (wrap64 ((l1_1.length : Int) - 1)) false _ A4.out).mono ?_); rintro e w' ⟨rfl, ⟨nd, rfl⟩⟩; refine ⟨_, rfl, ?_⟩))
  go_ret
  exact ⟨rr_, bw_⟩
 subst c5
 have H1 : (if 0 ≤ a2_0 then (if a2_0 < (l1_1.length : Int) then (if a2_0 < (l0_1.length : Int) then (if a2_1 = true then (some (decide ((((rd_T102 l1_1 a2_0).f2).length : Int) > 0))) else (if ((rd_T102 l1_1 a2_0).f0) = ((rd_L4 l0_1 a2_0).length : Int) then (some false) else (if 0 ≤ ((rd_T102 l1_1 a2_0).f0) then (if ((rd_T102 l1_1 a2_0).f0) < ((rd_L4 l0_1 a2_0).length : Int) then (if ((rd_T82 (rd_L4 l0_1 a2_0) ((rd_T102 l1_1 a2_0).f0)).f0) = 3 then (some (decide ((((rd_T102 l1_1 a2_0).f2).length : Int) < 3))) else ((impl_HasFence.f ((rd_T82 (rd_L4 l0_1 a2_0) ((rd_T102 l1_1 a2_0).f0)).f0) ((rd_T82 (rd_L4 l0_1 a2_0) ((rd_T102 l1_1 a2_0).f0)).f1) ((rd_T82 (rd_L4 l0_1 a2_0) ((rd_T102 l1_1 a2_0).f0)).f2) ((rd_T82 (rd_L4 l0_1 a2_0) ((rd_T102 l1_1 a2_0).f0)).f3)).bind fun t10 => (if t10 = true then (some ((((rd_T102 l1_1 a2_0).f2).length : Int) == 0)) else (some true)))) else (none)) else (none)))) else (none)) else (none)) else (none)) = some r := by rw [if_pos rfl] at H; exact H
 clear H
 have H := H1
 clear H1
 by_cases c6 : 0 ≤ a2_0
 rotate_left
 ·rw [if_neg c6] at H
  exact absurd H (by simp)
 rw [if_pos c6] at H
 have c6b0 : decide (0 ≤ a2_0) = true := decide_eq_true c6
 clear c6
 by_cases c7 : a2_0 < (l1_1.length : Int)
 rotate_left
 ·rw [if_neg c7] at H
  exact absurd H (by simp)
 rw [if_pos c7] at H
 have c7b0 : decide (a2_0 < (l1_1.length : Int)) = true := decide_eq_true c7
 clear c7
 by_cases c8 : a2_0 < (l0_1.length : Int)
 rotate_left
 ·rw [if_neg c8] at H
  exact absurd H (by simp)
 rw [if_pos c8] at H
 have c8b0 : decide (a2_0 < (l0_1.length : Int)) = true := decide_eq_true c8
 clear c8
 go_enter Try.func126, Try.ntmps126
 try go_wp2_with (first | ((with_reducible refine gate_dst (N := 3) rfl ?_); refine box_event ?hg (N := 3) ?hd (cs := #[.int .i64 a0_0, .slice A0_1 l0_1.length c0_1]) (t := 39) ?hr ?_; (case hd => rfl); (case hg => rfl); (case hr => exact hr_); intro gb1 hg w10 hbox hb; have n0_ := bs_ hb; have n1_ := Aside0.mk (hbox); have n2_ := ge_ (w := w) hg; have n3_ := ge_ (w := w) hg; clear HB; have HB := n0_; have BK1 := n1_; have GW1 := n2_; have GE1 := n3_; clear n0_ n1_ n2_ n3_; clear hb hbox hg) | ((with_reducible refine gate_dst (N := 4) rfl ?_); refine box_event ?hg (N := 4) ?hd (cs := #[.slice A1_0 l1_0.length c1_0, .slice A1_1 l1_1.length c1_1]) (t := 54) ?hr ?_; (case hd => rfl); (case hg => rfl); (case hr => exact hr_); intro gb2 hg w11 hbox hb; have n0_ := bb_ BK1.out hb; have n1_ := bs_ hb; have n2_ := Aside0.mk (hbox); have n3_ := ge_ (w := w) hg; have n4_ := ge_ (w := w) hg; have n5_ := nl_ BK1.out hg; have n6_ := nr_ BK1.out hg; clear BK1; clear HB; have BK1 := n0_; have HB := n1_; have BK2 := n2_; have GW2 := n3_; have GE2 := n4_; have NB1_2 := n5_; have NB2_1 := n6_; clear n0_ n1_ n2_ n3_ n4_ n5_ n6_; clear hb hbox hg) | ((with_reducible refine gate_dst (N := 5) rfl ?_); refine box_event ?hg (N := 5) ?hd (cs := #[.int .i64 a2_0, .bool a2_1]) (t := 127) ?hr ?_; (case hd => rfl); (case hg => rfl); (case hr => exact hr_); intro gb3 hg w12 hbox hb; have n0_ := bb_ BK1.out hb; have n1_ := bb_ BK2.out hb; have n2_ := bs_ hb; have n3_ := Aside0.mk (hbox); have n4_ := ge_ (w := w) hg; have n5_ := ge_ (w := w) hg; have n6_ := nl_ BK1.out hg; have n7_ := nr_ BK1.out hg; have n8_ := nl_ BK2.out hg; have n9_ := nr_ BK2.out hg; clear BK1; clear BK2; clear HB; have BK1 := n0_; have BK2 := n1_; have HB := n2_; have BK3 := n3_; have GW3 := n4_; have GE3 := n5_; have NB1_3 := n6_; have NB3_1 := n7_; have NB2_3 := n8_; have NB3_2 := n9_; clear n0_ n1_ n2_ n3_ n4_ n5_ n6_ n7_ n8_ n9_; clear hb hbox hg; have hnb13 := NB3_1.out; have hnc13 := NB1_3.out; have hnb14 := NB3_2.out; have hnc14 := NB2_3.out; obtain ⟨hcz15_0, hcz15_1, hfz15_0, hfz15_1⟩ := bc2_ BK3.out; have hnb16 := NB2_1.out; have hnc16 := NB1_2.out; obtain ⟨hcz17_0, hcz17_1, hfz17_0, hfz17_1⟩ := bc2_ BK2.out) | ((with_reducible refine gate_callee (f := 103) rfl ?_); refine goesL_ (some 15) rfl rfl Try.func103 (by kernel_rfl) rfl #[.int .i64 a2_0, .int .i64 0, .int .i64 (wrap64 ((l1_1.length : Int) - 1))] rfl ar_ ?_; (with_reducible refine (impl_within.calls a2_0 0 (wrap64 ((l1_1.length : Int) - 1)) true _ A4.out).mono ?_); rintro e w' ⟨rfl, ⟨nd, rfl⟩⟩; refine ⟨_, rfl, ?_⟩; (try (rw [drewN_self w12]; generalize hq_ : World.drewN w12 _ = w12; have n0_ : Aside0 (w12.heap[gb1]? = some (.cells #[.int .i64 a0_0, .slice A0_1 l0_1.length c0_1] 39 (0, 0))) := ⟨by rw [← hq_]; exact bk_⟩; have n1_ : Aside0 (w12.heap[gb2]? = some (.cells #[.slice A1_0 l1_0.length c1_0, .slice A1_1 l1_1.length c1_1] 54 (0, 0))) := ⟨by rw [← hq_]; exact bk_⟩; have n2_ : Aside0 (w12.heap[gb3]? = some (.cells #[.int .i64 a2_0, .bool a2_1] 127 (0, 0))) := ⟨by rw [← hq_]; exact bk_⟩; have n3_ : Aside0 (Below w.heap.size w w12) := ⟨by rw [← hq_]; exact bw_⟩; clear BK1 BK2 BK3 HB hq_; have BK1 := n0_; have BK2 := n1_; have BK3 := n2_; have HB := n3_; clear n0_ n1_ n2_ n3_))))
 have n0_ := Aside0.mk (blk_drew BK1.out)
 have n1_ := Aside0.mk (blk_drew BK2.out)
 have n2_ := Aside0.mk (blk_drew BK3.out)
 have n3_ := Aside0.mk (below_drew1 HB.out)
 clear BK1
 clear BK2
 clear BK3
 clear HB
 have BK1 := n0_
 have BK2 := n1_
 have BK3 := n2_
 have HB := n3_
 clear n0_ n1_ n2_ n3_
 have p5 : 0 ≤ (a2_0 : Int) := od_
 have q5 : a2_0 < (l1_1.length : Int) := od_
 obtain ⟨ad5, A5_1, c5_1, A5_2, c5_2, e5, hx5_0, hx5_1, hx5_2, hl5_1, hi5_1, hl5_2, hi5_2⟩ := at_T102 HR1_1.out a2_0 p5 q5
 have hw5_2 := hx5_2
 have hw5_1 := hx5_1
 have hw5_0 := hx5_0
 cases e5
 replace hx5_0 := (HB.out.cell (World.block_lt_of_cell? w _ hx5_0)).trans hx5_0
 replace hx5_1 := (HB.out.cell (World.block_lt_of_cell? w _ hx5_1)).trans hx5_1
 replace hx5_2 := (HB.out.cell (World.block_lt_of_cell? w _ hx5_2)).trans hx5_2
 have HR5_1 := Aside0.mk hi5_1
 have HC5_1 := Aside0.mk hl5_1
 clear hi5_1 hl5_1
 have HR5_2 := Aside0.mk hi5_2
 have HC5_2 := Aside0.mk hl5_2
 clear hi5_2 hl5_2
 replace p5 := eq_true p5
 replace q5 := eq_true q5
 have p6 : 0 ≤ (a2_0 : Int) := od_
 have q6 : a2_0 < (l0_1.length : Int) := od_
 obtain ⟨ad6, A6_0, c6_0, e6, hx6_0, hl6_0, hi6_0⟩ := at_L4 HR0_1.out a2_0 p6 q6
 have hw6_0 := hx6_0
 cases e6
 replace hx6_0 := (HB.out.cell (World.block_lt_of_cell? w _ hx6_0)).trans hx6_0
 have HR6_0 := Aside0.mk hi6_0
 have HC6_0 := Aside0.mk hl6_0
 clear hi6_0 hl6_0
 replace p6 := eq_true p6
 replace q6 := eq_true q6
 refine start_ (n := 15) (S := fun w' => w'.cell? ⟨gb2, 0, none⟩ = some (.slice A1_0 l1_0.length c1_0) ∧ w'.cell? ⟨gb2, 1, none⟩ = some (.slice (some ad5) l1_1.length c1_1) ∧ w'.cell? ⟨gb3, 0, none⟩ = some (.int .i64 a2_0) ∧ w'.cell? ⟨gb3, 1, none⟩ = some (.bool a2_1) ∧ w'.cell? ⟨gb1, 0, none⟩ = some (.int .i64 a0_0) ∧ w'.cell? ⟨gb1, 1, none⟩ = some (.slice (some ad6) l0_1.length c0_1) ∧ w'.cell? (ad5.add ((a2_0).toNat * 3)) = some (.int .i64 ((rd_T102 l1_1 a2_0).f0)) ∧ w'.cell? ⟨(ad5.add ((a2_0).toNat * 3)).block, (ad5.add ((a2_0).toNat * 3)).off + 1, none⟩ = some (.slice A5_1 ((rd_T102 l1_1 a2_0).f1).length c5_1) ∧ w'.cell? ⟨(ad5.add ((a2_0).toNat * 3)).block, (ad5.add ((a2_0).toNat * 3)).off + 2, none⟩ = some (.slice A5_2 ((rd_T102 l1_1 a2_0).f2).length c5_2) ∧ w'.cell? (ad6.add (a2_0).toNat) = some (.slice A6_0 (rd_L4 l0_1 a2_0).length c6_0)) (ds := []) #[false, false, false, false, false, false, false, false, false, false, false, false, false, false, false] (by kernel_rfl) rfl rfl ⟨(blk_cell BK2.out 0).trans rfl, (blk_cell BK2.out 1).trans rfl, (blk_cell BK3.out 0).trans rfl, (blk_cell BK3.out 1).trans rfl, (blk_cell BK1.out 0).trans rfl, (blk_cell BK1.out 1).trans rfl, ((HB.out.cell (World.block_lt_of_cell? w _ hw5_0)).trans hw5_0), ((HB.out.cell (World.block_lt_of_cell? w _ hw5_1)).trans hw5_1), ((HB.out.cell (World.block_lt_of_cell? w _ hw5_2)).trans hw5_2), ((HB.out.cell (World.block_lt_of_cell? w _ hw6_0)).trans hw6_0)⟩ (fun hHeld => ?_); refine with_tabW impl_canMove.tab3 impl_canMove.bits3 (fun HT_ HW_ => ?_)
 generalize w12.drew = w18 at BK1 BK2 BK3 HB HR5_1 HR5_2 HR6_0 hx5_0 hx5_1 hx5_2 hx6_0 hHeld ⊢
 refine pure_ (i := 0) (N := some 17) (bm_ 15 1) rfl rfl (any_of HT_.out kr_) (fun _ _ _ h => h) (Or.inl ⟨rfl, yi_⟩) pu_ ?_
 refine pure_ (i := 2) (N := some 19) (bm_ 15 5) rfl rfl (any_of HT_.out kr_) (fun _ _ _ h => h) (Or.inl ⟨rfl, yi_⟩) pu_ ?_
 refine pure_ (i := 6) (N := some 23) (bm_ 15 69) rfl rfl (any_of HT_.out kr_) (fun _ _ _ h => h) (Or.inl ⟨rfl, yi_⟩) pu_ ?_
 refine pure_ (i := 8) (N := some 25) (bm_ 15 325) rfl rfl (any_of HT_.out kr_) (fun _ _ _ h => h) (Or.inl ⟨rfl, yi_⟩) pu_ ?_
 refine take_ (i := 1) (N := some 18) (v := ?_) (a' := ?_) (bm_ 15 327) rfl rfl (take_ofW HT_.out HW_.out (by kernel_rfl)) (fun _ _ _ h => h) (Or.inl ⟨by rfl, ?_⟩) hHeld ?_ ?_
 rotate_left
 ·rintro w' ⟨s0, s1, s2, s3, s4, s5, s6, s7, s8, s9⟩
  go_simp
  with_reducible rfl
 rotate_left
 ·exact pu_
 refine take_ (i := 3) (N := some 20) (v := ?_) (a' := ?_) (bm_ 15 335) rfl rfl (take_ofW HT_.out HW_.out (by kernel_rfl)) (fun _ _ _ h => h) (Or.inl ⟨by rfl, ?_⟩) hHeld ?_ ?_
 rotate_left
 ·rintro w' ⟨s0, s1, s2, s3, s4, s5, s6, s7, s8, s9⟩
  go_simp
  with_reducible rfl
 rotate_left
 ·exact pu_
 refine pure_ (i := 4) (N := some 21) (bm_ 15 351) rfl rfl (any_of HT_.out kr_) (fun _ _ _ h => h) (Or.inl ⟨rfl, yi_⟩) pu_ ?_
 refine take_ (i := 5) (N := some 22) (v := ?_) (a' := ?_) (bm_ 15 383) rfl rfl (take_ofW HT_.out HW_.out (by kernel_rfl)) (fun _ _ _ h => h) (Or.inl ⟨by rfl, ?_⟩) hHeld ?_ ?_
 rotate_left
 ·rintro w' ⟨s0, s1, s2, s3, s4, s5, s6, s7, s8, s9⟩
  go_simp
  with_reducible rfl
 rotate_left
 ·exact pu_
 refine take_ (i := 7) (N := some 24) (v := ?_) (a' := ?_) (bm_ 15 511) rfl rfl (take_ofW HT_.out HW_.out (by kernel_rfl)) (fun _ _ _ h => h) (Or.inl ⟨by rfl, ?_⟩) hHeld ?_ ?_
 rotate_left
 ·rintro w' ⟨s0, s1, s2, s3, s4, s5, s6, s7, s8, s9⟩
  go_simp
  with_reducible rfl
 rotate_left
 ·exact pu_
 refine take_ (i := 9) (N := some 26) (v := ?_) (a' := ?_) (bm_ 15 1023) rfl rfl (take_ofW HT_.out HW_.out (by kernel_rfl)) (fun _ _ _ h => h) (Or.inl ⟨by rfl, ?_⟩) hHeld ?_ ?_
 rotate_left
 ·rintro w' ⟨s0, s1, s2, s3, s4, s5, s6, s7, s8, s9⟩
  go_simp
  with_reducible rfl
 rotate_left
 ·exact pu_
 refine pure_ (i := 10) (N := some 27) (bm_ 15 2047) rfl rfl (any_of HT_.out kr_) (fun _ _ _ h => h) (Or.inl ⟨rfl, yi_⟩) pu_ ?_
 refine take_ (i := 11) (N := some 28) (v := ?_) (a' := ?_) (bm_ 15 4095) rfl rfl (take_ofW HT_.out HW_.out (by kernel_rfl)) (fun _ _ _ h => h) (Or.inl ⟨by rfl, ?_⟩) hHeld ?_ ?_
 rotate_left
 ·rintro w' ⟨s0, s1, s2, s3, s4, s5, s6, s7, s8, s9⟩
  go_simp
  with_reducible rfl
 rotate_left
 ·exact pu_
 refine one_ (i := 12) (N := some 7) (bm_ 15 8191) rfl rfl (one_of HT_.out (by kernel_rfl)) (by decide) (fun K hK => ?_)
 refine box_step ?hg (N := 7) ?hd (cs := #[.int .i64 0, .slice none 0 0, .slice none 0 0]) (t := 102) ?hr ?_; (case hd => rfl); (case hg => rfl); (case hr => first | (go_simp; done) | (go_simp; rfl))
 intro gb7 hg w19 hbox hb
 have n0_ := bb_ BK1.out hb
 have n1_ := bb_ BK2.out hb
 have n2_ := bb_ BK3.out hb
 have n3_ := bs_ hb
 have n4_ := Aside0.mk (hbox)
 have n5_ := ge_ (w := w) hg
 have n6_ := ge_ (w := w) hg
 have n7_ := nl_ BK1.out hg
 have n8_ := nr_ BK1.out hg
 have n9_ := nl_ BK2.out hg
 have n10_ := nr_ BK2.out hg
 have n11_ := nl_ BK3.out hg
 have n12_ := nr_ BK3.out hg
 clear BK1
 clear BK2
 clear BK3
 clear HB
 have BK1 := n0_
 have BK2 := n1_
 have BK3 := n2_
 have HB := n3_
 have BK7 := n4_
 have GW7 := n5_
 have GE7 := n6_
 have NB1_7 := n7_
 have NB7_1 := n8_
 have NB2_7 := n9_
 have NB7_2 := n10_
 have NB3_7 := n11_
 have NB7_3 := n12_
 clear n0_ n1_ n2_ n3_ n4_ n5_ n6_ n7_ n8_ n9_ n10_ n11_ n12_
 clear hb hbox hg
 refine hK.out _ _ ⟨(blk_cell BK2.out 0).trans rfl, (blk_cell BK2.out 1).trans rfl, (blk_cell BK3.out 0).trans rfl, (blk_cell BK3.out 1).trans rfl, (blk_cell BK1.out 0).trans rfl, (blk_cell BK1.out 1).trans rfl, ((HB.out.cell (World.block_lt_of_cell? w _ hw5_0)).trans hw5_0), ((HB.out.cell (World.block_lt_of_cell? w _ hw5_1)).trans hw5_1), ((HB.out.cell (World.block_lt_of_cell? w _ hw5_2)).trans hw5_2), ((HB.out.cell (World.block_lt_of_cell? w _ hw6_0)).trans hw6_0)⟩ (fun hHeld => ?_)
 clear hK K
 refine norm_ (a' := ?_) ?_ ?_
 rotate_left
 ·show Act.put _ (some 7) _ = _
  simp only [Act.put, List.setIfInBounds_toArray, List.set_cons_zero, List.set_cons_succ, i64_w, i32_w]
  rfl
 refine one_ (i := 13) (N := none) (bm_ 15 16383) rfl rfl (one_of HT_.out (by kernel_rfl)) (by decide) (fun K hK => ?_)
 have hs20 : w19.cell? ⟨gb7, 0, none⟩ = some (.int .i64 0) := (blk_cell BK7.out 0).trans rfl
 have hfs20 := blk_frozen BK7.out 0
 have hns20_0 := NB1_7.out
 have hns20_1 := NB2_7.out
 have hns20_2 := NB3_7.out
 have hms20_0 := NB7_1.out
 have hms20_1 := NB7_2.out
 have hms20_2 := NB7_3.out
 have hs21 : w19.cell? ⟨gb7, 1, none⟩ = some (.slice none 0 0) := (blk_cell BK7.out 1).trans rfl
 have hfs21 := blk_frozen BK7.out 1
 have hns21_0 := NB1_7.out
 have hns21_1 := NB2_7.out
 have hns21_2 := NB3_7.out
 have hms21_0 := NB7_1.out
 have hms21_1 := NB7_2.out
 have hms21_2 := NB7_3.out
 have hs22 : w19.cell? ⟨gb7, 2, none⟩ = some (.slice none 0 0) := (blk_cell BK7.out 2).trans rfl
 have hfs22 := blk_frozen BK7.out 2
 have hns22_0 := NB1_7.out
 have hns22_1 := NB2_7.out
 have hns22_2 := NB3_7.out
 have hms22_0 := NB7_1.out
 have hms22_1 := NB7_2.out
 have hms22_2 := NB7_3.out
 refine skip_ (w1 := ?_) (by rfl) rfl ?_ ?_
 rotate_left
 ·go_simp
  rfl
 refine hK.out _ _ ⟨((cell_far (p := ⟨gb7, _, none⟩) NB2_7.out _).trans (((cell_far (p := ⟨gb7, _, none⟩) NB2_7.out _).trans (((cell_far (p := ⟨gb7, _, none⟩) NB2_7.out _).trans (hHeld.1)))))), ((cell_far (p := ⟨gb7, _, none⟩) NB2_7.out _).trans (((cell_far (p := ⟨gb7, _, none⟩) NB2_7.out _).trans (((cell_far (p := ⟨gb7, _, none⟩) NB2_7.out _).trans (hHeld.2.1)))))), ((cell_far (p := ⟨gb7, _, none⟩) NB3_7.out _).trans (((cell_far (p := ⟨gb7, _, none⟩) NB3_7.out _).trans (((cell_far (p := ⟨gb7, _, none⟩) NB3_7.out _).trans (hHeld.2.2.1)))))), ((cell_far (p := ⟨gb7, _, none⟩) NB3_7.out _).trans (((cell_far (p := ⟨gb7, _, none⟩) NB3_7.out _).trans (((cell_far (p := ⟨gb7, _, none⟩) NB3_7.out _).trans (hHeld.2.2.2.1)))))), ((cell_far (p := ⟨gb7, _, none⟩) NB1_7.out _).trans (((cell_far (p := ⟨gb7, _, none⟩) NB1_7.out _).trans (((cell_far (p := ⟨gb7, _, none⟩) NB1_7.out _).trans (hHeld.2.2.2.2.1)))))), ((cell_far (p := ⟨gb7, _, none⟩) NB1_7.out _).trans (((cell_far (p := ⟨gb7, _, none⟩) NB1_7.out _).trans (((cell_far (p := ⟨gb7, _, none⟩) NB1_7.out _).trans (hHeld.2.2.2.2.2.1)))))), ((cell_far (p := ⟨gb7, _, none⟩) (by first | exact Nat.ne_of_lt (Nat.lt_of_lt_of_le (by have := World.block_lt_of_cell? _ _ hw5_0; first | rwa [add_block] at this | exact this) GW7.out) | (rw [add_block]; exact Nat.ne_of_lt (Nat.lt_of_lt_of_le (by have := World.block_lt_of_cell? _ _ hw5_0; first | rwa [add_block] at this | exact this) GW7.out)) | (show (Addr.add _ _).block ≠ _; rw [add_block]; exact Nat.ne_of_lt (Nat.lt_of_lt_of_le (by have := World.block_lt_of_cell? _ _ hw5_0; first | rwa [add_block] at this | exact this) GW7.out)) | (dsimp only; exact Nat.ne_of_lt (Nat.lt_of_lt_of_le (by have := World.block_lt_of_cell? _ _ hw5_0; first | rwa [add_block] at this | exact this) GW7.out))) _).trans (((cell_far (p := ⟨gb7, _, none⟩) (by first | exact Nat.ne_of_lt (Nat.lt_of_lt_of_le (by have := World.block_lt_of_cell? _ _ hw5_0; first | rwa [add_block] at this | exact this) GW7.out) | (rw [add_block]; exact Nat.ne_of_lt (Nat.lt_of_lt_of_le (by have := World.block_lt_of_cell? _ _ hw5_0; first | rwa [add_block] at this | exact this) GW7.out)) | (show (Addr.add _ _).block ≠ _; rw [add_block]; exact Nat.ne_of_lt (Nat.lt_of_lt_of_le (by have := World.block_lt_of_cell? _ _ hw5_0; first | rwa [add_block] at this | exact this) GW7.out)) | (dsimp only; exact Nat.ne_of_lt (Nat.lt_of_lt_of_le (by have := World.block_lt_of_cell? _ _ hw5_0; first | rwa [add_block] at this | exact this) GW7.out))) _).trans (((cell_far (p := ⟨gb7, _, none⟩) (by first | exact Nat.ne_of_lt (Nat.lt_of_lt_of_le (by have := World.block_lt_of_cell? _ _ hw5_0; first | rwa [add_block] at this | exact this) GW7.out) | (rw [add_block]; exact Nat.ne_of_lt (Nat.lt_of_lt_of_le (by have := World.block_lt_of_cell? _ _ hw5_0; first | rwa [add_block] at this | exact this) GW7.out)) | (show (Addr.add _ _).block ≠ _; rw [add_block]; exact Nat.ne_of_lt (Nat.lt_of_lt_of_le (by have := World.block_lt_of_cell? _ _ hw5_0; first | rwa [add_block] at this | exact this) GW7.out)) | (dsimp only; exact Nat.ne_of_lt (Nat.lt_of_lt_of_le (by have := World.block_lt_of_cell? _ _ hw5_0; first | rwa [add_block] at this | exact this) GW7.out))) _).trans (hHeld.2.2.2.2.2.2.1)))))), ((cell_far (p := ⟨gb7, _, none⟩) (by first | exact Nat.ne_of_lt (Nat.lt_of_lt_of_le (by have := World.block_lt_of_cell? _ _ hw5_1; first | rwa [add_block] at this | exact this) GW7.out) | (rw [add_block]; exact Nat.ne_of_lt (Nat.lt_of_lt_of_le (by have := World.block_lt_of_cell? _ _ hw5_1; first | rwa [add_block] at this | exact this) GW7.out)) | (show (Addr.add _ _).block ≠ _; rw [add_block]; exact Nat.ne_of_lt (Nat.lt_of_lt_of_le (by have := World.block_lt_of_cell? _ _ hw5_1; first | rwa [add_block] at this | exact this) GW7.out)) | (dsimp only; exact Nat.ne_of_lt (Nat.lt_of_lt_of_le (by have := World.block_lt_of_cell? _ _ hw5_1; first | rwa [add_block] at this | exact this) GW7.out))) _).trans (((cell_far (p := ⟨gb7, _, none⟩) (by first | exact Nat.ne_of_lt (Nat.lt_of_lt_of_le (by have := World.block_lt_of_cell? _ _ hw5_1; first | rwa [add_block] at this | exact this) GW7.out) | (rw [add_block]; exact Nat.ne_of_lt (Nat.lt_of_lt_of_le (by have := World.block_lt_of_cell? _ _ hw5_1; first | rwa [add_block] at this | exact this) GW7.out)) | (show (Addr.add _ _).block ≠ _; rw [add_block]; exact Nat.ne_of_lt (Nat.lt_of_lt_of_le (by have := World.block_lt_of_cell? _ _ hw5_1; first | rwa [add_block] at this | exact this) GW7.out)) | (dsimp only; exact Nat.ne_of_lt (Nat.lt_of_lt_of_le (by have := World.block_lt_of_cell? _ _ hw5_1; first | rwa [add_block] at this | exact this) GW7.out))) _).trans (((cell_far (p := ⟨gb7, _, none⟩) (by first | exact Nat.ne_of_lt (Nat.lt_of_lt_of_le (by have := World.block_lt_of_cell? _ _ hw5_1; first | rwa [add_block] at this | exact this) GW7.out) | (rw [add_block]; exact Nat.ne_of_lt (Nat.lt_of_lt_of_le (by have := World.block_lt_of_cell? _ _ hw5_1; first | rwa [add_block] at this | exact this) GW7.out)) | (show (Addr.add _ _).block ≠ _; rw [add_block]; exact Nat.ne_of_lt (Nat.lt_of_lt_of_le (by have := World.block_lt_of_cell? _ _ hw5_1; first | rwa [add_block] at this | exact this) GW7.out)) | (dsimp only; exact Nat.ne_of_lt (Nat.lt_of_lt_of_le (by have := World.block_lt_of_cell? _ _ hw5_1; first | rwa [add_block] at this | exact this) GW7.out))) _).trans (hHeld.2.2.2.2.2.2.2.1)))))), ((cell_far (p := ⟨gb7, _, none⟩) (by first | exact Nat.ne_of_lt (Nat.lt_of_lt_of_le (by have := World.block_lt_of_cell? _ _ hw5_2; first | rwa [add_block] at this | exact this) GW7.out) | (rw [add_block]; exact Nat.ne_of_lt (Nat.lt_of_lt_of_le (by have := World.block_lt_of_cell? _ _ hw5_2; first | rwa [add_block] at this | exact this) GW7.out)) | (show (Addr.add _ _).block ≠ _; rw [add_block]; exact Nat.ne_of_lt (Nat.lt_of_lt_of_le (by have := World.block_lt_of_cell? _ _ hw5_2; first | rwa [add_block] at this | exact this) GW7.out)) | (dsimp only; exact Nat.ne_of_lt (Nat.lt_of_lt_of_le (by have := World.block_lt_of_cell? _ _ hw5_2; first | rwa [add_block] at this | exact this) GW7.out))) _).trans (((cell_far (p := ⟨gb7, _, none⟩) (by first | exact Nat.ne_of_lt (Nat.lt_of_lt_of_le (by have := World.block_lt_of_cell? _ _ hw5_2; first | rwa [add_block] at this | exact this) GW7.out) | (rw [add_block]; exact Nat.ne_of_lt (Nat.lt_of_lt_of_le (by have := World.block_lt_of_cell? _ _ hw5_2; first | rwa [add_block] at this | exact this) GW7.out)) | (show (Addr.add _ _).block ≠ _; rw [add_block]; exact Nat.ne_of_lt (Nat.lt_of_lt_of_le (by have := World.block_lt_of_cell? _ _ hw5_2; first | rwa [add_block] at this | exact this) GW7.out)) | (dsimp only; exact Nat.ne_of_lt (Nat.lt_of_lt_of_le (by have := World.block_lt_of_cell? _ _ hw5_2; first | rwa [add_block] at this | exact this) GW7.out))) _).trans (((cell_far (p := ⟨gb7, _, none⟩) (by first | exact Nat.ne_of_lt (Nat.lt_of_lt_of_le (by have := World.block_lt_of_cell? _ _ hw5_2; first | rwa [add_block] at this | exact this) GW7.out) | (rw [add_block]; exact Nat.ne_of_lt (Nat.lt_of_lt_of_le (by have := World.block_lt_of_cell? _ _ hw5_2; first | rwa [add_block] at this | exact this) GW7.out)) | (show (Addr.add _ _).block ≠ _; rw [add_block]; exact Nat.ne_of_lt (Nat.lt_of_lt_of_le (by have := World.block_lt_of_cell? _ _ hw5_2; first | rwa [add_block] at this | exact this) GW7.out)) | (dsimp only; exact Nat.ne_of_lt (Nat.lt_of_lt_of_le (by have := World.block_lt_of_cell? _ _ hw5_2; first | rwa [add_block] at this | exact this) GW7.out))) _).trans (hHeld.2.2.2.2.2.2.2.2.1)))))), ((cell_far (p := ⟨gb7, _, none⟩) (by first | exact Nat.ne_of_lt (Nat.lt_of_lt_of_le (by have := World.block_lt_of_cell? _ _ hw6_0; first | rwa [add_block] at this | exact this) GW7.out) | (rw [add_block]; exact Nat.ne_of_lt (Nat.lt_of_lt_of_le (by have := World.block_lt_of_cell? _ _ hw6_0; first | rwa [add_block] at this | exact this) GW7.out)) | (show (Addr.add _ _).block ≠ _; rw [add_block]; exact Nat.ne_of_lt (Nat.lt_of_lt_of_le (by have := World.block_lt_of_cell? _ _ hw6_0; first | rwa [add_block] at this | exact this) GW7.out)) | (dsimp only; exact Nat.ne_of_lt (Nat.lt_of_lt_of_le (by have := World.block_lt_of_cell? _ _ hw6_0; first | rwa [add_block] at this | exact this) GW7.out))) _).trans (((cell_far (p := ⟨gb7, _, none⟩) (by first | exact Nat.ne_of_lt (Nat.lt_of_lt_of_le (by have := World.block_lt_of_cell? _ _ hw6_0; first | rwa [add_block] at this | exact this) GW7.out) | (rw [add_block]; exact Nat.ne_of_lt (Nat.lt_of_lt_of_le (by have := World.block_lt_of_cell? _ _ hw6_0; first | rwa [add_block] at this | exact this) GW7.out)) | (show (Addr.add _ _).block ≠ _; rw [add_block]; exact Nat.ne_of_lt (Nat.lt_of_lt_of_le (by have := World.block_lt_of_cell? _ _ hw6_0; first | rwa [add_block] at this | exact this) GW7.out)) | (dsimp only; exact Nat.ne_of_lt (Nat.lt_of_lt_of_le (by have := World.block_lt_of_cell? _ _ hw6_0; first | rwa [add_block] at this | exact this) GW7.out))) _).trans (((cell_far (p := ⟨gb7, _, none⟩) (by first | exact Nat.ne_of_lt (Nat.lt_of_lt_of_le (by have := World.block_lt_of_cell? _ _ hw6_0; first | rwa [add_block] at this | exact this) GW7.out) | (rw [add_block]; exact Nat.ne_of_lt (Nat.lt_of_lt_of_le (by have := World.block_lt_of_cell? _ _ hw6_0; first | rwa [add_block] at this | exact this) GW7.out)) | (show (Addr.add _ _).block ≠ _; rw [add_block]; exact Nat.ne_of_lt (Nat.lt_of_lt_of_le (by have := World.block_lt_of_cell? _ _ hw6_0; first | rwa [add_block] at this | exact this) GW7.out)) | (dsimp only; exact Nat.ne_of_lt (Nat.lt_of_lt_of_le (by have := World.block_lt_of_cell? _ _ hw6_0; first | rwa [add_block] at this | exact this) GW7.out))) _).trans (hHeld.2.2.2.2.2.2.2.2.2))))))⟩ (fun hHeld => ?_)
 clear hK K
 refine pure_ (i := 14) (N := some 8) (bm_ 15 32767) rfl rfl (any_of HT_.out kr_) (fun _ _ _ h => h) (Or.inl ⟨rfl, yi_⟩) pu_ ?_
 refine done_ (done_of HT_.out (by kernel_rfl)) ?_
 by_cases c9 : a2_1 = true
 ·subst c9
  have H1 : (some (decide ((((rd_T102 l1_1 a2_0).f2).length : Int) > 0))) = some r := by rw [if_pos rfl] at H; exact H
  clear H
  have H := H1
  clear H1
  obtain rfl := Option.some.inj H
  have hnb23 := NB3_7.out
  have hnc23 := NB7_3.out
  obtain ⟨hcz24_0, hcz24_1, hfz24_0, hfz24_1⟩ := bc2_ BK3.out
  have hnb25 := NB7_1.out
  have hnc25 := NB1_7.out
  have hnb26 := NB7_2.out
  have hnc26 := NB2_7.out
  obtain ⟨hcz27_0, hcz27_1, hcz27_2, hfz27_0, hfz27_1, hfz27_2⟩ := bc3_ BK7.out
  try go_wp2
  go_ret
  exact ⟨rr_, bw_⟩
 replace c9 := Bool.eq_false_iff.mpr c9
 subst c9
 have H1 : (if ((rd_T102 l1_1 a2_0).f0) = ((rd_L4 l0_1 a2_0).length : Int) then (some false) else (if 0 ≤ ((rd_T102 l1_1 a2_0).f0) then (if ((rd_T102 l1_1 a2_0).f0) < ((rd_L4 l0_1 a2_0).length : Int) then (if ((rd_T82 (rd_L4 l0_1 a2_0) ((rd_T102 l1_1 a2_0).f0)).f0) = 3 then (some (decide ((((rd_T102 l1_1 a2_0).f2).length : Int) < 3))) else ((impl_HasFence.f ((rd_T82 (rd_L4 l0_1 a2_0) ((rd_T102 l1_1 a2_0).f0)).f0) ((rd_T82 (rd_L4 l0_1 a2_0) ((rd_T102 l1_1 a2_0).f0)).f1) ((rd_T82 (rd_L4 l0_1 a2_0) ((rd_T102 l1_1 a2_0).f0)).f2) ((rd_T82 (rd_L4 l0_1 a2_0) ((rd_T102 l1_1 a2_0).f0)).f3)).bind fun t10 => (if t10 = true then (some ((((rd_T102 l1_1 a2_0).f2).length : Int) == 0)) else (some true)))) else (none)) else (none))) = some r := by rw [if_neg (show ¬ (false = true) by decide)] at H; exact H
 clear H
 have H := H1
 clear H1
 by_cases c28 : ((rd_T102 l1_1 a2_0).f0) = ((rd_L4 l0_1 a2_0).length : Int)
 ·rw [if_pos c28] at H
  have c28b0 : (((rd_T102 l1_1 a2_0).f0) == ((rd_L4 l0_1 a2_0).length : Int)) = true := beq_iff_eq.mpr c28
  have c28b1 : (((rd_T102 l1_1 a2_0).f0) != ((rd_L4 l0_1 a2_0).length : Int)) = false := bne_eq_false_iff_eq.mpr c28
  clear c28
  obtain rfl := Option.some.inj H
  have hnb42 := NB3_7.out
  have hnc42 := NB7_3.out
  obtain ⟨hcz43_0, hcz43_1, hfz43_0, hfz43_1⟩ := bc2_ BK3.out
  have hnb44 := NB7_1.out
  have hnc44 := NB1_7.out
  have hnb45 := NB7_2.out
  have hnc45 := NB2_7.out
  obtain ⟨hcz46_0, hcz46_1, hcz46_2, hfz46_0, hfz46_1, hfz46_2⟩ := bc3_ BK7.out
  try go_wp2
  go_ret
  exact ⟨rr_, bw_⟩
 rw [if_neg c28] at H
 have c28b0 : (((rd_T102 l1_1 a2_0).f0) == ((rd_L4 l0_1 a2_0).length : Int)) = false := beq_eq_false_iff_ne.mpr c28
 have c28b1 : (((rd_T102 l1_1 a2_0).f0) != ((rd_L4 l0_1 a2_0).length : Int)) = true := bne_iff_ne.mpr c28
 by_cases c47 : 0 ≤ ((rd_T102 l1_1 a2_0).f0)
 rotate_left
 ·rw [if_neg c47] at H
  exact absurd H (by simp)
 rw [if_pos c47] at H
 have c47b0 : decide (0 ≤ ((rd_T102 l1_1 a2_0).f0)) = true := decide_eq_true c47
 clear c47
 by_cases c48 : ((rd_T102 l1_1 a2_0).f0) < ((rd_L4 l0_1 a2_0).length : Int)
 rotate_left
 ·rw [if_neg c48] at H
  exact absurd H (by simp)
 rw [if_pos c48] at H
 have c48b0 : decide (((rd_T102 l1_1 a2_0).f0) < ((rd_L4 l0_1 a2_0).length : Int)) = true := decide_eq_true c48
 clear c48
 by_cases c49 : ((rd_T82 (rd_L4 l0_1 a2_0) ((rd_T102 l1_1 a2_0).f0)).f0) = 3
 ·rw [if_pos c49] at H
  have c49b0 : (((rd_T82 (rd_L4 l0_1 a2_0) ((rd_T102 l1_1 a2_0).f0)).f0) == 3) = true := beq_iff_eq.mpr c49
  have c49b1 : (((rd_T82 (rd_L4 l0_1 a2_0) ((rd_T102 l1_1 a2_0).f0)).f0) != 3) = false := bne_eq_false_iff_eq.mpr c49
  clear c49
  obtain rfl := Option.some.inj H
  have hnb63 := NB3_7.out
  have hnc63 := NB7_3.out
  obtain ⟨hcz64_0, hcz64_1, hfz64_0, hfz64_1⟩ := bc2_ BK3.out
  have hnb65 := NB7_1.out
  have hnc65 := NB1_7.out
  have hnb66 := NB7_2.out
  have hnc66 := NB2_7.out
  obtain ⟨hcz67_0, hcz67_1, hcz67_2, hfz67_0, hfz67_1, hfz67_2⟩ := bc3_ BK7.out
  have p8 : 0 ≤ (((rd_T102 l1_1 a2_0).f0) : Int) := od_
  have q8 : ((rd_T102 l1_1 a2_0).f0) < ((rd_L4 l0_1 a2_0).length : Int) := od_
  obtain ⟨ad8, e8, hx8_0, hx8_1, hx8_2, hx8_3⟩ := at_T82 HR6_0.out ((rd_T102 l1_1 a2_0).f0) p8 q8
  cases e8
  have hn8_0 : ad8.block ≠ gb7 := Nat.ne_of_lt (Nat.lt_of_lt_of_le (by have := World.block_lt_of_cell? _ _ hx8_0; first | rwa [add_block] at this | exact this) GW7.out)
  have hn8_1 : ad8.block ≠ gb7 := Nat.ne_of_lt (Nat.lt_of_lt_of_le (by have := World.block_lt_of_cell? _ _ hx8_0; first | rwa [add_block] at this | exact this) GW7.out)
  have hn8_2 : ad8.block ≠ gb7 := Nat.ne_of_lt (Nat.lt_of_lt_of_le (by have := World.block_lt_of_cell? _ _ hx8_0; first | rwa [add_block] at this | exact this) GW7.out)
  replace hx8_0 := (HB.out.cell (World.block_lt_of_cell? w _ hx8_0)).trans hx8_0
  replace hx8_1 := (HB.out.cell (World.block_lt_of_cell? w _ hx8_1)).trans hx8_1
  replace hx8_2 := (HB.out.cell (World.block_lt_of_cell? w _ hx8_2)).trans hx8_2
  replace hx8_3 := (HB.out.cell (World.block_lt_of_cell? w _ hx8_3)).trans hx8_3
  replace hx8_0 := (cell_far (p := ⟨gb7, 0, none⟩) (by first | (rw [add_block]; exact hn8_0) | (show (Addr.add _ _).block ≠ _; rw [add_block]; exact hn8_0) | exact hn8_0) (.int .i64 ((rd_T102 l1_1 a2_0).f0))).trans hx8_0
  replace hx8_1 := (cell_far (p := ⟨gb7, 0, none⟩) (by first | (rw [add_block]; exact hn8_0) | (show (Addr.add _ _).block ≠ _; rw [add_block]; exact hn8_0) | exact hn8_0) (.int .i64 ((rd_T102 l1_1 a2_0).f0))).trans hx8_1
  replace hx8_2 := (cell_far (p := ⟨gb7, 0, none⟩) (by first | (rw [add_block]; exact hn8_0) | (show (Addr.add _ _).block ≠ _; rw [add_block]; exact hn8_0) | exact hn8_0) (.int .i64 ((rd_T102 l1_1 a2_0).f0))).trans hx8_2
  replace hx8_3 := (cell_far (p := ⟨gb7, 0, none⟩) (by first | (rw [add_block]; exact hn8_0) | (show (Addr.add _ _).block ≠ _; rw [add_block]; exact hn8_0) | exact hn8_0) (.int .i64 ((rd_T102 l1_1 a2_0).f0))).trans hx8_3
  replace hx8_0 := (cell_far (p := ⟨gb7, 1, none⟩) (by first | (rw [add_block]; exact hn8_1) | (show (Addr.add _ _).block ≠ _; rw [add_block]; exact hn8_1) | exact hn8_1) (.slice A5_1 ((rd_T102 l1_1 a2_0).f1).length c5_1)).trans hx8_0
  replace hx8_1 := (cell_far (p := ⟨gb7, 1, none⟩) (by first | (rw [add_block]; exact hn8_1) | (show (Addr.add _ _).block ≠ _; rw [add_block]; exact hn8_1) | exact hn8_1) (.slice A5_1 ((rd_T102 l1_1 a2_0).f1).length c5_1)).trans hx8_1
  replace hx8_2 := (cell_far (p := ⟨gb7, 1, none⟩) (by first | (rw [add_block]; exact hn8_1) | (show (Addr.add _ _).block ≠ _; rw [add_block]; exact hn8_1) | exact hn8_1) (.slice A5_1 ((rd_T102 l1_1 a2_0).f1).length c5_1)).trans hx8_2
  replace hx8_3 := (cell_far (p := ⟨gb7, 1, none⟩) (by first | (rw [add_block]; exact hn8_1) | (show (Addr.add _ _).block ≠ _; rw [add_block]; exact hn8_1) | exact hn8_1) (.slice A5_1 ((rd_T102 l1_1 a2_0).f1).length c5_1)).trans hx8_3
  replace hx8_0 := (cell_far (p := ⟨gb7, 2, none⟩) (by first | (rw [add_block]; exact hn8_2) | (show (Addr.add _ _).block ≠ _; rw [add_block]; exact hn8_2) | exact hn8_2) (.slice A5_2 ((rd_T102 l1_1 a2_0).f2).length c5_2)).trans hx8_0
  replace hx8_1 := (cell_far (p := ⟨gb7, 2, none⟩) (by first | (rw [add_block]; exact hn8_2) | (show (Addr.add _ _).block ≠ _; rw [add_block]; exact hn8_2) | exact hn8_2) (.slice A5_2 ((rd_T102 l1_1 a2_0).f2).length c5_2)).trans hx8_1
  replace hx8_2 := (cell_far (p := ⟨gb7, 2, none⟩) (by first | (rw [add_block]; exact hn8_2) | (show (Addr.add _ _).block ≠ _; rw [add_block]; exact hn8_2) | exact hn8_2) (.slice A5_2 ((rd_T102 l1_1 a2_0).f2).length c5_2)).trans hx8_2
  replace hx8_3 := (cell_far (p := ⟨gb7, 2, none⟩) (by first | (rw [add_block]; exact hn8_2) | (show (Addr.add _ _).block ≠ _; rw [add_block]; exact hn8_2) | exact hn8_2) (.slice A5_2 ((rd_T102 l1_1 a2_0).f2).length c5_2)).trans hx8_3
  clear hn8_0
  clear hn8_1
  clear hn8_2
  replace p8 := eq_true p8
  replace q8 := eq_true q8
  try go_wp2
  go_ret
  exact ⟨rr_, bw_⟩
 rw [if_neg c49] at H
 have c49b0 : (((rd_T82 (rd_L4 l0_1 a2_0) ((rd_T102 l1_1 a2_0).f0)).f0) == 3) = false := beq_eq_false_iff_ne.mpr c49
 have c49b1 : (((rd_T82 (rd_L4 l0_1 a2_0) ((rd_T102 l1_1 a2_0).f0)).f0) != 3) = true := bne_iff_ne.mpr c49
 replace H := Option.bind_eq_some_iff.mp H
 obtain ⟨t10, A680, H⟩ := H
 replace H : (if t10 = true then (some ((((rd_T102 l1_1 a2_0).f2).length : Int) == 0)) else (some true)) = some r := H
 have A68 := Aside0.mk A680
 clear A680
 by_cases c69 : t10 = true
 ·subst c69
  have H1 : (some ((((rd_T102 l1_1 a2_0).f2).length : Int) == 0)) = some r := by rw [if_pos rfl] at H; exact H
  clear H
  have H := H1
  clear H1
  obtain rfl := Option.some.inj H
  have hnb83 := NB3_7.out
  have hnc83 := NB7_3.out
  obtain ⟨hcz84_0, hcz84_1, hfz84_0, hfz84_1⟩ := bc2_ BK3.out
  have hnb85 := NB7_1.out
  have hnc85 := NB1_7.out
  have hnb86 := NB7_2.out
  have hnc86 := NB2_7.out
  obtain ⟨hcz87_0, hcz87_1, hcz87_2, hfz87_0, hfz87_1, hfz87_2⟩ := bc3_ BK7.out
  have p8 : 0 ≤ (((rd_T102 l1_1 a2_0).f0) : Int) := od_
  have q8 : ((rd_T102 l1_1 a2_0).f0) < ((rd_L4 l0_1 a2_0).length : Int) := od_
  obtain ⟨ad8, e8, hx8_0, hx8_1, hx8_2, hx8_3⟩ := at_T82 HR6_0.out ((rd_T102 l1_1 a2_0).f0) p8 q8
  cases e8
  have hn8_0 : ad8.block ≠ gb7 := Nat.ne_of_lt (Nat.lt_of_lt_of_le (by have := World.block_lt_of_cell? _ _ hx8_0; first | rwa [add_block] at this | exact this) GW7.out)
  have hn8_1 : ad8.block ≠ gb7 := Nat.ne_of_lt (Nat.lt_of_lt_of_le (by have := World.block_lt_of_cell? _ _ hx8_0; first | rwa [add_block] at this | exact this) GW7.out)
  have hn8_2 : ad8.block ≠ gb7 := Nat.ne_of_lt (Nat.lt_of_lt_of_le (by have := World.block_lt_of_cell? _ _ hx8_0; first | rwa [add_block] at this | exact this) GW7.out)
  replace hx8_0 := (HB.out.cell (World.block_lt_of_cell? w _ hx8_0)).trans hx8_0
  replace hx8_1 := (HB.out.cell (World.block_lt_of_cell? w _ hx8_1)).trans hx8_1
  replace hx8_2 := (HB.out.cell (World.block_lt_of_cell? w _ hx8_2)).trans hx8_2
  replace hx8_3 := (HB.out.cell (World.block_lt_of_cell? w _ hx8_3)).trans hx8_3
  replace hx8_0 := (cell_far (p := ⟨gb7, 0, none⟩) (by first | (rw [add_block]; exact hn8_0) | (show (Addr.add _ _).block ≠ _; rw [add_block]; exact hn8_0) | exact hn8_0) (.int .i64 ((rd_T102 l1_1 a2_0).f0))).trans hx8_0
  replace hx8_1 := (cell_far (p := ⟨gb7, 0, none⟩) (by first | (rw [add_block]; exact hn8_0) | (show (Addr.add _ _).block ≠ _; rw [add_block]; exact hn8_0) | exact hn8_0) (.int .i64 ((rd_T102 l1_1 a2_0).f0))).trans hx8_1
  replace hx8_2 := (cell_far (p := ⟨gb7, 0, none⟩) (by first | (rw [add_block]; exact hn8_0) | (show (Addr.add _ _).block ≠ _; rw [add_block]; exact hn8_0) | exact hn8_0) (.int .i64 ((rd_T102 l1_1 a2_0).f0))).trans hx8_2
  replace hx8_3 := (cell_far (p := ⟨gb7, 0, none⟩) (by first | (rw [add_block]; exact hn8_0) | (show (Addr.add _ _).block ≠ _; rw [add_block]; exact hn8_0) | exact hn8_0) (.int .i64 ((rd_T102 l1_1 a2_0).f0))).trans hx8_3
  replace hx8_0 := (cell_far (p := ⟨gb7, 1, none⟩) (by first | (rw [add_block]; exact hn8_1) | (show (Addr.add _ _).block ≠ _; rw [add_block]; exact hn8_1) | exact hn8_1) (.slice A5_1 ((rd_T102 l1_1 a2_0).f1).length c5_1)).trans hx8_0
  replace hx8_1 := (cell_far (p := ⟨gb7, 1, none⟩) (by first | (rw [add_block]; exact hn8_1) | (show (Addr.add _ _).block ≠ _; rw [add_block]; exact hn8_1) | exact hn8_1) (.slice A5_1 ((rd_T102 l1_1 a2_0).f1).length c5_1)).trans hx8_1
  replace hx8_2 := (cell_far (p := ⟨gb7, 1, none⟩) (by first | (rw [add_block]; exact hn8_1) | (show (Addr.add _ _).block ≠ _; rw [add_block]; exact hn8_1) | exact hn8_1) (.slice A5_1 ((rd_T102 l1_1 a2_0).f1).length c5_1)).trans hx8_2
  replace hx8_3 := (cell_far (p := ⟨gb7, 1, none⟩) (by first | (rw [add_block]; exact hn8_1) | (show (Addr.add _ _).block ≠ _; rw [add_block]; exact hn8_1) | exact hn8_1) (.slice A5_1 ((rd_T102 l1_1 a2_0).f1).length c5_1)).trans hx8_3
  replace hx8_0 := (cell_far (p := ⟨gb7, 2, none⟩) (by first | (rw [add_block]; exact hn8_2) | (show (Addr.add _ _).block ≠ _; rw [add_block]; exact hn8_2) | exact hn8_2) (.slice A5_2 ((rd_T102 l1_1 a2_0).f2).length c5_2)).trans hx8_0
  replace hx8_1 := (cell_far (p := ⟨gb7, 2, none⟩) (by first | (rw [add_block]; exact hn8_2) | (show (Addr.add _ _).block ≠ _; rw [add_block]; exact hn8_2) | exact hn8_2) (.slice A5_2 ((rd_T102 l1_1 a2_0).f2).length c5_2)).trans hx8_1
  replace hx8_2 := (cell_far (p := ⟨gb7, 2, none⟩) (by first | (rw [add_block]; exact hn8_2) | (show (Addr.add _ _).block ≠ _; rw [add_block]; exact hn8_2) | exact hn8_2) (.slice A5_2 ((rd_T102 l1_1 a2_0).f2).length c5_2)).trans hx8_2
  replace hx8_3 := (cell_far (p := ⟨gb7, 2, none⟩) (by first | (rw [add_block]; exact hn8_2) | (show (Addr.add _ _).block ≠ _; rw [add_block]; exact hn8_2) | exact hn8_2) (.slice A5_2 ((rd_T102 l1_1 a2_0).f2).length c5_2)).trans hx8_3
  clear hn8_0
  clear hn8_1
  clear hn8_2
  replace p8 := eq_true p8
  replace q8 := eq_true q8
  have p9 : 0 ≤ (((rd_T102 l1_1 a2_0).f0) : Int) := od_
  have q9 : ((rd_T102 l1_1 a2_0).f0) < ((rd_L4 l0_1 a2_0).length : Int) := od_
  obtain ⟨ad9, e9, hx9_0, hx9_1, hx9_2, hx9_3⟩ := at_T82 HR6_0.out ((rd_T102 l1_1 a2_0).f0) p9 q9
  obtain rfl : ad8 = ad9 := (by injection e9)
  have hn9_0 : ad8.block ≠ gb7 := Nat.ne_of_lt (Nat.lt_of_lt_of_le (by have := World.block_lt_of_cell? _ _ hx9_0; first | rwa [add_block] at this | exact this) GW7.out)
  have hn9_1 : ad8.block ≠ gb7 := Nat.ne_of_lt (Nat.lt_of_lt_of_le (by have := World.block_lt_of_cell? _ _ hx9_0; first | rwa [add_block] at this | exact this) GW7.out)
  have hn9_2 : ad8.block ≠ gb7 := Nat.ne_of_lt (Nat.lt_of_lt_of_le (by have := World.block_lt_of_cell? _ _ hx9_0; first | rwa [add_block] at this | exact this) GW7.out)
  replace hx9_0 := (HB.out.cell (World.block_lt_of_cell? w _ hx9_0)).trans hx9_0
  replace hx9_1 := (HB.out.cell (World.block_lt_of_cell? w _ hx9_1)).trans hx9_1
  replace hx9_2 := (HB.out.cell (World.block_lt_of_cell? w _ hx9_2)).trans hx9_2
  replace hx9_3 := (HB.out.cell (World.block_lt_of_cell? w _ hx9_3)).trans hx9_3
  replace hx9_0 := (cell_far (p := ⟨gb7, 0, none⟩) (by first | (rw [add_block]; exact hn9_0) | (show (Addr.add _ _).block ≠ _; rw [add_block]; exact hn9_0) | exact hn9_0) (.int .i64 ((rd_T102 l1_1 a2_0).f0))).trans hx9_0
  replace hx9_1 := (cell_far (p := ⟨gb7, 0, none⟩) (by first | (rw [add_block]; exact hn9_0) | (show (Addr.add _ _).block ≠ _; rw [add_block]; exact hn9_0) | exact hn9_0) (.int .i64 ((rd_T102 l1_1 a2_0).f0))).trans hx9_1
  replace hx9_2 := (cell_far (p := ⟨gb7, 0, none⟩) (by first | (rw [add_block]; exact hn9_0) | (show (Addr.add _ _).block ≠ _; rw [add_block]; exact hn9_0) | exact hn9_0) (.int .i64 ((rd_T102 l1_1 a2_0).f0))).trans hx9_2
  replace hx9_3 := (cell_far (p := ⟨gb7, 0, none⟩) (by first | (rw [add_block]; exact hn9_0) | (show (Addr.add _ _).block ≠ _; rw [add_block]; exact hn9_0) | exact hn9_0) (.int .i64 ((rd_T102 l1_1 a2_0).f0))).trans hx9_3
  replace hx9_0 := (cell_far (p := ⟨gb7, 1, none⟩) (by first | (rw [add_block]; exact hn9_1) | (show (Addr.add _ _).block ≠ _; rw [add_block]; exact hn9_1) | exact hn9_1) (.slice A5_1 ((rd_T102 l1_1 a2_0).f1).length c5_1)).trans hx9_0
  replace hx9_1 := (cell_far (p := ⟨gb7, 1, none⟩) (by first | (rw [add_block]; exact hn9_1) | (show (Addr.add _ _).block ≠ _; rw [add_block]; exact hn9_1) | exact hn9_1) (.slice A5_1 ((rd_T102 l1_1 a2_0).f1).length c5_1)).trans hx9_1
  replace hx9_2 := (cell_far (p := ⟨gb7, 1, none⟩) (by first | (rw [add_block]; exact hn9_1) | (show (Addr.add _ _).block ≠ _; rw [add_block]; exact hn9_1) | exact hn9_1) (.slice A5_1 ((rd_T102 l1_1 a2_0).f1).length c5_1)).trans hx9_2
  replace hx9_3 := (cell_far (p := ⟨gb7, 1, none⟩) (by first | (rw [add_block]; exact hn9_1) | (show (Addr.add _ _).block ≠ _; rw [add_block]; exact hn9_1) | exact hn9_1) (.slice A5_1 ((rd_T102 l1_1 a2_0).f1).length c5_1)).trans hx9_3
  replace hx9_0 := (cell_far (p := ⟨gb7, 2, none⟩) (by first | (rw [add_block]; exact hn9_2) | (show (Addr.add _ _).block ≠ _; rw [add_block]; exact hn9_2) | exact hn9_2) (.slice A5_2 ((rd_T102 l1_1 a2_0).f2).length c5_2)).trans hx9_0
  replace hx9_1 := (cell_far (p := ⟨gb7, 2, none⟩) (by first | (rw [add_block]; exact hn9_2) | (show (Addr.add _ _).block ≠ _; rw [add_block]; exact hn9_2) | exact hn9_2) (.slice A5_2 ((rd_T102 l1_1 a2_0).f2).length c5_2)).trans hx9_1
  replace hx9_2 := (cell_far (p := ⟨gb7, 2, none⟩) (by first | (rw [add_block]; exact hn9_2) | (show (Addr.add _ _).block ≠ _; rw [add_block]; exact hn9_2) | exact hn9_2) (.slice A5_2 ((rd_T102 l1_1 a2_0).f2).length c5_2)).trans hx9_2
  replace hx9_3 := (cell_far (p := ⟨gb7, 2, none⟩) (by first | (rw [add_block]; exact hn9_2) | (show (Addr.add _ _).block ≠ _; rw [add_block]; exact hn9_2) | exact hn9_2) (.slice A5_2 ((rd_T102 l1_1 a2_0).f2).length c5_2)).trans hx9_3
  clear hn9_0
  clear hn9_1
  clear hn9_2
  replace p9 := eq_true p9
  replace q9 := eq_true q9
  try go_wp2_with (first | ((with_reducible refine gate_callee (f := 88) rfl ?_); refine goesL_ (some 60) rfl rfl Try.func88 (by kernel_rfl) rfl #[.agg #[.int .i64 ((rd_T82 (rd_L4 l0_1 a2_0) ((rd_T102 l1_1 a2_0).f0)).f0), .int .i64 ((rd_T82 (rd_L4 l0_1 a2_0) ((rd_T102 l1_1 a2_0).f0)).f1), .int .i64 ((rd_T82 (rd_L4 l0_1 a2_0) ((rd_T102 l1_1 a2_0).f0)).f2), .int .i64 ((rd_T82 (rd_L4 l0_1 a2_0) ((rd_T102 l1_1 a2_0).f0)).f3)]] rfl ar_ ?_; (with_reducible refine (impl_HasFence.calls ((rd_T82 (rd_L4 l0_1 a2_0) ((rd_T102 l1_1 a2_0).f0)).f0) ((rd_T82 (rd_L4 l0_1 a2_0) ((rd_T102 l1_1 a2_0).f0)).f1) ((rd_T82 (rd_L4 l0_1 a2_0) ((rd_T102 l1_1 a2_0).f0)).f2) ((rd_T82 (rd_L4 l0_1 a2_0) ((rd_T102 l1_1 a2_0).f0)).f3) true _ A68.out).mono ?_); rintro e w88 ⟨rfl, hb⟩; refine ⟨_, rfl, ?_⟩; have n0_ := Aside0.mk (blk_below (g := gb1) (o := .cells #[.int .i64 a0_0, .slice (some ad6) l0_1.length c0_1] 39 (0, 0)) (by (with_reducible repeat (first | refine blk_drewN ?_ _ | refine blk_drew ?_ | refine blk_alloc ?_ _)); refine blk_far ?_ NB1_7.out _; (with_reducible repeat (first | refine blk_drewN ?_ _ | refine blk_drew ?_ | refine blk_alloc ?_ _)); refine blk_far ?_ NB1_7.out _; (with_reducible repeat (first | refine blk_drewN ?_ _ | refine blk_drew ?_ | refine blk_alloc ?_ _)); refine blk_far ?_ NB1_7.out _; (with_reducible repeat (first | refine blk_drewN ?_ _ | refine blk_drew ?_ | refine blk_alloc ?_ _)); exact BK1.out) hb); have n1_ := Aside0.mk (blk_below (g := gb2) (o := .cells #[.slice A1_0 l1_0.length c1_0, .slice (some ad5) l1_1.length c1_1] 54 (0, 0)) (by (with_reducible repeat (first | refine blk_drewN ?_ _ | refine blk_drew ?_ | refine blk_alloc ?_ _)); refine blk_far ?_ NB2_7.out _; (with_reducible repeat (first | refine blk_drewN ?_ _ | refine blk_drew ?_ | refine blk_alloc ?_ _)); refine blk_far ?_ NB2_7.out _; (with_reducible repeat (first | refine blk_drewN ?_ _ | refine blk_drew ?_ | refine blk_alloc ?_ _)); refine blk_far ?_ NB2_7.out _; (with_reducible repeat (first | refine blk_drewN ?_ _ | refine blk_drew ?_ | refine blk_alloc ?_ _)); exact BK2.out) hb); have n2_ := Aside0.mk (blk_below (g := gb3) (o := .cells #[.int .i64 a2_0, .bool false] 127 (0, 0)) (by (with_reducible repeat (first | refine blk_drewN ?_ _ | refine blk_drew ?_ | refine blk_alloc ?_ _)); refine blk_far ?_ NB3_7.out _; (with_reducible repeat (first | refine blk_drewN ?_ _ | refine blk_drew ?_ | refine blk_alloc ?_ _)); refine blk_far ?_ NB3_7.out _; (with_reducible repeat (first | refine blk_drewN ?_ _ | refine blk_drew ?_ | refine blk_alloc ?_ _)); refine blk_far ?_ NB3_7.out _; (with_reducible repeat (first | refine blk_drewN ?_ _ | refine blk_drew ?_ | refine blk_alloc ?_ _)); exact BK3.out) hb); have n3_ := Aside0.mk (blk_below (g := gb7) (o := .cells #[.int .i64 ((rd_T102 l1_1 a2_0).f0), .slice A5_1 ((rd_T102 l1_1 a2_0).f1).length c5_1, .slice A5_2 ((rd_T102 l1_1 a2_0).f2).length c5_2] 102 (0, 0)) (by (with_reducible repeat (first | refine blk_drewN ?_ _ | refine blk_drew ?_ | refine blk_alloc ?_ _)); refine blk_put (cs := #[.int .i64 ((rd_T102 l1_1 a2_0).f0), .slice A5_1 ((rd_T102 l1_1 a2_0).f1).length c5_1, .slice none 0 0]) ?_ 2 _ rfl; (with_reducible repeat (first | refine blk_drewN ?_ _ | refine blk_drew ?_ | refine blk_alloc ?_ _)); refine blk_put (cs := #[.int .i64 ((rd_T102 l1_1 a2_0).f0), .slice none 0 0, .slice none 0 0]) ?_ 1 _ rfl; (with_reducible repeat (first | refine blk_drewN ?_ _ | refine blk_drew ?_ | refine blk_alloc ?_ _)); refine blk_put (cs := #[.int .i64 0, .slice none 0 0, .slice none 0 0]) ?_ 0 _ rfl; (with_reducible repeat (first | refine blk_drewN ?_ _ | refine blk_drew ?_ | refine blk_alloc ?_ _)); exact BK7.out) hb); have n4_ := bs_ hb; clear BK1; clear BK2; clear BK3; clear BK7; clear HB; have BK1 := n0_; have BK2 := n1_; have BK3 := n2_; have BK7 := n3_; have HB := n4_; clear n0_ n1_ n2_ n3_ n4_; (try clear hb); (try clear hb2); (try clear hk); (try clear hi); obtain ⟨hcz89_0, hcz89_1, hcz89_2, hfz89_0, hfz89_1, hfz89_2⟩ := bc3_ BK7.out))
  go_ret
  exact ⟨rr_, bw_⟩
 replace c69 := Bool.eq_false_iff.mpr c69
 subst c69
 have H1 : (some true) = some r := by rw [if_neg (show ¬ (false = true) by decide)] at H; exact H
 clear H
 have H := H1
 clear H1
 obtain rfl := Option.some.inj H
 have hnb103 := NB3_7.out
 have hnc103 := NB7_3.out
 obtain ⟨hcz104_0, hcz104_1, hfz104_0, hfz104_1⟩ := bc2_ BK3.out
 have hnb105 := NB7_1.out
 have hnc105 := NB1_7.out
 have hnb106 := NB7_2.out
 have hnc106 := NB2_7.out
 obtain ⟨hcz107_0, hcz107_1, hcz107_2, hfz107_0, hfz107_1, hfz107_2⟩ := bc3_ BK7.out
 have p8 : 0 ≤ (((rd_T102 l1_1 a2_0).f0) : Int) := od_
 have q8 : ((rd_T102 l1_1 a2_0).f0) < ((rd_L4 l0_1 a2_0).length : Int) := od_
 obtain ⟨ad8, e8, hx8_0, hx8_1, hx8_2, hx8_3⟩ := at_T82 HR6_0.out ((rd_T102 l1_1 a2_0).f0) p8 q8
 cases e8
 have hn8_0 : ad8.block ≠ gb7 := Nat.ne_of_lt (Nat.lt_of_lt_of_le (by have := World.block_lt_of_cell? _ _ hx8_0; first | rwa [add_block] at this | exact this) GW7.out)
 have hn8_1 : ad8.block ≠ gb7 := Nat.ne_of_lt (Nat.lt_of_lt_of_le (by have := World.block_lt_of_cell? _ _ hx8_0; first | rwa [add_block] at this | exact this) GW7.out)
 have hn8_2 : ad8.block ≠ gb7 := Nat.ne_of_lt (Nat.lt_of_lt_of_le (by have := World.block_lt_of_cell? _ _ hx8_0; first | rwa [add_block] at this | exact this) GW7.out)
 replace hx8_0 := (HB.out.cell (World.block_lt_of_cell? w _ hx8_0)).trans hx8_0
 replace hx8_1 := (HB.out.cell (World.block_lt_of_cell? w _ hx8_1)).trans hx8_1
 replace hx8_2 := (HB.out.cell (World.block_lt_of_cell? w _ hx8_2)).trans hx8_2
 replace hx8_3 := (HB.out.cell (World.block_lt_of_cell? w _ hx8_3)).trans hx8_3
 replace hx8_0 := (cell_far (p := ⟨gb7, 0, none⟩) (by first | (rw [add_block]; exact hn8_0) | (show (Addr.add _ _).block ≠ _; rw [add_block]; exact hn8_0) | exact hn8_0) (.int .i64 ((rd_T102 l1_1 a2_0).f0))).trans hx8_0
 replace hx8_1 := (cell_far (p := ⟨gb7, 0, none⟩) (by first | (rw [add_block]; exact hn8_0) | (show (Addr.add _ _).block ≠ _; rw [add_block]; exact hn8_0) | exact hn8_0) (.int .i64 ((rd_T102 l1_1 a2_0).f0))).trans hx8_1
 replace hx8_2 := (cell_far (p := ⟨gb7, 0, none⟩) (by first | (rw [add_block]; exact hn8_0) | (show (Addr.add _ _).block ≠ _; rw [add_block]; exact hn8_0) | exact hn8_0) (.int .i64 ((rd_T102 l1_1 a2_0).f0))).trans hx8_2
 replace hx8_3 := (cell_far (p := ⟨gb7, 0, none⟩) (by first | (rw [add_block]; exact hn8_0) | (show (Addr.add _ _).block ≠ _; rw [add_block]; exact hn8_0) | exact hn8_0) (.int .i64 ((rd_T102 l1_1 a2_0).f0))).trans hx8_3
 replace hx8_0 := (cell_far (p := ⟨gb7, 1, none⟩) (by first | (rw [add_block]; exact hn8_1) | (show (Addr.add _ _).block ≠ _; rw [add_block]; exact hn8_1) | exact hn8_1) (.slice A5_1 ((rd_T102 l1_1 a2_0).f1).length c5_1)).trans hx8_0
 replace hx8_1 := (cell_far (p := ⟨gb7, 1, none⟩) (by first | (rw [add_block]; exact hn8_1) | (show (Addr.add _ _).block ≠ _; rw [add_block]; exact hn8_1) | exact hn8_1) (.slice A5_1 ((rd_T102 l1_1 a2_0).f1).length c5_1)).trans hx8_1
 replace hx8_2 := (cell_far (p := ⟨gb7, 1, none⟩) (by first | (rw [add_block]; exact hn8_1) | (show (Addr.add _ _).block ≠ _; rw [add_block]; exact hn8_1) | exact hn8_1) (.slice A5_1 ((rd_T102 l1_1 a2_0).f1).length c5_1)).trans hx8_2
 replace hx8_3 := (cell_far (p := ⟨gb7, 1, none⟩) (by first | (rw [add_block]; exact hn8_1) | (show (Addr.add _ _).block ≠ _; rw [add_block]; exact hn8_1) | exact hn8_1) (.slice A5_1 ((rd_T102 l1_1 a2_0).f1).length c5_1)).trans hx8_3
 replace hx8_0 := (cell_far (p := ⟨gb7, 2, none⟩) (by first | (rw [add_block]; exact hn8_2) | (show (Addr.add _ _).block ≠ _; rw [add_block]; exact hn8_2) | exact hn8_2) (.slice A5_2 ((rd_T102 l1_1 a2_0).f2).length c5_2)).trans hx8_0
 replace hx8_1 := (cell_far (p := ⟨gb7, 2, none⟩) (by first | (rw [add_block]; exact hn8_2) | (show (Addr.add _ _).block ≠ _; rw [add_block]; exact hn8_2) | exact hn8_2) (.slice A5_2 ((rd_T102 l1_1 a2_0).f2).length c5_2)).trans hx8_1
 replace hx8_2 := (cell_far (p := ⟨gb7, 2, none⟩) (by first | (rw [add_block]; exact hn8_2) | (show (Addr.add _ _).block ≠ _; rw [add_block]; exact hn8_2) | exact hn8_2) (.slice A5_2 ((rd_T102 l1_1 a2_0).f2).length c5_2)).trans hx8_2
 replace hx8_3 := (cell_far (p := ⟨gb7, 2, none⟩) (by first | (rw [add_block]; exact hn8_2) | (show (Addr.add _ _).block ≠ _; rw [add_block]; exact hn8_2) | exact hn8_2) (.slice A5_2 ((rd_T102 l1_1 a2_0).f2).length c5_2)).trans hx8_3
 clear hn8_0
 clear hn8_1
 clear hn8_2
 replace p8 := eq_true p8
 replace q8 := eq_true q8
 have p9 : 0 ≤ (((rd_T102 l1_1 a2_0).f0) : Int) := od_
 have q9 : ((rd_T102 l1_1 a2_0).f0) < ((rd_L4 l0_1 a2_0).length : Int) := od_
 obtain ⟨ad9, e9, hx9_0, hx9_1, hx9_2, hx9_3⟩ := at_T82 HR6_0.out ((rd_T102 l1_1 a2_0).f0) p9 q9
 obtain rfl : ad8 = ad9 := (by injection e9)
 have hn9_0 : ad8.block ≠ gb7 := Nat.ne_of_lt (Nat.lt_of_lt_of_le (by have := World.block_lt_of_cell? _ _ hx9_0; first | rwa [add_block] at this | exact this) GW7.out)
 have hn9_1 : ad8.block ≠ gb7 := Nat.ne_of_lt (Nat.lt_of_lt_of_le (by have := World.block_lt_of_cell? _ _ hx9_0; first | rwa [add_block] at this | exact this) GW7.out)
 have hn9_2 : ad8.block ≠ gb7 := Nat.ne_of_lt (Nat.lt_of_lt_of_le (by have := World.block_lt_of_cell? _ _ hx9_0; first | rwa [add_block] at this | exact this) GW7.out)
 replace hx9_0 := (HB.out.cell (World.block_lt_of_cell? w _ hx9_0)).trans hx9_0
 replace hx9_1 := (HB.out.cell (World.block_lt_of_cell? w _ hx9_1)).trans hx9_1
 replace hx9_2 := (HB.out.cell (World.block_lt_of_cell? w _ hx9_2)).trans hx9_2
 replace hx9_3 := (HB.out.cell (World.block_lt_of_cell? w _ hx9_3)).trans hx9_3
 replace hx9_0 := (cell_far (p := ⟨gb7, 0, none⟩) (by first | (rw [add_block]; exact hn9_0) | (show (Addr.add _ _).block ≠ _; rw [add_block]; exact hn9_0) | exact hn9_0) (.int .i64 ((rd_T102 l1_1 a2_0).f0))).trans hx9_0
 replace hx9_1 := (cell_far (p := ⟨gb7, 0, none⟩) (by first | (rw [add_block]; exact hn9_0) | (show (Addr.add _ _).block ≠ _; rw [add_block]; exact hn9_0) | exact hn9_0) (.int .i64 ((rd_T102 l1_1 a2_0).f0))).trans hx9_1
 replace hx9_2 := (cell_far (p := ⟨gb7, 0, none⟩) (by first | (rw [add_block]; exact hn9_0) | (show (Addr.add _ _).block ≠ _; rw [add_block]; exact hn9_0) | exact hn9_0) (.int .i64 ((rd_T102 l1_1 a2_0).f0))).trans hx9_2
 replace hx9_3 := (cell_far (p := ⟨gb7, 0, none⟩) (by first | (rw [add_block]; exact hn9_0) | (show (Addr.add _ _).block ≠ _; rw [add_block]; exact hn9_0) | exact hn9_0) (.int .i64 ((rd_T102 l1_1 a2_0).f0))).trans hx9_3
 replace hx9_0 := (cell_far (p := ⟨gb7, 1, none⟩) (by first | (rw [add_block]; exact hn9_1) | (show (Addr.add _ _).block ≠ _; rw [add_block]; exact hn9_1) | exact hn9_1) (.slice A5_1 ((rd_T102 l1_1 a2_0).f1).length c5_1)).trans hx9_0
 replace hx9_1 := (cell_far (p := ⟨gb7, 1, none⟩) (by first | (rw [add_block]; exact hn9_1) | (show (Addr.add _ _).block ≠ _; rw [add_block]; exact hn9_1) | exact hn9_1) (.slice A5_1 ((rd_T102 l1_1 a2_0).f1).length c5_1)).trans hx9_1
 replace hx9_2 := (cell_far (p := ⟨gb7, 1, none⟩) (by first | (rw [add_block]; exact hn9_1) | (show (Addr.add _ _).block ≠ _; rw [add_block]; exact hn9_1) | exact hn9_1) (.slice A5_1 ((rd_T102 l1_1 a2_0).f1).length c5_1)).trans hx9_2
 replace hx9_3 := (cell_far (p := ⟨gb7, 1, none⟩) (by first | (rw [add_block]; exact hn9_1) | (show (Addr.add _ _).block ≠ _; rw [add_block]; exact hn9_1) | exact hn9_1) (.slice A5_1 ((rd_T102 l1_1 a2_0).f1).length c5_1)).trans hx9_3
 replace hx9_0 := (cell_far (p := ⟨gb7, 2, none⟩) (by first | (rw [add_block]; exact hn9_2) | (show (Addr.add _ _).block ≠ _; rw [add_block]; exact hn9_2) | exact hn9_2) (.slice A5_2 ((rd_T102 l1_1 a2_0).f2).length c5_2)).trans hx9_0
 replace hx9_1 := (cell_far (p := ⟨gb7, 2, none⟩) (by first | (rw [add_block]; exact hn9_2) | (show (Addr.add _ _).block ≠ _; rw [add_block]; exact hn9_2) | exact hn9_2) (.slice A5_2 ((rd_T102 l1_1 a2_0).f2).length c5_2)).trans hx9_1
 replace hx9_2 := (cell_far (p := ⟨gb7, 2, none⟩) (by first | (rw [add_block]; exact hn9_2) | (show (Addr.add _ _).block ≠ _; rw [add_block]; exact hn9_2) | exact hn9_2) (.slice A5_2 ((rd_T102 l1_1 a2_0).f2).length c5_2)).trans hx9_2
 replace hx9_3 := (cell_far (p := ⟨gb7, 2, none⟩) (by first | (rw [add_block]; exact hn9_2) | (show (Addr.add _ _).block ≠ _; rw [add_block]; exact hn9_2) | exact hn9_2) (.slice A5_2 ((rd_T102 l1_1 a2_0).f2).length c5_2)).trans hx9_3
 clear hn9_0
 clear hn9_1
 clear hn9_2
 replace p9 := eq_true p9
 replace q9 := eq_true q9
 try go_wp2_with (first | ((with_reducible refine gate_callee (f := 88) rfl ?_); refine goesL_ (some 60) rfl rfl Try.func88 (by kernel_rfl) rfl #[.agg #[.int .i64 ((rd_T82 (rd_L4 l0_1 a2_0) ((rd_T102 l1_1 a2_0).f0)).f0), .int .i64 ((rd_T82 (rd_L4 l0_1 a2_0) ((rd_T102 l1_1 a2_0).f0)).f1), .int .i64 ((rd_T82 (rd_L4 l0_1 a2_0) ((rd_T102 l1_1 a2_0).f0)).f2), .int .i64 ((rd_T82 (rd_L4 l0_1 a2_0) ((rd_T102 l1_1 a2_0).f0)).f3)]] rfl ar_ ?_; (with_reducible refine (impl_HasFence.calls ((rd_T82 (rd_L4 l0_1 a2_0) ((rd_T102 l1_1 a2_0).f0)).f0) ((rd_T82 (rd_L4 l0_1 a2_0) ((rd_T102 l1_1 a2_0).f0)).f1) ((rd_T82 (rd_L4 l0_1 a2_0) ((rd_T102 l1_1 a2_0).f0)).f2) ((rd_T82 (rd_L4 l0_1 a2_0) ((rd_T102 l1_1 a2_0).f0)).f3) false _ A68.out).mono ?_); rintro e w108 ⟨rfl, hb⟩; refine ⟨_, rfl, ?_⟩; have n0_ := Aside0.mk (blk_below (g := gb1) (o := .cells #[.int .i64 a0_0, .slice (some ad6) l0_1.length c0_1] 39 (0, 0)) (by (with_reducible repeat (first | refine blk_drewN ?_ _ | refine blk_drew ?_ | refine blk_alloc ?_ _)); refine blk_far ?_ NB1_7.out _; (with_reducible repeat (first | refine blk_drewN ?_ _ | refine blk_drew ?_ | refine blk_alloc ?_ _)); refine blk_far ?_ NB1_7.out _; (with_reducible repeat (first | refine blk_drewN ?_ _ | refine blk_drew ?_ | refine blk_alloc ?_ _)); refine blk_far ?_ NB1_7.out _; (with_reducible repeat (first | refine blk_drewN ?_ _ | refine blk_drew ?_ | refine blk_alloc ?_ _)); exact BK1.out) hb); have n1_ := Aside0.mk (blk_below (g := gb2) (o := .cells #[.slice A1_0 l1_0.length c1_0, .slice (some ad5) l1_1.length c1_1] 54 (0, 0)) (by (with_reducible repeat (first | refine blk_drewN ?_ _ | refine blk_drew ?_ | refine blk_alloc ?_ _)); refine blk_far ?_ NB2_7.out _; (with_reducible repeat (first | refine blk_drewN ?_ _ | refine blk_drew ?_ | refine blk_alloc ?_ _)); refine blk_far ?_ NB2_7.out _; (with_reducible repeat (first | refine blk_drewN ?_ _ | refine blk_drew ?_ | refine blk_alloc ?_ _)); refine blk_far ?_ NB2_7.out _; (with_reducible repeat (first | refine blk_drewN ?_ _ | refine blk_drew ?_ | refine blk_alloc ?_ _)); exact BK2.out) hb); have n2_ := Aside0.mk (blk_below (g := gb3) (o := .cells #[.int .i64 a2_0, .bool false] 127 (0, 0)) (by (with_reducible repeat (first | refine blk_drewN ?_ _ | refine blk_drew ?_ | refine blk_alloc ?_ _)); refine blk_far ?_ NB3_7.out _; (with_reducible repeat (first | refine blk_drewN ?_ _ | refine blk_drew ?_ | refine blk_alloc ?_ _)); refine blk_far ?_ NB3_7.out _; (with_reducible repeat (first | refine blk_drewN ?_ _ | refine blk_drew ?_ | refine blk_alloc ?_ _)); refine blk_far ?_ NB3_7.out _; (with_reducible repeat (first | refine blk_drewN ?_ _ | refine blk_drew ?_ | refine blk_alloc ?_ _)); exact BK3.out) hb); have n3_ := Aside0.mk (blk_below (g := gb7) (o := .cells #[.int .i64 ((rd_T102 l1_1 a2_0).f0), .slice A5_1 ((rd_T102 l1_1 a2_0).f1).length c5_1, .slice A5_2 ((rd_T102 l1_1 a2_0).f2).length c5_2] 102 (0, 0)) (by (with_reducible repeat (first | refine blk_drewN ?_ _ | refine blk_drew ?_ | refine blk_alloc ?_ _)); refine blk_put (cs := #[.int .i64 ((rd_T102 l1_1 a2_0).f0), .slice A5_1 ((rd_T102 l1_1 a2_0).f1).length c5_1, .slice none 0 0]) ?_ 2 _ rfl; (with_reducible repeat (first | refine blk_drewN ?_ _ | refine blk_drew ?_ | refine blk_alloc ?_ _)); refine blk_put (cs := #[.int .i64 ((rd_T102 l1_1 a2_0).f0), .slice none 0 0, .slice none 0 0]) ?_ 1 _ rfl; (with_reducible repeat (first | refine blk_drewN ?_ _ | refine blk_drew ?_ | refine blk_alloc ?_ _)); refine blk_put (cs := #[.int .i64 0, .slice none 0 0, .slice none 0 0]) ?_ 0 _ rfl; (with_reducible repeat (first | refine blk_drewN ?_ _ | refine blk_drew ?_ | refine blk_alloc ?_ _)); exact BK7.out) hb); have n4_ := bs_ hb; clear BK1; clear BK2; clear BK3; clear BK7; clear HB; have BK1 := n0_; have BK2 := n1_; have BK3 := n2_; have BK7 := n3_; have HB := n4_; clear n0_ n1_ n2_ n3_ n4_; (try clear hb); (try clear hb2); (try clear hk); (try clear hi)))
 go_ret
 exact ⟨rr_, bw_⟩

end Go.Proofs.Ytlfbdafghpmahaa.P
