-- Written by mp.py (the session's own driver over the kit's printer) for the seat Ytpcfcdnmpginhaa.
import Derived.Test.YtpcfcdnmpginhaaK
import Derived.Test.YtpcfcdnmpginhaaE
import Derived.Test.YtpcfcdnmpginhaaPspecMachineOk
namespace Go.Proofs.Ytpcfcdnmpginhaa.P
open Go.RowKit Go.Proofs.YtpcfcdnmpginhaaW.PrintWords Go.Proofs.YtpcfcdnmpginhaaW.PrintLast Go.Proofs.YtpcfcdnmpginhaaW.PrintMore
attribute [local go_sem] max2_int min2_int max_two min_two max_three min_three max_four min_four
set_option linter.unusedVariables false
set_option linter.unusedSimpArgs false

/-! ### spec_l04End: function 151 -/
def spec_l04End.l0 : Nat → Int → Int → List (List (S153)) → List Int → List (S137) → Option (Bool)
 | 0, _, _, _, _, _ => none
 | k + 1, x5, x2000, x2001, x3000, x3001 => if x5 < (x3001.length : Int) then (if 0 ≤ x5 then (if x5 < (x2001.length : Int) then (if ((rd_T137 x3001 x5).f0) = ((rd_L17 x2001 x5).length : Int) then (if (((rd_T137 x3001 x5).f2).length : Int) > 0 then (some false) else (spec_l04End.l0 k (wrap64 (x5 + 1)) x2000 x2001 x3000 x3001)) else (some false)) else (none)) else (none)) else (some true)
def spec_l04End.f (k : Nat) (a0_0 : Int) (l0_1 : List (List (S153))) (l1_0 : List Int) (l1_1 : List (S137)) : Option (Bool) := spec_l04End.l0 k 0 a0_0 l0_1 l1_0 l1_1
theorem spec_l04End.mono_l : ∀ k, (∀ y0 y1 y2 y3 y4, LeO (spec_l04End.l0 k y0 y1 y2 y3 y4) (spec_l04End.l0 (k + 1) y0 y1 y2 y3 y4))
 | 0 => fun _ _ _ _ _ r h => by simp [spec_l04End.l0] at h
 | k + 1 => by
  have ih0 := spec_l04End.mono_l k
  ·intro y0 y1 y2 y3 y4
   unfold spec_l04End.l0
   repeat' first
   | (with_reducible exact ih0 _ _ _ _ _)
   | (with_reducible exact LeO.refl _)
   | (with_reducible exact LeO.none _)
   | (with_reducible refine LeO.ite ?_ ?_)
   | (with_reducible refine LeO.bind ?_ (fun _ => ?_))
   | exact ih0 _ _ _ _ _
   | exact LeO.none _
   | refine LeO.ite ?_ ?_
   | refine LeO.bind ?_ (fun _ => ?_)
theorem spec_l04End.mono : ∀ a0 a1 a2 a3 k, LeO (spec_l04End.f k a0 a1 a2 a3) (spec_l04End.f (k + 1) a0 a1 a2 a3) := by
 intro a0 a1 a2 a3 k
 have ih0 := spec_l04End.mono_l k
 unfold spec_l04End.f
 repeat' first
   | (with_reducible exact ih0 _ _ _ _ _)
   | (with_reducible exact LeO.refl _)
   | (with_reducible exact LeO.none _)
   | (with_reducible refine LeO.ite ?_ ?_)
   | (with_reducible refine LeO.bind ?_ (fun _ => ?_))
   | exact ih0 _ _ _ _ _
   | exact LeO.none _
   | refine LeO.ite ?_ ?_
   | refine LeO.bind ?_ (fun _ => ?_)
set_option maxHeartbeats 8000000 in
set_option maxRecDepth 100000 in
theorem spec_l04End.calls (k : Nat) (a0_0 : Int) (A0_1 : Option Addr) (c0_1 : Nat) (l0_1 : List (List (S153))) (A1_0 : Option Addr) (c1_0 : Nat) (l1_0 : List Int) (A1_1 : Option Addr) (c1_1 : Nat) (l1_1 : List (S137)) (r : Bool) (w : World) (hr0_1 : Kd.C (Kd.slice 153 k153) w A0_1 l0_1.length l0_1) (hc0_1 : l0_1.length ≤ c0_1) (hr1_0 : Kd.C (Kd.int .i64) w A1_0 l1_0.length l1_0) (hc1_0 : l1_0.length ≤ c1_0) (hr1_1 : Kd.C k137 w A1_1 l1_1.length l1_1) (hc1_1 : l1_1.length ≤ c1_1) (h : spec_l04End.f k a0_0 l0_1 l1_0 l1_1 = some r) :
  Calls Try.prog 151 #[.agg #[.int .i64 a0_0, .slice A0_1 l0_1.length c0_1], .agg #[.slice A1_0 l1_0.length c1_0, .slice A1_1 l1_1.length c1_1]] w fun e w' => e = .returned (.bool r) ∧ Below w.heap.size w w' := by
 have hu64 := Try.underlying64
 have hu46 := Try.underlying46
 have HR0_1 := Aside0.mk hr0_1
 have HC0_1 := Aside0.mk hc0_1
 clear hr0_1 hc0_1
 have HR1_0 := Aside0.mk hr1_0
 have HC1_0 := Aside0.mk hc1_0
 clear hr1_0 hc1_0
 have HR1_1 := Aside0.mk hr1_1
 have HC1_1 := Aside0.mk hc1_1
 clear hr1_1 hc1_1
 have HB := Aside0.mk (Below.refl w.heap.size w)
 have H : (spec_l04End.l0 k 0 a0_0 l0_1 l1_0 l1_1) = some r := h
 clear h
 have H' := Aside0.mk H
 clear H
 go_enter Try.func151, Try.ntmps151
 go_wp2_with (first | ((with_reducible refine gate_dst (N := 2) rfl ?_); (try (refine gate_guard (by rfl) ?_; dsimp only)); refine box_event ?hg (N := 2) ?hd (cs := #[.int .i64 a0_0, .slice A0_1 l0_1.length c0_1]) (t := 64) ?hr ?_; (case hd => rfl); (case hg => rfl); (case hr => first | (go_simp; done) | (go_simp; rfl)); intro gb1 hg w3 hbox hb; have n0_ := Aside0.mk (below_step bw_ hb); have n1_ := Aside0.mk (hbox); have n2_ := Aside0.mk ((by rw [hg]; exact (below_size bw_) : w.heap.size ≤ gb1)); have n3_ := Aside0.mk ((by rw [hg]; exact (below_size bw_) : w.heap.size ≤ gb1)); clear HB; have HB := n0_; have BK1 := n1_; have GW1 := n2_; have GE1 := n3_; clear n0_ n1_ n2_ n3_; clear hb hbox hg) | ((with_reducible refine gate_dst (N := 3) rfl ?_); (try (refine gate_guard (by rfl) ?_; dsimp only)); refine box_event ?hg (N := 3) ?hd (cs := #[.slice A1_0 l1_0.length c1_0, .slice A1_1 l1_1.length c1_1]) (t := 46) ?hr ?_; (case hd => rfl); (case hg => rfl); (case hr => first | (go_simp; done) | (go_simp; rfl)); intro gb2 hg w4 hbox hb; have n0_ := Aside0.mk (blk_below (g := gb1) (o := .cells #[.int .i64 a0_0, .slice A0_1 l0_1.length c0_1] 64 (0, 0)) bk_ hb); have n1_ := Aside0.mk (below_step bw_ hb); have n2_ := Aside0.mk (hbox); have n3_ := Aside0.mk ((by rw [hg]; exact (below_size bw_) : w.heap.size ≤ gb2)); have n4_ := Aside0.mk ((by rw [hg]; exact (below_size bw_) : w.heap.size ≤ gb2)); have n5_ := Aside0.mk ((by rw [hg]; exact Nat.ne_of_lt (blk_lt (g := gb1) (o := .cells #[.int .i64 a0_0, .slice A0_1 l0_1.length c0_1] 64 (0, 0)) bk_) : gb1 ≠ gb2)); have n6_ := Aside0.mk ((by rw [hg]; exact Nat.ne_of_gt (blk_lt (g := gb1) (o := .cells #[.int .i64 a0_0, .slice A0_1 l0_1.length c0_1] 64 (0, 0)) bk_) : gb2 ≠ gb1)); clear BK1; clear HB; have BK1 := n0_; have HB := n1_; have BK2 := n2_; have GW2 := n3_; have GE2 := n4_; have NB1_2 := n5_; have NB2_1 := n6_; clear n0_ n1_ n2_ n3_ n4_ n5_ n6_; clear hb hbox hg))
 repeat (go_quiet (first | ((with_reducible refine gate_dst (N := 2) rfl ?_); (try (refine gate_guard (by rfl) ?_; dsimp only)); refine box_event ?hg (N := 2) ?hd (cs := #[.int .i64 a0_0, .slice A0_1 l0_1.length c0_1]) (t := 64) ?hr ?_; (case hd => rfl); (case hg => rfl); (case hr => first | (go_simp; done) | (go_simp; rfl)); intro gb1 hg w3 hbox hb; have n0_ := Aside0.mk (below_step bw_ hb); have n1_ := Aside0.mk (hbox); have n2_ := Aside0.mk ((by rw [hg]; exact (below_size bw_) : w.heap.size ≤ gb1)); have n3_ := Aside0.mk ((by rw [hg]; exact (below_size bw_) : w.heap.size ≤ gb1)); clear HB; have HB := n0_; have BK1 := n1_; have GW1 := n2_; have GE1 := n3_; clear n0_ n1_ n2_ n3_; clear hb hbox hg) | ((with_reducible refine gate_dst (N := 3) rfl ?_); (try (refine gate_guard (by rfl) ?_; dsimp only)); refine box_event ?hg (N := 3) ?hd (cs := #[.slice A1_0 l1_0.length c1_0, .slice A1_1 l1_1.length c1_1]) (t := 46) ?hr ?_; (case hd => rfl); (case hg => rfl); (case hr => first | (go_simp; done) | (go_simp; rfl)); intro gb2 hg w4 hbox hb; have n0_ := Aside0.mk (blk_below (g := gb1) (o := .cells #[.int .i64 a0_0, .slice A0_1 l0_1.length c0_1] 64 (0, 0)) bk_ hb); have n1_ := Aside0.mk (below_step bw_ hb); have n2_ := Aside0.mk (hbox); have n3_ := Aside0.mk ((by rw [hg]; exact (below_size bw_) : w.heap.size ≤ gb2)); have n4_ := Aside0.mk ((by rw [hg]; exact (below_size bw_) : w.heap.size ≤ gb2)); have n5_ := Aside0.mk ((by rw [hg]; exact Nat.ne_of_lt (blk_lt (g := gb1) (o := .cells #[.int .i64 a0_0, .slice A0_1 l0_1.length c0_1] 64 (0, 0)) bk_) : gb1 ≠ gb2)); have n6_ := Aside0.mk ((by rw [hg]; exact Nat.ne_of_gt (blk_lt (g := gb1) (o := .cells #[.int .i64 a0_0, .slice A0_1 l0_1.length c0_1] 64 (0, 0)) bk_) : gb2 ≠ gb1)); clear BK1; clear HB; have BK1 := n0_; have HB := n1_; have BK2 := n2_; have GW2 := n3_; have GE2 := n4_; have NB1_2 := n5_; have NB2_1 := n6_; clear n0_ n1_ n2_ n3_ n4_ n5_ n6_; clear hb hbox hg)); try go_wp2_with (first | ((with_reducible refine gate_dst (N := 2) rfl ?_); (try (refine gate_guard (by rfl) ?_; dsimp only)); refine box_event ?hg (N := 2) ?hd (cs := #[.int .i64 a0_0, .slice A0_1 l0_1.length c0_1]) (t := 64) ?hr ?_; (case hd => rfl); (case hg => rfl); (case hr => first | (go_simp; done) | (go_simp; rfl)); intro gb1 hg w3 hbox hb; have n0_ := Aside0.mk (below_step bw_ hb); have n1_ := Aside0.mk (hbox); have n2_ := Aside0.mk ((by rw [hg]; exact (below_size bw_) : w.heap.size ≤ gb1)); have n3_ := Aside0.mk ((by rw [hg]; exact (below_size bw_) : w.heap.size ≤ gb1)); clear HB; have HB := n0_; have BK1 := n1_; have GW1 := n2_; have GE1 := n3_; clear n0_ n1_ n2_ n3_; clear hb hbox hg) | ((with_reducible refine gate_dst (N := 3) rfl ?_); (try (refine gate_guard (by rfl) ?_; dsimp only)); refine box_event ?hg (N := 3) ?hd (cs := #[.slice A1_0 l1_0.length c1_0, .slice A1_1 l1_1.length c1_1]) (t := 46) ?hr ?_; (case hd => rfl); (case hg => rfl); (case hr => first | (go_simp; done) | (go_simp; rfl)); intro gb2 hg w4 hbox hb; have n0_ := Aside0.mk (blk_below (g := gb1) (o := .cells #[.int .i64 a0_0, .slice A0_1 l0_1.length c0_1] 64 (0, 0)) bk_ hb); have n1_ := Aside0.mk (below_step bw_ hb); have n2_ := Aside0.mk (hbox); have n3_ := Aside0.mk ((by rw [hg]; exact (below_size bw_) : w.heap.size ≤ gb2)); have n4_ := Aside0.mk ((by rw [hg]; exact (below_size bw_) : w.heap.size ≤ gb2)); have n5_ := Aside0.mk ((by rw [hg]; exact Nat.ne_of_lt (blk_lt (g := gb1) (o := .cells #[.int .i64 a0_0, .slice A0_1 l0_1.length c0_1] 64 (0, 0)) bk_) : gb1 ≠ gb2)); have n6_ := Aside0.mk ((by rw [hg]; exact Nat.ne_of_gt (blk_lt (g := gb1) (o := .cells #[.int .i64 a0_0, .slice A0_1 l0_1.length c0_1] 64 (0, 0)) bk_) : gb2 ≠ gb1)); clear BK1; clear HB; have BK1 := n0_; have HB := n1_; have BK2 := n2_; have GW2 := n3_; have GE2 := n4_; have NB1_2 := n5_; have NB2_1 := n6_; clear n0_ n1_ n2_ n3_ n4_ n5_ n6_; clear hb hbox hg)))
 go_loopg [5] k (fun kq v5 w' => ∃ (x5_1 : Int), v5 = .int .i64 x5_1 ∧ Aside0 (spec_l04End.l0 kq x5_1 a0_0 l0_1 l1_0 l1_1 = some r) ∧ Aside0 (kq ≤ k) ∧ Aside0 (w'.heap[gb1]? = some (.cells #[.int .i64 a0_0, (.slice A0_1 l0_1.length c0_1)] 64 (0, 0))) ∧ Aside0 (w'.heap[gb2]? = some (.cells #[(.slice A1_0 l1_0.length c1_0), (.slice A1_1 l1_1.length c1_1)] 46 (0, 0))) ∧ Aside0 (Below w.heap.size w w'))
 case atStart => exact ⟨(0), sd_, H', ⟨Nat.le_refl _⟩, ⟨bk_⟩, ⟨bk_⟩, ⟨bw_⟩⟩
 case round =>
  clear H'
  try clear c1
  try clear p2
  obtain ⟨x5_1, rfl, HA, HK1, BK1, BK2, HB⟩ := hrel
  cases gk with
  | zero => exact absurd HA.out (by simp [spec_l04End.l0])
  | succ k1 =>
   have H := HA.out
   clear HA
   simp only [spec_l04End.l0] at H
   by_cases c5 : x5_1 < (l1_1.length : Int)
   rotate_left
   ·rw [if_neg c5] at H
    have c5b0 : decide (x5_1 < (l1_1.length : Int)) = false := decide_eq_false c5
    clear c5
    obtain rfl := Option.some.inj H
    have hnb19 := NB2_1.out
    have hnc19 := NB1_2.out
    have hcz20_0 := (blk_cell BK2.out 0).trans rfl
    have hcz20_1 := (blk_cell BK2.out 1).trans rfl
    have hfz20_0 := blk_frozen BK2.out 0
    have hfz20_1 := blk_frozen BK2.out 1
    go_wp2
    repeat (go_quiet (fail); try go_wp2)
    go_ret
    exact ⟨rr_, bw_⟩
   rw [if_pos c5] at H
   have c5b0 : decide (x5_1 < (l1_1.length : Int)) = true := decide_eq_true c5
   clear c5
   by_cases c6 : 0 ≤ x5_1
   rotate_left
   ·rw [if_neg c6] at H
    exact absurd H (by simp)
   rw [if_pos c6] at H
   have c6b0 : decide (0 ≤ x5_1) = true := decide_eq_true c6
   clear c6
   by_cases c7 : x5_1 < (l0_1.length : Int)
   rotate_left
   ·rw [if_neg c7] at H
    exact absurd H (by simp)
   rw [if_pos c7] at H
   have c7b0 : decide (x5_1 < (l0_1.length : Int)) = true := decide_eq_true c7
   clear c7
   by_cases c8 : ((rd_T137 l1_1 x5_1).f0) = ((rd_L17 l0_1 x5_1).length : Int)
   rotate_left
   ·rw [if_neg c8] at H
    have c8b0 : (((rd_T137 l1_1 x5_1).f0) == ((rd_L17 l0_1 x5_1).length : Int)) = false := beq_eq_false_iff_ne.mpr c8
    have c8b1 : (((rd_T137 l1_1 x5_1).f0) != ((rd_L17 l0_1 x5_1).length : Int)) = true := bne_iff_ne.mpr c8
    obtain rfl := Option.some.inj H
    have hnb16 := NB2_1.out
    have hnc16 := NB1_2.out
    have hcz17_0 := (blk_cell BK2.out 0).trans rfl
    have hcz17_1 := (blk_cell BK2.out 1).trans rfl
    have hfz17_0 := blk_frozen BK2.out 0
    have hfz17_1 := blk_frozen BK2.out 1
    have p3 : 0 ≤ (x5_1 : Int) := od_
    have q3 : x5_1 < (l1_1.length : Int) := od_
    obtain ⟨ad3, A3_1, c3_1, A3_2, c3_2, e3, hx3_0, hx3_1, hx3_2, hl3_1, hi3_1, hl3_2, hi3_2⟩ := at_T137 HR1_1.out x5_1 p3 q3
    cases e3
    replace hx3_0 := (HB.out.cell (World.block_lt_of_cell? w _ hx3_0)).trans hx3_0
    replace hx3_1 := (HB.out.cell (World.block_lt_of_cell? w _ hx3_1)).trans hx3_1
    replace hx3_2 := (HB.out.cell (World.block_lt_of_cell? w _ hx3_2)).trans hx3_2
    have HR3_1 := Aside0.mk hi3_1
    have HC3_1 := Aside0.mk hl3_1
    clear hi3_1 hl3_1
    have HR3_2 := Aside0.mk hi3_2
    have HC3_2 := Aside0.mk hl3_2
    clear hi3_2 hl3_2
    replace p3 := eq_true p3
    replace q3 := eq_true q3
    have hcz18_0 := (blk_cell BK1.out 0).trans rfl
    have hcz18_1 := (blk_cell BK1.out 1).trans rfl
    have hfz18_0 := blk_frozen BK1.out 0
    have hfz18_1 := blk_frozen BK1.out 1
    have p4 : 0 ≤ (x5_1 : Int) := od_
    have q4 : x5_1 < (l0_1.length : Int) := od_
    obtain ⟨ad4, A4_0, c4_0, e4, hx4_0, hl4_0, hi4_0⟩ := at_L17 HR0_1.out x5_1 p4 q4
    cases e4
    replace hx4_0 := (HB.out.cell (World.block_lt_of_cell? w _ hx4_0)).trans hx4_0
    have HR4_0 := Aside0.mk hi4_0
    have HC4_0 := Aside0.mk hl4_0
    clear hi4_0 hl4_0
    replace p4 := eq_true p4
    replace q4 := eq_true q4
    go_wp2
    repeat (go_quiet (fail); try go_wp2)
    go_ret
    exact ⟨rr_, bw_⟩
   rw [if_pos c8] at H
   have c8b0 : (((rd_T137 l1_1 x5_1).f0) == ((rd_L17 l0_1 x5_1).length : Int)) = true := beq_iff_eq.mpr c8
   have c8b1 : (((rd_T137 l1_1 x5_1).f0) != ((rd_L17 l0_1 x5_1).length : Int)) = false := bne_eq_false_iff_eq.mpr c8
   clear c8
   by_cases c9 : (((rd_T137 l1_1 x5_1).f2).length : Int) > 0
   ·rw [if_pos c9] at H
    have c9b0 : decide (0 < (((rd_T137 l1_1 x5_1).f2).length : Int)) = true := decide_eq_true c9
    have c9b1 : decide (0 < ((rd_T137 l1_1 x5_1).f2).length) = true := decide_eq_true (by omega)
    clear c9
    obtain rfl := Option.some.inj H
    have hnb10 := NB2_1.out
    have hnc10 := NB1_2.out
    have hcz11_0 := (blk_cell BK2.out 0).trans rfl
    have hcz11_1 := (blk_cell BK2.out 1).trans rfl
    have hfz11_0 := blk_frozen BK2.out 0
    have hfz11_1 := blk_frozen BK2.out 1
    have p3 : 0 ≤ (x5_1 : Int) := od_
    have q3 : x5_1 < (l1_1.length : Int) := od_
    obtain ⟨ad3, A3_1, c3_1, A3_2, c3_2, e3, hx3_0, hx3_1, hx3_2, hl3_1, hi3_1, hl3_2, hi3_2⟩ := at_T137 HR1_1.out x5_1 p3 q3
    cases e3
    replace hx3_0 := (HB.out.cell (World.block_lt_of_cell? w _ hx3_0)).trans hx3_0
    replace hx3_1 := (HB.out.cell (World.block_lt_of_cell? w _ hx3_1)).trans hx3_1
    replace hx3_2 := (HB.out.cell (World.block_lt_of_cell? w _ hx3_2)).trans hx3_2
    have HR3_1 := Aside0.mk hi3_1
    have HC3_1 := Aside0.mk hl3_1
    clear hi3_1 hl3_1
    have HR3_2 := Aside0.mk hi3_2
    have HC3_2 := Aside0.mk hl3_2
    clear hi3_2 hl3_2
    replace p3 := eq_true p3
    replace q3 := eq_true q3
    have hcz12_0 := (blk_cell BK1.out 0).trans rfl
    have hcz12_1 := (blk_cell BK1.out 1).trans rfl
    have hfz12_0 := blk_frozen BK1.out 0
    have hfz12_1 := blk_frozen BK1.out 1
    have p4 : 0 ≤ (x5_1 : Int) := od_
    have q4 : x5_1 < (l0_1.length : Int) := od_
    obtain ⟨ad4, A4_0, c4_0, e4, hx4_0, hl4_0, hi4_0⟩ := at_L17 HR0_1.out x5_1 p4 q4
    cases e4
    replace hx4_0 := (HB.out.cell (World.block_lt_of_cell? w _ hx4_0)).trans hx4_0
    have HR4_0 := Aside0.mk hi4_0
    have HC4_0 := Aside0.mk hl4_0
    clear hi4_0 hl4_0
    replace p4 := eq_true p4
    replace q4 := eq_true q4
    have p5 : 0 ≤ (x5_1 : Int) := od_
    have q5 : x5_1 < (l1_1.length : Int) := od_
    obtain ⟨ad5, A5_1, c5_1, A5_2, c5_2, e5, hx5_0, hx5_1, hx5_2, hl5_1, hi5_1, hl5_2, hi5_2⟩ := at_T137 HR1_1.out x5_1 p5 q5
    obtain rfl : ad3 = ad5 := (by injection e5)
    replace hx5_0 := (HB.out.cell (World.block_lt_of_cell? w _ hx5_0)).trans hx5_0
    replace hx5_1 := (HB.out.cell (World.block_lt_of_cell? w _ hx5_1)).trans hx5_1
    replace hx5_2 := (HB.out.cell (World.block_lt_of_cell? w _ hx5_2)).trans hx5_2
    have HR5_1 := Aside0.mk hi5_1
    have HC5_1 := Aside0.mk hl5_1
    clear hi5_1 hl5_1
    have HR5_2 := Aside0.mk hi5_2
    have HC5_2 := Aside0.mk hl5_2
    clear hi5_2 hl5_2
    replace p5 := eq_true p5
    replace q5 := eq_true q5
    have ea_ := Option.some.inj (hx3_1.symm.trans hx5_1)
    injection ea_ with ea_ en_ ec_
    subst ea_
    subst ec_
    clear en_
    have ea_ := Option.some.inj (hx3_2.symm.trans hx5_2)
    injection ea_ with ea_ en_ ec_
    subst ea_
    subst ec_
    clear en_
    go_wp2
    repeat (go_quiet (fail); try go_wp2)
    go_ret
    exact ⟨rr_, bw_⟩
   rw [if_neg c9] at H
   have c9b0 : decide (0 < (((rd_T137 l1_1 x5_1).f2).length : Int)) = false := decide_eq_false c9
   have c9b1 : decide (0 < ((rd_T137 l1_1 x5_1).f2).length) = false := decide_eq_false (by omega)
   clear c9
   have H' := Aside0.mk H
   clear H
   have hnb13 := NB2_1.out
   have hnc13 := NB1_2.out
   have hcz14_0 := (blk_cell BK2.out 0).trans rfl
   have hcz14_1 := (blk_cell BK2.out 1).trans rfl
   have hfz14_0 := blk_frozen BK2.out 0
   have hfz14_1 := blk_frozen BK2.out 1
   have p3 : 0 ≤ (x5_1 : Int) := od_
   have q3 : x5_1 < (l1_1.length : Int) := od_
   obtain ⟨ad3, A3_1, c3_1, A3_2, c3_2, e3, hx3_0, hx3_1, hx3_2, hl3_1, hi3_1, hl3_2, hi3_2⟩ := at_T137 HR1_1.out x5_1 p3 q3
   cases e3
   replace hx3_0 := (HB.out.cell (World.block_lt_of_cell? w _ hx3_0)).trans hx3_0
   replace hx3_1 := (HB.out.cell (World.block_lt_of_cell? w _ hx3_1)).trans hx3_1
   replace hx3_2 := (HB.out.cell (World.block_lt_of_cell? w _ hx3_2)).trans hx3_2
   have HR3_1 := Aside0.mk hi3_1
   have HC3_1 := Aside0.mk hl3_1
   clear hi3_1 hl3_1
   have HR3_2 := Aside0.mk hi3_2
   have HC3_2 := Aside0.mk hl3_2
   clear hi3_2 hl3_2
   replace p3 := eq_true p3
   replace q3 := eq_true q3
   have hcz15_0 := (blk_cell BK1.out 0).trans rfl
   have hcz15_1 := (blk_cell BK1.out 1).trans rfl
   have hfz15_0 := blk_frozen BK1.out 0
   have hfz15_1 := blk_frozen BK1.out 1
   have p4 : 0 ≤ (x5_1 : Int) := od_
   have q4 : x5_1 < (l0_1.length : Int) := od_
   obtain ⟨ad4, A4_0, c4_0, e4, hx4_0, hl4_0, hi4_0⟩ := at_L17 HR0_1.out x5_1 p4 q4
   cases e4
   replace hx4_0 := (HB.out.cell (World.block_lt_of_cell? w _ hx4_0)).trans hx4_0
   have HR4_0 := Aside0.mk hi4_0
   have HC4_0 := Aside0.mk hl4_0
   clear hi4_0 hl4_0
   replace p4 := eq_true p4
   replace q4 := eq_true q4
   have p5 : 0 ≤ (x5_1 : Int) := od_
   have q5 : x5_1 < (l1_1.length : Int) := od_
   obtain ⟨ad5, A5_1, c5_1, A5_2, c5_2, e5, hx5_0, hx5_1, hx5_2, hl5_1, hi5_1, hl5_2, hi5_2⟩ := at_T137 HR1_1.out x5_1 p5 q5
   obtain rfl : ad3 = ad5 := (by injection e5)
   replace hx5_0 := (HB.out.cell (World.block_lt_of_cell? w _ hx5_0)).trans hx5_0
   replace hx5_1 := (HB.out.cell (World.block_lt_of_cell? w _ hx5_1)).trans hx5_1
   replace hx5_2 := (HB.out.cell (World.block_lt_of_cell? w _ hx5_2)).trans hx5_2
   have HR5_1 := Aside0.mk hi5_1
   have HC5_1 := Aside0.mk hl5_1
   clear hi5_1 hl5_1
   have HR5_2 := Aside0.mk hi5_2
   have HC5_2 := Aside0.mk hl5_2
   clear hi5_2 hl5_2
   replace p5 := eq_true p5
   replace q5 := eq_true q5
   have ea_ := Option.some.inj (hx3_1.symm.trans hx5_1)
   injection ea_ with ea_ en_ ec_
   subst ea_
   subst ec_
   clear en_
   have ea_ := Option.some.inj (hx3_2.symm.trans hx5_2)
   injection ea_ with ea_ en_ ec_
   subst ea_
   subst ec_
   clear en_
   go_wp2
   repeat (go_quiet (fail); try go_wp2)
   go_roundg k1
   case measure => have := HK1.out; omega
   case rel => exact ⟨(wrap64 (x5_1 + 1)), sd_, H', ⟨by have := HK1.out; omega⟩, ⟨bk_⟩, ⟨bk_⟩, ⟨bw_⟩⟩

/-! ### spec_AtEnd: function 65 -/
def spec_AtEnd.f (k : Nat) (a0_0 : Int) (l0_1 : List (List (S153))) (l1_0 : List Int) (l1_1 : List (S137)) : Option (Bool) := (spec_MachineOk.f k a0_0 l0_1 l1_0 l1_1).bind fun t3 => (if t3 = true then ((spec_l04End.f k a0_0 l0_1 l1_0 l1_1).bind fun t4 => (some t4)) else (some false))
theorem spec_AtEnd.mono : ∀ a0 a1 a2 a3 k, LeO (spec_AtEnd.f k a0 a1 a2 a3) (spec_AtEnd.f (k + 1) a0 a1 a2 a3) := by
 intro a0 a1 a2 a3 k
 unfold spec_AtEnd.f
 repeat' first
   | (with_reducible exact spec_MachineOk.mono _ _ _ _ _)
   | (with_reducible exact spec_l04End.mono _ _ _ _ _)
   | (with_reducible exact LeO.refl _)
   | (with_reducible exact LeO.none _)
   | (with_reducible refine LeO.ite ?_ ?_)
   | (with_reducible refine LeO.bind ?_ (fun _ => ?_))
   | exact spec_MachineOk.mono _ _ _ _ _
   | exact spec_l04End.mono _ _ _ _ _
   | exact LeO.none _
   | refine LeO.ite ?_ ?_
   | refine LeO.bind ?_ (fun _ => ?_)
set_option maxHeartbeats 8000000 in
set_option maxRecDepth 100000 in
theorem spec_AtEnd.calls (k : Nat) (a0_0 : Int) (A0_1 : Option Addr) (c0_1 : Nat) (l0_1 : List (List (S153))) (A1_0 : Option Addr) (c1_0 : Nat) (l1_0 : List Int) (A1_1 : Option Addr) (c1_1 : Nat) (l1_1 : List (S137)) (r : Bool) (w : World) (hr0_1 : Kd.C (Kd.slice 153 k153) w A0_1 l0_1.length l0_1) (hc0_1 : l0_1.length ≤ c0_1) (hr1_0 : Kd.C (Kd.int .i64) w A1_0 l1_0.length l1_0) (hc1_0 : l1_0.length ≤ c1_0) (hr1_1 : Kd.C k137 w A1_1 l1_1.length l1_1) (hc1_1 : l1_1.length ≤ c1_1) (h : spec_AtEnd.f k a0_0 l0_1 l1_0 l1_1 = some r) :
  Calls Try.prog 65 #[.agg #[.int .i64 a0_0, .slice A0_1 l0_1.length c0_1], .agg #[.slice A1_0 l1_0.length c1_0, .slice A1_1 l1_1.length c1_1]] w fun e w' => e = .returned (.bool r) ∧ Below w.heap.size w w' := by
 have hu64 := Try.underlying64
 have hu46 := Try.underlying46
 have HR0_1 := Aside0.mk hr0_1
 have HC0_1 := Aside0.mk hc0_1
 clear hr0_1 hc0_1
 have HR1_0 := Aside0.mk hr1_0
 have HC1_0 := Aside0.mk hc1_0
 clear hr1_0 hc1_0
 have HR1_1 := Aside0.mk hr1_1
 have HC1_1 := Aside0.mk hc1_1
 clear hr1_1 hc1_1
 have HB := Aside0.mk (Below.refl w.heap.size w)
 have H : ((spec_MachineOk.f k a0_0 l0_1 l1_0 l1_1).bind fun t3 => (if t3 = true then ((spec_l04End.f k a0_0 l0_1 l1_0 l1_1).bind fun t4 => (some t4)) else (some false))) = some r := h
 clear h
 replace H := Option.bind_eq_some_iff.mp H
 obtain ⟨t3, A30, H⟩ := H
 replace H : (if t3 = true then ((spec_l04End.f k a0_0 l0_1 l1_0 l1_1).bind fun t4 => (some t4)) else (some false)) = some r := H
 have A3 := Aside0.mk A30
 clear A30
 by_cases c4 : t3 = true
 rotate_left
 ·replace c4 := Bool.eq_false_iff.mpr c4
  subst c4
  have H1 : (some false) = some r := by rw [if_neg (show ¬ (false = true) by decide)] at H; exact H
  clear H
  have H := H1
  clear H1
  obtain rfl := Option.some.inj H
  go_enter Try.func65, Try.ntmps65
  go_wp2_with (first | ((with_reducible refine gate_dst (N := 2) rfl ?_); refine box_event ?hg (N := 2) ?hd (cs := #[.int .i64 a0_0, .slice A0_1 l0_1.length c0_1]) (t := 64) ?hr ?_; (case hd => rfl); (case hg => rfl); (case hr => first | (go_simp; done) | (go_simp; rfl)); intro gb1 hg w15 hbox hb; have n0_ := Aside0.mk (below_step bw_ hb); have n1_ := Aside0.mk (hbox); have n2_ := Aside0.mk ((by rw [hg]; exact (below_size bw_) : w.heap.size ≤ gb1)); have n3_ := Aside0.mk ((by rw [hg]; exact (below_size bw_) : w.heap.size ≤ gb1)); clear HB; have HB := n0_; have BK1 := n1_; have GW1 := n2_; have GE1 := n3_; clear n0_ n1_ n2_ n3_; clear hb hbox hg) | ((with_reducible refine gate_dst (N := 3) rfl ?_); refine box_event ?hg (N := 3) ?hd (cs := #[.slice A1_0 l1_0.length c1_0, .slice A1_1 l1_1.length c1_1]) (t := 46) ?hr ?_; (case hd => rfl); (case hg => rfl); (case hr => first | (go_simp; done) | (go_simp; rfl)); intro gb2 hg w16 hbox hb; have n0_ := Aside0.mk (blk_below (g := gb1) (o := .cells #[.int .i64 a0_0, .slice A0_1 l0_1.length c0_1] 64 (0, 0)) bk_ hb); have n1_ := Aside0.mk (below_step bw_ hb); have n2_ := Aside0.mk (hbox); have n3_ := Aside0.mk ((by rw [hg]; exact (below_size bw_) : w.heap.size ≤ gb2)); have n4_ := Aside0.mk ((by rw [hg]; exact (below_size bw_) : w.heap.size ≤ gb2)); have n5_ := Aside0.mk ((by rw [hg]; exact Nat.ne_of_lt (blk_lt (g := gb1) (o := .cells #[.int .i64 a0_0, .slice A0_1 l0_1.length c0_1] 64 (0, 0)) bk_) : gb1 ≠ gb2)); have n6_ := Aside0.mk ((by rw [hg]; exact Nat.ne_of_gt (blk_lt (g := gb1) (o := .cells #[.int .i64 a0_0, .slice A0_1 l0_1.length c0_1] 64 (0, 0)) bk_) : gb2 ≠ gb1)); clear BK1; clear HB; have BK1 := n0_; have HB := n1_; have BK2 := n2_; have GW2 := n3_; have GE2 := n4_; have NB1_2 := n5_; have NB2_1 := n6_; clear n0_ n1_ n2_ n3_ n4_ n5_ n6_; clear hb hbox hg; have hnb17 := NB1_2.out; have hnc17 := NB2_1.out; have hcz18_0 := (blk_cell BK1.out 0).trans rfl; have hcz18_1 := (blk_cell BK1.out 1).trans rfl; have hfz18_0 := blk_frozen BK1.out 0; have hfz18_1 := blk_frozen BK1.out 1; have hcz19_0 := (blk_cell BK2.out 0).trans rfl; have hcz19_1 := (blk_cell BK2.out 1).trans rfl; have hfz19_0 := blk_frozen BK2.out 0; have hfz19_1 := blk_frozen BK2.out 1) | ((with_reducible refine gate_callee (f := 59) rfl ?_); refine goesL_ (some 7) rfl rfl Try.func59 (by kernel_rfl) rfl #[.agg #[.int .i64 a0_0, .slice A0_1 l0_1.length c0_1], .agg #[.slice A1_0 l1_0.length c1_0, .slice A1_1 l1_1.length c1_1]] rfl ar_ ?_; (with_reducible refine (spec_MachineOk.calls k a0_0 _ _ l0_1 _ _ l1_0 _ _ l1_1 false _ ?side1 ?side2 ?side3 ?side4 ?side5 ?side6 A3.out).mono ?_); (case side1 => exact cb_); (case side2 => exact HC0_1.out); (case side3 => exact cb_); (case side4 => exact HC1_0.out); (case side5 => exact cb_); (case side6 => exact HC1_1.out); rintro e w20 ⟨rfl, hb⟩; refine ⟨_, rfl, ?_⟩; have n0_ := Aside0.mk (blk_below (g := gb1) (o := .cells #[.int .i64 a0_0, .slice A0_1 l0_1.length c0_1] 64 (0, 0)) bk_ hb); have n1_ := Aside0.mk (blk_below (g := gb2) (o := .cells #[.slice A1_0 l1_0.length c1_0, .slice A1_1 l1_1.length c1_1] 46 (0, 0)) bk_ hb); have n2_ := Aside0.mk (below_step bw_ hb); clear BK1; clear BK2; clear HB; have BK1 := n0_; have BK2 := n1_; have HB := n2_; clear n0_ n1_ n2_; (try clear hb); (try clear hb2); (try clear hk); (try clear hi)))
  go_ret
  exact ⟨rr_, bw_⟩
 subst c4
 have H1 : ((spec_l04End.f k a0_0 l0_1 l1_0 l1_1).bind fun t4 => (some t4)) = some r := by rw [if_pos rfl] at H; exact H
 clear H
 have H := H1
 clear H1
 replace H := Option.bind_eq_some_iff.mp H
 obtain ⟨t4, A50, H⟩ := H
 replace H : (some t4) = some r := H
 have A5 := Aside0.mk A50
 clear A50
 obtain rfl := Option.some.inj H
 go_enter Try.func65, Try.ntmps65
 go_wp2_with (first | ((with_reducible refine gate_dst (N := 2) rfl ?_); refine box_event ?hg (N := 2) ?hd (cs := #[.int .i64 a0_0, .slice A0_1 l0_1.length c0_1]) (t := 64) ?hr ?_; (case hd => rfl); (case hg => rfl); (case hr => first | (go_simp; done) | (go_simp; rfl)); intro gb1 hg w6 hbox hb; have n0_ := Aside0.mk (below_step bw_ hb); have n1_ := Aside0.mk (hbox); have n2_ := Aside0.mk ((by rw [hg]; exact (below_size bw_) : w.heap.size ≤ gb1)); have n3_ := Aside0.mk ((by rw [hg]; exact (below_size bw_) : w.heap.size ≤ gb1)); clear HB; have HB := n0_; have BK1 := n1_; have GW1 := n2_; have GE1 := n3_; clear n0_ n1_ n2_ n3_; clear hb hbox hg) | ((with_reducible refine gate_dst (N := 3) rfl ?_); refine box_event ?hg (N := 3) ?hd (cs := #[.slice A1_0 l1_0.length c1_0, .slice A1_1 l1_1.length c1_1]) (t := 46) ?hr ?_; (case hd => rfl); (case hg => rfl); (case hr => first | (go_simp; done) | (go_simp; rfl)); intro gb2 hg w7 hbox hb; have n0_ := Aside0.mk (blk_below (g := gb1) (o := .cells #[.int .i64 a0_0, .slice A0_1 l0_1.length c0_1] 64 (0, 0)) bk_ hb); have n1_ := Aside0.mk (below_step bw_ hb); have n2_ := Aside0.mk (hbox); have n3_ := Aside0.mk ((by rw [hg]; exact (below_size bw_) : w.heap.size ≤ gb2)); have n4_ := Aside0.mk ((by rw [hg]; exact (below_size bw_) : w.heap.size ≤ gb2)); have n5_ := Aside0.mk ((by rw [hg]; exact Nat.ne_of_lt (blk_lt (g := gb1) (o := .cells #[.int .i64 a0_0, .slice A0_1 l0_1.length c0_1] 64 (0, 0)) bk_) : gb1 ≠ gb2)); have n6_ := Aside0.mk ((by rw [hg]; exact Nat.ne_of_gt (blk_lt (g := gb1) (o := .cells #[.int .i64 a0_0, .slice A0_1 l0_1.length c0_1] 64 (0, 0)) bk_) : gb2 ≠ gb1)); clear BK1; clear HB; have BK1 := n0_; have HB := n1_; have BK2 := n2_; have GW2 := n3_; have GE2 := n4_; have NB1_2 := n5_; have NB2_1 := n6_; clear n0_ n1_ n2_ n3_ n4_ n5_ n6_; clear hb hbox hg; have hnb8 := NB1_2.out; have hnc8 := NB2_1.out; have hcz9_0 := (blk_cell BK1.out 0).trans rfl; have hcz9_1 := (blk_cell BK1.out 1).trans rfl; have hfz9_0 := blk_frozen BK1.out 0; have hfz9_1 := blk_frozen BK1.out 1; have hcz10_0 := (blk_cell BK2.out 0).trans rfl; have hcz10_1 := (blk_cell BK2.out 1).trans rfl; have hfz10_0 := blk_frozen BK2.out 0; have hfz10_1 := blk_frozen BK2.out 1) | ((with_reducible refine gate_callee (f := 59) rfl ?_); refine goesL_ (some 7) rfl rfl Try.func59 (by kernel_rfl) rfl #[.agg #[.int .i64 a0_0, .slice A0_1 l0_1.length c0_1], .agg #[.slice A1_0 l1_0.length c1_0, .slice A1_1 l1_1.length c1_1]] rfl ar_ ?_; (with_reducible refine (spec_MachineOk.calls k a0_0 _ _ l0_1 _ _ l1_0 _ _ l1_1 true _ ?side1 ?side2 ?side3 ?side4 ?side5 ?side6 A3.out).mono ?_); (case side1 => exact cb_); (case side2 => exact HC0_1.out); (case side3 => exact cb_); (case side4 => exact HC1_0.out); (case side5 => exact cb_); (case side6 => exact HC1_1.out); rintro e w11 ⟨rfl, hb⟩; refine ⟨_, rfl, ?_⟩; have n0_ := Aside0.mk (blk_below (g := gb1) (o := .cells #[.int .i64 a0_0, .slice A0_1 l0_1.length c0_1] 64 (0, 0)) bk_ hb); have n1_ := Aside0.mk (blk_below (g := gb2) (o := .cells #[.slice A1_0 l1_0.length c1_0, .slice A1_1 l1_1.length c1_1] 46 (0, 0)) bk_ hb); have n2_ := Aside0.mk (below_step bw_ hb); clear BK1; clear BK2; clear HB; have BK1 := n0_; have BK2 := n1_; have HB := n2_; clear n0_ n1_ n2_; (try clear hb); (try clear hb2); (try clear hk); (try clear hi); have hcz12_0 := (blk_cell BK1.out 0).trans rfl; have hcz12_1 := (blk_cell BK1.out 1).trans rfl; have hfz12_0 := blk_frozen BK1.out 0; have hfz12_1 := blk_frozen BK1.out 1; have hcz13_0 := (blk_cell BK2.out 0).trans rfl; have hcz13_1 := (blk_cell BK2.out 1).trans rfl; have hfz13_0 := blk_frozen BK2.out 0; have hfz13_1 := blk_frozen BK2.out 1) | (go_at_call 151; (with_reducible refine (spec_l04End.calls k a0_0 _ _ l0_1 _ _ l1_0 _ _ l1_1 t4 _ ?side1 ?side2 ?side3 ?side4 ?side5 ?side6 A5.out).mono ?_); (case side1 => exact cb_); (case side2 => exact HC0_1.out); (case side3 => exact cb_); (case side4 => exact HC1_0.out); (case side5 => exact cb_); (case side6 => exact HC1_1.out); rintro e w14 ⟨rfl, hb⟩; have n0_ := Aside0.mk (blk_below (g := gb1) (o := .cells #[.int .i64 a0_0, .slice A0_1 l0_1.length c0_1] 64 (0, 0)) bk_ hb); have n1_ := Aside0.mk (blk_below (g := gb2) (o := .cells #[.slice A1_0 l1_0.length c1_0, .slice A1_1 l1_1.length c1_1] 46 (0, 0)) bk_ hb); have n2_ := Aside0.mk (below_step bw_ hb); clear BK1; clear BK2; clear HB; have BK1 := n0_; have BK2 := n1_; have HB := n2_; clear n0_ n1_ n2_; (try clear hb); (try clear hb2); (try clear hk); (try clear hi)))
 go_ret
 exact ⟨rr_, bw_⟩

end Go.Proofs.Ytpcfcdnmpginhaa.P
