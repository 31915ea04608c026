-- Written by mp.py (the session's own driver over the kit's printer) for the seat Ytlfbdafghpmahaa.
import Derived.Test.YtlfbdafghpmahaaV2
import Derived.Test.YtlfbdafghpmahaaK
import Derived.Test.YtlfbdafghpmahaaE
import Derived.Test.YtlfbdafghpmahaaPspecProgOk
namespace Go.Proofs.Ytlfbdafghpmahaa.P
open Go.RowKit Go.Proofs.YtlfbdafghpmahaaW.PrintWords Go.Proofs.YtlfbdafghpmahaaW.PrintLast Go.Proofs.YtlfbdafghpmahaaW.PrintMore
attribute [local go_sem] max2_int min2_int max_two min_two max_three min_three max_four min_four
set_option linter.unusedVariables false
set_option linter.unusedSimpArgs false

/-! ### spec_StripFences: function 20 -/
mutual
def spec_StripFences.l0 : Nat → Int → Int → List (List (S82)) → Int → List (List (S82)) → Option (Int × (List (List (S82))) × Bool)
 | 0, _, _, _, _, _ => none
 | k + 1, x5, x2000, x2001, x5000, x5001 => if x5 < (x2001.length : Int) then (spec_StripFences.l1 k x5 (([] : List (S82))) (([] : List Int)) 0 x2000 x2001 x5000 x5001) else (some (x5000, x5001, true))
def spec_StripFences.l1 : Nat → Int → List (S82) → List Int → Int → Int → List (List (S82)) → Int → List (List (S82)) → Option (Int × (List (List (S82))) × Bool)
 | 0, _, _, _, _, _, _, _, _ => none
 | k + 1, x5, x6, x7, x8, x2000, x2001, x5000, x5001 => if 0 ≤ x5 then (if x5 < (x2001.length : Int) then (if x8 < ((rd_L5 x2001 x5).length : Int) then (if x7.length < 17592186044416 then ((some (x7 ++ [(x6.length : Int)] : List Int)).bind fun y12 => (if 0 ≤ x8 then (if ((rd_T82 (rd_L5 x2001 x5) x8).f0) = 4 then (spec_StripFences.l1 k x5 x6 y12 (wrap64 (x8 + 1)) x2000 x2001 x5000 x5001) else (if x6.length < 4398046511104 then (spec_StripFences.l1 k x5 (x6 ++ [(⟨(rd_T82 (rd_L5 x2001 x5) x8).f0, (rd_T82 (rd_L5 x2001 x5) x8).f1, (rd_T82 (rd_L5 x2001 x5) x8).f2, (rd_T82 (rd_L5 x2001 x5) x8).f3⟩ : S82)]) y12 (wrap64 (x8 + 1)) x2000 x2001 x5000 x5001) else (none))) else (none))) else (none)) else (if x7.length < 17592186044416 then (spec_StripFences.l2 k x5 x6 (x7 ++ [(x6.length : Int)]) 0 x2000 x2001 x5000 x5001) else (none))) else (none)) else (none)
def spec_StripFences.l2 : Nat → Int → List (S82) → List Int → Int → Int → List (List (S82)) → Int → List (List (S82)) → Option (Int × (List (List (S82))) × Bool)
 | 0, _, _, _, _, _, _, _, _ => none
 | k + 1, x5, x6, x7, x9, x2000, x2001, x5000, x5001 => if x9 < (x6.length : Int) then (if 0 ≤ x9 then (if ((rd_T82 x6 x9).f0) = 6 then (if 0 ≤ ((rd_T82 x6 x9).f3) then (if ((rd_T82 x6 x9).f3) < (x7.length : Int) then (spec_StripFences.l2 k x5 (x6.set (x9 : Int).toNat (⟨(rd_T82 x6 x9).f0, (rd_T82 x6 x9).f1, (rd_T82 x6 x9).f2, rd x7 ((rd_T82 x6 x9).f3)⟩ : S82)) x7 (wrap64 (x9 + 1)) x2000 x2001 x5000 x5001) else (none)) else (none)) else (spec_StripFences.l2 k x5 x6 x7 (wrap64 (x9 + 1)) x2000 x2001 x5000 x5001)) else (none)) else (if x5001.length < 5864062014805 then (spec_StripFences.l0 k (wrap64 (x5 + 1)) x2000 x2001 x5000 (x5001 ++ [x6])) else (none))
end
def spec_StripFences.f (k : Nat) (a0_0 : Int) (l0_1 : List (List (S82))) : Option (Int × (List (List (S82))) × Bool) := (spec_ProgOk.f k a0_0 l0_1).bind fun t3 => (if t3 = true then (spec_StripFences.l0 k 0 a0_0 l0_1 a0_0 ([] : List (List (S82)))) else (some (0, ([] : List (List (S82))), false)))
theorem spec_StripFences.mono_l : ∀ k, (∀ y0 y1 y2 y3 y4, LeO (spec_StripFences.l0 k y0 y1 y2 y3 y4) (spec_StripFences.l0 (k + 1) y0 y1 y2 y3 y4)) ∧ (∀ y0 y1 y2 y3 y4 y5 y6 y7, LeO (spec_StripFences.l1 k y0 y1 y2 y3 y4 y5 y6 y7) (spec_StripFences.l1 (k + 1) y0 y1 y2 y3 y4 y5 y6 y7)) ∧ (∀ y0 y1 y2 y3 y4 y5 y6 y7, LeO (spec_StripFences.l2 k y0 y1 y2 y3 y4 y5 y6 y7) (spec_StripFences.l2 (k + 1) y0 y1 y2 y3 y4 y5 y6 y7))
 | 0 => ⟨fun _ _ _ _ _ r h => by simp [spec_StripFences.l0] at h, fun _ _ _ _ _ _ _ _ r h => by simp [spec_StripFences.l1] at h, fun _ _ _ _ _ _ _ _ r h => by simp [spec_StripFences.l2] at h⟩
 | k + 1 => by
  obtain ⟨ih0, ih1, ih2⟩ := spec_StripFences.mono_l k
  refine ⟨?_, ?_, ?_⟩
  ·intro y0 y1 y2 y3 y4
   unfold spec_StripFences.l0
   repeat' first
   | (with_reducible exact ih0 _ _ _ _ _)
   | (with_reducible exact ih1 _ _ _ _ _ _ _ _)
   | (with_reducible exact ih2 _ _ _ _ _ _ _ _)
   | (with_reducible exact spec_ProgOk.mono _ _ _)
   | (with_reducible exact LeO.refl _)
   | (with_reducible exact LeO.none _)
   | (with_reducible refine LeO.ite ?_ ?_)
   | (with_reducible refine LeO.bind ?_ (fun _ => ?_))
   | exact ih0 _ _ _ _ _
   | exact ih1 _ _ _ _ _ _ _ _
   | exact ih2 _ _ _ _ _ _ _ _
   | exact spec_ProgOk.mono _ _ _
   | exact LeO.none _
   | refine LeO.ite ?_ ?_
   | refine LeO.bind ?_ (fun _ => ?_)
  ·intro y0 y1 y2 y3 y4 y5 y6 y7
   unfold spec_StripFences.l1
   repeat' first
   | (with_reducible exact ih0 _ _ _ _ _)
   | (with_reducible exact ih1 _ _ _ _ _ _ _ _)
   | (with_reducible exact ih2 _ _ _ _ _ _ _ _)
   | (with_reducible exact spec_ProgOk.mono _ _ _)
   | (with_reducible exact LeO.refl _)
   | (with_reducible exact LeO.none _)
   | (with_reducible refine LeO.ite ?_ ?_)
   | (with_reducible refine LeO.bind ?_ (fun _ => ?_))
   | exact ih0 _ _ _ _ _
   | exact ih1 _ _ _ _ _ _ _ _
   | exact ih2 _ _ _ _ _ _ _ _
   | exact spec_ProgOk.mono _ _ _
   | exact LeO.none _
   | refine LeO.ite ?_ ?_
   | refine LeO.bind ?_ (fun _ => ?_)
  ·intro y0 y1 y2 y3 y4 y5 y6 y7
   unfold spec_StripFences.l2
   repeat' first
   | (with_reducible exact ih0 _ _ _ _ _)
   | (with_reducible exact ih1 _ _ _ _ _ _ _ _)
   | (with_reducible exact ih2 _ _ _ _ _ _ _ _)
   | (with_reducible exact spec_ProgOk.mono _ _ _)
   | (with_reducible exact LeO.refl _)
   | (with_reducible exact LeO.none _)
   | (with_reducible refine LeO.ite ?_ ?_)
   | (with_reducible refine LeO.bind ?_ (fun _ => ?_))
   | exact ih0 _ _ _ _ _
   | exact ih1 _ _ _ _ _ _ _ _
   | exact ih2 _ _ _ _ _ _ _ _
   | exact spec_ProgOk.mono _ _ _
   | exact LeO.none _
   | refine LeO.ite ?_ ?_
   | refine LeO.bind ?_ (fun _ => ?_)
theorem spec_StripFences.mono : ∀ a0 a1 k, LeO (spec_StripFences.f k a0 a1) (spec_StripFences.f (k + 1) a0 a1) := by
 intro a0 a1 k
 obtain ⟨ih0, ih1, ih2⟩ := spec_StripFences.mono_l k
 unfold spec_StripFences.f
 repeat' first
   | (with_reducible exact ih0 _ _ _ _ _)
   | (with_reducible exact ih1 _ _ _ _ _ _ _ _)
   | (with_reducible exact ih2 _ _ _ _ _ _ _ _)
   | (with_reducible exact spec_ProgOk.mono _ _ _)
   | (with_reducible exact LeO.refl _)
   | (with_reducible exact LeO.none _)
   | (with_reducible refine LeO.ite ?_ ?_)
   | (with_reducible refine LeO.bind ?_ (fun _ => ?_))
   | exact ih0 _ _ _ _ _
   | exact ih1 _ _ _ _ _ _ _ _
   | exact ih2 _ _ _ _ _ _ _ _
   | exact spec_ProgOk.mono _ _ _
   | exact LeO.none _
   | refine LeO.ite ?_ ?_
   | refine LeO.bind ?_ (fun _ => ?_)
set_option maxHeartbeats 8000000 in
set_option maxRecDepth 100000 in
theorem spec_StripFences.calls (k : Nat) (a0_0 : Int) (A0_1 : Option Addr) (c0_1 : Nat) (l0_1 : List (List (S82))) (r1 : Int) (r2 : List (List (S82))) (r3 : Bool) (w : World) (hr0_1 : Kd.C (Kd.slice 82 k82) w A0_1 l0_1.length l0_1) (hc0_1 : l0_1.length ≤ c0_1) (h : spec_StripFences.f k a0_0 l0_1 = some (r1, r2, r3)) :
  Calls Try.prog 20 #[.agg #[.int .i64 a0_0, .slice A0_1 l0_1.length c0_1]] w fun e w' => ∃ v1_ : Value, e = .returned (.tuple #[.agg #[.int .i64 r1, v1_], .bool r3]) ∧ Kd.S (Kd.slice 82 k82) 26 w' w.heap.size (fun _ => True) v1_ r2 ∧ Below w.heap.size w w' := by
 have hu39 := Try.underlying39
 have hu82 := Try.underlying82
 have HR0_1 := Aside0.mk hr0_1
 have HC0_1 := Aside0.mk hc0_1
 clear hr0_1 hc0_1
 have HB := Aside0.mk (Below.refl w.heap.size w)
 have H : ((spec_ProgOk.f k a0_0 l0_1).bind fun t3 => (if t3 = true then (spec_StripFences.l0 k 0 a0_0 l0_1 a0_0 ([] : List (List (S82)))) else (some (0, ([] : List (List (S82))), false)))) = some (r1, r2, r3) := h
 clear h
 replace H := Option.bind_eq_some_iff.mp H
 obtain ⟨t3, A20, H⟩ := H
 replace H : (if t3 = true then (spec_StripFences.l0 k 0 a0_0 l0_1 a0_0 ([] : List (List (S82)))) else (some (0, ([] : List (List (S82))), false))) = some (r1, r2, r3) := H
 have A2 := Aside0.mk A20
 clear A20
 by_cases c3 : t3 = true
 rotate_left
 ·replace c3 := Bool.eq_false_iff.mpr c3
  subst c3
  have H1 : (some (0, ([] : List (List (S82))), false)) = some (r1, r2, r3) := by rw [if_neg (show ¬ (false = true) by decide)] at H; exact H
  clear H
  have H := H1
  clear H1
  simp only [Option.some.injEq, Prod.mk.injEq] at H
  obtain ⟨rfl, rfl, rfl⟩ := H
  go_enter Try.func20, Try.ntmps20
  go_wp2_with (first | ((with_reducible refine gate_dst (N := 1) rfl ?_); refine box_event ?hg (N := 1) ?hd (cs := #[.int .i64 a0_0, .slice A0_1 l0_1.length c0_1]) (t := 39) ?hr ?_; (case hd => rfl); (case hg => rfl); (case hr => first | (go_simp; done) | (go_simp; rfl)); intro gb1 hg w71 hbox hb; have n0_ := Aside0.mk (below_step bw_ hb); have n1_ := Aside0.mk (hbox); have n2_ := Aside0.mk ((by rw [hg]; exact (below_size bw_) : w.heap.size ≤ gb1)); have n3_ := Aside0.mk ((by rw [hg]; exact (below_size bw_) : w.heap.size ≤ gb1)); clear HB; have HB := n0_; have BK1 := n1_; have GW1 := n2_; have GE1 := n3_; clear n0_ n1_ n2_ n3_; clear hb hbox hg) | ((with_reducible refine gate_dst (N := 2) rfl ?_); refine box_event ?hg (N := 2) ?hd (cs := #[.int .i64 0, .slice none 0 0]) (t := 39) ?hr ?_; (case hd => rfl); (case hg => rfl); (case hr => first | (go_simp; done) | (go_simp; rfl)); intro gb2 hg w72 hbox hb; have n0_ := Aside0.mk (blk_below (g := gb1) (o := .cells #[.int .i64 a0_0, .slice A0_1 l0_1.length c0_1] 39 (0, 0)) bk_ hb); have n1_ := Aside0.mk (below_step bw_ hb); have n2_ := Aside0.mk (hbox); have n3_ := Aside0.mk ((by rw [hg]; exact (below_size bw_) : w.heap.size ≤ gb2)); have n4_ := Aside0.mk ((by rw [hg]; exact (below_size bw_) : w.heap.size ≤ gb2)); have n5_ := Aside0.mk ((by rw [hg]; exact Nat.ne_of_lt (blk_lt (g := gb1) (o := .cells #[.int .i64 a0_0, .slice A0_1 l0_1.length c0_1] 39 (0, 0)) bk_) : gb1 ≠ gb2)); have n6_ := Aside0.mk ((by rw [hg]; exact Nat.ne_of_gt (blk_lt (g := gb1) (o := .cells #[.int .i64 a0_0, .slice A0_1 l0_1.length c0_1] 39 (0, 0)) bk_) : gb2 ≠ gb1)); clear BK1; clear HB; have BK1 := n0_; have HB := n1_; have BK2 := n2_; have GW2 := n3_; have GE2 := n4_; have NB1_2 := n5_; have NB2_1 := n6_; clear n0_ n1_ n2_ n3_ n4_ n5_ n6_; clear hb hbox hg; have hnb73 := NB1_2.out; have hnc73 := NB2_1.out; have hcz74_0 := (blk_cell BK1.out 0).trans rfl; have hcz74_1 := (blk_cell BK1.out 1).trans rfl; have hfz74_0 := blk_frozen BK1.out 0; have hfz74_1 := blk_frozen BK1.out 1) | ((with_reducible refine gate_callee (f := 58) rfl ?_); refine goesL_ (some 11) rfl rfl Try.func58 (by kernel_rfl) rfl #[.agg #[.int .i64 a0_0, .slice A0_1 l0_1.length c0_1]] rfl ar_ ?_; (with_reducible refine (spec_ProgOk.calls k a0_0 _ _ l0_1 false _ ?side1 ?side2 A2.out).mono ?_); (case side1 => exact cb_); (case side2 => exact HC0_1.out); rintro e w75 ⟨rfl, hb⟩; refine ⟨_, rfl, ?_⟩; have n0_ := Aside0.mk (blk_below (g := gb1) (o := .cells #[.int .i64 a0_0, .slice A0_1 l0_1.length c0_1] 39 (0, 0)) bk_ hb); have n1_ := Aside0.mk (blk_below (g := gb2) (o := .cells #[.int .i64 0, .slice none 0 0] 39 (0, 0)) bk_ hb); have n2_ := Aside0.mk (below_step bw_ hb); clear BK1; clear BK2; clear HB; have BK1 := n0_; have BK2 := n1_; have HB := n2_; clear n0_ n1_ n2_; (try clear hb); (try clear hb2); (try clear hk); (try clear hi); have hcz76_0 := (blk_cell BK2.out 0).trans rfl; have hcz76_1 := (blk_cell BK2.out 1).trans rfl; have hfz76_0 := blk_frozen BK2.out 0; have hfz76_1 := blk_frozen BK2.out 1))
  refine bodyPost_ret (results_ct rfl _ _ gb2 39 #[.int .i64 0, .slice none 0 0] (0, 0) _ rfl (by (with_reducible repeat (first | refine blk_drewN ?_ _ | refine blk_drew ?_ | refine blk_alloc ?_ _)); refine blk_put (cs := #[.int .i64 0, .slice none 0 0]) ?_ 1 _ rfl; (with_reducible repeat (first | refine blk_drewN ?_ _ | refine blk_drew ?_ | refine blk_alloc ?_ _)); refine blk_put (cs := #[.int .i64 0, .slice none 0 0]) ?_ 0 _ rfl; (with_reducible repeat (first | refine blk_drewN ?_ _ | refine blk_drew ?_ | refine blk_alloc ?_ _)); exact BK2.out) Try.underlying39 rfl (by kernel_rfl)) rfl ?_
  exact ⟨_, rr_, by first | exact Kd.S_nil _ _ _ _ _ | exact Kd.N_nil _ _ _ _ _ | exact Kd.V_nil _ _ _ _ _ | exact Kd.Q_nil _ _ _ _ _ | exact Kd.R_nil _ _ _ _ _, bw_⟩
 subst c3
 have H1 : (spec_StripFences.l0 k 0 a0_0 l0_1 a0_0 ([] : List (List (S82)))) = some (r1, r2, r3) := by rw [if_pos rfl] at H; exact H
 clear H
 have H := H1
 clear H1
 have H' := Aside0.mk H
 clear H
 go_enter Try.func20, Try.ntmps20
 go_wp2_with (first | ((with_reducible refine gate_dst (N := 1) rfl ?_); refine box_event ?hg (N := 1) ?hd (cs := #[.int .i64 a0_0, .slice A0_1 l0_1.length c0_1]) (t := 39) ?hr ?_; (case hd => rfl); (case hg => rfl); (case hr => first | (go_simp; done) | (go_simp; rfl)); intro gb1 hg w4 hbox hb; have n0_ := Aside0.mk (below_step bw_ hb); have n1_ := Aside0.mk (hbox); have n2_ := Aside0.mk ((by rw [hg]; exact (below_size bw_) : w.heap.size ≤ gb1)); have n3_ := Aside0.mk ((by rw [hg]; exact (below_size bw_) : w.heap.size ≤ gb1)); clear HB; have HB := n0_; have BK1 := n1_; have GW1 := n2_; have GE1 := n3_; clear n0_ n1_ n2_ n3_; clear hb hbox hg) | ((with_reducible refine gate_dst (N := 2) rfl ?_); refine box_event ?hg (N := 2) ?hd (cs := #[.int .i64 0, .slice none 0 0]) (t := 39) ?hr ?_; (case hd => rfl); (case hg => rfl); (case hr => first | (go_simp; done) | (go_simp; rfl)); intro gb2 hg w5 hbox hb; have n0_ := Aside0.mk (blk_below (g := gb1) (o := .cells #[.int .i64 a0_0, .slice A0_1 l0_1.length c0_1] 39 (0, 0)) bk_ hb); have n1_ := Aside0.mk (below_step bw_ hb); have n2_ := Aside0.mk (hbox); have n3_ := Aside0.mk ((by rw [hg]; exact (below_size bw_) : w.heap.size ≤ gb2)); have n4_ := Aside0.mk ((by rw [hg]; exact (below_size bw_) : w.heap.size ≤ gb2)); have n5_ := Aside0.mk ((by rw [hg]; exact Nat.ne_of_lt (blk_lt (g := gb1) (o := .cells #[.int .i64 a0_0, .slice A0_1 l0_1.length c0_1] 39 (0, 0)) bk_) : gb1 ≠ gb2)); have n6_ := Aside0.mk ((by rw [hg]; exact Nat.ne_of_gt (blk_lt (g := gb1) (o := .cells #[.int .i64 a0_0, .slice A0_1 l0_1.length c0_1] 39 (0, 0)) bk_) : gb2 ≠ gb1)); clear BK1; clear HB; have BK1 := n0_; have HB := n1_; have BK2 := n2_; have GW2 := n3_; have GE2 := n4_; have NB1_2 := n5_; have NB2_1 := n6_; clear n0_ n1_ n2_ n3_ n4_ n5_ n6_; clear hb hbox hg; have hnb6 := NB1_2.out; have hnc6 := NB2_1.out; have hcz7_0 := (blk_cell BK1.out 0).trans rfl; have hcz7_1 := (blk_cell BK1.out 1).trans rfl; have hfz7_0 := blk_frozen BK1.out 0; have hfz7_1 := blk_frozen BK1.out 1) | ((with_reducible refine gate_callee (f := 58) rfl ?_); refine goesL_ (some 11) rfl rfl Try.func58 (by kernel_rfl) rfl #[.agg #[.int .i64 a0_0, .slice A0_1 l0_1.length c0_1]] rfl ar_ ?_; (with_reducible refine (spec_ProgOk.calls k a0_0 _ _ l0_1 true _ ?side1 ?side2 A2.out).mono ?_); (case side1 => exact cb_); (case side2 => exact HC0_1.out); rintro e w8 ⟨rfl, hb⟩; refine ⟨_, rfl, ?_⟩; have n0_ := Aside0.mk (blk_below (g := gb1) (o := .cells #[.int .i64 a0_0, .slice A0_1 l0_1.length c0_1] 39 (0, 0)) bk_ hb); have n1_ := Aside0.mk (blk_below (g := gb2) (o := .cells #[.int .i64 0, .slice none 0 0] 39 (0, 0)) bk_ hb); have n2_ := Aside0.mk (below_step bw_ hb); clear BK1; clear BK2; clear HB; have BK1 := n0_; have BK2 := n1_; have HB := n2_; clear n0_ n1_ n2_; (try clear hb); (try clear hb2); (try clear hk); (try clear hi); have hcz9_0 := (blk_cell BK1.out 0).trans rfl; have hcz9_1 := (blk_cell BK1.out 1).trans rfl; have hfz9_0 := blk_frozen BK1.out 0; have hfz9_1 := blk_frozen BK1.out 1) | ((with_reducible refine gate_dst (N := 4) rfl ?_); refine box_event ?hg (N := 4) ?hd (cs := #[.int .i64 0, .slice none 0 0]) (t := 39) ?hr ?_; (case hd => rfl); (case hg => rfl); (case hr => first | (go_simp; done) | (go_simp; rfl)); intro gb4 hg w10 hbox hb; have n0_ := Aside0.mk (blk_below (g := gb1) (o := .cells #[.int .i64 a0_0, .slice A0_1 l0_1.length c0_1] 39 (0, 0)) bk_ hb); have n1_ := Aside0.mk (blk_below (g := gb2) (o := .cells #[.int .i64 0, .slice none 0 0] 39 (0, 0)) bk_ hb); have n2_ := Aside0.mk (below_step bw_ hb); have n3_ := Aside0.mk (hbox); have n4_ := Aside0.mk ((by rw [hg]; exact (below_size bw_) : w.heap.size ≤ gb4)); have n5_ := Aside0.mk ((by rw [hg]; exact (below_size bw_) : w.heap.size ≤ gb4)); have n6_ := Aside0.mk ((by rw [hg]; exact Nat.ne_of_lt (blk_lt (g := gb1) (o := .cells #[.int .i64 a0_0, .slice A0_1 l0_1.length c0_1] 39 (0, 0)) bk_) : gb1 ≠ gb4)); have n7_ := Aside0.mk ((by rw [hg]; exact Nat.ne_of_gt (blk_lt (g := gb1) (o := .cells #[.int .i64 a0_0, .slice A0_1 l0_1.length c0_1] 39 (0, 0)) bk_) : gb4 ≠ gb1)); have n8_ := Aside0.mk ((by rw [hg]; exact Nat.ne_of_lt (blk_lt (g := gb2) (o := .cells #[.int .i64 0, .slice none 0 0] 39 (0, 0)) bk_) : gb2 ≠ gb4)); have n9_ := Aside0.mk ((by rw [hg]; exact Nat.ne_of_gt (blk_lt (g := gb2) (o := .cells #[.int .i64 0, .slice none 0 0] 39 (0, 0)) bk_) : gb4 ≠ gb2)); clear BK1; clear BK2; clear HB; have BK1 := n0_; have BK2 := n1_; have HB := n2_; have BK4 := n3_; have GW4 := n4_; have GE4 := n5_; have NB1_4 := n6_; have NB4_1 := n7_; have NB2_4 := n8_; have NB4_2 := n9_; clear n0_ n1_ n2_ n3_ n4_ n5_ n6_ n7_ n8_ n9_; clear hb hbox hg; have hnb11 := NB4_1.out; have hnc11 := NB1_4.out; have hnb12 := NB4_2.out; have hnc12 := NB2_4.out; have hcz13_0 := (blk_cell BK4.out 0).trans rfl; have hcz13_1 := (blk_cell BK4.out 1).trans rfl; have hfz13_0 := blk_frozen BK4.out 0; have hfz13_1 := blk_frozen BK4.out 1))
 go_loopg [5] k (fun kq v5 w' => ∃ (x5_1 : Int) (x5001_1 : List (List (S82))) (u5001 : Value), v5 = .int .i64 x5_1 ∧ Aside0 (spec_StripFences.l0 kq x5_1 a0_0 l0_1 a0_0 x5001_1 = some (r1, r2, r3)) ∧ Aside0 (kq ≤ k) ∧ Aside0 (Kd.S (Kd.slice 82 k82) 26 w' w.heap.size (fun _ => True) u5001 x5001_1) ∧ Aside0 (w'.heap[gb1]? = some (.cells #[.int .i64 a0_0, (.slice A0_1 l0_1.length c0_1)] 39 (0, 0))) ∧ Aside0 (w'.heap[gb2]? = some (.cells #[.int .i64 0, (.slice none 0 0)] 39 (0, 0))) ∧ Aside0 (w'.heap[gb4]? = some (.cells #[.int .i64 a0_0, u5001] 39 (0, 0))) ∧ Aside0 (Below w.heap.size w w'))
 case atStart => exact ⟨(0), (([] : List (List (S82)))), (.slice none 0 0), sd_, H', ⟨Nat.le_refl _⟩, ⟨by first | exact Kd.S_nil _ _ _ _ _ | exact Kd.N_nil _ _ _ _ _ | exact Kd.V_nil _ _ _ _ _ | exact Kd.Q_nil _ _ _ _ _ | exact Kd.R_nil _ _ _ _ _⟩, ⟨by (with_reducible repeat (first | refine blk_drewN ?_ _ | refine blk_drew ?_ | refine blk_alloc ?_ _)); refine blk_far ?_ NB1_4.out _; (with_reducible repeat (first | refine blk_drewN ?_ _ | refine blk_drew ?_ | refine blk_alloc ?_ _)); refine blk_far ?_ NB1_4.out _; (with_reducible repeat (first | refine blk_drewN ?_ _ | refine blk_drew ?_ | refine blk_alloc ?_ _)); exact BK1.out⟩, ⟨by (with_reducible repeat (first | refine blk_drewN ?_ _ | refine blk_drew ?_ | refine blk_alloc ?_ _)); refine blk_far ?_ NB2_4.out _; (with_reducible repeat (first | refine blk_drewN ?_ _ | refine blk_drew ?_ | refine blk_alloc ?_ _)); refine blk_far ?_ NB2_4.out _; (with_reducible repeat (first | refine blk_drewN ?_ _ | refine blk_drew ?_ | refine blk_alloc ?_ _)); exact BK2.out⟩, ⟨by (with_reducible repeat (first | refine blk_drewN ?_ _ | refine blk_drew ?_ | refine blk_alloc ?_ _)); refine blk_put (cs := #[.int .i64 a0_0, .slice none 0 0]) ?_ 1 _ rfl; (with_reducible repeat (first | refine blk_drewN ?_ _ | refine blk_drew ?_ | refine blk_alloc ?_ _)); refine blk_put (cs := #[.int .i64 0, .slice none 0 0]) ?_ 0 _ rfl; (with_reducible repeat (first | refine blk_drewN ?_ _ | refine blk_drew ?_ | refine blk_alloc ?_ _)); exact BK4.out⟩, ⟨bw_⟩⟩
 case round =>
  clear H'
  try clear c1
  try clear c2
  try clear p2
  try clear c3
  try clear c5
  try clear c6
  try clear c11
  try clear c12
  try clear hcz13_0 hcz13_1
  try clear hcz7_0 hcz7_1
  try clear hcz9_0 hcz9_1
  try clear hfz13_0 hfz13_1
  try clear hfz7_0 hfz7_1
  try clear hfz9_0 hfz9_1
  obtain ⟨x5_1, x5001_1, u5001, rfl, HA, HK1, HO_5001, BK1, BK2, BK4, HB⟩ := hrel
  cases gk with
  | zero => exact absurd HA.out (by simp [spec_StripFences.l0])
  | succ k1 =>
   have H := HA.out
   clear HA
   simp only [spec_StripFences.l0] at H
   by_cases c14 : x5_1 < (l0_1.length : Int)
   rotate_left
   ·rw [if_neg c14] at H
    have c14b0 : decide (x5_1 < (l0_1.length : Int)) = false := decide_eq_false c14
    clear c14
    simp only [Option.some.injEq, Prod.mk.injEq] at H
    obtain ⟨rfl, rfl, rfl⟩ := H
    have hnb64 := NB1_2.out
    have hnc64 := NB2_1.out
    have hnb65 := NB1_4.out
    have hnc65 := NB4_1.out
    have hcz66_0 := (blk_cell BK1.out 0).trans rfl
    have hcz66_1 := (blk_cell BK1.out 1).trans rfl
    have hfz66_0 := blk_frozen BK1.out 0
    have hfz66_1 := blk_frozen BK1.out 1
    have hnb67 := NB4_2.out
    have hnc67 := NB2_4.out
    have hcz68_0 := (blk_cell BK4.out 0).trans rfl
    have hcz68_1 := (blk_cell BK4.out 1).trans rfl
    have hfz68_0 := blk_frozen BK4.out 0
    have hfz68_1 := blk_frozen BK4.out 1
    have hcz69_0 := (blk_cell BK2.out 0).trans rfl
    have hcz69_1 := (blk_cell BK2.out 1).trans rfl
    have hfz69_0 := blk_frozen BK2.out 0
    have hfz69_1 := blk_frozen BK2.out 1
    obtain ⟨Ao70, co70, eo70⟩ := Kd.S_slice HO_5001.out
    subst eo70
    go_wp2
    refine bodyPost_ret (results_ct rfl _ _ gb2 39 #[.int .i64 a0_0, .slice Ao70 x5001_1.length co70] (0, 0) _ rfl (by (with_reducible repeat (first | refine blk_drewN ?_ _ | refine blk_drew ?_ | refine blk_alloc ?_ _)); refine blk_put (cs := #[.int .i64 a0_0, .slice none 0 0]) ?_ 1 _ rfl; (with_reducible repeat (first | refine blk_drewN ?_ _ | refine blk_drew ?_ | refine blk_alloc ?_ _)); refine blk_put (cs := #[.int .i64 0, .slice none 0 0]) ?_ 0 _ rfl; (with_reducible repeat (first | refine blk_drewN ?_ _ | refine blk_drew ?_ | refine blk_alloc ?_ _)); exact BK2.out) Try.underlying39 rfl (by kernel_rfl)) rfl ?_
    exact ⟨_, rr_, by (with_reducible repeat (first | apply Kd.S_alloc | apply Kd.S_drewN | apply Kd.S_drew)); exact Kd.S_mono (Kd.S_far (p := ⟨gb2, 1, none⟩) (Kd.S_far (p := ⟨gb2, 0, none⟩) (Kd.S_types HO_5001.out BK2.out (by decide)) (fun _ hk => hk.2) (.int .i64 a0_0)) (fun _ hk => hk.2) (.slice Ao70 x5001_1.length co70)) (fun _ hk => trivial), bw_⟩
   rw [if_pos c14] at H
   have c14b0 : decide (x5_1 < (l0_1.length : Int)) = true := decide_eq_true c14
   clear c14
   obtain ⟨y5, hy5⟩ : ∃ y_ : List (S82), y_ = (([] : List (S82))) := ⟨_, rfl⟩
   replace H : (spec_StripFences.l1 k1 x5_1 y5 (([] : List Int)) 0 a0_0 l0_1 a0_0 x5001_1) = some (r1, r2, r3) := by first | (rw [hy5]; with_reducible exact H) | (have H2_ := (Option.bind_some _ _).symm.trans H; rw [hy5]; with_reducible exact H2_) | (have H2_ := (Option.bind_some _ _).symm.trans H; with_reducible exact H2_) | with_reducible exact H | (rw [hy5]; exact H) | exact H
   have Ny5 := Aside0.mk hy5
   clear hy5
   obtain ⟨y8, hy8⟩ : ∃ y_ : List Int, y_ = (([] : List Int)) := ⟨_, rfl⟩
   replace H : (spec_StripFences.l1 k1 x5_1 y5 y8 0 a0_0 l0_1 a0_0 x5001_1) = some (r1, r2, r3) := by first | (rw [hy8]; with_reducible exact H) | (have H2_ := (Option.bind_some _ _).symm.trans H; rw [hy8]; with_reducible exact H2_) | (have H2_ := (Option.bind_some _ _).symm.trans H; with_reducible exact H2_) | with_reducible exact H | (rw [hy8]; exact H) | exact H
   have Ny8 := Aside0.mk hy8
   clear hy8
   have H' := Aside0.mk H
   clear H
   have hnb15 := NB1_2.out
   have hnc15 := NB2_1.out
   have hnb16 := NB1_4.out
   have hnc16 := NB4_1.out
   have hcz17_0 := (blk_cell BK1.out 0).trans rfl
   have hcz17_1 := (blk_cell BK1.out 1).trans rfl
   have hfz17_0 := blk_frozen BK1.out 0
   have hfz17_1 := blk_frozen BK1.out 1
   go_wp2_with (first | ((with_reducible refine gate_dst (N := 24) rfl ?_); refine Kd.R_lit k82 _ 82 ?hg (N := 24) ?hd (xs := ([] : List (S82))) (inner := []) (ok := fun _ => True) (okp := fun _ => True) ?hr ?hp (fun _ hk => hk) trivial (Below.refl _ _) (Nat.le_refl _) (by simp) ?_; (case hd => rfl); (case hg => rfl); (case hr => first | (go_simp; done) | (go_simp; rfl)); (case hp => exact (Reps.none _ _)); intro v6 w18 ho19 hb hg_ hnew_; clear hg_ hnew_; (first | rw [← Ny5.out] at ho19 | (simp only [Int.reduceToNat] at ho19; rw [← Ny5.out] at ho19)); have n0_ := Aside0.mk (Kd.S_elder' (by (with_reducible repeat (first | apply Kd.S_alloc | apply Kd.S_drewN | apply Kd.S_drew)); exact HO_5001.out) (Kd.R_base ho19) hb); have n1_ := Aside0.mk (Kd.R_lower ho19 (below_size bw_)); have n2_ := Aside0.mk (blk_below (g := gb1) (o := .cells #[.int .i64 a0_0, .slice A0_1 l0_1.length c0_1] 39 (0, 0)) bk_ hb); have n3_ := Aside0.mk (blk_below (g := gb2) (o := .cells #[.int .i64 0, .slice none 0 0] 39 (0, 0)) bk_ hb); have n4_ := Aside0.mk (blk_below (g := gb4) (o := .cells #[.int .i64 a0_0, u5001] 39 (0, 0)) bk_ hb); have n5_ := Aside0.mk (below_step bw_ hb); clear HO_5001; clear BK1; clear BK2; clear BK4; clear HB; have HO_5001 := n0_; have HO7 := n1_; have BK1 := n2_; have BK2 := n3_; have BK4 := n4_; have HB := n5_; clear n0_ n1_ n2_ n3_ n4_ n5_; clear hb ho19) | ((with_reducible refine gate_dst (N := 25) rfl ?_); refine Kd.R_lit (Kd.int .i64) _ 3 ?hg (N := 25) ?hd (xs := ([] : List Int)) (inner := []) (ok := fun _ => True) (okp := fun _ => True) ?hr ?hp (fun _ hk => hk) trivial (Below.refl _ _) (Nat.le_refl _) (by simp) ?_; (case hd => rfl); (case hg => rfl); (case hr => first | (go_simp; done) | (go_simp; rfl)); (case hp => exact (Reps.none _ _)); intro v9 w20 ho21 hb hg_ hnew_; clear hg_ hnew_; (first | rw [← Ny8.out] at ho21 | (simp only [Int.reduceToNat] at ho21; rw [← Ny8.out] at ho21)); have n0_ := Aside0.mk (Kd.S_below (by (with_reducible repeat (first | apply Kd.S_alloc | apply Kd.S_drewN | apply Kd.S_drew)); exact HO_5001.out) hb); have n1_ := Aside0.mk (Kd.R_below (by (with_reducible repeat (first | apply Kd.R_alloc | apply Kd.R_drewN | apply Kd.R_drew)); exact HO7.out) hb); have n2_ := Aside0.mk (Kd.R_lower ho21 (below_size bw_)); have n3_ := Aside0.mk (blk_below (g := gb1) (o := .cells #[.int .i64 a0_0, .slice A0_1 l0_1.length c0_1] 39 (0, 0)) bk_ hb); have n4_ := Aside0.mk (blk_below (g := gb2) (o := .cells #[.int .i64 0, .slice none 0 0] 39 (0, 0)) bk_ hb); have n5_ := Aside0.mk (blk_below (g := gb4) (o := .cells #[.int .i64 a0_0, u5001] 39 (0, 0)) bk_ hb); have n6_ := Aside0.mk (below_step bw_ hb); clear HO_5001; clear HO7; clear BK1; clear BK2; clear BK4; clear HB; have HO_5001 := n0_; have HO7 := n1_; have HO10 := n2_; have BK1 := n3_; have BK2 := n4_; have BK4 := n5_; have HB := n6_; clear n0_ n1_ n2_ n3_ n4_ n5_ n6_; clear hb ho21))
   go_loopg [6, 7, 8] k1 (fun kq v6 v7 v8 w' => ∃ (x6_2 : List (S82)) (x7_2 : List Int) (x8_2 : Int), v8 = .int .i64 x8_2 ∧ Aside0 (spec_StripFences.l1 kq x5_1 x6_2 x7_2 x8_2 a0_0 l0_1 a0_0 x5001_1 = some (r1, r2, r3)) ∧ Aside0 (kq ≤ k1) ∧ Aside0 (Kd.R k82 82 w' w.heap.size (fun _ => True) v6 x6_2) ∧ Aside0 (Kd.R (Kd.int .i64) 3 w' w.heap.size (fun _ => True) v7 x7_2) ∧ Aside0 (Kd.S (Kd.slice 82 k82) 26 w' w.heap.size (fun k_ => some k_ ≠ (v6 : Value).ownBlock) u5001 x5001_1) ∧ Aside0 (w'.heap[gb1]? = some (.cells #[.int .i64 a0_0, (.slice A0_1 l0_1.length c0_1)] 39 (0, 0))) ∧ Aside0 (w'.heap[gb2]? = some (.cells #[.int .i64 0, (.slice none 0 0)] 39 (0, 0))) ∧ Aside0 (w'.heap[gb4]? = some (.cells #[.int .i64 a0_0, u5001] 39 (0, 0))) ∧ Aside0 (Below w.heap.size w w'))
   case atStart => exact ⟨(y5), (y8), (0), sd_, H', ⟨Nat.le_refl _⟩, ⟨by (with_reducible repeat (first | apply Kd.R_alloc | apply Kd.R_drewN | apply Kd.R_drew)); exact HO7.out⟩, ⟨by (with_reducible repeat (first | apply Kd.R_alloc | apply Kd.R_drewN | apply Kd.R_drew)); exact HO10.out⟩, ⟨by (with_reducible repeat (first | apply Kd.S_alloc | apply Kd.S_drewN | apply Kd.S_drew)); exact Kd.S_mono HO_5001.out (fun _ hk => hk.2)⟩, ⟨bk_⟩, ⟨bk_⟩, ⟨bk_⟩, ⟨bw_⟩⟩
   case round =>
    clear H'
    try clear c1
    try clear c2
    try clear p2
    try clear c3
    try clear c5
    try clear c6
    try clear c11
    try clear c12
    try clear c14
    try clear c14b0
    try clear c15
    try clear c16
    try clear c20
    try clear hcz13_0 hcz13_1
    try clear hcz17_0 hcz17_1
    try clear hcz7_0 hcz7_1
    try clear hcz9_0 hcz9_1
    try clear hfz13_0 hfz13_1
    try clear hfz17_0 hfz17_1
    try clear hfz7_0 hfz7_1
    try clear hfz9_0 hfz9_1
    try clear p2
    obtain ⟨x6_2, x7_2, x8_2, rfl, HA, HK2, HO_6, HO_7, HO_5001, BK1, BK2, BK4, HB⟩ := hrel
    cases gk with
    | zero => exact absurd HA.out (by simp [spec_StripFences.l1])
    | succ k2 =>
     have H := HA.out
     clear HA
     simp only [spec_StripFences.l1] at H
     by_cases c22 : 0 ≤ x5_1
     rotate_left
     ·rw [if_neg c22] at H
      exact absurd H (by simp)
     rw [if_pos c22] at H
     have c22b0 : decide (0 ≤ x5_1) = true := decide_eq_true c22
     clear c22
     by_cases c23 : x5_1 < (l0_1.length : Int)
     rotate_left
     ·rw [if_neg c23] at H
      exact absurd H (by simp)
     rw [if_pos c23] at H
     have c23b0 : decide (x5_1 < (l0_1.length : Int)) = true := decide_eq_true c23
     clear c23
     by_cases c24 : x8_2 < ((rd_L5 l0_1 x5_1).length : Int)
     ·rw [if_pos c24] at H
      have c24b0 : decide (x8_2 < ((rd_L5 l0_1 x5_1).length : Int)) = true := decide_eq_true c24
      clear c24
      by_cases c25 : x7_2.length < 17592186044416
      rotate_left
      ·rw [if_neg c25] at H
       exact absurd H (by simp)
      rw [if_pos c25] at H
      have LMc25 := Aside0.mk c25
      clear c25
      obtain ⟨y12, hy12⟩ : ∃ y_ : List Int, y_ = (x7_2 ++ [(x6_2.length : Int)]) := ⟨_, rfl⟩
      replace H : (if 0 ≤ x8_2 then (if ((rd_T82 (rd_L5 l0_1 x5_1) x8_2).f0) = 4 then (spec_StripFences.l1 k2 x5_1 x6_2 y12 (wrap64 (x8_2 + 1)) a0_0 l0_1 a0_0 x5001_1) else (if x6_2.length < 4398046511104 then (spec_StripFences.l1 k2 x5_1 (x6_2 ++ [(⟨(rd_T82 (rd_L5 l0_1 x5_1) x8_2).f0, (rd_T82 (rd_L5 l0_1 x5_1) x8_2).f1, (rd_T82 (rd_L5 l0_1 x5_1) x8_2).f2, (rd_T82 (rd_L5 l0_1 x5_1) x8_2).f3⟩ : S82)]) y12 (wrap64 (x8_2 + 1)) a0_0 l0_1 a0_0 x5001_1) else (none))) else (none)) = some (r1, r2, r3) := by first | (rw [hy12]; with_reducible exact H) | (have H2_ := (Option.bind_some _ _).symm.trans H; rw [hy12]; with_reducible exact H2_) | (have H2_ := (Option.bind_some _ _).symm.trans H; with_reducible exact H2_) | with_reducible exact H | (rw [hy12]; exact H) | exact H
      have Ny12 := Aside0.mk hy12
      clear hy12
      by_cases c26 : 0 ≤ x8_2
      rotate_left
      ·rw [if_neg c26] at H
       exact absurd H (by simp)
      rw [if_pos c26] at H
      have c26b0 : decide (0 ≤ x8_2) = true := decide_eq_true c26
      clear c26
      by_cases c27 : ((rd_T82 (rd_L5 l0_1 x5_1) x8_2).f0) = 4
      ·rw [if_pos c27] at H
       have c27b0 : (((rd_T82 (rd_L5 l0_1 x5_1) x8_2).f0) == 4) = true := beq_iff_eq.mpr c27
       have c27b1 : (((rd_T82 (rd_L5 l0_1 x5_1) x8_2).f0) != 4) = false := bne_eq_false_iff_eq.mpr c27
       clear c27
       have H' := Aside0.mk H
       clear H
       have hnb28 := NB1_2.out
       have hnc28 := NB2_1.out
       have hnb29 := NB1_4.out
       have hnc29 := NB4_1.out
       have hcz30_0 := (blk_cell BK1.out 0).trans rfl
       have hcz30_1 := (blk_cell BK1.out 1).trans rfl
       have hfz30_0 := blk_frozen BK1.out 0
       have hfz30_1 := blk_frozen BK1.out 1
       have p11 : 0 ≤ (x5_1 : Int) := od_
       have q11 : x5_1 < (l0_1.length : Int) := od_
       obtain ⟨ad11, A11_0, c11_0, e11, hx11_0, hl11_0, hi11_0⟩ := at_L5 HR0_1.out x5_1 p11 q11
       cases e11
       replace hx11_0 := (HB.out.cell (World.block_lt_of_cell? w _ hx11_0)).trans hx11_0
       have HR11_0 := Aside0.mk hi11_0
       have HC11_0 := Aside0.mk hl11_0
       clear hi11_0 hl11_0
       replace p11 := eq_true p11
       replace q11 := eq_true q11
       obtain ⟨Ao31, co31, eo31⟩ := Kd.R_slice HO_6.out
       subst eo31
       go_wp2_with (first | ((with_reducible refine gate_builtin (b := .append) (xs := #[.tmp 36, .tmp 39]) rfl ?_); at_builtin; refine Kd.R_append (Kd.int .i64) (w0 := w) w.heap.size rfl (.tmp 36) (.tmp 39) 24 3 (.int .i64 0) 8 rfl Try.underlying24 info3 rfl (by decide) (by omega) u7 x7_2 (x6_2.length : Int) [.int .i64 (x6_2.length : Int)] (fun _ => True) (fun _ => False) rfl rfl ?aP (fun _ hk => hk.elim) ?aF ?aO ?aB ?aS ?aL ?_; (case aP => exact rfl); (case aB => exact bw_); (case aF => exact (fun _ _ => trivial)); (case aO => exact (by (with_reducible repeat (first | apply Kd.R_alloc | apply Kd.R_drewN | apply Kd.R_drew)); exact HO_7.out)); (case aS => exact (below_size bw_)); (case aL => have := LMc25.out; omega); intro v13 w32 ho hb hg hat; rw [← Ny12.out] at ho; have n0_ := Aside0.mk (Kd.R_over' (by (with_reducible repeat (first | apply Kd.R_alloc | apply Kd.R_drewN | apply Kd.R_drew)); exact HO_6.out) (Kd.R_typed (by (with_reducible repeat (first | apply Kd.R_alloc | apply Kd.R_drewN | apply Kd.R_drew)); exact HO_7.out)) (by decide) hg); have n1_ := Aside0.mk (Kd.S_over' (by (with_reducible repeat (first | apply Kd.S_alloc | apply Kd.S_drewN | apply Kd.S_drew)); exact HO_5001.out) (Kd.R_typed (by (with_reducible repeat (first | apply Kd.R_alloc | apply Kd.R_drewN | apply Kd.R_drew)); exact HO_7.out)) (by decide) hg); have n2_ := Aside0.mk (blk_grown (g := gb1) (o := .cells #[.int .i64 a0_0, .slice (some ad11) l0_1.length c0_1] 39 (0, 0)) bk_ hg (Kd.R_ne HO_7.out BK1.out (by decide))); have n3_ := Aside0.mk (blk_grown (g := gb2) (o := .cells #[.int .i64 0, .slice none 0 0] 39 (0, 0)) bk_ hg (Kd.R_ne HO_7.out BK2.out (by decide))); have n4_ := Aside0.mk (blk_grown (g := gb4) (o := .cells #[.int .i64 a0_0, u5001] 39 (0, 0)) bk_ hg (Kd.R_ne HO_7.out BK4.out (by decide))); have n5_ := Aside0.mk (hb); have n6_ := Aside0.mk (ho); clear HO_6; clear HO_5001; clear BK1; clear BK2; clear BK4; clear HB; clear HO_7; have HO_6 := n0_; have HO_5001 := n1_; have BK1 := n2_; have BK2 := n3_; have BK4 := n4_; have HB := n5_; have HO14 := n6_; clear n0_ n1_ n2_ n3_ n4_ n5_ n6_; clear ho hb hg hat; have hcz33_0 := (blk_cell BK1.out 0).trans rfl; have hcz33_1 := (blk_cell BK1.out 1).trans rfl; have hfz33_0 := blk_frozen BK1.out 0; have hfz33_1 := blk_frozen BK1.out 1; have p15 : 0 ≤ (x5_1 : Int) := od_; have q15 : x5_1 < (l0_1.length : Int) := od_; obtain ⟨ad15, A15_0, c15_0, e15, hx15_0, hl15_0, hi15_0⟩ := at_L5 HR0_1.out x5_1 p15 q15; obtain rfl : ad11 = ad15 := (by injection e15); replace hx15_0 := (HB.out.cell (World.block_lt_of_cell? w _ hx15_0)).trans hx15_0; have HR15_0 := Aside0.mk hi15_0; have HC15_0 := Aside0.mk hl15_0; clear hi15_0 hl15_0; replace p15 := eq_true p15; replace q15 := eq_true q15; have p16 : 0 ≤ (x8_2 : Int) := od_; have q16 : x8_2 < ((rd_L5 l0_1 x5_1).length : Int) := od_; obtain ⟨ad16, e16, hx16_0, hx16_1, hx16_2, hx16_3⟩ := at_T82 HR15_0.out x8_2 p16 q16; cases e16; replace hx16_0 := (HB.out.cell (World.block_lt_of_cell? w _ hx16_0)).trans hx16_0; replace hx16_1 := (HB.out.cell (World.block_lt_of_cell? w _ hx16_1)).trans hx16_1; replace hx16_2 := (HB.out.cell (World.block_lt_of_cell? w _ hx16_2)).trans hx16_2; replace hx16_3 := (HB.out.cell (World.block_lt_of_cell? w _ hx16_3)).trans hx16_3; replace p16 := eq_true p16; replace q16 := eq_true q16))
       go_roundg k2
       case measure => have := HK1.out; have := HK2.out; omega
       case rel => exact ⟨(x6_2), (y12), (wrap64 (x8_2 + 1)), sd_, H', ⟨by have := HK1.out; have := HK2.out; omega⟩, ⟨by (with_reducible repeat (first | apply Kd.R_alloc | apply Kd.R_drewN | apply Kd.R_drew)); exact HO_6.out⟩, ⟨by (with_reducible repeat (first | apply Kd.R_alloc | apply Kd.R_drewN | apply Kd.R_drew)); exact HO14.out⟩, ⟨by (with_reducible repeat (first | apply Kd.S_alloc | apply Kd.S_drewN | apply Kd.S_drew)); exact HO_5001.out⟩, ⟨bk_⟩, ⟨bk_⟩, ⟨bk_⟩, ⟨bw_⟩⟩
      rw [if_neg c27] at H
      have c27b0 : (((rd_T82 (rd_L5 l0_1 x5_1) x8_2).f0) == 4) = false := beq_eq_false_iff_ne.mpr c27
      have c27b1 : (((rd_T82 (rd_L5 l0_1 x5_1) x8_2).f0) != 4) = true := bne_iff_ne.mpr c27
      by_cases c34 : x6_2.length < 4398046511104
      rotate_left
      ·rw [if_neg c34] at H
       exact absurd H (by simp)
      rw [if_pos c34] at H
      have LMc34 := Aside0.mk c34
      clear c34
      obtain ⟨y19, hy19⟩ : ∃ y_ : List (S82), y_ = (x6_2 ++ [(⟨(rd_T82 (rd_L5 l0_1 x5_1) x8_2).f0, (rd_T82 (rd_L5 l0_1 x5_1) x8_2).f1, (rd_T82 (rd_L5 l0_1 x5_1) x8_2).f2, (rd_T82 (rd_L5 l0_1 x5_1) x8_2).f3⟩ : S82)]) := ⟨_, rfl⟩
      replace H : (spec_StripFences.l1 k2 x5_1 y19 y12 (wrap64 (x8_2 + 1)) a0_0 l0_1 a0_0 x5001_1) = some (r1, r2, r3) := by first | (rw [hy19]; with_reducible exact H) | (have H2_ := (Option.bind_some _ _).symm.trans H; rw [hy19]; with_reducible exact H2_) | (have H2_ := (Option.bind_some _ _).symm.trans H; with_reducible exact H2_) | with_reducible exact H | (rw [hy19]; exact H) | exact H
      have Ny19 := Aside0.mk hy19
      clear hy19
      have H' := Aside0.mk H
      clear H
      have hnb35 := NB1_2.out
      have hnc35 := NB2_1.out
      have hnb36 := NB1_4.out
      have hnc36 := NB4_1.out
      have hcz37_0 := (blk_cell BK1.out 0).trans rfl
      have hcz37_1 := (blk_cell BK1.out 1).trans rfl
      have hfz37_0 := blk_frozen BK1.out 0
      have hfz37_1 := blk_frozen BK1.out 1
      have p11 : 0 ≤ (x5_1 : Int) := od_
      have q11 : x5_1 < (l0_1.length : Int) := od_
      obtain ⟨ad11, A11_0, c11_0, e11, hx11_0, hl11_0, hi11_0⟩ := at_L5 HR0_1.out x5_1 p11 q11
      cases e11
      replace hx11_0 := (HB.out.cell (World.block_lt_of_cell? w _ hx11_0)).trans hx11_0
      have HR11_0 := Aside0.mk hi11_0
      have HC11_0 := Aside0.mk hl11_0
      clear hi11_0 hl11_0
      replace p11 := eq_true p11
      replace q11 := eq_true q11
      obtain ⟨Ao38, co38, eo38⟩ := Kd.R_slice HO_6.out
      subst eo38
      go_wp2_with (first | ((with_reducible refine gate_builtin (b := .append) (xs := #[.tmp 36, .tmp 39]) rfl ?_); at_builtin; refine Kd.R_append (Kd.int .i64) (w0 := w) w.heap.size rfl (.tmp 36) (.tmp 39) 24 3 (.int .i64 0) 8 rfl Try.underlying24 info3 rfl (by decide) (by omega) u7 x7_2 (x6_2.length : Int) [.int .i64 (x6_2.length : Int)] (fun _ => True) (fun _ => False) rfl rfl ?aP (fun _ hk => hk.elim) ?aF ?aO ?aB ?aS ?aL ?_; (case aP => exact rfl); (case aB => exact bw_); (case aF => exact (fun _ _ => trivial)); (case aO => exact (by (with_reducible repeat (first | apply Kd.R_alloc | apply Kd.R_drewN | apply Kd.R_drew)); exact HO_7.out)); (case aS => exact (below_size bw_)); (case aL => have := LMc25.out; omega); intro v13 w39 ho hb hg hat; rw [← Ny12.out] at ho; have n0_ := Aside0.mk (Kd.R_over' (by (with_reducible repeat (first | apply Kd.R_alloc | apply Kd.R_drewN | apply Kd.R_drew)); exact HO_6.out) (Kd.R_typed (by (with_reducible repeat (first | apply Kd.R_alloc | apply Kd.R_drewN | apply Kd.R_drew)); exact HO_7.out)) (by decide) hg); have n1_ := Aside0.mk (Kd.S_over' (by (with_reducible repeat (first | apply Kd.S_alloc | apply Kd.S_drewN | apply Kd.S_drew)); exact HO_5001.out) (Kd.R_typed (by (with_reducible repeat (first | apply Kd.R_alloc | apply Kd.R_drewN | apply Kd.R_drew)); exact HO_7.out)) (by decide) hg); have n2_ := Aside0.mk (blk_grown (g := gb1) (o := .cells #[.int .i64 a0_0, .slice (some ad11) l0_1.length c0_1] 39 (0, 0)) bk_ hg (Kd.R_ne HO_7.out BK1.out (by decide))); have n3_ := Aside0.mk (blk_grown (g := gb2) (o := .cells #[.int .i64 0, .slice none 0 0] 39 (0, 0)) bk_ hg (Kd.R_ne HO_7.out BK2.out (by decide))); have n4_ := Aside0.mk (blk_grown (g := gb4) (o := .cells #[.int .i64 a0_0, u5001] 39 (0, 0)) bk_ hg (Kd.R_ne HO_7.out BK4.out (by decide))); have n5_ := Aside0.mk (hb); have n6_ := Aside0.mk (ho); clear HO_6; clear HO_5001; clear BK1; clear BK2; clear BK4; clear HB; clear HO_7; have HO_6 := n0_; have HO_5001 := n1_; have BK1 := n2_; have BK2 := n3_; have BK4 := n4_; have HB := n5_; have HO14 := n6_; clear n0_ n1_ n2_ n3_ n4_ n5_ n6_; clear ho hb hg hat; have hcz40_0 := (blk_cell BK1.out 0).trans rfl; have hcz40_1 := (blk_cell BK1.out 1).trans rfl; have hfz40_0 := blk_frozen BK1.out 0; have hfz40_1 := blk_frozen BK1.out 1; have p15 : 0 ≤ (x5_1 : Int) := od_; have q15 : x5_1 < (l0_1.length : Int) := od_; obtain ⟨ad15, A15_0, c15_0, e15, hx15_0, hl15_0, hi15_0⟩ := at_L5 HR0_1.out x5_1 p15 q15; obtain rfl : ad11 = ad15 := (by injection e15); replace hx15_0 := (HB.out.cell (World.block_lt_of_cell? w _ hx15_0)).trans hx15_0; have HR15_0 := Aside0.mk hi15_0; have HC15_0 := Aside0.mk hl15_0; clear hi15_0 hl15_0; replace p15 := eq_true p15; replace q15 := eq_true q15; have p16 : 0 ≤ (x8_2 : Int) := od_; have q16 : x8_2 < ((rd_L5 l0_1 x5_1).length : Int) := od_; obtain ⟨ad16, e16, hx16_0, hx16_1, hx16_2, hx16_3⟩ := at_T82 HR15_0.out x8_2 p16 q16; cases e16; replace hx16_0 := (HB.out.cell (World.block_lt_of_cell? w _ hx16_0)).trans hx16_0; replace hx16_1 := (HB.out.cell (World.block_lt_of_cell? w _ hx16_1)).trans hx16_1; replace hx16_2 := (HB.out.cell (World.block_lt_of_cell? w _ hx16_2)).trans hx16_2; replace hx16_3 := (HB.out.cell (World.block_lt_of_cell? w _ hx16_3)).trans hx16_3; replace p16 := eq_true p16; replace q16 := eq_true q16; have p17 : 0 ≤ (x5_1 : Int) := od_; have q17 : x5_1 < (l0_1.length : Int) := od_; obtain ⟨ad17, A17_0, c17_0, e17, hx17_0, hl17_0, hi17_0⟩ := at_L5 HR0_1.out x5_1 p17 q17; obtain rfl : ad11 = ad17 := (by injection e17); replace hx17_0 := (HB.out.cell (World.block_lt_of_cell? w _ hx17_0)).trans hx17_0; have HR17_0 := Aside0.mk hi17_0; have HC17_0 := Aside0.mk hl17_0; clear hi17_0 hl17_0; replace p17 := eq_true p17; replace q17 := eq_true q17; have ea_ := Option.some.inj (hx15_0.symm.trans hx17_0); injection ea_ with ea_ en_ ec_; subst ea_; subst ec_; clear en_; have p18 : 0 ≤ (x8_2 : Int) := od_; have q18 : x8_2 < ((rd_L5 l0_1 x5_1).length : Int) := od_; obtain ⟨ad18, e18, hx18_0, hx18_1, hx18_2, hx18_3⟩ := at_T82 HR17_0.out x8_2 p18 q18; cases e18; replace hx18_0 := (HB.out.cell (World.block_lt_of_cell? w _ hx18_0)).trans hx18_0; replace hx18_1 := (HB.out.cell (World.block_lt_of_cell? w _ hx18_1)).trans hx18_1; replace hx18_2 := (HB.out.cell (World.block_lt_of_cell? w _ hx18_2)).trans hx18_2; replace hx18_3 := (HB.out.cell (World.block_lt_of_cell? w _ hx18_3)).trans hx18_3; replace p18 := eq_true p18; replace q18 := eq_true q18) | ((with_reducible refine gate_builtin (b := .append) (xs := #[.tmp 51, .tmp 60]) rfl ?_); at_builtin; refine Kd.R_append k82 (w0 := w) w.heap.size rfl (.tmp 51) (.tmp 60) 26 82 (.agg #[(.int .i64 0), (.int .i64 0), (.int .i64 0), (.int .i64 0)]) 32 rfl Try.underlying26 info82 rfl (by decide) (by omega) (.slice Ao38 x6_2.length co38) x6_2 (⟨(rd_T82 (rd_L5 l0_1 x5_1) x8_2).f0, (rd_T82 (rd_L5 l0_1 x5_1) x8_2).f1, (rd_T82 (rd_L5 l0_1 x5_1) x8_2).f2, (rd_T82 (rd_L5 l0_1 x5_1) x8_2).f3⟩ : S82) [.int .i64 ((rd_T82 (rd_L5 l0_1 x5_1) x8_2).f0), .int .i64 ((rd_T82 (rd_L5 l0_1 x5_1) x8_2).f1), .int .i64 ((rd_T82 (rd_L5 l0_1 x5_1) x8_2).f2), .int .i64 ((rd_T82 (rd_L5 l0_1 x5_1) x8_2).f3)] (fun _ => True) (fun _ => False) rfl rfl ?aP (fun _ hk => hk.elim) ?aF ?aO ?aB ?aS ?aL ?_; (case aP => exact k82_mkM _ _ _ (⟨(rd_T82 (rd_L5 l0_1 x5_1) x8_2).f0, (rd_T82 (rd_L5 l0_1 x5_1) x8_2).f1, (rd_T82 (rd_L5 l0_1 x5_1) x8_2).f2, (rd_T82 (rd_L5 l0_1 x5_1) x8_2).f3⟩ : S82)); (case aB => exact bw_); (case aF => exact (fun _ _ => trivial)); (case aO => exact (by (with_reducible repeat (first | apply Kd.R_alloc | apply Kd.R_drewN | apply Kd.R_drew)); exact HO_6.out)); (case aS => exact (below_size bw_)); (case aL => have := LMc34.out; omega); intro v20 w41 ho hb hg hat; rw [← Ny19.out] at ho; have n0_ := Aside0.mk (Kd.S_after (ok := (fun _ => True)) (by (with_reducible repeat (first | apply Kd.S_alloc | apply Kd.S_drewN | apply Kd.S_drew)); exact Kd.S_mono HO_5001.out (fun _ hk => ⟨trivial, hk⟩)) hg hat); have n1_ := Aside0.mk (blk_grown (g := gb1) (o := .cells #[.int .i64 a0_0, .slice (some ad11) l0_1.length c0_1] 39 (0, 0)) bk_ hg (Kd.R_ne HO_6.out BK1.out (by decide))); have n2_ := Aside0.mk (blk_grown (g := gb2) (o := .cells #[.int .i64 0, .slice none 0 0] 39 (0, 0)) bk_ hg (Kd.R_ne HO_6.out BK2.out (by decide))); have n3_ := Aside0.mk (blk_grown (g := gb4) (o := .cells #[.int .i64 a0_0, u5001] 39 (0, 0)) bk_ hg (Kd.R_ne HO_6.out BK4.out (by decide))); have n4_ := Aside0.mk (Kd.R_over' (by (with_reducible repeat (first | apply Kd.R_alloc | apply Kd.R_drewN | apply Kd.R_drew)); exact HO14.out) (Kd.R_typed (by (with_reducible repeat (first | apply Kd.R_alloc | apply Kd.R_drewN | apply Kd.R_drew)); exact HO_6.out)) (by decide) hg); have n5_ := Aside0.mk (hb); have n6_ := Aside0.mk (ho); clear HO_5001; clear BK1; clear BK2; clear BK4; clear HO14; clear HB; clear HO_6; have HO_5001 := n0_; have BK1 := n1_; have BK2 := n2_; have BK4 := n3_; have HO14 := n4_; have HB := n5_; have HO21 := n6_; clear n0_ n1_ n2_ n3_ n4_ n5_ n6_; clear ho hb hg hat))
      go_roundg k2
      case measure => have := HK1.out; have := HK2.out; omega
      case rel => exact ⟨(y19), (y12), (wrap64 (x8_2 + 1)), sd_, H', ⟨by have := HK1.out; have := HK2.out; omega⟩, ⟨by (with_reducible repeat (first | apply Kd.R_alloc | apply Kd.R_drewN | apply Kd.R_drew)); exact HO21.out⟩, ⟨by (with_reducible repeat (first | apply Kd.R_alloc | apply Kd.R_drewN | apply Kd.R_drew)); exact HO14.out⟩, ⟨by (with_reducible repeat (first | apply Kd.S_alloc | apply Kd.S_drewN | apply Kd.S_drew)); exact Kd.S_mono HO_5001.out (fun _ hk => hk.2)⟩, ⟨bk_⟩, ⟨bk_⟩, ⟨bk_⟩, ⟨bw_⟩⟩
     rw [if_neg c24] at H
     have c24b0 : decide (x8_2 < ((rd_L5 l0_1 x5_1).length : Int)) = false := decide_eq_false c24
     clear c24
     by_cases c42 : x7_2.length < 17592186044416
     rotate_left
     ·rw [if_neg c42] at H
      exact absurd H (by simp)
     rw [if_pos c42] at H
     have LMc42 := Aside0.mk c42
     clear c42
     obtain ⟨y22, hy22⟩ : ∃ y_ : List Int, y_ = (x7_2 ++ [(x6_2.length : Int)]) := ⟨_, rfl⟩
     replace H : (spec_StripFences.l2 k2 x5_1 x6_2 y22 0 a0_0 l0_1 a0_0 x5001_1) = some (r1, r2, r3) := by first | (rw [hy22]; with_reducible exact H) | (have H2_ := (Option.bind_some _ _).symm.trans H; rw [hy22]; with_reducible exact H2_) | (have H2_ := (Option.bind_some _ _).symm.trans H; with_reducible exact H2_) | with_reducible exact H | (rw [hy22]; exact H) | exact H
     have Ny22 := Aside0.mk hy22
     clear hy22
     have H' := Aside0.mk H
     clear H
     have hnb43 := NB1_2.out
     have hnc43 := NB2_1.out
     have hnb44 := NB1_4.out
     have hnc44 := NB4_1.out
     have hcz45_0 := (blk_cell BK1.out 0).trans rfl
     have hcz45_1 := (blk_cell BK1.out 1).trans rfl
     have hfz45_0 := blk_frozen BK1.out 0
     have hfz45_1 := blk_frozen BK1.out 1
     have p11 : 0 ≤ (x5_1 : Int) := od_
     have q11 : x5_1 < (l0_1.length : Int) := od_
     obtain ⟨ad11, A11_0, c11_0, e11, hx11_0, hl11_0, hi11_0⟩ := at_L5 HR0_1.out x5_1 p11 q11
     cases e11
     replace hx11_0 := (HB.out.cell (World.block_lt_of_cell? w _ hx11_0)).trans hx11_0
     have HR11_0 := Aside0.mk hi11_0
     have HC11_0 := Aside0.mk hl11_0
     clear hi11_0 hl11_0
     replace p11 := eq_true p11
     replace q11 := eq_true q11
     obtain ⟨Ao46, co46, eo46⟩ := Kd.R_slice HO_6.out
     subst eo46
     go_wp2_with (first | ((with_reducible refine gate_builtin (b := .append) (xs := #[.tmp 62, .tmp 65]) rfl ?_); at_builtin; refine Kd.R_append (Kd.int .i64) (w0 := w) w.heap.size rfl (.tmp 62) (.tmp 65) 24 3 (.int .i64 0) 8 rfl Try.underlying24 info3 rfl (by decide) (by omega) u7 x7_2 (x6_2.length : Int) [.int .i64 (x6_2.length : Int)] (fun _ => True) (fun _ => False) rfl rfl ?aP (fun _ hk => hk.elim) ?aF ?aO ?aB ?aS ?aL ?_; (case aP => exact rfl); (case aB => exact bw_); (case aF => exact (fun _ _ => trivial)); (case aO => exact (by (with_reducible repeat (first | apply Kd.R_alloc | apply Kd.R_drewN | apply Kd.R_drew)); exact HO_7.out)); (case aS => exact (below_size bw_)); (case aL => have := LMc42.out; omega); intro v23 w47 ho hb hg hat; rw [← Ny22.out] at ho; have n0_ := Aside0.mk (Kd.R_over' (by (with_reducible repeat (first | apply Kd.R_alloc | apply Kd.R_drewN | apply Kd.R_drew)); exact HO_6.out) (Kd.R_typed (by (with_reducible repeat (first | apply Kd.R_alloc | apply Kd.R_drewN | apply Kd.R_drew)); exact HO_7.out)) (by decide) hg); have n1_ := Aside0.mk (Kd.S_over' (by (with_reducible repeat (first | apply Kd.S_alloc | apply Kd.S_drewN | apply Kd.S_drew)); exact HO_5001.out) (Kd.R_typed (by (with_reducible repeat (first | apply Kd.R_alloc | apply Kd.R_drewN | apply Kd.R_drew)); exact HO_7.out)) (by decide) hg); have n2_ := Aside0.mk (blk_grown (g := gb1) (o := .cells #[.int .i64 a0_0, .slice (some ad11) l0_1.length c0_1] 39 (0, 0)) bk_ hg (Kd.R_ne HO_7.out BK1.out (by decide))); have n3_ := Aside0.mk (blk_grown (g := gb2) (o := .cells #[.int .i64 0, .slice none 0 0] 39 (0, 0)) bk_ hg (Kd.R_ne HO_7.out BK2.out (by decide))); have n4_ := Aside0.mk (blk_grown (g := gb4) (o := .cells #[.int .i64 a0_0, u5001] 39 (0, 0)) bk_ hg (Kd.R_ne HO_7.out BK4.out (by decide))); have n5_ := Aside0.mk (hb); have n6_ := Aside0.mk (ho); clear HO_6; clear HO_5001; clear BK1; clear BK2; clear BK4; clear HB; clear HO_7; have HO_6 := n0_; have HO_5001 := n1_; have BK1 := n2_; have BK2 := n3_; have BK4 := n4_; have HB := n5_; have HO24 := n6_; clear n0_ n1_ n2_ n3_ n4_ n5_ n6_; clear ho hb hg hat))
     go_loopg [9] k2 (fun kq v9 w' => ∃ (x6_3 : List (S82)) (x9_3 : Int), v9 = .int .i64 x9_3 ∧ Aside0 (spec_StripFences.l2 kq x5_1 x6_3 y22 x9_3 a0_0 l0_1 a0_0 x5001_1 = some (r1, r2, r3)) ∧ Aside0 (kq ≤ k2) ∧ Aside0 (Kd.R k82 82 w' w.heap.size (fun _ => True) (.slice Ao46 x6_2.length co46) x6_3) ∧ Aside0 (Kd.R (Kd.int .i64) 3 w' w.heap.size (fun _ => True) v23 y22) ∧ Aside0 (Kd.S (Kd.slice 82 k82) 26 w' w.heap.size (fun k_ => some k_ ≠ ((.slice Ao46 x6_2.length co46) : Value).ownBlock) u5001 x5001_1) ∧ Aside0 (w'.heap[gb1]? = some (.cells #[.int .i64 a0_0, (.slice (some ad11) l0_1.length c0_1)] 39 (0, 0))) ∧ Aside0 (w'.heap[gb2]? = some (.cells #[.int .i64 0, (.slice none 0 0)] 39 (0, 0))) ∧ Aside0 (w'.heap[gb4]? = some (.cells #[.int .i64 a0_0, u5001] 39 (0, 0))) ∧ Aside0 (Below w.heap.size w w'))
     case atStart => exact ⟨(x6_2), (0), sd_, H', ⟨Nat.le_refl _⟩, ⟨by (with_reducible repeat (first | apply Kd.R_alloc | apply Kd.R_drewN | apply Kd.R_drew)); exact HO_6.out⟩, ⟨by (with_reducible repeat (first | apply Kd.R_alloc | apply Kd.R_drewN | apply Kd.R_drew)); exact HO24.out⟩, ⟨by (with_reducible repeat (first | apply Kd.S_alloc | apply Kd.S_drewN | apply Kd.S_drew)); exact HO_5001.out⟩, ⟨bk_⟩, ⟨bk_⟩, ⟨bk_⟩, ⟨bw_⟩⟩
     case round =>
      clear H'
      try clear c1
      try clear p1
      try clear q1
      try clear hx1
      try clear c2
      try clear p2
      try clear c3
      try clear c4
      try clear c5
      try clear c6
      try clear p6
      try clear c11
      try clear p11
      try clear q11
      try clear hx11
      try clear c12
      try clear c14
      try clear c14b0
      try clear c15
      try clear p15
      try clear q15
      try clear hx15
      try clear c16
      try clear p16
      try clear q16
      try clear hx16
      try clear c17
      try clear p17
      try clear q17
      try clear hx17
      try clear p18
      try clear q18
      try clear hx18
      try clear c20
      try clear c22
      try clear c22b0
      try clear c23
      try clear c23b0
      try clear c24
      try clear c24b0
      try clear c25
      try clear c26
      try clear c26b0
      try clear c27
      try clear c27b0
      try clear c27b1
      try clear c28
      try clear c29
      try clear c34
      try clear c35
      try clear c36
      try clear c42
      try clear c43
      try clear c44
      try clear hcz13_0 hcz13_1
      try clear hcz17_0 hcz17_1
      try clear hcz30_0 hcz30_1
      try clear hcz33_0 hcz33_1
      try clear hcz37_0 hcz37_1
      try clear hcz40_0 hcz40_1
      try clear hcz45_0 hcz45_1
      try clear hcz7_0 hcz7_1
      try clear hcz9_0 hcz9_1
      try clear hfz13_0 hfz13_1
      try clear hfz17_0 hfz17_1
      try clear hfz30_0 hfz30_1
      try clear hfz33_0 hfz33_1
      try clear hfz37_0 hfz37_1
      try clear hfz40_0 hfz40_1
      try clear hfz45_0 hfz45_1
      try clear hfz7_0 hfz7_1
      try clear hfz9_0 hfz9_1
      try clear hx11_0
      try clear hx15_0
      try clear hx16_0
      try clear hx16_1
      try clear hx16_2
      try clear hx16_3
      try clear hx17_0
      try clear hx18_0
      try clear hx18_1
      try clear hx18_2
      try clear hx18_3
      try clear p11
      try clear p15
      try clear p16
      try clear p17
      try clear p18
      try clear p2
      try clear q11
      try clear q15
      try clear q16
      try clear q17
      try clear q18
      obtain ⟨x6_3, x9_3, rfl, HA, HK3, HO_6, HO_7, HO_5001, BK1, BK2, BK4, HB⟩ := hrel
      have hl6_3 := (Kd.R_reads' HO_6.out).1
      rw [hl6_3] at HO_6
      (try simp only [hl6_3])
      (try simp only [hl6_3] at BK1)
      (try simp only [hl6_3] at BK2)
      (try simp only [hl6_3] at BK4)
      (try simp only [hl6_3] at HO_7)
      (try simp only [hl6_3] at HO_5001)
      cases gk with
      | zero => exact absurd HA.out (by simp [spec_StripFences.l2])
      | succ k3 =>
       have H := HA.out
       clear HA
       simp only [spec_StripFences.l2] at H
       by_cases c48 : x9_3 < (x6_3.length : Int)
       rotate_left
       ·rw [if_neg c48] at H
        have c48b0 : decide (x9_3 < (x6_3.length : Int)) = false := decide_eq_false c48
        clear c48
        by_cases c57 : x5001_1.length < 5864062014805
        rotate_left
        ·rw [if_neg c57] at H
         exact absurd H (by simp)
        rw [if_pos c57] at H
        have LMc57 := Aside0.mk c57
        clear c57
        obtain ⟨y29, hy29⟩ : ∃ y_ : List (List (S82)), y_ = (x5001_1 ++ [x6_3]) := ⟨_, rfl⟩
        replace H : (spec_StripFences.l0 k3 (wrap64 (x5_1 + 1)) a0_0 l0_1 a0_0 y29) = some (r1, r2, r3) := by first | (rw [hy29]; with_reducible exact H) | (have H2_ := (Option.bind_some _ _).symm.trans H; rw [hy29]; with_reducible exact H2_) | (have H2_ := (Option.bind_some _ _).symm.trans H; with_reducible exact H2_) | with_reducible exact H | (rw [hy29]; exact H) | exact H
        have Ny29 := Aside0.mk hy29
        clear hy29
        have H' := Aside0.mk H
        clear H
        have hnb58 := NB4_1.out
        have hnc58 := NB1_4.out
        have hnb59 := NB4_2.out
        have hnc59 := NB2_4.out
        have hcz60_0 := (blk_cell BK4.out 0).trans rfl
        have hcz60_1 := (blk_cell BK4.out 1).trans rfl
        have hfz60_0 := blk_frozen BK4.out 0
        have hfz60_1 := blk_frozen BK4.out 1
        go_wp2_with (first | ((with_reducible refine gate_builtin (b := .append) (xs := #[.tmp 92, .tmp 94]) rfl ?_); at_builtin; refine Kd.S_append (Kd.slice 82 k82) (w0 := w) w.heap.size rfl (.tmp 92) (.tmp 94) 37 26 (.slice none 0 0) 24 rfl Try.underlying37 info26 rfl (by decide) (by omega) u5001 x5001_1 x6_3 [.slice Ao46 x6_3.length co46] (fun _ => True) (fun k_ => some k_ = (.slice Ao46 x6_3.length co46 : Value).ownBlock) rfl rfl ?aP (fun k_ hk_ => ((Kd.R_mono (ok' := fun k_ => ((fun _ => True)) k_ ∧ some k_ ≠ (u5001 : Value).ownBlock) (Kd.R_apart' (HO_6.out) (Kd.S_typed HO_5001.out) (by decide)) (fun k_ hk => ⟨trivial, hk.2⟩))).1 k_ hk_.symm) ?aF ?aO ?aB ?aS ?aL ?_; (case aP => exact Kd.M_row (Kd.R_mono (Kd.R_tight rfl (Kd.R_mono (ok' := fun k_ => ((fun _ => True)) k_ ∧ some k_ ≠ (u5001 : Value).ownBlock) (Kd.R_apart' (HO_6.out) (Kd.S_typed HO_5001.out) (by decide)) (fun k_ hk => ⟨trivial, hk.2⟩))) (fun _ h_ => h_))); (case aB => exact bw_); (case aF => exact (fun _ _ => trivial)); (case aO => exact (by (with_reducible repeat (first | apply Kd.S_alloc | apply Kd.S_drewN | apply Kd.S_drew)); exact Kd.S_mono HO_5001.out (fun k_ hk => ⟨trivial, fun e_ => hk e_⟩))); (case aS => exact (below_size bw_)); (case aL => have := LMc57.out; omega); intro v30 w61 ho hb hg hat; rw [← Ny29.out] at ho; have n0_ := Aside0.mk (Kd.R_over' (by (with_reducible repeat (first | apply Kd.R_alloc | apply Kd.R_drewN | apply Kd.R_drew)); exact HO_7.out) (Kd.S_typed (by (with_reducible repeat (first | apply Kd.S_alloc | apply Kd.S_drewN | apply Kd.S_drew)); exact HO_5001.out)) (by decide) hg); have n1_ := Aside0.mk (blk_grown (g := gb1) (o := .cells #[.int .i64 a0_0, .slice (some ad11) l0_1.length c0_1] 39 (0, 0)) bk_ hg (Kd.S_ne HO_5001.out BK1.out (by decide))); have n2_ := Aside0.mk (blk_grown (g := gb2) (o := .cells #[.int .i64 0, .slice none 0 0] 39 (0, 0)) bk_ hg (Kd.S_ne HO_5001.out BK2.out (by decide))); have n3_ := Aside0.mk (blk_grown (g := gb4) (o := .cells #[.int .i64 a0_0, u5001] 39 (0, 0)) bk_ hg (Kd.S_ne HO_5001.out BK4.out (by decide))); have n4_ := Aside0.mk (hb); have n5_ := Aside0.mk (ho); clear HO_7; clear BK1; clear BK2; clear BK4; clear HB; clear HO_5001; clear HO_6; have HO_7 := n0_; have BK1 := n1_; have BK2 := n2_; have BK4 := n3_; have HB := n4_; have HO31 := n5_; clear n0_ n1_ n2_ n3_ n4_ n5_; clear ho hb hg hat; obtain ⟨Ao62, co62, eo62⟩ := Kd.S_slice HO31.out; subst eo62; have hcz63_0 := (blk_cell BK4.out 0).trans rfl; have hcz63_1 := (blk_cell BK4.out 1).trans rfl; have hfz63_0 := blk_frozen BK4.out 0; have hfz63_1 := blk_frozen BK4.out 1))
        (try simp only [← hl6_3])
        go_roundg k3
        case measure => have := HK1.out; have := HK2.out; have := HK3.out; omega
        case rel => exact ⟨(wrap64 (x5_1 + 1)), (y29), (.slice Ao62 y29.length co62), sd_, H', ⟨by have := HK1.out; have := HK2.out; have := HK3.out; omega⟩, ⟨by (try simp only [hl6_3]); (with_reducible repeat (first | apply Kd.S_alloc | apply Kd.S_drewN | apply Kd.S_drew)); exact Kd.S_mono (Kd.S_far (p := ⟨gb4, 1, none⟩) (Kd.S_types HO31.out BK4.out (by decide)) (fun _ hk => hk.2) (.slice Ao62 y29.length co62)) (fun _ hk => trivial)⟩, ⟨by (try simp only [hl6_3]); (with_reducible repeat (first | refine blk_drewN ?_ _ | refine blk_drew ?_ | refine blk_alloc ?_ _)); refine blk_far ?_ NB1_4.out _; (with_reducible repeat (first | refine blk_drewN ?_ _ | refine blk_drew ?_ | refine blk_alloc ?_ _)); exact BK1.out⟩, ⟨by (try simp only [hl6_3]); (with_reducible repeat (first | refine blk_drewN ?_ _ | refine blk_drew ?_ | refine blk_alloc ?_ _)); refine blk_far ?_ NB2_4.out _; (with_reducible repeat (first | refine blk_drewN ?_ _ | refine blk_drew ?_ | refine blk_alloc ?_ _)); exact BK2.out⟩, ⟨by (try simp only [hl6_3]); (with_reducible repeat (first | refine blk_drewN ?_ _ | refine blk_drew ?_ | refine blk_alloc ?_ _)); refine blk_put (cs := #[.int .i64 a0_0, u5001]) ?_ 1 _ rfl; (with_reducible repeat (first | refine blk_drewN ?_ _ | refine blk_drew ?_ | refine blk_alloc ?_ _)); exact BK4.out⟩, ⟨bw_⟩⟩
       rw [if_pos c48] at H
       have c48b0 : decide (x9_3 < (x6_3.length : Int)) = true := decide_eq_true c48
       clear c48
       by_cases c49 : 0 ≤ x9_3
       rotate_left
       ·rw [if_neg c49] at H
        exact absurd H (by simp)
       rw [if_pos c49] at H
       have c49b0 : decide (0 ≤ x9_3) = true := decide_eq_true c49
       clear c49
       by_cases c50 : ((rd_T82 x6_3 x9_3).f0) = 6
       rotate_left
       ·rw [if_neg c50] at H
        have c50b0 : (((rd_T82 x6_3 x9_3).f0) == 6) = false := beq_eq_false_iff_ne.mpr c50
        have c50b1 : (((rd_T82 x6_3 x9_3).f0) != 6) = true := bne_iff_ne.mpr c50
        have H' := Aside0.mk H
        clear H
        have p25 : 0 ≤ (x9_3 : Int) := od_
        have q25 : x9_3 < (x6_3.length : Int) := od_
        obtain ⟨ad25, e25, hx25_0, hx25_1, hx25_2, hx25_3⟩ := at_T82 (Kd.R_reads' HO_6.out).2.2 x9_3 p25 q25
        cases e25
        replace p25 := eq_true p25
        replace q25 := eq_true q25
        go_wp2
        (try simp only [← hl6_3])
        go_roundg k3
        case measure => have := HK1.out; have := HK2.out; have := HK3.out; omega
        case rel => exact ⟨(x6_3), (wrap64 (x9_3 + 1)), sd_, H', ⟨by have := HK1.out; have := HK2.out; have := HK3.out; omega⟩, ⟨by (try simp only [hl6_3]); (with_reducible repeat (first | apply Kd.R_alloc | apply Kd.R_drewN | apply Kd.R_drew)); exact HO_6.out⟩, ⟨by (try simp only [hl6_3]); (with_reducible repeat (first | apply Kd.R_alloc | apply Kd.R_drewN | apply Kd.R_drew)); exact HO_7.out⟩, ⟨by (try simp only [hl6_3]); (with_reducible repeat (first | apply Kd.S_alloc | apply Kd.S_drewN | apply Kd.S_drew)); exact HO_5001.out⟩, ⟨by (try simp only [hl6_3]); (with_reducible repeat (first | refine blk_drewN ?_ _ | refine blk_drew ?_ | refine blk_alloc ?_ _)); exact BK1.out⟩, ⟨by (try simp only [hl6_3]); (with_reducible repeat (first | refine blk_drewN ?_ _ | refine blk_drew ?_ | refine blk_alloc ?_ _)); exact BK2.out⟩, ⟨by (try simp only [hl6_3]); (with_reducible repeat (first | refine blk_drewN ?_ _ | refine blk_drew ?_ | refine blk_alloc ?_ _)); exact BK4.out⟩, ⟨bw_⟩⟩
       rw [if_pos c50] at H
       have c50b0 : (((rd_T82 x6_3 x9_3).f0) == 6) = true := beq_iff_eq.mpr c50
       have c50b1 : (((rd_T82 x6_3 x9_3).f0) != 6) = false := bne_eq_false_iff_eq.mpr c50
       clear c50
       by_cases c51 : 0 ≤ ((rd_T82 x6_3 x9_3).f3)
       rotate_left
       ·rw [if_neg c51] at H
        exact absurd H (by simp)
       rw [if_pos c51] at H
       have c51b0 : decide (0 ≤ ((rd_T82 x6_3 x9_3).f3)) = true := decide_eq_true c51
       clear c51
       by_cases c52 : ((rd_T82 x6_3 x9_3).f3) < (y22.length : Int)
       rotate_left
       ·rw [if_neg c52] at H
        exact absurd H (by simp)
       rw [if_pos c52] at H
       have c52b0 : decide (((rd_T82 x6_3 x9_3).f3) < (y22.length : Int)) = true := decide_eq_true c52
       clear c52
       obtain ⟨y28, hy28⟩ : ∃ y_ : List (S82), y_ = (x6_3.set (x9_3 : Int).toNat (⟨(rd_T82 x6_3 x9_3).f0, (rd_T82 x6_3 x9_3).f1, (rd_T82 x6_3 x9_3).f2, rd y22 ((rd_T82 x6_3 x9_3).f3)⟩ : S82)) := ⟨_, rfl⟩
       replace H : (spec_StripFences.l2 k3 x5_1 y28 y22 (wrap64 (x9_3 + 1)) a0_0 l0_1 a0_0 x5001_1) = some (r1, r2, r3) := by first | (rw [hy28]; with_reducible exact H) | (have H2_ := (Option.bind_some _ _).symm.trans H; rw [hy28]; with_reducible exact H2_) | (have H2_ := (Option.bind_some _ _).symm.trans H; with_reducible exact H2_) | with_reducible exact H | (rw [hy28]; exact H) | exact H
       have Ny28 := Aside0.mk hy28
       clear hy28
       have H' := Aside0.mk H
       clear H
       have p25 : 0 ≤ (x9_3 : Int) := od_
       have q25 : x9_3 < (x6_3.length : Int) := od_
       obtain ⟨ad25, e25, hx25_0, hx25_1, hx25_2, hx25_3⟩ := at_T82 (Kd.R_reads' HO_6.out).2.2 x9_3 p25 q25
       cases e25
       replace p25 := eq_true p25
       replace q25 := eq_true q25
       have p26 : 0 ≤ (x9_3 : Int) := od_
       have q26 : x9_3 < (x6_3.length : Int) := od_
       obtain ⟨ad26, e26, hx26_0, hx26_1, hx26_2, hx26_3⟩ := at_T82 (Kd.R_reads' HO_6.out).2.2 x9_3 p26 q26
       obtain rfl : ad25 = ad26 := (by injection e26)
       replace p26 := eq_true p26
       replace q26 := eq_true q26
       obtain ⟨Ao54, co54, eo54⟩ := Kd.R_slice HO_7.out
       subst eo54
       have p27 : 0 ≤ (((rd_T82 x6_3 x9_3).f3) : Int) := od_
       have q27 : ((rd_T82 x6_3 x9_3).f3) < (y22.length : Int) := od_
       obtain ⟨ad27, e27, hx27_0⟩ := Kd.at_int (Kd.R_reads' HO_7.out).2.2 ((rd_T82 x6_3 x9_3).f3) p27 q27
       cases e27
       replace p27 := eq_true p27
       replace q27 := eq_true q27
       have p53 : 0 ≤ (x9_3 : Int) := od_
       have q53 : (x9_3 : Int) < ((x6_3.length : Int) : Int) := od_
       obtain ⟨go53, co53, eo53, gb53, gl53, cl53, HG53⟩ := Kd.R_form HO_6.out (by omega)
       (first | cases eo53 | (injection eo53 with ea_ en_ ec_; (first | subst ea_ | (injection ea_ with ea_; subst ea_)); subst ec_; clear en_))
       have GB53 := Aside0.mk gb53
       have GG53 := Aside0.mk HG53
       clear gb53 gl53 HG53
       (first | simp only [add_plain] at hx25_0 | skip)
       (first | simp only [add_plain] at hx25_1 | skip)
       (first | simp only [add_plain] at hx25_2 | skip)
       (first | simp only [add_plain] at hx25_3 | skip)
       (first | simp only [add_plain] at hx26_0 | skip)
       (first | simp only [add_plain] at hx26_1 | skip)
       (first | simp only [add_plain] at hx26_2 | skip)
       (first | simp only [add_plain] at hx26_3 | skip)
       obtain ⟨ce53, hcl53, hM53, hcc53, hfr53⟩ := Kd.R_elem HO_6.out z82 (x9_3 : Int) p53 q53
       obtain rfl := k82_openM hM53
       have hx53_0 : wr.cell? ⟨go53, (x9_3 : Int).toNat * 4, none⟩ = some (.int .i64 ((rd_T82 x6_3 x9_3).f0)) := hcc53 0 _ rfl
       have hx53_1 : wr.cell? ⟨go53, (x9_3 : Int).toNat * 4 + 1, none⟩ = some (.int .i64 ((rd_T82 x6_3 x9_3).f1)) := hcc53 1 _ rfl
       have hx53_2 : wr.cell? ⟨go53, (x9_3 : Int).toNat * 4 + 2, none⟩ = some (.int .i64 ((rd_T82 x6_3 x9_3).f2)) := hcc53 2 _ rfl
       have hx53_3 : wr.cell? ⟨go53, (x9_3 : Int).toNat * 4 + 3, none⟩ = some (.int .i64 ((rd_T82 x6_3 x9_3).f3)) := hcc53 3 _ rfl
       have hf53_0 : wr.frozen? ⟨go53, (x9_3 : Int).toNat * 4, none⟩ = false := hfr53 0
       have hf53_1 : wr.frozen? ⟨go53, (x9_3 : Int).toNat * 4 + 1, none⟩ = false := hfr53 1
       have hf53_2 : wr.frozen? ⟨go53, (x9_3 : Int).toNat * 4 + 2, none⟩ = false := hfr53 2
       have hf53_3 : wr.frozen? ⟨go53, (x9_3 : Int).toNat * 4 + 3, none⟩ = false := hfr53 3
       (try clear hcl53); (try clear hcc53); (try clear hfr53); (try clear hM53)
       replace p53 := eq_true p53
       replace q53 := eq_true q53
       have HX55 := Aside0.mk (show Kd.R k82 82 wr w.heap.size (fun _ => True) (.slice (some ⟨go53, 0, none⟩) x6_3.length co46) x6_3 from (by (with_reducible repeat (first | apply Kd.R_alloc | apply Kd.R_drewN | apply Kd.R_drew)); exact HO_6.out))
       obtain ⟨ce55, hcl55, hM55, hcc55, hfr55⟩ := Kd.R_elem HX55.out z82 (x9_3 : Int) (od_) (by have h_ : (x9_3 : Int) < ((x6_3.length : Int) : Int) := od_; first | exact h_ | (have e_ := (Kd.R_reads' HO_6.out).1; omega) | simpa using h_)
       obtain rfl := k82_openM hM55
       have HP55 := Kd.R_seg HX55.out (x9_3 : Int) (od_) (by have h_ : (x9_3 : Int) < ((x6_3.length : Int) : Int) := od_; first | exact h_ | (have e_ := (Kd.R_reads' HO_6.out).1; omega) | simpa using h_) (seg := [.int .i64 (rd y22 ((rd_T82 x6_3 x9_3).f3))]) (j := 3) hcl55 hcc55 (show 4 ≤ 4 from by decide) (x' := (⟨(rd_T82 x6_3 x9_3).f0, (rd_T82 x6_3 x9_3).f1, (rd_T82 x6_3 x9_3).f2, rd y22 ((rd_T82 x6_3 x9_3).f3)⟩ : S82)) (k82_mkM _ _ _ (⟨(rd_T82 x6_3 x9_3).f0, (rd_T82 x6_3 x9_3).f1, (rd_T82 x6_3 x9_3).f2, rd y22 ((rd_T82 x6_3 x9_3).f3)⟩ : S82) ) (fun _ hk => hk)
       have hx55_3 := hcc55 3 _ rfl
       (try simp only [show (k82).sz = 4 from rfl, Nat.mul_one, Nat.add_zero] at hx55_3)
       have hf55_3 := hfr55 3
       (try simp only [show (k82).sz = 4 from rfl, Nat.mul_one, Nat.add_zero] at hf55_3)
       (try clear hcl55); (try clear hcc55); (try clear hfr55); (try clear hM55)
       go_wp2_with (first | ((with_reducible refine gate_store (t := 3) (p := 90) rfl ?_); refine store_event (t := 3) (p := 90) (v := ?vo_w56) (w1 := (wr.setCell ⟨go53, (x9_3 : Int).toNat * 4 + 3, none⟩ (.int .i64 (rd y22 ((rd_T82 x6_3 x9_3).f3))))) ?hg ?ho ?hn ?hr ?_; (case ho => rfl); (case hg => rfl); (case hn => rfl); (case hr => first | (go_simp; done) | (go_simp; rfl)); intro w56 hw; have hg : wr.grownBy w56 (some go53) := (by rw [hw]; exact HP55.2); have hp_ : Kd.R k82 82 w56 w.heap.size (fun _ => True) (.slice (some ⟨go53, 0, none⟩) x6_3.length co46) y28 := (by rw [hw, Ny28.out]; exact HP55.1); clear HP55; have n0_ := Aside0.mk (hp_); have n1_ := Aside0.mk (Kd.R_over' (v := (.slice (some ⟨go53, 0, none⟩) x6_3.length co46)) (by (with_reducible repeat (first | apply Kd.R_alloc | apply Kd.R_drewN | apply Kd.R_drew)); exact HO_7.out) (Kd.R_typed HO_6.out) (by decide) hg); have n2_ := Aside0.mk (Kd.S_after (v := (.slice (some ⟨go53, 0, none⟩) x6_3.length co46)) (v1 := (.slice (some ⟨go53, 0, none⟩) x6_3.length co46)) (ok := (fun _ => True)) (by (with_reducible repeat (first | apply Kd.S_alloc | apply Kd.S_drewN | apply Kd.S_drew)); exact Kd.S_mono HO_5001.out (fun _ hk => ⟨trivial, hk⟩)) hg (.inl rfl)); have n3_ := Aside0.mk (blk_grown (g := gb1) (o := .cells #[.int .i64 a0_0, .slice (some ad11) l0_1.length c0_1] 39 (0, 0)) bk_ hg (Kd.R_ne HO_6.out BK1.out (by decide))); have n4_ := Aside0.mk (blk_grown (g := gb2) (o := .cells #[.int .i64 0, .slice none 0 0] 39 (0, 0)) bk_ hg (Kd.R_ne HO_6.out BK2.out (by decide))); have n5_ := Aside0.mk (blk_grown (g := gb4) (o := .cells #[.int .i64 a0_0, u5001] 39 (0, 0)) bk_ hg (Kd.R_ne HO_6.out BK4.out (by decide))); have n6_ := Aside0.mk ((by rw [hw]; exact below_set (HB.out) GB53.out : Below w.heap.size w w56)); clear HO_6; clear HO_7; clear HO_5001; clear BK1; clear BK2; clear BK4; clear HB; have HO_6 := n0_; have HO_7 := n1_; have HO_5001 := n2_; have BK1 := n3_; have BK2 := n4_; have BK4 := n5_; have HB := n6_; clear n0_ n1_ n2_ n3_ n4_ n5_ n6_; clear hg hw hp_))
       (try simp only [← hl6_3])
       go_roundg k3
       case measure => have := HK1.out; have := HK2.out; have := HK3.out; omega
       case rel => exact ⟨(y28), (wrap64 (x9_3 + 1)), sd_, H', ⟨by have := HK1.out; have := HK2.out; have := HK3.out; omega⟩, ⟨by (try simp only [hl6_3]); (with_reducible repeat (first | apply Kd.R_alloc | apply Kd.R_drewN | apply Kd.R_drew)); exact HO_6.out⟩, ⟨by (try simp only [hl6_3]); (with_reducible repeat (first | apply Kd.R_alloc | apply Kd.R_drewN | apply Kd.R_drew)); exact HO_7.out⟩, ⟨by (try simp only [hl6_3]); (with_reducible repeat (first | apply Kd.S_alloc | apply Kd.S_drewN | apply Kd.S_drew)); exact Kd.S_mono HO_5001.out (fun _ hk => hk.2)⟩, ⟨by (try simp only [hl6_3]); (with_reducible repeat (first | refine blk_drewN ?_ _ | refine blk_drew ?_ | refine blk_alloc ?_ _)); exact BK1.out⟩, ⟨by (try simp only [hl6_3]); (with_reducible repeat (first | refine blk_drewN ?_ _ | refine blk_drew ?_ | refine blk_alloc ?_ _)); exact BK2.out⟩, ⟨by (try simp only [hl6_3]); (with_reducible repeat (first | refine blk_drewN ?_ _ | refine blk_drew ?_ | refine blk_alloc ?_ _)); exact BK4.out⟩, ⟨bw_⟩⟩

end Go.Proofs.Ytlfbdafghpmahaa.P
