-- Written by mp.py (the session's own driver over the kit's printer) for the seat Ytbgclnjnngolmaa.
import Derived.Test.YtbgclnjnngolmaaK
import Derived.Test.YtbgclnjnngolmaaE
import Derived.Test.YtbgclnjnngolmaaPimplProgOk
import Derived.Test.YtbgclnjnngolmaaPlawssameProg
namespace Go.Proofs.Ytbgclnjnngolmaa.P
open Go.RowKit Go.Proofs.YtbgclnjnngolmaaW.PrintWords Go.Proofs.YtbgclnjnngolmaaW.PrintLast Go.Proofs.YtbgclnjnngolmaaW.PrintMore
attribute [local go_sem] max2_int min2_int max_two min_two max_three min_three max_four min_four
set_option linter.unusedVariables false
set_option linter.unusedSimpArgs false

/-! ### impl_FenceCost: function 10 -/
mutual
def impl_FenceCost.l0 : Nat → Int → List (List (S50)) → Int → Int → Option (Int)
 | 0, _, _, _, _ => none
 | k + 1, x3, x12, x13, x14 => if x14 < x13 then (if 0 ≤ x14 then (if x14 < (x12.length : Int) then (impl_FenceCost.l1 k x3 x12 x13 x14 (rd_L4 x12 x14) ((rd_L4 x12 x14).length : Int) 0) else (none)) else (none)) else (some x3)
def impl_FenceCost.l1 : Nat → Int → List (List (S50)) → Int → Int → List (S50) → Int → Int → Option (Int)
 | 0, _, _, _, _, _, _, _ => none
 | k + 1, x3, x12, x13, x14, x18, x19, x20 => if x20 < x19 then (if 0 ≤ x20 then (if x20 < (x18.length : Int) then ((impl_HasFence.f ((rd_T50 x18 x20).f0) ((rd_T50 x18 x20).f1) ((rd_T50 x18 x20).f2) ((rd_T50 x18 x20).f3)).bind fun t6 => ((impl_flag.f t6).bind fun t7 => (impl_FenceCost.l1 k (wrap64 (x3 + t7)) x12 x13 x14 x18 x19 (wrap64 (x20 + 1))))) else (none)) else (none)) else (impl_FenceCost.l0 k x3 x12 x13 (wrap64 (x14 + 1)))
end
def impl_FenceCost.f (k : Nat) (a0_0 : Int) (l0_1 : List (List (S50))) : Option (Int) := (impl_ProgOk.f a0_0 l0_1).bind fun t2 => (if t2 = true then (impl_FenceCost.l0 k 0 l0_1 (l0_1.length : Int) 0) else (some (-1)))
theorem impl_FenceCost.mono_l : ∀ k, (∀ y0 y1 y2 y3, LeO (impl_FenceCost.l0 k y0 y1 y2 y3) (impl_FenceCost.l0 (k + 1) y0 y1 y2 y3)) ∧ (∀ y0 y1 y2 y3 y4 y5 y6, LeO (impl_FenceCost.l1 k y0 y1 y2 y3 y4 y5 y6) (impl_FenceCost.l1 (k + 1) y0 y1 y2 y3 y4 y5 y6))
 | 0 => ⟨fun _ _ _ _ r h => by simp [impl_FenceCost.l0] at h, fun _ _ _ _ _ _ _ r h => by simp [impl_FenceCost.l1] at h⟩
 | k + 1 => by
  obtain ⟨ih0, ih1⟩ := impl_FenceCost.mono_l k
  refine ⟨?_, ?_⟩
  ·intro y0 y1 y2 y3
   unfold impl_FenceCost.l0
   repeat' first | (with_reducible first | exact ih0 _ _ _ _ | exact ih1 _ _ _ _ _ _ _ | exact lr_ | exact ln_ | refine LeO.ite ?_ ?_ | refine LeO.bind ?_ (fun _ => ?_)) | exact ih0 _ _ _ _ | exact ih1 _ _ _ _ _ _ _ | exact ln_ | refine LeO.ite ?_ ?_ | refine LeO.bind ?_ (fun _ => ?_)
  ·intro y0 y1 y2 y3 y4 y5 y6
   unfold impl_FenceCost.l1
   repeat' first | (with_reducible first | exact ih0 _ _ _ _ | exact ih1 _ _ _ _ _ _ _ | exact lr_ | exact ln_ | refine LeO.ite ?_ ?_ | refine LeO.bind ?_ (fun _ => ?_)) | exact ih0 _ _ _ _ | exact ih1 _ _ _ _ _ _ _ | exact ln_ | refine LeO.ite ?_ ?_ | refine LeO.bind ?_ (fun _ => ?_)
theorem impl_FenceCost.mono : ∀ a0 a1 k, LeO (impl_FenceCost.f k a0 a1) (impl_FenceCost.f (k + 1) a0 a1) := by
 intro a0 a1 k
 obtain ⟨ih0, ih1⟩ := impl_FenceCost.mono_l k
 unfold impl_FenceCost.f
 repeat' first | (with_reducible first | exact ih0 _ _ _ _ | exact ih1 _ _ _ _ _ _ _ | exact lr_ | exact ln_ | refine LeO.ite ?_ ?_ | refine LeO.bind ?_ (fun _ => ?_)) | exact ih0 _ _ _ _ | exact ih1 _ _ _ _ _ _ _ | exact ln_ | refine LeO.ite ?_ ?_ | refine LeO.bind ?_ (fun _ => ?_)
set_option maxHeartbeats 8000000 in
set_option maxRecDepth 100000 in
theorem impl_FenceCost.calls (k : Nat) (a0_0 : Int) (A0_1 : Option Addr) (c0_1 : Nat) (l0_1 : List (List (S50))) (r : Int) (w : World) (hr0_1 : Kd.C (Kd.slice 50 k50) w A0_1 l0_1.length l0_1) (hc0_1 : l0_1.length ≤ c0_1) (h : impl_FenceCost.f k a0_0 l0_1 = some r) :
  Calls Try.prog 10 #[.agg #[.int .i64 a0_0, .slice A0_1 l0_1.length c0_1]] w fun e w' => e = .returned (.int .i64 r) ∧ Below w.heap.size w w' := by
 have hu26 := Try.underlying26
 have hu50 := Try.underlying50
 have HR0_1 := am_ hr0_1
 have HC0_1 := am_ hc0_1
 clear hr0_1 hc0_1
 have HB := am_ (Below.refl w.heap.size w)
 have H : ((impl_ProgOk.f a0_0 l0_1).bind fun t2 => (if t2 = true then (impl_FenceCost.l0 k 0 l0_1 (l0_1.length : Int) 0) else (some (-1)))) = some r := h
 clear h
 replace H := Option.bind_eq_some_iff.mp H
 obtain ⟨t2, A20, H⟩ := H
 replace H : (if t2 = true then (impl_FenceCost.l0 k 0 l0_1 (l0_1.length : Int) 0) else (some (-1))) = some r := H
 have A2 := am_ A20
 clear A20
 by_cases c3 : t2 = true
 rotate_left
 ·replace c3 := Bool.eq_false_iff.mpr c3
  subst c3
  have H1 : (some (-1)) = some r := by rw [if_neg (show ¬ (false = true) by decide)] at H; exact H
  clear H
  have H := H1
  clear H1
  obtain rfl := Option.some.inj H
  go_enter Try.func10, Try.ntmps10
  go_wp2_with (first | ((with_reducible refine gate_dst (N := 1) rfl ?_); refine box_event ?hg (N := 1) ?hd (cs := #[.int .i64 a0_0, .slice A0_1 l0_1.length c0_1]) (t := 26) ?hr ?_; (case hd => rfl); (case hg => rfl); (case hr => exact hrr_); intro gb1 hg w20 hbox hb; have n0_ := bs_ hb; have n1_ := am_ (hbox); have n2_ := ge_ (w := w) hg; have n3_ := ge_ (w := w) hg; clear HB; have HB := n0_; have BK1 := n1_; have GW1 := n2_; have GE1 := n3_; clear n0_ n1_ n2_ n3_; clear hb hbox hg; obtain ⟨hcz21_0, hcz21_1, hfz21_0, hfz21_1⟩ := bc2_ BK1.out) | ((with_reducible refine gate_callee (f := 20) rfl ?_); refine goesL_ (some 9) rfl rfl Try.func20 kr_ rfl #[.agg #[.int .i64 a0_0, .slice A0_1 l0_1.length c0_1]] rfl ar_ ?_; (with_reducible refine (impl_ProgOk.calls a0_0 _ _ l0_1 false _ ?side1 ?side2 A2.out).mono ?_); (case side1 => exact cb_); (case side2 => exact HC0_1.out); rintro e w22 ⟨rfl, hb⟩; refine ⟨_, rfl, ?_⟩; have n0_ := bb_ BK1.out hb; have n1_ := bs_ hb; clear BK1; clear HB; have BK1 := n0_; have HB := n1_; clear n0_ n1_; (try clear hb); (try clear hb2); (try clear hk); (try clear hi)))
  go_ret
  exact ⟨rr_, bw_⟩
 subst c3
 have H1 : (impl_FenceCost.l0 k 0 l0_1 (l0_1.length : Int) 0) = some r := by rw [if_pos rfl] at H; exact H
 clear H
 have H := H1
 clear H1
 have H' := am_ H
 clear H
 go_enter Try.func10, Try.ntmps10
 go_wp2_with (first | ((with_reducible refine gate_dst (N := 1) rfl ?_); refine box_event ?hg (N := 1) ?hd (cs := #[.int .i64 a0_0, .slice A0_1 l0_1.length c0_1]) (t := 26) ?hr ?_; (case hd => rfl); (case hg => rfl); (case hr => exact hrr_); intro gb1 hg w4 hbox hb; have n0_ := bs_ hb; have n1_ := am_ (hbox); have n2_ := ge_ (w := w) hg; have n3_ := ge_ (w := w) hg; clear HB; have HB := n0_; have BK1 := n1_; have GW1 := n2_; have GE1 := n3_; clear n0_ n1_ n2_ n3_; clear hb hbox hg; obtain ⟨hcz5_0, hcz5_1, hfz5_0, hfz5_1⟩ := bc2_ BK1.out) | ((with_reducible refine gate_callee (f := 20) rfl ?_); refine goesL_ (some 9) rfl rfl Try.func20 kr_ rfl #[.agg #[.int .i64 a0_0, .slice A0_1 l0_1.length c0_1]] rfl ar_ ?_; (with_reducible refine (impl_ProgOk.calls a0_0 _ _ l0_1 true _ ?side1 ?side2 A2.out).mono ?_); (case side1 => exact cb_); (case side2 => exact HC0_1.out); rintro e w6 ⟨rfl, hb⟩; refine ⟨_, rfl, ?_⟩; have n0_ := bb_ BK1.out hb; have n1_ := bs_ hb; clear BK1; clear HB; have BK1 := n0_; have HB := n1_; clear n0_ n1_; (try clear hb); (try clear hb2); (try clear hk); (try clear hi); obtain ⟨hcz7_0, hcz7_1, hfz7_0, hfz7_1⟩ := bc2_ BK1.out))
 go_loopg [3, 14] k (fun kq v3 v14 w' => ∃ (x3_1 : Int) (x14_1 : Int), v3 = .int .i64 x3_1 ∧ v14 = .int .i64 x14_1 ∧ Aside0 (impl_FenceCost.l0 kq x3_1 l0_1 (l0_1.length : Int) x14_1 = some r) ∧ Aside0 (kq ≤ k) ∧ Aside0 (w'.heap[gb1]? = some (.cells #[.int .i64 a0_0, (.slice A0_1 l0_1.length c0_1)] 26 (0, 0))) ∧ Aside0 (Below w.heap.size w w'))
 case atStart => exact ⟨(0), (0), sd_, sd_, H', ⟨Nat.le_refl _⟩, ⟨bk_⟩, ⟨bw_⟩⟩
 case round =>
  clear H'
  try clear c3
  try clear hcz5_0 hcz5_1
  try clear hcz7_0 hcz7_1
  try clear hfz5_0 hfz5_1
  try clear hfz7_0 hfz7_1
  obtain ⟨x3_1, x14_1, rfl, rfl, HA, HK1, BK1, HB⟩ := hrel
  cases gk with
  | zero => exact absurd HA.out (by simp [impl_FenceCost.l0])
  | succ k1 =>
   have H := HA.out
   clear HA
   simp only [impl_FenceCost.l0] at H
   by_cases c8 : x14_1 < (l0_1.length : Int)
   rotate_left
   ·rw [if_neg c8] at H
    have c8b0 : decide (x14_1 < (l0_1.length : Int)) = false := decide_eq_false c8
    clear c8
    obtain rfl := Option.some.inj H
    go_wp2
    go_ret
    exact ⟨rr_, bw_⟩
   rw [if_pos c8] at H
   have c8b0 : decide (x14_1 < (l0_1.length : Int)) = true := decide_eq_true c8
   clear c8
   by_cases c9 : 0 ≤ x14_1
   rotate_left
   ·rw [if_neg c9] at H
    exact absurd H (by simp)
   rw [if_pos c9] at H
   have c9b0 : decide (0 ≤ x14_1) = true := decide_eq_true c9
   clear c9
   by_cases c10 : x14_1 < (l0_1.length : Int)
   rotate_left
   ·rw [if_neg c10] at H
    exact absurd H (by simp)
   rw [if_pos c10] at H
   have c10b0 : decide (x14_1 < (l0_1.length : Int)) = true := decide_eq_true c10
   clear c10
   have H' := am_ H
   clear H
   have p3 : 0 ≤ (x14_1 : Int) := od_
   have q3 : x14_1 < (l0_1.length : Int) := od_
   obtain ⟨ad3, A3_0, c3_0, e3, hx3_0, hl3_0, hi3_0⟩ := at_L4 HR0_1.out x14_1 p3 q3
   cases e3
   replace hx3_0 := (HB.out.cell (World.block_lt_of_cell? w _ hx3_0)).trans hx3_0
   have HR3_0 := am_ hi3_0
   have HC3_0 := am_ hl3_0
   clear hi3_0 hl3_0
   replace p3 := eq_true p3
   replace q3 := eq_true q3
   go_wp2
   go_loopg [3, 20] k1 (fun kq v3 v20 w' => ∃ (x3_2 : Int) (x20_2 : Int), v3 = .int .i64 x3_2 ∧ v20 = .int .i64 x20_2 ∧ Aside0 (impl_FenceCost.l1 kq x3_2 l0_1 (l0_1.length : Int) x14_1 (rd_L4 l0_1 x14_1) ((rd_L4 l0_1 x14_1).length : Int) x20_2 = some r) ∧ Aside0 (kq ≤ k1) ∧ Aside0 (w'.heap[gb1]? = some (.cells #[.int .i64 a0_0, (.slice (some ad3) l0_1.length c0_1)] 26 (0, 0))) ∧ Aside0 (Below w.heap.size w w'))
   case atStart => exact ⟨(x3_1), (0), sd_, sd_, H', ⟨Nat.le_refl _⟩, ⟨bk_⟩, ⟨bw_⟩⟩
   case round =>
    clear H'
    try clear c3
    try clear p3
    try clear q3
    try clear c8
    try clear c8b0
    try clear c9
    try clear c9b0
    try clear c10
    try clear c10b0
    try clear hcz5_0 hcz5_1
    try clear hcz7_0 hcz7_1
    try clear hfz5_0 hfz5_1
    try clear hfz7_0 hfz7_1
    try clear hx3_0
    try clear p3
    try clear q3
    obtain ⟨x3_2, x20_2, rfl, rfl, HA, HK2, BK1, HB⟩ := hrel
    cases gk with
    | zero => exact absurd HA.out (by simp [impl_FenceCost.l1])
    | succ k2 =>
     have H := HA.out
     clear HA
     simp only [impl_FenceCost.l1] at H
     by_cases c11 : x20_2 < ((rd_L4 l0_1 x14_1).length : Int)
     rotate_left
     ·rw [if_neg c11] at H
      have c11b0 : decide (x20_2 < ((rd_L4 l0_1 x14_1).length : Int)) = false := decide_eq_false c11
      clear c11
      have H' := am_ H
      clear H
      go_wp2
      go_roundg k2
      case measure => have := HK1.out; have := HK2.out; omega
      case rel => exact ⟨(x3_2), (wrap64 (x14_1 + 1)), sd_, sd_, H', ⟨by have := HK1.out; have := HK2.out; omega⟩, ⟨bk_⟩, ⟨bw_⟩⟩
     rw [if_pos c11] at H
     have c11b0 : decide (x20_2 < ((rd_L4 l0_1 x14_1).length : Int)) = true := decide_eq_true c11
     clear c11
     by_cases c12 : 0 ≤ x20_2
     rotate_left
     ·rw [if_neg c12] at H
      exact absurd H (by simp)
     rw [if_pos c12] at H
     have c12b0 : decide (0 ≤ x20_2) = true := decide_eq_true c12
     clear c12
     by_cases c13 : x20_2 < ((rd_L4 l0_1 x14_1).length : Int)
     rotate_left
     ·rw [if_neg c13] at H
      exact absurd H (by simp)
     rw [if_pos c13] at H
     have c13b0 : decide (x20_2 < ((rd_L4 l0_1 x14_1).length : Int)) = true := decide_eq_true c13
     clear c13
     replace H := Option.bind_eq_some_iff.mp H
     obtain ⟨t6, A140, H⟩ := H
     replace H : ((impl_flag.f t6).bind fun t7 => (impl_FenceCost.l1 k2 (wrap64 (x3_2 + t7)) l0_1 (l0_1.length : Int) x14_1 (rd_L4 l0_1 x14_1) ((rd_L4 l0_1 x14_1).length : Int) (wrap64 (x20_2 + 1)))) = some r := H
     have A14 := am_ A140
     clear A140
     replace H := Option.bind_eq_some_iff.mp H
     obtain ⟨t7, A150, H⟩ := H
     replace H : (impl_FenceCost.l1 k2 (wrap64 (x3_2 + t7)) l0_1 (l0_1.length : Int) x14_1 (rd_L4 l0_1 x14_1) ((rd_L4 l0_1 x14_1).length : Int) (wrap64 (x20_2 + 1))) = some r := H
     have A15 := am_ A150
     clear A150
     have H' := am_ H
     clear H
     have p4 : 0 ≤ (x20_2 : Int) := od_
     have q4 : x20_2 < ((rd_L4 l0_1 x14_1).length : Int) := od_
     obtain ⟨ad4, e4, hx4_0, hx4_1, hx4_2, hx4_3⟩ := at_T50 HR3_0.out x20_2 p4 q4
     cases e4
     replace hx4_0 := (HB.out.cell (World.block_lt_of_cell? w _ hx4_0)).trans hx4_0
     replace hx4_1 := (HB.out.cell (World.block_lt_of_cell? w _ hx4_1)).trans hx4_1
     replace hx4_2 := (HB.out.cell (World.block_lt_of_cell? w _ hx4_2)).trans hx4_2
     replace hx4_3 := (HB.out.cell (World.block_lt_of_cell? w _ hx4_3)).trans hx4_3
     replace p4 := eq_true p4
     replace q4 := eq_true q4
     go_wp2_with (first | ((with_reducible refine gate_dst (N := 7) rfl ?_); refine box_event ?hg (N := 7) ?hd (cs := #[.int .i64 0, .int .i64 0, .int .i64 0, .int .i64 0]) (t := 50) ?hr ?_; (case hd => rfl); (case hg => rfl); (case hr => exact hrr_); intro gb5 hg w16 hbox hb; have n0_ := bb_ BK1.out hb; have n1_ := bs_ hb; have n2_ := am_ (hbox); have n3_ := ge_ (w := w) hg; have n4_ := ge_ (w := w) hg; have n5_ := nl_ BK1.out hg; have n6_ := nr_ BK1.out hg; clear BK1; clear HB; have BK1 := n0_; have HB := n1_; have BK5 := n2_; have GW5 := n3_; have GE5 := n4_; have NB1_5 := n5_; have NB5_1 := n6_; clear n0_ n1_ n2_ n3_ n4_ n5_ n6_; clear hb hbox hg; have hnb17 := NB5_1.out; have hnc17 := NB1_5.out; obtain ⟨hcz18_0, hcz18_1, hcz18_2, hcz18_3, hfz18_0, hfz18_1, hfz18_2, hfz18_3⟩ := bc4_ BK5.out) | ((with_reducible refine gate_callee (f := 27) rfl ?_); refine goesL_ (some 26) rfl rfl Try.func27 kr_ rfl #[.agg #[.int .i64 ((rd_T50 (rd_L4 l0_1 x14_1) x20_2).f0), .int .i64 ((rd_T50 (rd_L4 l0_1 x14_1) x20_2).f1), .int .i64 ((rd_T50 (rd_L4 l0_1 x14_1) x20_2).f2), .int .i64 ((rd_T50 (rd_L4 l0_1 x14_1) x20_2).f3)]] rfl ar_ ?_; (with_reducible refine (impl_HasFence.calls ((rd_T50 (rd_L4 l0_1 x14_1) x20_2).f0) ((rd_T50 (rd_L4 l0_1 x14_1) x20_2).f1) ((rd_T50 (rd_L4 l0_1 x14_1) x20_2).f2) ((rd_T50 (rd_L4 l0_1 x14_1) x20_2).f3) t6 _ A14.out).mono ?_); rintro e w19 ⟨rfl, hb⟩; refine ⟨_, rfl, ?_⟩; have n0_ := am_ (blk_below (g := gb1) (o := .cells #[.int .i64 a0_0, .slice (some ad3) l0_1.length c0_1] 26 (0, 0)) (by (with_reducible repeat (first | refine blk_drewN ?_ _ | refine blk_drew ?_ | refine blk_alloc ?_ _)); refine blk_far ?_ NB1_5.out _; (with_reducible repeat (first | refine blk_drewN ?_ _ | refine blk_drew ?_ | refine blk_alloc ?_ _)); refine blk_far ?_ NB1_5.out _; (with_reducible repeat (first | refine blk_drewN ?_ _ | refine blk_drew ?_ | refine blk_alloc ?_ _)); refine blk_far ?_ NB1_5.out _; (with_reducible repeat (first | refine blk_drewN ?_ _ | refine blk_drew ?_ | refine blk_alloc ?_ _)); refine blk_far ?_ NB1_5.out _; exact bk_) hb); have n1_ := am_ (blk_below (g := gb5) (o := .cells #[.int .i64 ((rd_T50 (rd_L4 l0_1 x14_1) x20_2).f0), .int .i64 ((rd_T50 (rd_L4 l0_1 x14_1) x20_2).f1), .int .i64 ((rd_T50 (rd_L4 l0_1 x14_1) x20_2).f2), .int .i64 ((rd_T50 (rd_L4 l0_1 x14_1) x20_2).f3)] 50 (0, 0)) (by (with_reducible repeat (first | refine blk_drewN ?_ _ | refine blk_drew ?_ | refine blk_alloc ?_ _)); refine blk_put (cs := #[.int .i64 ((rd_T50 (rd_L4 l0_1 x14_1) x20_2).f0), .int .i64 ((rd_T50 (rd_L4 l0_1 x14_1) x20_2).f1), .int .i64 ((rd_T50 (rd_L4 l0_1 x14_1) x20_2).f2), .int .i64 0]) ?_ 3 _ rfl; (with_reducible repeat (first | refine blk_drewN ?_ _ | refine blk_drew ?_ | refine blk_alloc ?_ _)); refine blk_put (cs := #[.int .i64 ((rd_T50 (rd_L4 l0_1 x14_1) x20_2).f0), .int .i64 ((rd_T50 (rd_L4 l0_1 x14_1) x20_2).f1), .int .i64 0, .int .i64 0]) ?_ 2 _ rfl; (with_reducible repeat (first | refine blk_drewN ?_ _ | refine blk_drew ?_ | refine blk_alloc ?_ _)); refine blk_put (cs := #[.int .i64 ((rd_T50 (rd_L4 l0_1 x14_1) x20_2).f0), .int .i64 0, .int .i64 0, .int .i64 0]) ?_ 1 _ rfl; (with_reducible repeat (first | refine blk_drewN ?_ _ | refine blk_drew ?_ | refine blk_alloc ?_ _)); refine blk_put (cs := #[.int .i64 0, .int .i64 0, .int .i64 0, .int .i64 0]) ?_ 0 _ rfl; exact bk_) hb); have n2_ := bs_ hb; clear BK1; clear BK5; clear HB; have BK1 := n0_; have BK5 := n1_; have HB := n2_; clear n0_ n1_ n2_; (try clear hb); (try clear hb2); (try clear hk); (try clear hi)) | ((with_reducible refine gate_callee (f := 26) rfl ?_); refine goesL_ (some 27) rfl rfl Try.func26 kr_ rfl #[.bool t6] rfl ar_ ?_; (with_reducible refine (impl_flag.calls t6 t7 _ A15.out).mono ?_); rintro e w' ⟨rfl, ⟨nd, rfl⟩⟩; refine ⟨_, rfl, ?_⟩))
     go_roundg k2
     case measure => have := HK1.out; have := HK2.out; omega
     case rel => exact ⟨(wrap64 (x3_2 + t7)), (wrap64 (x20_2 + 1)), sd_, sd_, H', ⟨by have := HK1.out; have := HK2.out; omega⟩, ⟨bk_⟩, ⟨bw_⟩⟩

end Go.Proofs.Ytbgclnjnngolmaa.P
