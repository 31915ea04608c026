-- Written by mp.py (the session's own driver over the kit's printer) for the seat Ytbgclnjnngolmaa.
import Derived.Test.YtbgclnjnngolmaaK
import Derived.Test.YtbgclnjnngolmaaE
namespace Go.Proofs.Ytbgclnjnngolmaa.P
open Go.RowKit Go.Proofs.YtbgclnjnngolmaaW.PrintWords Go.Proofs.YtbgclnjnngolmaaW.PrintLast Go.Proofs.YtbgclnjnngolmaaW.PrintMore
attribute [local go_sem] max2_int min2_int max_two min_two max_three min_three max_four min_four
set_option linter.unusedVariables false
set_option linter.unusedSimpArgs false

/-! ### impl_stripped: function 24 -/
mutual
def impl_stripped.l0 : Nat → List (S50) → List (S50) → List Int → Int → Int → Option ((List (S50)))
 | 0, _, _, _, _, _ => none
 | k + 1, x0, x3, x4, x12, x13 => if x13 < x12 then (if 0 ≤ x13 then (if x13 < (x0.length : Int) then (if x4.length < 17592186044416 then ((some (x4 ++ [(x3.length : Int)] : List Int)).bind fun y9 => (if ((rd_T50 x0 x13).f0) = 4 then (impl_stripped.l0 k x0 x3 y9 x12 (wrap64 (x13 + 1))) else (if x3.length < 4398046511104 then (impl_stripped.l0 k x0 (x3 ++ [(⟨(rd_T50 x0 x13).f0, (rd_T50 x0 x13).f1, (rd_T50 x0 x13).f2, (rd_T50 x0 x13).f3⟩ : S50)]) y9 x12 (wrap64 (x13 + 1))) else (none)))) else (none)) else (none)) else (none)) else (if x4.length < 17592186044416 then (impl_stripped.l1 k x3 (x4 ++ [(x3.length : Int)]) (x3.length : Int) 0) else (none))
def impl_stripped.l1 : Nat → List (S50) → List Int → Int → Int → Option ((List (S50)))
 | 0, _, _, _, _ => none
 | k + 1, x3, x4, x36, x37 => if x37 < x36 then (if 0 ≤ x37 then (if x37 < (x3.length : Int) then (if ((rd_T50 x3 x37).f0) = 6 then (if 0 ≤ ((rd_T50 x3 x37).f3) then (if ((rd_T50 x3 x37).f3) < (x4.length : Int) then (impl_stripped.l1 k (x3.set (x37 : Int).toNat (⟨(rd_T50 x3 x37).f0, (rd_T50 x3 x37).f1, (rd_T50 x3 x37).f2, rd x4 ((rd_T50 x3 x37).f3)⟩ : S50)) x4 x36 (wrap64 (x37 + 1))) else (none)) else (none)) else (impl_stripped.l1 k x3 x4 x36 (wrap64 (x37 + 1)))) else (none)) else (none)) else (some x3)
end
def impl_stripped.f (k : Nat) (l0 : List (S50)) : Option ((List (S50))) := impl_stripped.l0 k l0 (([] : List (S50))) (([] : List Int)) (l0.length : Int) 0
theorem impl_stripped.mono_l : ∀ k, (∀ y0 y1 y2 y3 y4, LeO (impl_stripped.l0 k y0 y1 y2 y3 y4) (impl_stripped.l0 (k + 1) y0 y1 y2 y3 y4)) ∧ (∀ y0 y1 y2 y3, LeO (impl_stripped.l1 k y0 y1 y2 y3) (impl_stripped.l1 (k + 1) y0 y1 y2 y3))
 | 0 => ⟨fun _ _ _ _ _ r h => by simp [impl_stripped.l0] at h, fun _ _ _ _ r h => by simp [impl_stripped.l1] at h⟩
 | k + 1 => by
  obtain ⟨ih0, ih1⟩ := impl_stripped.mono_l k
  refine ⟨?_, ?_⟩
  ·intro y0 y1 y2 y3 y4
   unfold impl_stripped.l0
   repeat' first | (with_reducible first | exact ih0 _ _ _ _ _ | exact ih1 _ _ _ _ | exact lr_ | exact ln_ | refine LeO.ite ?_ ?_ | refine LeO.bind ?_ (fun _ => ?_)) | exact ih0 _ _ _ _ _ | exact ih1 _ _ _ _ | exact ln_ | refine LeO.ite ?_ ?_ | refine LeO.bind ?_ (fun _ => ?_)
  ·intro y0 y1 y2 y3
   unfold impl_stripped.l1
   repeat' first | (with_reducible first | exact ih0 _ _ _ _ _ | exact ih1 _ _ _ _ | exact lr_ | exact ln_ | refine LeO.ite ?_ ?_ | refine LeO.bind ?_ (fun _ => ?_)) | exact ih0 _ _ _ _ _ | exact ih1 _ _ _ _ | exact ln_ | refine LeO.ite ?_ ?_ | refine LeO.bind ?_ (fun _ => ?_)
theorem impl_stripped.mono : ∀ a0 k, LeO (impl_stripped.f k a0) (impl_stripped.f (k + 1) a0) := by
 intro a0 k
 obtain ⟨ih0, ih1⟩ := impl_stripped.mono_l k
 unfold impl_stripped.f
 repeat' first | (with_reducible first | exact ih0 _ _ _ _ _ | exact ih1 _ _ _ _ | exact lr_ | exact ln_ | refine LeO.ite ?_ ?_ | refine LeO.bind ?_ (fun _ => ?_)) | exact ih0 _ _ _ _ _ | exact ih1 _ _ _ _ | exact ln_ | refine LeO.ite ?_ ?_ | refine LeO.bind ?_ (fun _ => ?_)
set_option maxHeartbeats 8000000 in
set_option maxRecDepth 100000 in
theorem impl_stripped.calls (k : Nat) (A0 : Option Addr) (c0 : Nat) (l0 : List (S50)) (r : List (S50)) (w : World) (hr0 : Kd.C k50 w A0 l0.length l0) (hc0 : l0.length ≤ c0) (h : impl_stripped.f k l0 = some r) :
  Calls Try.prog 24 #[.slice A0 l0.length c0] w fun e w' => ∃ v0_ : Value, e = .returned (v0_) ∧ Kd.R k50 50 w' w.heap.size (fun _ => True) v0_ r ∧ Below w.heap.size w w' := by
 have hu50 := Try.underlying50
 have HR0 := am_ hr0
 have HC0 := am_ hc0
 clear hr0 hc0
 have HB := am_ (Below.refl w.heap.size w)
 have H : (impl_stripped.l0 k l0 (([] : List (S50))) (([] : List Int)) (l0.length : Int) 0) = some r := h
 clear h
 obtain ⟨y1, hy1⟩ : ∃ y_ : List (S50), y_ = (([] : List (S50))) := ⟨_, rfl⟩
 replace H : (impl_stripped.l0 k l0 y1 (([] : List Int)) (l0.length : Int) 0) = some r := rh_ hy1
 have Ny1 := am_ hy1
 clear hy1
 obtain ⟨y4, hy4⟩ : ∃ y_ : List Int, y_ = (([] : List Int)) := ⟨_, rfl⟩
 replace H : (impl_stripped.l0 k l0 y1 y4 (l0.length : Int) 0) = some r := rh_ hy4
 have Ny4 := am_ hy4
 clear hy4
 have H' := am_ H
 clear H
 go_enter Try.func24, Try.ntmps24
 go_wp2_with (first | ((with_reducible refine gate_dst (N := 9) rfl ?_); refine Kd.R_lit k50 _ 50 ?hg (N := 9) ?hd (xs := ([] : List (S50))) (inner := []) (ok := fun _ => True) (okp := fun _ => True) ?hr ?hp (fun _ hk => hk) trivial (Below.refl _ _) (Nat.le_refl _) (by simp) ?_; (case hd => rfl); (case hg => rfl); (case hr => first | (go_simp; done) | (go_simp; rfl)); (case hp => exact (Reps.none _ _)); intro v2 w2 ho3 hb hg_ hnew_; clear hg_ hnew_; (first | rw [← Ny1.out] at ho3 | (simp only [Int.reduceToNat] at ho3; rw [← Ny1.out] at ho3)); have n0_ := am_ (Kd.R_lower ho3 (below_size bw_)); have n1_ := bs_ hb; clear HB; have HO3 := n0_; have HB := n1_; clear n0_ n1_; clear hb ho3) | ((with_reducible refine gate_dst (N := 10) rfl ?_); refine Kd.R_lit (Kd.int .i64) _ 3 ?hg (N := 10) ?hd (xs := ([] : List Int)) (inner := []) (ok := fun _ => True) (okp := fun _ => True) ?hr ?hp (fun _ hk => hk) trivial (Below.refl _ _) (Nat.le_refl _) (by simp) ?_; (case hd => rfl); (case hg => rfl); (case hr => first | (go_simp; done) | (go_simp; rfl)); (case hp => exact (Reps.none _ _)); intro v5 w4 ho5 hb hg_ hnew_; clear hg_ hnew_; (first | rw [← Ny4.out] at ho5 | (simp only [Int.reduceToNat] at ho5; rw [← Ny4.out] at ho5)); have n0_ := am_ (Kd.R_below (rx_ HO3.out) hb); have n1_ := am_ (Kd.R_lower ho5 (below_size bw_)); have n2_ := bs_ hb; clear HO3; clear HB; have HO3 := n0_; have HO6 := n1_; have HB := n2_; clear n0_ n1_ n2_; clear hb ho5))
 go_loopg [3, 4, 13] k (fun kq v3 v4 v13 w' => ∃ (x3_1 : List (S50)) (x4_1 : List Int) (x13_1 : Int), v13 = .int .i64 x13_1 ∧ Aside0 (impl_stripped.l0 kq l0 x3_1 x4_1 (l0.length : Int) x13_1 = some r) ∧ Aside0 (kq ≤ k) ∧ Aside0 (Kd.R k50 50 w' w.heap.size (fun _ => True) v3 x3_1) ∧ Aside0 (Kd.R (Kd.int .i64) 3 w' w.heap.size (fun _ => True) v4 x4_1) ∧ Aside0 (Below w.heap.size w w'))
 case atStart => exact ⟨(y1), (y4), (0), sd_, H', ⟨Nat.le_refl _⟩, ⟨by (with_reducible repeat (first | apply Kd.R_alloc | apply Kd.R_drewN | apply Kd.R_drew)); exact HO3.out⟩, ⟨by (with_reducible repeat (first | apply Kd.R_alloc | apply Kd.R_drewN | apply Kd.R_drew)); exact HO6.out⟩, ⟨bw_⟩⟩
 case round =>
  clear H'
  obtain ⟨x3_1, x4_1, x13_1, rfl, HA, HK1, HO_3, HO_4, HB⟩ := hrel
  cases gk with
  | zero => exact absurd HA.out (by simp [impl_stripped.l0])
  | succ k1 =>
   have H := HA.out
   clear HA
   simp only [impl_stripped.l0] at H
   by_cases c6 : x13_1 < (l0.length : Int)
   ·rw [if_pos c6] at H
    have c6b0 : decide (x13_1 < (l0.length : Int)) = true := decide_eq_true c6
    clear c6
    by_cases c7 : 0 ≤ x13_1
    rotate_left
    ·rw [if_neg c7] at H
     exact absurd H (by simp)
    rw [if_pos c7] at H
    have c7b0 : decide (0 ≤ x13_1) = true := decide_eq_true c7
    clear c7
    by_cases c8 : x13_1 < (l0.length : Int)
    rotate_left
    ·rw [if_neg c8] at H
     exact absurd H (by simp)
    rw [if_pos c8] at H
    have c8b0 : decide (x13_1 < (l0.length : Int)) = true := decide_eq_true c8
    clear c8
    by_cases c9 : x4_1.length < 17592186044416
    rotate_left
    ·rw [if_neg c9] at H
     exact absurd H (by simp)
    rw [if_pos c9] at H
    have LMc9 := am_ c9
    clear c9
    obtain ⟨y9, hy9⟩ : ∃ y_ : List Int, y_ = (x4_1 ++ [(x3_1.length : Int)]) := ⟨_, rfl⟩
    replace H : (if ((rd_T50 l0 x13_1).f0) = 4 then (impl_stripped.l0 k1 l0 x3_1 y9 (l0.length : Int) (wrap64 (x13_1 + 1))) else (if x3_1.length < 4398046511104 then (impl_stripped.l0 k1 l0 (x3_1 ++ [(⟨(rd_T50 l0 x13_1).f0, (rd_T50 l0 x13_1).f1, (rd_T50 l0 x13_1).f2, (rd_T50 l0 x13_1).f3⟩ : S50)]) y9 (l0.length : Int) (wrap64 (x13_1 + 1))) else (none))) = some r := rh_ hy9
    have Ny9 := am_ hy9
    clear hy9
    by_cases c10 : ((rd_T50 l0 x13_1).f0) = 4
    ·rw [if_pos c10] at H
     have c10b0 : (((rd_T50 l0 x13_1).f0) == 4) = true := beq_iff_eq.mpr c10
     have c10b1 : (((rd_T50 l0 x13_1).f0) != 4) = false := bne_eq_false_iff_eq.mpr c10
     clear c10
     have H' := am_ H
     clear H
     have p7 : 0 ≤ (x13_1 : Int) := od_
     have q7 : x13_1 < (l0.length : Int) := od_
     obtain ⟨ad7, e7, hx7_0, hx7_1, hx7_2, hx7_3⟩ := at_T50 HR0.out x13_1 p7 q7
     cases e7
     replace hx7_0 := (HB.out.cell (World.block_lt_of_cell? w _ hx7_0)).trans hx7_0
     replace hx7_1 := (HB.out.cell (World.block_lt_of_cell? w _ hx7_1)).trans hx7_1
     replace hx7_2 := (HB.out.cell (World.block_lt_of_cell? w _ hx7_2)).trans hx7_2
     replace hx7_3 := (HB.out.cell (World.block_lt_of_cell? w _ hx7_3)).trans hx7_3
     replace p7 := eq_true p7
     replace q7 := eq_true q7
     go_wp2_with (first | ((with_reducible refine gate_dst (N := 6) rfl ?_); refine box_event ?hg (N := 6) ?hd (cs := #[.int .i64 0, .int .i64 0, .int .i64 0, .int .i64 0]) (t := 50) ?hr ?_; (case hd => rfl); (case hg => rfl); (case hr => exact hrr_); intro gb8 hg w11 hbox hb; have n0_ := am_ (Kd.R_below (Kd.R_elderB (rx_ HO_3.out) gb8 (Nat.le_of_eq hg.symm)) hb); have n1_ := am_ (Kd.R_below (rx_ HO_4.out) hb); have n2_ := bs_ hb; have n3_ := am_ (hbox); have n4_ := ge_ (w := w) hg; have n5_ := ge_ (w := w) hg; clear HO_3; clear HO_4; clear HB; have HO_3 := n0_; have HO_4 := n1_; have HB := n2_; have BK8 := n3_; have GW8 := n4_; have GE8 := n5_; clear n0_ n1_ n2_ n3_ n4_ n5_; clear hb hbox hg; obtain ⟨hcz12_0, hcz12_1, hcz12_2, hcz12_3, hfz12_0, hfz12_1, hfz12_2, hfz12_3⟩ := bc4_ BK8.out; obtain ⟨Ao13, co13, eo13⟩ := Kd.R_slice HO_3.out; subst eo13) | ((with_reducible refine gate_builtin (b := .append) (xs := #[.tmp 17, .tmp 20]) rfl ?_); at_builtin; refine Kd.R_append (Kd.int .i64) (w0 := w) w.heap.size rfl (.tmp 17) (.tmp 20) 47 3 (.int .i64 0) 8 rfl Try.underlying47 info3 rfl (by decide) (by omega) u4 x4_1 (x3_1.length : Int) [.int .i64 (x3_1.length : Int)] (fun _ => True) (fun _ => False) rfl (by first | (go_simp; done) | (go_simp; rfl)) ?aP (fun _ hk => hk.elim) ?aF ?aO ?aB ?aS ?aL ?_; (case aP => exact rfl); (case aB => exact bw_); (case aF => exact (fun _ _ => trivial)); (case aO => exact (by (with_reducible repeat (first | apply Kd.R_alloc | apply Kd.R_drewN | apply Kd.R_drew)); exact Kd.R_mono (Kd.R_far (p := ⟨gb8, 3, none⟩) (Kd.R_far (p := ⟨gb8, 2, none⟩) (Kd.R_far (p := ⟨gb8, 1, none⟩) (Kd.R_far (p := ⟨gb8, 0, none⟩) (Kd.R_types HO_4.out BK8.out (by decide)) (fun _ hk => hk.2) (.int .i64 ((rd_T50 l0 x13_1).f0))) (fun _ hk => hk.2) (.int .i64 ((rd_T50 l0 x13_1).f1))) (fun _ hk => hk.2) (.int .i64 ((rd_T50 l0 x13_1).f2))) (fun _ hk => hk.2) (.int .i64 ((rd_T50 l0 x13_1).f3))) (fun _ hk => trivial))); (case aS => exact (below_size bw_)); (case aL => have := LMc9.out; omega); intro v10 w14 ho hb hg hat; rw [← Ny9.out] at ho; have n0_ := am_ (Kd.R_over' (by (with_reducible repeat (first | apply Kd.R_alloc | apply Kd.R_drewN | apply Kd.R_drew)); exact (Kd.R_mono (Kd.R_far (p := ⟨gb8, 3, none⟩) (Kd.R_far (p := ⟨gb8, 2, none⟩) (Kd.R_far (p := ⟨gb8, 1, none⟩) (Kd.R_far (p := ⟨gb8, 0, none⟩) (Kd.R_mono HO_3.out (fun k_ hk => (⟨hk, hk.2⟩ : _ ∧ k_ ≠ gb8))) (fun _ hk => hk.2) (.int .i64 ((rd_T50 l0 x13_1).f0))) (fun _ hk => hk.2) (.int .i64 ((rd_T50 l0 x13_1).f1))) (fun _ hk => hk.2) (.int .i64 ((rd_T50 l0 x13_1).f2))) (fun _ hk => hk.2) (.int .i64 ((rd_T50 l0 x13_1).f3))) (fun _ h_ => h_.1))) (Kd.R_typed (by (with_reducible repeat (first | apply Kd.R_alloc | apply Kd.R_drewN | apply Kd.R_drew)); exact (Kd.R_mono (Kd.R_far (p := ⟨gb8, 3, none⟩) (Kd.R_far (p := ⟨gb8, 2, none⟩) (Kd.R_far (p := ⟨gb8, 1, none⟩) (Kd.R_far (p := ⟨gb8, 0, none⟩) (Kd.R_types HO_4.out BK8.out (by decide)) (fun _ hk => hk.2) (.int .i64 ((rd_T50 l0 x13_1).f0))) (fun _ hk => hk.2) (.int .i64 ((rd_T50 l0 x13_1).f1))) (fun _ hk => hk.2) (.int .i64 ((rd_T50 l0 x13_1).f2))) (fun _ hk => hk.2) (.int .i64 ((rd_T50 l0 x13_1).f3))) (fun _ h_ => h_.1)))) (by decide) hg); have n1_ := am_ (blk_grown (g := gb8) (o := .cells #[.int .i64 ((rd_T50 l0 x13_1).f0), .int .i64 ((rd_T50 l0 x13_1).f1), .int .i64 ((rd_T50 l0 x13_1).f2), .int .i64 ((rd_T50 l0 x13_1).f3)] 50 (0, 0)) (by (with_reducible repeat (first | refine blk_drewN ?_ _ | refine blk_drew ?_ | refine blk_alloc ?_ _)); refine blk_put (cs := #[.int .i64 ((rd_T50 l0 x13_1).f0), .int .i64 ((rd_T50 l0 x13_1).f1), .int .i64 ((rd_T50 l0 x13_1).f2), .int .i64 0]) ?_ 3 _ rfl; (with_reducible repeat (first | refine blk_drewN ?_ _ | refine blk_drew ?_ | refine blk_alloc ?_ _)); refine blk_put (cs := #[.int .i64 ((rd_T50 l0 x13_1).f0), .int .i64 ((rd_T50 l0 x13_1).f1), .int .i64 0, .int .i64 0]) ?_ 2 _ rfl; (with_reducible repeat (first | refine blk_drewN ?_ _ | refine blk_drew ?_ | refine blk_alloc ?_ _)); refine blk_put (cs := #[.int .i64 ((rd_T50 l0 x13_1).f0), .int .i64 0, .int .i64 0, .int .i64 0]) ?_ 1 _ rfl; (with_reducible repeat (first | refine blk_drewN ?_ _ | refine blk_drew ?_ | refine blk_alloc ?_ _)); refine blk_put (cs := #[.int .i64 0, .int .i64 0, .int .i64 0, .int .i64 0]) ?_ 0 _ rfl; exact bk_) hg (Kd.R_ne HO_4.out BK8.out (by decide))); have n2_ := am_ (hb); have n3_ := am_ (ho); clear HO_3; clear BK8; clear HB; clear HO_4; have HO_3 := n0_; have BK8 := n1_; have HB := n2_; have HO11 := n3_; clear n0_ n1_ n2_ n3_; clear ho hb hg hat; obtain ⟨hcz15_0, hcz15_1, hcz15_2, hcz15_3, hfz15_0, hfz15_1, hfz15_2, hfz15_3⟩ := bc4_ BK8.out))
     go_roundg k1
     case measure => have := HK1.out; omega
     case rel => exact ⟨(x3_1), (y9), (wrap64 (x13_1 + 1)), sd_, H', ⟨by have := HK1.out; omega⟩, ⟨by (with_reducible repeat (first | apply Kd.R_alloc | apply Kd.R_drewN | apply Kd.R_drew)); exact Kd.R_mono HO_3.out (fun _ hk => trivial)⟩, ⟨by (with_reducible repeat (first | apply Kd.R_alloc | apply Kd.R_drewN | apply Kd.R_drew)); exact HO11.out⟩, ⟨bw_⟩⟩
    rw [if_neg c10] at H
    have c10b0 : (((rd_T50 l0 x13_1).f0) == 4) = false := beq_eq_false_iff_ne.mpr c10
    have c10b1 : (((rd_T50 l0 x13_1).f0) != 4) = true := bne_iff_ne.mpr c10
    by_cases c16 : x3_1.length < 4398046511104
    rotate_left
    ·rw [if_neg c16] at H
     exact absurd H (by simp)
    rw [if_pos c16] at H
    have LMc16 := am_ c16
    clear c16
    obtain ⟨y12, hy12⟩ : ∃ y_ : List (S50), y_ = (x3_1 ++ [(⟨(rd_T50 l0 x13_1).f0, (rd_T50 l0 x13_1).f1, (rd_T50 l0 x13_1).f2, (rd_T50 l0 x13_1).f3⟩ : S50)]) := ⟨_, rfl⟩
    replace H : (impl_stripped.l0 k1 l0 y12 y9 (l0.length : Int) (wrap64 (x13_1 + 1))) = some r := rh_ hy12
    have Ny12 := am_ hy12
    clear hy12
    have H' := am_ H
    clear H
    have p7 : 0 ≤ (x13_1 : Int) := od_
    have q7 : x13_1 < (l0.length : Int) := od_
    obtain ⟨ad7, e7, hx7_0, hx7_1, hx7_2, hx7_3⟩ := at_T50 HR0.out x13_1 p7 q7
    cases e7
    replace hx7_0 := (HB.out.cell (World.block_lt_of_cell? w _ hx7_0)).trans hx7_0
    replace hx7_1 := (HB.out.cell (World.block_lt_of_cell? w _ hx7_1)).trans hx7_1
    replace hx7_2 := (HB.out.cell (World.block_lt_of_cell? w _ hx7_2)).trans hx7_2
    replace hx7_3 := (HB.out.cell (World.block_lt_of_cell? w _ hx7_3)).trans hx7_3
    replace p7 := eq_true p7
    replace q7 := eq_true q7
    go_wp2_with (first | ((with_reducible refine gate_dst (N := 6) rfl ?_); refine box_event ?hg (N := 6) ?hd (cs := #[.int .i64 0, .int .i64 0, .int .i64 0, .int .i64 0]) (t := 50) ?hr ?_; (case hd => rfl); (case hg => rfl); (case hr => exact hrr_); intro gb8 hg w17 hbox hb; have n0_ := am_ (Kd.R_below (Kd.R_elderB (rx_ HO_3.out) gb8 (Nat.le_of_eq hg.symm)) hb); have n1_ := am_ (Kd.R_below (rx_ HO_4.out) hb); have n2_ := bs_ hb; have n3_ := am_ (hbox); have n4_ := ge_ (w := w) hg; have n5_ := ge_ (w := w) hg; clear HO_3; clear HO_4; clear HB; have HO_3 := n0_; have HO_4 := n1_; have HB := n2_; have BK8 := n3_; have GW8 := n4_; have GE8 := n5_; clear n0_ n1_ n2_ n3_ n4_ n5_; clear hb hbox hg; obtain ⟨hcz18_0, hcz18_1, hcz18_2, hcz18_3, hfz18_0, hfz18_1, hfz18_2, hfz18_3⟩ := bc4_ BK8.out; obtain ⟨Ao19, co19, eo19⟩ := Kd.R_slice HO_3.out; subst eo19) | ((with_reducible refine gate_builtin (b := .append) (xs := #[.tmp 17, .tmp 20]) rfl ?_); at_builtin; refine Kd.R_append (Kd.int .i64) (w0 := w) w.heap.size rfl (.tmp 17) (.tmp 20) 47 3 (.int .i64 0) 8 rfl Try.underlying47 info3 rfl (by decide) (by omega) u4 x4_1 (x3_1.length : Int) [.int .i64 (x3_1.length : Int)] (fun _ => True) (fun _ => False) rfl (by first | (go_simp; done) | (go_simp; rfl)) ?aP (fun _ hk => hk.elim) ?aF ?aO ?aB ?aS ?aL ?_; (case aP => exact rfl); (case aB => exact bw_); (case aF => exact (fun _ _ => trivial)); (case aO => exact (by (with_reducible repeat (first | apply Kd.R_alloc | apply Kd.R_drewN | apply Kd.R_drew)); exact Kd.R_mono (Kd.R_far (p := ⟨gb8, 3, none⟩) (Kd.R_far (p := ⟨gb8, 2, none⟩) (Kd.R_far (p := ⟨gb8, 1, none⟩) (Kd.R_far (p := ⟨gb8, 0, none⟩) (Kd.R_types HO_4.out BK8.out (by decide)) (fun _ hk => hk.2) (.int .i64 ((rd_T50 l0 x13_1).f0))) (fun _ hk => hk.2) (.int .i64 ((rd_T50 l0 x13_1).f1))) (fun _ hk => hk.2) (.int .i64 ((rd_T50 l0 x13_1).f2))) (fun _ hk => hk.2) (.int .i64 ((rd_T50 l0 x13_1).f3))) (fun _ hk => trivial))); (case aS => exact (below_size bw_)); (case aL => have := LMc9.out; omega); intro v10 w20 ho hb hg hat; rw [← Ny9.out] at ho; have n0_ := am_ (Kd.R_over' (by (with_reducible repeat (first | apply Kd.R_alloc | apply Kd.R_drewN | apply Kd.R_drew)); exact (Kd.R_mono (Kd.R_far (p := ⟨gb8, 3, none⟩) (Kd.R_far (p := ⟨gb8, 2, none⟩) (Kd.R_far (p := ⟨gb8, 1, none⟩) (Kd.R_far (p := ⟨gb8, 0, none⟩) (Kd.R_mono HO_3.out (fun k_ hk => (⟨hk, hk.2⟩ : _ ∧ k_ ≠ gb8))) (fun _ hk => hk.2) (.int .i64 ((rd_T50 l0 x13_1).f0))) (fun _ hk => hk.2) (.int .i64 ((rd_T50 l0 x13_1).f1))) (fun _ hk => hk.2) (.int .i64 ((rd_T50 l0 x13_1).f2))) (fun _ hk => hk.2) (.int .i64 ((rd_T50 l0 x13_1).f3))) (fun _ h_ => h_.1))) (Kd.R_typed (by (with_reducible repeat (first | apply Kd.R_alloc | apply Kd.R_drewN | apply Kd.R_drew)); exact (Kd.R_mono (Kd.R_far (p := ⟨gb8, 3, none⟩) (Kd.R_far (p := ⟨gb8, 2, none⟩) (Kd.R_far (p := ⟨gb8, 1, none⟩) (Kd.R_far (p := ⟨gb8, 0, none⟩) (Kd.R_types HO_4.out BK8.out (by decide)) (fun _ hk => hk.2) (.int .i64 ((rd_T50 l0 x13_1).f0))) (fun _ hk => hk.2) (.int .i64 ((rd_T50 l0 x13_1).f1))) (fun _ hk => hk.2) (.int .i64 ((rd_T50 l0 x13_1).f2))) (fun _ hk => hk.2) (.int .i64 ((rd_T50 l0 x13_1).f3))) (fun _ h_ => h_.1)))) (by decide) hg); have n1_ := am_ (blk_grown (g := gb8) (o := .cells #[.int .i64 ((rd_T50 l0 x13_1).f0), .int .i64 ((rd_T50 l0 x13_1).f1), .int .i64 ((rd_T50 l0 x13_1).f2), .int .i64 ((rd_T50 l0 x13_1).f3)] 50 (0, 0)) (by (with_reducible repeat (first | refine blk_drewN ?_ _ | refine blk_drew ?_ | refine blk_alloc ?_ _)); refine blk_put (cs := #[.int .i64 ((rd_T50 l0 x13_1).f0), .int .i64 ((rd_T50 l0 x13_1).f1), .int .i64 ((rd_T50 l0 x13_1).f2), .int .i64 0]) ?_ 3 _ rfl; (with_reducible repeat (first | refine blk_drewN ?_ _ | refine blk_drew ?_ | refine blk_alloc ?_ _)); refine blk_put (cs := #[.int .i64 ((rd_T50 l0 x13_1).f0), .int .i64 ((rd_T50 l0 x13_1).f1), .int .i64 0, .int .i64 0]) ?_ 2 _ rfl; (with_reducible repeat (first | refine blk_drewN ?_ _ | refine blk_drew ?_ | refine blk_alloc ?_ _)); refine blk_put (cs := #[.int .i64 ((rd_T50 l0 x13_1).f0), .int .i64 0, .int .i64 0, .int .i64 0]) ?_ 1 _ rfl; (with_reducible repeat (first | refine blk_drewN ?_ _ | refine blk_drew ?_ | refine blk_alloc ?_ _)); refine blk_put (cs := #[.int .i64 0, .int .i64 0, .int .i64 0, .int .i64 0]) ?_ 0 _ rfl; exact bk_) hg (Kd.R_ne HO_4.out BK8.out (by decide))); have n2_ := am_ (hb); have n3_ := am_ (ho); clear HO_3; clear BK8; clear HB; clear HO_4; have HO_3 := n0_; have BK8 := n1_; have HB := n2_; have HO11 := n3_; clear n0_ n1_ n2_ n3_; clear ho hb hg hat; obtain ⟨hcz21_0, hcz21_1, hcz21_2, hcz21_3, hfz21_0, hfz21_1, hfz21_2, hfz21_3⟩ := bc4_ BK8.out) | ((with_reducible refine gate_builtin (b := .append) (xs := #[.tmp 25, .tmp 27]) rfl ?_); at_builtin; refine Kd.R_append k50 (w0 := w) w.heap.size rfl (.tmp 25) (.tmp 27) 46 50 (.agg #[(.int .i64 0), (.int .i64 0), (.int .i64 0), (.int .i64 0)]) 32 rfl Try.underlying46 info50 rfl (by decide) (by omega) (.slice Ao19 x3_1.length co19) x3_1 (⟨(rd_T50 l0 x13_1).f0, (rd_T50 l0 x13_1).f1, (rd_T50 l0 x13_1).f2, (rd_T50 l0 x13_1).f3⟩ : S50) [.int .i64 ((rd_T50 l0 x13_1).f0), .int .i64 ((rd_T50 l0 x13_1).f1), .int .i64 ((rd_T50 l0 x13_1).f2), .int .i64 ((rd_T50 l0 x13_1).f3)] (fun k_ => k_ ≠ gb8) (fun _ => False) rfl rfl ?aP (fun _ hk => hk.elim) ?aF ?aO ?aB ?aS ?aL ?_; (case aP => exact k50_mkM _ _ _ (⟨(rd_T50 l0 x13_1).f0, (rd_T50 l0 x13_1).f1, (rd_T50 l0 x13_1).f2, (rd_T50 l0 x13_1).f3⟩ : S50)); (case aB => exact bw_); (case aF => exact (fun k_ hk => Kd.freshB (g := gb8) (o := .cells #[.int .i64 ((rd_T50 l0 x13_1).f0), .int .i64 ((rd_T50 l0 x13_1).f1), .int .i64 ((rd_T50 l0 x13_1).f2), .int .i64 ((rd_T50 l0 x13_1).f3)] 50 (0, 0)) bk_ k_ hk)); (case aO => exact (by (with_reducible repeat (first | apply Kd.R_alloc | apply Kd.R_drewN | apply Kd.R_drew)); exact Kd.R_mono HO_3.out (fun _ hk => hk.2))); (case aS => exact (below_size bw_)); (case aL => have := LMc16.out; omega); intro v13 w22 ho hb hg hat; rw [← Ny12.out] at ho; have n0_ := am_ (blk_grown (g := gb8) (o := .cells #[.int .i64 ((rd_T50 l0 x13_1).f0), .int .i64 ((rd_T50 l0 x13_1).f1), .int .i64 ((rd_T50 l0 x13_1).f2), .int .i64 ((rd_T50 l0 x13_1).f3)] 50 (0, 0)) bk_ hg (Kd.R_away HO_3.out (fun _ hk => hk.2))); have n1_ := am_ (Kd.R_over' (rx_ HO11.out) (Kd.R_typed (rx_ HO_3.out)) (by decide) hg); have n2_ := am_ (hb); have n3_ := am_ (ho); clear BK8; clear HO11; clear HB; clear HO_3; have BK8 := n0_; have HO11 := n1_; have HB := n2_; have HO14 := n3_; clear n0_ n1_ n2_ n3_; clear ho hb hg hat))
    go_roundg k1
    case measure => have := HK1.out; omega
    case rel => exact ⟨(y12), (y9), (wrap64 (x13_1 + 1)), sd_, H', ⟨by have := HK1.out; omega⟩, ⟨by (with_reducible repeat (first | apply Kd.R_alloc | apply Kd.R_drewN | apply Kd.R_drew)); exact Kd.R_mono HO14.out (fun _ hk => trivial)⟩, ⟨by (with_reducible repeat (first | apply Kd.R_alloc | apply Kd.R_drewN | apply Kd.R_drew)); exact HO11.out⟩, ⟨bw_⟩⟩
   rw [if_neg c6] at H
   have c6b0 : decide (x13_1 < (l0.length : Int)) = false := decide_eq_false c6
   clear c6
   by_cases c23 : x4_1.length < 17592186044416
   rotate_left
   ·rw [if_neg c23] at H
    exact absurd H (by simp)
   rw [if_pos c23] at H
   have LMc23 := am_ c23
   clear c23
   obtain ⟨y15, hy15⟩ : ∃ y_ : List Int, y_ = (x4_1 ++ [(x3_1.length : Int)]) := ⟨_, rfl⟩
   replace H : (impl_stripped.l1 k1 x3_1 y15 (x3_1.length : Int) 0) = some r := rh_ hy15
   have Ny15 := am_ hy15
   clear hy15
   have H' := am_ H
   clear H
   obtain ⟨Ao24, co24, eo24⟩ := Kd.R_slice HO_3.out
   subst eo24
   go_wp2_with (first | ((with_reducible refine gate_builtin (b := .append) (xs := #[.tmp 30, .tmp 33]) rfl ?_); at_builtin; refine Kd.R_append (Kd.int .i64) (w0 := w) w.heap.size rfl (.tmp 30) (.tmp 33) 47 3 (.int .i64 0) 8 rfl Try.underlying47 info3 rfl (by decide) (by omega) u4 x4_1 (x3_1.length : Int) [.int .i64 (x3_1.length : Int)] (fun _ => True) (fun _ => False) rfl rfl ?aP (fun _ hk => hk.elim) ?aF ?aO ?aB ?aS ?aL ?_; (case aP => exact rfl); (case aB => exact bw_); (case aF => exact (fun _ _ => trivial)); (case aO => exact (rx_ HO_4.out)); (case aS => exact (below_size bw_)); (case aL => have := LMc23.out; omega); intro v16 w25 ho hb hg hat; rw [← Ny15.out] at ho; have n0_ := am_ (Kd.R_over' (rx_ HO_3.out) (Kd.R_typed (rx_ HO_4.out)) (by decide) hg); have n1_ := am_ (hb); have n2_ := am_ (ho); clear HO_3; clear HB; clear HO_4; have HO_3 := n0_; have HB := n1_; have HO17 := n2_; clear n0_ n1_ n2_; clear ho hb hg hat))
   go_loopg [37] k1 (fun kq v37 w' => ∃ (x3_2 : List (S50)) (x37_2 : Int), v37 = .int .i64 x37_2 ∧ Aside0 (impl_stripped.l1 kq x3_2 y15 (x3_1.length : Int) x37_2 = some r) ∧ Aside0 (kq ≤ k1) ∧ Aside0 (Kd.R k50 50 w' w.heap.size (fun _ => True) (.slice Ao24 x3_1.length co24) x3_2) ∧ Aside0 (Kd.R (Kd.int .i64) 3 w' w.heap.size (fun _ => True) v16 y15) ∧ Aside0 (Below w.heap.size w w'))
   case atStart => exact ⟨(x3_1), (0), sd_, H', ⟨Nat.le_refl _⟩, ⟨by (with_reducible repeat (first | apply Kd.R_alloc | apply Kd.R_drewN | apply Kd.R_drew)); exact HO_3.out⟩, ⟨by (with_reducible repeat (first | apply Kd.R_alloc | apply Kd.R_drewN | apply Kd.R_drew)); exact HO17.out⟩, ⟨bw_⟩⟩
   case round =>
    clear H'
    try clear c6
    try clear c6b0
    try clear c7
    try clear c7b0
    try clear p7
    try clear q7
    try clear c8
    try clear c8b0
    try clear c9
    try clear c10
    try clear c10b0
    try clear c10b1
    try clear c16
    try clear c23
    try clear hcz12_0 hcz12_1 hcz12_2 hcz12_3
    try clear hcz15_0 hcz15_1 hcz15_2 hcz15_3
    try clear hcz18_0 hcz18_1 hcz18_2 hcz18_3
    try clear hcz21_0 hcz21_1 hcz21_2 hcz21_3
    try clear hfz12_0 hfz12_1 hfz12_2 hfz12_3
    try clear hfz15_0 hfz15_1 hfz15_2 hfz15_3
    try clear hfz18_0 hfz18_1 hfz18_2 hfz18_3
    try clear hfz21_0 hfz21_1 hfz21_2 hfz21_3
    try clear hx7_0
    try clear hx7_1
    try clear hx7_2
    try clear hx7_3
    try clear p7
    try clear q7
    obtain ⟨x3_2, x37_2, rfl, HA, HK2, HO_3, HO_4, HB⟩ := hrel
    have hl3_2 := (Kd.R_reads' HO_3.out).1
    rw [hl3_2] at HO_3
    (try simp only [hl3_2])
    (try simp only [hl3_2] at HO_4)
    cases gk with
    | zero => exact absurd HA.out (by simp [impl_stripped.l1])
    | succ k2 =>
     have H := HA.out
     clear HA
     simp only [impl_stripped.l1] at H
     by_cases c26 : x37_2 < (x3_1.length : Int)
     rotate_left
     ·rw [if_neg c26] at H
      have c26b0 : decide (x37_2 < (x3_1.length : Int)) = false := decide_eq_false c26
      (try rw [hl3_2] at c26b0)
      clear c26
      obtain rfl := Option.some.inj H
      go_wp2
      go_ret
      exact ⟨_, rr_, by (with_reducible repeat (first | apply Kd.R_alloc | apply Kd.R_drewN | apply Kd.R_drew)); exact HO_3.out, bw_⟩
     rw [if_pos c26] at H
     have c26b0 : decide (x37_2 < (x3_1.length : Int)) = true := decide_eq_true c26
     clear c26
     by_cases c27 : 0 ≤ x37_2
     rotate_left
     ·rw [if_neg c27] at H
      exact absurd H (by simp)
     rw [if_pos c27] at H
     have c27b0 : decide (0 ≤ x37_2) = true := decide_eq_true c27
     clear c27
     by_cases c28 : x37_2 < (x3_2.length : Int)
     rotate_left
     ·rw [if_neg c28] at H
      exact absurd H (by simp)
     rw [if_pos c28] at H
     have c28b0 : decide (x37_2 < (x3_2.length : Int)) = true := decide_eq_true c28
     clear c28
     by_cases c29 : ((rd_T50 x3_2 x37_2).f0) = 6
     rotate_left
     ·rw [if_neg c29] at H
      have c29b0 : (((rd_T50 x3_2 x37_2).f0) == 6) = false := beq_eq_false_iff_ne.mpr c29
      have c29b1 : (((rd_T50 x3_2 x37_2).f0) != 6) = true := bne_iff_ne.mpr c29
      have H' := am_ H
      clear H
      have p18 : 0 ≤ (x37_2 : Int) := od_
      have q18 : x37_2 < (x3_2.length : Int) := od_
      obtain ⟨ad18, e18, hx18_0, hx18_1, hx18_2, hx18_3⟩ := at_T50 (Kd.R_reads' HO_3.out).2.2 x37_2 p18 q18
      cases e18
      replace p18 := eq_true p18
      replace q18 := eq_true q18
      go_wp2_with (first | ((with_reducible refine gate_dst (N := 8) rfl ?_); refine box_event ?hg (N := 8) ?hd (cs := #[.int .i64 0, .int .i64 0, .int .i64 0, .int .i64 0]) (t := 50) ?hr ?_; (case hd => rfl); (case hg => rfl); (case hr => exact hrr_); intro gb19 hg w40 hbox hb; have n0_ := am_ (Kd.R_below (Kd.R_elderB (rx_ HO_3.out) gb19 (Nat.le_of_eq hg.symm)) hb); have n1_ := am_ (Kd.R_below (rx_ HO_4.out) hb); have n2_ := bs_ hb; have n3_ := am_ (hbox); have n4_ := ge_ (w := w) hg; have n5_ := ge_ (w := w) hg; clear HO_3; clear HO_4; clear HB; have HO_3 := n0_; have HO_4 := n1_; have HB := n2_; have BK19 := n3_; have GW19 := n4_; have GE19 := n5_; clear n0_ n1_ n2_ n3_ n4_ n5_; clear hb hbox hg; obtain ⟨hcz41_0, hcz41_1, hcz41_2, hcz41_3, hfz41_0, hfz41_1, hfz41_2, hfz41_3⟩ := bc4_ BK19.out))
      (try simp only [← hl3_2])
      go_roundg k2
      case measure => have := HK1.out; have := HK2.out; omega
      case rel => exact ⟨(x3_2), (wrap64 (x37_2 + 1)), sd_, H', ⟨by have := HK1.out; have := HK2.out; omega⟩, ⟨by (try simp only [hl3_2]); (with_reducible repeat (first | apply Kd.R_alloc | apply Kd.R_drewN | apply Kd.R_drew)); exact Kd.R_mono (Kd.R_far (p := ⟨gb19, 3, none⟩) (Kd.R_far (p := ⟨gb19, 2, none⟩) (Kd.R_far (p := ⟨gb19, 1, none⟩) (Kd.R_far (p := ⟨gb19, 0, none⟩) (Kd.R_mono HO_3.out (fun k_ hk => (⟨hk, hk.2⟩ : _ ∧ k_ ≠ gb19))) (fun _ hk => hk.2) (.int .i64 ((rd_T50 x3_2 x37_2).f0))) (fun _ hk => hk.2) (.int .i64 ((rd_T50 x3_2 x37_2).f1))) (fun _ hk => hk.2) (.int .i64 ((rd_T50 x3_2 x37_2).f2))) (fun _ hk => hk.2) (.int .i64 ((rd_T50 x3_2 x37_2).f3))) (fun _ hk => trivial)⟩, ⟨by (try simp only [hl3_2]); (with_reducible repeat (first | apply Kd.R_alloc | apply Kd.R_drewN | apply Kd.R_drew)); exact Kd.R_mono (Kd.R_far (p := ⟨gb19, 3, none⟩) (Kd.R_far (p := ⟨gb19, 2, none⟩) (Kd.R_far (p := ⟨gb19, 1, none⟩) (Kd.R_far (p := ⟨gb19, 0, none⟩) (Kd.R_types HO_4.out BK19.out (by decide)) (fun _ hk => hk.2) (.int .i64 ((rd_T50 x3_2 x37_2).f0))) (fun _ hk => hk.2) (.int .i64 ((rd_T50 x3_2 x37_2).f1))) (fun _ hk => hk.2) (.int .i64 ((rd_T50 x3_2 x37_2).f2))) (fun _ hk => hk.2) (.int .i64 ((rd_T50 x3_2 x37_2).f3))) (fun _ hk => trivial)⟩, ⟨bw_⟩⟩
     rw [if_pos c29] at H
     have c29b0 : (((rd_T50 x3_2 x37_2).f0) == 6) = true := beq_iff_eq.mpr c29
     have c29b1 : (((rd_T50 x3_2 x37_2).f0) != 6) = false := bne_eq_false_iff_eq.mpr c29
     clear c29
     by_cases c30 : 0 ≤ ((rd_T50 x3_2 x37_2).f3)
     rotate_left
     ·rw [if_neg c30] at H
      exact absurd H (by simp)
     rw [if_pos c30] at H
     have c30b0 : decide (0 ≤ ((rd_T50 x3_2 x37_2).f3)) = true := decide_eq_true c30
     clear c30
     by_cases c31 : ((rd_T50 x3_2 x37_2).f3) < (y15.length : Int)
     rotate_left
     ·rw [if_neg c31] at H
      exact absurd H (by simp)
     rw [if_pos c31] at H
     have c31b0 : decide (((rd_T50 x3_2 x37_2).f3) < (y15.length : Int)) = true := decide_eq_true c31
     clear c31
     obtain ⟨y21, hy21⟩ : ∃ y_ : List (S50), y_ = (x3_2.set (x37_2 : Int).toNat (⟨(rd_T50 x3_2 x37_2).f0, (rd_T50 x3_2 x37_2).f1, (rd_T50 x3_2 x37_2).f2, rd y15 ((rd_T50 x3_2 x37_2).f3)⟩ : S50)) := ⟨_, rfl⟩
     replace H : (impl_stripped.l1 k2 y21 y15 (x3_1.length : Int) (wrap64 (x37_2 + 1))) = some r := rh_ hy21
     have Ny21 := am_ hy21
     clear hy21
     have H' := am_ H
     clear H
     have p18 : 0 ≤ (x37_2 : Int) := od_
     have q18 : x37_2 < (x3_2.length : Int) := od_
     obtain ⟨ad18, e18, hx18_0, hx18_1, hx18_2, hx18_3⟩ := at_T50 (Kd.R_reads' HO_3.out).2.2 x37_2 p18 q18
     cases e18
     replace p18 := eq_true p18
     replace q18 := eq_true q18
     go_wp2_with (first | ((with_reducible refine gate_dst (N := 8) rfl ?_); refine box_event ?hg (N := 8) ?hd (cs := #[.int .i64 0, .int .i64 0, .int .i64 0, .int .i64 0]) (t := 50) ?hr ?_; (case hd => rfl); (case hg => rfl); (case hr => exact hrr_); intro gb19 hg w33 hbox hb; have n0_ := am_ (Kd.R_below (Kd.R_elderB (rx_ HO_3.out) gb19 (Nat.le_of_eq hg.symm)) hb); have n1_ := am_ (Kd.R_below (rx_ HO_4.out) hb); have n2_ := bs_ hb; have n3_ := am_ (hbox); have n4_ := ge_ (w := w) hg; have n5_ := ge_ (w := w) hg; clear HO_3; clear HO_4; clear HB; have HO_3 := n0_; have HO_4 := n1_; have HB := n2_; have BK19 := n3_; have GW19 := n4_; have GE19 := n5_; clear n0_ n1_ n2_ n3_ n4_ n5_; clear hb hbox hg; obtain ⟨hcz34_0, hcz34_1, hcz34_2, hcz34_3, hfz34_0, hfz34_1, hfz34_2, hfz34_3⟩ := bc4_ BK19.out) | ((with_reducible refine gate_store (t := 50) (p := 8) rfl ?_); refine store_event (t := 50) (p := 8) (v := ?vo_w35) (w1 := ((((w33.setCell ⟨gb19, 0, none⟩ (.int .i64 ((rd_T50 x3_2 x37_2).f0))).setCell ⟨gb19, 1, none⟩ (.int .i64 ((rd_T50 x3_2 x37_2).f1))).setCell ⟨gb19, 2, none⟩ (.int .i64 ((rd_T50 x3_2 x37_2).f2))).setCell ⟨gb19, 3, none⟩ (.int .i64 ((rd_T50 x3_2 x37_2).f3)))) ?hg ?ho ?hn ?hr ?_; (case ho => rfl); (case hg => rfl); (case hn => rfl); (case hr => first | (go_simp; done) | (go_simp; rfl)); intro w35 hw; have n0_ : Aside0 (Kd.R k50 50 w35 w.heap.size (fun k_ => k_ ≠ gb19) (.slice (some ad18) x3_2.length co24) x3_2) := ⟨(by rw [hw]; exact (by (with_reducible repeat (first | apply Kd.R_alloc | apply Kd.R_drewN | apply Kd.R_drew)); exact Kd.R_mono (Kd.R_far (p := ⟨gb19, 3, none⟩) (Kd.R_far (p := ⟨gb19, 2, none⟩) (Kd.R_far (p := ⟨gb19, 1, none⟩) (Kd.R_far (p := ⟨gb19, 0, none⟩) (Kd.R_mono HO_3.out (fun k_ hk => (⟨hk, hk.2⟩ : _ ∧ k_ ≠ gb19))) (fun _ hk => hk.2) (.int .i64 ((rd_T50 x3_2 x37_2).f0))) (fun _ hk => hk.2) (.int .i64 ((rd_T50 x3_2 x37_2).f1))) (fun _ hk => hk.2) (.int .i64 ((rd_T50 x3_2 x37_2).f2))) (fun _ hk => hk.2) (.int .i64 ((rd_T50 x3_2 x37_2).f3))) (fun _ hk => hk.1.2)))⟩; have n1_ : Aside0 (Kd.R (Kd.int .i64) 3 w35 w.heap.size (fun _ => True) v16 y15) := ⟨(by rw [hw]; exact (by (with_reducible repeat (first | apply Kd.R_alloc | apply Kd.R_drewN | apply Kd.R_drew)); exact Kd.R_mono (Kd.R_far (p := ⟨gb19, 3, none⟩) (Kd.R_far (p := ⟨gb19, 2, none⟩) (Kd.R_far (p := ⟨gb19, 1, none⟩) (Kd.R_far (p := ⟨gb19, 0, none⟩) (Kd.R_types HO_4.out BK19.out (by decide)) (fun _ hk => hk.2) (.int .i64 ((rd_T50 x3_2 x37_2).f0))) (fun _ hk => hk.2) (.int .i64 ((rd_T50 x3_2 x37_2).f1))) (fun _ hk => hk.2) (.int .i64 ((rd_T50 x3_2 x37_2).f2))) (fun _ hk => hk.2) (.int .i64 ((rd_T50 x3_2 x37_2).f3))) (fun _ hk => trivial)))⟩; have n2_ : Aside0 (w35.heap[gb19]? = some (.cells #[.int .i64 ((rd_T50 x3_2 x37_2).f0), .int .i64 ((rd_T50 x3_2 x37_2).f1), .int .i64 ((rd_T50 x3_2 x37_2).f2), .int .i64 ((rd_T50 x3_2 x37_2).f3)] 50 (0, 0))) := ⟨(by rw [hw]; exact (by (with_reducible repeat (first | refine blk_drewN ?_ _ | refine blk_drew ?_ | refine blk_alloc ?_ _)); refine blk_put (cs := #[.int .i64 ((rd_T50 x3_2 x37_2).f0), .int .i64 ((rd_T50 x3_2 x37_2).f1), .int .i64 ((rd_T50 x3_2 x37_2).f2), .int .i64 0]) ?_ 3 _ rfl; (with_reducible repeat (first | refine blk_drewN ?_ _ | refine blk_drew ?_ | refine blk_alloc ?_ _)); refine blk_put (cs := #[.int .i64 ((rd_T50 x3_2 x37_2).f0), .int .i64 ((rd_T50 x3_2 x37_2).f1), .int .i64 0, .int .i64 0]) ?_ 2 _ rfl; (with_reducible repeat (first | refine blk_drewN ?_ _ | refine blk_drew ?_ | refine blk_alloc ?_ _)); refine blk_put (cs := #[.int .i64 ((rd_T50 x3_2 x37_2).f0), .int .i64 0, .int .i64 0, .int .i64 0]) ?_ 1 _ rfl; (with_reducible repeat (first | refine blk_drewN ?_ _ | refine blk_drew ?_ | refine blk_alloc ?_ _)); refine blk_put (cs := #[.int .i64 0, .int .i64 0, .int .i64 0, .int .i64 0]) ?_ 0 _ rfl; exact bk_))⟩; have n3_ : Aside0 (Below w.heap.size w w35) := ⟨(by rw [hw]; exact bw_)⟩; clear hw; clear HO_3; clear HO_4; clear BK19; clear HB; have HO_3 := n0_; have HO_4 := n1_; have BK19 := n2_; have HB := n3_; clear n0_ n1_ n2_ n3_; obtain ⟨hcz36_0, hcz36_1, hcz36_2, hcz36_3, hfz36_0, hfz36_1, hfz36_2, hfz36_3⟩ := bc4_ BK19.out; obtain ⟨Ao37, co37, eo37⟩ := Kd.R_slice HO_4.out; subst eo37; have p20 : 0 ≤ (((rd_T50 x3_2 x37_2).f3) : Int) := od_; have q20 : ((rd_T50 x3_2 x37_2).f3) < (y15.length : Int) := od_; obtain ⟨ad20, e20, hx20_0⟩ := Kd.at_int (Kd.R_reads' HO_4.out).2.2 ((rd_T50 x3_2 x37_2).f3) p20 q20; cases e20; replace p20 := eq_true p20; replace q20 := eq_true q20; have p32 : 0 ≤ (x37_2 : Int) := od_; have q32 : (x37_2 : Int) < ((x3_2.length : Int) : Int) := od_; obtain ⟨go32, co32, eo32, gb32, gl32, cl32, HG32⟩ := Kd.R_form HO_3.out (by omega); (first | cases eo32 | (injection eo32 with ea_ en_ ec_; (first | subst ea_ | (injection ea_ with ea_; subst ea_)); subst ec_; clear en_)); have GB32 := am_ gb32; have GG32 := am_ HG32; clear gb32 gl32 HG32; (first | simp only [add_plain] at hx18_0 | skip); (first | simp only [add_plain] at hx18_1 | skip); (first | simp only [add_plain] at hx18_2 | skip); (first | simp only [add_plain] at hx18_3 | skip); obtain ⟨ce32, hcl32, hM32, hcc32, hfr32⟩ := Kd.R_elem HO_3.out z50 (x37_2 : Int) p32 q32; obtain rfl := k50_openM hM32; have hx32_0 : w35.cell? ⟨go32, (x37_2 : Int).toNat * 4, none⟩ = some (.int .i64 ((rd_T50 x3_2 x37_2).f0)) := hcc32 0 _ rfl; have hx32_1 : w35.cell? ⟨go32, (x37_2 : Int).toNat * 4 + 1, none⟩ = some (.int .i64 ((rd_T50 x3_2 x37_2).f1)) := hcc32 1 _ rfl; have hx32_2 : w35.cell? ⟨go32, (x37_2 : Int).toNat * 4 + 2, none⟩ = some (.int .i64 ((rd_T50 x3_2 x37_2).f2)) := hcc32 2 _ rfl; have hx32_3 : w35.cell? ⟨go32, (x37_2 : Int).toNat * 4 + 3, none⟩ = some (.int .i64 ((rd_T50 x3_2 x37_2).f3)) := hcc32 3 _ rfl; have hf32_0 : w35.frozen? ⟨go32, (x37_2 : Int).toNat * 4, none⟩ = false := hfr32 0; have hf32_1 : w35.frozen? ⟨go32, (x37_2 : Int).toNat * 4 + 1, none⟩ = false := hfr32 1; have hf32_2 : w35.frozen? ⟨go32, (x37_2 : Int).toNat * 4 + 2, none⟩ = false := hfr32 2; have hf32_3 : w35.frozen? ⟨go32, (x37_2 : Int).toNat * 4 + 3, none⟩ = false := hfr32 3; (try clear hcl32); (try clear hcc32); (try clear hfr32); (try clear hM32); replace p32 := eq_true p32; replace q32 := eq_true q32; have HX38 := am_ (show Kd.R k50 50 w35 w.heap.size (fun k_ => k_ ≠ gb19) (.slice (some ⟨go32, 0, none⟩) x3_2.length co24) x3_2 from (rx_ HO_3.out)); obtain ⟨ce38, hcl38, hM38, hcc38, hfr38⟩ := Kd.R_elem HX38.out z50 (x37_2 : Int) (od_) (by have h_ : (x37_2 : Int) < ((x3_2.length : Int) : Int) := od_; first | exact h_ | (have e_ := (Kd.R_reads' HO_3.out).1; omega) | simpa using h_); obtain rfl := k50_openM hM38; have HP38 := Kd.R_seg HX38.out (x37_2 : Int) (od_) (by have h_ : (x37_2 : Int) < ((x3_2.length : Int) : Int) := od_; first | exact h_ | (have e_ := (Kd.R_reads' HO_3.out).1; omega) | simpa using h_) (seg := [.int .i64 (rd y15 ((rd_T50 x3_2 x37_2).f3))]) (j := 3) hcl38 hcc38 (show 4 ≤ 4 from by decide) (x' := (⟨(rd_T50 x3_2 x37_2).f0, (rd_T50 x3_2 x37_2).f1, (rd_T50 x3_2 x37_2).f2, rd y15 ((rd_T50 x3_2 x37_2).f3)⟩ : S50)) (k50_mkM _ _ _ (⟨(rd_T50 x3_2 x37_2).f0, (rd_T50 x3_2 x37_2).f1, (rd_T50 x3_2 x37_2).f2, rd y15 ((rd_T50 x3_2 x37_2).f3)⟩ : S50) ) (fun _ hk => hk); have hx38_3 := hcc38 3 _ rfl; (try simp only [show (k50).sz = 4 from rfl, Nat.mul_one, Nat.add_zero] at hx38_3); have hf38_3 := hfr38 3; (try simp only [show (k50).sz = 4 from rfl, Nat.mul_one, Nat.add_zero] at hf38_3); (try clear hcl38); (try clear hcc38); (try clear hfr38); (try clear hM38)) | ((with_reducible refine gate_store (t := 3) (p := 53) rfl ?_); refine store_event (t := 3) (p := 53) (v := ?vo_w39) (w1 := (w35.setCell ⟨go32, (x37_2 : Int).toNat * 4 + 3, none⟩ (.int .i64 (rd y15 ((rd_T50 x3_2 x37_2).f3))))) ?hg ?ho ?hn ?hr ?_; (case ho => rfl); (case hg => rfl); (case hn => rfl); (case hr => first | (go_simp; done) | (go_simp; rfl)); intro w39 hw; have hg : w35.grownBy w39 (some go32) := (by rw [hw]; exact HP38.2); have hp_ : Kd.R k50 50 w39 w.heap.size (fun k_ => k_ ≠ gb19) (.slice (some ⟨go32, 0, none⟩) x3_2.length co24) y21 := (by rw [hw, Ny21.out]; exact HP38.1); clear HP38; have n0_ := am_ (hp_); have n1_ := am_ (Kd.R_over' (v := (.slice (some ⟨go32, 0, none⟩) x3_2.length co24)) (rx_ HO_4.out) (Kd.R_typed HO_3.out) (by decide) hg); have n2_ := am_ (blk_grown (g := gb19) (o := .cells #[.int .i64 ((rd_T50 x3_2 x37_2).f0), .int .i64 ((rd_T50 x3_2 x37_2).f1), .int .i64 ((rd_T50 x3_2 x37_2).f2), .int .i64 ((rd_T50 x3_2 x37_2).f3)] 50 (0, 0)) bk_ hg (Kd.R_away HO_3.out (fun _ hk => hk))); have n3_ := am_ ((by rw [hw]; exact below_set (HB.out) GB32.out : Below w.heap.size w w39)); clear HO_3; clear HO_4; clear BK19; clear HB; have HO_3 := n0_; have HO_4 := n1_; have BK19 := n2_; have HB := n3_; clear n0_ n1_ n2_ n3_; clear hg hw hp_))
     (try simp only [← hl3_2])
     go_roundg k2
     case measure => have := HK1.out; have := HK2.out; omega
     case rel => exact ⟨(y21), (wrap64 (x37_2 + 1)), sd_, H', ⟨by have := HK1.out; have := HK2.out; omega⟩, ⟨by (try simp only [hl3_2]); (with_reducible repeat (first | apply Kd.R_alloc | apply Kd.R_drewN | apply Kd.R_drew)); exact Kd.R_mono HO_3.out (fun _ hk => trivial)⟩, ⟨by (try simp only [hl3_2]); (with_reducible repeat (first | apply Kd.R_alloc | apply Kd.R_drewN | apply Kd.R_drew)); exact HO_4.out⟩, ⟨bw_⟩⟩

end Go.Proofs.Ytbgclnjnngolmaa.P
