-- Written by mp.py (the session's own driver over the kit's printer) for the seat YtbgclnjnngolmaaDoor.
import Derived.Test.YtbgclnjnngolmaaDoorK
import Derived.Test.YtbgclnjnngolmaaDoorE
import Derived.Test.YtbgclnjnngolmaaDoorPimplisBareStore
import Derived.Test.YtbgclnjnngolmaaDoorPimplwithin
import Derived.Test.YtbgclnjnngolmaaDoorBare
namespace Go.Proofs.YtbgclnjnngolmaaDoor.P
open Go.RowKit Go.Proofs.YtbgclnjnngolmaaDoorW.PrintWords Go.Proofs.YtbgclnjnngolmaaDoorW.PrintLast Go.Proofs.YtbgclnjnngolmaaDoorW.PrintMore
attribute [local go_sem] max2_int min2_int max_two min_two max_three min_three max_four min_four
set_option linter.unusedVariables false
set_option linter.unusedSimpArgs false

/-! ### impl_fenced: function 24 -/
mutual
def impl_fenced.l0 : Nat → List (S37) → List (S37) → List (S37) → List Int → Int → Int → Option ((List (S37)) × Bool)
 | 0, _, _, _, _, _, _ => none
 | k + 1, x0, x1, x6, x7, x15, x16 => if x16 < x15 then (if 0 ≤ x16 then (if x16 < (x0.length : Int) then (if x7.length < 17592186044416 then ((some (x7 ++ [(x6.length : Int)] : List Int)).bind fun y9 => (if x6.length < 4398046511104 then ((some (x6 ++ [(⟨(rd_T37 x0 x16).f0, (rd_T37 x0 x16).f1, (rd_T37 x0 x16).f2, (rd_T37 x0 x16).f3⟩ : S37)] : List (S37))).bind fun y12 => ((impl_isBareStore.f x1 x16).bind fun t15 => (if t15 = true then (if y12.length < 4398046511104 then (impl_fenced.l0 k x0 x1 (y12 ++ [(⟨4, 0, 0, 0⟩ : S37)]) y9 x15 (wrap64 (x16 + 1))) else (none)) else (impl_fenced.l0 k x0 x1 y12 y9 x15 (wrap64 (x16 + 1)))))) else (none))) else (none)) else (none)) else (none)) else (if x7.length < 17592186044416 then (impl_fenced.l1 k x0 x6 (x7 ++ [(x6.length : Int)]) (x6.length : Int) 0) else (none))
def impl_fenced.l1 : Nat → List (S37) → List (S37) → List Int → Int → Int → Option ((List (S37)) × Bool)
 | 0, _, _, _, _, _ => none
 | k + 1, x0, x6, x7, x44, x45 => if x45 < x44 then (if 0 ≤ x45 then (if x45 < (x6.length : Int) then (if ((rd_T37 x6 x45).f0) = 6 then ((impl_within.f ((rd_T37 x6 x45).f3) 0 (x0.length : Int)).bind fun t24 => (if t24 = true then (if 0 ≤ ((rd_T37 x6 x45).f3) then (if ((rd_T37 x6 x45).f3) < (x7.length : Int) then (impl_fenced.l1 k x0 (x6.set (x45 : Int).toNat (⟨(rd_T37 x6 x45).f0, (rd_T37 x6 x45).f1, (rd_T37 x6 x45).f2, rd x7 ((rd_T37 x6 x45).f3)⟩ : S37)) x7 x44 (wrap64 (x45 + 1))) else (none)) else (none)) else (some (([] : List (S37)), false)))) else (impl_fenced.l1 k x0 x6 x7 x44 (wrap64 (x45 + 1)))) else (none)) else (none)) else (if (x6.length : Int) > 16 then (some (([] : List (S37)), false)) else (some (x6, true)))
end
def impl_fenced.f (k : Nat) (l0 : List (S37)) (l1 : List (S37)) : Option ((List (S37)) × Bool) := impl_fenced.l0 k l0 l1 (([] : List (S37))) (([] : List Int)) (l0.length : Int) 0
theorem impl_fenced.mono_l : ∀ k, (∀ y0 y1 y2 y3 y4 y5, LeO (impl_fenced.l0 k y0 y1 y2 y3 y4 y5) (impl_fenced.l0 (k + 1) y0 y1 y2 y3 y4 y5)) ∧ (∀ y0 y1 y2 y3 y4, LeO (impl_fenced.l1 k y0 y1 y2 y3 y4) (impl_fenced.l1 (k + 1) y0 y1 y2 y3 y4))
 | 0 => ⟨fun _ _ _ _ _ _ r h => by simp [impl_fenced.l0] at h, fun _ _ _ _ _ r h => by simp [impl_fenced.l1] at h⟩
 | k + 1 => by
  obtain ⟨ih0, ih1⟩ := impl_fenced.mono_l k
  refine ⟨?_, ?_⟩
  ·intro y0 y1 y2 y3 y4 y5
   unfold impl_fenced.l0
   repeat' first | (with_reducible first | exact ih0 _ _ _ _ _ _ | exact ih1 _ _ _ _ _ | exact lr_ | exact ln_ | refine LeO.ite ?_ ?_ | refine LeO.bind ?_ (fun _ => ?_)) | exact ih0 _ _ _ _ _ _ | exact ih1 _ _ _ _ _ | exact ln_ | refine LeO.ite ?_ ?_ | refine LeO.bind ?_ (fun _ => ?_)
  ·intro y0 y1 y2 y3 y4
   unfold impl_fenced.l1
   repeat' first | (with_reducible first | exact ih0 _ _ _ _ _ _ | exact ih1 _ _ _ _ _ | exact lr_ | exact ln_ | refine LeO.ite ?_ ?_ | refine LeO.bind ?_ (fun _ => ?_)) | exact ih0 _ _ _ _ _ _ | exact ih1 _ _ _ _ _ | exact ln_ | refine LeO.ite ?_ ?_ | refine LeO.bind ?_ (fun _ => ?_)
theorem impl_fenced.mono : ∀ a0 a1 k, LeO (impl_fenced.f k a0 a1) (impl_fenced.f (k + 1) a0 a1) := by
 intro a0 a1 k
 obtain ⟨ih0, ih1⟩ := impl_fenced.mono_l k
 unfold impl_fenced.f
 repeat' first | (with_reducible first | exact ih0 _ _ _ _ _ _ | exact ih1 _ _ _ _ _ | exact lr_ | exact ln_ | refine LeO.ite ?_ ?_ | refine LeO.bind ?_ (fun _ => ?_)) | exact ih0 _ _ _ _ _ _ | exact ih1 _ _ _ _ _ | exact ln_ | refine LeO.ite ?_ ?_ | refine LeO.bind ?_ (fun _ => ?_)
set_option maxHeartbeats 8000000 in
set_option maxRecDepth 100000 in
theorem impl_fenced.calls (gq_ : Nat) (k : Nat) (A0 : Option Addr) (c0 : Nat) (l0 : List (S37)) (A1 : Option Addr) (c1 : Nat) (l1 : List (S37)) (r1 : List (S37)) (r2 : Bool) (w : World) (hr0 : Kd.C k37 w A0 l0.length l0) (hc0 : l0.length ≤ c0) (hr1 : Kd.C k37 w A1 l1.length l1) (hc1 : l1.length ≤ c1) (hg_ : w.heap[gq_]? = some (.cells #[.slice A1 l1.length c1] 31 (0, 0))) (h : impl_fenced.f k l0 l1 = some (r1, r2)) :
  Calls Tryd.prog 24 #[.slice A0 l0.length c0, .func (.func 25) #[] #[.pointer (some ⟨gq_, 0, none⟩)]] w fun e w' => ∃ v0_ : Value, e = .returned (.tuple #[v0_, .bool r2]) ∧ Kd.R k37 37 w' w.heap.size (fun _ => True) v0_ r1 ∧ Below w.heap.size w w' := by
 have HGQ := Aside0.mk hg_
 clear hg_
 have eg_ : ∀ args w, (callFunc 25 args).run Tryd.prog w = .ok (.enter 25 args) w := enters_of Tryd.func25 (by kernel_rfl) rfl
 have hu37 := Tryd.underlying37
 have HR0 := Aside0.mk hr0
 have HC0 := Aside0.mk hc0
 clear hr0 hc0
 have HR1 := Aside0.mk hr1
 have HC1 := Aside0.mk hc1
 clear hr1 hc1
 have HB := Aside0.mk (Below.refl w.heap.size w)
 have H : (impl_fenced.l0 k l0 l1 (([] : List (S37))) (([] : List Int)) (l0.length : Int) 0) = some (r1, r2) := h
 clear h
 obtain ⟨y1, hy1⟩ : ∃ y_ : List (S37), y_ = (([] : List (S37))) := ⟨_, rfl⟩
 replace H : (impl_fenced.l0 k l0 l1 y1 (([] : List Int)) (l0.length : Int) 0) = some (r1, r2) := by first | (rw [hy1]; with_reducible exact H) | (have H2_ := (Option.bind_some _ _).symm.trans H; rw [hy1]; with_reducible exact H2_) | (have H2_ := (Option.bind_some _ _).symm.trans H; with_reducible exact H2_) | with_reducible exact H | (rw [hy1]; exact H) | exact H
 have Ny1 := Aside0.mk hy1
 clear hy1
 obtain ⟨y4, hy4⟩ : ∃ y_ : List Int, y_ = (([] : List Int)) := ⟨_, rfl⟩
 replace H : (impl_fenced.l0 k l0 l1 y1 y4 (l0.length : Int) 0) = some (r1, r2) := by first | (rw [hy4]; with_reducible exact H) | (have H2_ := (Option.bind_some _ _).symm.trans H; rw [hy4]; with_reducible exact H2_) | (have H2_ := (Option.bind_some _ _).symm.trans H; with_reducible exact H2_) | with_reducible exact H | (rw [hy4]; exact H) | exact H
 have Ny4 := Aside0.mk hy4
 clear hy4
 have H' := Aside0.mk H
 clear H
 go_enter Tryd.func24, Tryd.ntmps24
 go_wp2_with (first | ((with_reducible refine gate_dst (N := 12) rfl ?_); refine Kd.R_lit k37 _ 37 ?hg (N := 12) ?hd (xs := ([] : List (S37))) (inner := []) (ok := fun _ => True) (okp := fun _ => True) ?hr ?hp (fun _ hk => hk) trivial (Below.refl _ _) (Nat.le_refl _) (by simp) ?_; (case hd => rfl); (case hg => rfl); (case hr => first | (go_simp; done) | (go_simp; rfl)); (case hp => exact (Reps.none _ _)); intro v2 w3 ho4 hb hg_ hnew_; clear hg_ hnew_; (first | rw [← Ny1.out] at ho4 | (simp only [Int.reduceToNat] at ho4; rw [← Ny1.out] at ho4)); have n0_ := Aside0.mk (Kd.R_lower ho4 (below_size bw_)); have n1_ := bs_ hb; clear HB; have HO3 := n0_; have HB := n1_; clear n0_ n1_; clear hb ho4) | ((with_reducible refine gate_dst (N := 13) rfl ?_); refine Kd.R_lit (Kd.int .i64) _ 3 ?hg (N := 13) ?hd (xs := ([] : List Int)) (inner := []) (ok := fun _ => True) (okp := fun _ => True) ?hr ?hp (fun _ hk => hk) trivial (Below.refl _ _) (Nat.le_refl _) (by simp) ?_; (case hd => rfl); (case hg => rfl); (case hr => first | (go_simp; done) | (go_simp; rfl)); (case hp => exact (Reps.none _ _)); intro v5 w5 ho6 hb hg_ hnew_; clear hg_ hnew_; (first | rw [← Ny4.out] at ho6 | (simp only [Int.reduceToNat] at ho6; rw [← Ny4.out] at ho6)); have n0_ := Aside0.mk (Kd.R_below (rx_ HO3.out) hb); have n1_ := Aside0.mk (Kd.R_lower ho6 (below_size bw_)); have n2_ := bs_ hb; clear HO3; clear HB; have HO3 := n0_; have HO6 := n1_; have HB := n2_; clear n0_ n1_ n2_; clear hb ho6))
 go_loopg [6, 7, 16] k (fun kq v6 v7 v16 w' => ∃ (x6_1 : List (S37)) (x7_1 : List Int) (x16_1 : Int), v16 = .int .i64 x16_1 ∧ Aside0 (impl_fenced.l0 kq l0 l1 x6_1 x7_1 (l0.length : Int) x16_1 = some (r1, r2)) ∧ Aside0 (kq ≤ k) ∧ Aside0 (Kd.R k37 37 w' w.heap.size (fun _ => True) v6 x6_1) ∧ Aside0 (Kd.R (Kd.int .i64) 3 w' w.heap.size (fun _ => True) v7 x7_1) ∧ Aside0 (Below w.heap.size w w'))
 case atStart => exact ⟨(y1), (y4), (0), sd_, H', ⟨Nat.le_refl _⟩, ⟨by (with_reducible repeat (first | apply Kd.R_alloc | apply Kd.R_drewN | apply Kd.R_drew)); exact HO3.out⟩, ⟨by (with_reducible repeat (first | apply Kd.R_alloc | apply Kd.R_drewN | apply Kd.R_drew)); exact HO6.out⟩, ⟨bw_⟩⟩
 case round =>
  clear H'
  try clear c1
  try clear c2
  try clear p2
  obtain ⟨x6_1, x7_1, x16_1, rfl, HA, HK1, HO_6, HO_7, HB⟩ := hrel
  cases gk with
  | zero => exact absurd HA.out (by simp [impl_fenced.l0])
  | succ k1 =>
   have H := HA.out
   clear HA
   simp only [impl_fenced.l0] at H
   by_cases c7 : x16_1 < (l0.length : Int)
   ·rw [if_pos c7] at H
    have c7b0 : decide (x16_1 < (l0.length : Int)) = true := decide_eq_true c7
    clear c7
    by_cases c8 : 0 ≤ x16_1
    rotate_left
    ·rw [if_neg c8] at H
     exact absurd H (by simp)
    rw [if_pos c8] at H
    have c8b0 : decide (0 ≤ x16_1) = true := decide_eq_true c8
    clear c8
    by_cases c9 : x16_1 < (l0.length : Int)
    rotate_left
    ·rw [if_neg c9] at H
     exact absurd H (by simp)
    rw [if_pos c9] at H
    have c9b0 : decide (x16_1 < (l0.length : Int)) = true := decide_eq_true c9
    clear c9
    by_cases c10 : x7_1.length < 17592186044416
    rotate_left
    ·rw [if_neg c10] at H
     exact absurd H (by simp)
    rw [if_pos c10] at H
    have LMc10 := Aside0.mk c10
    clear c10
    obtain ⟨y9, hy9⟩ : ∃ y_ : List Int, y_ = (x7_1 ++ [(x6_1.length : Int)]) := ⟨_, rfl⟩
    replace H : (if x6_1.length < 4398046511104 then ((some (x6_1 ++ [(⟨(rd_T37 l0 x16_1).f0, (rd_T37 l0 x16_1).f1, (rd_T37 l0 x16_1).f2, (rd_T37 l0 x16_1).f3⟩ : S37)] : List (S37))).bind fun y12 => ((impl_isBareStore.f l1 x16_1).bind fun t15 => (if t15 = true then (if y12.length < 4398046511104 then (impl_fenced.l0 k1 l0 l1 (y12 ++ [(⟨4, 0, 0, 0⟩ : S37)]) y9 (l0.length : Int) (wrap64 (x16_1 + 1))) else (none)) else (impl_fenced.l0 k1 l0 l1 y12 y9 (l0.length : Int) (wrap64 (x16_1 + 1)))))) else (none)) = some (r1, r2) := by first | (rw [hy9]; with_reducible exact H) | (have H2_ := (Option.bind_some _ _).symm.trans H; rw [hy9]; with_reducible exact H2_) | (have H2_ := (Option.bind_some _ _).symm.trans H; with_reducible exact H2_) | with_reducible exact H | (rw [hy9]; exact H) | exact H
    have Ny9 := Aside0.mk hy9
    clear hy9
    by_cases c11 : x6_1.length < 4398046511104
    rotate_left
    ·rw [if_neg c11] at H
     exact absurd H (by simp)
    rw [if_pos c11] at H
    have LMc11 := Aside0.mk c11
    clear c11
    obtain ⟨y12, hy12⟩ : ∃ y_ : List (S37), y_ = (x6_1 ++ [(⟨(rd_T37 l0 x16_1).f0, (rd_T37 l0 x16_1).f1, (rd_T37 l0 x16_1).f2, (rd_T37 l0 x16_1).f3⟩ : S37)]) := ⟨_, rfl⟩
    replace H : ((impl_isBareStore.f l1 x16_1).bind fun t15 => (if t15 = true then (if y12.length < 4398046511104 then (impl_fenced.l0 k1 l0 l1 (y12 ++ [(⟨4, 0, 0, 0⟩ : S37)]) y9 (l0.length : Int) (wrap64 (x16_1 + 1))) else (none)) else (impl_fenced.l0 k1 l0 l1 y12 y9 (l0.length : Int) (wrap64 (x16_1 + 1))))) = some (r1, r2) := by first | (rw [hy12]; with_reducible exact H) | (have H2_ := (Option.bind_some _ _).symm.trans H; rw [hy12]; with_reducible exact H2_) | (have H2_ := (Option.bind_some _ _).symm.trans H; with_reducible exact H2_) | with_reducible exact H | (rw [hy12]; exact H) | exact H
    have Ny12 := Aside0.mk hy12
    clear hy12
    replace H := Option.bind_eq_some_iff.mp H
    obtain ⟨t15, A120, H⟩ := H
    replace H : (if t15 = true then (if y12.length < 4398046511104 then (impl_fenced.l0 k1 l0 l1 (y12 ++ [(⟨4, 0, 0, 0⟩ : S37)]) y9 (l0.length : Int) (wrap64 (x16_1 + 1))) else (none)) else (impl_fenced.l0 k1 l0 l1 y12 y9 (l0.length : Int) (wrap64 (x16_1 + 1)))) = some (r1, r2) := H
    have A12 := Aside0.mk A120
    clear A120
    by_cases c13 : t15 = true
    rotate_left
    ·replace c13 := Bool.eq_false_iff.mpr c13
     subst c13
     have H1 : (impl_fenced.l0 k1 l0 l1 y12 y9 (l0.length : Int) (wrap64 (x16_1 + 1))) = some (r1, r2) := by rw [if_neg (show ¬ (false = true) by decide)] at H; exact H
     clear H
     have H := H1
     clear H1
     have H' := Aside0.mk H
     clear H
     have p7 : 0 ≤ (x16_1 : Int) := od_
     have q7 : x16_1 < (l0.length : Int) := od_
     obtain ⟨ad7, e7, hx7_0, hx7_1, hx7_2, hx7_3⟩ := at_T37 HR0.out x16_1 p7 q7
     cases e7
     replace hx7_0 := (HB.out.cell (World.block_lt_of_cell? w _ hx7_0)).trans hx7_0
     replace hx7_1 := (HB.out.cell (World.block_lt_of_cell? w _ hx7_1)).trans hx7_1
     replace hx7_2 := (HB.out.cell (World.block_lt_of_cell? w _ hx7_2)).trans hx7_2
     replace hx7_3 := (HB.out.cell (World.block_lt_of_cell? w _ hx7_3)).trans hx7_3
     replace p7 := eq_true p7
     replace q7 := eq_true q7
     go_wp2_with (first | ((with_reducible refine gate_dst (N := 9) rfl ?_); refine box_event ?hg (N := 9) ?hd (cs := #[.int .i64 0, .int .i64 0, .int .i64 0, .int .i64 0]) (t := 37) ?hr ?_; (case hd => rfl); (case hg => rfl); (case hr => exact hrr_); intro gb8 hg w22 hbox hb; have n0_ := Aside0.mk (Kd.R_below (Kd.R_elderB (rx_ HO_6.out) gb8 (Nat.le_of_eq hg.symm)) hb); have n1_ := Aside0.mk (Kd.R_below (rx_ HO_7.out) hb); have n2_ := bs_ hb; have n3_ := Aside0.mk (hbox); have n4_ := ge_ (w := w) hg; have n5_ := ge_ (w := w) hg; clear HO_6; clear HO_7; clear HB; have HO_6 := n0_; have HO_7 := n1_; have HB := n2_; have BK8 := n3_; have GW8 := n4_; have GE8 := n5_; clear n0_ n1_ n2_ n3_ n4_ n5_; clear hb hbox hg; obtain ⟨hcz23_0, hcz23_1, hcz23_2, hcz23_3, hfz23_0, hfz23_1, hfz23_2, hfz23_3⟩ := bc4_ BK8.out; obtain ⟨Ao24, co24, eo24⟩ := Kd.R_slice HO_6.out; subst eo24) | ((with_reducible refine gate_builtin (b := .append) (xs := #[.tmp 21, .tmp 24]) rfl ?_); at_builtin; refine Kd.R_append (Kd.int .i64) (w0 := w) w.heap.size rfl (.tmp 21) (.tmp 24) 53 3 (.int .i64 0) 8 rfl Tryd.underlying53 info3 rfl (by decide) (by omega) u7 x7_1 (x6_1.length : Int) [.int .i64 (x6_1.length : Int)] (fun _ => True) (fun _ => False) rfl (by first | (go_simp; done) | (go_simp; rfl)) ?aP (fun _ hk => hk.elim) ?aF ?aO ?aB ?aS ?aL ?_; (case aP => exact rfl); (case aB => exact bw_); (case aF => exact (fun _ _ => trivial)); (case aO => exact (by (with_reducible repeat (first | apply Kd.R_alloc | apply Kd.R_drewN | apply Kd.R_drew)); exact Kd.R_mono (Kd.R_far (p := ⟨gb8, 3, none⟩) (Kd.R_far (p := ⟨gb8, 2, none⟩) (Kd.R_far (p := ⟨gb8, 1, none⟩) (Kd.R_far (p := ⟨gb8, 0, none⟩) (Kd.R_types HO_7.out BK8.out (by decide)) (fun _ hk => hk.2) (.int .i64 ((rd_T37 l0 x16_1).f0))) (fun _ hk => hk.2) (.int .i64 ((rd_T37 l0 x16_1).f1))) (fun _ hk => hk.2) (.int .i64 ((rd_T37 l0 x16_1).f2))) (fun _ hk => hk.2) (.int .i64 ((rd_T37 l0 x16_1).f3))) (fun _ hk => trivial))); (case aS => exact (below_size bw_)); (case aL => have := LMc10.out; omega); intro v10 w25 ho hb hg hat; rw [← Ny9.out] at ho; have n0_ := Aside0.mk (Kd.R_over' (by (with_reducible repeat (first | apply Kd.R_alloc | apply Kd.R_drewN | apply Kd.R_drew)); exact (Kd.R_mono (Kd.R_far (p := ⟨gb8, 3, none⟩) (Kd.R_far (p := ⟨gb8, 2, none⟩) (Kd.R_far (p := ⟨gb8, 1, none⟩) (Kd.R_far (p := ⟨gb8, 0, none⟩) (Kd.R_mono HO_6.out (fun k_ hk => (⟨hk, hk.2⟩ : _ ∧ k_ ≠ gb8))) (fun _ hk => hk.2) (.int .i64 ((rd_T37 l0 x16_1).f0))) (fun _ hk => hk.2) (.int .i64 ((rd_T37 l0 x16_1).f1))) (fun _ hk => hk.2) (.int .i64 ((rd_T37 l0 x16_1).f2))) (fun _ hk => hk.2) (.int .i64 ((rd_T37 l0 x16_1).f3))) (fun _ h_ => h_.1))) (Kd.R_typed (by (with_reducible repeat (first | apply Kd.R_alloc | apply Kd.R_drewN | apply Kd.R_drew)); exact (Kd.R_mono (Kd.R_far (p := ⟨gb8, 3, none⟩) (Kd.R_far (p := ⟨gb8, 2, none⟩) (Kd.R_far (p := ⟨gb8, 1, none⟩) (Kd.R_far (p := ⟨gb8, 0, none⟩) (Kd.R_types HO_7.out BK8.out (by decide)) (fun _ hk => hk.2) (.int .i64 ((rd_T37 l0 x16_1).f0))) (fun _ hk => hk.2) (.int .i64 ((rd_T37 l0 x16_1).f1))) (fun _ hk => hk.2) (.int .i64 ((rd_T37 l0 x16_1).f2))) (fun _ hk => hk.2) (.int .i64 ((rd_T37 l0 x16_1).f3))) (fun _ h_ => h_.1)))) (by decide) hg); have n1_ := Aside0.mk (blk_grown (g := gb8) (o := .cells #[.int .i64 ((rd_T37 l0 x16_1).f0), .int .i64 ((rd_T37 l0 x16_1).f1), .int .i64 ((rd_T37 l0 x16_1).f2), .int .i64 ((rd_T37 l0 x16_1).f3)] 37 (0, 0)) (by (with_reducible repeat (first | refine blk_drewN ?_ _ | refine blk_drew ?_ | refine blk_alloc ?_ _)); refine blk_put (cs := #[.int .i64 ((rd_T37 l0 x16_1).f0), .int .i64 ((rd_T37 l0 x16_1).f1), .int .i64 ((rd_T37 l0 x16_1).f2), .int .i64 0]) ?_ 3 _ rfl; (with_reducible repeat (first | refine blk_drewN ?_ _ | refine blk_drew ?_ | refine blk_alloc ?_ _)); refine blk_put (cs := #[.int .i64 ((rd_T37 l0 x16_1).f0), .int .i64 ((rd_T37 l0 x16_1).f1), .int .i64 0, .int .i64 0]) ?_ 2 _ rfl; (with_reducible repeat (first | refine blk_drewN ?_ _ | refine blk_drew ?_ | refine blk_alloc ?_ _)); refine blk_put (cs := #[.int .i64 ((rd_T37 l0 x16_1).f0), .int .i64 0, .int .i64 0, .int .i64 0]) ?_ 1 _ rfl; (with_reducible repeat (first | refine blk_drewN ?_ _ | refine blk_drew ?_ | refine blk_alloc ?_ _)); refine blk_put (cs := #[.int .i64 0, .int .i64 0, .int .i64 0, .int .i64 0]) ?_ 0 _ rfl; (with_reducible repeat (first | refine blk_drewN ?_ _ | refine blk_drew ?_ | refine blk_alloc ?_ _)); exact BK8.out) hg (Kd.R_ne HO_7.out BK8.out (by decide))); have n2_ := Aside0.mk (hb); have n3_ := Aside0.mk (ho); clear HO_6; clear BK8; clear HB; clear HO_7; have HO_6 := n0_; have BK8 := n1_; have HB := n2_; have HO11 := n3_; clear n0_ n1_ n2_ n3_; clear ho hb hg hat; obtain ⟨hcz26_0, hcz26_1, hcz26_2, hcz26_3, hfz26_0, hfz26_1, hfz26_2, hfz26_3⟩ := bc4_ BK8.out) | ((with_reducible refine gate_builtin (b := .append) (xs := #[.tmp 26, .tmp 28]) rfl ?_); at_builtin; refine Kd.R_append k37 (w0 := w) w.heap.size rfl (.tmp 26) (.tmp 28) 31 37 (.agg #[(.int .i64 0), (.int .i64 0), (.int .i64 0), (.int .i64 0)]) 32 rfl Tryd.underlying31 info37 rfl (by decide) (by omega) (.slice Ao24 x6_1.length co24) x6_1 (⟨(rd_T37 l0 x16_1).f0, (rd_T37 l0 x16_1).f1, (rd_T37 l0 x16_1).f2, (rd_T37 l0 x16_1).f3⟩ : S37) [.int .i64 ((rd_T37 l0 x16_1).f0), .int .i64 ((rd_T37 l0 x16_1).f1), .int .i64 ((rd_T37 l0 x16_1).f2), .int .i64 ((rd_T37 l0 x16_1).f3)] (fun k_ => k_ ≠ gb8) (fun _ => False) rfl rfl ?aP (fun _ hk => hk.elim) ?aF ?aO ?aB ?aS ?aL ?_; (case aP => exact k37_mkM _ _ _ (⟨(rd_T37 l0 x16_1).f0, (rd_T37 l0 x16_1).f1, (rd_T37 l0 x16_1).f2, (rd_T37 l0 x16_1).f3⟩ : S37)); (case aB => exact bw_); (case aF => exact (fun k_ hk => Kd.freshB (g := gb8) (o := .cells #[.int .i64 ((rd_T37 l0 x16_1).f0), .int .i64 ((rd_T37 l0 x16_1).f1), .int .i64 ((rd_T37 l0 x16_1).f2), .int .i64 ((rd_T37 l0 x16_1).f3)] 37 (0, 0)) bk_ k_ hk)); (case aO => exact (by (with_reducible repeat (first | apply Kd.R_alloc | apply Kd.R_drewN | apply Kd.R_drew)); exact Kd.R_mono HO_6.out (fun _ hk => hk.2))); (case aS => exact (below_size bw_)); (case aL => have := LMc11.out; omega); intro v13 w27 ho hb hg hat; rw [← Ny12.out] at ho; have n0_ := Aside0.mk (blk_grown (g := gb8) (o := .cells #[.int .i64 ((rd_T37 l0 x16_1).f0), .int .i64 ((rd_T37 l0 x16_1).f1), .int .i64 ((rd_T37 l0 x16_1).f2), .int .i64 ((rd_T37 l0 x16_1).f3)] 37 (0, 0)) bk_ hg (Kd.R_away HO_6.out (fun _ hk => hk.2))); have n1_ := Aside0.mk (Kd.R_over' (rx_ HO11.out) (Kd.R_typed (rx_ HO_6.out)) (by decide) hg); have n2_ := Aside0.mk (hb); have n3_ := Aside0.mk (ho); clear BK8; clear HO11; clear HB; clear HO_6; have BK8 := n0_; have HO11 := n1_; have HB := n2_; have HO14 := n3_; clear n0_ n1_ n2_ n3_; clear ho hb hg hat) | (go_at_fn 25; (with_reducible refine (bareFn gq_ _ _ l1 x16_1 false _ (blk_below HGQ.out (by repeat (first | (with_reducible first | exact HB.out | apply below_alloc | apply pw_below_drewN | apply below_drew1 | refine below_set ?_ (Aside0.out (by assumption))) | exact HB.out))) ?side1 ?side2 A12.out).mono ?_); (case side1 => exact cb_); (case side2 => exact HC1.out); rintro e w' ⟨rfl, ⟨nd, rfl⟩⟩))
     go_roundg k1
     case measure => have := HK1.out; omega
     case rel => exact ⟨(y12), (y9), (wrap64 (x16_1 + 1)), sd_, H', ⟨by have := HK1.out; omega⟩, ⟨by (with_reducible repeat (first | apply Kd.R_alloc | apply Kd.R_drewN | apply Kd.R_drew)); exact Kd.R_mono HO14.out (fun _ hk => trivial)⟩, ⟨by (with_reducible repeat (first | apply Kd.R_alloc | apply Kd.R_drewN | apply Kd.R_drew)); exact HO11.out⟩, ⟨bw_⟩⟩
    subst c13
    have H1 : (if y12.length < 4398046511104 then (impl_fenced.l0 k1 l0 l1 (y12 ++ [(⟨4, 0, 0, 0⟩ : S37)]) y9 (l0.length : Int) (wrap64 (x16_1 + 1))) else (none)) = some (r1, r2) := by rw [if_pos rfl] at H; exact H
    clear H
    have H := H1
    clear H1
    by_cases c14 : y12.length < 4398046511104
    rotate_left
    ·rw [if_neg c14] at H
     exact absurd H (by simp)
    rw [if_pos c14] at H
    have LMc14 := Aside0.mk c14
    clear c14
    obtain ⟨y16, hy16⟩ : ∃ y_ : List (S37), y_ = (y12 ++ [(⟨4, 0, 0, 0⟩ : S37)]) := ⟨_, rfl⟩
    replace H : (impl_fenced.l0 k1 l0 l1 y16 y9 (l0.length : Int) (wrap64 (x16_1 + 1))) = some (r1, r2) := by first | (rw [hy16]; with_reducible exact H) | (have H2_ := (Option.bind_some _ _).symm.trans H; rw [hy16]; with_reducible exact H2_) | (have H2_ := (Option.bind_some _ _).symm.trans H; with_reducible exact H2_) | with_reducible exact H | (rw [hy16]; exact H) | exact H
    have Ny16 := Aside0.mk hy16
    clear hy16
    have H' := Aside0.mk H
    clear H
    have p7 : 0 ≤ (x16_1 : Int) := od_
    have q7 : x16_1 < (l0.length : Int) := od_
    obtain ⟨ad7, e7, hx7_0, hx7_1, hx7_2, hx7_3⟩ := at_T37 HR0.out x16_1 p7 q7
    cases e7
    replace hx7_0 := (HB.out.cell (World.block_lt_of_cell? w _ hx7_0)).trans hx7_0
    replace hx7_1 := (HB.out.cell (World.block_lt_of_cell? w _ hx7_1)).trans hx7_1
    replace hx7_2 := (HB.out.cell (World.block_lt_of_cell? w _ hx7_2)).trans hx7_2
    replace hx7_3 := (HB.out.cell (World.block_lt_of_cell? w _ hx7_3)).trans hx7_3
    replace p7 := eq_true p7
    replace q7 := eq_true q7
    go_wp2_with (first | ((with_reducible refine gate_dst (N := 9) rfl ?_); refine box_event ?hg (N := 9) ?hd (cs := #[.int .i64 0, .int .i64 0, .int .i64 0, .int .i64 0]) (t := 37) ?hr ?_; (case hd => rfl); (case hg => rfl); (case hr => exact hrr_); intro gb8 hg w15 hbox hb; have n0_ := Aside0.mk (Kd.R_below (Kd.R_elderB (rx_ HO_6.out) gb8 (Nat.le_of_eq hg.symm)) hb); have n1_ := Aside0.mk (Kd.R_below (rx_ HO_7.out) hb); have n2_ := bs_ hb; have n3_ := Aside0.mk (hbox); have n4_ := ge_ (w := w) hg; have n5_ := ge_ (w := w) hg; clear HO_6; clear HO_7; clear HB; have HO_6 := n0_; have HO_7 := n1_; have HB := n2_; have BK8 := n3_; have GW8 := n4_; have GE8 := n5_; clear n0_ n1_ n2_ n3_ n4_ n5_; clear hb hbox hg; obtain ⟨hcz16_0, hcz16_1, hcz16_2, hcz16_3, hfz16_0, hfz16_1, hfz16_2, hfz16_3⟩ := bc4_ BK8.out; obtain ⟨Ao17, co17, eo17⟩ := Kd.R_slice HO_6.out; subst eo17) | ((with_reducible refine gate_builtin (b := .append) (xs := #[.tmp 21, .tmp 24]) rfl ?_); at_builtin; refine Kd.R_append (Kd.int .i64) (w0 := w) w.heap.size rfl (.tmp 21) (.tmp 24) 53 3 (.int .i64 0) 8 rfl Tryd.underlying53 info3 rfl (by decide) (by omega) u7 x7_1 (x6_1.length : Int) [.int .i64 (x6_1.length : Int)] (fun _ => True) (fun _ => False) rfl (by first | (go_simp; done) | (go_simp; rfl)) ?aP (fun _ hk => hk.elim) ?aF ?aO ?aB ?aS ?aL ?_; (case aP => exact rfl); (case aB => exact bw_); (case aF => exact (fun _ _ => trivial)); (case aO => exact (by (with_reducible repeat (first | apply Kd.R_alloc | apply Kd.R_drewN | apply Kd.R_drew)); exact Kd.R_mono (Kd.R_far (p := ⟨gb8, 3, none⟩) (Kd.R_far (p := ⟨gb8, 2, none⟩) (Kd.R_far (p := ⟨gb8, 1, none⟩) (Kd.R_far (p := ⟨gb8, 0, none⟩) (Kd.R_types HO_7.out BK8.out (by decide)) (fun _ hk => hk.2) (.int .i64 ((rd_T37 l0 x16_1).f0))) (fun _ hk => hk.2) (.int .i64 ((rd_T37 l0 x16_1).f1))) (fun _ hk => hk.2) (.int .i64 ((rd_T37 l0 x16_1).f2))) (fun _ hk => hk.2) (.int .i64 ((rd_T37 l0 x16_1).f3))) (fun _ hk => trivial))); (case aS => exact (below_size bw_)); (case aL => have := LMc10.out; omega); intro v10 w18 ho hb hg hat; rw [← Ny9.out] at ho; have n0_ := Aside0.mk (Kd.R_over' (by (with_reducible repeat (first | apply Kd.R_alloc | apply Kd.R_drewN | apply Kd.R_drew)); exact (Kd.R_mono (Kd.R_far (p := ⟨gb8, 3, none⟩) (Kd.R_far (p := ⟨gb8, 2, none⟩) (Kd.R_far (p := ⟨gb8, 1, none⟩) (Kd.R_far (p := ⟨gb8, 0, none⟩) (Kd.R_mono HO_6.out (fun k_ hk => (⟨hk, hk.2⟩ : _ ∧ k_ ≠ gb8))) (fun _ hk => hk.2) (.int .i64 ((rd_T37 l0 x16_1).f0))) (fun _ hk => hk.2) (.int .i64 ((rd_T37 l0 x16_1).f1))) (fun _ hk => hk.2) (.int .i64 ((rd_T37 l0 x16_1).f2))) (fun _ hk => hk.2) (.int .i64 ((rd_T37 l0 x16_1).f3))) (fun _ h_ => h_.1))) (Kd.R_typed (by (with_reducible repeat (first | apply Kd.R_alloc | apply Kd.R_drewN | apply Kd.R_drew)); exact (Kd.R_mono (Kd.R_far (p := ⟨gb8, 3, none⟩) (Kd.R_far (p := ⟨gb8, 2, none⟩) (Kd.R_far (p := ⟨gb8, 1, none⟩) (Kd.R_far (p := ⟨gb8, 0, none⟩) (Kd.R_types HO_7.out BK8.out (by decide)) (fun _ hk => hk.2) (.int .i64 ((rd_T37 l0 x16_1).f0))) (fun _ hk => hk.2) (.int .i64 ((rd_T37 l0 x16_1).f1))) (fun _ hk => hk.2) (.int .i64 ((rd_T37 l0 x16_1).f2))) (fun _ hk => hk.2) (.int .i64 ((rd_T37 l0 x16_1).f3))) (fun _ h_ => h_.1)))) (by decide) hg); have n1_ := Aside0.mk (blk_grown (g := gb8) (o := .cells #[.int .i64 ((rd_T37 l0 x16_1).f0), .int .i64 ((rd_T37 l0 x16_1).f1), .int .i64 ((rd_T37 l0 x16_1).f2), .int .i64 ((rd_T37 l0 x16_1).f3)] 37 (0, 0)) (by (with_reducible repeat (first | refine blk_drewN ?_ _ | refine blk_drew ?_ | refine blk_alloc ?_ _)); refine blk_put (cs := #[.int .i64 ((rd_T37 l0 x16_1).f0), .int .i64 ((rd_T37 l0 x16_1).f1), .int .i64 ((rd_T37 l0 x16_1).f2), .int .i64 0]) ?_ 3 _ rfl; (with_reducible repeat (first | refine blk_drewN ?_ _ | refine blk_drew ?_ | refine blk_alloc ?_ _)); refine blk_put (cs := #[.int .i64 ((rd_T37 l0 x16_1).f0), .int .i64 ((rd_T37 l0 x16_1).f1), .int .i64 0, .int .i64 0]) ?_ 2 _ rfl; (with_reducible repeat (first | refine blk_drewN ?_ _ | refine blk_drew ?_ | refine blk_alloc ?_ _)); refine blk_put (cs := #[.int .i64 ((rd_T37 l0 x16_1).f0), .int .i64 0, .int .i64 0, .int .i64 0]) ?_ 1 _ rfl; (with_reducible repeat (first | refine blk_drewN ?_ _ | refine blk_drew ?_ | refine blk_alloc ?_ _)); refine blk_put (cs := #[.int .i64 0, .int .i64 0, .int .i64 0, .int .i64 0]) ?_ 0 _ rfl; (with_reducible repeat (first | refine blk_drewN ?_ _ | refine blk_drew ?_ | refine blk_alloc ?_ _)); exact BK8.out) hg (Kd.R_ne HO_7.out BK8.out (by decide))); have n2_ := Aside0.mk (hb); have n3_ := Aside0.mk (ho); clear HO_6; clear BK8; clear HB; clear HO_7; have HO_6 := n0_; have BK8 := n1_; have HB := n2_; have HO11 := n3_; clear n0_ n1_ n2_ n3_; clear ho hb hg hat; obtain ⟨hcz19_0, hcz19_1, hcz19_2, hcz19_3, hfz19_0, hfz19_1, hfz19_2, hfz19_3⟩ := bc4_ BK8.out) | ((with_reducible refine gate_builtin (b := .append) (xs := #[.tmp 26, .tmp 28]) rfl ?_); at_builtin; refine Kd.R_append k37 (w0 := w) w.heap.size rfl (.tmp 26) (.tmp 28) 31 37 (.agg #[(.int .i64 0), (.int .i64 0), (.int .i64 0), (.int .i64 0)]) 32 rfl Tryd.underlying31 info37 rfl (by decide) (by omega) (.slice Ao17 x6_1.length co17) x6_1 (⟨(rd_T37 l0 x16_1).f0, (rd_T37 l0 x16_1).f1, (rd_T37 l0 x16_1).f2, (rd_T37 l0 x16_1).f3⟩ : S37) [.int .i64 ((rd_T37 l0 x16_1).f0), .int .i64 ((rd_T37 l0 x16_1).f1), .int .i64 ((rd_T37 l0 x16_1).f2), .int .i64 ((rd_T37 l0 x16_1).f3)] (fun k_ => k_ ≠ gb8) (fun _ => False) rfl rfl ?aP (fun _ hk => hk.elim) ?aF ?aO ?aB ?aS ?aL ?_; (case aP => exact k37_mkM _ _ _ (⟨(rd_T37 l0 x16_1).f0, (rd_T37 l0 x16_1).f1, (rd_T37 l0 x16_1).f2, (rd_T37 l0 x16_1).f3⟩ : S37)); (case aB => exact bw_); (case aF => exact (fun k_ hk => Kd.freshB (g := gb8) (o := .cells #[.int .i64 ((rd_T37 l0 x16_1).f0), .int .i64 ((rd_T37 l0 x16_1).f1), .int .i64 ((rd_T37 l0 x16_1).f2), .int .i64 ((rd_T37 l0 x16_1).f3)] 37 (0, 0)) bk_ k_ hk)); (case aO => exact (by (with_reducible repeat (first | apply Kd.R_alloc | apply Kd.R_drewN | apply Kd.R_drew)); exact Kd.R_mono HO_6.out (fun _ hk => hk.2))); (case aS => exact (below_size bw_)); (case aL => have := LMc11.out; omega); intro v13 w20 ho hb hg hat; rw [← Ny12.out] at ho; have n0_ := Aside0.mk (blk_grown (g := gb8) (o := .cells #[.int .i64 ((rd_T37 l0 x16_1).f0), .int .i64 ((rd_T37 l0 x16_1).f1), .int .i64 ((rd_T37 l0 x16_1).f2), .int .i64 ((rd_T37 l0 x16_1).f3)] 37 (0, 0)) bk_ hg (Kd.R_away HO_6.out (fun _ hk => hk.2))); have n1_ := Aside0.mk (Kd.R_over' (rx_ HO11.out) (Kd.R_typed (rx_ HO_6.out)) (by decide) hg); have n2_ := Aside0.mk (hb); have n3_ := Aside0.mk (ho); clear BK8; clear HO11; clear HB; clear HO_6; have BK8 := n0_; have HO11 := n1_; have HB := n2_; have HO14 := n3_; clear n0_ n1_ n2_ n3_; clear ho hb hg hat) | (go_at_fn 25; (with_reducible refine (bareFn gq_ _ _ l1 x16_1 true _ (blk_below HGQ.out (by repeat (first | (with_reducible first | exact HB.out | apply below_alloc | apply pw_below_drewN | apply below_drew1 | refine below_set ?_ (Aside0.out (by assumption))) | exact HB.out))) ?side1 ?side2 A12.out).mono ?_); (case side1 => exact cb_); (case side2 => exact HC1.out); rintro e w' ⟨rfl, ⟨nd, rfl⟩⟩) | ((with_reducible refine gate_builtin (b := .append) (xs := #[.tmp 33, .tmp 35]) rfl ?_); at_builtin; refine Kd.R_append k37 (w0 := w) w.heap.size rfl (.tmp 33) (.tmp 35) 31 37 (.agg #[(.int .i64 0), (.int .i64 0), (.int .i64 0), (.int .i64 0)]) 32 rfl Tryd.underlying31 info37 rfl (by decide) (by omega) v13 y12 (⟨4, 0, 0, 0⟩ : S37) [.int .i64 4, .int .i64 0, .int .i64 0, .int .i64 0] (fun k_ => k_ ≠ gb8) (fun _ => False) rfl rfl ?aP (fun _ hk => hk.elim) ?aF ?aO ?aB ?aS ?aL ?_; (case aP => exact k37_mkM _ _ _ (⟨4, 0, 0, 0⟩ : S37)); (case aB => exact bw_); (case aF => exact (fun k_ hk => Kd.freshB (g := gb8) (o := .cells #[.int .i64 ((rd_T37 l0 x16_1).f0), .int .i64 ((rd_T37 l0 x16_1).f1), .int .i64 ((rd_T37 l0 x16_1).f2), .int .i64 ((rd_T37 l0 x16_1).f3)] 37 (0, 0)) bk_ k_ hk)); (case aO => exact (rx_ HO14.out)); (case aS => exact (below_size bw_)); (case aL => have := LMc14.out; omega); intro v17 w21 ho hb hg hat; rw [← Ny16.out] at ho; have n0_ := Aside0.mk (blk_grown (g := gb8) (o := .cells #[.int .i64 ((rd_T37 l0 x16_1).f0), .int .i64 ((rd_T37 l0 x16_1).f1), .int .i64 ((rd_T37 l0 x16_1).f2), .int .i64 ((rd_T37 l0 x16_1).f3)] 37 (0, 0)) bk_ hg (Kd.R_away HO14.out (fun _ hk => hk))); have n1_ := Aside0.mk (Kd.R_over' (rx_ HO11.out) (Kd.R_typed (rx_ HO14.out)) (by decide) hg); have n2_ := Aside0.mk (hb); have n3_ := Aside0.mk (ho); clear BK8; clear HO11; clear HB; clear HO14; have BK8 := n0_; have HO11 := n1_; have HB := n2_; have HO18 := n3_; clear n0_ n1_ n2_ n3_; clear ho hb hg hat))
    go_roundg k1
    case measure => have := HK1.out; omega
    case rel => exact ⟨(y16), (y9), (wrap64 (x16_1 + 1)), sd_, H', ⟨by have := HK1.out; omega⟩, ⟨by (with_reducible repeat (first | apply Kd.R_alloc | apply Kd.R_drewN | apply Kd.R_drew)); exact Kd.R_mono HO18.out (fun _ hk => trivial)⟩, ⟨by (with_reducible repeat (first | apply Kd.R_alloc | apply Kd.R_drewN | apply Kd.R_drew)); exact HO11.out⟩, ⟨bw_⟩⟩
   rw [if_neg c7] at H
   have c7b0 : decide (x16_1 < (l0.length : Int)) = false := decide_eq_false c7
   clear c7
   by_cases c28 : x7_1.length < 17592186044416
   rotate_left
   ·rw [if_neg c28] at H
    exact absurd H (by simp)
   rw [if_pos c28] at H
   have LMc28 := Aside0.mk c28
   clear c28
   obtain ⟨y19, hy19⟩ : ∃ y_ : List Int, y_ = (x7_1 ++ [(x6_1.length : Int)]) := ⟨_, rfl⟩
   replace H : (impl_fenced.l1 k1 l0 x6_1 y19 (x6_1.length : Int) 0) = some (r1, r2) := by first | (rw [hy19]; with_reducible exact H) | (have H2_ := (Option.bind_some _ _).symm.trans H; rw [hy19]; with_reducible exact H2_) | (have H2_ := (Option.bind_some _ _).symm.trans H; with_reducible exact H2_) | with_reducible exact H | (rw [hy19]; exact H) | exact H
   have Ny19 := Aside0.mk hy19
   clear hy19
   have H' := Aside0.mk H
   clear H
   obtain ⟨Ao29, co29, eo29⟩ := Kd.R_slice HO_6.out
   subst eo29
   go_wp2_with (first | ((with_reducible refine gate_builtin (b := .append) (xs := #[.tmp 38, .tmp 41]) rfl ?_); at_builtin; refine Kd.R_append (Kd.int .i64) (w0 := w) w.heap.size rfl (.tmp 38) (.tmp 41) 53 3 (.int .i64 0) 8 rfl Tryd.underlying53 info3 rfl (by decide) (by omega) u7 x7_1 (x6_1.length : Int) [.int .i64 (x6_1.length : Int)] (fun _ => True) (fun _ => False) rfl rfl ?aP (fun _ hk => hk.elim) ?aF ?aO ?aB ?aS ?aL ?_; (case aP => exact rfl); (case aB => exact bw_); (case aF => exact (fun _ _ => trivial)); (case aO => exact (rx_ HO_7.out)); (case aS => exact (below_size bw_)); (case aL => have := LMc28.out; omega); intro v20 w30 ho hb hg hat; rw [← Ny19.out] at ho; have n0_ := Aside0.mk (Kd.R_over' (rx_ HO_6.out) (Kd.R_typed (rx_ HO_7.out)) (by decide) hg); have n1_ := Aside0.mk (hb); have n2_ := Aside0.mk (ho); clear HO_6; clear HB; clear HO_7; have HO_6 := n0_; have HB := n1_; have HO21 := n2_; clear n0_ n1_ n2_; clear ho hb hg hat))
   go_loopg [45] k1 (fun kq v45 w' => ∃ (x6_2 : List (S37)) (x45_2 : Int), v45 = .int .i64 x45_2 ∧ Aside0 (impl_fenced.l1 kq l0 x6_2 y19 (x6_1.length : Int) x45_2 = some (r1, r2)) ∧ Aside0 (kq ≤ k1) ∧ Aside0 (Kd.R k37 37 w' w.heap.size (fun _ => True) (.slice Ao29 x6_1.length co29) x6_2) ∧ Aside0 (Kd.R (Kd.int .i64) 3 w' w.heap.size (fun _ => True) v20 y19) ∧ Aside0 (Below w.heap.size w w'))
   case atStart => exact ⟨(x6_1), (0), sd_, H', ⟨Nat.le_refl _⟩, ⟨by (with_reducible repeat (first | apply Kd.R_alloc | apply Kd.R_drewN | apply Kd.R_drew)); exact HO_6.out⟩, ⟨by (with_reducible repeat (first | apply Kd.R_alloc | apply Kd.R_drewN | apply Kd.R_drew)); exact HO21.out⟩, ⟨bw_⟩⟩
   case round =>
    clear H'
    try clear c1
    try clear c2
    try clear p2
    try clear p6
    try clear c7
    try clear c7b0
    try clear p7
    try clear q7
    try clear hx7
    try clear c8
    try clear c8b0
    try clear c9
    try clear c9b0
    try clear c10
    try clear c11
    try clear c13
    try clear c14
    try clear c24
    try clear c26
    try clear c28
    try clear hcz16_0 hcz16_1 hcz16_2 hcz16_3
    try clear hcz19_0 hcz19_1 hcz19_2 hcz19_3
    try clear hcz23_0 hcz23_1 hcz23_2 hcz23_3
    try clear hcz26_0 hcz26_1 hcz26_2 hcz26_3
    try clear hfz16_0 hfz16_1 hfz16_2 hfz16_3
    try clear hfz19_0 hfz19_1 hfz19_2 hfz19_3
    try clear hfz23_0 hfz23_1 hfz23_2 hfz23_3
    try clear hfz26_0 hfz26_1 hfz26_2 hfz26_3
    try clear hx7_0
    try clear hx7_1
    try clear hx7_2
    try clear hx7_3
    try clear p2
    try clear p7
    try clear q7
    obtain ⟨x6_2, x45_2, rfl, HA, HK2, HO_6, HO_7, HB⟩ := hrel
    have hl6_2 := (Kd.R_reads' HO_6.out).1
    rw [hl6_2] at HO_6
    (try simp only [hl6_2])
    (try simp only [hl6_2] at HO_7)
    cases gk with
    | zero => exact absurd HA.out (by simp [impl_fenced.l1])
    | succ k2 =>
     have H := HA.out
     clear HA
     simp only [impl_fenced.l1] at H
     by_cases c31 : x45_2 < (x6_1.length : Int)
     rotate_left
     ·rw [if_neg c31] at H
      have c31b0 : decide (x45_2 < (x6_1.length : Int)) = false := decide_eq_false c31
      (try rw [hl6_2] at c31b0)
      clear c31
      by_cases c51 : (x6_2.length : Int) > 16
      rotate_left
      ·rw [if_neg c51] at H
       have c51b0 : decide (16 < (x6_2.length : Int)) = false := decide_eq_false c51
       have c51b1 : decide (16 < x6_2.length) = false := decide_eq_false (by omega)
       clear c51
       simp only [Option.some.injEq, Prod.mk.injEq] at H
       obtain ⟨rfl, rfl⟩ := H
       go_wp2
       go_ret2
       exact ⟨_, rr_, by (with_reducible repeat (first | apply Kd.R_alloc | apply Kd.R_drewN | apply Kd.R_drew)); exact HO_6.out, bw_⟩
      rw [if_pos c51] at H
      have c51b0 : decide (16 < (x6_2.length : Int)) = true := decide_eq_true c51
      have c51b1 : decide (16 < x6_2.length) = true := decide_eq_true (by omega)
      clear c51
      simp only [Option.some.injEq, Prod.mk.injEq] at H
      obtain ⟨rfl, rfl⟩ := H
      go_wp2
      go_ret2
      exact ⟨_, rr_, by first | exact Kd.R_nil _ _ _ _ _ | exact Kd.N_nil _ _ _ _ _ | exact Kd.V_nil _ _ _ _ _ | exact Kd.Q_nil _ _ _ _ _ | exact Kd.S_nil _ _ _ _ _, bw_⟩
     rw [if_pos c31] at H
     have c31b0 : decide (x45_2 < (x6_1.length : Int)) = true := decide_eq_true c31
     clear c31
     by_cases c32 : 0 ≤ x45_2
     rotate_left
     ·rw [if_neg c32] at H
      exact absurd H (by simp)
     rw [if_pos c32] at H
     have c32b0 : decide (0 ≤ x45_2) = true := decide_eq_true c32
     clear c32
     by_cases c33 : x45_2 < (x6_2.length : Int)
     rotate_left
     ·rw [if_neg c33] at H
      exact absurd H (by simp)
     rw [if_pos c33] at H
     have c33b0 : decide (x45_2 < (x6_2.length : Int)) = true := decide_eq_true c33
     clear c33
     by_cases c34 : ((rd_T37 x6_2 x45_2).f0) = 6
     rotate_left
     ·rw [if_neg c34] at H
      have c34b0 : (((rd_T37 x6_2 x45_2).f0) == 6) = false := beq_eq_false_iff_ne.mpr c34
      have c34b1 : (((rd_T37 x6_2 x45_2).f0) != 6) = true := bne_iff_ne.mpr c34
      have H' := Aside0.mk H
      clear H
      have p22 : 0 ≤ (x45_2 : Int) := od_
      have q22 : x45_2 < (x6_2.length : Int) := od_
      obtain ⟨ad22, e22, hx22_0, hx22_1, hx22_2, hx22_3⟩ := at_T37 (Kd.R_reads' HO_6.out).2.2 x45_2 p22 q22
      cases e22
      replace p22 := eq_true p22
      replace q22 := eq_true q22
      go_wp2_with (first | ((with_reducible refine gate_dst (N := 11) rfl ?_); refine box_event ?hg (N := 11) ?hd (cs := #[.int .i64 0, .int .i64 0, .int .i64 0, .int .i64 0]) (t := 37) ?hr ?_; (case hd => rfl); (case hg => rfl); (case hr => exact hrr_); intro gb23 hg w49 hbox hb; have n0_ := Aside0.mk (Kd.R_below (Kd.R_elderB (rx_ HO_6.out) gb23 (Nat.le_of_eq hg.symm)) hb); have n1_ := Aside0.mk (Kd.R_below (rx_ HO_7.out) hb); have n2_ := bs_ hb; have n3_ := Aside0.mk (hbox); have n4_ := ge_ (w := w) hg; have n5_ := ge_ (w := w) hg; clear HO_6; clear HO_7; clear HB; have HO_6 := n0_; have HO_7 := n1_; have HB := n2_; have BK23 := n3_; have GW23 := n4_; have GE23 := n5_; clear n0_ n1_ n2_ n3_ n4_ n5_; clear hb hbox hg; obtain ⟨hcz50_0, hcz50_1, hcz50_2, hcz50_3, hfz50_0, hfz50_1, hfz50_2, hfz50_3⟩ := bc4_ BK23.out))
      (try simp only [← hl6_2])
      go_roundg k2
      case measure => have := HK1.out; have := HK2.out; omega
      case rel => exact ⟨(x6_2), (wrap64 (x45_2 + 1)), sd_, H', ⟨by have := HK1.out; have := HK2.out; omega⟩, ⟨by (try simp only [hl6_2]); (with_reducible repeat (first | apply Kd.R_alloc | apply Kd.R_drewN | apply Kd.R_drew)); exact Kd.R_mono (Kd.R_far (p := ⟨gb23, 3, none⟩) (Kd.R_far (p := ⟨gb23, 2, none⟩) (Kd.R_far (p := ⟨gb23, 1, none⟩) (Kd.R_far (p := ⟨gb23, 0, none⟩) (Kd.R_mono HO_6.out (fun k_ hk => (⟨hk, hk.2⟩ : _ ∧ k_ ≠ gb23))) (fun _ hk => hk.2) (.int .i64 ((rd_T37 x6_2 x45_2).f0))) (fun _ hk => hk.2) (.int .i64 ((rd_T37 x6_2 x45_2).f1))) (fun _ hk => hk.2) (.int .i64 ((rd_T37 x6_2 x45_2).f2))) (fun _ hk => hk.2) (.int .i64 ((rd_T37 x6_2 x45_2).f3))) (fun _ hk => trivial)⟩, ⟨by (try simp only [hl6_2]); (with_reducible repeat (first | apply Kd.R_alloc | apply Kd.R_drewN | apply Kd.R_drew)); exact Kd.R_mono (Kd.R_far (p := ⟨gb23, 3, none⟩) (Kd.R_far (p := ⟨gb23, 2, none⟩) (Kd.R_far (p := ⟨gb23, 1, none⟩) (Kd.R_far (p := ⟨gb23, 0, none⟩) (Kd.R_types HO_7.out BK23.out (by decide)) (fun _ hk => hk.2) (.int .i64 ((rd_T37 x6_2 x45_2).f0))) (fun _ hk => hk.2) (.int .i64 ((rd_T37 x6_2 x45_2).f1))) (fun _ hk => hk.2) (.int .i64 ((rd_T37 x6_2 x45_2).f2))) (fun _ hk => hk.2) (.int .i64 ((rd_T37 x6_2 x45_2).f3))) (fun _ hk => trivial)⟩, ⟨bw_⟩⟩
     rw [if_pos c34] at H
     have c34b0 : (((rd_T37 x6_2 x45_2).f0) == 6) = true := beq_iff_eq.mpr c34
     have c34b1 : (((rd_T37 x6_2 x45_2).f0) != 6) = false := bne_eq_false_iff_eq.mpr c34
     clear c34
     replace H := Option.bind_eq_some_iff.mp H
     obtain ⟨t24, A350, H⟩ := H
     replace H : (if t24 = true then (if 0 ≤ ((rd_T37 x6_2 x45_2).f3) then (if ((rd_T37 x6_2 x45_2).f3) < (y19.length : Int) then (impl_fenced.l1 k2 l0 (x6_2.set (x45_2 : Int).toNat (⟨(rd_T37 x6_2 x45_2).f0, (rd_T37 x6_2 x45_2).f1, (rd_T37 x6_2 x45_2).f2, rd y19 ((rd_T37 x6_2 x45_2).f3)⟩ : S37)) y19 (x6_1.length : Int) (wrap64 (x45_2 + 1))) else (none)) else (none)) else (some (([] : List (S37)), false))) = some (r1, r2) := H
     have A35 := Aside0.mk A350
     clear A350
     by_cases c36 : t24 = true
     rotate_left
     ·replace c36 := Bool.eq_false_iff.mpr c36
      subst c36
      have H1 : (some (([] : List (S37)), false)) = some (r1, r2) := by rw [if_neg (show ¬ (false = true) by decide)] at H; exact H
      clear H
      have H := H1
      clear H1
      simp only [Option.some.injEq, Prod.mk.injEq] at H
      obtain ⟨rfl, rfl⟩ := H
      have p22 : 0 ≤ (x45_2 : Int) := od_
      have q22 : x45_2 < (x6_2.length : Int) := od_
      obtain ⟨ad22, e22, hx22_0, hx22_1, hx22_2, hx22_3⟩ := at_T37 (Kd.R_reads' HO_6.out).2.2 x45_2 p22 q22
      cases e22
      replace p22 := eq_true p22
      replace q22 := eq_true q22
      go_wp2_with (first | ((with_reducible refine gate_dst (N := 11) rfl ?_); refine box_event ?hg (N := 11) ?hd (cs := #[.int .i64 0, .int .i64 0, .int .i64 0, .int .i64 0]) (t := 37) ?hr ?_; (case hd => rfl); (case hg => rfl); (case hr => exact hrr_); intro gb23 hg w47 hbox hb; have n0_ := Aside0.mk (Kd.R_below (Kd.R_elderB (rx_ HO_6.out) gb23 (Nat.le_of_eq hg.symm)) hb); have n1_ := Aside0.mk (Kd.R_below (rx_ HO_7.out) hb); have n2_ := bs_ hb; have n3_ := Aside0.mk (hbox); have n4_ := ge_ (w := w) hg; have n5_ := ge_ (w := w) hg; clear HO_6; clear HO_7; clear HB; have HO_6 := n0_; have HO_7 := n1_; have HB := n2_; have BK23 := n3_; have GW23 := n4_; have GE23 := n5_; clear n0_ n1_ n2_ n3_ n4_ n5_; clear hb hbox hg; obtain ⟨hcz48_0, hcz48_1, hcz48_2, hcz48_3, hfz48_0, hfz48_1, hfz48_2, hfz48_3⟩ := bc4_ BK23.out) | ((with_reducible refine gate_callee (f := 33) rfl ?_); refine goesL_ (some 57) rfl rfl Tryd.func33 (by kernel_rfl) rfl #[.int .i64 ((rd_T37 x6_2 x45_2).f3), .int .i64 0, .int .i64 (l0.length : Int)] rfl ar_ ?_; (with_reducible refine (impl_within.calls ((rd_T37 x6_2 x45_2).f3) 0 (l0.length : Int) false _ A35.out).mono ?_); rintro e w' ⟨rfl, ⟨nd, rfl⟩⟩; refine ⟨_, rfl, ?_⟩))
      go_ret2
      exact ⟨_, rr_, by first | exact Kd.R_nil _ _ _ _ _ | exact Kd.N_nil _ _ _ _ _ | exact Kd.V_nil _ _ _ _ _ | exact Kd.Q_nil _ _ _ _ _ | exact Kd.S_nil _ _ _ _ _, bw_⟩
     subst c36
     have H1 : (if 0 ≤ ((rd_T37 x6_2 x45_2).f3) then (if ((rd_T37 x6_2 x45_2).f3) < (y19.length : Int) then (impl_fenced.l1 k2 l0 (x6_2.set (x45_2 : Int).toNat (⟨(rd_T37 x6_2 x45_2).f0, (rd_T37 x6_2 x45_2).f1, (rd_T37 x6_2 x45_2).f2, rd y19 ((rd_T37 x6_2 x45_2).f3)⟩ : S37)) y19 (x6_1.length : Int) (wrap64 (x45_2 + 1))) else (none)) else (none)) = some (r1, r2) := by rw [if_pos rfl] at H; exact H
     clear H
     have H := H1
     clear H1
     by_cases c37 : 0 ≤ ((rd_T37 x6_2 x45_2).f3)
     rotate_left
     ·rw [if_neg c37] at H
      exact absurd H (by simp)
     rw [if_pos c37] at H
     have c37b0 : decide (0 ≤ ((rd_T37 x6_2 x45_2).f3)) = true := decide_eq_true c37
     clear c37
     by_cases c38 : ((rd_T37 x6_2 x45_2).f3) < (y19.length : Int)
     rotate_left
     ·rw [if_neg c38] at H
      exact absurd H (by simp)
     rw [if_pos c38] at H
     have c38b0 : decide (((rd_T37 x6_2 x45_2).f3) < (y19.length : Int)) = true := decide_eq_true c38
     clear c38
     obtain ⟨y26, hy26⟩ : ∃ y_ : List (S37), y_ = (x6_2.set (x45_2 : Int).toNat (⟨(rd_T37 x6_2 x45_2).f0, (rd_T37 x6_2 x45_2).f1, (rd_T37 x6_2 x45_2).f2, rd y19 ((rd_T37 x6_2 x45_2).f3)⟩ : S37)) := ⟨_, rfl⟩
     replace H : (impl_fenced.l1 k2 l0 y26 y19 (x6_1.length : Int) (wrap64 (x45_2 + 1))) = some (r1, r2) := by first | (rw [hy26]; with_reducible exact H) | (have H2_ := (Option.bind_some _ _).symm.trans H; rw [hy26]; with_reducible exact H2_) | (have H2_ := (Option.bind_some _ _).symm.trans H; with_reducible exact H2_) | with_reducible exact H | (rw [hy26]; exact H) | exact H
     have Ny26 := Aside0.mk hy26
     clear hy26
     have H' := Aside0.mk H
     clear H
     have p22 : 0 ≤ (x45_2 : Int) := od_
     have q22 : x45_2 < (x6_2.length : Int) := od_
     obtain ⟨ad22, e22, hx22_0, hx22_1, hx22_2, hx22_3⟩ := at_T37 (Kd.R_reads' HO_6.out).2.2 x45_2 p22 q22
     cases e22
     replace p22 := eq_true p22
     replace q22 := eq_true q22
     go_wp2_with (first | ((with_reducible refine gate_dst (N := 11) rfl ?_); refine box_event ?hg (N := 11) ?hd (cs := #[.int .i64 0, .int .i64 0, .int .i64 0, .int .i64 0]) (t := 37) ?hr ?_; (case hd => rfl); (case hg => rfl); (case hr => exact hrr_); intro gb23 hg w40 hbox hb; have n0_ := Aside0.mk (Kd.R_below (Kd.R_elderB (rx_ HO_6.out) gb23 (Nat.le_of_eq hg.symm)) hb); have n1_ := Aside0.mk (Kd.R_below (rx_ HO_7.out) hb); have n2_ := bs_ hb; have n3_ := Aside0.mk (hbox); have n4_ := ge_ (w := w) hg; have n5_ := ge_ (w := w) hg; clear HO_6; clear HO_7; clear HB; have HO_6 := n0_; have HO_7 := n1_; have HB := n2_; have BK23 := n3_; have GW23 := n4_; have GE23 := n5_; clear n0_ n1_ n2_ n3_ n4_ n5_; clear hb hbox hg; obtain ⟨hcz41_0, hcz41_1, hcz41_2, hcz41_3, hfz41_0, hfz41_1, hfz41_2, hfz41_3⟩ := bc4_ BK23.out) | ((with_reducible refine gate_store (t := 37) (p := 11) rfl ?_); refine store_event (t := 37) (p := 11) (v := ?vo_w42) (w1 := ((((w40.setCell ⟨gb23, 0, none⟩ (.int .i64 ((rd_T37 x6_2 x45_2).f0))).setCell ⟨gb23, 1, none⟩ (.int .i64 ((rd_T37 x6_2 x45_2).f1))).setCell ⟨gb23, 2, none⟩ (.int .i64 ((rd_T37 x6_2 x45_2).f2))).setCell ⟨gb23, 3, none⟩ (.int .i64 ((rd_T37 x6_2 x45_2).f3)))) ?hg ?ho ?hn ?hr ?_; (case ho => rfl); (case hg => rfl); (case hn => rfl); (case hr => first | (go_simp; done) | (go_simp; rfl)); intro w42 hw; have n0_ : Aside0 (Kd.R k37 37 w42 w.heap.size (fun k_ => k_ ≠ gb23) (.slice (some ad22) x6_2.length co29) x6_2) := ⟨(by rw [hw]; exact (by (with_reducible repeat (first | apply Kd.R_alloc | apply Kd.R_drewN | apply Kd.R_drew)); exact Kd.R_mono (Kd.R_far (p := ⟨gb23, 3, none⟩) (Kd.R_far (p := ⟨gb23, 2, none⟩) (Kd.R_far (p := ⟨gb23, 1, none⟩) (Kd.R_far (p := ⟨gb23, 0, none⟩) (Kd.R_mono HO_6.out (fun k_ hk => (⟨hk, hk.2⟩ : _ ∧ k_ ≠ gb23))) (fun _ hk => hk.2) (.int .i64 ((rd_T37 x6_2 x45_2).f0))) (fun _ hk => hk.2) (.int .i64 ((rd_T37 x6_2 x45_2).f1))) (fun _ hk => hk.2) (.int .i64 ((rd_T37 x6_2 x45_2).f2))) (fun _ hk => hk.2) (.int .i64 ((rd_T37 x6_2 x45_2).f3))) (fun _ hk => hk.1.2)))⟩; have n1_ : Aside0 (Kd.R (Kd.int .i64) 3 w42 w.heap.size (fun _ => True) v20 y19) := ⟨(by rw [hw]; exact (by (with_reducible repeat (first | apply Kd.R_alloc | apply Kd.R_drewN | apply Kd.R_drew)); exact Kd.R_mono (Kd.R_far (p := ⟨gb23, 3, none⟩) (Kd.R_far (p := ⟨gb23, 2, none⟩) (Kd.R_far (p := ⟨gb23, 1, none⟩) (Kd.R_far (p := ⟨gb23, 0, none⟩) (Kd.R_types HO_7.out BK23.out (by decide)) (fun _ hk => hk.2) (.int .i64 ((rd_T37 x6_2 x45_2).f0))) (fun _ hk => hk.2) (.int .i64 ((rd_T37 x6_2 x45_2).f1))) (fun _ hk => hk.2) (.int .i64 ((rd_T37 x6_2 x45_2).f2))) (fun _ hk => hk.2) (.int .i64 ((rd_T37 x6_2 x45_2).f3))) (fun _ hk => trivial)))⟩; have n2_ : Aside0 (w42.heap[gb23]? = some (.cells #[.int .i64 ((rd_T37 x6_2 x45_2).f0), .int .i64 ((rd_T37 x6_2 x45_2).f1), .int .i64 ((rd_T37 x6_2 x45_2).f2), .int .i64 ((rd_T37 x6_2 x45_2).f3)] 37 (0, 0))) := ⟨(by rw [hw]; exact (by (with_reducible repeat (first | refine blk_drewN ?_ _ | refine blk_drew ?_ | refine blk_alloc ?_ _)); refine blk_put (cs := #[.int .i64 ((rd_T37 x6_2 x45_2).f0), .int .i64 ((rd_T37 x6_2 x45_2).f1), .int .i64 ((rd_T37 x6_2 x45_2).f2), .int .i64 0]) ?_ 3 _ rfl; (with_reducible repeat (first | refine blk_drewN ?_ _ | refine blk_drew ?_ | refine blk_alloc ?_ _)); refine blk_put (cs := #[.int .i64 ((rd_T37 x6_2 x45_2).f0), .int .i64 ((rd_T37 x6_2 x45_2).f1), .int .i64 0, .int .i64 0]) ?_ 2 _ rfl; (with_reducible repeat (first | refine blk_drewN ?_ _ | refine blk_drew ?_ | refine blk_alloc ?_ _)); refine blk_put (cs := #[.int .i64 ((rd_T37 x6_2 x45_2).f0), .int .i64 0, .int .i64 0, .int .i64 0]) ?_ 1 _ rfl; (with_reducible repeat (first | refine blk_drewN ?_ _ | refine blk_drew ?_ | refine blk_alloc ?_ _)); refine blk_put (cs := #[.int .i64 0, .int .i64 0, .int .i64 0, .int .i64 0]) ?_ 0 _ rfl; (with_reducible repeat (first | refine blk_drewN ?_ _ | refine blk_drew ?_ | refine blk_alloc ?_ _)); exact BK23.out))⟩; have n3_ : Aside0 (Below w.heap.size w w42) := ⟨(by rw [hw]; exact bw_)⟩; clear hw; clear HO_6; clear HO_7; clear BK23; clear HB; have HO_6 := n0_; have HO_7 := n1_; have BK23 := n2_; have HB := n3_; clear n0_ n1_ n2_ n3_; obtain ⟨hcz43_0, hcz43_1, hcz43_2, hcz43_3, hfz43_0, hfz43_1, hfz43_2, hfz43_3⟩ := bc4_ BK23.out) | ((with_reducible refine gate_callee (f := 33) rfl ?_); refine goesL_ (some 57) rfl rfl Tryd.func33 (by kernel_rfl) rfl #[.int .i64 ((rd_T37 x6_2 x45_2).f3), .int .i64 0, .int .i64 (l0.length : Int)] rfl ar_ ?_; (with_reducible refine (impl_within.calls ((rd_T37 x6_2 x45_2).f3) 0 (l0.length : Int) true _ A35.out).mono ?_); rintro e w' ⟨rfl, ⟨nd, rfl⟩⟩; refine ⟨_, rfl, ?_⟩; (try (rw [drewN_self w42]; generalize hq_ : World.drewN w42 _ = w42; have n0_ : Aside0 (Kd.R k37 37 w42 w.heap.size (fun k_ => k_ ≠ gb23) (.slice (some ad22) x6_2.length co29) x6_2) := ⟨by rw [← hq_]; exact (rx_ HO_6.out)⟩; have n1_ : Aside0 (Kd.R (Kd.int .i64) 3 w42 w.heap.size (fun _ => True) v20 y19) := ⟨by rw [← hq_]; exact (rx_ HO_7.out)⟩; have n2_ : Aside0 (w42.heap[gb23]? = some (.cells #[.int .i64 ((rd_T37 x6_2 x45_2).f0), .int .i64 ((rd_T37 x6_2 x45_2).f1), .int .i64 ((rd_T37 x6_2 x45_2).f2), .int .i64 ((rd_T37 x6_2 x45_2).f3)] 37 (0, 0))) := ⟨by rw [← hq_]; exact bk_⟩; have n3_ : Aside0 (Below w.heap.size w w42) := ⟨by rw [← hq_]; exact bw_⟩; clear HO_6 HO_7 BK23 HB hq_; have HO_6 := n0_; have HO_7 := n1_; have BK23 := n2_; have HB := n3_; clear n0_ n1_ n2_ n3_)); (try (have hcq0_ := (blk_cell BK23.out 0).trans rfl)); (try (have hfq0_ := blk_frozen BK23.out 0)); (try (have hcq1_ := (blk_cell BK23.out 1).trans rfl)); (try (have hfq1_ := blk_frozen BK23.out 1)); (try (have hcq2_ := (blk_cell BK23.out 2).trans rfl)); (try (have hfq2_ := blk_frozen BK23.out 2)); (try (have hcq3_ := (blk_cell BK23.out 3).trans rfl)); (try (have hfq3_ := blk_frozen BK23.out 3)); obtain ⟨Ao44, co44, eo44⟩ := Kd.R_slice HO_7.out; subst eo44; have p25 : 0 ≤ (((rd_T37 x6_2 x45_2).f3) : Int) := od_; have q25 : ((rd_T37 x6_2 x45_2).f3) < (y19.length : Int) := od_; obtain ⟨ad25, e25, hx25_0⟩ := Kd.at_int (Kd.R_reads' HO_7.out).2.2 ((rd_T37 x6_2 x45_2).f3) p25 q25; cases e25; replace p25 := eq_true p25; replace q25 := eq_true q25; have p39 : 0 ≤ (x45_2 : Int) := od_; have q39 : (x45_2 : Int) < ((x6_2.length : Int) : Int) := od_; obtain ⟨go39, co39, eo39, gb39, gl39, cl39, HG39⟩ := Kd.R_form HO_6.out (by omega); (first | cases eo39 | (injection eo39 with ea_ en_ ec_; (first | subst ea_ | (injection ea_ with ea_; subst ea_)); subst ec_; clear en_)); have GB39 := Aside0.mk gb39; have GG39 := Aside0.mk HG39; clear gb39 gl39 HG39; (first | simp only [add_plain] at hx22_0 | skip); (first | simp only [add_plain] at hx22_1 | skip); (first | simp only [add_plain] at hx22_2 | skip); (first | simp only [add_plain] at hx22_3 | skip); obtain ⟨ce39, hcl39, hM39, hcc39, hfr39⟩ := Kd.R_elem HO_6.out z37 (x45_2 : Int) p39 q39; obtain rfl := k37_openM hM39; have hx39_0 : w42.cell? ⟨go39, (x45_2 : Int).toNat * 4, none⟩ = some (.int .i64 ((rd_T37 x6_2 x45_2).f0)) := hcc39 0 _ rfl; have hx39_1 : w42.cell? ⟨go39, (x45_2 : Int).toNat * 4 + 1, none⟩ = some (.int .i64 ((rd_T37 x6_2 x45_2).f1)) := hcc39 1 _ rfl; have hx39_2 : w42.cell? ⟨go39, (x45_2 : Int).toNat * 4 + 2, none⟩ = some (.int .i64 ((rd_T37 x6_2 x45_2).f2)) := hcc39 2 _ rfl; have hx39_3 : w42.cell? ⟨go39, (x45_2 : Int).toNat * 4 + 3, none⟩ = some (.int .i64 ((rd_T37 x6_2 x45_2).f3)) := hcc39 3 _ rfl; have hf39_0 : w42.frozen? ⟨go39, (x45_2 : Int).toNat * 4, none⟩ = false := hfr39 0; have hf39_1 : w42.frozen? ⟨go39, (x45_2 : Int).toNat * 4 + 1, none⟩ = false := hfr39 1; have hf39_2 : w42.frozen? ⟨go39, (x45_2 : Int).toNat * 4 + 2, none⟩ = false := hfr39 2; have hf39_3 : w42.frozen? ⟨go39, (x45_2 : Int).toNat * 4 + 3, none⟩ = false := hfr39 3; (try clear hcl39); (try clear hcc39); (try clear hfr39); (try clear hM39); replace p39 := eq_true p39; replace q39 := eq_true q39; have HX45 := Aside0.mk (show Kd.R k37 37 w42 w.heap.size (fun k_ => k_ ≠ gb23) (.slice (some ⟨go39, 0, none⟩) x6_2.length co29) x6_2 from (rx_ HO_6.out)); obtain ⟨ce45, hcl45, hM45, hcc45, hfr45⟩ := Kd.R_elem HX45.out z37 (x45_2 : Int) (od_) (by have h_ : (x45_2 : Int) < ((x6_2.length : Int) : Int) := od_; first | exact h_ | (have e_ := (Kd.R_reads' HO_6.out).1; omega) | simpa using h_); obtain rfl := k37_openM hM45; have HP45 := Kd.R_seg HX45.out (x45_2 : Int) (od_) (by have h_ : (x45_2 : Int) < ((x6_2.length : Int) : Int) := od_; first | exact h_ | (have e_ := (Kd.R_reads' HO_6.out).1; omega) | simpa using h_) (seg := [.int .i64 (rd y19 ((rd_T37 x6_2 x45_2).f3))]) (j := 3) hcl45 hcc45 (show 4 ≤ 4 from by decide) (x' := (⟨(rd_T37 x6_2 x45_2).f0, (rd_T37 x6_2 x45_2).f1, (rd_T37 x6_2 x45_2).f2, rd y19 ((rd_T37 x6_2 x45_2).f3)⟩ : S37)) (k37_mkM _ _ _ (⟨(rd_T37 x6_2 x45_2).f0, (rd_T37 x6_2 x45_2).f1, (rd_T37 x6_2 x45_2).f2, rd y19 ((rd_T37 x6_2 x45_2).f3)⟩ : S37) ) (fun _ hk => hk); have hx45_3 := hcc45 3 _ rfl; (try simp only [show (k37).sz = 4 from rfl, Nat.mul_one, Nat.add_zero] at hx45_3); have hf45_3 := hfr45 3; (try simp only [show (k37).sz = 4 from rfl, Nat.mul_one, Nat.add_zero] at hf45_3); (try clear hcl45); (try clear hcc45); (try clear hfr45); (try clear hM45)) | ((with_reducible refine gate_store (t := 3) (p := 67) rfl ?_); refine store_event (t := 3) (p := 67) (v := ?vo_w46) (w1 := (w42.setCell ⟨go39, (x45_2 : Int).toNat * 4 + 3, none⟩ (.int .i64 (rd y19 ((rd_T37 x6_2 x45_2).f3))))) ?hg ?ho ?hn ?hr ?_; (case ho => rfl); (case hg => rfl); (case hn => rfl); (case hr => first | (go_simp; done) | (go_simp; rfl)); intro w46 hw; have hg : w42.grownBy w46 (some go39) := (by rw [hw]; exact HP45.2); have hp_ : Kd.R k37 37 w46 w.heap.size (fun k_ => k_ ≠ gb23) (.slice (some ⟨go39, 0, none⟩) x6_2.length co29) y26 := (by rw [hw, Ny26.out]; exact HP45.1); clear HP45; have n0_ := Aside0.mk (hp_); have n1_ := Aside0.mk (Kd.R_over' (v := (.slice (some ⟨go39, 0, none⟩) x6_2.length co29)) (rx_ HO_7.out) (Kd.R_typed HO_6.out) (by decide) hg); have n2_ := Aside0.mk (blk_grown (g := gb23) (o := .cells #[.int .i64 ((rd_T37 x6_2 x45_2).f0), .int .i64 ((rd_T37 x6_2 x45_2).f1), .int .i64 ((rd_T37 x6_2 x45_2).f2), .int .i64 ((rd_T37 x6_2 x45_2).f3)] 37 (0, 0)) bk_ hg (Kd.R_away HO_6.out (fun _ hk => hk))); have n3_ := Aside0.mk ((by rw [hw]; exact below_set (HB.out) GB39.out : Below w.heap.size w w46)); clear HO_6; clear HO_7; clear BK23; clear HB; have HO_6 := n0_; have HO_7 := n1_; have BK23 := n2_; have HB := n3_; clear n0_ n1_ n2_ n3_; clear hg hw hp_))
     (try simp only [← hl6_2])
     go_roundg k2
     case measure => have := HK1.out; have := HK2.out; omega
     case rel => exact ⟨(y26), (wrap64 (x45_2 + 1)), sd_, H', ⟨by have := HK1.out; have := HK2.out; omega⟩, ⟨by (try simp only [hl6_2]); (with_reducible repeat (first | apply Kd.R_alloc | apply Kd.R_drewN | apply Kd.R_drew)); exact Kd.R_mono HO_6.out (fun _ hk => trivial)⟩, ⟨by (try simp only [hl6_2]); (with_reducible repeat (first | apply Kd.R_alloc | apply Kd.R_drewN | apply Kd.R_drew)); exact HO_7.out⟩, ⟨bw_⟩⟩

end Go.Proofs.YtbgclnjnngolmaaDoor.P
