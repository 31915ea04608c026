-- Written by mp.py (the session's own driver over the kit's printer) for the seat Ytbgclnjnngolmaa.
import Derived.Test.YtbgclnjnngolmaaK
import Derived.Test.YtbgclnjnngolmaaE
import Derived.Test.YtbgclnjnngolmaaPcmpOrint
namespace Go.Proofs.Ytbgclnjnngolmaa.P
open Go.RowKit Go.Proofs.YtbgclnjnngolmaaW.PrintWords Go.Proofs.YtbgclnjnngolmaaW.PrintLast Go.Proofs.YtbgclnjnngolmaaW.PrintMore
attribute [local go_sem] max2_int min2_int max_two min_two max_three min_three max_four min_four
set_option linter.unusedVariables false
set_option linter.unusedSimpArgs false

/-! ### impl_withFencesAt: function 39 -/
mutual
def impl_withFencesAt.l0 : Nat → List (S50) → List Int → List (S50) → List Int → Int → Int → Option ((List (S50)))
 | 0, _, _, _, _, _, _ => none
 | k + 1, x0, x1, x5, x6, x14, x15 => if x15 < x14 then (if x6.length < 17592186044416 then ((some (x6 ++ [(x5.length : Int)] : List Int)).bind fun y7 => ((slices_Contains_int_int.f k x1 x15).bind fun t10 => (if t10 = true then (if x5.length < 4398046511104 then ((some (x5 ++ [(⟨4, 0, 0, 0⟩ : S50)] : List (S50))).bind fun y11 => (if x15 < (x0.length : Int) then (if 0 ≤ x15 then (if y11.length < 4398046511104 then (impl_withFencesAt.l0 k x0 x1 (y11 ++ [(⟨(rd_T50 x0 x15).f0, (rd_T50 x0 x15).f1, (rd_T50 x0 x15).f2, (rd_T50 x0 x15).f3⟩ : S50)]) y7 x14 (wrap64 (x15 + 1))) else (none)) else (none)) else (impl_withFencesAt.l0 k x0 x1 y11 y7 x14 (wrap64 (x15 + 1))))) else (none)) else (if x15 < (x0.length : Int) then (if 0 ≤ x15 then (if x5.length < 4398046511104 then (impl_withFencesAt.l0 k x0 x1 (x5 ++ [(⟨(rd_T50 x0 x15).f0, (rd_T50 x0 x15).f1, (rd_T50 x0 x15).f2, (rd_T50 x0 x15).f3⟩ : S50)]) y7 x14 (wrap64 (x15 + 1))) else (none)) else (none)) else (impl_withFencesAt.l0 k x0 x1 x5 y7 x14 (wrap64 (x15 + 1))))))) else (none)) else (impl_withFencesAt.l1 k x5 x6 (x5.length : Int) 0)
def impl_withFencesAt.l1 : Nat → List (S50) → List Int → Int → Int → Option ((List (S50)))
 | 0, _, _, _, _ => none
 | k + 1, x5, x6, x43, x44 => if x44 < x43 then (if 0 ≤ x44 then (if x44 < (x5.length : Int) then (if ((rd_T50 x5 x44).f0) = 6 then (if 0 ≤ ((rd_T50 x5 x44).f3) then (if ((rd_T50 x5 x44).f3) < (x6.length : Int) then (impl_withFencesAt.l1 k (x5.set (x44 : Int).toNat (⟨(rd_T50 x5 x44).f0, (rd_T50 x5 x44).f1, (rd_T50 x5 x44).f2, rd x6 ((rd_T50 x5 x44).f3)⟩ : S50)) x6 x43 (wrap64 (x44 + 1))) else (none)) else (none)) else (impl_withFencesAt.l1 k x5 x6 x43 (wrap64 (x44 + 1)))) else (none)) else (none)) else (some x5)
end
def impl_withFencesAt.f (k : Nat) (l0 : List (S50)) (l1 : List Int) : Option ((List (S50))) := impl_withFencesAt.l0 k l0 l1 (([] : List (S50))) (([] : List Int)) (wrap64 ((l0.length : Int) + 1)) 0
theorem impl_withFencesAt.mono_l : ∀ k, (∀ y0 y1 y2 y3 y4 y5, LeO (impl_withFencesAt.l0 k y0 y1 y2 y3 y4 y5) (impl_withFencesAt.l0 (k + 1) y0 y1 y2 y3 y4 y5)) ∧ (∀ y0 y1 y2 y3, LeO (impl_withFencesAt.l1 k y0 y1 y2 y3) (impl_withFencesAt.l1 (k + 1) y0 y1 y2 y3))
 | 0 => ⟨fun _ _ _ _ _ _ r h => by simp [impl_withFencesAt.l0] at h, fun _ _ _ _ r h => by simp [impl_withFencesAt.l1] at h⟩
 | k + 1 => by
  obtain ⟨ih0, ih1⟩ := impl_withFencesAt.mono_l k
  refine ⟨?_, ?_⟩
  ·intro y0 y1 y2 y3 y4 y5
   unfold impl_withFencesAt.l0
   repeat' first | (with_reducible first | exact ih0 _ _ _ _ _ _ | exact ih1 _ _ _ _ | exact slices_Contains_int_int.mono _ _ _ | exact lr_ | exact ln_ | refine LeO.ite ?_ ?_ | refine LeO.bind ?_ (fun _ => ?_)) | exact ih0 _ _ _ _ _ _ | exact ih1 _ _ _ _ | exact slices_Contains_int_int.mono _ _ _ | exact ln_ | refine LeO.ite ?_ ?_ | refine LeO.bind ?_ (fun _ => ?_)
  ·intro y0 y1 y2 y3
   unfold impl_withFencesAt.l1
   repeat' first | (with_reducible first | exact ih0 _ _ _ _ _ _ | exact ih1 _ _ _ _ | exact slices_Contains_int_int.mono _ _ _ | exact lr_ | exact ln_ | refine LeO.ite ?_ ?_ | refine LeO.bind ?_ (fun _ => ?_)) | exact ih0 _ _ _ _ _ _ | exact ih1 _ _ _ _ | exact slices_Contains_int_int.mono _ _ _ | exact ln_ | refine LeO.ite ?_ ?_ | refine LeO.bind ?_ (fun _ => ?_)
theorem impl_withFencesAt.mono : ∀ a0 a1 k, LeO (impl_withFencesAt.f k a0 a1) (impl_withFencesAt.f (k + 1) a0 a1) := by
 intro a0 a1 k
 obtain ⟨ih0, ih1⟩ := impl_withFencesAt.mono_l k
 unfold impl_withFencesAt.f
 repeat' first | (with_reducible first | exact ih0 _ _ _ _ _ _ | exact ih1 _ _ _ _ | exact slices_Contains_int_int.mono _ _ _ | exact lr_ | exact ln_ | refine LeO.ite ?_ ?_ | refine LeO.bind ?_ (fun _ => ?_)) | exact ih0 _ _ _ _ _ _ | exact ih1 _ _ _ _ | exact slices_Contains_int_int.mono _ _ _ | exact ln_ | refine LeO.ite ?_ ?_ | refine LeO.bind ?_ (fun _ => ?_)
set_option maxHeartbeats 8000000 in
set_option maxRecDepth 100000 in
theorem impl_withFencesAt.calls (k : Nat) (A0 : Option Addr) (c0 : Nat) (l0 : List (S50)) (A1 : Option Addr) (c1 : Nat) (l1 : List Int) (r : List (S50)) (w : World) (hr0 : Kd.C k50 w A0 l0.length l0) (hc0 : l0.length ≤ c0) (hr1 : Kd.C (Kd.int .i64) w A1 l1.length l1) (hc1 : l1.length ≤ c1) (h : impl_withFencesAt.f k l0 l1 = some r) :
  Calls Try.prog 39 #[.slice A0 l0.length c0, .slice A1 l1.length c1] w fun e w' => ∃ v0_ : Value, e = .returned (v0_) ∧ Kd.R k50 50 w' w.heap.size (fun _ => True) v0_ r ∧ Below w.heap.size w w' := by
 have hu50 := Try.underlying50
 have HR0 := am_ hr0
 have HC0 := am_ hc0
 clear hr0 hc0
 have HR1 := am_ hr1
 have HC1 := am_ hc1
 clear hr1 hc1
 have HB := am_ (Below.refl w.heap.size w)
 have H : (impl_withFencesAt.l0 k l0 l1 (([] : List (S50))) (([] : List Int)) (wrap64 ((l0.length : Int) + 1)) 0) = some r := h
 clear h
 obtain ⟨y1, hy1⟩ : ∃ y_ : List (S50), y_ = (([] : List (S50))) := ⟨_, rfl⟩
 replace H : (impl_withFencesAt.l0 k l0 l1 y1 (([] : List Int)) (wrap64 ((l0.length : Int) + 1)) 0) = some r := rh_ hy1
 have Ny1 := am_ hy1
 clear hy1
 obtain ⟨y4, hy4⟩ : ∃ y_ : List Int, y_ = (([] : List Int)) := ⟨_, rfl⟩
 replace H : (impl_withFencesAt.l0 k l0 l1 y1 y4 (wrap64 ((l0.length : Int) + 1)) 0) = some r := rh_ hy4
 have Ny4 := am_ hy4
 clear hy4
 have H' := am_ H
 clear H
 go_enter Try.func39, Try.ntmps39
 go_wp2_with (first | ((with_reducible refine gate_dst (N := 10) rfl ?_); refine Kd.R_lit k50 _ 50 ?hg (N := 10) ?hd (xs := ([] : List (S50))) (inner := []) (ok := fun _ => True) (okp := fun _ => True) ?hr ?hp (fun _ hk => hk) trivial (Below.refl _ _) (Nat.le_refl _) (by simp) ?_; (case hd => rfl); (case hg => rfl); (case hr => first | (go_simp; done) | (go_simp; rfl)); (case hp => exact (Reps.none _ _)); intro v2 w3 ho4 hb hg_ hnew_; clear hg_ hnew_; (first | rw [← Ny1.out] at ho4 | (simp only [Int.reduceToNat] at ho4; rw [← Ny1.out] at ho4)); have n0_ := am_ (Kd.R_lower ho4 (below_size bw_)); have n1_ := bs_ hb; clear HB; have HO3 := n0_; have HB := n1_; clear n0_ n1_; clear hb ho4) | ((with_reducible refine gate_dst (N := 11) rfl ?_); refine Kd.R_lit (Kd.int .i64) _ 3 ?hg (N := 11) ?hd (xs := ([] : List Int)) (inner := []) (ok := fun _ => True) (okp := fun _ => True) ?hr ?hp (fun _ hk => hk) trivial (Below.refl _ _) (Nat.le_refl _) (by simp) ?_; (case hd => rfl); (case hg => rfl); (case hr => first | (go_simp; done) | (go_simp; rfl)); (case hp => exact (Reps.none _ _)); intro v5 w5 ho6 hb hg_ hnew_; clear hg_ hnew_; (first | rw [← Ny4.out] at ho6 | (simp only [Int.reduceToNat] at ho6; rw [← Ny4.out] at ho6)); have n0_ := am_ (Kd.R_below (rx_ HO3.out) hb); have n1_ := am_ (Kd.R_lower ho6 (below_size bw_)); have n2_ := bs_ hb; clear HO3; clear HB; have HO3 := n0_; have HO6 := n1_; have HB := n2_; clear n0_ n1_ n2_; clear hb ho6))
 go_loopg [5, 6, 15] k (fun kq v5 v6 v15 w' => ∃ (x5_1 : List (S50)) (x6_1 : List Int) (x15_1 : Int), v15 = .int .i64 x15_1 ∧ Aside0 (impl_withFencesAt.l0 kq l0 l1 x5_1 x6_1 (wrap64 ((l0.length : Int) + 1)) x15_1 = some r) ∧ Aside0 (kq ≤ k) ∧ Aside0 (Kd.R k50 50 w' w.heap.size (fun _ => True) v5 x5_1) ∧ Aside0 (Kd.R (Kd.int .i64) 3 w' w.heap.size (fun _ => True) v6 x6_1) ∧ Aside0 (Below w.heap.size w w'))
 case atStart => exact ⟨(y1), (y4), (0), sd_, H', ⟨Nat.le_refl _⟩, ⟨by (with_reducible repeat (first | apply Kd.R_alloc | apply Kd.R_drewN | apply Kd.R_drew)); exact HO3.out⟩, ⟨by (with_reducible repeat (first | apply Kd.R_alloc | apply Kd.R_drewN | apply Kd.R_drew)); exact HO6.out⟩, ⟨bw_⟩⟩
 case round =>
  clear H'
  try clear c1
  obtain ⟨x5_1, x6_1, x15_1, rfl, HA, HK1, HO_5, HO_6, HB⟩ := hrel
  cases gk with
  | zero => exact absurd HA.out (by simp [impl_withFencesAt.l0])
  | succ k1 =>
   have H := HA.out
   clear HA
   simp only [impl_withFencesAt.l0] at H
   by_cases c7 : x15_1 < (wrap64 ((l0.length : Int) + 1))
   ·rw [if_pos c7] at H
    have c7b0 : decide (x15_1 < (wrap64 ((l0.length : Int) + 1))) = true := decide_eq_true c7
    clear c7
    by_cases c8 : x6_1.length < 17592186044416
    rotate_left
    ·rw [if_neg c8] at H
     exact absurd H (by simp)
    rw [if_pos c8] at H
    have LMc8 := am_ c8
    clear c8
    obtain ⟨y7, hy7⟩ : ∃ y_ : List Int, y_ = (x6_1 ++ [(x5_1.length : Int)]) := ⟨_, rfl⟩
    replace H : ((slices_Contains_int_int.f k1 l1 x15_1).bind fun t10 => (if t10 = true then (if x5_1.length < 4398046511104 then ((some (x5_1 ++ [(⟨4, 0, 0, 0⟩ : S50)] : List (S50))).bind fun y11 => (if x15_1 < (l0.length : Int) then (if 0 ≤ x15_1 then (if y11.length < 4398046511104 then (impl_withFencesAt.l0 k1 l0 l1 (y11 ++ [(⟨(rd_T50 l0 x15_1).f0, (rd_T50 l0 x15_1).f1, (rd_T50 l0 x15_1).f2, (rd_T50 l0 x15_1).f3⟩ : S50)]) y7 (wrap64 ((l0.length : Int) + 1)) (wrap64 (x15_1 + 1))) else (none)) else (none)) else (impl_withFencesAt.l0 k1 l0 l1 y11 y7 (wrap64 ((l0.length : Int) + 1)) (wrap64 (x15_1 + 1))))) else (none)) else (if x15_1 < (l0.length : Int) then (if 0 ≤ x15_1 then (if x5_1.length < 4398046511104 then (impl_withFencesAt.l0 k1 l0 l1 (x5_1 ++ [(⟨(rd_T50 l0 x15_1).f0, (rd_T50 l0 x15_1).f1, (rd_T50 l0 x15_1).f2, (rd_T50 l0 x15_1).f3⟩ : S50)]) y7 (wrap64 ((l0.length : Int) + 1)) (wrap64 (x15_1 + 1))) else (none)) else (none)) else (impl_withFencesAt.l0 k1 l0 l1 x5_1 y7 (wrap64 ((l0.length : Int) + 1)) (wrap64 (x15_1 + 1)))))) = some r := rh_ hy7
    have Ny7 := am_ hy7
    clear hy7
    replace H := Option.bind_eq_some_iff.mp H
    obtain ⟨t10, A90, H⟩ := H
    replace H : (if t10 = true then (if x5_1.length < 4398046511104 then ((some (x5_1 ++ [(⟨4, 0, 0, 0⟩ : S50)] : List (S50))).bind fun y11 => (if x15_1 < (l0.length : Int) then (if 0 ≤ x15_1 then (if y11.length < 4398046511104 then (impl_withFencesAt.l0 k1 l0 l1 (y11 ++ [(⟨(rd_T50 l0 x15_1).f0, (rd_T50 l0 x15_1).f1, (rd_T50 l0 x15_1).f2, (rd_T50 l0 x15_1).f3⟩ : S50)]) y7 (wrap64 ((l0.length : Int) + 1)) (wrap64 (x15_1 + 1))) else (none)) else (none)) else (impl_withFencesAt.l0 k1 l0 l1 y11 y7 (wrap64 ((l0.length : Int) + 1)) (wrap64 (x15_1 + 1))))) else (none)) else (if x15_1 < (l0.length : Int) then (if 0 ≤ x15_1 then (if x5_1.length < 4398046511104 then (impl_withFencesAt.l0 k1 l0 l1 (x5_1 ++ [(⟨(rd_T50 l0 x15_1).f0, (rd_T50 l0 x15_1).f1, (rd_T50 l0 x15_1).f2, (rd_T50 l0 x15_1).f3⟩ : S50)]) y7 (wrap64 ((l0.length : Int) + 1)) (wrap64 (x15_1 + 1))) else (none)) else (none)) else (impl_withFencesAt.l0 k1 l0 l1 x5_1 y7 (wrap64 ((l0.length : Int) + 1)) (wrap64 (x15_1 + 1))))) = some r := H
    have A9 := am_ A90
    clear A90
    by_cases c10 : t10 = true
    rotate_left
    ·replace c10 := Bool.eq_false_iff.mpr c10
     subst c10
     have H1 : (if x15_1 < (l0.length : Int) then (if 0 ≤ x15_1 then (if x5_1.length < 4398046511104 then (impl_withFencesAt.l0 k1 l0 l1 (x5_1 ++ [(⟨(rd_T50 l0 x15_1).f0, (rd_T50 l0 x15_1).f1, (rd_T50 l0 x15_1).f2, (rd_T50 l0 x15_1).f3⟩ : S50)]) y7 (wrap64 ((l0.length : Int) + 1)) (wrap64 (x15_1 + 1))) else (none)) else (none)) else (impl_withFencesAt.l0 k1 l0 l1 x5_1 y7 (wrap64 ((l0.length : Int) + 1)) (wrap64 (x15_1 + 1)))) = some r := by rw [if_neg (show ¬ (false = true) by decide)] at H; exact H
     clear H
     have H := H1
     clear H1
     by_cases c22 : x15_1 < (l0.length : Int)
     rotate_left
     ·rw [if_neg c22] at H
      have c22b0 : decide (x15_1 < (l0.length : Int)) = false := decide_eq_false c22
      clear c22
      have H' := am_ H
      clear H
      obtain ⟨Ao28, co28, eo28⟩ := Kd.R_slice HO_5.out
      subst eo28
      go_wp2_with (first | ((with_reducible refine gate_builtin (b := .append) (xs := #[.tmp 18, .tmp 21]) rfl ?_); at_builtin; refine Kd.R_append (Kd.int .i64) (w0 := w) w.heap.size rfl (.tmp 18) (.tmp 21) 47 3 (.int .i64 0) 8 rfl Try.underlying47 info3 rfl (by decide) (by omega) u6 x6_1 (x5_1.length : Int) [.int .i64 (x5_1.length : Int)] (fun _ => True) (fun _ => False) rfl rfl ?aP (fun _ hk => hk.elim) ?aF ?aO ?aB ?aS ?aL ?_; (case aP => exact rfl); (case aB => exact bw_); (case aF => exact (fun _ _ => trivial)); (case aO => exact (rx_ HO_6.out)); (case aS => exact (below_size bw_)); (case aL => have := LMc8.out; omega); intro v8 w29 ho hb hg hat; rw [← Ny7.out] at ho; have n0_ := am_ (Kd.R_over' (rx_ HO_5.out) (Kd.R_typed (rx_ HO_6.out)) (by decide) hg); have n1_ := am_ (hb); have n2_ := am_ (ho); clear HO_5; clear HB; clear HO_6; have HO_5 := n0_; have HB := n1_; have HO9 := n2_; clear n0_ n1_ n2_; clear ho hb hg hat) | ((with_reducible refine gate_callee (f := 52) rfl ?_); refine goesL_ (some 25) rfl rfl Try.func52 kr_ rfl #[.slice A1 l1.length c1, .int .i64 x15_1] rfl ar_ ?_; (with_reducible refine (slices_Contains_int_int.calls k1 _ _ l1 x15_1 false _ ?side1 ?side2 A9.out).mono ?_); (case side1 => exact cb_); (case side2 => exact HC1.out); rintro e w' ⟨rfl, ⟨nd, rfl⟩⟩; refine ⟨_, rfl, ?_⟩))
      go_roundg k1
      case measure => have := HK1.out; omega
      case rel => exact ⟨(x5_1), (y7), (wrap64 (x15_1 + 1)), sd_, H', ⟨by have := HK1.out; omega⟩, ⟨by (with_reducible repeat (first | apply Kd.R_alloc | apply Kd.R_drewN | apply Kd.R_drew)); exact HO_5.out⟩, ⟨by (with_reducible repeat (first | apply Kd.R_alloc | apply Kd.R_drewN | apply Kd.R_drew)); exact HO9.out⟩, ⟨bw_⟩⟩
     rw [if_pos c22] at H
     have c22b0 : decide (x15_1 < (l0.length : Int)) = true := decide_eq_true c22
     clear c22
     by_cases c23 : 0 ≤ x15_1
     rotate_left
     ·rw [if_neg c23] at H
      exact absurd H (by simp)
     rw [if_pos c23] at H
     have c23b0 : decide (0 ≤ x15_1) = true := decide_eq_true c23
     clear c23
     by_cases c24 : x5_1.length < 4398046511104
     rotate_left
     ·rw [if_neg c24] at H
      exact absurd H (by simp)
     rw [if_pos c24] at H
     have LMc24 := am_ c24
     clear c24
     obtain ⟨y19, hy19⟩ : ∃ y_ : List (S50), y_ = (x5_1 ++ [(⟨(rd_T50 l0 x15_1).f0, (rd_T50 l0 x15_1).f1, (rd_T50 l0 x15_1).f2, (rd_T50 l0 x15_1).f3⟩ : S50)]) := ⟨_, rfl⟩
     replace H : (impl_withFencesAt.l0 k1 l0 l1 y19 y7 (wrap64 ((l0.length : Int) + 1)) (wrap64 (x15_1 + 1))) = some r := rh_ hy19
     have Ny19 := am_ hy19
     clear hy19
     have H' := am_ H
     clear H
     obtain ⟨Ao25, co25, eo25⟩ := Kd.R_slice HO_5.out
     subst eo25
     go_wp2_with (first | ((with_reducible refine gate_builtin (b := .append) (xs := #[.tmp 18, .tmp 21]) rfl ?_); at_builtin; refine Kd.R_append (Kd.int .i64) (w0 := w) w.heap.size rfl (.tmp 18) (.tmp 21) 47 3 (.int .i64 0) 8 rfl Try.underlying47 info3 rfl (by decide) (by omega) u6 x6_1 (x5_1.length : Int) [.int .i64 (x5_1.length : Int)] (fun _ => True) (fun _ => False) rfl rfl ?aP (fun _ hk => hk.elim) ?aF ?aO ?aB ?aS ?aL ?_; (case aP => exact rfl); (case aB => exact bw_); (case aF => exact (fun _ _ => trivial)); (case aO => exact (rx_ HO_6.out)); (case aS => exact (below_size bw_)); (case aL => have := LMc8.out; omega); intro v8 w26 ho hb hg hat; rw [← Ny7.out] at ho; have n0_ := am_ (Kd.R_over' (rx_ HO_5.out) (Kd.R_typed (rx_ HO_6.out)) (by decide) hg); have n1_ := am_ (hb); have n2_ := am_ (ho); clear HO_5; clear HB; clear HO_6; have HO_5 := n0_; have HB := n1_; have HO9 := n2_; clear n0_ n1_ n2_; clear ho hb hg hat) | ((with_reducible refine gate_callee (f := 52) rfl ?_); refine goesL_ (some 25) rfl rfl Try.func52 kr_ rfl #[.slice A1 l1.length c1, .int .i64 x15_1] rfl ar_ ?_; (with_reducible refine (slices_Contains_int_int.calls k1 _ _ l1 x15_1 false _ ?side1 ?side2 A9.out).mono ?_); (case side1 => exact cb_); (case side2 => exact HC1.out); rintro e w' ⟨rfl, ⟨nd, rfl⟩⟩; refine ⟨_, rfl, ?_⟩; have p18 : 0 ≤ (x15_1 : Int) := od_; have q18 : x15_1 < (l0.length : Int) := od_; obtain ⟨ad18, e18, hx18_0, hx18_1, hx18_2, hx18_3⟩ := at_T50 HR0.out x15_1 p18 q18; cases e18; replace hx18_0 := (HB.out.cell (World.block_lt_of_cell? w _ hx18_0)).trans hx18_0; replace hx18_1 := (HB.out.cell (World.block_lt_of_cell? w _ hx18_1)).trans hx18_1; replace hx18_2 := (HB.out.cell (World.block_lt_of_cell? w _ hx18_2)).trans hx18_2; replace hx18_3 := (HB.out.cell (World.block_lt_of_cell? w _ hx18_3)).trans hx18_3; replace p18 := eq_true p18; replace q18 := eq_true q18) | ((with_reducible refine gate_builtin (b := .append) (xs := #[.tmp 34, .tmp 39]) rfl ?_); at_builtin; refine Kd.R_append k50 (w0 := w) w.heap.size rfl (.tmp 34) (.tmp 39) 46 50 (.agg #[(.int .i64 0), (.int .i64 0), (.int .i64 0), (.int .i64 0)]) 32 rfl Try.underlying46 info50 rfl (by decide) (by omega) (.slice Ao25 x5_1.length co25) x5_1 (⟨(rd_T50 l0 x15_1).f0, (rd_T50 l0 x15_1).f1, (rd_T50 l0 x15_1).f2, (rd_T50 l0 x15_1).f3⟩ : S50) [.int .i64 ((rd_T50 l0 x15_1).f0), .int .i64 ((rd_T50 l0 x15_1).f1), .int .i64 ((rd_T50 l0 x15_1).f2), .int .i64 ((rd_T50 l0 x15_1).f3)] (fun _ => True) (fun _ => False) rfl rfl ?aP (fun _ hk => hk.elim) ?aF ?aO ?aB ?aS ?aL ?_; (case aP => exact k50_mkM _ _ _ (⟨(rd_T50 l0 x15_1).f0, (rd_T50 l0 x15_1).f1, (rd_T50 l0 x15_1).f2, (rd_T50 l0 x15_1).f3⟩ : S50)); (case aB => exact bw_); (case aF => exact (fun _ _ => trivial)); (case aO => exact (rx_ HO_5.out)); (case aS => exact (below_size bw_)); (case aL => have := LMc24.out; omega); intro v20 w27 ho hb hg hat; rw [← Ny19.out] at ho; have n0_ := am_ (Kd.R_over' (rx_ HO9.out) (Kd.R_typed (rx_ HO_5.out)) (by decide) hg); have n1_ := am_ (hb); have n2_ := am_ (ho); clear HO9; clear HB; clear HO_5; have HO9 := n0_; have HB := n1_; have HO21 := n2_; clear n0_ n1_ n2_; clear ho hb hg hat))
     go_roundg k1
     case measure => have := HK1.out; omega
     case rel => exact ⟨(y19), (y7), (wrap64 (x15_1 + 1)), sd_, H', ⟨by have := HK1.out; omega⟩, ⟨by (with_reducible repeat (first | apply Kd.R_alloc | apply Kd.R_drewN | apply Kd.R_drew)); exact HO21.out⟩, ⟨by (with_reducible repeat (first | apply Kd.R_alloc | apply Kd.R_drewN | apply Kd.R_drew)); exact HO9.out⟩, ⟨bw_⟩⟩
    subst c10
    have H1 : (if x5_1.length < 4398046511104 then ((some (x5_1 ++ [(⟨4, 0, 0, 0⟩ : S50)] : List (S50))).bind fun y11 => (if x15_1 < (l0.length : Int) then (if 0 ≤ x15_1 then (if y11.length < 4398046511104 then (impl_withFencesAt.l0 k1 l0 l1 (y11 ++ [(⟨(rd_T50 l0 x15_1).f0, (rd_T50 l0 x15_1).f1, (rd_T50 l0 x15_1).f2, (rd_T50 l0 x15_1).f3⟩ : S50)]) y7 (wrap64 ((l0.length : Int) + 1)) (wrap64 (x15_1 + 1))) else (none)) else (none)) else (impl_withFencesAt.l0 k1 l0 l1 y11 y7 (wrap64 ((l0.length : Int) + 1)) (wrap64 (x15_1 + 1))))) else (none)) = some r := by rw [if_pos rfl] at H; exact H
    clear H
    have H := H1
    clear H1
    by_cases c11 : x5_1.length < 4398046511104
    rotate_left
    ·rw [if_neg c11] at H
     exact absurd H (by simp)
    rw [if_pos c11] at H
    have LMc11 := am_ c11
    clear c11
    obtain ⟨y11, hy11⟩ : ∃ y_ : List (S50), y_ = (x5_1 ++ [(⟨4, 0, 0, 0⟩ : S50)]) := ⟨_, rfl⟩
    replace H : (if x15_1 < (l0.length : Int) then (if 0 ≤ x15_1 then (if y11.length < 4398046511104 then (impl_withFencesAt.l0 k1 l0 l1 (y11 ++ [(⟨(rd_T50 l0 x15_1).f0, (rd_T50 l0 x15_1).f1, (rd_T50 l0 x15_1).f2, (rd_T50 l0 x15_1).f3⟩ : S50)]) y7 (wrap64 ((l0.length : Int) + 1)) (wrap64 (x15_1 + 1))) else (none)) else (none)) else (impl_withFencesAt.l0 k1 l0 l1 y11 y7 (wrap64 ((l0.length : Int) + 1)) (wrap64 (x15_1 + 1)))) = some r := rh_ hy11
    have Ny11 := am_ hy11
    clear hy11
    by_cases c12 : x15_1 < (l0.length : Int)
    rotate_left
    ·rw [if_neg c12] at H
     have c12b0 : decide (x15_1 < (l0.length : Int)) = false := decide_eq_false c12
     clear c12
     have H' := am_ H
     clear H
     obtain ⟨Ao19, co19, eo19⟩ := Kd.R_slice HO_5.out
     subst eo19
     go_wp2_with (first | ((with_reducible refine gate_builtin (b := .append) (xs := #[.tmp 18, .tmp 21]) rfl ?_); at_builtin; refine Kd.R_append (Kd.int .i64) (w0 := w) w.heap.size rfl (.tmp 18) (.tmp 21) 47 3 (.int .i64 0) 8 rfl Try.underlying47 info3 rfl (by decide) (by omega) u6 x6_1 (x5_1.length : Int) [.int .i64 (x5_1.length : Int)] (fun _ => True) (fun _ => False) rfl rfl ?aP (fun _ hk => hk.elim) ?aF ?aO ?aB ?aS ?aL ?_; (case aP => exact rfl); (case aB => exact bw_); (case aF => exact (fun _ _ => trivial)); (case aO => exact (rx_ HO_6.out)); (case aS => exact (below_size bw_)); (case aL => have := LMc8.out; omega); intro v8 w20 ho hb hg hat; rw [← Ny7.out] at ho; have n0_ := am_ (Kd.R_over' (rx_ HO_5.out) (Kd.R_typed (rx_ HO_6.out)) (by decide) hg); have n1_ := am_ (hb); have n2_ := am_ (ho); clear HO_5; clear HB; clear HO_6; have HO_5 := n0_; have HB := n1_; have HO9 := n2_; clear n0_ n1_ n2_; clear ho hb hg hat) | ((with_reducible refine gate_callee (f := 52) rfl ?_); refine goesL_ (some 25) rfl rfl Try.func52 kr_ rfl #[.slice A1 l1.length c1, .int .i64 x15_1] rfl ar_ ?_; (with_reducible refine (slices_Contains_int_int.calls k1 _ _ l1 x15_1 true _ ?side1 ?side2 A9.out).mono ?_); (case side1 => exact cb_); (case side2 => exact HC1.out); rintro e w' ⟨rfl, ⟨nd, rfl⟩⟩; refine ⟨_, rfl, ?_⟩) | ((with_reducible refine gate_builtin (b := .append) (xs := #[.tmp 26, .tmp 28]) rfl ?_); at_builtin; refine Kd.R_append k50 (w0 := w) w.heap.size rfl (.tmp 26) (.tmp 28) 46 50 (.agg #[(.int .i64 0), (.int .i64 0), (.int .i64 0), (.int .i64 0)]) 32 rfl Try.underlying46 info50 rfl (by decide) (by omega) (.slice Ao19 x5_1.length co19) x5_1 (⟨4, 0, 0, 0⟩ : S50) [.int .i64 4, .int .i64 0, .int .i64 0, .int .i64 0] (fun _ => True) (fun _ => False) rfl rfl ?aP (fun _ hk => hk.elim) ?aF ?aO ?aB ?aS ?aL ?_; (case aP => exact k50_mkM _ _ _ (⟨4, 0, 0, 0⟩ : S50)); (case aB => exact bw_); (case aF => exact (fun _ _ => trivial)); (case aO => exact (rx_ HO_5.out)); (case aS => exact (below_size bw_)); (case aL => have := LMc11.out; omega); intro v12 w21 ho hb hg hat; rw [← Ny11.out] at ho; have n0_ := am_ (Kd.R_over' (rx_ HO9.out) (Kd.R_typed (rx_ HO_5.out)) (by decide) hg); have n1_ := am_ (hb); have n2_ := am_ (ho); clear HO9; clear HB; clear HO_5; have HO9 := n0_; have HB := n1_; have HO13 := n2_; clear n0_ n1_ n2_; clear ho hb hg hat))
     go_roundg k1
     case measure => have := HK1.out; omega
     case rel => exact ⟨(y11), (y7), (wrap64 (x15_1 + 1)), sd_, H', ⟨by have := HK1.out; omega⟩, ⟨by (with_reducible repeat (first | apply Kd.R_alloc | apply Kd.R_drewN | apply Kd.R_drew)); exact HO13.out⟩, ⟨by (with_reducible repeat (first | apply Kd.R_alloc | apply Kd.R_drewN | apply Kd.R_drew)); exact HO9.out⟩, ⟨bw_⟩⟩
    rw [if_pos c12] at H
    have c12b0 : decide (x15_1 < (l0.length : Int)) = true := decide_eq_true c12
    clear c12
    by_cases c13 : 0 ≤ x15_1
    rotate_left
    ·rw [if_neg c13] at H
     exact absurd H (by simp)
    rw [if_pos c13] at H
    have c13b0 : decide (0 ≤ x15_1) = true := decide_eq_true c13
    clear c13
    by_cases c14 : y11.length < 4398046511104
    rotate_left
    ·rw [if_neg c14] at H
     exact absurd H (by simp)
    rw [if_pos c14] at H
    have LMc14 := am_ c14
    clear c14
    obtain ⟨y15, hy15⟩ : ∃ y_ : List (S50), y_ = (y11 ++ [(⟨(rd_T50 l0 x15_1).f0, (rd_T50 l0 x15_1).f1, (rd_T50 l0 x15_1).f2, (rd_T50 l0 x15_1).f3⟩ : S50)]) := ⟨_, rfl⟩
    replace H : (impl_withFencesAt.l0 k1 l0 l1 y15 y7 (wrap64 ((l0.length : Int) + 1)) (wrap64 (x15_1 + 1))) = some r := rh_ hy15
    have Ny15 := am_ hy15
    clear hy15
    have H' := am_ H
    clear H
    obtain ⟨Ao15, co15, eo15⟩ := Kd.R_slice HO_5.out
    subst eo15
    go_wp2_with (first | ((with_reducible refine gate_builtin (b := .append) (xs := #[.tmp 18, .tmp 21]) rfl ?_); at_builtin; refine Kd.R_append (Kd.int .i64) (w0 := w) w.heap.size rfl (.tmp 18) (.tmp 21) 47 3 (.int .i64 0) 8 rfl Try.underlying47 info3 rfl (by decide) (by omega) u6 x6_1 (x5_1.length : Int) [.int .i64 (x5_1.length : Int)] (fun _ => True) (fun _ => False) rfl rfl ?aP (fun _ hk => hk.elim) ?aF ?aO ?aB ?aS ?aL ?_; (case aP => exact rfl); (case aB => exact bw_); (case aF => exact (fun _ _ => trivial)); (case aO => exact (rx_ HO_6.out)); (case aS => exact (below_size bw_)); (case aL => have := LMc8.out; omega); intro v8 w16 ho hb hg hat; rw [← Ny7.out] at ho; have n0_ := am_ (Kd.R_over' (rx_ HO_5.out) (Kd.R_typed (rx_ HO_6.out)) (by decide) hg); have n1_ := am_ (hb); have n2_ := am_ (ho); clear HO_5; clear HB; clear HO_6; have HO_5 := n0_; have HB := n1_; have HO9 := n2_; clear n0_ n1_ n2_; clear ho hb hg hat) | ((with_reducible refine gate_callee (f := 52) rfl ?_); refine goesL_ (some 25) rfl rfl Try.func52 kr_ rfl #[.slice A1 l1.length c1, .int .i64 x15_1] rfl ar_ ?_; (with_reducible refine (slices_Contains_int_int.calls k1 _ _ l1 x15_1 true _ ?side1 ?side2 A9.out).mono ?_); (case side1 => exact cb_); (case side2 => exact HC1.out); rintro e w' ⟨rfl, ⟨nd, rfl⟩⟩; refine ⟨_, rfl, ?_⟩) | ((with_reducible refine gate_builtin (b := .append) (xs := #[.tmp 26, .tmp 28]) rfl ?_); at_builtin; refine Kd.R_append k50 (w0 := w) w.heap.size rfl (.tmp 26) (.tmp 28) 46 50 (.agg #[(.int .i64 0), (.int .i64 0), (.int .i64 0), (.int .i64 0)]) 32 rfl Try.underlying46 info50 rfl (by decide) (by omega) (.slice Ao15 x5_1.length co15) x5_1 (⟨4, 0, 0, 0⟩ : S50) [.int .i64 4, .int .i64 0, .int .i64 0, .int .i64 0] (fun _ => True) (fun _ => False) rfl rfl ?aP (fun _ hk => hk.elim) ?aF ?aO ?aB ?aS ?aL ?_; (case aP => exact k50_mkM _ _ _ (⟨4, 0, 0, 0⟩ : S50)); (case aB => exact bw_); (case aF => exact (fun _ _ => trivial)); (case aO => exact (rx_ HO_5.out)); (case aS => exact (below_size bw_)); (case aL => have := LMc11.out; omega); intro v12 w17 ho hb hg hat; rw [← Ny11.out] at ho; have n0_ := am_ (Kd.R_over' (rx_ HO9.out) (Kd.R_typed (rx_ HO_5.out)) (by decide) hg); have n1_ := am_ (hb); have n2_ := am_ (ho); clear HO9; clear HB; clear HO_5; have HO9 := n0_; have HB := n1_; have HO13 := n2_; clear n0_ n1_ n2_; clear ho hb hg hat; have p14 : 0 ≤ (x15_1 : Int) := od_; have q14 : x15_1 < (l0.length : Int) := od_; obtain ⟨ad14, e14, hx14_0, hx14_1, hx14_2, hx14_3⟩ := at_T50 HR0.out x15_1 p14 q14; cases e14; replace hx14_0 := (HB.out.cell (World.block_lt_of_cell? w _ hx14_0)).trans hx14_0; replace hx14_1 := (HB.out.cell (World.block_lt_of_cell? w _ hx14_1)).trans hx14_1; replace hx14_2 := (HB.out.cell (World.block_lt_of_cell? w _ hx14_2)).trans hx14_2; replace hx14_3 := (HB.out.cell (World.block_lt_of_cell? w _ hx14_3)).trans hx14_3; replace p14 := eq_true p14; replace q14 := eq_true q14) | ((with_reducible refine gate_builtin (b := .append) (xs := #[.tmp 34, .tmp 39]) rfl ?_); at_builtin; refine Kd.R_append k50 (w0 := w) w.heap.size rfl (.tmp 34) (.tmp 39) 46 50 (.agg #[(.int .i64 0), (.int .i64 0), (.int .i64 0), (.int .i64 0)]) 32 rfl Try.underlying46 info50 rfl (by decide) (by omega) v12 y11 (⟨(rd_T50 l0 x15_1).f0, (rd_T50 l0 x15_1).f1, (rd_T50 l0 x15_1).f2, (rd_T50 l0 x15_1).f3⟩ : S50) [.int .i64 ((rd_T50 l0 x15_1).f0), .int .i64 ((rd_T50 l0 x15_1).f1), .int .i64 ((rd_T50 l0 x15_1).f2), .int .i64 ((rd_T50 l0 x15_1).f3)] (fun _ => True) (fun _ => False) rfl rfl ?aP (fun _ hk => hk.elim) ?aF ?aO ?aB ?aS ?aL ?_; (case aP => exact k50_mkM _ _ _ (⟨(rd_T50 l0 x15_1).f0, (rd_T50 l0 x15_1).f1, (rd_T50 l0 x15_1).f2, (rd_T50 l0 x15_1).f3⟩ : S50)); (case aB => exact bw_); (case aF => exact (fun _ _ => trivial)); (case aO => exact (rx_ HO13.out)); (case aS => exact (below_size bw_)); (case aL => have := LMc14.out; omega); intro v16 w18 ho hb hg hat; rw [← Ny15.out] at ho; have n0_ := am_ (Kd.R_over' (rx_ HO9.out) (Kd.R_typed (rx_ HO13.out)) (by decide) hg); have n1_ := am_ (hb); have n2_ := am_ (ho); clear HO9; clear HB; clear HO13; have HO9 := n0_; have HB := n1_; have HO17 := n2_; clear n0_ n1_ n2_; clear ho hb hg hat))
    go_roundg k1
    case measure => have := HK1.out; omega
    case rel => exact ⟨(y15), (y7), (wrap64 (x15_1 + 1)), sd_, H', ⟨by have := HK1.out; omega⟩, ⟨by (with_reducible repeat (first | apply Kd.R_alloc | apply Kd.R_drewN | apply Kd.R_drew)); exact HO17.out⟩, ⟨by (with_reducible repeat (first | apply Kd.R_alloc | apply Kd.R_drewN | apply Kd.R_drew)); exact HO9.out⟩, ⟨bw_⟩⟩
   rw [if_neg c7] at H
   have c7b0 : decide (x15_1 < (wrap64 ((l0.length : Int) + 1))) = false := decide_eq_false c7
   clear c7
   have H' := am_ H
   clear H
   obtain ⟨Ao30, co30, eo30⟩ := Kd.R_slice HO_5.out
   subst eo30
   go_wp2
   go_loopg [44] k1 (fun kq v44 w' => ∃ (x5_2 : List (S50)) (x44_2 : Int), v44 = .int .i64 x44_2 ∧ Aside0 (impl_withFencesAt.l1 kq x5_2 x6_1 (x5_1.length : Int) x44_2 = some r) ∧ Aside0 (kq ≤ k1) ∧ Aside0 (Kd.R k50 50 w' w.heap.size (fun _ => True) (.slice Ao30 x5_1.length co30) x5_2) ∧ Aside0 (Kd.R (Kd.int .i64) 3 w' w.heap.size (fun _ => True) u6 x6_1) ∧ Aside0 (Below w.heap.size w w'))
   case atStart => exact ⟨(x5_1), (0), sd_, H', ⟨Nat.le_refl _⟩, ⟨by (with_reducible repeat (first | apply Kd.R_alloc | apply Kd.R_drewN | apply Kd.R_drew)); exact HO_5.out⟩, ⟨by (with_reducible repeat (first | apply Kd.R_alloc | apply Kd.R_drewN | apply Kd.R_drew)); exact HO_6.out⟩, ⟨bw_⟩⟩
   case round =>
    clear H'
    try clear c1
    try clear c7
    try clear c7b0
    try clear c8
    try clear c10
    try clear c11
    try clear c12
    try clear c12b0
    try clear c13
    try clear c13b0
    try clear c14
    try clear p14
    try clear q14
    try clear p18
    try clear q18
    try clear c22
    try clear c22b0
    try clear c23
    try clear c23b0
    try clear c24
    try clear hx14_0
    try clear hx14_1
    try clear hx14_2
    try clear hx14_3
    try clear hx18_0
    try clear hx18_1
    try clear hx18_2
    try clear hx18_3
    try clear p14
    try clear p18
    try clear q14
    try clear q18
    obtain ⟨x5_2, x44_2, rfl, HA, HK2, HO_5, HO_6, HB⟩ := hrel
    have hl5_2 := (Kd.R_reads' HO_5.out).1
    rw [hl5_2] at HO_5
    (try simp only [hl5_2])
    (try simp only [hl5_2] at HO_6)
    cases gk with
    | zero => exact absurd HA.out (by simp [impl_withFencesAt.l1])
    | succ k2 =>
     have H := HA.out
     clear HA
     simp only [impl_withFencesAt.l1] at H
     by_cases c31 : x44_2 < (x5_1.length : Int)
     rotate_left
     ·rw [if_neg c31] at H
      have c31b0 : decide (x44_2 < (x5_1.length : Int)) = false := decide_eq_false c31
      (try rw [hl5_2] at c31b0)
      clear c31
      obtain rfl := Option.some.inj H
      go_wp2
      go_ret
      exact ⟨_, rr_, by (with_reducible repeat (first | apply Kd.R_alloc | apply Kd.R_drewN | apply Kd.R_drew)); exact HO_5.out, bw_⟩
     rw [if_pos c31] at H
     have c31b0 : decide (x44_2 < (x5_1.length : Int)) = true := decide_eq_true c31
     clear c31
     by_cases c32 : 0 ≤ x44_2
     rotate_left
     ·rw [if_neg c32] at H
      exact absurd H (by simp)
     rw [if_pos c32] at H
     have c32b0 : decide (0 ≤ x44_2) = true := decide_eq_true c32
     clear c32
     by_cases c33 : x44_2 < (x5_2.length : Int)
     rotate_left
     ·rw [if_neg c33] at H
      exact absurd H (by simp)
     rw [if_pos c33] at H
     have c33b0 : decide (x44_2 < (x5_2.length : Int)) = true := decide_eq_true c33
     clear c33
     by_cases c34 : ((rd_T50 x5_2 x44_2).f0) = 6
     rotate_left
     ·rw [if_neg c34] at H
      have c34b0 : (((rd_T50 x5_2 x44_2).f0) == 6) = false := beq_eq_false_iff_ne.mpr c34
      have c34b1 : (((rd_T50 x5_2 x44_2).f0) != 6) = true := bne_iff_ne.mpr c34
      have H' := am_ H
      clear H
      have p22 : 0 ≤ (x44_2 : Int) := od_
      have q22 : x44_2 < (x5_2.length : Int) := od_
      obtain ⟨ad22, e22, hx22_0, hx22_1, hx22_2, hx22_3⟩ := at_T50 (Kd.R_reads' HO_5.out).2.2 x44_2 p22 q22
      cases e22
      replace p22 := eq_true p22
      replace q22 := eq_true q22
      go_wp2_with (first | ((with_reducible refine gate_dst (N := 9) rfl ?_); refine box_event ?hg (N := 9) ?hd (cs := #[.int .i64 0, .int .i64 0, .int .i64 0, .int .i64 0]) (t := 50) ?hr ?_; (case hd => rfl); (case hg => rfl); (case hr => exact hrr_); intro gb23 hg w45 hbox hb; have n0_ := am_ (Kd.R_below (Kd.R_elderB (rx_ HO_5.out) gb23 (Nat.le_of_eq hg.symm)) hb); have n1_ := am_ (Kd.R_below (rx_ HO_6.out) hb); have n2_ := bs_ hb; have n3_ := am_ (hbox); have n4_ := ge_ (w := w) hg; have n5_ := ge_ (w := w) hg; clear HO_5; clear HO_6; clear HB; have HO_5 := n0_; have HO_6 := n1_; have HB := n2_; have BK23 := n3_; have GW23 := n4_; have GE23 := n5_; clear n0_ n1_ n2_ n3_ n4_ n5_; clear hb hbox hg; obtain ⟨hcz46_0, hcz46_1, hcz46_2, hcz46_3, hfz46_0, hfz46_1, hfz46_2, hfz46_3⟩ := bc4_ BK23.out))
      (try simp only [← hl5_2])
      go_roundg k2
      case measure => have := HK1.out; have := HK2.out; omega
      case rel => exact ⟨(x5_2), (wrap64 (x44_2 + 1)), sd_, H', ⟨by have := HK1.out; have := HK2.out; omega⟩, ⟨by (try simp only [hl5_2]); (with_reducible repeat (first | apply Kd.R_alloc | apply Kd.R_drewN | apply Kd.R_drew)); exact Kd.R_mono (Kd.R_far (p := ⟨gb23, 3, none⟩) (Kd.R_far (p := ⟨gb23, 2, none⟩) (Kd.R_far (p := ⟨gb23, 1, none⟩) (Kd.R_far (p := ⟨gb23, 0, none⟩) (Kd.R_mono HO_5.out (fun k_ hk => (⟨hk, hk.2⟩ : _ ∧ k_ ≠ gb23))) (fun _ hk => hk.2) (.int .i64 ((rd_T50 x5_2 x44_2).f0))) (fun _ hk => hk.2) (.int .i64 ((rd_T50 x5_2 x44_2).f1))) (fun _ hk => hk.2) (.int .i64 ((rd_T50 x5_2 x44_2).f2))) (fun _ hk => hk.2) (.int .i64 ((rd_T50 x5_2 x44_2).f3))) (fun _ hk => trivial)⟩, ⟨by (try simp only [hl5_2]); (with_reducible repeat (first | apply Kd.R_alloc | apply Kd.R_drewN | apply Kd.R_drew)); exact Kd.R_mono (Kd.R_far (p := ⟨gb23, 3, none⟩) (Kd.R_far (p := ⟨gb23, 2, none⟩) (Kd.R_far (p := ⟨gb23, 1, none⟩) (Kd.R_far (p := ⟨gb23, 0, none⟩) (Kd.R_types HO_6.out BK23.out (by decide)) (fun _ hk => hk.2) (.int .i64 ((rd_T50 x5_2 x44_2).f0))) (fun _ hk => hk.2) (.int .i64 ((rd_T50 x5_2 x44_2).f1))) (fun _ hk => hk.2) (.int .i64 ((rd_T50 x5_2 x44_2).f2))) (fun _ hk => hk.2) (.int .i64 ((rd_T50 x5_2 x44_2).f3))) (fun _ hk => trivial)⟩, ⟨bw_⟩⟩
     rw [if_pos c34] at H
     have c34b0 : (((rd_T50 x5_2 x44_2).f0) == 6) = true := beq_iff_eq.mpr c34
     have c34b1 : (((rd_T50 x5_2 x44_2).f0) != 6) = false := bne_eq_false_iff_eq.mpr c34
     clear c34
     by_cases c35 : 0 ≤ ((rd_T50 x5_2 x44_2).f3)
     rotate_left
     ·rw [if_neg c35] at H
      exact absurd H (by simp)
     rw [if_pos c35] at H
     have c35b0 : decide (0 ≤ ((rd_T50 x5_2 x44_2).f3)) = true := decide_eq_true c35
     clear c35
     by_cases c36 : ((rd_T50 x5_2 x44_2).f3) < (x6_1.length : Int)
     rotate_left
     ·rw [if_neg c36] at H
      exact absurd H (by simp)
     rw [if_pos c36] at H
     have c36b0 : decide (((rd_T50 x5_2 x44_2).f3) < (x6_1.length : Int)) = true := decide_eq_true c36
     clear c36
     obtain ⟨y25, hy25⟩ : ∃ y_ : List (S50), y_ = (x5_2.set (x44_2 : Int).toNat (⟨(rd_T50 x5_2 x44_2).f0, (rd_T50 x5_2 x44_2).f1, (rd_T50 x5_2 x44_2).f2, rd x6_1 ((rd_T50 x5_2 x44_2).f3)⟩ : S50)) := ⟨_, rfl⟩
     replace H : (impl_withFencesAt.l1 k2 y25 x6_1 (x5_1.length : Int) (wrap64 (x44_2 + 1))) = some r := rh_ hy25
     have Ny25 := am_ hy25
     clear hy25
     have H' := am_ H
     clear H
     have p22 : 0 ≤ (x44_2 : Int) := od_
     have q22 : x44_2 < (x5_2.length : Int) := od_
     obtain ⟨ad22, e22, hx22_0, hx22_1, hx22_2, hx22_3⟩ := at_T50 (Kd.R_reads' HO_5.out).2.2 x44_2 p22 q22
     cases e22
     replace p22 := eq_true p22
     replace q22 := eq_true q22
     go_wp2_with (first | ((with_reducible refine gate_dst (N := 9) rfl ?_); refine box_event ?hg (N := 9) ?hd (cs := #[.int .i64 0, .int .i64 0, .int .i64 0, .int .i64 0]) (t := 50) ?hr ?_; (case hd => rfl); (case hg => rfl); (case hr => exact hrr_); intro gb23 hg w38 hbox hb; have n0_ := am_ (Kd.R_below (Kd.R_elderB (rx_ HO_5.out) gb23 (Nat.le_of_eq hg.symm)) hb); have n1_ := am_ (Kd.R_below (rx_ HO_6.out) hb); have n2_ := bs_ hb; have n3_ := am_ (hbox); have n4_ := ge_ (w := w) hg; have n5_ := ge_ (w := w) hg; clear HO_5; clear HO_6; clear HB; have HO_5 := n0_; have HO_6 := n1_; have HB := n2_; have BK23 := n3_; have GW23 := n4_; have GE23 := n5_; clear n0_ n1_ n2_ n3_ n4_ n5_; clear hb hbox hg; obtain ⟨hcz39_0, hcz39_1, hcz39_2, hcz39_3, hfz39_0, hfz39_1, hfz39_2, hfz39_3⟩ := bc4_ BK23.out) | ((with_reducible refine gate_store (t := 50) (p := 9) rfl ?_); refine store_event (t := 50) (p := 9) (v := ?vo_w40) (w1 := ((((w38.setCell ⟨gb23, 0, none⟩ (.int .i64 ((rd_T50 x5_2 x44_2).f0))).setCell ⟨gb23, 1, none⟩ (.int .i64 ((rd_T50 x5_2 x44_2).f1))).setCell ⟨gb23, 2, none⟩ (.int .i64 ((rd_T50 x5_2 x44_2).f2))).setCell ⟨gb23, 3, none⟩ (.int .i64 ((rd_T50 x5_2 x44_2).f3)))) ?hg ?ho ?hn ?hr ?_; (case ho => rfl); (case hg => rfl); (case hn => rfl); (case hr => first | (go_simp; done) | (go_simp; rfl)); intro w40 hw; have n0_ : Aside0 (Kd.R k50 50 w40 w.heap.size (fun k_ => k_ ≠ gb23) (.slice (some ad22) x5_2.length co30) x5_2) := ⟨(by rw [hw]; exact (by (with_reducible repeat (first | apply Kd.R_alloc | apply Kd.R_drewN | apply Kd.R_drew)); exact Kd.R_mono (Kd.R_far (p := ⟨gb23, 3, none⟩) (Kd.R_far (p := ⟨gb23, 2, none⟩) (Kd.R_far (p := ⟨gb23, 1, none⟩) (Kd.R_far (p := ⟨gb23, 0, none⟩) (Kd.R_mono HO_5.out (fun k_ hk => (⟨hk, hk.2⟩ : _ ∧ k_ ≠ gb23))) (fun _ hk => hk.2) (.int .i64 ((rd_T50 x5_2 x44_2).f0))) (fun _ hk => hk.2) (.int .i64 ((rd_T50 x5_2 x44_2).f1))) (fun _ hk => hk.2) (.int .i64 ((rd_T50 x5_2 x44_2).f2))) (fun _ hk => hk.2) (.int .i64 ((rd_T50 x5_2 x44_2).f3))) (fun _ hk => hk.1.2)))⟩; have n1_ : Aside0 (Kd.R (Kd.int .i64) 3 w40 w.heap.size (fun _ => True) u6 x6_1) := ⟨(by rw [hw]; exact (by (with_reducible repeat (first | apply Kd.R_alloc | apply Kd.R_drewN | apply Kd.R_drew)); exact Kd.R_mono (Kd.R_far (p := ⟨gb23, 3, none⟩) (Kd.R_far (p := ⟨gb23, 2, none⟩) (Kd.R_far (p := ⟨gb23, 1, none⟩) (Kd.R_far (p := ⟨gb23, 0, none⟩) (Kd.R_types HO_6.out BK23.out (by decide)) (fun _ hk => hk.2) (.int .i64 ((rd_T50 x5_2 x44_2).f0))) (fun _ hk => hk.2) (.int .i64 ((rd_T50 x5_2 x44_2).f1))) (fun _ hk => hk.2) (.int .i64 ((rd_T50 x5_2 x44_2).f2))) (fun _ hk => hk.2) (.int .i64 ((rd_T50 x5_2 x44_2).f3))) (fun _ hk => trivial)))⟩; have n2_ : Aside0 (w40.heap[gb23]? = some (.cells #[.int .i64 ((rd_T50 x5_2 x44_2).f0), .int .i64 ((rd_T50 x5_2 x44_2).f1), .int .i64 ((rd_T50 x5_2 x44_2).f2), .int .i64 ((rd_T50 x5_2 x44_2).f3)] 50 (0, 0))) := ⟨(by rw [hw]; exact (by (with_reducible repeat (first | refine blk_drewN ?_ _ | refine blk_drew ?_ | refine blk_alloc ?_ _)); refine blk_put (cs := #[.int .i64 ((rd_T50 x5_2 x44_2).f0), .int .i64 ((rd_T50 x5_2 x44_2).f1), .int .i64 ((rd_T50 x5_2 x44_2).f2), .int .i64 0]) ?_ 3 _ rfl; (with_reducible repeat (first | refine blk_drewN ?_ _ | refine blk_drew ?_ | refine blk_alloc ?_ _)); refine blk_put (cs := #[.int .i64 ((rd_T50 x5_2 x44_2).f0), .int .i64 ((rd_T50 x5_2 x44_2).f1), .int .i64 0, .int .i64 0]) ?_ 2 _ rfl; (with_reducible repeat (first | refine blk_drewN ?_ _ | refine blk_drew ?_ | refine blk_alloc ?_ _)); refine blk_put (cs := #[.int .i64 ((rd_T50 x5_2 x44_2).f0), .int .i64 0, .int .i64 0, .int .i64 0]) ?_ 1 _ rfl; (with_reducible repeat (first | refine blk_drewN ?_ _ | refine blk_drew ?_ | refine blk_alloc ?_ _)); refine blk_put (cs := #[.int .i64 0, .int .i64 0, .int .i64 0, .int .i64 0]) ?_ 0 _ rfl; exact bk_))⟩; have n3_ : Aside0 (Below w.heap.size w w40) := ⟨(by rw [hw]; exact bw_)⟩; clear hw; clear HO_5; clear HO_6; clear BK23; clear HB; have HO_5 := n0_; have HO_6 := n1_; have BK23 := n2_; have HB := n3_; clear n0_ n1_ n2_ n3_; obtain ⟨hcz41_0, hcz41_1, hcz41_2, hcz41_3, hfz41_0, hfz41_1, hfz41_2, hfz41_3⟩ := bc4_ BK23.out; obtain ⟨Ao42, co42, eo42⟩ := Kd.R_slice HO_6.out; subst eo42; have p24 : 0 ≤ (((rd_T50 x5_2 x44_2).f3) : Int) := od_; have q24 : ((rd_T50 x5_2 x44_2).f3) < (x6_1.length : Int) := od_; obtain ⟨ad24, e24, hx24_0⟩ := Kd.at_int (Kd.R_reads' HO_6.out).2.2 ((rd_T50 x5_2 x44_2).f3) p24 q24; cases e24; replace p24 := eq_true p24; replace q24 := eq_true q24; have p37 : 0 ≤ (x44_2 : Int) := od_; have q37 : (x44_2 : Int) < ((x5_2.length : Int) : Int) := od_; obtain ⟨go37, co37, eo37, gb37, gl37, cl37, HG37⟩ := Kd.R_form HO_5.out (by omega); (first | cases eo37 | (injection eo37 with ea_ en_ ec_; (first | subst ea_ | (injection ea_ with ea_; subst ea_)); subst ec_; clear en_)); have GB37 := am_ gb37; have GG37 := am_ HG37; clear gb37 gl37 HG37; (first | simp only [add_plain] at hx22_0 | skip); (first | simp only [add_plain] at hx22_1 | skip); (first | simp only [add_plain] at hx22_2 | skip); (first | simp only [add_plain] at hx22_3 | skip); obtain ⟨ce37, hcl37, hM37, hcc37, hfr37⟩ := Kd.R_elem HO_5.out z50 (x44_2 : Int) p37 q37; obtain rfl := k50_openM hM37; have hx37_0 : w40.cell? ⟨go37, (x44_2 : Int).toNat * 4, none⟩ = some (.int .i64 ((rd_T50 x5_2 x44_2).f0)) := hcc37 0 _ rfl; have hx37_1 : w40.cell? ⟨go37, (x44_2 : Int).toNat * 4 + 1, none⟩ = some (.int .i64 ((rd_T50 x5_2 x44_2).f1)) := hcc37 1 _ rfl; have hx37_2 : w40.cell? ⟨go37, (x44_2 : Int).toNat * 4 + 2, none⟩ = some (.int .i64 ((rd_T50 x5_2 x44_2).f2)) := hcc37 2 _ rfl; have hx37_3 : w40.cell? ⟨go37, (x44_2 : Int).toNat * 4 + 3, none⟩ = some (.int .i64 ((rd_T50 x5_2 x44_2).f3)) := hcc37 3 _ rfl; have hf37_0 : w40.frozen? ⟨go37, (x44_2 : Int).toNat * 4, none⟩ = false := hfr37 0; have hf37_1 : w40.frozen? ⟨go37, (x44_2 : Int).toNat * 4 + 1, none⟩ = false := hfr37 1; have hf37_2 : w40.frozen? ⟨go37, (x44_2 : Int).toNat * 4 + 2, none⟩ = false := hfr37 2; have hf37_3 : w40.frozen? ⟨go37, (x44_2 : Int).toNat * 4 + 3, none⟩ = false := hfr37 3; (try clear hcl37); (try clear hcc37); (try clear hfr37); (try clear hM37); replace p37 := eq_true p37; replace q37 := eq_true q37; have HX43 := am_ (show Kd.R k50 50 w40 w.heap.size (fun k_ => k_ ≠ gb23) (.slice (some ⟨go37, 0, none⟩) x5_2.length co30) x5_2 from (rx_ HO_5.out)); obtain ⟨ce43, hcl43, hM43, hcc43, hfr43⟩ := Kd.R_elem HX43.out z50 (x44_2 : Int) (od_) (by have h_ : (x44_2 : Int) < ((x5_2.length : Int) : Int) := od_; first | exact h_ | (have e_ := (Kd.R_reads' HO_5.out).1; omega) | simpa using h_); obtain rfl := k50_openM hM43; have HP43 := Kd.R_seg HX43.out (x44_2 : Int) (od_) (by have h_ : (x44_2 : Int) < ((x5_2.length : Int) : Int) := od_; first | exact h_ | (have e_ := (Kd.R_reads' HO_5.out).1; omega) | simpa using h_) (seg := [.int .i64 (rd x6_1 ((rd_T50 x5_2 x44_2).f3))]) (j := 3) hcl43 hcc43 (show 4 ≤ 4 from by decide) (x' := (⟨(rd_T50 x5_2 x44_2).f0, (rd_T50 x5_2 x44_2).f1, (rd_T50 x5_2 x44_2).f2, rd x6_1 ((rd_T50 x5_2 x44_2).f3)⟩ : S50)) (k50_mkM _ _ _ (⟨(rd_T50 x5_2 x44_2).f0, (rd_T50 x5_2 x44_2).f1, (rd_T50 x5_2 x44_2).f2, rd x6_1 ((rd_T50 x5_2 x44_2).f3)⟩ : S50) ) (fun _ hk => hk); have hx43_3 := hcc43 3 _ rfl; (try simp only [show (k50).sz = 4 from rfl, Nat.mul_one, Nat.add_zero] at hx43_3); have hf43_3 := hfr43 3; (try simp only [show (k50).sz = 4 from rfl, Nat.mul_one, Nat.add_zero] at hf43_3); (try clear hcl43); (try clear hcc43); (try clear hfr43); (try clear hM43)) | ((with_reducible refine gate_store (t := 3) (p := 60) rfl ?_); refine store_event (t := 3) (p := 60) (v := ?vo_w44) (w1 := (w40.setCell ⟨go37, (x44_2 : Int).toNat * 4 + 3, none⟩ (.int .i64 (rd x6_1 ((rd_T50 x5_2 x44_2).f3))))) ?hg ?ho ?hn ?hr ?_; (case ho => rfl); (case hg => rfl); (case hn => rfl); (case hr => first | (go_simp; done) | (go_simp; rfl)); intro w44 hw; have hg : w40.grownBy w44 (some go37) := (by rw [hw]; exact HP43.2); have hp_ : Kd.R k50 50 w44 w.heap.size (fun k_ => k_ ≠ gb23) (.slice (some ⟨go37, 0, none⟩) x5_2.length co30) y25 := (by rw [hw, Ny25.out]; exact HP43.1); clear HP43; have n0_ := am_ (hp_); have n1_ := am_ (Kd.R_over' (v := (.slice (some ⟨go37, 0, none⟩) x5_2.length co30)) (rx_ HO_6.out) (Kd.R_typed HO_5.out) (by decide) hg); have n2_ := am_ (blk_grown (g := gb23) (o := .cells #[.int .i64 ((rd_T50 x5_2 x44_2).f0), .int .i64 ((rd_T50 x5_2 x44_2).f1), .int .i64 ((rd_T50 x5_2 x44_2).f2), .int .i64 ((rd_T50 x5_2 x44_2).f3)] 50 (0, 0)) bk_ hg (Kd.R_away HO_5.out (fun _ hk => hk))); have n3_ := am_ ((by rw [hw]; exact below_set (HB.out) GB37.out : Below w.heap.size w w44)); clear HO_5; clear HO_6; clear BK23; clear HB; have HO_5 := n0_; have HO_6 := n1_; have BK23 := n2_; have HB := n3_; clear n0_ n1_ n2_ n3_; clear hg hw hp_))
     (try simp only [← hl5_2])
     go_roundg k2
     case measure => have := HK1.out; have := HK2.out; omega
     case rel => exact ⟨(y25), (wrap64 (x44_2 + 1)), sd_, H', ⟨by have := HK1.out; have := HK2.out; omega⟩, ⟨by (try simp only [hl5_2]); (with_reducible repeat (first | apply Kd.R_alloc | apply Kd.R_drewN | apply Kd.R_drew)); exact Kd.R_mono HO_5.out (fun _ hk => trivial)⟩, ⟨by (try simp only [hl5_2]); (with_reducible repeat (first | apply Kd.R_alloc | apply Kd.R_drewN | apply Kd.R_drew)); exact HO_6.out⟩, ⟨bw_⟩⟩

end Go.Proofs.Ytbgclnjnngolmaa.P
