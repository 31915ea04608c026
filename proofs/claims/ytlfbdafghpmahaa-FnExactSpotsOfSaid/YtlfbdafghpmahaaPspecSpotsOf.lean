-- Written by mp.py (the session's own driver over the kit's printer) for the seat Ytlfbdafghpmahaa.
import Derived.Test.YtlfbdafghpmahaaV2
import Derived.Test.YtlfbdafghpmahaaK
import Derived.Test.YtlfbdafghpmahaaE
import Derived.Test.YtlfbdafghpmahaaPspecHasFence
import Derived.Test.YtlfbdafghpmahaaPspecProgOk
namespace Go.Proofs.Ytlfbdafghpmahaa.P
open Go.RowKit Go.Proofs.YtlfbdafghpmahaaW.PrintWords Go.Proofs.YtlfbdafghpmahaaW.PrintLast Go.Proofs.YtlfbdafghpmahaaW.PrintMore
attribute [local go_sem] max2_int min2_int max_two min_two max_three min_three max_four min_four
set_option linter.unusedVariables false
set_option linter.unusedSimpArgs false

/-! ### spec_SpotsOf: function 26 -/
mutual
def spec_SpotsOf.l0 : Nat → List (S96) → Int → Int → List (List (S82)) → Option ((List (S96)))
 | 0, _, _, _, _ => none
 | k + 1, x3, x4, x2000, x2001 => if x4 < (x2001.length : Int) then (spec_SpotsOf.l1 k x3 x4 false 0 x2000 x2001) else (some x3)
def spec_SpotsOf.l1 : Nat → List (S96) → Int → Bool → Int → Int → List (List (S82)) → Option ((List (S96)))
 | 0, _, _, _, _, _, _ => none
 | k + 1, x3, x4, x5, x6, x2000, x2001 => if 0 ≤ x4 then (if x4 < (x2001.length : Int) then (if x6 < ((rd_L5 x2001 x4).length : Int) then (if 0 ≤ x6 then (if ((rd_T82 (rd_L5 x2001 x4) x6).f0) = 2 then (spec_SpotsOf.j2 k x3 x4 x5 x6 x5 x2000 x2001 ((rd_T82 (rd_L5 x2001 x4) x6).f0) ((rd_T82 (rd_L5 x2001 x4) x6).f1) ((rd_T82 (rd_L5 x2001 x4) x6).f2) ((rd_T82 (rd_L5 x2001 x4) x6).f3)) else (spec_SpotsOf.j2 k x3 x4 x5 x6 false x2000 x2001 ((rd_T82 (rd_L5 x2001 x4) x6).f0) ((rd_T82 (rd_L5 x2001 x4) x6).f1) ((rd_T82 (rd_L5 x2001 x4) x6).f2) ((rd_T82 (rd_L5 x2001 x4) x6).f3))) else (none)) else (spec_SpotsOf.l0 k x3 (wrap64 (x4 + 1)) x2000 x2001)) else (none)) else (none)
def spec_SpotsOf.j2 : Nat → List (S96) → Int → Bool → Int → Bool → Int → List (List (S82)) → Int → Int → Int → Int → Option ((List (S96)))
 | 0, _, _, _, _, _, _, _, _, _, _, _ => none
 | k + 1, x3, x4, x5, x6, x42, x2000, x2001, x10000, x10001, x10002, x10003 => if x42 = true then (if x3.length < 8796093022208 then (spec_SpotsOf.j3 k (x3 ++ [(⟨x4, x6⟩ : S96)]) x4 x5 x6 x2000 x2001 x10000 x10001 x10002 x10003) else (none)) else (spec_SpotsOf.j3 k x3 x4 x5 x6 x2000 x2001 x10000 x10001 x10002 x10003)
def spec_SpotsOf.j3 : Nat → List (S96) → Int → Bool → Int → Int → List (List (S82)) → Int → Int → Int → Int → Option ((List (S96)))
 | 0, _, _, _, _, _, _, _, _, _, _ => none
 | k + 1, x3, x4, x5, x6, x2000, x2001, x10000, x10001, x10002, x10003 => if x10000 = 3 then ((spec_HasFence.f x10000 x10001 x10002 x10003).bind fun t13 => (if t13 = true then (spec_SpotsOf.l1 k x3 x4 false (wrap64 (x6 + 1)) x2000 x2001) else (if x10000 = 6 then (spec_SpotsOf.l1 k x3 x4 false (wrap64 (x6 + 1)) x2000 x2001) else (spec_SpotsOf.l1 k x3 x4 true (wrap64 (x6 + 1)) x2000 x2001)))) else ((spec_HasFence.f x10000 x10001 x10002 x10003).bind fun t14 => (if t14 = true then (spec_SpotsOf.l1 k x3 x4 false (wrap64 (x6 + 1)) x2000 x2001) else (if x10000 = 6 then (spec_SpotsOf.l1 k x3 x4 false (wrap64 (x6 + 1)) x2000 x2001) else (spec_SpotsOf.l1 k x3 x4 x5 (wrap64 (x6 + 1)) x2000 x2001))))
end
def spec_SpotsOf.f (k : Nat) (a0_0 : Int) (l0_1 : List (List (S82))) : Option ((List (S96))) := (spec_ProgOk.f k a0_0 l0_1).bind fun t5 => (if t5 = true then (spec_SpotsOf.l0 k (([] : List (S96))) 0 a0_0 l0_1) else (some ([] : List (S96))))
theorem spec_SpotsOf.mono_l : ∀ k, (∀ y0 y1 y2 y3, LeO (spec_SpotsOf.l0 k y0 y1 y2 y3) (spec_SpotsOf.l0 (k + 1) y0 y1 y2 y3)) ∧ (∀ y0 y1 y2 y3 y4 y5, LeO (spec_SpotsOf.l1 k y0 y1 y2 y3 y4 y5) (spec_SpotsOf.l1 (k + 1) y0 y1 y2 y3 y4 y5)) ∧ (∀ y0 y1 y2 y3 y4 y5 y6 y7 y8 y9 y10, LeO (spec_SpotsOf.j2 k y0 y1 y2 y3 y4 y5 y6 y7 y8 y9 y10) (spec_SpotsOf.j2 (k + 1) y0 y1 y2 y3 y4 y5 y6 y7 y8 y9 y10)) ∧ (∀ y0 y1 y2 y3 y4 y5 y6 y7 y8 y9, LeO (spec_SpotsOf.j3 k y0 y1 y2 y3 y4 y5 y6 y7 y8 y9) (spec_SpotsOf.j3 (k + 1) y0 y1 y2 y3 y4 y5 y6 y7 y8 y9))
 | 0 => ⟨fun _ _ _ _ r h => by simp [spec_SpotsOf.l0] at h, fun _ _ _ _ _ _ r h => by simp [spec_SpotsOf.l1] at h, fun _ _ _ _ _ _ _ _ _ _ _ r h => by simp [spec_SpotsOf.j2] at h, fun _ _ _ _ _ _ _ _ _ _ r h => by simp [spec_SpotsOf.j3] at h⟩
 | k + 1 => by
  obtain ⟨ih0, ih1, ih2, ih3⟩ := spec_SpotsOf.mono_l k
  refine ⟨?_, ?_, ?_, ?_⟩
  ·intro y0 y1 y2 y3
   unfold spec_SpotsOf.l0
   repeat' first
   | (with_reducible exact ih0 _ _ _ _)
   | (with_reducible exact ih1 _ _ _ _ _ _)
   | (with_reducible exact ih2 _ _ _ _ _ _ _ _ _ _ _)
   | (with_reducible exact ih3 _ _ _ _ _ _ _ _ _ _)
   | (with_reducible exact spec_ProgOk.mono _ _ _)
   | (with_reducible exact LeO.refl _)
   | (with_reducible exact LeO.none _)
   | (with_reducible refine LeO.ite ?_ ?_)
   | (with_reducible refine LeO.bind ?_ (fun _ => ?_))
   | exact ih0 _ _ _ _
   | exact ih1 _ _ _ _ _ _
   | exact ih2 _ _ _ _ _ _ _ _ _ _ _
   | exact ih3 _ _ _ _ _ _ _ _ _ _
   | exact spec_ProgOk.mono _ _ _
   | exact LeO.none _
   | refine LeO.ite ?_ ?_
   | refine LeO.bind ?_ (fun _ => ?_)
  ·intro y0 y1 y2 y3 y4 y5
   unfold spec_SpotsOf.l1
   repeat' first
   | (with_reducible exact ih0 _ _ _ _)
   | (with_reducible exact ih1 _ _ _ _ _ _)
   | (with_reducible exact ih2 _ _ _ _ _ _ _ _ _ _ _)
   | (with_reducible exact ih3 _ _ _ _ _ _ _ _ _ _)
   | (with_reducible exact spec_ProgOk.mono _ _ _)
   | (with_reducible exact LeO.refl _)
   | (with_reducible exact LeO.none _)
   | (with_reducible refine LeO.ite ?_ ?_)
   | (with_reducible refine LeO.bind ?_ (fun _ => ?_))
   | exact ih0 _ _ _ _
   | exact ih1 _ _ _ _ _ _
   | exact ih2 _ _ _ _ _ _ _ _ _ _ _
   | exact ih3 _ _ _ _ _ _ _ _ _ _
   | exact spec_ProgOk.mono _ _ _
   | exact LeO.none _
   | refine LeO.ite ?_ ?_
   | refine LeO.bind ?_ (fun _ => ?_)
  ·intro y0 y1 y2 y3 y4 y5 y6 y7 y8 y9 y10
   unfold spec_SpotsOf.j2
   repeat' first
   | (with_reducible exact ih0 _ _ _ _)
   | (with_reducible exact ih1 _ _ _ _ _ _)
   | (with_reducible exact ih2 _ _ _ _ _ _ _ _ _ _ _)
   | (with_reducible exact ih3 _ _ _ _ _ _ _ _ _ _)
   | (with_reducible exact spec_ProgOk.mono _ _ _)
   | (with_reducible exact LeO.refl _)
   | (with_reducible exact LeO.none _)
   | (with_reducible refine LeO.ite ?_ ?_)
   | (with_reducible refine LeO.bind ?_ (fun _ => ?_))
   | exact ih0 _ _ _ _
   | exact ih1 _ _ _ _ _ _
   | exact ih2 _ _ _ _ _ _ _ _ _ _ _
   | exact ih3 _ _ _ _ _ _ _ _ _ _
   | exact spec_ProgOk.mono _ _ _
   | exact LeO.none _
   | refine LeO.ite ?_ ?_
   | refine LeO.bind ?_ (fun _ => ?_)
  ·intro y0 y1 y2 y3 y4 y5 y6 y7 y8 y9
   unfold spec_SpotsOf.j3
   repeat' first
   | (with_reducible exact ih0 _ _ _ _)
   | (with_reducible exact ih1 _ _ _ _ _ _)
   | (with_reducible exact ih2 _ _ _ _ _ _ _ _ _ _ _)
   | (with_reducible exact ih3 _ _ _ _ _ _ _ _ _ _)
   | (with_reducible exact spec_ProgOk.mono _ _ _)
   | (with_reducible exact LeO.refl _)
   | (with_reducible exact LeO.none _)
   | (with_reducible refine LeO.ite ?_ ?_)
   | (with_reducible refine LeO.bind ?_ (fun _ => ?_))
   | exact ih0 _ _ _ _
   | exact ih1 _ _ _ _ _ _
   | exact ih2 _ _ _ _ _ _ _ _ _ _ _
   | exact ih3 _ _ _ _ _ _ _ _ _ _
   | exact spec_ProgOk.mono _ _ _
   | exact LeO.none _
   | refine LeO.ite ?_ ?_
   | refine LeO.bind ?_ (fun _ => ?_)
theorem spec_SpotsOf.mono : ∀ a0 a1 k, LeO (spec_SpotsOf.f k a0 a1) (spec_SpotsOf.f (k + 1) a0 a1) := by
 intro a0 a1 k
 obtain ⟨ih0, ih1, ih2, ih3⟩ := spec_SpotsOf.mono_l k
 unfold spec_SpotsOf.f
 repeat' first
   | (with_reducible exact ih0 _ _ _ _)
   | (with_reducible exact ih1 _ _ _ _ _ _)
   | (with_reducible exact ih2 _ _ _ _ _ _ _ _ _ _ _)
   | (with_reducible exact ih3 _ _ _ _ _ _ _ _ _ _)
   | (with_reducible exact spec_ProgOk.mono _ _ _)
   | (with_reducible exact LeO.refl _)
   | (with_reducible exact LeO.none _)
   | (with_reducible refine LeO.ite ?_ ?_)
   | (with_reducible refine LeO.bind ?_ (fun _ => ?_))
   | exact ih0 _ _ _ _
   | exact ih1 _ _ _ _ _ _
   | exact ih2 _ _ _ _ _ _ _ _ _ _ _
   | exact ih3 _ _ _ _ _ _ _ _ _ _
   | exact spec_ProgOk.mono _ _ _
   | exact LeO.none _
   | refine LeO.ite ?_ ?_
   | refine LeO.bind ?_ (fun _ => ?_)
set_option maxHeartbeats 8000000 in
set_option maxRecDepth 100000 in
theorem spec_SpotsOf.calls (k : Nat) (a0_0 : Int) (A0_1 : Option Addr) (c0_1 : Nat) (l0_1 : List (List (S82))) (r : List (S96)) (w : World) (hr0_1 : Kd.C (Kd.slice 82 k82) w A0_1 l0_1.length l0_1) (hc0_1 : l0_1.length ≤ c0_1) (h : spec_SpotsOf.f k a0_0 l0_1 = some r) :
  Calls Try.prog 26 #[.agg #[.int .i64 a0_0, .slice A0_1 l0_1.length c0_1]] w fun e w' => ∃ v0_ : Value, e = .returned (v0_) ∧ Kd.R k96 96 w' w.heap.size (fun _ => True) v0_ r ∧ Below w.heap.size w w' := by
 have hu39 := Try.underlying39
 have hu82 := Try.underlying82
 have hu96 := Try.underlying96
 have HR0_1 := Aside0.mk hr0_1
 have HC0_1 := Aside0.mk hc0_1
 clear hr0_1 hc0_1
 have HB := Aside0.mk (Below.refl w.heap.size w)
 have H : ((spec_ProgOk.f k a0_0 l0_1).bind fun t5 => (if t5 = true then (spec_SpotsOf.l0 k (([] : List (S96))) 0 a0_0 l0_1) else (some ([] : List (S96))))) = some r := h
 clear h
 obtain ⟨y2, hy2⟩ : ∃ y_ : List (S96), y_ = (([] : List (S96))) := ⟨_, rfl⟩
 replace H : ((spec_ProgOk.f k a0_0 l0_1).bind fun t5 => (if t5 = true then (spec_SpotsOf.l0 k y2 0 a0_0 l0_1) else (some ([] : List (S96))))) = some r := by first | (rw [hy2]; with_reducible exact H) | (have H2_ := (Option.bind_some _ _).symm.trans H; rw [hy2]; with_reducible exact H2_) | (have H2_ := (Option.bind_some _ _).symm.trans H; with_reducible exact H2_) | with_reducible exact H | (rw [hy2]; exact H) | exact H
 have Ny2 := Aside0.mk hy2
 clear hy2
 replace H := Option.bind_eq_some_iff.mp H
 obtain ⟨t5, A20, H⟩ := H
 replace H : (if t5 = true then (spec_SpotsOf.l0 k y2 0 a0_0 l0_1) else (some ([] : List (S96)))) = some r := H
 have A2 := Aside0.mk A20
 clear A20
 by_cases c3 : t5 = true
 rotate_left
 ·replace c3 := Bool.eq_false_iff.mpr c3
  subst c3
  have H1 : (some ([] : List (S96))) = some r := by rw [if_neg (show ¬ (false = true) by decide)] at H; exact H
  clear H
  have H := H1
  clear H1
  obtain rfl := Option.some.inj H
  go_enter Try.func26, Try.ntmps26
  go_wp2_with (first | ((with_reducible refine gate_dst (N := 1) rfl ?_); refine box_event ?hg (N := 1) ?hd (cs := #[.int .i64 a0_0, .slice A0_1 l0_1.length c0_1]) (t := 39) ?hr ?_; (case hd => rfl); (case hg => rfl); (case hr => first | (go_simp; done) | (go_simp; rfl)); intro gb1 hg w60 hbox hb; have n0_ := Aside0.mk (below_step bw_ hb); have n1_ := Aside0.mk (hbox); have n2_ := Aside0.mk ((by rw [hg]; exact (below_size bw_) : w.heap.size ≤ gb1)); have n3_ := Aside0.mk ((by rw [hg]; exact (below_size bw_) : w.heap.size ≤ gb1)); clear HB; have HB := n0_; have BK1 := n1_; have GW1 := n2_; have GE1 := n3_; clear n0_ n1_ n2_ n3_; clear hb hbox hg) | ((with_reducible refine gate_dst (N := 8) rfl ?_); refine Kd.R_lit k96 _ 96 ?hg (N := 8) ?hd (xs := ([] : List (S96))) (inner := []) (ok := fun _ => True) (okp := fun _ => True) ?hr ?hp (fun _ hk => hk) trivial (Below.refl _ _) (Nat.le_refl _) (by simp) ?_; (case hd => rfl); (case hg => rfl); (case hr => first | (go_simp; done) | (go_simp; rfl)); (case hp => exact (Reps.none _ _)); intro v3 w61 ho62 hb hg_ hnew_; clear hg_ hnew_; (first | rw [← Ny2.out] at ho62 | (simp only [Int.reduceToNat] at ho62; rw [← Ny2.out] at ho62)); have n0_ := Aside0.mk (Kd.R_lower ho62 (below_size bw_)); have n1_ := Aside0.mk (blk_below (g := gb1) (o := .cells #[.int .i64 a0_0, .slice A0_1 l0_1.length c0_1] 39 (0, 0)) bk_ hb); have n2_ := Aside0.mk (below_step bw_ hb); clear BK1; clear HB; have HO4 := n0_; have BK1 := n1_; have HB := n2_; clear n0_ n1_ n2_; clear hb ho62; have hcz63_0 := (blk_cell BK1.out 0).trans rfl; have hcz63_1 := (blk_cell BK1.out 1).trans rfl; have hfz63_0 := blk_frozen BK1.out 0; have hfz63_1 := blk_frozen BK1.out 1) | ((with_reducible refine gate_callee (f := 58) rfl ?_); refine goesL_ (some 10) rfl rfl Try.func58 (by kernel_rfl) rfl #[.agg #[.int .i64 a0_0, .slice A0_1 l0_1.length c0_1]] rfl ar_ ?_; (with_reducible refine (spec_ProgOk.calls k a0_0 _ _ l0_1 false _ ?side1 ?side2 A2.out).mono ?_); (case side1 => exact cb_); (case side2 => exact HC0_1.out); rintro e w64 ⟨rfl, hb⟩; refine ⟨_, rfl, ?_⟩; have n0_ := Aside0.mk (Kd.R_below (by (with_reducible repeat (first | apply Kd.R_alloc | apply Kd.R_drewN | apply Kd.R_drew)); exact HO4.out) hb); have n1_ := Aside0.mk (blk_below (g := gb1) (o := .cells #[.int .i64 a0_0, .slice A0_1 l0_1.length c0_1] 39 (0, 0)) bk_ hb); have n2_ := Aside0.mk (below_step bw_ hb); clear HO4; clear BK1; clear HB; have HO4 := n0_; have BK1 := n1_; have HB := n2_; clear n0_ n1_ n2_; (try clear hb); (try clear hb2); (try clear hk); (try clear hi)))
  go_ret
  exact ⟨_, rr_, by first | exact Kd.R_nil _ _ _ _ _ | exact Kd.N_nil _ _ _ _ _ | exact Kd.V_nil _ _ _ _ _ | exact Kd.Q_nil _ _ _ _ _ | exact Kd.S_nil _ _ _ _ _, bw_⟩
 subst c3
 have H1 : (spec_SpotsOf.l0 k y2 0 a0_0 l0_1) = some r := by rw [if_pos rfl] at H; exact H
 clear H
 have H := H1
 clear H1
 have H' := Aside0.mk H
 clear H
 go_enter Try.func26, Try.ntmps26
 go_wp2_with (first | ((with_reducible refine gate_dst (N := 1) rfl ?_); refine box_event ?hg (N := 1) ?hd (cs := #[.int .i64 a0_0, .slice A0_1 l0_1.length c0_1]) (t := 39) ?hr ?_; (case hd => rfl); (case hg => rfl); (case hr => first | (go_simp; done) | (go_simp; rfl)); intro gb1 hg w4 hbox hb; have n0_ := Aside0.mk (below_step bw_ hb); have n1_ := Aside0.mk (hbox); have n2_ := Aside0.mk ((by rw [hg]; exact (below_size bw_) : w.heap.size ≤ gb1)); have n3_ := Aside0.mk ((by rw [hg]; exact (below_size bw_) : w.heap.size ≤ gb1)); clear HB; have HB := n0_; have BK1 := n1_; have GW1 := n2_; have GE1 := n3_; clear n0_ n1_ n2_ n3_; clear hb hbox hg) | ((with_reducible refine gate_dst (N := 8) rfl ?_); refine Kd.R_lit k96 _ 96 ?hg (N := 8) ?hd (xs := ([] : List (S96))) (inner := []) (ok := fun _ => True) (okp := fun _ => True) ?hr ?hp (fun _ hk => hk) trivial (Below.refl _ _) (Nat.le_refl _) (by simp) ?_; (case hd => rfl); (case hg => rfl); (case hr => first | (go_simp; done) | (go_simp; rfl)); (case hp => exact (Reps.none _ _)); intro v3 w5 ho6 hb hg_ hnew_; clear hg_ hnew_; (first | rw [← Ny2.out] at ho6 | (simp only [Int.reduceToNat] at ho6; rw [← Ny2.out] at ho6)); have n0_ := Aside0.mk (Kd.R_lower ho6 (below_size bw_)); have n1_ := Aside0.mk (blk_below (g := gb1) (o := .cells #[.int .i64 a0_0, .slice A0_1 l0_1.length c0_1] 39 (0, 0)) bk_ hb); have n2_ := Aside0.mk (below_step bw_ hb); clear BK1; clear HB; have HO4 := n0_; have BK1 := n1_; have HB := n2_; clear n0_ n1_ n2_; clear hb ho6; have hcz7_0 := (blk_cell BK1.out 0).trans rfl; have hcz7_1 := (blk_cell BK1.out 1).trans rfl; have hfz7_0 := blk_frozen BK1.out 0; have hfz7_1 := blk_frozen BK1.out 1) | ((with_reducible refine gate_callee (f := 58) rfl ?_); refine goesL_ (some 10) rfl rfl Try.func58 (by kernel_rfl) rfl #[.agg #[.int .i64 a0_0, .slice A0_1 l0_1.length c0_1]] rfl ar_ ?_; (with_reducible refine (spec_ProgOk.calls k a0_0 _ _ l0_1 true _ ?side1 ?side2 A2.out).mono ?_); (case side1 => exact cb_); (case side2 => exact HC0_1.out); rintro e w8 ⟨rfl, hb⟩; refine ⟨_, rfl, ?_⟩; have n0_ := Aside0.mk (Kd.R_below (by (with_reducible repeat (first | apply Kd.R_alloc | apply Kd.R_drewN | apply Kd.R_drew)); exact HO4.out) hb); have n1_ := Aside0.mk (blk_below (g := gb1) (o := .cells #[.int .i64 a0_0, .slice A0_1 l0_1.length c0_1] 39 (0, 0)) bk_ hb); have n2_ := Aside0.mk (below_step bw_ hb); clear HO4; clear BK1; clear HB; have HO4 := n0_; have BK1 := n1_; have HB := n2_; clear n0_ n1_ n2_; (try clear hb); (try clear hb2); (try clear hk); (try clear hi)))
 go_loopg [3, 4] k (fun kq v3 v4 w' => ∃ (x3_1 : List (S96)) (x4_1 : Int), v4 = .int .i64 x4_1 ∧ Aside0 (spec_SpotsOf.l0 kq x3_1 x4_1 a0_0 l0_1 = some r) ∧ Aside0 (kq ≤ k) ∧ Aside0 (Kd.R k96 96 w' w.heap.size (fun _ => True) v3 x3_1) ∧ Aside0 (w'.heap[gb1]? = some (.cells #[.int .i64 a0_0, (.slice A0_1 l0_1.length c0_1)] 39 (0, 0))) ∧ Aside0 (Below w.heap.size w w'))
 case atStart => exact ⟨(y2), (0), sd_, H', ⟨Nat.le_refl _⟩, ⟨by (with_reducible repeat (first | apply Kd.R_alloc | apply Kd.R_drewN | apply Kd.R_drew)); exact HO4.out⟩, ⟨bk_⟩, ⟨bw_⟩⟩
 case round =>
  clear H'
  try clear c2
  try clear p2
  try clear c3
  try clear c5
  try clear hcz7_0 hcz7_1
  try clear hfz7_0 hfz7_1
  obtain ⟨x3_1, x4_1, rfl, HA, HK1, HO_3, BK1, HB⟩ := hrel
  cases gk with
  | zero => exact absurd HA.out (by simp [spec_SpotsOf.l0])
  | succ k1 =>
   have H := HA.out
   clear HA
   simp only [spec_SpotsOf.l0] at H
   by_cases c9 : x4_1 < (l0_1.length : Int)
   rotate_left
   ·rw [if_neg c9] at H
    have c9b0 : decide (x4_1 < (l0_1.length : Int)) = false := decide_eq_false c9
    clear c9
    obtain rfl := Option.some.inj H
    have hcz59_0 := (blk_cell BK1.out 0).trans rfl
    have hcz59_1 := (blk_cell BK1.out 1).trans rfl
    have hfz59_0 := blk_frozen BK1.out 0
    have hfz59_1 := blk_frozen BK1.out 1
    go_wp2
    go_ret
    exact ⟨_, rr_, by (with_reducible repeat (first | apply Kd.R_alloc | apply Kd.R_drewN | apply Kd.R_drew)); exact HO_3.out, bw_⟩
   rw [if_pos c9] at H
   have c9b0 : decide (x4_1 < (l0_1.length : Int)) = true := decide_eq_true c9
   clear c9
   have H' := Aside0.mk H
   clear H
   have hcz10_0 := (blk_cell BK1.out 0).trans rfl
   have hcz10_1 := (blk_cell BK1.out 1).trans rfl
   have hfz10_0 := blk_frozen BK1.out 0
   have hfz10_1 := blk_frozen BK1.out 1
   go_wp2
   go_loopg [3, 5, 6] k1 (fun kq v3 v5 v6 w' => ∃ (x3_2 : List (S96)) (x5_2 : Bool) (x6_2 : Int), v5 = .bool x5_2 ∧ v6 = .int .i64 x6_2 ∧ Aside0 (spec_SpotsOf.l1 kq x3_2 x4_1 x5_2 x6_2 a0_0 l0_1 = some r) ∧ Aside0 (kq ≤ k1) ∧ Aside0 (Kd.R k96 96 w' w.heap.size (fun _ => True) v3 x3_2) ∧ Aside0 (w'.heap[gb1]? = some (.cells #[.int .i64 a0_0, (.slice A0_1 l0_1.length c0_1)] 39 (0, 0))) ∧ Aside0 (Below w.heap.size w w'))
   case atStart => exact ⟨(x3_1), (false), (0), sd_, sd_, H', ⟨Nat.le_refl _⟩, ⟨by (with_reducible repeat (first | apply Kd.R_alloc | apply Kd.R_drewN | apply Kd.R_drew)); exact HO_3.out⟩, ⟨bk_⟩, ⟨bw_⟩⟩
   case round =>
    clear H'
    try clear c2
    try clear p2
    try clear c3
    try clear c5
    try clear c9
    try clear c9b0
    try clear hcz10_0 hcz10_1
    try clear hcz7_0 hcz7_1
    try clear hfz10_0 hfz10_1
    try clear hfz7_0 hfz7_1
    try clear p2
    obtain ⟨x3_2, x5_2, x6_2, rfl, rfl, HA, HK2, HO_3, BK1, HB⟩ := hrel
    cases gk with
    | zero => exact absurd HA.out (by simp [spec_SpotsOf.l1])
    | succ k2 =>
     have H := HA.out
     clear HA
     simp only [spec_SpotsOf.l1] at H
     by_cases c11 : 0 ≤ x4_1
     rotate_left
     ·rw [if_neg c11] at H
      exact absurd H (by simp)
     rw [if_pos c11] at H
     have c11b0 : decide (0 ≤ x4_1) = true := decide_eq_true c11
     clear c11
     by_cases c12 : x4_1 < (l0_1.length : Int)
     rotate_left
     ·rw [if_neg c12] at H
      exact absurd H (by simp)
     rw [if_pos c12] at H
     have c12b0 : decide (x4_1 < (l0_1.length : Int)) = true := decide_eq_true c12
     clear c12
     by_cases c13 : x6_2 < ((rd_L5 l0_1 x4_1).length : Int)
     rotate_left
     ·rw [if_neg c13] at H
      have c13b0 : decide (x6_2 < ((rd_L5 l0_1 x4_1).length : Int)) = false := decide_eq_false c13
      clear c13
      have H' := Aside0.mk H
      clear H
      have hcz58_0 := (blk_cell BK1.out 0).trans rfl
      have hcz58_1 := (blk_cell BK1.out 1).trans rfl
      have hfz58_0 := blk_frozen BK1.out 0
      have hfz58_1 := blk_frozen BK1.out 1
      have p6 : 0 ≤ (x4_1 : Int) := od_
      have q6 : x4_1 < (l0_1.length : Int) := od_
      obtain ⟨ad6, A6_0, c6_0, e6, hx6_0, hl6_0, hi6_0⟩ := at_L5 HR0_1.out x4_1 p6 q6
      cases e6
      replace hx6_0 := (HB.out.cell (World.block_lt_of_cell? w _ hx6_0)).trans hx6_0
      have HR6_0 := Aside0.mk hi6_0
      have HC6_0 := Aside0.mk hl6_0
      clear hi6_0 hl6_0
      replace p6 := eq_true p6
      replace q6 := eq_true q6
      go_wp2
      go_roundg k2
      case measure => have := HK1.out; have := HK2.out; omega
      case rel => exact ⟨(x3_2), (wrap64 (x4_1 + 1)), sd_, H', ⟨by have := HK1.out; have := HK2.out; omega⟩, ⟨by (with_reducible repeat (first | apply Kd.R_alloc | apply Kd.R_drewN | apply Kd.R_drew)); exact HO_3.out⟩, ⟨bk_⟩, ⟨bw_⟩⟩
     rw [if_pos c13] at H
     have c13b0 : decide (x6_2 < ((rd_L5 l0_1 x4_1).length : Int)) = true := decide_eq_true c13
     clear c13
     by_cases c14 : 0 ≤ x6_2
     rotate_left
     ·rw [if_neg c14] at H
      exact absurd H (by simp)
     rw [if_pos c14] at H
     have c14b0 : decide (0 ≤ x6_2) = true := decide_eq_true c14
     clear c14
     have HC15 := Aside0.mk H
     clear H
     have hcz16_0 := (blk_cell BK1.out 0).trans rfl
     have hcz16_1 := (blk_cell BK1.out 1).trans rfl
     have hfz16_0 := blk_frozen BK1.out 0
     have hfz16_1 := blk_frozen BK1.out 1
     have p6 : 0 ≤ (x4_1 : Int) := od_
     have q6 : x4_1 < (l0_1.length : Int) := od_
     obtain ⟨ad6, A6_0, c6_0, e6, hx6_0, hl6_0, hi6_0⟩ := at_L5 HR0_1.out x4_1 p6 q6
     cases e6
     replace hx6_0 := (HB.out.cell (World.block_lt_of_cell? w _ hx6_0)).trans hx6_0
     have HR6_0 := Aside0.mk hi6_0
     have HC6_0 := Aside0.mk hl6_0
     clear hi6_0 hl6_0
     replace p6 := eq_true p6
     replace q6 := eq_true q6
     have p7 : 0 ≤ (x4_1 : Int) := od_
     have q7 : x4_1 < (l0_1.length : Int) := od_
     obtain ⟨ad7, A7_0, c7_0, e7, hx7_0, hl7_0, hi7_0⟩ := at_L5 HR0_1.out x4_1 p7 q7
     obtain rfl : ad6 = ad7 := (by injection e7)
     replace hx7_0 := (HB.out.cell (World.block_lt_of_cell? w _ hx7_0)).trans hx7_0
     have HR7_0 := Aside0.mk hi7_0
     have HC7_0 := Aside0.mk hl7_0
     clear hi7_0 hl7_0
     replace p7 := eq_true p7
     replace q7 := eq_true q7
     have ea_ := Option.some.inj (hx6_0.symm.trans hx7_0)
     injection ea_ with ea_ en_ ec_
     subst ea_
     subst ec_
     clear en_
     have p8 : 0 ≤ (x6_2 : Int) := od_
     have q8 : x6_2 < ((rd_L5 l0_1 x4_1).length : Int) := od_
     obtain ⟨ad8, e8, hx8_0, hx8_1, hx8_2, hx8_3⟩ := at_T82 HR7_0.out x6_2 p8 q8
     cases e8
     replace hx8_0 := (HB.out.cell (World.block_lt_of_cell? w _ hx8_0)).trans hx8_0
     replace hx8_1 := (HB.out.cell (World.block_lt_of_cell? w _ hx8_1)).trans hx8_1
     replace hx8_2 := (HB.out.cell (World.block_lt_of_cell? w _ hx8_2)).trans hx8_2
     replace hx8_3 := (HB.out.cell (World.block_lt_of_cell? w _ hx8_3)).trans hx8_3
     replace p8 := eq_true p8
     replace q8 := eq_true q8
     go_upto_region 12 with (first | ((with_reducible refine gate_dst (N := 7) rfl ?_); refine box_event ?hg (N := 7) ?hd (cs := #[.int .i64 0, .int .i64 0, .int .i64 0, .int .i64 0]) (t := 82) ?hr ?_; (case hd => rfl); (case hg => rfl); (case hr => first | (go_simp; done) | (go_simp; rfl)); intro gb9 hg w17 hbox hb; have n0_ := Aside0.mk (Kd.R_below (by (with_reducible repeat (first | apply Kd.R_alloc | apply Kd.R_drewN | apply Kd.R_drew)); exact HO_3.out) hb); have n1_ := Aside0.mk (blk_below (g := gb1) (o := .cells #[.int .i64 a0_0, .slice (some ad6) l0_1.length c0_1] 39 (0, 0)) bk_ hb); have n2_ := Aside0.mk (below_step bw_ hb); have n3_ := Aside0.mk (hbox); have n4_ := Aside0.mk ((by rw [hg]; exact (below_size bw_) : w.heap.size ≤ gb9)); have n5_ := Aside0.mk ((by rw [hg]; exact (below_size bw_) : w.heap.size ≤ gb9)); have n6_ := Aside0.mk ((by rw [hg]; exact Nat.ne_of_lt (blk_lt (g := gb1) (o := .cells #[.int .i64 a0_0, .slice (some ad6) l0_1.length c0_1] 39 (0, 0)) bk_) : gb1 ≠ gb9)); have n7_ := Aside0.mk ((by rw [hg]; exact Nat.ne_of_gt (blk_lt (g := gb1) (o := .cells #[.int .i64 a0_0, .slice (some ad6) l0_1.length c0_1] 39 (0, 0)) bk_) : gb9 ≠ gb1)); clear HO_3; clear BK1; clear HB; have HO_3 := n0_; have BK1 := n1_; have HB := n2_; have BK9 := n3_; have GW9 := n4_; have GE9 := n5_; have NB1_9 := n6_; have NB9_1 := n7_; clear n0_ n1_ n2_ n3_ n4_ n5_ n6_ n7_; clear hb hbox hg; have hnb18 := NB9_1.out; have hnc18 := NB1_9.out; have hcz19_0 := (blk_cell BK9.out 0).trans rfl; have hcz19_1 := (blk_cell BK9.out 1).trans rfl; have hcz19_2 := (blk_cell BK9.out 2).trans rfl; have hcz19_3 := (blk_cell BK9.out 3).trans rfl; have hfz19_0 := blk_frozen BK9.out 0; have hfz19_1 := blk_frozen BK9.out 1; have hfz19_2 := blk_frozen BK9.out 2; have hfz19_3 := blk_frozen BK9.out 3))
     (try simp only [Act.put, List.setIfInBounds_toArray, List.set_cons_zero, List.set_cons_succ])
     go_cut [42] (fun v42 wc => ∃ (kq : Nat) (x42_14 : Bool), v42 = .bool x42_14 ∧ Aside0 (spec_SpotsOf.j2 kq x3_2 x4_1 x5_2 x6_2 x42_14 a0_0 l0_1 ((rd_T82 (rd_L5 l0_1 x4_1) x6_2).f0) ((rd_T82 (rd_L5 l0_1 x4_1) x6_2).f1) ((rd_T82 (rd_L5 l0_1 x4_1) x6_2).f2) ((rd_T82 (rd_L5 l0_1 x4_1) x6_2).f3) = some r) ∧ Aside0 (kq ≤ k2) ∧ Aside0 (Kd.R k96 96 wc w.heap.size (fun _ => True) u3 x3_2) ∧ Aside0 (wc.heap[gb1]? = some (.cells #[.int .i64 a0_0, (.slice (some ad6) l0_1.length c0_1)] 39 (0, 0))) ∧ Aside0 (wc.heap[gb9]? = some (.cells #[.int .i64 ((rd_T82 (rd_L5 l0_1 x4_1) x6_2).f0), .int .i64 ((rd_T82 (rd_L5 l0_1 x4_1) x6_2).f1), .int .i64 ((rd_T82 (rd_L5 l0_1 x4_1) x6_2).f2), .int .i64 ((rd_T82 (rd_L5 l0_1 x4_1) x6_2).f3)] 82 (0, 0))) ∧ Aside0 (Below w.heap.size w wc))
     case first =>
      have H := HC15.out
      clear HC15
      by_cases c20 : ((rd_T82 (rd_L5 l0_1 x4_1) x6_2).f0) = 2
      rotate_left
      ·rw [if_neg c20] at H
       have c20b0 : (((rd_T82 (rd_L5 l0_1 x4_1) x6_2).f0) == 2) = false := beq_eq_false_iff_ne.mpr c20
       have c20b1 : (((rd_T82 (rd_L5 l0_1 x4_1) x6_2).f0) != 2) = true := bne_iff_ne.mpr c20
       (first | rw [c20b0] | (simp only [i64_w, i32_w]; rw [c20b0]) | skip)
       have H' := Aside0.mk H
       clear H
       have hnb23 := NB9_1.out
       have hnc23 := NB1_9.out
       have hcz24_0 := (blk_cell BK9.out 0).trans rfl
       have hcz24_1 := (blk_cell BK9.out 1).trans rfl
       have hcz24_2 := (blk_cell BK9.out 2).trans rfl
       have hcz24_3 := (blk_cell BK9.out 3).trans rfl
       have hfz24_0 := blk_frozen BK9.out 0
       have hfz24_1 := blk_frozen BK9.out 1
       have hfz24_2 := blk_frozen BK9.out 2
       have hfz24_3 := blk_frozen BK9.out 3
       go_wp2
       go_meet
       case rel => exact ⟨_, (false), sd_, H', ⟨by have := HK1.out; have := HK2.out; first | omega | exact Nat.le_refl _⟩, ⟨by (with_reducible repeat (first | apply Kd.R_alloc | apply Kd.R_drewN | apply Kd.R_drew)); exact Kd.R_mono (Kd.R_far (p := ⟨gb9, 3, none⟩) (Kd.R_far (p := ⟨gb9, 2, none⟩) (Kd.R_far (p := ⟨gb9, 1, none⟩) (Kd.R_far (p := ⟨gb9, 0, none⟩) (Kd.R_types HO_3.out BK9.out (by decide)) (fun _ hk => hk.2) (.int .i64 ((rd_T82 (rd_L5 l0_1 x4_1) x6_2).f0))) (fun _ hk => hk.2) (.int .i64 ((rd_T82 (rd_L5 l0_1 x4_1) x6_2).f1))) (fun _ hk => hk.2) (.int .i64 ((rd_T82 (rd_L5 l0_1 x4_1) x6_2).f2))) (fun _ hk => hk.2) (.int .i64 ((rd_T82 (rd_L5 l0_1 x4_1) x6_2).f3))) (fun _ hk => trivial)⟩, ⟨by (with_reducible repeat (first | refine blk_drewN ?_ _ | refine blk_drew ?_ | refine blk_alloc ?_ _)); refine blk_far ?_ NB1_9.out _; (with_reducible repeat (first | refine blk_drewN ?_ _ | refine blk_drew ?_ | refine blk_alloc ?_ _)); refine blk_far ?_ NB1_9.out _; (with_reducible repeat (first | refine blk_drewN ?_ _ | refine blk_drew ?_ | refine blk_alloc ?_ _)); refine blk_far ?_ NB1_9.out _; (with_reducible repeat (first | refine blk_drewN ?_ _ | refine blk_drew ?_ | refine blk_alloc ?_ _)); refine blk_far ?_ NB1_9.out _; (with_reducible repeat (first | refine blk_drewN ?_ _ | refine blk_drew ?_ | refine blk_alloc ?_ _)); exact BK1.out⟩, ⟨by (with_reducible repeat (first | refine blk_drewN ?_ _ | refine blk_drew ?_ | refine blk_alloc ?_ _)); refine blk_put (cs := #[.int .i64 ((rd_T82 (rd_L5 l0_1 x4_1) x6_2).f0), .int .i64 ((rd_T82 (rd_L5 l0_1 x4_1) x6_2).f1), .int .i64 ((rd_T82 (rd_L5 l0_1 x4_1) x6_2).f2), .int .i64 0]) ?_ 3 _ rfl; (with_reducible repeat (first | refine blk_drewN ?_ _ | refine blk_drew ?_ | refine blk_alloc ?_ _)); refine blk_put (cs := #[.int .i64 ((rd_T82 (rd_L5 l0_1 x4_1) x6_2).f0), .int .i64 ((rd_T82 (rd_L5 l0_1 x4_1) x6_2).f1), .int .i64 0, .int .i64 0]) ?_ 2 _ rfl; (with_reducible repeat (first | refine blk_drewN ?_ _ | refine blk_drew ?_ | refine blk_alloc ?_ _)); refine blk_put (cs := #[.int .i64 ((rd_T82 (rd_L5 l0_1 x4_1) x6_2).f0), .int .i64 0, .int .i64 0, .int .i64 0]) ?_ 1 _ rfl; (with_reducible repeat (first | refine blk_drewN ?_ _ | refine blk_drew ?_ | refine blk_alloc ?_ _)); refine blk_put (cs := #[.int .i64 0, .int .i64 0, .int .i64 0, .int .i64 0]) ?_ 0 _ rfl; (with_reducible repeat (first | refine blk_drewN ?_ _ | refine blk_drew ?_ | refine blk_alloc ?_ _)); exact BK9.out⟩, ⟨bw_⟩⟩
      rw [if_pos c20] at H
      have c20b0 : (((rd_T82 (rd_L5 l0_1 x4_1) x6_2).f0) == 2) = true := beq_iff_eq.mpr c20
      have c20b1 : (((rd_T82 (rd_L5 l0_1 x4_1) x6_2).f0) != 2) = false := bne_eq_false_iff_eq.mpr c20
      clear c20
      (first | rw [c20b0] | (simp only [i64_w, i32_w]; rw [c20b0]) | skip)
      have H' := Aside0.mk H
      clear H
      have hnb21 := NB9_1.out
      have hnc21 := NB1_9.out
      have hcz22_0 := (blk_cell BK9.out 0).trans rfl
      have hcz22_1 := (blk_cell BK9.out 1).trans rfl
      have hcz22_2 := (blk_cell BK9.out 2).trans rfl
      have hcz22_3 := (blk_cell BK9.out 3).trans rfl
      have hfz22_0 := blk_frozen BK9.out 0
      have hfz22_1 := blk_frozen BK9.out 1
      have hfz22_2 := blk_frozen BK9.out 2
      have hfz22_3 := blk_frozen BK9.out 3
      go_wp2
      go_meet
      case rel => exact ⟨_, (x5_2), sd_, H', ⟨by have := HK1.out; have := HK2.out; first | omega | exact Nat.le_refl _⟩, ⟨by (with_reducible repeat (first | apply Kd.R_alloc | apply Kd.R_drewN | apply Kd.R_drew)); exact Kd.R_mono (Kd.R_far (p := ⟨gb9, 3, none⟩) (Kd.R_far (p := ⟨gb9, 2, none⟩) (Kd.R_far (p := ⟨gb9, 1, none⟩) (Kd.R_far (p := ⟨gb9, 0, none⟩) (Kd.R_types HO_3.out BK9.out (by decide)) (fun _ hk => hk.2) (.int .i64 ((rd_T82 (rd_L5 l0_1 x4_1) x6_2).f0))) (fun _ hk => hk.2) (.int .i64 ((rd_T82 (rd_L5 l0_1 x4_1) x6_2).f1))) (fun _ hk => hk.2) (.int .i64 ((rd_T82 (rd_L5 l0_1 x4_1) x6_2).f2))) (fun _ hk => hk.2) (.int .i64 ((rd_T82 (rd_L5 l0_1 x4_1) x6_2).f3))) (fun _ hk => trivial)⟩, ⟨by (with_reducible repeat (first | refine blk_drewN ?_ _ | refine blk_drew ?_ | refine blk_alloc ?_ _)); refine blk_far ?_ NB1_9.out _; (with_reducible repeat (first | refine blk_drewN ?_ _ | refine blk_drew ?_ | refine blk_alloc ?_ _)); refine blk_far ?_ NB1_9.out _; (with_reducible repeat (first | refine blk_drewN ?_ _ | refine blk_drew ?_ | refine blk_alloc ?_ _)); refine blk_far ?_ NB1_9.out _; (with_reducible repeat (first | refine blk_drewN ?_ _ | refine blk_drew ?_ | refine blk_alloc ?_ _)); refine blk_far ?_ NB1_9.out _; (with_reducible repeat (first | refine blk_drewN ?_ _ | refine blk_drew ?_ | refine blk_alloc ?_ _)); exact BK1.out⟩, ⟨by (with_reducible repeat (first | refine blk_drewN ?_ _ | refine blk_drew ?_ | refine blk_alloc ?_ _)); refine blk_put (cs := #[.int .i64 ((rd_T82 (rd_L5 l0_1 x4_1) x6_2).f0), .int .i64 ((rd_T82 (rd_L5 l0_1 x4_1) x6_2).f1), .int .i64 ((rd_T82 (rd_L5 l0_1 x4_1) x6_2).f2), .int .i64 0]) ?_ 3 _ rfl; (with_reducible repeat (first | refine blk_drewN ?_ _ | refine blk_drew ?_ | refine blk_alloc ?_ _)); refine blk_put (cs := #[.int .i64 ((rd_T82 (rd_L5 l0_1 x4_1) x6_2).f0), .int .i64 ((rd_T82 (rd_L5 l0_1 x4_1) x6_2).f1), .int .i64 0, .int .i64 0]) ?_ 2 _ rfl; (with_reducible repeat (first | refine blk_drewN ?_ _ | refine blk_drew ?_ | refine blk_alloc ?_ _)); refine blk_put (cs := #[.int .i64 ((rd_T82 (rd_L5 l0_1 x4_1) x6_2).f0), .int .i64 0, .int .i64 0, .int .i64 0]) ?_ 1 _ rfl; (with_reducible repeat (first | refine blk_drewN ?_ _ | refine blk_drew ?_ | refine blk_alloc ?_ _)); refine blk_put (cs := #[.int .i64 0, .int .i64 0, .int .i64 0, .int .i64 0]) ?_ 0 _ rfl; (with_reducible repeat (first | refine blk_drewN ?_ _ | refine blk_drew ?_ | refine blk_alloc ?_ _)); exact BK9.out⟩, ⟨bw_⟩⟩
     case rest =>
      clear HC15
      try clear c1
      try clear c2
      try clear p2
      try clear c3
      try clear c5
      try clear c6
      try clear p6
      try clear q6
      try clear hx6
      try clear c7
      try clear p7
      try clear q7
      try clear hx7
      try clear p8
      try clear q8
      try clear hx8
      try clear c9
      try clear c9b0
      try clear c11
      try clear c11b0
      try clear c12
      try clear c12b0
      try clear c13
      try clear c13b0
      try clear c14
      try clear c14b0
      try clear c18
      try clear c20
      try clear c20b0
      try clear c20b1
      try clear c21
      try clear c23
      try clear hcz10_0 hcz10_1
      try clear hcz16_0 hcz16_1
      try clear hcz19_0 hcz19_1 hcz19_2 hcz19_3
      try clear hcz22_0 hcz22_1 hcz22_2 hcz22_3
      try clear hcz24_0 hcz24_1 hcz24_2 hcz24_3
      try clear hcz7_0 hcz7_1
      try clear hfz10_0 hfz10_1
      try clear hfz16_0 hfz16_1
      try clear hfz19_0 hfz19_1 hfz19_2 hfz19_3
      try clear hfz22_0 hfz22_1 hfz22_2 hfz22_3
      try clear hfz24_0 hfz24_1 hfz24_2 hfz24_3
      try clear hfz7_0 hfz7_1
      try clear hx6_0
      try clear hx7_0
      try clear hx8_0
      try clear hx8_1
      try clear hx8_2
      try clear hx8_3
      try clear p2
      try clear p6
      try clear p7
      try clear p8
      try clear q6
      try clear q7
      try clear q8
      obtain ⟨kq, x42_14, rfl, HA, HJ14, HO_3, BK1, BK9, HB⟩ := hcut
      cases kq with
      | zero => exact absurd HA.out (by simp [spec_SpotsOf.j2])
      | succ kj14 =>
       have H := HA.out
       clear HA
       simp only [spec_SpotsOf.j2] at H
       have HC25 := Aside0.mk H
       clear H
       go_upto_if 42 with (fail)
       go_cut [3] (fun v3 wc => ∃ (kq : Nat) (x3_24 : List (S96)), Aside0 (spec_SpotsOf.j3 kq x3_24 x4_1 x5_2 x6_2 a0_0 l0_1 ((rd_T82 (rd_L5 l0_1 x4_1) x6_2).f0) ((rd_T82 (rd_L5 l0_1 x4_1) x6_2).f1) ((rd_T82 (rd_L5 l0_1 x4_1) x6_2).f2) ((rd_T82 (rd_L5 l0_1 x4_1) x6_2).f3) = some r) ∧ Aside0 (kq ≤ kj14) ∧ Aside0 (Kd.R k96 96 wc w.heap.size (fun _ => True) v3 x3_24) ∧ Aside0 (wc.heap[gb1]? = some (.cells #[.int .i64 a0_0, (.slice (some ad6) l0_1.length c0_1)] 39 (0, 0))) ∧ Aside0 (wc.heap[gb9]? = some (.cells #[.int .i64 ((rd_T82 (rd_L5 l0_1 x4_1) x6_2).f0), .int .i64 ((rd_T82 (rd_L5 l0_1 x4_1) x6_2).f1), .int .i64 ((rd_T82 (rd_L5 l0_1 x4_1) x6_2).f2), .int .i64 ((rd_T82 (rd_L5 l0_1 x4_1) x6_2).f3)] 82 (0, 0))) ∧ Aside0 (Below w.heap.size w wc))
       case first =>
        have H := HC25.out
        clear HC25
        by_cases c26 : x42_14 = true
        rotate_left
        ·replace c26 := Bool.eq_false_iff.mpr c26
         subst c26
         have H1 : (spec_SpotsOf.j3 kj14 x3_2 x4_1 x5_2 x6_2 a0_0 l0_1 ((rd_T82 (rd_L5 l0_1 x4_1) x6_2).f0) ((rd_T82 (rd_L5 l0_1 x4_1) x6_2).f1) ((rd_T82 (rd_L5 l0_1 x4_1) x6_2).f2) ((rd_T82 (rd_L5 l0_1 x4_1) x6_2).f3)) = some r := by rw [if_neg (show ¬ (false = true) by decide)] at H; exact H
         clear H
         have H := H1
         clear H1
         have H' := Aside0.mk H
         clear H
         go_wp2
         go_meet
         case rel => exact ⟨_, (x3_2), H', ⟨by have := HK1.out; have := HK2.out; have := HJ14.out; first | omega | exact Nat.le_refl _⟩, ⟨by (with_reducible repeat (first | apply Kd.R_alloc | apply Kd.R_drewN | apply Kd.R_drew)); exact HO_3.out⟩, ⟨bk_⟩, ⟨bk_⟩, ⟨bw_⟩⟩
        subst c26
        have H1 : (if x3_2.length < 8796093022208 then (spec_SpotsOf.j3 kj14 (x3_2 ++ [(⟨x4_1, x6_2⟩ : S96)]) x4_1 x5_2 x6_2 a0_0 l0_1 ((rd_T82 (rd_L5 l0_1 x4_1) x6_2).f0) ((rd_T82 (rd_L5 l0_1 x4_1) x6_2).f1) ((rd_T82 (rd_L5 l0_1 x4_1) x6_2).f2) ((rd_T82 (rd_L5 l0_1 x4_1) x6_2).f3)) else (none)) = some r := by rw [if_pos rfl] at H; exact H
        clear H
        have H := H1
        clear H1
        by_cases c27 : x3_2.length < 8796093022208
        rotate_left
        ·rw [if_neg c27] at H
         exact absurd H (by simp)
        rw [if_pos c27] at H
        have LMc27 := Aside0.mk c27
        clear c27
        obtain ⟨y10, hy10⟩ : ∃ y_ : List (S96), y_ = (x3_2 ++ [(⟨x4_1, x6_2⟩ : S96)]) := ⟨_, rfl⟩
        replace H : (spec_SpotsOf.j3 kj14 y10 x4_1 x5_2 x6_2 a0_0 l0_1 ((rd_T82 (rd_L5 l0_1 x4_1) x6_2).f0) ((rd_T82 (rd_L5 l0_1 x4_1) x6_2).f1) ((rd_T82 (rd_L5 l0_1 x4_1) x6_2).f2) ((rd_T82 (rd_L5 l0_1 x4_1) x6_2).f3)) = some r := by first | (rw [hy10]; with_reducible exact H) | (have H2_ := (Option.bind_some _ _).symm.trans H; rw [hy10]; with_reducible exact H2_) | (have H2_ := (Option.bind_some _ _).symm.trans H; with_reducible exact H2_) | with_reducible exact H | (rw [hy10]; exact H) | exact H
        have Ny10 := Aside0.mk hy10
        clear hy10
        have H' := Aside0.mk H
        clear H
        go_wp2_with (first | ((with_reducible refine gate_builtin (b := .append) (xs := #[.tmp 43, .tmp 47]) rfl ?_); at_builtin; refine Kd.R_append k96 (w0 := w) w.heap.size rfl (.tmp 43) (.tmp 47) 46 96 (.agg #[(.int .i64 0), (.int .i64 0)]) 16 rfl Try.underlying46 info96 rfl (by decide) (by omega) u3 x3_2 (⟨x4_1, x6_2⟩ : S96) [.int .i64 x4_1, .int .i64 x6_2] (fun _ => True) (fun _ => False) rfl rfl ?aP (fun _ hk => hk.elim) ?aF ?aO ?aB ?aS ?aL ?_; (case aP => exact k96_mkM _ _ _ (⟨x4_1, x6_2⟩ : S96)); (case aB => exact bw_); (case aF => exact (fun _ _ => trivial)); (case aO => exact (by (with_reducible repeat (first | apply Kd.R_alloc | apply Kd.R_drewN | apply Kd.R_drew)); exact HO_3.out)); (case aS => exact (below_size bw_)); (case aL => have := LMc27.out; omega); intro v11 w28 ho hb hg hat; rw [← Ny10.out] at ho; have n0_ := Aside0.mk (blk_grown (g := gb1) (o := .cells #[.int .i64 a0_0, .slice (some ad6) l0_1.length c0_1] 39 (0, 0)) bk_ hg (Kd.R_ne HO_3.out BK1.out (by decide))); have n1_ := Aside0.mk (blk_grown (g := gb9) (o := .cells #[.int .i64 ((rd_T82 (rd_L5 l0_1 x4_1) x6_2).f0), .int .i64 ((rd_T82 (rd_L5 l0_1 x4_1) x6_2).f1), .int .i64 ((rd_T82 (rd_L5 l0_1 x4_1) x6_2).f2), .int .i64 ((rd_T82 (rd_L5 l0_1 x4_1) x6_2).f3)] 82 (0, 0)) bk_ hg (Kd.R_ne HO_3.out BK9.out (by decide))); have n2_ := Aside0.mk (hb); have n3_ := Aside0.mk (ho); clear BK1; clear BK9; clear HB; clear HO_3; have BK1 := n0_; have BK9 := n1_; have HB := n2_; have HO12 := n3_; clear n0_ n1_ n2_ n3_; clear ho hb hg hat))
        go_meet
        case rel => exact ⟨_, (y10), H', ⟨by have := HK1.out; have := HK2.out; have := HJ14.out; first | omega | exact Nat.le_refl _⟩, ⟨by (with_reducible repeat (first | apply Kd.R_alloc | apply Kd.R_drewN | apply Kd.R_drew)); exact HO12.out⟩, ⟨bk_⟩, ⟨bk_⟩, ⟨bw_⟩⟩
       case rest =>
        clear HC25
        try clear c1
        try clear c2
        try clear p2
        try clear c3
        try clear c5
        try clear c6
        try clear p6
        try clear q6
        try clear hx6
        try clear c7
        try clear p7
        try clear q7
        try clear hx7
        try clear p8
        try clear q8
        try clear hx8
        try clear c9
        try clear c9b0
        try clear c11
        try clear c11b0
        try clear c12
        try clear c12b0
        try clear c13
        try clear c13b0
        try clear c14
        try clear c14b0
        try clear c18
        try clear c20
        try clear c20b0
        try clear c20b1
        try clear c21
        try clear c23
        try clear c26
        try clear c27
        try clear hcz10_0 hcz10_1
        try clear hcz16_0 hcz16_1
        try clear hcz19_0 hcz19_1 hcz19_2 hcz19_3
        try clear hcz22_0 hcz22_1 hcz22_2 hcz22_3
        try clear hcz24_0 hcz24_1 hcz24_2 hcz24_3
        try clear hcz7_0 hcz7_1
        try clear hfz10_0 hfz10_1
        try clear hfz16_0 hfz16_1
        try clear hfz19_0 hfz19_1 hfz19_2 hfz19_3
        try clear hfz22_0 hfz22_1 hfz22_2 hfz22_3
        try clear hfz24_0 hfz24_1 hfz24_2 hfz24_3
        try clear hfz7_0 hfz7_1
        try clear hx6_0
        try clear hx7_0
        try clear hx8_0
        try clear hx8_1
        try clear hx8_2
        try clear hx8_3
        try clear p2
        try clear p6
        try clear p7
        try clear p8
        try clear q6
        try clear q7
        try clear q8
        obtain ⟨kq, x3_24, HA, HJ24, HO_3, BK1, BK9, HB⟩ := hcut
        cases kq with
        | zero => exact absurd HA.out (by simp [spec_SpotsOf.j3])
        | succ kj24 =>
         have H := HA.out
         clear HA
         simp only [spec_SpotsOf.j3] at H
         by_cases c29 : ((rd_T82 (rd_L5 l0_1 x4_1) x6_2).f0) = 3
         rotate_left
         ·rw [if_neg c29] at H
          have c29b0 : (((rd_T82 (rd_L5 l0_1 x4_1) x6_2).f0) == 3) = false := beq_eq_false_iff_ne.mpr c29
          have c29b1 : (((rd_T82 (rd_L5 l0_1 x4_1) x6_2).f0) != 3) = true := bne_iff_ne.mpr c29
          replace H := Option.bind_eq_some_iff.mp H
          obtain ⟨t14, A440, H⟩ := H
          replace H : (if t14 = true then (spec_SpotsOf.l1 kj24 x3_24 x4_1 false (wrap64 (x6_2 + 1)) a0_0 l0_1) else (if ((rd_T82 (rd_L5 l0_1 x4_1) x6_2).f0) = 6 then (spec_SpotsOf.l1 kj24 x3_24 x4_1 false (wrap64 (x6_2 + 1)) a0_0 l0_1) else (spec_SpotsOf.l1 kj24 x3_24 x4_1 x5_2 (wrap64 (x6_2 + 1)) a0_0 l0_1))) = some r := H
          have A44 := Aside0.mk A440
          clear A440
          by_cases c45 : t14 = true
          ·subst c45
           have H1 : (spec_SpotsOf.l1 kj24 x3_24 x4_1 false (wrap64 (x6_2 + 1)) a0_0 l0_1) = some r := by rw [if_pos rfl] at H; exact H
           clear H
           have H := H1
           clear H1
           have H' := Aside0.mk H
           clear H
           have hnb46 := NB9_1.out
           have hnc46 := NB1_9.out
           have hcz47_0 := (blk_cell BK9.out 0).trans rfl
           have hcz47_1 := (blk_cell BK9.out 1).trans rfl
           have hcz47_2 := (blk_cell BK9.out 2).trans rfl
           have hcz47_3 := (blk_cell BK9.out 3).trans rfl
           have hfz47_0 := blk_frozen BK9.out 0
           have hfz47_1 := blk_frozen BK9.out 1
           have hfz47_2 := blk_frozen BK9.out 2
           have hfz47_3 := blk_frozen BK9.out 3
           go_wp2_with (first | ((with_reducible refine gate_callee (f := 65) rfl ?_); refine goesL_ (some 53) rfl rfl Try.func65 (by kernel_rfl) rfl #[.agg #[.int .i64 ((rd_T82 (rd_L5 l0_1 x4_1) x6_2).f0), .int .i64 ((rd_T82 (rd_L5 l0_1 x4_1) x6_2).f1), .int .i64 ((rd_T82 (rd_L5 l0_1 x4_1) x6_2).f2), .int .i64 ((rd_T82 (rd_L5 l0_1 x4_1) x6_2).f3)]] rfl ar_ ?_; (with_reducible refine (spec_HasFence.calls ((rd_T82 (rd_L5 l0_1 x4_1) x6_2).f0) ((rd_T82 (rd_L5 l0_1 x4_1) x6_2).f1) ((rd_T82 (rd_L5 l0_1 x4_1) x6_2).f2) ((rd_T82 (rd_L5 l0_1 x4_1) x6_2).f3) true _ A44.out).mono ?_); rintro e w48 ⟨rfl, hb⟩; refine ⟨_, rfl, ?_⟩; have n0_ := Aside0.mk (Kd.R_below (by (with_reducible repeat (first | apply Kd.R_alloc | apply Kd.R_drewN | apply Kd.R_drew)); exact HO_3.out) hb); have n1_ := Aside0.mk (blk_below (g := gb1) (o := .cells #[.int .i64 a0_0, .slice (some ad6) l0_1.length c0_1] 39 (0, 0)) bk_ hb); have n2_ := Aside0.mk (blk_below (g := gb9) (o := .cells #[.int .i64 ((rd_T82 (rd_L5 l0_1 x4_1) x6_2).f0), .int .i64 ((rd_T82 (rd_L5 l0_1 x4_1) x6_2).f1), .int .i64 ((rd_T82 (rd_L5 l0_1 x4_1) x6_2).f2), .int .i64 ((rd_T82 (rd_L5 l0_1 x4_1) x6_2).f3)] 82 (0, 0)) bk_ hb); have n3_ := Aside0.mk (below_step bw_ hb); clear HO_3; clear BK1; clear BK9; clear HB; have HO_3 := n0_; have BK1 := n1_; have BK9 := n2_; have HB := n3_; clear n0_ n1_ n2_ n3_; (try clear hb); (try clear hb2); (try clear hk); (try clear hi)))
           go_roundg kj24
           case measure => have := HK1.out; have := HK2.out; have := HJ14.out; have := HJ24.out; omega
           case rel => exact ⟨(x3_24), (false), (wrap64 (x6_2 + 1)), sd_, sd_, H', ⟨by have := HK1.out; have := HK2.out; have := HJ14.out; have := HJ24.out; omega⟩, ⟨by (with_reducible repeat (first | apply Kd.R_alloc | apply Kd.R_drewN | apply Kd.R_drew)); exact HO_3.out⟩, ⟨bk_⟩, ⟨bw_⟩⟩
          replace c45 := Bool.eq_false_iff.mpr c45
          subst c45
          have H1 : (if ((rd_T82 (rd_L5 l0_1 x4_1) x6_2).f0) = 6 then (spec_SpotsOf.l1 kj24 x3_24 x4_1 false (wrap64 (x6_2 + 1)) a0_0 l0_1) else (spec_SpotsOf.l1 kj24 x3_24 x4_1 x5_2 (wrap64 (x6_2 + 1)) a0_0 l0_1)) = some r := by rw [if_neg (show ¬ (false = true) by decide)] at H; exact H
          clear H
          have H := H1
          clear H1
          by_cases c49 : ((rd_T82 (rd_L5 l0_1 x4_1) x6_2).f0) = 6
          rotate_left
          ·rw [if_neg c49] at H
           have c49b0 : (((rd_T82 (rd_L5 l0_1 x4_1) x6_2).f0) == 6) = false := beq_eq_false_iff_ne.mpr c49
           have c49b1 : (((rd_T82 (rd_L5 l0_1 x4_1) x6_2).f0) != 6) = true := bne_iff_ne.mpr c49
           have H' := Aside0.mk H
           clear H
           have hnb54 := NB9_1.out
           have hnc54 := NB1_9.out
           have hcz55_0 := (blk_cell BK9.out 0).trans rfl
           have hcz55_1 := (blk_cell BK9.out 1).trans rfl
           have hcz55_2 := (blk_cell BK9.out 2).trans rfl
           have hcz55_3 := (blk_cell BK9.out 3).trans rfl
           have hfz55_0 := blk_frozen BK9.out 0
           have hfz55_1 := blk_frozen BK9.out 1
           have hfz55_2 := blk_frozen BK9.out 2
           have hfz55_3 := blk_frozen BK9.out 3
           go_wp2_with (first | ((with_reducible refine gate_callee (f := 65) rfl ?_); refine goesL_ (some 53) rfl rfl Try.func65 (by kernel_rfl) rfl #[.agg #[.int .i64 ((rd_T82 (rd_L5 l0_1 x4_1) x6_2).f0), .int .i64 ((rd_T82 (rd_L5 l0_1 x4_1) x6_2).f1), .int .i64 ((rd_T82 (rd_L5 l0_1 x4_1) x6_2).f2), .int .i64 ((rd_T82 (rd_L5 l0_1 x4_1) x6_2).f3)]] rfl ar_ ?_; (with_reducible refine (spec_HasFence.calls ((rd_T82 (rd_L5 l0_1 x4_1) x6_2).f0) ((rd_T82 (rd_L5 l0_1 x4_1) x6_2).f1) ((rd_T82 (rd_L5 l0_1 x4_1) x6_2).f2) ((rd_T82 (rd_L5 l0_1 x4_1) x6_2).f3) false _ A44.out).mono ?_); rintro e w56 ⟨rfl, hb⟩; refine ⟨_, rfl, ?_⟩; have n0_ := Aside0.mk (Kd.R_below (by (with_reducible repeat (first | apply Kd.R_alloc | apply Kd.R_drewN | apply Kd.R_drew)); exact HO_3.out) hb); have n1_ := Aside0.mk (blk_below (g := gb1) (o := .cells #[.int .i64 a0_0, .slice (some ad6) l0_1.length c0_1] 39 (0, 0)) bk_ hb); have n2_ := Aside0.mk (blk_below (g := gb9) (o := .cells #[.int .i64 ((rd_T82 (rd_L5 l0_1 x4_1) x6_2).f0), .int .i64 ((rd_T82 (rd_L5 l0_1 x4_1) x6_2).f1), .int .i64 ((rd_T82 (rd_L5 l0_1 x4_1) x6_2).f2), .int .i64 ((rd_T82 (rd_L5 l0_1 x4_1) x6_2).f3)] 82 (0, 0)) bk_ hb); have n3_ := Aside0.mk (below_step bw_ hb); clear HO_3; clear BK1; clear BK9; clear HB; have HO_3 := n0_; have BK1 := n1_; have BK9 := n2_; have HB := n3_; clear n0_ n1_ n2_ n3_; (try clear hb); (try clear hb2); (try clear hk); (try clear hi); have hcz57_0 := (blk_cell BK9.out 0).trans rfl; have hcz57_1 := (blk_cell BK9.out 1).trans rfl; have hcz57_2 := (blk_cell BK9.out 2).trans rfl; have hcz57_3 := (blk_cell BK9.out 3).trans rfl; have hfz57_0 := blk_frozen BK9.out 0; have hfz57_1 := blk_frozen BK9.out 1; have hfz57_2 := blk_frozen BK9.out 2; have hfz57_3 := blk_frozen BK9.out 3))
           go_roundg kj24
           case measure => have := HK1.out; have := HK2.out; have := HJ14.out; have := HJ24.out; omega
           case rel => exact ⟨(x3_24), (x5_2), (wrap64 (x6_2 + 1)), sd_, sd_, H', ⟨by have := HK1.out; have := HK2.out; have := HJ14.out; have := HJ24.out; omega⟩, ⟨by (with_reducible repeat (first | apply Kd.R_alloc | apply Kd.R_drewN | apply Kd.R_drew)); exact HO_3.out⟩, ⟨bk_⟩, ⟨bw_⟩⟩
          rw [if_pos c49] at H
          have c49b0 : (((rd_T82 (rd_L5 l0_1 x4_1) x6_2).f0) == 6) = true := beq_iff_eq.mpr c49
          have c49b1 : (((rd_T82 (rd_L5 l0_1 x4_1) x6_2).f0) != 6) = false := bne_eq_false_iff_eq.mpr c49
          clear c49
          have H' := Aside0.mk H
          clear H
          have hnb50 := NB9_1.out
          have hnc50 := NB1_9.out
          have hcz51_0 := (blk_cell BK9.out 0).trans rfl
          have hcz51_1 := (blk_cell BK9.out 1).trans rfl
          have hcz51_2 := (blk_cell BK9.out 2).trans rfl
          have hcz51_3 := (blk_cell BK9.out 3).trans rfl
          have hfz51_0 := blk_frozen BK9.out 0
          have hfz51_1 := blk_frozen BK9.out 1
          have hfz51_2 := blk_frozen BK9.out 2
          have hfz51_3 := blk_frozen BK9.out 3
          go_wp2_with (first | ((with_reducible refine gate_callee (f := 65) rfl ?_); refine goesL_ (some 53) rfl rfl Try.func65 (by kernel_rfl) rfl #[.agg #[.int .i64 ((rd_T82 (rd_L5 l0_1 x4_1) x6_2).f0), .int .i64 ((rd_T82 (rd_L5 l0_1 x4_1) x6_2).f1), .int .i64 ((rd_T82 (rd_L5 l0_1 x4_1) x6_2).f2), .int .i64 ((rd_T82 (rd_L5 l0_1 x4_1) x6_2).f3)]] rfl ar_ ?_; (with_reducible refine (spec_HasFence.calls ((rd_T82 (rd_L5 l0_1 x4_1) x6_2).f0) ((rd_T82 (rd_L5 l0_1 x4_1) x6_2).f1) ((rd_T82 (rd_L5 l0_1 x4_1) x6_2).f2) ((rd_T82 (rd_L5 l0_1 x4_1) x6_2).f3) false _ A44.out).mono ?_); rintro e w52 ⟨rfl, hb⟩; refine ⟨_, rfl, ?_⟩; have n0_ := Aside0.mk (Kd.R_below (by (with_reducible repeat (first | apply Kd.R_alloc | apply Kd.R_drewN | apply Kd.R_drew)); exact HO_3.out) hb); have n1_ := Aside0.mk (blk_below (g := gb1) (o := .cells #[.int .i64 a0_0, .slice (some ad6) l0_1.length c0_1] 39 (0, 0)) bk_ hb); have n2_ := Aside0.mk (blk_below (g := gb9) (o := .cells #[.int .i64 ((rd_T82 (rd_L5 l0_1 x4_1) x6_2).f0), .int .i64 ((rd_T82 (rd_L5 l0_1 x4_1) x6_2).f1), .int .i64 ((rd_T82 (rd_L5 l0_1 x4_1) x6_2).f2), .int .i64 ((rd_T82 (rd_L5 l0_1 x4_1) x6_2).f3)] 82 (0, 0)) bk_ hb); have n3_ := Aside0.mk (below_step bw_ hb); clear HO_3; clear BK1; clear BK9; clear HB; have HO_3 := n0_; have BK1 := n1_; have BK9 := n2_; have HB := n3_; clear n0_ n1_ n2_ n3_; (try clear hb); (try clear hb2); (try clear hk); (try clear hi); have hcz53_0 := (blk_cell BK9.out 0).trans rfl; have hcz53_1 := (blk_cell BK9.out 1).trans rfl; have hcz53_2 := (blk_cell BK9.out 2).trans rfl; have hcz53_3 := (blk_cell BK9.out 3).trans rfl; have hfz53_0 := blk_frozen BK9.out 0; have hfz53_1 := blk_frozen BK9.out 1; have hfz53_2 := blk_frozen BK9.out 2; have hfz53_3 := blk_frozen BK9.out 3))
          go_roundg kj24
          case measure => have := HK1.out; have := HK2.out; have := HJ14.out; have := HJ24.out; omega
          case rel => exact ⟨(x3_24), (false), (wrap64 (x6_2 + 1)), sd_, sd_, H', ⟨by have := HK1.out; have := HK2.out; have := HJ14.out; have := HJ24.out; omega⟩, ⟨by (with_reducible repeat (first | apply Kd.R_alloc | apply Kd.R_drewN | apply Kd.R_drew)); exact HO_3.out⟩, ⟨bk_⟩, ⟨bw_⟩⟩
         rw [if_pos c29] at H
         have c29b0 : (((rd_T82 (rd_L5 l0_1 x4_1) x6_2).f0) == 3) = true := beq_iff_eq.mpr c29
         have c29b1 : (((rd_T82 (rd_L5 l0_1 x4_1) x6_2).f0) != 3) = false := bne_eq_false_iff_eq.mpr c29
         clear c29
         replace H := Option.bind_eq_some_iff.mp H
         obtain ⟨t13, A300, H⟩ := H
         replace H : (if t13 = true then (spec_SpotsOf.l1 kj24 x3_24 x4_1 false (wrap64 (x6_2 + 1)) a0_0 l0_1) else (if ((rd_T82 (rd_L5 l0_1 x4_1) x6_2).f0) = 6 then (spec_SpotsOf.l1 kj24 x3_24 x4_1 false (wrap64 (x6_2 + 1)) a0_0 l0_1) else (spec_SpotsOf.l1 kj24 x3_24 x4_1 true (wrap64 (x6_2 + 1)) a0_0 l0_1))) = some r := H
         have A30 := Aside0.mk A300
         clear A300
         by_cases c31 : t13 = true
         ·subst c31
          have H1 : (spec_SpotsOf.l1 kj24 x3_24 x4_1 false (wrap64 (x6_2 + 1)) a0_0 l0_1) = some r := by rw [if_pos rfl] at H; exact H
          clear H
          have H := H1
          clear H1
          have H' := Aside0.mk H
          clear H
          have hnb32 := NB9_1.out
          have hnc32 := NB1_9.out
          have hcz33_0 := (blk_cell BK9.out 0).trans rfl
          have hcz33_1 := (blk_cell BK9.out 1).trans rfl
          have hcz33_2 := (blk_cell BK9.out 2).trans rfl
          have hcz33_3 := (blk_cell BK9.out 3).trans rfl
          have hfz33_0 := blk_frozen BK9.out 0
          have hfz33_1 := blk_frozen BK9.out 1
          have hfz33_2 := blk_frozen BK9.out 2
          have hfz33_3 := blk_frozen BK9.out 3
          go_wp2_with (first | ((with_reducible refine gate_callee (f := 65) rfl ?_); refine goesL_ (some 53) rfl rfl Try.func65 (by kernel_rfl) rfl #[.agg #[.int .i64 ((rd_T82 (rd_L5 l0_1 x4_1) x6_2).f0), .int .i64 ((rd_T82 (rd_L5 l0_1 x4_1) x6_2).f1), .int .i64 ((rd_T82 (rd_L5 l0_1 x4_1) x6_2).f2), .int .i64 ((rd_T82 (rd_L5 l0_1 x4_1) x6_2).f3)]] rfl ar_ ?_; (with_reducible refine (spec_HasFence.calls ((rd_T82 (rd_L5 l0_1 x4_1) x6_2).f0) ((rd_T82 (rd_L5 l0_1 x4_1) x6_2).f1) ((rd_T82 (rd_L5 l0_1 x4_1) x6_2).f2) ((rd_T82 (rd_L5 l0_1 x4_1) x6_2).f3) true _ A30.out).mono ?_); rintro e w34 ⟨rfl, hb⟩; refine ⟨_, rfl, ?_⟩; have n0_ := Aside0.mk (Kd.R_below (by (with_reducible repeat (first | apply Kd.R_alloc | apply Kd.R_drewN | apply Kd.R_drew)); exact HO_3.out) hb); have n1_ := Aside0.mk (blk_below (g := gb1) (o := .cells #[.int .i64 a0_0, .slice (some ad6) l0_1.length c0_1] 39 (0, 0)) bk_ hb); have n2_ := Aside0.mk (blk_below (g := gb9) (o := .cells #[.int .i64 ((rd_T82 (rd_L5 l0_1 x4_1) x6_2).f0), .int .i64 ((rd_T82 (rd_L5 l0_1 x4_1) x6_2).f1), .int .i64 ((rd_T82 (rd_L5 l0_1 x4_1) x6_2).f2), .int .i64 ((rd_T82 (rd_L5 l0_1 x4_1) x6_2).f3)] 82 (0, 0)) bk_ hb); have n3_ := Aside0.mk (below_step bw_ hb); clear HO_3; clear BK1; clear BK9; clear HB; have HO_3 := n0_; have BK1 := n1_; have BK9 := n2_; have HB := n3_; clear n0_ n1_ n2_ n3_; (try clear hb); (try clear hb2); (try clear hk); (try clear hi)))
          go_roundg kj24
          case measure => have := HK1.out; have := HK2.out; have := HJ14.out; have := HJ24.out; omega
          case rel => exact ⟨(x3_24), (false), (wrap64 (x6_2 + 1)), sd_, sd_, H', ⟨by have := HK1.out; have := HK2.out; have := HJ14.out; have := HJ24.out; omega⟩, ⟨by (with_reducible repeat (first | apply Kd.R_alloc | apply Kd.R_drewN | apply Kd.R_drew)); exact HO_3.out⟩, ⟨bk_⟩, ⟨bw_⟩⟩
         replace c31 := Bool.eq_false_iff.mpr c31
         subst c31
         have H1 : (if ((rd_T82 (rd_L5 l0_1 x4_1) x6_2).f0) = 6 then (spec_SpotsOf.l1 kj24 x3_24 x4_1 false (wrap64 (x6_2 + 1)) a0_0 l0_1) else (spec_SpotsOf.l1 kj24 x3_24 x4_1 true (wrap64 (x6_2 + 1)) a0_0 l0_1)) = some r := by rw [if_neg (show ¬ (false = true) by decide)] at H; exact H
         clear H
         have H := H1
         clear H1
         by_cases c35 : ((rd_T82 (rd_L5 l0_1 x4_1) x6_2).f0) = 6
         rotate_left
         ·rw [if_neg c35] at H
          have c35b0 : (((rd_T82 (rd_L5 l0_1 x4_1) x6_2).f0) == 6) = false := beq_eq_false_iff_ne.mpr c35
          have c35b1 : (((rd_T82 (rd_L5 l0_1 x4_1) x6_2).f0) != 6) = true := bne_iff_ne.mpr c35
          have H' := Aside0.mk H
          clear H
          have hnb40 := NB9_1.out
          have hnc40 := NB1_9.out
          have hcz41_0 := (blk_cell BK9.out 0).trans rfl
          have hcz41_1 := (blk_cell BK9.out 1).trans rfl
          have hcz41_2 := (blk_cell BK9.out 2).trans rfl
          have hcz41_3 := (blk_cell BK9.out 3).trans rfl
          have hfz41_0 := blk_frozen BK9.out 0
          have hfz41_1 := blk_frozen BK9.out 1
          have hfz41_2 := blk_frozen BK9.out 2
          have hfz41_3 := blk_frozen BK9.out 3
          go_wp2_with (first | ((with_reducible refine gate_callee (f := 65) rfl ?_); refine goesL_ (some 53) rfl rfl Try.func65 (by kernel_rfl) rfl #[.agg #[.int .i64 ((rd_T82 (rd_L5 l0_1 x4_1) x6_2).f0), .int .i64 ((rd_T82 (rd_L5 l0_1 x4_1) x6_2).f1), .int .i64 ((rd_T82 (rd_L5 l0_1 x4_1) x6_2).f2), .int .i64 ((rd_T82 (rd_L5 l0_1 x4_1) x6_2).f3)]] rfl ar_ ?_; (with_reducible refine (spec_HasFence.calls ((rd_T82 (rd_L5 l0_1 x4_1) x6_2).f0) ((rd_T82 (rd_L5 l0_1 x4_1) x6_2).f1) ((rd_T82 (rd_L5 l0_1 x4_1) x6_2).f2) ((rd_T82 (rd_L5 l0_1 x4_1) x6_2).f3) false _ A30.out).mono ?_); rintro e w42 ⟨rfl, hb⟩; refine ⟨_, rfl, ?_⟩; have n0_ := Aside0.mk (Kd.R_below (by (with_reducible repeat (first | apply Kd.R_alloc | apply Kd.R_drewN | apply Kd.R_drew)); exact HO_3.out) hb); have n1_ := Aside0.mk (blk_below (g := gb1) (o := .cells #[.int .i64 a0_0, .slice (some ad6) l0_1.length c0_1] 39 (0, 0)) bk_ hb); have n2_ := Aside0.mk (blk_below (g := gb9) (o := .cells #[.int .i64 ((rd_T82 (rd_L5 l0_1 x4_1) x6_2).f0), .int .i64 ((rd_T82 (rd_L5 l0_1 x4_1) x6_2).f1), .int .i64 ((rd_T82 (rd_L5 l0_1 x4_1) x6_2).f2), .int .i64 ((rd_T82 (rd_L5 l0_1 x4_1) x6_2).f3)] 82 (0, 0)) bk_ hb); have n3_ := Aside0.mk (below_step bw_ hb); clear HO_3; clear BK1; clear BK9; clear HB; have HO_3 := n0_; have BK1 := n1_; have BK9 := n2_; have HB := n3_; clear n0_ n1_ n2_ n3_; (try clear hb); (try clear hb2); (try clear hk); (try clear hi); have hcz43_0 := (blk_cell BK9.out 0).trans rfl; have hcz43_1 := (blk_cell BK9.out 1).trans rfl; have hcz43_2 := (blk_cell BK9.out 2).trans rfl; have hcz43_3 := (blk_cell BK9.out 3).trans rfl; have hfz43_0 := blk_frozen BK9.out 0; have hfz43_1 := blk_frozen BK9.out 1; have hfz43_2 := blk_frozen BK9.out 2; have hfz43_3 := blk_frozen BK9.out 3))
          go_roundg kj24
          case measure => have := HK1.out; have := HK2.out; have := HJ14.out; have := HJ24.out; omega
          case rel => exact ⟨(x3_24), (true), (wrap64 (x6_2 + 1)), sd_, sd_, H', ⟨by have := HK1.out; have := HK2.out; have := HJ14.out; have := HJ24.out; omega⟩, ⟨by (with_reducible repeat (first | apply Kd.R_alloc | apply Kd.R_drewN | apply Kd.R_drew)); exact HO_3.out⟩, ⟨bk_⟩, ⟨bw_⟩⟩
         rw [if_pos c35] at H
         have c35b0 : (((rd_T82 (rd_L5 l0_1 x4_1) x6_2).f0) == 6) = true := beq_iff_eq.mpr c35
         have c35b1 : (((rd_T82 (rd_L5 l0_1 x4_1) x6_2).f0) != 6) = false := bne_eq_false_iff_eq.mpr c35
         clear c35
         have H' := Aside0.mk H
         clear H
         have hnb36 := NB9_1.out
         have hnc36 := NB1_9.out
         have hcz37_0 := (blk_cell BK9.out 0).trans rfl
         have hcz37_1 := (blk_cell BK9.out 1).trans rfl
         have hcz37_2 := (blk_cell BK9.out 2).trans rfl
         have hcz37_3 := (blk_cell BK9.out 3).trans rfl
         have hfz37_0 := blk_frozen BK9.out 0
         have hfz37_1 := blk_frozen BK9.out 1
         have hfz37_2 := blk_frozen BK9.out 2
         have hfz37_3 := blk_frozen BK9.out 3
         go_wp2_with (first | ((with_reducible refine gate_callee (f := 65) rfl ?_); refine goesL_ (some 53) rfl rfl Try.func65 (by kernel_rfl) rfl #[.agg #[.int .i64 ((rd_T82 (rd_L5 l0_1 x4_1) x6_2).f0), .int .i64 ((rd_T82 (rd_L5 l0_1 x4_1) x6_2).f1), .int .i64 ((rd_T82 (rd_L5 l0_1 x4_1) x6_2).f2), .int .i64 ((rd_T82 (rd_L5 l0_1 x4_1) x6_2).f3)]] rfl ar_ ?_; (with_reducible refine (spec_HasFence.calls ((rd_T82 (rd_L5 l0_1 x4_1) x6_2).f0) ((rd_T82 (rd_L5 l0_1 x4_1) x6_2).f1) ((rd_T82 (rd_L5 l0_1 x4_1) x6_2).f2) ((rd_T82 (rd_L5 l0_1 x4_1) x6_2).f3) false _ A30.out).mono ?_); rintro e w38 ⟨rfl, hb⟩; refine ⟨_, rfl, ?_⟩; have n0_ := Aside0.mk (Kd.R_below (by (with_reducible repeat (first | apply Kd.R_alloc | apply Kd.R_drewN | apply Kd.R_drew)); exact HO_3.out) hb); have n1_ := Aside0.mk (blk_below (g := gb1) (o := .cells #[.int .i64 a0_0, .slice (some ad6) l0_1.length c0_1] 39 (0, 0)) bk_ hb); have n2_ := Aside0.mk (blk_below (g := gb9) (o := .cells #[.int .i64 ((rd_T82 (rd_L5 l0_1 x4_1) x6_2).f0), .int .i64 ((rd_T82 (rd_L5 l0_1 x4_1) x6_2).f1), .int .i64 ((rd_T82 (rd_L5 l0_1 x4_1) x6_2).f2), .int .i64 ((rd_T82 (rd_L5 l0_1 x4_1) x6_2).f3)] 82 (0, 0)) bk_ hb); have n3_ := Aside0.mk (below_step bw_ hb); clear HO_3; clear BK1; clear BK9; clear HB; have HO_3 := n0_; have BK1 := n1_; have BK9 := n2_; have HB := n3_; clear n0_ n1_ n2_ n3_; (try clear hb); (try clear hb2); (try clear hk); (try clear hi); have hcz39_0 := (blk_cell BK9.out 0).trans rfl; have hcz39_1 := (blk_cell BK9.out 1).trans rfl; have hcz39_2 := (blk_cell BK9.out 2).trans rfl; have hcz39_3 := (blk_cell BK9.out 3).trans rfl; have hfz39_0 := blk_frozen BK9.out 0; have hfz39_1 := blk_frozen BK9.out 1; have hfz39_2 := blk_frozen BK9.out 2; have hfz39_3 := blk_frozen BK9.out 3))
         go_roundg kj24
         case measure => have := HK1.out; have := HK2.out; have := HJ14.out; have := HJ24.out; omega
         case rel => exact ⟨(x3_24), (false), (wrap64 (x6_2 + 1)), sd_, sd_, H', ⟨by have := HK1.out; have := HK2.out; have := HJ14.out; have := HJ24.out; omega⟩, ⟨by (with_reducible repeat (first | apply Kd.R_alloc | apply Kd.R_drewN | apply Kd.R_drew)); exact HO_3.out⟩, ⟨bk_⟩, ⟨bw_⟩⟩

end Go.Proofs.Ytlfbdafghpmahaa.P
