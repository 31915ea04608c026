-- Written by mp.py (the session's own driver over the kit's printer) for the seat YtbgclnjnngolmaaDoor.
import Derived.Test.YtbgclnjnngolmaaDoorK
import Derived.Test.YtbgclnjnngolmaaDoorE
import Derived.Test.YtbgclnjnngolmaaDoorPlawsbig
namespace Go.Proofs.YtbgclnjnngolmaaDoor.P
open Go.RowKit Go.Proofs.YtbgclnjnngolmaaDoorW.PrintWords Go.Proofs.YtbgclnjnngolmaaDoorW.PrintLast Go.Proofs.YtbgclnjnngolmaaDoorW.PrintMore
attribute [local go_sem] max2_int min2_int max_two min_two max_three min_three max_four min_four
set_option linter.unusedVariables false
set_option linter.unusedSimpArgs false

/-! ### spec_WithFences: function 10 -/
mutual
def spec_WithFences.l0 : Nat → List (S37) → List (S37) → List Int → Int → Option ((List (S37)) × Bool)
 | 0, _, _, _, _ => none
 | k + 1, x0, x4, x5, x6 => if x6 < (x0.length : Int) then (if 0 ≤ x6 then (if ((rd_T37 x0 x6).f0) = 6 then ((spec_l01In.f ((rd_T37 x0 x6).f3) 0 (x0.length : Int)).bind fun t9 => (spec_WithFences.j1 k x0 x4 x5 x6 (!t9))) else (spec_WithFences.j1 k x0 x4 x5 x6 false)) else (none)) else (if x5.length < 17592186044416 then (if (x4.length : Int) > 16 then (some (([] : List (S37)), false)) else (spec_WithFences.l1 k x4 (x5 ++ [(x4.length : Int)]) 0)) else (none))
def spec_WithFences.j1 : Nat → List (S37) → List (S37) → List Int → Int → Bool → Option ((List (S37)) × Bool)
 | 0, _, _, _, _, _ => none
 | k + 1, x0, x4, x5, x6, x35 => if x35 = true then (some (([] : List (S37)), false)) else (if x5.length < 17592186044416 then ((some (x5 ++ [(x4.length : Int)] : List Int)).bind fun y10 => (if 0 ≤ x6 then (if x6 < (x0.length : Int) then (if x4.length < 4398046511104 then ((some (x4 ++ [(⟨(rd_T37 x0 x6).f0, (rd_T37 x0 x6).f1, (rd_T37 x0 x6).f2, (rd_T37 x0 x6).f3⟩ : S37)] : List (S37))).bind fun y14 => (if ((rd_T37 x0 x6).f0) = 3 then (if (wrap64 (x6 + 1)) = (x0.length : Int) then (if y14.length < 4398046511104 then (spec_WithFences.l0 k x0 (y14 ++ [(⟨4, 0, 0, 0⟩ : S37)]) y10 (wrap64 (x6 + 1))) else (none)) else (if 0 ≤ (wrap64 (x6 + 1)) then (if (wrap64 (x6 + 1)) < (x0.length : Int) then (if ((rd_T37 x0 (wrap64 (x6 + 1))).f0) = 4 then (spec_WithFences.l0 k x0 y14 y10 (wrap64 (x6 + 1))) else (if y14.length < 4398046511104 then (spec_WithFences.l0 k x0 (y14 ++ [(⟨4, 0, 0, 0⟩ : S37)]) y10 (wrap64 (x6 + 1))) else (none))) else (none)) else (none))) else (spec_WithFences.l0 k x0 y14 y10 (wrap64 (x6 + 1))))) else (none)) else (none)) else (none))) else (none))
def spec_WithFences.l1 : Nat → List (S37) → List Int → Int → Option ((List (S37)) × Bool)
 | 0, _, _, _ => none
 | k + 1, x4, x5, x7 => if x7 < (x4.length : Int) then (if 0 ≤ x7 then (if ((rd_T37 x4 x7).f0) = 6 then (if 0 ≤ ((rd_T37 x4 x7).f3) then (if ((rd_T37 x4 x7).f3) < (x5.length : Int) then (spec_WithFences.l1 k (x4.set (x7 : Int).toNat (⟨(rd_T37 x4 x7).f0, (rd_T37 x4 x7).f1, (rd_T37 x4 x7).f2, rd x5 ((rd_T37 x4 x7).f3)⟩ : S37)) x5 (wrap64 (x7 + 1))) else (none)) else (none)) else (spec_WithFences.l1 k x4 x5 (wrap64 (x7 + 1)))) else (none)) else (some (x4, true))
end
def spec_WithFences.f (k : Nat) (l0 : List (S37)) : Option ((List (S37)) × Bool) := if (l0.length : Int) > 16 then (some (([] : List (S37)), false)) else (spec_WithFences.l0 k l0 (([] : List (S37))) (([] : List Int)) 0)
theorem spec_WithFences.mono_l : ∀ k, (∀ y0 y1 y2 y3, LeO (spec_WithFences.l0 k y0 y1 y2 y3) (spec_WithFences.l0 (k + 1) y0 y1 y2 y3)) ∧ (∀ y0 y1 y2 y3 y4, LeO (spec_WithFences.j1 k y0 y1 y2 y3 y4) (spec_WithFences.j1 (k + 1) y0 y1 y2 y3 y4)) ∧ (∀ y0 y1 y2, LeO (spec_WithFences.l1 k y0 y1 y2) (spec_WithFences.l1 (k + 1) y0 y1 y2))
 | 0 => ⟨fun _ _ _ _ r h => by simp [spec_WithFences.l0] at h, fun _ _ _ _ _ r h => by simp [spec_WithFences.j1] at h, fun _ _ _ r h => by simp [spec_WithFences.l1] at h⟩
 | k + 1 => by
  obtain ⟨ih0, ih1, ih2⟩ := spec_WithFences.mono_l k
  refine ⟨?_, ?_, ?_⟩
  ·intro y0 y1 y2 y3
   unfold spec_WithFences.l0
   repeat' first | (with_reducible first | exact ih0 _ _ _ _ | exact ih1 _ _ _ _ _ | exact ih2 _ _ _ | exact lr_ | exact ln_ | refine LeO.ite ?_ ?_ | refine LeO.bind ?_ (fun _ => ?_)) | exact ih0 _ _ _ _ | exact ih1 _ _ _ _ _ | exact ih2 _ _ _ | exact ln_ | refine LeO.ite ?_ ?_ | refine LeO.bind ?_ (fun _ => ?_)
  ·intro y0 y1 y2 y3 y4
   unfold spec_WithFences.j1
   repeat' first | (with_reducible first | exact ih0 _ _ _ _ | exact ih1 _ _ _ _ _ | exact ih2 _ _ _ | exact lr_ | exact ln_ | refine LeO.ite ?_ ?_ | refine LeO.bind ?_ (fun _ => ?_)) | exact ih0 _ _ _ _ | exact ih1 _ _ _ _ _ | exact ih2 _ _ _ | exact ln_ | refine LeO.ite ?_ ?_ | refine LeO.bind ?_ (fun _ => ?_)
  ·intro y0 y1 y2
   unfold spec_WithFences.l1
   repeat' first | (with_reducible first | exact ih0 _ _ _ _ | exact ih1 _ _ _ _ _ | exact ih2 _ _ _ | exact lr_ | exact ln_ | refine LeO.ite ?_ ?_ | refine LeO.bind ?_ (fun _ => ?_)) | exact ih0 _ _ _ _ | exact ih1 _ _ _ _ _ | exact ih2 _ _ _ | exact ln_ | refine LeO.ite ?_ ?_ | refine LeO.bind ?_ (fun _ => ?_)
theorem spec_WithFences.mono : ∀ a0 k, LeO (spec_WithFences.f k a0) (spec_WithFences.f (k + 1) a0) := by
 intro a0 k
 obtain ⟨ih0, ih1, ih2⟩ := spec_WithFences.mono_l k
 unfold spec_WithFences.f
 repeat' first | (with_reducible first | exact ih0 _ _ _ _ | exact ih1 _ _ _ _ _ | exact ih2 _ _ _ | exact lr_ | exact ln_ | refine LeO.ite ?_ ?_ | refine LeO.bind ?_ (fun _ => ?_)) | exact ih0 _ _ _ _ | exact ih1 _ _ _ _ _ | exact ih2 _ _ _ | exact ln_ | refine LeO.ite ?_ ?_ | refine LeO.bind ?_ (fun _ => ?_)
set_option maxHeartbeats 8000000 in
set_option maxRecDepth 100000 in
theorem spec_WithFences.calls (k : Nat) (A0 : Option Addr) (c0 : Nat) (l0 : List (S37)) (r1 : List (S37)) (r2 : Bool) (w : World) (hr0 : Kd.C k37 w A0 l0.length l0) (hc0 : l0.length ≤ c0) (h : spec_WithFences.f k l0 = some (r1, r2)) :
  Calls Tryd.prog 10 #[.slice A0 l0.length c0] w fun e w' => ∃ v0_ : Value, e = .returned (.tuple #[v0_, .bool r2]) ∧ Kd.R k37 37 w' w.heap.size (fun _ => True) v0_ r1 ∧ Below w.heap.size w w' := by
 have hu37 := Tryd.underlying37
 have HR0 := Aside0.mk hr0
 have HC0 := Aside0.mk hc0
 clear hr0 hc0
 have HB := Aside0.mk (Below.refl w.heap.size w)
 have H : (if (l0.length : Int) > 16 then (some (([] : List (S37)), false)) else (spec_WithFences.l0 k l0 (([] : List (S37))) (([] : List Int)) 0)) = some (r1, r2) := h
 clear h
 by_cases c2 : (l0.length : Int) > 16
 ·rw [if_pos c2] at H
  have c2b0 : decide (16 < (l0.length : Int)) = true := decide_eq_true c2
  have c2b1 : decide (16 < l0.length) = true := decide_eq_true (by omega)
  clear c2
  simp only [Option.some.injEq, Prod.mk.injEq] at H
  obtain ⟨rfl, rfl⟩ := H
  go_enter Tryd.func10, Tryd.ntmps10
  go_wp2
  go_ret2
  exact ⟨_, rr_, by first | exact Kd.R_nil _ _ _ _ _ | exact Kd.N_nil _ _ _ _ _ | exact Kd.V_nil _ _ _ _ _ | exact Kd.Q_nil _ _ _ _ _ | exact Kd.S_nil _ _ _ _ _, bw_⟩
 rw [if_neg c2] at H
 have c2b0 : decide (16 < (l0.length : Int)) = false := decide_eq_false c2
 have c2b1 : decide (16 < l0.length) = false := decide_eq_false (by omega)
 clear c2
 obtain ⟨y1, hy1⟩ : ∃ y_ : List (S37), y_ = (([] : List (S37))) := ⟨_, rfl⟩
 replace H : (spec_WithFences.l0 k l0 y1 (([] : List Int)) 0) = some (r1, r2) := by first | (rw [hy1]; with_reducible exact H) | (have H2_ := (Option.bind_some _ _).symm.trans H; rw [hy1]; with_reducible exact H2_) | (have H2_ := (Option.bind_some _ _).symm.trans H; with_reducible exact H2_) | with_reducible exact H | (rw [hy1]; exact H) | exact H
 have Ny1 := Aside0.mk hy1
 clear hy1
 obtain ⟨y4, hy4⟩ : ∃ y_ : List Int, y_ = (([] : List Int)) := ⟨_, rfl⟩
 replace H : (spec_WithFences.l0 k l0 y1 y4 0) = some (r1, r2) := by first | (rw [hy4]; with_reducible exact H) | (have H2_ := (Option.bind_some _ _).symm.trans H; rw [hy4]; with_reducible exact H2_) | (have H2_ := (Option.bind_some _ _).symm.trans H; with_reducible exact H2_) | with_reducible exact H | (rw [hy4]; exact H) | exact H
 have Ny4 := Aside0.mk hy4
 clear hy4
 have H' := Aside0.mk H
 clear H
 go_enter Tryd.func10, Tryd.ntmps10
 go_wp2_with (first | ((with_reducible refine gate_dst (N := 11) rfl ?_); (try (refine gate_guard (by rfl) ?_; dsimp only)); refine Kd.R_lit k37 _ 37 ?hg (N := 11) ?hd (xs := ([] : List (S37))) (inner := []) (ok := fun _ => True) (okp := fun _ => True) ?hr ?hp (fun _ hk => hk) trivial (Below.refl _ _) (Nat.le_refl _) (by simp) ?_; (case hd => rfl); (case hg => rfl); (case hr => first | (go_simp; done) | (go_simp; rfl)); (case hp => exact (Reps.none _ _)); intro v2 w3 ho4 hb hg_ hnew_; clear hg_ hnew_; (first | rw [← Ny1.out] at ho4 | (simp only [Int.reduceToNat] at ho4; rw [← Ny1.out] at ho4)); have n0_ := Aside0.mk (Kd.R_lower ho4 (below_size bw_)); have n1_ := bs_ hb; clear HB; have HO3 := n0_; have HB := n1_; clear n0_ n1_; clear hb ho4) | ((with_reducible refine gate_dst (N := 12) rfl ?_); (try (refine gate_guard (by rfl) ?_; dsimp only)); refine Kd.R_lit (Kd.int .i64) _ 3 ?hg (N := 12) ?hd (xs := ([] : List Int)) (inner := []) (ok := fun _ => True) (okp := fun _ => True) ?hr ?hp (fun _ hk => hk) trivial (Below.refl _ _) (Nat.le_refl _) (by simp) ?_; (case hd => rfl); (case hg => rfl); (case hr => first | (go_simp; done) | (go_simp; rfl)); (case hp => exact (Reps.none _ _)); intro v5 w5 ho6 hb hg_ hnew_; clear hg_ hnew_; (first | rw [← Ny4.out] at ho6 | (simp only [Int.reduceToNat] at ho6; rw [← Ny4.out] at ho6)); have n0_ := Aside0.mk (Kd.R_below (rx_ HO3.out) hb); have n1_ := Aside0.mk (Kd.R_lower ho6 (below_size bw_)); have n2_ := bs_ hb; clear HO3; clear HB; have HO3 := n0_; have HO6 := n1_; have HB := n2_; clear n0_ n1_ n2_; clear hb ho6))
 go_loopg [4, 5, 6] k (fun kq v4 v5 v6 w' => ∃ (x4_1 : List (S37)) (x5_1 : List Int) (x6_1 : Int), v6 = .int .i64 x6_1 ∧ Aside0 (spec_WithFences.l0 kq l0 x4_1 x5_1 x6_1 = some (r1, r2)) ∧ Aside0 (kq ≤ k) ∧ Aside0 (Kd.R k37 37 w' w.heap.size (fun _ => True) v4 x4_1) ∧ Aside0 (Kd.R (Kd.int .i64) 3 w' w.heap.size (fun _ => True) v5 x5_1) ∧ Aside0 (Below w.heap.size w w'))
 case atStart => exact ⟨(y1), (y4), (0), sd_, H', ⟨Nat.le_refl _⟩, ⟨by (with_reducible repeat (first | apply Kd.R_alloc | apply Kd.R_drewN | apply Kd.R_drew)); exact HO3.out⟩, ⟨by (with_reducible repeat (first | apply Kd.R_alloc | apply Kd.R_drewN | apply Kd.R_drew)); exact HO6.out⟩, ⟨bw_⟩⟩
 case round =>
  clear H'
  try clear c1
  try clear c2
  try clear c2b0
  try clear c2b1
  try clear p2
  obtain ⟨x4_1, x5_1, x6_1, rfl, HA, HK1, HO_4, HO_5, HB⟩ := hrel
  cases gk with
  | zero => exact absurd HA.out (by simp [spec_WithFences.l0])
  | succ k1 =>
   have H := HA.out
   clear HA
   simp only [spec_WithFences.l0] at H
   by_cases c7 : x6_1 < (l0.length : Int)
   ·rw [if_pos c7] at H
    have c7b0 : decide (x6_1 < (l0.length : Int)) = true := decide_eq_true c7
    clear c7
    have HC8 := Aside0.mk H
    clear H
    go_upto_region 8 with (fail)
    go_cut [35] (fun v35 wc => ∃ (kq : Nat) (x35_7 : Bool), v35 = .bool x35_7 ∧ Aside0 (spec_WithFences.j1 kq l0 x4_1 x5_1 x6_1 x35_7 = some (r1, r2)) ∧ Aside0 (kq ≤ k1) ∧ Aside0 (Kd.R k37 37 wc w.heap.size (fun _ => True) u4 x4_1) ∧ Aside0 (Kd.R (Kd.int .i64) 3 wc w.heap.size (fun _ => True) u5 x5_1) ∧ Aside0 (Below w.heap.size w wc))
    case first =>
     have H := HC8.out
     clear HC8
     by_cases c9 : 0 ≤ x6_1
     rotate_left
     ·rw [if_neg c9] at H
      exact absurd H (by simp)
     rw [if_pos c9] at H
     have c9b0 : decide (0 ≤ x6_1) = true := decide_eq_true c9
     clear c9
     (first | rw [c9b0] | (simp only [i64_w, i32_w]; rw [c9b0]) | skip)
     by_cases c10 : ((rd_T37 l0 x6_1).f0) = 6
     rotate_left
     ·rw [if_neg c10] at H
      have c10b0 : (((rd_T37 l0 x6_1).f0) == 6) = false := beq_eq_false_iff_ne.mpr c10
      have c10b1 : (((rd_T37 l0 x6_1).f0) != 6) = true := bne_iff_ne.mpr c10
      have H' := Aside0.mk H
      clear H
      have p7 : 0 ≤ (x6_1 : Int) := od_
      have q7 : x6_1 < (l0.length : Int) := od_
      obtain ⟨ad7, e7, hx7_0, hx7_1, hx7_2, hx7_3⟩ := at_T37 HR0.out x6_1 p7 q7
      cases e7
      replace hx7_0 := (HB.out.cell (World.block_lt_of_cell? w _ hx7_0)).trans hx7_0
      replace hx7_1 := (HB.out.cell (World.block_lt_of_cell? w _ hx7_1)).trans hx7_1
      replace hx7_2 := (HB.out.cell (World.block_lt_of_cell? w _ hx7_2)).trans hx7_2
      replace hx7_3 := (HB.out.cell (World.block_lt_of_cell? w _ hx7_3)).trans hx7_3
      replace p7 := eq_true p7
      replace q7 := eq_true q7
      go_wp2
      go_meet
      case rel => exact ⟨_, (false), sd_, H', ⟨by have := HK1.out; first | omega | exact Nat.le_refl _⟩, ⟨by (with_reducible repeat (first | apply Kd.R_alloc | apply Kd.R_drewN | apply Kd.R_drew)); exact HO_4.out⟩, ⟨by (with_reducible repeat (first | apply Kd.R_alloc | apply Kd.R_drewN | apply Kd.R_drew)); exact HO_5.out⟩, ⟨bw_⟩⟩
     rw [if_pos c10] at H
     have c10b0 : (((rd_T37 l0 x6_1).f0) == 6) = true := beq_iff_eq.mpr c10
     have c10b1 : (((rd_T37 l0 x6_1).f0) != 6) = false := bne_eq_false_iff_eq.mpr c10
     clear c10
     replace H := Option.bind_eq_some_iff.mp H
     obtain ⟨t9, A110, H⟩ := H
     replace H : (spec_WithFences.j1 k1 l0 x4_1 x5_1 x6_1 (!t9)) = some (r1, r2) := H
     have A11 := Aside0.mk A110
     clear A110
     have H' := Aside0.mk H
     clear H
     have p7 : 0 ≤ (x6_1 : Int) := od_
     have q7 : x6_1 < (l0.length : Int) := od_
     obtain ⟨ad7, e7, hx7_0, hx7_1, hx7_2, hx7_3⟩ := at_T37 HR0.out x6_1 p7 q7
     cases e7
     replace hx7_0 := (HB.out.cell (World.block_lt_of_cell? w _ hx7_0)).trans hx7_0
     replace hx7_1 := (HB.out.cell (World.block_lt_of_cell? w _ hx7_1)).trans hx7_1
     replace hx7_2 := (HB.out.cell (World.block_lt_of_cell? w _ hx7_2)).trans hx7_2
     replace hx7_3 := (HB.out.cell (World.block_lt_of_cell? w _ hx7_3)).trans hx7_3
     replace p7 := eq_true p7
     replace q7 := eq_true q7
     have p8 : 0 ≤ (x6_1 : Int) := od_
     have q8 : x6_1 < (l0.length : Int) := od_
     obtain ⟨ad8, e8, hx8_0, hx8_1, hx8_2, hx8_3⟩ := at_T37 HR0.out x6_1 p8 q8
     obtain rfl : ad7 = ad8 := (by injection e8)
     replace hx8_0 := (HB.out.cell (World.block_lt_of_cell? w _ hx8_0)).trans hx8_0
     replace hx8_1 := (HB.out.cell (World.block_lt_of_cell? w _ hx8_1)).trans hx8_1
     replace hx8_2 := (HB.out.cell (World.block_lt_of_cell? w _ hx8_2)).trans hx8_2
     replace hx8_3 := (HB.out.cell (World.block_lt_of_cell? w _ hx8_3)).trans hx8_3
     replace p8 := eq_true p8
     replace q8 := eq_true q8
     go_wp2_with (first | (go_at_call 17; (with_reducible refine (spec_l01In.calls ((rd_T37 l0 x6_1).f3) 0 (l0.length : Int) t9 _ A11.out).mono ?_); rintro e w' ⟨rfl, ⟨nd, rfl⟩⟩))
     go_meet
     case rel => exact ⟨_, (!t9), sd_, H', ⟨by have := HK1.out; first | omega | exact Nat.le_refl _⟩, ⟨by (with_reducible repeat (first | apply Kd.R_alloc | apply Kd.R_drewN | apply Kd.R_drew)); exact HO_4.out⟩, ⟨by (with_reducible repeat (first | apply Kd.R_alloc | apply Kd.R_drewN | apply Kd.R_drew)); exact HO_5.out⟩, ⟨bw_⟩⟩
    case rest =>
     clear HC8
     try clear c1
     try clear c2
     try clear c2b0
     try clear c2b1
     try clear p2
     try clear c7
     try clear c7b0
     try clear p7
     try clear q7
     try clear hx7
     try clear p8
     try clear q8
     try clear hx8
     try clear c9
     try clear c9b0
     try clear c10
     try clear c10b0
     try clear c10b1
     try clear hx7_0
     try clear hx7_1
     try clear hx7_2
     try clear hx7_3
     try clear hx8_0
     try clear hx8_1
     try clear hx8_2
     try clear hx8_3
     try clear p2
     try clear p7
     try clear p8
     try clear q7
     try clear q8
     obtain ⟨kq, x35_7, rfl, HA, HJ7, HO_4, HO_5, HB⟩ := hcut
     cases kq with
     | zero => exact absurd HA.out (by simp [spec_WithFences.j1])
     | succ kj7 =>
      have H := HA.out
      clear HA
      simp only [spec_WithFences.j1] at H
      by_cases c12 : x35_7 = true
      ·subst c12
       have H1 : (some (([] : List (S37)), false)) = some (r1, r2) := by rw [if_pos rfl] at H; exact H
       clear H
       have H := H1
       clear H1
       simp only [Option.some.injEq, Prod.mk.injEq] at H
       obtain ⟨rfl, rfl⟩ := H
       go_wp2
       go_ret2
       exact ⟨_, rr_, by first | exact Kd.R_nil _ _ _ _ _ | exact Kd.N_nil _ _ _ _ _ | exact Kd.V_nil _ _ _ _ _ | exact Kd.Q_nil _ _ _ _ _ | exact Kd.S_nil _ _ _ _ _, bw_⟩
      replace c12 := Bool.eq_false_iff.mpr c12
      subst c12
      have H1 : (if x5_1.length < 17592186044416 then ((some (x5_1 ++ [(x4_1.length : Int)] : List Int)).bind fun y10 => (if 0 ≤ x6_1 then (if x6_1 < (l0.length : Int) then (if x4_1.length < 4398046511104 then ((some (x4_1 ++ [(⟨(rd_T37 l0 x6_1).f0, (rd_T37 l0 x6_1).f1, (rd_T37 l0 x6_1).f2, (rd_T37 l0 x6_1).f3⟩ : S37)] : List (S37))).bind fun y14 => (if ((rd_T37 l0 x6_1).f0) = 3 then (if (wrap64 (x6_1 + 1)) = (l0.length : Int) then (if y14.length < 4398046511104 then (spec_WithFences.l0 kj7 l0 (y14 ++ [(⟨4, 0, 0, 0⟩ : S37)]) y10 (wrap64 (x6_1 + 1))) else (none)) else (if 0 ≤ (wrap64 (x6_1 + 1)) then (if (wrap64 (x6_1 + 1)) < (l0.length : Int) then (if ((rd_T37 l0 (wrap64 (x6_1 + 1))).f0) = 4 then (spec_WithFences.l0 kj7 l0 y14 y10 (wrap64 (x6_1 + 1))) else (if y14.length < 4398046511104 then (spec_WithFences.l0 kj7 l0 (y14 ++ [(⟨4, 0, 0, 0⟩ : S37)]) y10 (wrap64 (x6_1 + 1))) else (none))) else (none)) else (none))) else (spec_WithFences.l0 kj7 l0 y14 y10 (wrap64 (x6_1 + 1))))) else (none)) else (none)) else (none))) else (none)) = some (r1, r2) := by rw [if_neg (show ¬ (false = true) by decide)] at H; exact H
      clear H
      have H := H1
      clear H1
      by_cases c13 : x5_1.length < 17592186044416
      rotate_left
      ·rw [if_neg c13] at H
       exact absurd H (by simp)
      rw [if_pos c13] at H
      have LMc13 := Aside0.mk c13
      clear c13
      obtain ⟨y10, hy10⟩ : ∃ y_ : List Int, y_ = (x5_1 ++ [(x4_1.length : Int)]) := ⟨_, rfl⟩
      replace H : (if 0 ≤ x6_1 then (if x6_1 < (l0.length : Int) then (if x4_1.length < 4398046511104 then ((some (x4_1 ++ [(⟨(rd_T37 l0 x6_1).f0, (rd_T37 l0 x6_1).f1, (rd_T37 l0 x6_1).f2, (rd_T37 l0 x6_1).f3⟩ : S37)] : List (S37))).bind fun y14 => (if ((rd_T37 l0 x6_1).f0) = 3 then (if (wrap64 (x6_1 + 1)) = (l0.length : Int) then (if y14.length < 4398046511104 then (spec_WithFences.l0 kj7 l0 (y14 ++ [(⟨4, 0, 0, 0⟩ : S37)]) y10 (wrap64 (x6_1 + 1))) else (none)) else (if 0 ≤ (wrap64 (x6_1 + 1)) then (if (wrap64 (x6_1 + 1)) < (l0.length : Int) then (if ((rd_T37 l0 (wrap64 (x6_1 + 1))).f0) = 4 then (spec_WithFences.l0 kj7 l0 y14 y10 (wrap64 (x6_1 + 1))) else (if y14.length < 4398046511104 then (spec_WithFences.l0 kj7 l0 (y14 ++ [(⟨4, 0, 0, 0⟩ : S37)]) y10 (wrap64 (x6_1 + 1))) else (none))) else (none)) else (none))) else (spec_WithFences.l0 kj7 l0 y14 y10 (wrap64 (x6_1 + 1))))) else (none)) else (none)) else (none)) = some (r1, r2) := by first | (rw [hy10]; with_reducible exact H) | (have H2_ := (Option.bind_some _ _).symm.trans H; rw [hy10]; with_reducible exact H2_) | (have H2_ := (Option.bind_some _ _).symm.trans H; with_reducible exact H2_) | with_reducible exact H | (rw [hy10]; exact H) | exact H
      have Ny10 := Aside0.mk hy10
      clear hy10
      by_cases c14 : 0 ≤ x6_1
      rotate_left
      ·rw [if_neg c14] at H
       exact absurd H (by simp)
      rw [if_pos c14] at H
      have c14b0 : decide (0 ≤ x6_1) = true := decide_eq_true c14
      clear c14
      by_cases c15 : x6_1 < (l0.length : Int)
      rotate_left
      ·rw [if_neg c15] at H
       exact absurd H (by simp)
      rw [if_pos c15] at H
      have c15b0 : decide (x6_1 < (l0.length : Int)) = true := decide_eq_true c15
      clear c15
      by_cases c16 : x4_1.length < 4398046511104
      rotate_left
      ·rw [if_neg c16] at H
       exact absurd H (by simp)
      rw [if_pos c16] at H
      have LMc16 := Aside0.mk c16
      clear c16
      obtain ⟨y14, hy14⟩ : ∃ y_ : List (S37), y_ = (x4_1 ++ [(⟨(rd_T37 l0 x6_1).f0, (rd_T37 l0 x6_1).f1, (rd_T37 l0 x6_1).f2, (rd_T37 l0 x6_1).f3⟩ : S37)]) := ⟨_, rfl⟩
      replace H : (if ((rd_T37 l0 x6_1).f0) = 3 then (if (wrap64 (x6_1 + 1)) = (l0.length : Int) then (if y14.length < 4398046511104 then (spec_WithFences.l0 kj7 l0 (y14 ++ [(⟨4, 0, 0, 0⟩ : S37)]) y10 (wrap64 (x6_1 + 1))) else (none)) else (if 0 ≤ (wrap64 (x6_1 + 1)) then (if (wrap64 (x6_1 + 1)) < (l0.length : Int) then (if ((rd_T37 l0 (wrap64 (x6_1 + 1))).f0) = 4 then (spec_WithFences.l0 kj7 l0 y14 y10 (wrap64 (x6_1 + 1))) else (if y14.length < 4398046511104 then (spec_WithFences.l0 kj7 l0 (y14 ++ [(⟨4, 0, 0, 0⟩ : S37)]) y10 (wrap64 (x6_1 + 1))) else (none))) else (none)) else (none))) else (spec_WithFences.l0 kj7 l0 y14 y10 (wrap64 (x6_1 + 1)))) = some (r1, r2) := by first | (rw [hy14]; with_reducible exact H) | (have H2_ := (Option.bind_some _ _).symm.trans H; rw [hy14]; with_reducible exact H2_) | (have H2_ := (Option.bind_some _ _).symm.trans H; with_reducible exact H2_) | with_reducible exact H | (rw [hy14]; exact H) | exact H
      have Ny14 := Aside0.mk hy14
      clear hy14
      by_cases c17 : ((rd_T37 l0 x6_1).f0) = 3
      rotate_left
      ·rw [if_neg c17] at H
       have c17b0 : (((rd_T37 l0 x6_1).f0) == 3) = false := beq_eq_false_iff_ne.mpr c17
       have c17b1 : (((rd_T37 l0 x6_1).f0) != 3) = true := bne_iff_ne.mpr c17
       have H' := Aside0.mk H
       clear H
       obtain ⟨Ao36, co36, eo36⟩ := Kd.R_slice HO_4.out
       subst eo36
       go_wp2_with (first | ((with_reducible refine gate_builtin (b := .append) (xs := #[.tmp 36, .tmp 39]) rfl ?_); (try (refine gate_guard (by rfl) ?_; dsimp only)); at_builtin; refine Kd.R_append (Kd.int .i64) (w0 := w) w.heap.size rfl (.tmp 36) (.tmp 39) 53 3 (.int .i64 0) 8 rfl Tryd.underlying53 info3 rfl (by decide) (by omega) u5 x5_1 (x4_1.length : Int) [.int .i64 (x4_1.length : Int)] (fun _ => True) (fun _ => False) rfl rfl ?aP (fun _ hk => hk.elim) ?aF ?aO ?aB ?aS ?aL ?_; (case aP => exact rfl); (case aB => exact bw_); (case aF => exact (fun _ _ => trivial)); (case aO => exact (rx_ HO_5.out)); (case aS => exact (below_size bw_)); (case aL => have := LMc13.out; omega); intro v11 w37 ho hb hg hat; rw [← Ny10.out] at ho; have n0_ := Aside0.mk (Kd.R_over' (rx_ HO_4.out) (Kd.R_typed (rx_ HO_5.out)) (by decide) hg); have n1_ := Aside0.mk (hb); have n2_ := Aside0.mk (ho); clear HO_4; clear HB; clear HO_5; have HO_4 := n0_; have HB := n1_; have HO12 := n2_; clear n0_ n1_ n2_; clear ho hb hg hat; have p13 : 0 ≤ (x6_1 : Int) := od_; have q13 : x6_1 < (l0.length : Int) := od_; obtain ⟨ad13, e13, hx13_0, hx13_1, hx13_2, hx13_3⟩ := at_T37 HR0.out x6_1 p13 q13; cases e13; replace hx13_0 := (HB.out.cell (World.block_lt_of_cell? w _ hx13_0)).trans hx13_0; replace hx13_1 := (HB.out.cell (World.block_lt_of_cell? w _ hx13_1)).trans hx13_1; replace hx13_2 := (HB.out.cell (World.block_lt_of_cell? w _ hx13_2)).trans hx13_2; replace hx13_3 := (HB.out.cell (World.block_lt_of_cell? w _ hx13_3)).trans hx13_3; replace p13 := eq_true p13; replace q13 := eq_true q13) | ((with_reducible refine gate_builtin (b := .append) (xs := #[.tmp 41, .tmp 46]) rfl ?_); (try (refine gate_guard (by rfl) ?_; dsimp only)); at_builtin; refine Kd.R_append k37 (w0 := w) w.heap.size rfl (.tmp 41) (.tmp 46) 31 37 (.agg #[(.int .i64 0), (.int .i64 0), (.int .i64 0), (.int .i64 0)]) 32 rfl Tryd.underlying31 info37 rfl (by decide) (by omega) (.slice Ao36 x4_1.length co36) x4_1 (⟨(rd_T37 l0 x6_1).f0, (rd_T37 l0 x6_1).f1, (rd_T37 l0 x6_1).f2, (rd_T37 l0 x6_1).f3⟩ : S37) [.int .i64 ((rd_T37 l0 x6_1).f0), .int .i64 ((rd_T37 l0 x6_1).f1), .int .i64 ((rd_T37 l0 x6_1).f2), .int .i64 ((rd_T37 l0 x6_1).f3)] (fun _ => True) (fun _ => False) rfl rfl ?aP (fun _ hk => hk.elim) ?aF ?aO ?aB ?aS ?aL ?_; (case aP => exact k37_mkM _ _ _ (⟨(rd_T37 l0 x6_1).f0, (rd_T37 l0 x6_1).f1, (rd_T37 l0 x6_1).f2, (rd_T37 l0 x6_1).f3⟩ : S37)); (case aB => exact bw_); (case aF => exact (fun _ _ => trivial)); (case aO => exact (rx_ HO_4.out)); (case aS => exact (below_size bw_)); (case aL => have := LMc16.out; omega); intro v15 w38 ho hb hg hat; rw [← Ny14.out] at ho; have n0_ := Aside0.mk (Kd.R_over' (rx_ HO12.out) (Kd.R_typed (rx_ HO_4.out)) (by decide) hg); have n1_ := Aside0.mk (hb); have n2_ := Aside0.mk (ho); clear HO12; clear HB; clear HO_4; have HO12 := n0_; have HB := n1_; have HO16 := n2_; clear n0_ n1_ n2_; clear ho hb hg hat; have p17 : 0 ≤ (x6_1 : Int) := od_; have q17 : x6_1 < (l0.length : Int) := od_; obtain ⟨ad17, e17, hx17_0, hx17_1, hx17_2, hx17_3⟩ := at_T37 HR0.out x6_1 p17 q17; obtain rfl : ad13 = ad17 := (by injection e17); replace hx17_0 := (HB.out.cell (World.block_lt_of_cell? w _ hx17_0)).trans hx17_0; replace hx17_1 := (HB.out.cell (World.block_lt_of_cell? w _ hx17_1)).trans hx17_1; replace hx17_2 := (HB.out.cell (World.block_lt_of_cell? w _ hx17_2)).trans hx17_2; replace hx17_3 := (HB.out.cell (World.block_lt_of_cell? w _ hx17_3)).trans hx17_3; replace p17 := eq_true p17; replace q17 := eq_true q17))
       go_roundg kj7
       case measure => have := HK1.out; have := HJ7.out; omega
       case rel => exact ⟨(y14), (y10), (wrap64 (x6_1 + 1)), sd_, H', ⟨by have := HK1.out; have := HJ7.out; omega⟩, ⟨by (with_reducible repeat (first | apply Kd.R_alloc | apply Kd.R_drewN | apply Kd.R_drew)); exact HO16.out⟩, ⟨by (with_reducible repeat (first | apply Kd.R_alloc | apply Kd.R_drewN | apply Kd.R_drew)); exact HO12.out⟩, ⟨bw_⟩⟩
      rw [if_pos c17] at H
      have c17b0 : (((rd_T37 l0 x6_1).f0) == 3) = true := beq_iff_eq.mpr c17
      have c17b1 : (((rd_T37 l0 x6_1).f0) != 3) = false := bne_eq_false_iff_eq.mpr c17
      clear c17
      by_cases c18 : (wrap64 (x6_1 + 1)) = (l0.length : Int)
      ·rw [if_pos c18] at H
       have c18b0 : ((wrap64 (x6_1 + 1)) == (l0.length : Int)) = true := beq_iff_eq.mpr c18
       have c18b1 : ((wrap64 (x6_1 + 1)) != (l0.length : Int)) = false := bne_eq_false_iff_eq.mpr c18
       clear c18
       by_cases c19 : y14.length < 4398046511104
       rotate_left
       ·rw [if_neg c19] at H
        exact absurd H (by simp)
       rw [if_pos c19] at H
       have LMc19 := Aside0.mk c19
       clear c19
       obtain ⟨y18, hy18⟩ : ∃ y_ : List (S37), y_ = (y14 ++ [(⟨4, 0, 0, 0⟩ : S37)]) := ⟨_, rfl⟩
       replace H : (spec_WithFences.l0 kj7 l0 y18 y10 (wrap64 (x6_1 + 1))) = some (r1, r2) := by first | (rw [hy18]; with_reducible exact H) | (have H2_ := (Option.bind_some _ _).symm.trans H; rw [hy18]; with_reducible exact H2_) | (have H2_ := (Option.bind_some _ _).symm.trans H; with_reducible exact H2_) | with_reducible exact H | (rw [hy18]; exact H) | exact H
       have Ny18 := Aside0.mk hy18
       clear hy18
       have H' := Aside0.mk H
       clear H
       obtain ⟨Ao20, co20, eo20⟩ := Kd.R_slice HO_4.out
       subst eo20
       go_wp2_with (first | ((with_reducible refine gate_builtin (b := .append) (xs := #[.tmp 36, .tmp 39]) rfl ?_); (try (refine gate_guard (by rfl) ?_; dsimp only)); at_builtin; refine Kd.R_append (Kd.int .i64) (w0 := w) w.heap.size rfl (.tmp 36) (.tmp 39) 53 3 (.int .i64 0) 8 rfl Tryd.underlying53 info3 rfl (by decide) (by omega) u5 x5_1 (x4_1.length : Int) [.int .i64 (x4_1.length : Int)] (fun _ => True) (fun _ => False) rfl rfl ?aP (fun _ hk => hk.elim) ?aF ?aO ?aB ?aS ?aL ?_; (case aP => exact rfl); (case aB => exact bw_); (case aF => exact (fun _ _ => trivial)); (case aO => exact (rx_ HO_5.out)); (case aS => exact (below_size bw_)); (case aL => have := LMc13.out; omega); intro v11 w21 ho hb hg hat; rw [← Ny10.out] at ho; have n0_ := Aside0.mk (Kd.R_over' (rx_ HO_4.out) (Kd.R_typed (rx_ HO_5.out)) (by decide) hg); have n1_ := Aside0.mk (hb); have n2_ := Aside0.mk (ho); clear HO_4; clear HB; clear HO_5; have HO_4 := n0_; have HB := n1_; have HO12 := n2_; clear n0_ n1_ n2_; clear ho hb hg hat; have p13 : 0 ≤ (x6_1 : Int) := od_; have q13 : x6_1 < (l0.length : Int) := od_; obtain ⟨ad13, e13, hx13_0, hx13_1, hx13_2, hx13_3⟩ := at_T37 HR0.out x6_1 p13 q13; cases e13; replace hx13_0 := (HB.out.cell (World.block_lt_of_cell? w _ hx13_0)).trans hx13_0; replace hx13_1 := (HB.out.cell (World.block_lt_of_cell? w _ hx13_1)).trans hx13_1; replace hx13_2 := (HB.out.cell (World.block_lt_of_cell? w _ hx13_2)).trans hx13_2; replace hx13_3 := (HB.out.cell (World.block_lt_of_cell? w _ hx13_3)).trans hx13_3; replace p13 := eq_true p13; replace q13 := eq_true q13) | ((with_reducible refine gate_builtin (b := .append) (xs := #[.tmp 41, .tmp 46]) rfl ?_); (try (refine gate_guard (by rfl) ?_; dsimp only)); at_builtin; refine Kd.R_append k37 (w0 := w) w.heap.size rfl (.tmp 41) (.tmp 46) 31 37 (.agg #[(.int .i64 0), (.int .i64 0), (.int .i64 0), (.int .i64 0)]) 32 rfl Tryd.underlying31 info37 rfl (by decide) (by omega) (.slice Ao20 x4_1.length co20) x4_1 (⟨(rd_T37 l0 x6_1).f0, (rd_T37 l0 x6_1).f1, (rd_T37 l0 x6_1).f2, (rd_T37 l0 x6_1).f3⟩ : S37) [.int .i64 ((rd_T37 l0 x6_1).f0), .int .i64 ((rd_T37 l0 x6_1).f1), .int .i64 ((rd_T37 l0 x6_1).f2), .int .i64 ((rd_T37 l0 x6_1).f3)] (fun _ => True) (fun _ => False) rfl rfl ?aP (fun _ hk => hk.elim) ?aF ?aO ?aB ?aS ?aL ?_; (case aP => exact k37_mkM _ _ _ (⟨(rd_T37 l0 x6_1).f0, (rd_T37 l0 x6_1).f1, (rd_T37 l0 x6_1).f2, (rd_T37 l0 x6_1).f3⟩ : S37)); (case aB => exact bw_); (case aF => exact (fun _ _ => trivial)); (case aO => exact (rx_ HO_4.out)); (case aS => exact (below_size bw_)); (case aL => have := LMc16.out; omega); intro v15 w22 ho hb hg hat; rw [← Ny14.out] at ho; have n0_ := Aside0.mk (Kd.R_over' (rx_ HO12.out) (Kd.R_typed (rx_ HO_4.out)) (by decide) hg); have n1_ := Aside0.mk (hb); have n2_ := Aside0.mk (ho); clear HO12; clear HB; clear HO_4; have HO12 := n0_; have HB := n1_; have HO16 := n2_; clear n0_ n1_ n2_; clear ho hb hg hat; have p17 : 0 ≤ (x6_1 : Int) := od_; have q17 : x6_1 < (l0.length : Int) := od_; obtain ⟨ad17, e17, hx17_0, hx17_1, hx17_2, hx17_3⟩ := at_T37 HR0.out x6_1 p17 q17; obtain rfl : ad13 = ad17 := (by injection e17); replace hx17_0 := (HB.out.cell (World.block_lt_of_cell? w _ hx17_0)).trans hx17_0; replace hx17_1 := (HB.out.cell (World.block_lt_of_cell? w _ hx17_1)).trans hx17_1; replace hx17_2 := (HB.out.cell (World.block_lt_of_cell? w _ hx17_2)).trans hx17_2; replace hx17_3 := (HB.out.cell (World.block_lt_of_cell? w _ hx17_3)).trans hx17_3; replace p17 := eq_true p17; replace q17 := eq_true q17) | ((with_reducible refine gate_builtin (b := .append) (xs := #[.tmp 70, .tmp 72]) rfl ?_); (try (refine gate_guard (by rfl) ?_; dsimp only)); at_builtin; refine Kd.R_append k37 (w0 := w) w.heap.size rfl (.tmp 70) (.tmp 72) 31 37 (.agg #[(.int .i64 0), (.int .i64 0), (.int .i64 0), (.int .i64 0)]) 32 rfl Tryd.underlying31 info37 rfl (by decide) (by omega) v15 y14 (⟨4, 0, 0, 0⟩ : S37) [.int .i64 4, .int .i64 0, .int .i64 0, .int .i64 0] (fun _ => True) (fun _ => False) rfl rfl ?aP (fun _ hk => hk.elim) ?aF ?aO ?aB ?aS ?aL ?_; (case aP => exact k37_mkM _ _ _ (⟨4, 0, 0, 0⟩ : S37)); (case aB => exact bw_); (case aF => exact (fun _ _ => trivial)); (case aO => exact (rx_ HO16.out)); (case aS => exact (below_size bw_)); (case aL => have := LMc19.out; omega); intro v19 w23 ho hb hg hat; rw [← Ny18.out] at ho; have n0_ := Aside0.mk (Kd.R_over' (rx_ HO12.out) (Kd.R_typed (rx_ HO16.out)) (by decide) hg); have n1_ := Aside0.mk (hb); have n2_ := Aside0.mk (ho); clear HO12; clear HB; clear HO16; have HO12 := n0_; have HB := n1_; have HO20 := n2_; clear n0_ n1_ n2_; clear ho hb hg hat))
       go_roundg kj7
       case measure => have := HK1.out; have := HJ7.out; omega
       case rel => exact ⟨(y18), (y10), (wrap64 (x6_1 + 1)), sd_, H', ⟨by have := HK1.out; have := HJ7.out; omega⟩, ⟨by (with_reducible repeat (first | apply Kd.R_alloc | apply Kd.R_drewN | apply Kd.R_drew)); exact HO20.out⟩, ⟨by (with_reducible repeat (first | apply Kd.R_alloc | apply Kd.R_drewN | apply Kd.R_drew)); exact HO12.out⟩, ⟨bw_⟩⟩
      rw [if_neg c18] at H
      have c18b0 : ((wrap64 (x6_1 + 1)) == (l0.length : Int)) = false := beq_eq_false_iff_ne.mpr c18
      have c18b1 : ((wrap64 (x6_1 + 1)) != (l0.length : Int)) = true := bne_iff_ne.mpr c18
      obtain ⟨ji24, hji24⟩ : ∃ j_ : Int, (wrap64 (x6_1 + 1)) = j_ := ⟨_, rfl⟩
      replace H : (if 0 ≤ (ji24) then (if (ji24) < (l0.length : Int) then (if ((rd_T37 l0 (ji24)).f0) = 4 then (spec_WithFences.l0 kj7 l0 y14 y10 ji24) else (if y14.length < 4398046511104 then (spec_WithFences.l0 kj7 l0 (y14 ++ [(⟨4, 0, 0, 0⟩ : S37)]) y10 ji24) else (none))) else (none)) else (none)) = some (r1, r2) := by first | (rw [hji24] at H; exact H) | (simp only [hji24] at H ⊢; exact H)
      (try rw [hji24] at c18b0)
      (try rw [hji24] at c18b1)
      have hji24w : (IntKind.i64.wrap (x6_1 + 1)) = ji24 := (i64_w _).trans hji24
      by_cases c25 : 0 ≤ (ji24)
      rotate_left
      ·rw [if_neg c25] at H
       exact absurd H (by simp)
      rw [if_pos c25] at H
      have c25b0 : decide (0 ≤ (ji24)) = true := decide_eq_true c25
      clear c25
      by_cases c26 : (ji24) < (l0.length : Int)
      rotate_left
      ·rw [if_neg c26] at H
       exact absurd H (by simp)
      rw [if_pos c26] at H
      have c26b0 : decide ((ji24) < (l0.length : Int)) = true := decide_eq_true c26
      clear c26
      by_cases c27 : ((rd_T37 l0 (ji24)).f0) = 4
      ·rw [if_pos c27] at H
       have c27b0 : (((rd_T37 l0 (ji24)).f0) == 4) = true := beq_iff_eq.mpr c27
       have c27b1 : (((rd_T37 l0 (ji24)).f0) != 4) = false := bne_eq_false_iff_eq.mpr c27
       clear c27
       have H' := Aside0.mk H
       clear H
       obtain ⟨Ao28, co28, eo28⟩ := Kd.R_slice HO_4.out
       subst eo28
       go_wp2_with (first | ((with_reducible refine gate_builtin (b := .append) (xs := #[.tmp 36, .tmp 39]) rfl ?_); (try (refine gate_guard (by rfl) ?_; dsimp only)); at_builtin; refine Kd.R_append (Kd.int .i64) (w0 := w) w.heap.size rfl (.tmp 36) (.tmp 39) 53 3 (.int .i64 0) 8 rfl Tryd.underlying53 info3 rfl (by decide) (by omega) u5 x5_1 (x4_1.length : Int) [.int .i64 (x4_1.length : Int)] (fun _ => True) (fun _ => False) rfl rfl ?aP (fun _ hk => hk.elim) ?aF ?aO ?aB ?aS ?aL ?_; (case aP => exact rfl); (case aB => exact bw_); (case aF => exact (fun _ _ => trivial)); (case aO => exact (rx_ HO_5.out)); (case aS => exact (below_size bw_)); (case aL => have := LMc13.out; omega); intro v11 w29 ho hb hg hat; rw [← Ny10.out] at ho; have n0_ := Aside0.mk (Kd.R_over' (rx_ HO_4.out) (Kd.R_typed (rx_ HO_5.out)) (by decide) hg); have n1_ := Aside0.mk (hb); have n2_ := Aside0.mk (ho); clear HO_4; clear HB; clear HO_5; have HO_4 := n0_; have HB := n1_; have HO12 := n2_; clear n0_ n1_ n2_; clear ho hb hg hat; have p13 : 0 ≤ (x6_1 : Int) := od_; have q13 : x6_1 < (l0.length : Int) := od_; obtain ⟨ad13, e13, hx13_0, hx13_1, hx13_2, hx13_3⟩ := at_T37 HR0.out x6_1 p13 q13; cases e13; replace hx13_0 := (HB.out.cell (World.block_lt_of_cell? w _ hx13_0)).trans hx13_0; replace hx13_1 := (HB.out.cell (World.block_lt_of_cell? w _ hx13_1)).trans hx13_1; replace hx13_2 := (HB.out.cell (World.block_lt_of_cell? w _ hx13_2)).trans hx13_2; replace hx13_3 := (HB.out.cell (World.block_lt_of_cell? w _ hx13_3)).trans hx13_3; replace p13 := eq_true p13; replace q13 := eq_true q13) | ((with_reducible refine gate_builtin (b := .append) (xs := #[.tmp 41, .tmp 46]) rfl ?_); (try (refine gate_guard (by rfl) ?_; dsimp only)); at_builtin; refine Kd.R_append k37 (w0 := w) w.heap.size rfl (.tmp 41) (.tmp 46) 31 37 (.agg #[(.int .i64 0), (.int .i64 0), (.int .i64 0), (.int .i64 0)]) 32 rfl Tryd.underlying31 info37 rfl (by decide) (by omega) (.slice Ao28 x4_1.length co28) x4_1 (⟨(rd_T37 l0 x6_1).f0, (rd_T37 l0 x6_1).f1, (rd_T37 l0 x6_1).f2, (rd_T37 l0 x6_1).f3⟩ : S37) [.int .i64 ((rd_T37 l0 x6_1).f0), .int .i64 ((rd_T37 l0 x6_1).f1), .int .i64 ((rd_T37 l0 x6_1).f2), .int .i64 ((rd_T37 l0 x6_1).f3)] (fun _ => True) (fun _ => False) rfl rfl ?aP (fun _ hk => hk.elim) ?aF ?aO ?aB ?aS ?aL ?_; (case aP => exact k37_mkM _ _ _ (⟨(rd_T37 l0 x6_1).f0, (rd_T37 l0 x6_1).f1, (rd_T37 l0 x6_1).f2, (rd_T37 l0 x6_1).f3⟩ : S37)); (case aB => exact bw_); (case aF => exact (fun _ _ => trivial)); (case aO => exact (rx_ HO_4.out)); (case aS => exact (below_size bw_)); (case aL => have := LMc16.out; omega); intro v15 w30 ho hb hg hat; rw [← Ny14.out] at ho; have n0_ := Aside0.mk (Kd.R_over' (rx_ HO12.out) (Kd.R_typed (rx_ HO_4.out)) (by decide) hg); have n1_ := Aside0.mk (hb); have n2_ := Aside0.mk (ho); clear HO12; clear HB; clear HO_4; have HO12 := n0_; have HB := n1_; have HO16 := n2_; clear n0_ n1_ n2_; clear ho hb hg hat; have p17 : 0 ≤ (x6_1 : Int) := od_; have q17 : x6_1 < (l0.length : Int) := od_; obtain ⟨ad17, e17, hx17_0, hx17_1, hx17_2, hx17_3⟩ := at_T37 HR0.out x6_1 p17 q17; obtain rfl : ad13 = ad17 := (by injection e17); replace hx17_0 := (HB.out.cell (World.block_lt_of_cell? w _ hx17_0)).trans hx17_0; replace hx17_1 := (HB.out.cell (World.block_lt_of_cell? w _ hx17_1)).trans hx17_1; replace hx17_2 := (HB.out.cell (World.block_lt_of_cell? w _ hx17_2)).trans hx17_2; replace hx17_3 := (HB.out.cell (World.block_lt_of_cell? w _ hx17_3)).trans hx17_3; replace p17 := eq_true p17; replace q17 := eq_true q17; have p21 : 0 ≤ ((ji24) : Int) := od_; have q21 : (ji24) < (l0.length : Int) := od_; obtain ⟨ad21, e21, hx21_0, hx21_1, hx21_2, hx21_3⟩ := at_T37 HR0.out (ji24) p21 q21; obtain rfl : ad13 = ad21 := (by injection e21); replace hx21_0 := (HB.out.cell (World.block_lt_of_cell? w _ hx21_0)).trans hx21_0; replace hx21_1 := (HB.out.cell (World.block_lt_of_cell? w _ hx21_1)).trans hx21_1; replace hx21_2 := (HB.out.cell (World.block_lt_of_cell? w _ hx21_2)).trans hx21_2; replace hx21_3 := (HB.out.cell (World.block_lt_of_cell? w _ hx21_3)).trans hx21_3; replace p21 := eq_true p21; replace q21 := eq_true q21))
       go_roundg kj7
       case measure => have := HK1.out; have := HJ7.out; omega
       case rel => exact ⟨(y14), (y10), (ji24), (by first | rfl | (simp; done) | (simp only [← hji24] <;> (first | rfl | simp)) | (simp [*]; done)), H', ⟨by have := HK1.out; have := HJ7.out; omega⟩, ⟨by (with_reducible repeat (first | apply Kd.R_alloc | apply Kd.R_drewN | apply Kd.R_drew)); exact HO16.out⟩, ⟨by (with_reducible repeat (first | apply Kd.R_alloc | apply Kd.R_drewN | apply Kd.R_drew)); exact HO12.out⟩, ⟨bw_⟩⟩
      rw [if_neg c27] at H
      have c27b0 : (((rd_T37 l0 (ji24)).f0) == 4) = false := beq_eq_false_iff_ne.mpr c27
      have c27b1 : (((rd_T37 l0 (ji24)).f0) != 4) = true := bne_iff_ne.mpr c27
      by_cases c31 : y14.length < 4398046511104
      rotate_left
      ·rw [if_neg c31] at H
       exact absurd H (by simp)
      rw [if_pos c31] at H
      have LMc31 := Aside0.mk c31
      clear c31
      obtain ⟨y22, hy22⟩ : ∃ y_ : List (S37), y_ = (y14 ++ [(⟨4, 0, 0, 0⟩ : S37)]) := ⟨_, rfl⟩
      replace H : (spec_WithFences.l0 kj7 l0 y22 y10 ji24) = some (r1, r2) := by first | (rw [hy22]; with_reducible exact H) | (have H2_ := (Option.bind_some _ _).symm.trans H; rw [hy22]; with_reducible exact H2_) | (have H2_ := (Option.bind_some _ _).symm.trans H; with_reducible exact H2_) | with_reducible exact H | (rw [hy22]; exact H) | exact H
      have Ny22 := Aside0.mk hy22
      clear hy22
      have H' := Aside0.mk H
      clear H
      obtain ⟨Ao32, co32, eo32⟩ := Kd.R_slice HO_4.out
      subst eo32
      go_wp2_with (first | ((with_reducible refine gate_builtin (b := .append) (xs := #[.tmp 36, .tmp 39]) rfl ?_); (try (refine gate_guard (by rfl) ?_; dsimp only)); at_builtin; refine Kd.R_append (Kd.int .i64) (w0 := w) w.heap.size rfl (.tmp 36) (.tmp 39) 53 3 (.int .i64 0) 8 rfl Tryd.underlying53 info3 rfl (by decide) (by omega) u5 x5_1 (x4_1.length : Int) [.int .i64 (x4_1.length : Int)] (fun _ => True) (fun _ => False) rfl rfl ?aP (fun _ hk => hk.elim) ?aF ?aO ?aB ?aS ?aL ?_; (case aP => exact rfl); (case aB => exact bw_); (case aF => exact (fun _ _ => trivial)); (case aO => exact (rx_ HO_5.out)); (case aS => exact (below_size bw_)); (case aL => have := LMc13.out; omega); intro v11 w33 ho hb hg hat; rw [← Ny10.out] at ho; have n0_ := Aside0.mk (Kd.R_over' (rx_ HO_4.out) (Kd.R_typed (rx_ HO_5.out)) (by decide) hg); have n1_ := Aside0.mk (hb); have n2_ := Aside0.mk (ho); clear HO_4; clear HB; clear HO_5; have HO_4 := n0_; have HB := n1_; have HO12 := n2_; clear n0_ n1_ n2_; clear ho hb hg hat; have p13 : 0 ≤ (x6_1 : Int) := od_; have q13 : x6_1 < (l0.length : Int) := od_; obtain ⟨ad13, e13, hx13_0, hx13_1, hx13_2, hx13_3⟩ := at_T37 HR0.out x6_1 p13 q13; cases e13; replace hx13_0 := (HB.out.cell (World.block_lt_of_cell? w _ hx13_0)).trans hx13_0; replace hx13_1 := (HB.out.cell (World.block_lt_of_cell? w _ hx13_1)).trans hx13_1; replace hx13_2 := (HB.out.cell (World.block_lt_of_cell? w _ hx13_2)).trans hx13_2; replace hx13_3 := (HB.out.cell (World.block_lt_of_cell? w _ hx13_3)).trans hx13_3; replace p13 := eq_true p13; replace q13 := eq_true q13) | ((with_reducible refine gate_builtin (b := .append) (xs := #[.tmp 41, .tmp 46]) rfl ?_); (try (refine gate_guard (by rfl) ?_; dsimp only)); at_builtin; refine Kd.R_append k37 (w0 := w) w.heap.size rfl (.tmp 41) (.tmp 46) 31 37 (.agg #[(.int .i64 0), (.int .i64 0), (.int .i64 0), (.int .i64 0)]) 32 rfl Tryd.underlying31 info37 rfl (by decide) (by omega) (.slice Ao32 x4_1.length co32) x4_1 (⟨(rd_T37 l0 x6_1).f0, (rd_T37 l0 x6_1).f1, (rd_T37 l0 x6_1).f2, (rd_T37 l0 x6_1).f3⟩ : S37) [.int .i64 ((rd_T37 l0 x6_1).f0), .int .i64 ((rd_T37 l0 x6_1).f1), .int .i64 ((rd_T37 l0 x6_1).f2), .int .i64 ((rd_T37 l0 x6_1).f3)] (fun _ => True) (fun _ => False) rfl rfl ?aP (fun _ hk => hk.elim) ?aF ?aO ?aB ?aS ?aL ?_; (case aP => exact k37_mkM _ _ _ (⟨(rd_T37 l0 x6_1).f0, (rd_T37 l0 x6_1).f1, (rd_T37 l0 x6_1).f2, (rd_T37 l0 x6_1).f3⟩ : S37)); (case aB => exact bw_); (case aF => exact (fun _ _ => trivial)); (case aO => exact (rx_ HO_4.out)); (case aS => exact (below_size bw_)); (case aL => have := LMc16.out; omega); intro v15 w34 ho hb hg hat; rw [← Ny14.out] at ho; have n0_ := Aside0.mk (Kd.R_over' (rx_ HO12.out) (Kd.R_typed (rx_ HO_4.out)) (by decide) hg); have n1_ := Aside0.mk (hb); have n2_ := Aside0.mk (ho); clear HO12; clear HB; clear HO_4; have HO12 := n0_; have HB := n1_; have HO16 := n2_; clear n0_ n1_ n2_; clear ho hb hg hat; have p17 : 0 ≤ (x6_1 : Int) := od_; have q17 : x6_1 < (l0.length : Int) := od_; obtain ⟨ad17, e17, hx17_0, hx17_1, hx17_2, hx17_3⟩ := at_T37 HR0.out x6_1 p17 q17; obtain rfl : ad13 = ad17 := (by injection e17); replace hx17_0 := (HB.out.cell (World.block_lt_of_cell? w _ hx17_0)).trans hx17_0; replace hx17_1 := (HB.out.cell (World.block_lt_of_cell? w _ hx17_1)).trans hx17_1; replace hx17_2 := (HB.out.cell (World.block_lt_of_cell? w _ hx17_2)).trans hx17_2; replace hx17_3 := (HB.out.cell (World.block_lt_of_cell? w _ hx17_3)).trans hx17_3; replace p17 := eq_true p17; replace q17 := eq_true q17; have p21 : 0 ≤ ((ji24) : Int) := od_; have q21 : (ji24) < (l0.length : Int) := od_; obtain ⟨ad21, e21, hx21_0, hx21_1, hx21_2, hx21_3⟩ := at_T37 HR0.out (ji24) p21 q21; obtain rfl : ad13 = ad21 := (by injection e21); replace hx21_0 := (HB.out.cell (World.block_lt_of_cell? w _ hx21_0)).trans hx21_0; replace hx21_1 := (HB.out.cell (World.block_lt_of_cell? w _ hx21_1)).trans hx21_1; replace hx21_2 := (HB.out.cell (World.block_lt_of_cell? w _ hx21_2)).trans hx21_2; replace hx21_3 := (HB.out.cell (World.block_lt_of_cell? w _ hx21_3)).trans hx21_3; replace p21 := eq_true p21; replace q21 := eq_true q21) | ((with_reducible refine gate_builtin (b := .append) (xs := #[.tmp 70, .tmp 72]) rfl ?_); (try (refine gate_guard (by rfl) ?_; dsimp only)); at_builtin; refine Kd.R_append k37 (w0 := w) w.heap.size rfl (.tmp 70) (.tmp 72) 31 37 (.agg #[(.int .i64 0), (.int .i64 0), (.int .i64 0), (.int .i64 0)]) 32 rfl Tryd.underlying31 info37 rfl (by decide) (by omega) v15 y14 (⟨4, 0, 0, 0⟩ : S37) [.int .i64 4, .int .i64 0, .int .i64 0, .int .i64 0] (fun _ => True) (fun _ => False) rfl rfl ?aP (fun _ hk => hk.elim) ?aF ?aO ?aB ?aS ?aL ?_; (case aP => exact k37_mkM _ _ _ (⟨4, 0, 0, 0⟩ : S37)); (case aB => exact bw_); (case aF => exact (fun _ _ => trivial)); (case aO => exact (rx_ HO16.out)); (case aS => exact (below_size bw_)); (case aL => have := LMc31.out; omega); intro v23 w35 ho hb hg hat; rw [← Ny22.out] at ho; have n0_ := Aside0.mk (Kd.R_over' (rx_ HO12.out) (Kd.R_typed (rx_ HO16.out)) (by decide) hg); have n1_ := Aside0.mk (hb); have n2_ := Aside0.mk (ho); clear HO12; clear HB; clear HO16; have HO12 := n0_; have HB := n1_; have HO24 := n2_; clear n0_ n1_ n2_; clear ho hb hg hat))
      go_roundg kj7
      case measure => have := HK1.out; have := HJ7.out; omega
      case rel => exact ⟨(y22), (y10), (ji24), (by first | rfl | (simp; done) | (simp only [← hji24] <;> (first | rfl | simp)) | (simp [*]; done)), H', ⟨by have := HK1.out; have := HJ7.out; omega⟩, ⟨by (with_reducible repeat (first | apply Kd.R_alloc | apply Kd.R_drewN | apply Kd.R_drew)); exact HO24.out⟩, ⟨by (with_reducible repeat (first | apply Kd.R_alloc | apply Kd.R_drewN | apply Kd.R_drew)); exact HO12.out⟩, ⟨bw_⟩⟩
   rw [if_neg c7] at H
   have c7b0 : decide (x6_1 < (l0.length : Int)) = false := decide_eq_false c7
   clear c7
   by_cases c39 : x5_1.length < 17592186044416
   rotate_left
   ·rw [if_neg c39] at H
    exact absurd H (by simp)
   rw [if_pos c39] at H
   have LMc39 := Aside0.mk c39
   clear c39
   obtain ⟨y25, hy25⟩ : ∃ y_ : List Int, y_ = (x5_1 ++ [(x4_1.length : Int)]) := ⟨_, rfl⟩
   replace H : (if (x4_1.length : Int) > 16 then (some (([] : List (S37)), false)) else (spec_WithFences.l1 k1 x4_1 y25 0)) = some (r1, r2) := by first | (rw [hy25]; with_reducible exact H) | (have H2_ := (Option.bind_some _ _).symm.trans H; rw [hy25]; with_reducible exact H2_) | (have H2_ := (Option.bind_some _ _).symm.trans H; with_reducible exact H2_) | with_reducible exact H | (rw [hy25]; exact H) | exact H
   have Ny25 := Aside0.mk hy25
   clear hy25
   by_cases c40 : (x4_1.length : Int) > 16
   ·rw [if_pos c40] at H
    have c40b0 : decide (16 < (x4_1.length : Int)) = true := decide_eq_true c40
    have c40b1 : decide (16 < x4_1.length) = true := decide_eq_true (by omega)
    clear c40
    simp only [Option.some.injEq, Prod.mk.injEq] at H
    obtain ⟨rfl, rfl⟩ := H
    obtain ⟨Ao41, co41, eo41⟩ := Kd.R_slice HO_4.out
    subst eo41
    go_wp2_with (first | ((with_reducible refine gate_builtin (b := .append) (xs := #[.tmp 74, .tmp 77]) rfl ?_); (try (refine gate_guard (by rfl) ?_; dsimp only)); at_builtin; refine Kd.R_append (Kd.int .i64) (w0 := w) w.heap.size rfl (.tmp 74) (.tmp 77) 53 3 (.int .i64 0) 8 rfl Tryd.underlying53 info3 rfl (by decide) (by omega) u5 x5_1 (x4_1.length : Int) [.int .i64 (x4_1.length : Int)] (fun _ => True) (fun _ => False) rfl rfl ?aP (fun _ hk => hk.elim) ?aF ?aO ?aB ?aS ?aL ?_; (case aP => exact rfl); (case aB => exact bw_); (case aF => exact (fun _ _ => trivial)); (case aO => exact (rx_ HO_5.out)); (case aS => exact (below_size bw_)); (case aL => have := LMc39.out; omega); intro v26 w42 ho hb hg hat; rw [← Ny25.out] at ho; have n0_ := Aside0.mk (Kd.R_over' (rx_ HO_4.out) (Kd.R_typed (rx_ HO_5.out)) (by decide) hg); have n1_ := Aside0.mk (hb); have n2_ := Aside0.mk (ho); clear HO_4; clear HB; clear HO_5; have HO_4 := n0_; have HB := n1_; have HO27 := n2_; clear n0_ n1_ n2_; clear ho hb hg hat))
    go_ret2
    exact ⟨_, rr_, by first | exact Kd.R_nil _ _ _ _ _ | exact Kd.N_nil _ _ _ _ _ | exact Kd.V_nil _ _ _ _ _ | exact Kd.Q_nil _ _ _ _ _ | exact Kd.S_nil _ _ _ _ _, bw_⟩
   rw [if_neg c40] at H
   have c40b0 : decide (16 < (x4_1.length : Int)) = false := decide_eq_false c40
   have c40b1 : decide (16 < x4_1.length) = false := decide_eq_false (by omega)
   clear c40
   have H' := Aside0.mk H
   clear H
   obtain ⟨Ao43, co43, eo43⟩ := Kd.R_slice HO_4.out
   subst eo43
   go_wp2_with (first | ((with_reducible refine gate_builtin (b := .append) (xs := #[.tmp 74, .tmp 77]) rfl ?_); (try (refine gate_guard (by rfl) ?_; dsimp only)); at_builtin; refine Kd.R_append (Kd.int .i64) (w0 := w) w.heap.size rfl (.tmp 74) (.tmp 77) 53 3 (.int .i64 0) 8 rfl Tryd.underlying53 info3 rfl (by decide) (by omega) u5 x5_1 (x4_1.length : Int) [.int .i64 (x4_1.length : Int)] (fun _ => True) (fun _ => False) rfl rfl ?aP (fun _ hk => hk.elim) ?aF ?aO ?aB ?aS ?aL ?_; (case aP => exact rfl); (case aB => exact bw_); (case aF => exact (fun _ _ => trivial)); (case aO => exact (rx_ HO_5.out)); (case aS => exact (below_size bw_)); (case aL => have := LMc39.out; omega); intro v26 w44 ho hb hg hat; rw [← Ny25.out] at ho; have n0_ := Aside0.mk (Kd.R_over' (rx_ HO_4.out) (Kd.R_typed (rx_ HO_5.out)) (by decide) hg); have n1_ := Aside0.mk (hb); have n2_ := Aside0.mk (ho); clear HO_4; clear HB; clear HO_5; have HO_4 := n0_; have HB := n1_; have HO27 := n2_; clear n0_ n1_ n2_; clear ho hb hg hat))
   go_loopg [7] k1 (fun kq v7 w' => ∃ (x4_2 : List (S37)) (x7_2 : Int), v7 = .int .i64 x7_2 ∧ Aside0 (spec_WithFences.l1 kq x4_2 y25 x7_2 = some (r1, r2)) ∧ Aside0 (kq ≤ k1) ∧ Aside0 (Kd.R k37 37 w' w.heap.size (fun _ => True) (.slice Ao43 x4_1.length co43) x4_2) ∧ Aside0 (Kd.R (Kd.int .i64) 3 w' w.heap.size (fun _ => True) v26 y25) ∧ Aside0 (Below w.heap.size w w'))
   case atStart => exact ⟨(x4_1), (0), sd_, H', ⟨Nat.le_refl _⟩, ⟨by (with_reducible repeat (first | apply Kd.R_alloc | apply Kd.R_drewN | apply Kd.R_drew)); exact HO_4.out⟩, ⟨by (with_reducible repeat (first | apply Kd.R_alloc | apply Kd.R_drewN | apply Kd.R_drew)); exact HO27.out⟩, ⟨bw_⟩⟩
   case round =>
    clear H'
    try clear c1
    try clear p1
    try clear q1
    try clear hx1
    try clear c2
    try clear c2b0
    try clear c2b1
    try clear p2
    try clear q2
    try clear hx2
    try clear c3
    try clear c4
    try clear p6
    try clear c7
    try clear c7b0
    try clear p7
    try clear q7
    try clear hx7
    try clear p8
    try clear q8
    try clear hx8
    try clear c9
    try clear c9b0
    try clear c10
    try clear c10b0
    try clear c10b1
    try clear c12
    try clear c13
    try clear p13
    try clear q13
    try clear hx13
    try clear c14
    try clear c14b0
    try clear c15
    try clear c15b0
    try clear c16
    try clear c17
    try clear c17b0
    try clear c17b1
    try clear p17
    try clear q17
    try clear hx17
    try clear c18
    try clear c18b0
    try clear c18b1
    try clear c19
    try clear p21
    try clear q21
    try clear hx21
    try clear c25
    try clear c25b0
    try clear c26
    try clear c26b0
    try clear c27
    try clear c27b0
    try clear c27b1
    try clear c31
    try clear c39
    try clear c40
    try clear c40b0
    try clear c40b1
    try clear hx13_0
    try clear hx13_1
    try clear hx13_2
    try clear hx13_3
    try clear hx17_0
    try clear hx17_1
    try clear hx17_2
    try clear hx17_3
    try clear hx21_0
    try clear hx21_1
    try clear hx21_2
    try clear hx21_3
    try clear hx7_0
    try clear hx7_1
    try clear hx7_2
    try clear hx7_3
    try clear hx8_0
    try clear hx8_1
    try clear hx8_2
    try clear hx8_3
    try clear p13
    try clear p17
    try clear p2
    try clear p21
    try clear p7
    try clear p8
    try clear q13
    try clear q17
    try clear q21
    try clear q7
    try clear q8
    obtain ⟨x4_2, x7_2, rfl, HA, HK2, HO_4, HO_5, HB⟩ := hrel
    have hl4_2 := (Kd.R_reads' HO_4.out).1
    rw [hl4_2] at HO_4
    (try simp only [hl4_2])
    (try simp only [hl4_2] at HO_5)
    cases gk with
    | zero => exact absurd HA.out (by simp [spec_WithFences.l1])
    | succ k2 =>
     have H := HA.out
     clear HA
     simp only [spec_WithFences.l1] at H
     by_cases c45 : x7_2 < (x4_2.length : Int)
     rotate_left
     ·rw [if_neg c45] at H
      have c45b0 : decide (x7_2 < (x4_2.length : Int)) = false := decide_eq_false c45
      clear c45
      simp only [Option.some.injEq, Prod.mk.injEq] at H
      obtain ⟨rfl, rfl⟩ := H
      go_wp2
      go_ret2
      exact ⟨_, rr_, by (with_reducible repeat (first | apply Kd.R_alloc | apply Kd.R_drewN | apply Kd.R_drew)); exact HO_4.out, bw_⟩
     rw [if_pos c45] at H
     have c45b0 : decide (x7_2 < (x4_2.length : Int)) = true := decide_eq_true c45
     clear c45
     by_cases c46 : 0 ≤ x7_2
     rotate_left
     ·rw [if_neg c46] at H
      exact absurd H (by simp)
     rw [if_pos c46] at H
     have c46b0 : decide (0 ≤ x7_2) = true := decide_eq_true c46
     clear c46
     by_cases c47 : ((rd_T37 x4_2 x7_2).f0) = 6
     rotate_left
     ·rw [if_neg c47] at H
      have c47b0 : (((rd_T37 x4_2 x7_2).f0) == 6) = false := beq_eq_false_iff_ne.mpr c47
      have c47b1 : (((rd_T37 x4_2 x7_2).f0) != 6) = true := bne_iff_ne.mpr c47
      have H' := Aside0.mk H
      clear H
      have p28 : 0 ≤ (x7_2 : Int) := od_
      have q28 : x7_2 < (x4_2.length : Int) := od_
      obtain ⟨ad28, e28, hx28_0, hx28_1, hx28_2, hx28_3⟩ := at_T37 (Kd.R_reads' HO_4.out).2.2 x7_2 p28 q28
      cases e28
      replace p28 := eq_true p28
      replace q28 := eq_true q28
      go_wp2
      (try simp only [← hl4_2])
      go_roundg k2
      case measure => have := HK1.out; have := HK2.out; omega
      case rel => exact ⟨(x4_2), (wrap64 (x7_2 + 1)), sd_, H', ⟨by have := HK1.out; have := HK2.out; omega⟩, ⟨by (try simp only [hl4_2]); (with_reducible repeat (first | apply Kd.R_alloc | apply Kd.R_drewN | apply Kd.R_drew)); exact HO_4.out⟩, ⟨by (try simp only [hl4_2]); (with_reducible repeat (first | apply Kd.R_alloc | apply Kd.R_drewN | apply Kd.R_drew)); exact HO_5.out⟩, ⟨bw_⟩⟩
     rw [if_pos c47] at H
     have c47b0 : (((rd_T37 x4_2 x7_2).f0) == 6) = true := beq_iff_eq.mpr c47
     have c47b1 : (((rd_T37 x4_2 x7_2).f0) != 6) = false := bne_eq_false_iff_eq.mpr c47
     clear c47
     by_cases c48 : 0 ≤ ((rd_T37 x4_2 x7_2).f3)
     rotate_left
     ·rw [if_neg c48] at H
      exact absurd H (by simp)
     rw [if_pos c48] at H
     have c48b0 : decide (0 ≤ ((rd_T37 x4_2 x7_2).f3)) = true := decide_eq_true c48
     clear c48
     by_cases c49 : ((rd_T37 x4_2 x7_2).f3) < (y25.length : Int)
     rotate_left
     ·rw [if_neg c49] at H
      exact absurd H (by simp)
     rw [if_pos c49] at H
     have c49b0 : decide (((rd_T37 x4_2 x7_2).f3) < (y25.length : Int)) = true := decide_eq_true c49
     clear c49
     obtain ⟨y31, hy31⟩ : ∃ y_ : List (S37), y_ = (x4_2.set (x7_2 : Int).toNat (⟨(rd_T37 x4_2 x7_2).f0, (rd_T37 x4_2 x7_2).f1, (rd_T37 x4_2 x7_2).f2, rd y25 ((rd_T37 x4_2 x7_2).f3)⟩ : S37)) := ⟨_, rfl⟩
     replace H : (spec_WithFences.l1 k2 y31 y25 (wrap64 (x7_2 + 1))) = some (r1, r2) := by first | (rw [hy31]; with_reducible exact H) | (have H2_ := (Option.bind_some _ _).symm.trans H; rw [hy31]; with_reducible exact H2_) | (have H2_ := (Option.bind_some _ _).symm.trans H; with_reducible exact H2_) | with_reducible exact H | (rw [hy31]; exact H) | exact H
     have Ny31 := Aside0.mk hy31
     clear hy31
     have H' := Aside0.mk H
     clear H
     have p28 : 0 ≤ (x7_2 : Int) := od_
     have q28 : x7_2 < (x4_2.length : Int) := od_
     obtain ⟨ad28, e28, hx28_0, hx28_1, hx28_2, hx28_3⟩ := at_T37 (Kd.R_reads' HO_4.out).2.2 x7_2 p28 q28
     cases e28
     replace p28 := eq_true p28
     replace q28 := eq_true q28
     have p29 : 0 ≤ (x7_2 : Int) := od_
     have q29 : x7_2 < (x4_2.length : Int) := od_
     obtain ⟨ad29, e29, hx29_0, hx29_1, hx29_2, hx29_3⟩ := at_T37 (Kd.R_reads' HO_4.out).2.2 x7_2 p29 q29
     obtain rfl : ad28 = ad29 := (by injection e29)
     replace p29 := eq_true p29
     replace q29 := eq_true q29
     obtain ⟨Ao51, co51, eo51⟩ := Kd.R_slice HO_5.out
     subst eo51
     have p30 : 0 ≤ (((rd_T37 x4_2 x7_2).f3) : Int) := od_
     have q30 : ((rd_T37 x4_2 x7_2).f3) < (y25.length : Int) := od_
     obtain ⟨ad30, e30, hx30_0⟩ := Kd.at_int (Kd.R_reads' HO_5.out).2.2 ((rd_T37 x4_2 x7_2).f3) p30 q30
     cases e30
     replace p30 := eq_true p30
     replace q30 := eq_true q30
     have p50 : 0 ≤ (x7_2 : Int) := od_
     have q50 : (x7_2 : Int) < ((x4_2.length : Int) : Int) := od_
     obtain ⟨go50, co50, eo50, gb50, gl50, cl50, HG50⟩ := Kd.R_form HO_4.out (by omega)
     (first | cases eo50 | (injection eo50 with ea_ en_ ec_; (first | subst ea_ | (injection ea_ with ea_; subst ea_)); subst ec_; clear en_))
     have GB50 := Aside0.mk gb50
     have GG50 := Aside0.mk HG50
     clear gb50 gl50 HG50
     (first | simp only [add_plain] at hx28_0 | skip)
     (first | simp only [add_plain] at hx28_1 | skip)
     (first | simp only [add_plain] at hx28_2 | skip)
     (first | simp only [add_plain] at hx28_3 | skip)
     (first | simp only [add_plain] at hx29_0 | skip)
     (first | simp only [add_plain] at hx29_1 | skip)
     (first | simp only [add_plain] at hx29_2 | skip)
     (first | simp only [add_plain] at hx29_3 | skip)
     obtain ⟨ce50, hcl50, hM50, hcc50, hfr50⟩ := Kd.R_elem HO_4.out z37 (x7_2 : Int) p50 q50
     obtain rfl := k37_openM hM50
     have hx50_0 : wr.cell? ⟨go50, (x7_2 : Int).toNat * 4, none⟩ = some (.int .i64 ((rd_T37 x4_2 x7_2).f0)) := hcc50 0 _ rfl
     have hx50_1 : wr.cell? ⟨go50, (x7_2 : Int).toNat * 4 + 1, none⟩ = some (.int .i64 ((rd_T37 x4_2 x7_2).f1)) := hcc50 1 _ rfl
     have hx50_2 : wr.cell? ⟨go50, (x7_2 : Int).toNat * 4 + 2, none⟩ = some (.int .i64 ((rd_T37 x4_2 x7_2).f2)) := hcc50 2 _ rfl
     have hx50_3 : wr.cell? ⟨go50, (x7_2 : Int).toNat * 4 + 3, none⟩ = some (.int .i64 ((rd_T37 x4_2 x7_2).f3)) := hcc50 3 _ rfl
     have hf50_0 : wr.frozen? ⟨go50, (x7_2 : Int).toNat * 4, none⟩ = false := hfr50 0
     have hf50_1 : wr.frozen? ⟨go50, (x7_2 : Int).toNat * 4 + 1, none⟩ = false := hfr50 1
     have hf50_2 : wr.frozen? ⟨go50, (x7_2 : Int).toNat * 4 + 2, none⟩ = false := hfr50 2
     have hf50_3 : wr.frozen? ⟨go50, (x7_2 : Int).toNat * 4 + 3, none⟩ = false := hfr50 3
     (try clear hcl50); (try clear hcc50); (try clear hfr50); (try clear hM50)
     replace p50 := eq_true p50
     replace q50 := eq_true q50
     have HX52 := Aside0.mk (show Kd.R k37 37 wr w.heap.size (fun _ => True) (.slice (some ⟨go50, 0, none⟩) x4_2.length co43) x4_2 from (rx_ HO_4.out))
     obtain ⟨ce52, hcl52, hM52, hcc52, hfr52⟩ := Kd.R_elem HX52.out z37 (x7_2 : Int) (od_) (by have h_ : (x7_2 : Int) < ((x4_2.length : Int) : Int) := od_; first | exact h_ | (have e_ := (Kd.R_reads' HO_4.out).1; omega) | simpa using h_)
     obtain rfl := k37_openM hM52
     have HP52 := Kd.R_seg HX52.out (x7_2 : Int) (od_) (by have h_ : (x7_2 : Int) < ((x4_2.length : Int) : Int) := od_; first | exact h_ | (have e_ := (Kd.R_reads' HO_4.out).1; omega) | simpa using h_) (seg := [.int .i64 (rd y25 ((rd_T37 x4_2 x7_2).f3))]) (j := 3) hcl52 hcc52 (show 4 ≤ 4 from by decide) (x' := (⟨(rd_T37 x4_2 x7_2).f0, (rd_T37 x4_2 x7_2).f1, (rd_T37 x4_2 x7_2).f2, rd y25 ((rd_T37 x4_2 x7_2).f3)⟩ : S37)) (k37_mkM _ _ _ (⟨(rd_T37 x4_2 x7_2).f0, (rd_T37 x4_2 x7_2).f1, (rd_T37 x4_2 x7_2).f2, rd y25 ((rd_T37 x4_2 x7_2).f3)⟩ : S37) ) (fun _ hk => hk)
     have hx52_3 := hcc52 3 _ rfl
     (try simp only [show (k37).sz = 4 from rfl, Nat.mul_one, Nat.add_zero] at hx52_3)
     have hf52_3 := hfr52 3
     (try simp only [show (k37).sz = 4 from rfl, Nat.mul_one, Nat.add_zero] at hf52_3)
     (try clear hcl52); (try clear hcc52); (try clear hfr52); (try clear hM52)
     go_wp2_with (first | ((with_reducible refine gate_store (t := 3) (p := 105) rfl ?_); refine store_event (t := 3) (p := 105) (v := ?vo_w53) (w1 := (wr.setCell ⟨go50, (x7_2 : Int).toNat * 4 + 3, none⟩ (.int .i64 (rd y25 ((rd_T37 x4_2 x7_2).f3))))) ?hg ?ho ?hn ?hr ?_; (case ho => rfl); (case hg => rfl); (case hn => rfl); (case hr => first | (go_simp; done) | (go_simp; rfl)); intro w53 hw; have hg : wr.grownBy w53 (some go50) := (by rw [hw]; exact HP52.2); have hp_ : Kd.R k37 37 w53 w.heap.size (fun _ => True) (.slice (some ⟨go50, 0, none⟩) x4_2.length co43) y31 := (by rw [hw, Ny31.out]; exact HP52.1); clear HP52; have n0_ := Aside0.mk (hp_); have n1_ := Aside0.mk (Kd.R_over' (v := (.slice (some ⟨go50, 0, none⟩) x4_2.length co43)) (rx_ HO_5.out) (Kd.R_typed HO_4.out) (by decide) hg); have n2_ := Aside0.mk ((by rw [hw]; exact below_set (HB.out) GB50.out : Below w.heap.size w w53)); clear HO_4; clear HO_5; clear HB; have HO_4 := n0_; have HO_5 := n1_; have HB := n2_; clear n0_ n1_ n2_; clear hg hw hp_))
     (try simp only [← hl4_2])
     go_roundg k2
     case measure => have := HK1.out; have := HK2.out; omega
     case rel => exact ⟨(y31), (wrap64 (x7_2 + 1)), sd_, H', ⟨by have := HK1.out; have := HK2.out; omega⟩, ⟨by (try simp only [hl4_2]); (with_reducible repeat (first | apply Kd.R_alloc | apply Kd.R_drewN | apply Kd.R_drew)); exact HO_4.out⟩, ⟨by (try simp only [hl4_2]); (with_reducible repeat (first | apply Kd.R_alloc | apply Kd.R_drewN | apply Kd.R_drew)); exact HO_5.out⟩, ⟨bw_⟩⟩

end Go.Proofs.YtbgclnjnngolmaaDoor.P
