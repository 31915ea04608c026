-- Written by mp.py (the session's own driver over the kit's printer) for the seat Ytpcfcdnmpginhaa.
import Derived.Test.YtpcfcdnmpginhaaV2
import Derived.Test.YtpcfcdnmpginhaaK
import Derived.Test.YtpcfcdnmpginhaaE
import Derived.Test.YtpcfcdnmpginhaaPspecl01Value
namespace Go.Proofs.Ytpcfcdnmpginhaa.P
open Go.RowKit Go.Proofs.YtpcfcdnmpginhaaW.PrintWords Go.Proofs.YtpcfcdnmpginhaaW.PrintLast Go.Proofs.YtpcfcdnmpginhaaW.PrintMore
attribute [local go_sem] max2_int min2_int max_two min_two max_three min_three max_four min_four
set_option linter.unusedVariables false
set_option linter.unusedSimpArgs false

/-! ### spec_l03Copy: function 166 -/
def spec_l03Copy.l0 : Nat → List (S169) → List (S169) → Int → Option ((List (S169)))
 | 0, _, _, _ => none
 | k + 1, x0, x3, x4 => if x4 < (x0.length : Int) then (if 0 ≤ x4 then (if x3.length < 8796093022208 then (spec_l03Copy.l0 k x0 (x3 ++ [(⟨(rd_T169 x0 x4).f0, (rd_T169 x0 x4).f1⟩ : S169)]) (wrap64 (x4 + 1))) else (none)) else (none)) else (some x3)
def spec_l03Copy.f (k : Nat) (l0 : List (S169)) : Option ((List (S169))) := spec_l03Copy.l0 k l0 (([] : List (S169))) 0
theorem spec_l03Copy.mono_l : ∀ k, (∀ y0 y1 y2, LeO (spec_l03Copy.l0 k y0 y1 y2) (spec_l03Copy.l0 (k + 1) y0 y1 y2))
 | 0 => fun _ _ _ r h => by simp [spec_l03Copy.l0] at h
 | k + 1 => by
  have ih0 := spec_l03Copy.mono_l k
  ·intro y0 y1 y2
   unfold spec_l03Copy.l0
   repeat' first
   | (with_reducible exact ih0 _ _ _)
   | (with_reducible exact LeO.refl _)
   | (with_reducible exact LeO.none _)
   | (with_reducible refine LeO.ite ?_ ?_)
   | (with_reducible refine LeO.bind ?_ (fun _ => ?_))
   | exact ih0 _ _ _
   | exact LeO.none _
   | refine LeO.ite ?_ ?_
   | refine LeO.bind ?_ (fun _ => ?_)
theorem spec_l03Copy.mono : ∀ a0 k, LeO (spec_l03Copy.f k a0) (spec_l03Copy.f (k + 1) a0) := by
 intro a0 k
 have ih0 := spec_l03Copy.mono_l k
 unfold spec_l03Copy.f
 repeat' first
   | (with_reducible exact ih0 _ _ _)
   | (with_reducible exact LeO.refl _)
   | (with_reducible exact LeO.none _)
   | (with_reducible refine LeO.ite ?_ ?_)
   | (with_reducible refine LeO.bind ?_ (fun _ => ?_))
   | exact ih0 _ _ _
   | exact LeO.none _
   | refine LeO.ite ?_ ?_
   | refine LeO.bind ?_ (fun _ => ?_)
set_option maxHeartbeats 8000000 in
set_option maxRecDepth 100000 in
theorem spec_l03Copy.calls (k : Nat) (A0 : Option Addr) (c0 : Nat) (l0 : List (S169)) (r : List (S169)) (w : World) (hr0 : Kd.C k169 w A0 l0.length l0) (hc0 : l0.length ≤ c0) (h : spec_l03Copy.f k l0 = some r) :
  Calls Try.prog 166 #[.slice A0 l0.length c0] w fun e w' => ∃ v0_ : Value, e = .returned (v0_) ∧ Kd.R k169 169 w' w.heap.size (fun _ => True) v0_ r ∧ Below w.heap.size w w' := by
 have hu169 := Try.underlying169
 have HR0 := Aside0.mk hr0
 have HC0 := Aside0.mk hc0
 clear hr0 hc0
 have HB := Aside0.mk (Below.refl w.heap.size w)
 have H : (spec_l03Copy.l0 k l0 (([] : List (S169))) 0) = some r := h
 clear h
 obtain ⟨y1, hy1⟩ : ∃ y_ : List (S169), y_ = (([] : List (S169))) := ⟨_, rfl⟩
 replace H : (spec_l03Copy.l0 k l0 y1 0) = some r := by first | (rw [hy1]; with_reducible exact H) | (have H2_ := (Option.bind_some _ _).symm.trans H; rw [hy1]; with_reducible exact H2_) | (have H2_ := (Option.bind_some _ _).symm.trans H; with_reducible exact H2_) | with_reducible exact H | (rw [hy1]; exact H) | exact H
 have Ny1 := Aside0.mk hy1
 clear hy1
 have H' := Aside0.mk H
 clear H
 go_enter Try.func166, Try.ntmps166
 go_wp2_with (first | ((with_reducible refine gate_dst (N := 5) rfl ?_); refine Kd.R_lit k169 _ 169 ?hg (N := 5) ?hd (xs := ([] : List (S169))) (inner := []) (ok := fun _ => True) (okp := fun _ => True) ?hr ?hp (fun _ hk => hk) trivial (Below.refl _ _) (Nat.le_refl _) (by simp) ?_; (case hd => rfl); (case hg => rfl); (case hr => first | (go_simp; done) | (go_simp; rfl)); (case hp => exact (Reps.none _ _)); intro v2 w2 ho3 hb hg_ hnew_; clear hg_ hnew_; (first | rw [← Ny1.out] at ho3 | (simp only [Int.reduceToNat] at ho3; rw [← Ny1.out] at ho3)); have n0_ := Aside0.mk (Kd.R_lower ho3 (below_size bw_)); have n1_ := Aside0.mk (below_step bw_ hb); clear HB; have HO3 := n0_; have HB := n1_; clear n0_ n1_; clear hb ho3))
 go_loopg [3, 4] k (fun kq v3 v4 w' => ∃ (x3_1 : List (S169)) (x4_1 : Int), v4 = .int .i64 x4_1 ∧ Aside0 (spec_l03Copy.l0 kq l0 x3_1 x4_1 = some r) ∧ Aside0 (kq ≤ k) ∧ Aside0 (Kd.R k169 169 w' w.heap.size (fun _ => True) v3 x3_1) ∧ Aside0 (Below w.heap.size w w'))
 case atStart => exact ⟨(y1), (0), sd_, H', ⟨Nat.le_refl _⟩, ⟨by (with_reducible repeat (first | apply Kd.R_alloc | apply Kd.R_drewN | apply Kd.R_drew)); exact HO3.out⟩, ⟨bw_⟩⟩
 case round =>
  clear H'
  try clear c1
  try clear p2
  obtain ⟨x3_1, x4_1, rfl, HA, HK1, HO_3, HB⟩ := hrel
  cases gk with
  | zero => exact absurd HA.out (by simp [spec_l03Copy.l0])
  | succ k1 =>
   have H := HA.out
   clear HA
   simp only [spec_l03Copy.l0] at H
   by_cases c4 : x4_1 < (l0.length : Int)
   rotate_left
   ·rw [if_neg c4] at H
    have c4b0 : decide (x4_1 < (l0.length : Int)) = false := decide_eq_false c4
    clear c4
    obtain rfl := Option.some.inj H
    go_wp2
    go_ret
    exact ⟨_, rr_, by (with_reducible repeat (first | apply Kd.R_alloc | apply Kd.R_drewN | apply Kd.R_drew)); exact HO_3.out, bw_⟩
   rw [if_pos c4] at H
   have c4b0 : decide (x4_1 < (l0.length : Int)) = true := decide_eq_true c4
   clear c4
   by_cases c5 : 0 ≤ x4_1
   rotate_left
   ·rw [if_neg c5] at H
    exact absurd H (by simp)
   rw [if_pos c5] at H
   have c5b0 : decide (0 ≤ x4_1) = true := decide_eq_true c5
   clear c5
   by_cases c6 : x3_1.length < 8796093022208
   rotate_left
   ·rw [if_neg c6] at H
    exact absurd H (by simp)
   rw [if_pos c6] at H
   have LMc6 := Aside0.mk c6
   clear c6
   obtain ⟨y5, hy5⟩ : ∃ y_ : List (S169), y_ = (x3_1 ++ [(⟨(rd_T169 l0 x4_1).f0, (rd_T169 l0 x4_1).f1⟩ : S169)]) := ⟨_, rfl⟩
   replace H : (spec_l03Copy.l0 k1 l0 y5 (wrap64 (x4_1 + 1))) = some r := by first | (rw [hy5]; with_reducible exact H) | (have H2_ := (Option.bind_some _ _).symm.trans H; rw [hy5]; with_reducible exact H2_) | (have H2_ := (Option.bind_some _ _).symm.trans H; with_reducible exact H2_) | with_reducible exact H | (rw [hy5]; exact H) | exact H
   have Ny5 := Aside0.mk hy5
   clear hy5
   have H' := Aside0.mk H
   clear H
   have p4 : 0 ≤ (x4_1 : Int) := od_
   have q4 : x4_1 < (l0.length : Int) := od_
   obtain ⟨ad4, e4, hx4_0, hx4_1⟩ := at_T169 HR0.out x4_1 p4 q4
   cases e4
   replace hx4_0 := (HB.out.cell (World.block_lt_of_cell? w _ hx4_0)).trans hx4_0
   replace hx4_1 := (HB.out.cell (World.block_lt_of_cell? w _ hx4_1)).trans hx4_1
   replace p4 := eq_true p4
   replace q4 := eq_true q4
   go_wp2_with (first | ((with_reducible refine gate_builtin (b := .append) (xs := #[.tmp 12, .tmp 17]) rfl ?_); at_builtin; refine Kd.R_append k169 (w0 := w) w.heap.size rfl (.tmp 12) (.tmp 17) 107 169 (.agg #[(.int .i64 0), (.int .i64 0)]) 16 rfl Try.underlying107 info169 rfl (by decide) (by omega) u3 x3_1 (⟨(rd_T169 l0 x4_1).f0, (rd_T169 l0 x4_1).f1⟩ : S169) [.int .i64 ((rd_T169 l0 x4_1).f0), .int .i64 ((rd_T169 l0 x4_1).f1)] (fun _ => True) (fun _ => False) rfl rfl ?aP (fun _ hk => hk.elim) ?aF ?aO ?aB ?aS ?aL ?_; (case aP => exact k169_mkM _ _ _ (⟨(rd_T169 l0 x4_1).f0, (rd_T169 l0 x4_1).f1⟩ : S169)); (case aB => exact bw_); (case aF => exact (fun _ _ => trivial)); (case aO => exact (by (with_reducible repeat (first | apply Kd.R_alloc | apply Kd.R_drewN | apply Kd.R_drew)); exact HO_3.out)); (case aS => exact (below_size bw_)); (case aL => have := LMc6.out; omega); intro v6 w7 ho hb hg hat; rw [← Ny5.out] at ho; have n0_ := Aside0.mk (hb); have n1_ := Aside0.mk (ho); clear HB; clear HO_3; have HB := n0_; have HO7 := n1_; clear n0_ n1_; clear ho hb hg hat))
   go_roundg k1
   case measure => have := HK1.out; omega
   case rel => exact ⟨(y5), (wrap64 (x4_1 + 1)), sd_, H', ⟨by have := HK1.out; omega⟩, ⟨by (with_reducible repeat (first | apply Kd.R_alloc | apply Kd.R_drewN | apply Kd.R_drew)); exact HO7.out⟩, ⟨bw_⟩⟩

/-! ### spec_PutSlot: function 85 -/
def spec_PutSlot.f (k : Nat) (l0 : List (S169)) (a1 : Int) (a2 : Int) : Option ((List (S169)) × Bool) := (spec_l03Copy.f k l0).bind fun t1 => (if t1.length < 8796093022208 then ((some (t1 ++ [(⟨a1, a2⟩ : S169)] : List (S169))).bind fun y4 => ((spec_BufOk.f k l0).bind fun t7 => (if t7 = true then ((spec_BufOk.f k y4).bind fun t8 => (if t8 = true then (some (y4, true)) else ((spec_l03Copy.f k l0).bind fun t9 => (some (t9, false))))) else ((spec_l03Copy.f k l0).bind fun t12 => (some (t12, false)))))) else (none))
theorem spec_PutSlot.mono : ∀ a0 a1 a2 k, LeO (spec_PutSlot.f k a0 a1 a2) (spec_PutSlot.f (k + 1) a0 a1 a2) := by
 intro a0 a1 a2 k
 unfold spec_PutSlot.f
 repeat' first
   | (with_reducible exact spec_BufOk.mono _ _)
   | (with_reducible exact spec_l03Copy.mono _ _)
   | (with_reducible exact LeO.refl _)
   | (with_reducible exact LeO.none _)
   | (with_reducible refine LeO.ite ?_ ?_)
   | (with_reducible refine LeO.bind ?_ (fun _ => ?_))
   | exact spec_BufOk.mono _ _
   | exact spec_l03Copy.mono _ _
   | exact LeO.none _
   | refine LeO.ite ?_ ?_
   | refine LeO.bind ?_ (fun _ => ?_)
set_option maxHeartbeats 8000000 in
set_option maxRecDepth 100000 in
theorem spec_PutSlot.calls (k : Nat) (A0 : Option Addr) (c0 : Nat) (l0 : List (S169)) (a1 : Int) (a2 : Int) (r1 : List (S169)) (r2 : Bool) (w : World) (hr0 : Kd.C k169 w A0 l0.length l0) (hc0 : l0.length ≤ c0) (h : spec_PutSlot.f k l0 a1 a2 = some (r1, r2)) :
  Calls Try.prog 85 #[.slice A0 l0.length c0, .int .i64 a1, .int .i64 a2] w fun e w' => ∃ v0_ : Value, e = .returned (.tuple #[v0_, .bool r2]) ∧ Kd.R k169 169 w' w.heap.size (fun _ => True) v0_ r1 ∧ Below w.heap.size w w' := by
 have hu169 := Try.underlying169
 have HR0 := Aside0.mk hr0
 have HC0 := Aside0.mk hc0
 clear hr0 hc0
 have HB := Aside0.mk (Below.refl w.heap.size w)
 have H : ((spec_l03Copy.f k l0).bind fun t1 => (if t1.length < 8796093022208 then ((some (t1 ++ [(⟨a1, a2⟩ : S169)] : List (S169))).bind fun y4 => ((spec_BufOk.f k l0).bind fun t7 => (if t7 = true then ((spec_BufOk.f k y4).bind fun t8 => (if t8 = true then (some (y4, true)) else ((spec_l03Copy.f k l0).bind fun t9 => (some (t9, false))))) else ((spec_l03Copy.f k l0).bind fun t12 => (some (t12, false)))))) else (none))) = some (r1, r2) := h
 clear h
 replace H := Option.bind_eq_some_iff.mp H
 obtain ⟨t1, A40, H⟩ := H
 replace H : (if t1.length < 8796093022208 then ((some (t1 ++ [(⟨a1, a2⟩ : S169)] : List (S169))).bind fun y4 => ((spec_BufOk.f k l0).bind fun t7 => (if t7 = true then ((spec_BufOk.f k y4).bind fun t8 => (if t8 = true then (some (y4, true)) else ((spec_l03Copy.f k l0).bind fun t9 => (some (t9, false))))) else ((spec_l03Copy.f k l0).bind fun t12 => (some (t12, false)))))) else (none)) = some (r1, r2) := H
 have A4 := Aside0.mk A40
 clear A40
 by_cases c5 : t1.length < 8796093022208
 rotate_left
 ·rw [if_neg c5] at H
  exact absurd H (by simp)
 rw [if_pos c5] at H
 have LMc5 := Aside0.mk c5
 clear c5
 obtain ⟨y4, hy4⟩ : ∃ y_ : List (S169), y_ = (t1 ++ [(⟨a1, a2⟩ : S169)]) := ⟨_, rfl⟩
 replace H : ((spec_BufOk.f k l0).bind fun t7 => (if t7 = true then ((spec_BufOk.f k y4).bind fun t8 => (if t8 = true then (some (y4, true)) else ((spec_l03Copy.f k l0).bind fun t9 => (some (t9, false))))) else ((spec_l03Copy.f k l0).bind fun t12 => (some (t12, false))))) = some (r1, r2) := by first | (rw [hy4]; with_reducible exact H) | (have H2_ := (Option.bind_some _ _).symm.trans H; rw [hy4]; with_reducible exact H2_) | (have H2_ := (Option.bind_some _ _).symm.trans H; with_reducible exact H2_) | with_reducible exact H | (rw [hy4]; exact H) | exact H
 have Ny4 := Aside0.mk hy4
 clear hy4
 replace H := Option.bind_eq_some_iff.mp H
 obtain ⟨t7, A60, H⟩ := H
 replace H : (if t7 = true then ((spec_BufOk.f k y4).bind fun t8 => (if t8 = true then (some (y4, true)) else ((spec_l03Copy.f k l0).bind fun t9 => (some (t9, false))))) else ((spec_l03Copy.f k l0).bind fun t12 => (some (t12, false)))) = some (r1, r2) := H
 have A6 := Aside0.mk A60
 clear A60
 by_cases c7 : t7 = true
 rotate_left
 ·replace c7 := Bool.eq_false_iff.mpr c7
  subst c7
  have H1 : ((spec_l03Copy.f k l0).bind fun t12 => (some (t12, false))) = some (r1, r2) := by rw [if_neg (show ¬ (false = true) by decide)] at H; exact H
  clear H
  have H := H1
  clear H1
  replace H := Option.bind_eq_some_iff.mp H
  obtain ⟨t12, A180, H⟩ := H
  replace H : (some (t12, false)) = some (r1, r2) := H
  have A18 := Aside0.mk A180
  clear A180
  simp only [Option.some.injEq, Prod.mk.injEq] at H
  obtain ⟨rfl, rfl⟩ := H
  go_enter Try.func85, Try.ntmps85
  go_wp2_with (first | ((with_reducible refine gate_callee (f := 166) rfl ?_); refine goesL_ (some 10) rfl rfl Try.func166 (by kernel_rfl) rfl #[.slice A0 l0.length c0] rfl ar_ ?_; (with_reducible refine (spec_l03Copy.calls k _ _ l0 t1 _ ?side1 ?side2 A4.out).mono ?_); (case side1 => repeat (first | exact HR0.out | (with_reducible refine Kd.C_alloc ?_ _) | (with_reducible refine Kd.C_drewN ?_ _) | (with_reducible refine Kd.C_drew ?_))); (case side2 => exact HC0.out); rintro e w19 ⟨v2, rfl, ho0, hb⟩; refine ⟨_, rfl, ?_⟩; have n0_ := Aside0.mk (Kd.R_lower ho0 (below_size bw_)); have n1_ := Aside0.mk (below_step bw_ hb); clear HB; have HO3 := n0_; have HB := n1_; clear n0_ n1_; (try clear hb); (try clear hb2); (try clear hk); (try clear hi); (try clear ho0)) | ((with_reducible refine gate_builtin (b := .append) (xs := #[.tmp 10, .tmp 14]) rfl ?_); at_builtin; refine Kd.R_append k169 (w0 := w) w.heap.size rfl (.tmp 10) (.tmp 14) 107 169 (.agg #[(.int .i64 0), (.int .i64 0)]) 16 rfl Try.underlying107 info169 rfl (by decide) (by omega) v2 t1 (⟨a1, a2⟩ : S169) [.int .i64 a1, .int .i64 a2] (fun _ => True) (fun _ => False) rfl rfl ?aP (fun _ hk => hk.elim) ?aF ?aO ?aB ?aS ?aL ?_; (case aP => exact k169_mkM _ _ _ (⟨a1, a2⟩ : S169)); (case aB => exact bw_); (case aF => exact (fun _ _ => trivial)); (case aO => exact (by (with_reducible repeat (first | apply Kd.R_alloc | apply Kd.R_drewN | apply Kd.R_drew)); exact HO3.out)); (case aS => exact (below_size bw_)); (case aL => have := LMc5.out; omega); intro v5 w20 ho hb hg hat; rw [← Ny4.out] at ho; have n0_ := Aside0.mk (hb); have n1_ := Aside0.mk (ho); clear HB; clear HO3; have HB := n0_; have HO6 := n1_; clear n0_ n1_; clear ho hb hg hat) | ((with_reducible refine gate_callee (f := 141) rfl ?_); refine goesL_ (some 17) rfl rfl Try.func141 (by kernel_rfl) rfl #[.slice A0 l0.length c0] rfl ar_ ?_; (with_reducible refine (spec_BufOk.calls k _ _ l0 false _ ?side1 ?side2 A6.out).mono ?_); (case side1 => exact cb_); (case side2 => exact HC0.out); rintro e w' ⟨rfl, ⟨nd, rfl⟩⟩; refine ⟨_, rfl, ?_⟩) | ((with_reducible refine gate_callee (f := 166) rfl ?_); refine goesL_ (some 25) rfl rfl Try.func166 (by kernel_rfl) rfl #[.slice A0 l0.length c0] rfl ar_ ?_; (with_reducible refine (spec_l03Copy.calls k _ _ l0 t12 _ ?side1 ?side2 A18.out).mono ?_); (case side1 => repeat (first | exact (Kd.C_below HR0.out bw_) | (with_reducible refine Kd.C_alloc ?_ _) | (with_reducible refine Kd.C_drewN ?_ _) | (with_reducible refine Kd.C_drew ?_))); (case side2 => exact HC0.out); rintro e w21 ⟨v13, rfl, ho0, hb⟩; refine ⟨_, rfl, ?_⟩; have n0_ := Aside0.mk (Kd.R_elder' (by (with_reducible repeat (first | apply Kd.R_alloc | apply Kd.R_drewN | apply Kd.R_drew)); exact HO6.out) (Kd.R_base ho0) hb); have n1_ := Aside0.mk (Kd.R_lower (Kd.R_new' ho0 (Kd.R_lt (by (with_reducible repeat (first | apply Kd.R_alloc | apply Kd.R_drewN | apply Kd.R_drew)); exact HO6.out))) (below_size bw_)); have n2_ := Aside0.mk (below_step bw_ hb); clear HO6; clear HB; have HO6 := n0_; have HO14 := n1_; have HB := n2_; clear n0_ n1_ n2_; (try clear hb); (try clear hb2); (try clear hk); (try clear hi); (try clear ho0)))
  go_ret2
  exact ⟨_, rr_, by (with_reducible repeat (first | apply Kd.R_alloc | apply Kd.R_drewN | apply Kd.R_drew)); exact Kd.R_mono HO14.out (fun _ hk => trivial), bw_⟩
 subst c7
 have H1 : ((spec_BufOk.f k y4).bind fun t8 => (if t8 = true then (some (y4, true)) else ((spec_l03Copy.f k l0).bind fun t9 => (some (t9, false))))) = some (r1, r2) := by rw [if_pos rfl] at H; exact H
 clear H
 have H := H1
 clear H1
 replace H := Option.bind_eq_some_iff.mp H
 obtain ⟨t8, A80, H⟩ := H
 replace H : (if t8 = true then (some (y4, true)) else ((spec_l03Copy.f k l0).bind fun t9 => (some (t9, false)))) = some (r1, r2) := H
 have A8 := Aside0.mk A80
 clear A80
 by_cases c9 : t8 = true
 ·subst c9
  have H1 : (some (y4, true)) = some (r1, r2) := by rw [if_pos rfl] at H; exact H
  clear H
  have H := H1
  clear H1
  simp only [Option.some.injEq, Prod.mk.injEq] at H
  obtain ⟨rfl, rfl⟩ := H
  go_enter Try.func85, Try.ntmps85
  go_wp2_with (first | ((with_reducible refine gate_callee (f := 166) rfl ?_); refine goesL_ (some 10) rfl rfl Try.func166 (by kernel_rfl) rfl #[.slice A0 l0.length c0] rfl ar_ ?_; (with_reducible refine (spec_l03Copy.calls k _ _ l0 t1 _ ?side1 ?side2 A4.out).mono ?_); (case side1 => repeat (first | exact HR0.out | (with_reducible refine Kd.C_alloc ?_ _) | (with_reducible refine Kd.C_drewN ?_ _) | (with_reducible refine Kd.C_drew ?_))); (case side2 => exact HC0.out); rintro e w10 ⟨v2, rfl, ho0, hb⟩; refine ⟨_, rfl, ?_⟩; have n0_ := Aside0.mk (Kd.R_lower ho0 (below_size bw_)); have n1_ := Aside0.mk (below_step bw_ hb); clear HB; have HO3 := n0_; have HB := n1_; clear n0_ n1_; (try clear hb); (try clear hb2); (try clear hk); (try clear hi); (try clear ho0)) | ((with_reducible refine gate_builtin (b := .append) (xs := #[.tmp 10, .tmp 14]) rfl ?_); at_builtin; refine Kd.R_append k169 (w0 := w) w.heap.size rfl (.tmp 10) (.tmp 14) 107 169 (.agg #[(.int .i64 0), (.int .i64 0)]) 16 rfl Try.underlying107 info169 rfl (by decide) (by omega) v2 t1 (⟨a1, a2⟩ : S169) [.int .i64 a1, .int .i64 a2] (fun _ => True) (fun _ => False) rfl rfl ?aP (fun _ hk => hk.elim) ?aF ?aO ?aB ?aS ?aL ?_; (case aP => exact k169_mkM _ _ _ (⟨a1, a2⟩ : S169)); (case aB => exact bw_); (case aF => exact (fun _ _ => trivial)); (case aO => exact (by (with_reducible repeat (first | apply Kd.R_alloc | apply Kd.R_drewN | apply Kd.R_drew)); exact HO3.out)); (case aS => exact (below_size bw_)); (case aL => have := LMc5.out; omega); intro v5 w11 ho hb hg hat; rw [← Ny4.out] at ho; have n0_ := Aside0.mk (hb); have n1_ := Aside0.mk (ho); clear HB; clear HO3; have HB := n0_; have HO6 := n1_; clear n0_ n1_; clear ho hb hg hat) | ((with_reducible refine gate_callee (f := 141) rfl ?_); refine goesL_ (some 17) rfl rfl Try.func141 (by kernel_rfl) rfl #[.slice A0 l0.length c0] rfl ar_ ?_; (with_reducible refine (spec_BufOk.calls k _ _ l0 true _ ?side1 ?side2 A6.out).mono ?_); (case side1 => exact cb_); (case side2 => exact HC0.out); rintro e w' ⟨rfl, ⟨nd, rfl⟩⟩; refine ⟨_, rfl, ?_⟩; obtain ⟨Ao12, co12, eo12⟩ := Kd.R_slice HO6.out; subst eo12) | (go_at_call 141; (with_reducible refine (spec_BufOk.calls k _ _ y4 true _ ?side1 ?side2 A8.out).mono ?_); (case side1 => repeat (first | exact (Kd.R_reads' HO6.out).2.2 | (with_reducible refine Kd.C_alloc ?_ _) | (with_reducible refine Kd.C_drewN ?_ _) | (with_reducible refine Kd.C_drew ?_))); (case side2 => exact (Kd.R_reads' HO6.out).2.1); rintro e w' ⟨rfl, ⟨nd, rfl⟩⟩))
  go_ret2
  exact ⟨_, rr_, by (with_reducible repeat (first | apply Kd.R_alloc | apply Kd.R_drewN | apply Kd.R_drew)); exact HO6.out, bw_⟩
 replace c9 := Bool.eq_false_iff.mpr c9
 subst c9
 have H1 : ((spec_l03Copy.f k l0).bind fun t9 => (some (t9, false))) = some (r1, r2) := by rw [if_neg (show ¬ (false = true) by decide)] at H; exact H
 clear H
 have H := H1
 clear H1
 replace H := Option.bind_eq_some_iff.mp H
 obtain ⟨t9, A130, H⟩ := H
 replace H : (some (t9, false)) = some (r1, r2) := H
 have A13 := Aside0.mk A130
 clear A130
 simp only [Option.some.injEq, Prod.mk.injEq] at H
 obtain ⟨rfl, rfl⟩ := H
 go_enter Try.func85, Try.ntmps85
 go_wp2_with (first | ((with_reducible refine gate_callee (f := 166) rfl ?_); refine goesL_ (some 10) rfl rfl Try.func166 (by kernel_rfl) rfl #[.slice A0 l0.length c0] rfl ar_ ?_; (with_reducible refine (spec_l03Copy.calls k _ _ l0 t1 _ ?side1 ?side2 A4.out).mono ?_); (case side1 => repeat (first | exact HR0.out | (with_reducible refine Kd.C_alloc ?_ _) | (with_reducible refine Kd.C_drewN ?_ _) | (with_reducible refine Kd.C_drew ?_))); (case side2 => exact HC0.out); rintro e w14 ⟨v2, rfl, ho0, hb⟩; refine ⟨_, rfl, ?_⟩; have n0_ := Aside0.mk (Kd.R_lower ho0 (below_size bw_)); have n1_ := Aside0.mk (below_step bw_ hb); clear HB; have HO3 := n0_; have HB := n1_; clear n0_ n1_; (try clear hb); (try clear hb2); (try clear hk); (try clear hi); (try clear ho0)) | ((with_reducible refine gate_builtin (b := .append) (xs := #[.tmp 10, .tmp 14]) rfl ?_); at_builtin; refine Kd.R_append k169 (w0 := w) w.heap.size rfl (.tmp 10) (.tmp 14) 107 169 (.agg #[(.int .i64 0), (.int .i64 0)]) 16 rfl Try.underlying107 info169 rfl (by decide) (by omega) v2 t1 (⟨a1, a2⟩ : S169) [.int .i64 a1, .int .i64 a2] (fun _ => True) (fun _ => False) rfl rfl ?aP (fun _ hk => hk.elim) ?aF ?aO ?aB ?aS ?aL ?_; (case aP => exact k169_mkM _ _ _ (⟨a1, a2⟩ : S169)); (case aB => exact bw_); (case aF => exact (fun _ _ => trivial)); (case aO => exact (by (with_reducible repeat (first | apply Kd.R_alloc | apply Kd.R_drewN | apply Kd.R_drew)); exact HO3.out)); (case aS => exact (below_size bw_)); (case aL => have := LMc5.out; omega); intro v5 w15 ho hb hg hat; rw [← Ny4.out] at ho; have n0_ := Aside0.mk (hb); have n1_ := Aside0.mk (ho); clear HB; clear HO3; have HB := n0_; have HO6 := n1_; clear n0_ n1_; clear ho hb hg hat) | ((with_reducible refine gate_callee (f := 141) rfl ?_); refine goesL_ (some 17) rfl rfl Try.func141 (by kernel_rfl) rfl #[.slice A0 l0.length c0] rfl ar_ ?_; (with_reducible refine (spec_BufOk.calls k _ _ l0 true _ ?side1 ?side2 A6.out).mono ?_); (case side1 => exact cb_); (case side2 => exact HC0.out); rintro e w' ⟨rfl, ⟨nd, rfl⟩⟩; refine ⟨_, rfl, ?_⟩; obtain ⟨Ao16, co16, eo16⟩ := Kd.R_slice HO6.out; subst eo16) | (go_at_call 141; (with_reducible refine (spec_BufOk.calls k _ _ y4 false _ ?side1 ?side2 A8.out).mono ?_); (case side1 => repeat (first | exact (Kd.R_reads' HO6.out).2.2 | (with_reducible refine Kd.C_alloc ?_ _) | (with_reducible refine Kd.C_drewN ?_ _) | (with_reducible refine Kd.C_drew ?_))); (case side2 => exact (Kd.R_reads' HO6.out).2.1); rintro e w' ⟨rfl, ⟨nd, rfl⟩⟩) | ((with_reducible refine gate_callee (f := 166) rfl ?_); refine goesL_ (some 25) rfl rfl Try.func166 (by kernel_rfl) rfl #[.slice A0 l0.length c0] rfl ar_ ?_; (with_reducible refine (spec_l03Copy.calls k _ _ l0 t9 _ ?side1 ?side2 A13.out).mono ?_); (case side1 => repeat (first | exact (Kd.C_below HR0.out bw_) | (with_reducible refine Kd.C_alloc ?_ _) | (with_reducible refine Kd.C_drewN ?_ _) | (with_reducible refine Kd.C_drew ?_))); (case side2 => exact HC0.out); rintro e w17 ⟨v10, rfl, ho0, hb⟩; refine ⟨_, rfl, ?_⟩; have n0_ := Aside0.mk (Kd.R_elder' (by (with_reducible repeat (first | apply Kd.R_alloc | apply Kd.R_drewN | apply Kd.R_drew)); exact HO6.out) (Kd.R_base ho0) hb); have n1_ := Aside0.mk (Kd.R_lower (Kd.R_new' ho0 (Kd.R_lt (by (with_reducible repeat (first | apply Kd.R_alloc | apply Kd.R_drewN | apply Kd.R_drew)); exact HO6.out))) (below_size bw_)); have n2_ := Aside0.mk (below_step bw_ hb); clear HO6; clear HB; have HO6 := n0_; have HO11 := n1_; have HB := n2_; clear n0_ n1_ n2_; (try clear hb); (try clear hb2); (try clear hk); (try clear hi); (try clear ho0)))
 go_ret2
 exact ⟨_, rr_, by (with_reducible repeat (first | apply Kd.R_alloc | apply Kd.R_drewN | apply Kd.R_drew)); exact Kd.R_mono HO11.out (fun _ hk => trivial), bw_⟩

end Go.Proofs.Ytpcfcdnmpginhaa.P
