-- Written by mp.py (the session's own driver over the kit's printer) for the seat Ytpcfcdnmpginhaa.
import Derived.Test.YtpcfcdnmpginhaaV2
import Derived.Test.YtpcfcdnmpginhaaK
import Derived.Test.YtpcfcdnmpginhaaE
import Derived.Test.YtpcfcdnmpginhaaPimplBufOk
import Derived.Test.YtpcfcdnmpginhaaPimplSlot168
namespace Go.Proofs.Ytpcfcdnmpginhaa.P
open Go.RowKit Go.Proofs.YtpcfcdnmpginhaaW.PrintWords Go.Proofs.YtpcfcdnmpginhaaW.PrintLast Go.Proofs.YtpcfcdnmpginhaaW.PrintMore
attribute [local go_sem] max2_int min2_int max_two min_two max_three min_three max_four min_four
set_option linter.unusedVariables false
set_option linter.unusedSimpArgs false

/-! ### impl_PutSlot: function 87 -/
def impl_PutSlot.f (l0 : List (S169)) (a1 : Int) (a2 : Int) : Option ((List (S169)) × Bool) := (impl_Slot_168.f l0).bind fun t1 => (if t1.length < 8796093022208 then ((some (t1 ++ [(⟨a1, a2⟩ : S169)] : List (S169))).bind fun y4 => ((impl_BufOk.f y4).bind fun t7 => (if t7 = true then (some (y4, true)) else ((impl_Slot_168.f l0).bind fun t8 => (some (t8, false)))))) else (none))
set_option maxHeartbeats 8000000 in
set_option maxRecDepth 100000 in
theorem impl_PutSlot.calls (A0 : Option Addr) (c0 : Nat) (l0 : List (S169)) (a1 : Int) (a2 : Int) (r1 : List (S169)) (r2 : Bool) (w : World) (hr0 : Kd.C k169 w A0 l0.length l0) (hc0 : l0.length ≤ c0) (h : impl_PutSlot.f l0 a1 a2 = some (r1, r2)) :
  Calls Try.prog 87 #[.slice A0 l0.length c0, .int .i64 a1, .int .i64 a2] w fun e w' => ∃ v0_ : Value, e = .returned (.tuple #[v0_, .bool r2]) ∧ Kd.R k169 169 w' w.heap.size (fun _ => True) v0_ r1 ∧ Below w.heap.size w w' := by
 have hu169 := Try.underlying169
 have HR0 := Aside0.mk hr0
 have HC0 := Aside0.mk hc0
 clear hr0 hc0
 have HB := Aside0.mk (Below.refl w.heap.size w)
 have H : ((impl_Slot_168.f l0).bind fun t1 => (if t1.length < 8796093022208 then ((some (t1 ++ [(⟨a1, a2⟩ : S169)] : List (S169))).bind fun y4 => ((impl_BufOk.f y4).bind fun t7 => (if t7 = true then (some (y4, true)) else ((impl_Slot_168.f l0).bind fun t8 => (some (t8, false)))))) else (none))) = some (r1, r2) := h
 clear h
 replace H := Option.bind_eq_some_iff.mp H
 obtain ⟨t1, A40, H⟩ := H
 replace H : (if t1.length < 8796093022208 then ((some (t1 ++ [(⟨a1, a2⟩ : S169)] : List (S169))).bind fun y4 => ((impl_BufOk.f y4).bind fun t7 => (if t7 = true then (some (y4, true)) else ((impl_Slot_168.f l0).bind fun t8 => (some (t8, false)))))) else (none)) = some (r1, r2) := H
 have A4 := Aside0.mk A40
 clear A40
 by_cases c5 : t1.length < 8796093022208
 rotate_left
 ·rw [if_neg c5] at H
  exact absurd H (by simp)
 rw [if_pos c5] at H
 have LMc5 := Aside0.mk c5
 clear c5
 obtain ⟨y4, hy4⟩ : ∃ y_ : List (S169), y_ = (t1 ++ [(⟨a1, a2⟩ : S169)]) := ⟨_, rfl⟩
 replace H : ((impl_BufOk.f y4).bind fun t7 => (if t7 = true then (some (y4, true)) else ((impl_Slot_168.f l0).bind fun t8 => (some (t8, false))))) = some (r1, r2) := by first | (rw [hy4]; with_reducible exact H) | (have H2_ := (Option.bind_some _ _).symm.trans H; rw [hy4]; with_reducible exact H2_) | (have H2_ := (Option.bind_some _ _).symm.trans H; with_reducible exact H2_) | with_reducible exact H | (rw [hy4]; exact H) | exact H
 have Ny4 := Aside0.mk hy4
 clear hy4
 replace H := Option.bind_eq_some_iff.mp H
 obtain ⟨t7, A60, H⟩ := H
 replace H : (if t7 = true then (some (y4, true)) else ((impl_Slot_168.f l0).bind fun t8 => (some (t8, false)))) = some (r1, r2) := H
 have A6 := Aside0.mk A60
 clear A60
 by_cases c7 : t7 = true
 ·subst c7
  have H1 : (some (y4, true)) = some (r1, r2) := by rw [if_pos rfl] at H; exact H
  clear H
  have H := H1
  clear H1
  simp only [Option.some.injEq, Prod.mk.injEq] at H
  obtain ⟨rfl, rfl⟩ := H
  go_enter Try.func87, Try.ntmps87
  go_wp2_with (first | ((with_reducible refine gate_callee (f := 168) rfl ?_); refine goesL_ (some 10) rfl rfl Try.func168 (by kernel_rfl) rfl #[.slice A0 l0.length c0] rfl ar_ ?_; (with_reducible refine (impl_Slot_168.calls _ _ l0 t1 _ ?side1 ?side2 A4.out).mono ?_); (case side1 => repeat (first | exact HR0.out | (with_reducible refine Kd.C_alloc ?_ _) | (with_reducible refine Kd.C_drewN ?_ _) | (with_reducible refine Kd.C_drew ?_))); (case side2 => exact HC0.out); rintro e w8 ⟨v2, rfl, ho0, hb⟩; refine ⟨_, rfl, ?_⟩; have n0_ := Aside0.mk (Kd.R_lower ho0 (below_size bw_)); have n1_ := Aside0.mk (below_step bw_ hb); clear HB; have HO3 := n0_; have HB := n1_; clear n0_ n1_; (try clear hb); (try clear hb2); (try clear hk); (try clear hi); (try clear ho0)) | ((with_reducible refine gate_builtin (b := .append) (xs := #[.tmp 10, .tmp 14]) rfl ?_); at_builtin; refine Kd.R_append k169 (w0 := w) w.heap.size rfl (.tmp 10) (.tmp 14) 107 169 (.agg #[(.int .i64 0), (.int .i64 0)]) 16 rfl Try.underlying107 info169 rfl (by decide) (by omega) v2 t1 (⟨a1, a2⟩ : S169) [.int .i64 a1, .int .i64 a2] (fun _ => True) (fun _ => False) rfl rfl ?aP (fun _ hk => hk.elim) ?aF ?aO ?aB ?aS ?aL ?_; (case aP => exact k169_mkM _ _ _ (⟨a1, a2⟩ : S169)); (case aB => exact bw_); (case aF => exact (fun _ _ => trivial)); (case aO => exact (by (with_reducible repeat (first | apply Kd.R_alloc | apply Kd.R_drewN | apply Kd.R_drew)); exact HO3.out)); (case aS => exact (below_size bw_)); (case aL => have := LMc5.out; omega); intro v5 w9 ho hb hg hat; rw [← Ny4.out] at ho; have n0_ := Aside0.mk (hb); have n1_ := Aside0.mk (ho); clear HB; clear HO3; have HB := n0_; have HO6 := n1_; clear n0_ n1_; clear ho hb hg hat; obtain ⟨Ao10, co10, eo10⟩ := Kd.R_slice HO6.out; subst eo10) | ((with_reducible refine gate_callee (f := 169) rfl ?_); refine goesL_ (some 17) rfl rfl Try.func169 (by kernel_rfl) rfl #[.slice Ao10 y4.length co10] rfl ar_ ?_; (with_reducible refine (impl_BufOk.calls _ _ y4 true _ ?side1 ?side2 A6.out).mono ?_); (case side1 => repeat (first | exact (Kd.R_reads' HO6.out).2.2 | (with_reducible refine Kd.C_alloc ?_ _) | (with_reducible refine Kd.C_drewN ?_ _) | (with_reducible refine Kd.C_drew ?_))); (case side2 => exact (Kd.R_reads' HO6.out).2.1); rintro e w11 ⟨rfl, hb⟩; refine ⟨_, rfl, ?_⟩; have n0_ := Aside0.mk (Kd.R_below (by (with_reducible repeat (first | apply Kd.R_alloc | apply Kd.R_drewN | apply Kd.R_drew)); exact HO6.out) hb); have n1_ := Aside0.mk (below_step bw_ hb); clear HO6; clear HB; have HO6 := n0_; have HB := n1_; clear n0_ n1_; (try clear hb); (try clear hb2); (try clear hk); (try clear hi)))
  go_ret2
  exact ⟨_, rr_, by (with_reducible repeat (first | apply Kd.R_alloc | apply Kd.R_drewN | apply Kd.R_drew)); exact HO6.out, bw_⟩
 replace c7 := Bool.eq_false_iff.mpr c7
 subst c7
 have H1 : ((impl_Slot_168.f l0).bind fun t8 => (some (t8, false))) = some (r1, r2) := by rw [if_neg (show ¬ (false = true) by decide)] at H; exact H
 clear H
 have H := H1
 clear H1
 replace H := Option.bind_eq_some_iff.mp H
 obtain ⟨t8, A120, H⟩ := H
 replace H : (some (t8, false)) = some (r1, r2) := H
 have A12 := Aside0.mk A120
 clear A120
 simp only [Option.some.injEq, Prod.mk.injEq] at H
 obtain ⟨rfl, rfl⟩ := H
 go_enter Try.func87, Try.ntmps87
 go_wp2_with (first | ((with_reducible refine gate_callee (f := 168) rfl ?_); refine goesL_ (some 10) rfl rfl Try.func168 (by kernel_rfl) rfl #[.slice A0 l0.length c0] rfl ar_ ?_; (with_reducible refine (impl_Slot_168.calls _ _ l0 t1 _ ?side1 ?side2 A4.out).mono ?_); (case side1 => repeat (first | exact HR0.out | (with_reducible refine Kd.C_alloc ?_ _) | (with_reducible refine Kd.C_drewN ?_ _) | (with_reducible refine Kd.C_drew ?_))); (case side2 => exact HC0.out); rintro e w13 ⟨v2, rfl, ho0, hb⟩; refine ⟨_, rfl, ?_⟩; have n0_ := Aside0.mk (Kd.R_lower ho0 (below_size bw_)); have n1_ := Aside0.mk (below_step bw_ hb); clear HB; have HO3 := n0_; have HB := n1_; clear n0_ n1_; (try clear hb); (try clear hb2); (try clear hk); (try clear hi); (try clear ho0)) | ((with_reducible refine gate_builtin (b := .append) (xs := #[.tmp 10, .tmp 14]) rfl ?_); at_builtin; refine Kd.R_append k169 (w0 := w) w.heap.size rfl (.tmp 10) (.tmp 14) 107 169 (.agg #[(.int .i64 0), (.int .i64 0)]) 16 rfl Try.underlying107 info169 rfl (by decide) (by omega) v2 t1 (⟨a1, a2⟩ : S169) [.int .i64 a1, .int .i64 a2] (fun _ => True) (fun _ => False) rfl rfl ?aP (fun _ hk => hk.elim) ?aF ?aO ?aB ?aS ?aL ?_; (case aP => exact k169_mkM _ _ _ (⟨a1, a2⟩ : S169)); (case aB => exact bw_); (case aF => exact (fun _ _ => trivial)); (case aO => exact (by (with_reducible repeat (first | apply Kd.R_alloc | apply Kd.R_drewN | apply Kd.R_drew)); exact HO3.out)); (case aS => exact (below_size bw_)); (case aL => have := LMc5.out; omega); intro v5 w14 ho hb hg hat; rw [← Ny4.out] at ho; have n0_ := Aside0.mk (hb); have n1_ := Aside0.mk (ho); clear HB; clear HO3; have HB := n0_; have HO6 := n1_; clear n0_ n1_; clear ho hb hg hat; obtain ⟨Ao15, co15, eo15⟩ := Kd.R_slice HO6.out; subst eo15) | ((with_reducible refine gate_callee (f := 169) rfl ?_); refine goesL_ (some 17) rfl rfl Try.func169 (by kernel_rfl) rfl #[.slice Ao15 y4.length co15] rfl ar_ ?_; (with_reducible refine (impl_BufOk.calls _ _ y4 false _ ?side1 ?side2 A6.out).mono ?_); (case side1 => repeat (first | exact (Kd.R_reads' HO6.out).2.2 | (with_reducible refine Kd.C_alloc ?_ _) | (with_reducible refine Kd.C_drewN ?_ _) | (with_reducible refine Kd.C_drew ?_))); (case side2 => exact (Kd.R_reads' HO6.out).2.1); rintro e w16 ⟨rfl, hb⟩; refine ⟨_, rfl, ?_⟩; have n0_ := Aside0.mk (Kd.R_below (by (with_reducible repeat (first | apply Kd.R_alloc | apply Kd.R_drewN | apply Kd.R_drew)); exact HO6.out) hb); have n1_ := Aside0.mk (below_step bw_ hb); clear HO6; clear HB; have HO6 := n0_; have HB := n1_; clear n0_ n1_; (try clear hb); (try clear hb2); (try clear hk); (try clear hi)) | ((with_reducible refine gate_callee (f := 168) rfl ?_); refine goesL_ (some 20) rfl rfl Try.func168 (by kernel_rfl) rfl #[.slice A0 l0.length c0] rfl ar_ ?_; (with_reducible refine (impl_Slot_168.calls _ _ l0 t8 _ ?side1 ?side2 A12.out).mono ?_); (case side1 => exact cb_); (case side2 => exact HC0.out); rintro e w17 ⟨v9, rfl, ho0, hb⟩; refine ⟨_, rfl, ?_⟩; have n0_ := Aside0.mk (Kd.R_elder' (by (with_reducible repeat (first | apply Kd.R_alloc | apply Kd.R_drewN | apply Kd.R_drew)); exact HO6.out) (Kd.R_base ho0) hb); have n1_ := Aside0.mk (Kd.R_lower (Kd.R_new' ho0 (Kd.R_lt (by (with_reducible repeat (first | apply Kd.R_alloc | apply Kd.R_drewN | apply Kd.R_drew)); exact HO6.out))) (below_size bw_)); have n2_ := Aside0.mk (below_step bw_ hb); clear HO6; clear HB; have HO6 := n0_; have HO10 := n1_; have HB := n2_; clear n0_ n1_ n2_; (try clear hb); (try clear hb2); (try clear hk); (try clear hi); (try clear ho0)))
 go_ret2
 exact ⟨_, rr_, by (with_reducible repeat (first | apply Kd.R_alloc | apply Kd.R_drewN | apply Kd.R_drew)); exact Kd.R_mono HO10.out (fun _ hk => trivial), bw_⟩

end Go.Proofs.Ytpcfcdnmpginhaa.P
