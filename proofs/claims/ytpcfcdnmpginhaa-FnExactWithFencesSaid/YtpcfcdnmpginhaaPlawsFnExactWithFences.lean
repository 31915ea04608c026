-- Written by mp.py (the session's own driver over the kit's printer) for the seat Ytpcfcdnmpginhaa.
import Derived.Test.YtpcfcdnmpginhaaV2
import Derived.Test.YtpcfcdnmpginhaaK
import Derived.Test.YtpcfcdnmpginhaaE
import Derived.Test.YtpcfcdnmpginhaaPimplWithFences
import Derived.Test.YtpcfcdnmpginhaaPlawseqInstrS
import Derived.Test.YtpcfcdnmpginhaaPlawsheldInstrS
import Derived.Test.YtpcfcdnmpginhaaPlawsmarkInstrS
import Derived.Test.YtpcfcdnmpginhaaPlawsszInstrS
import Derived.Test.YtpcfcdnmpginhaaPspecWithFences
namespace Go.Proofs.Ytpcfcdnmpginhaa.P
open Go.RowKit Go.Proofs.YtpcfcdnmpginhaaW.PrintWords Go.Proofs.YtpcfcdnmpginhaaW.PrintLast Go.Proofs.YtpcfcdnmpginhaaW.PrintMore
attribute [local go_sem] max2_int min2_int max_two min_two max_three min_three max_four min_four
set_option linter.unusedVariables false
set_option linter.unusedSimpArgs false

/-! ### laws_FnExactWithFences: function 17 -/
mutual
def laws_FnExactWithFences.j0 : Nat → List (S176) → List (S153) → Bool → List (S153) → List (S153) → Bool → Bool → Option (Bool)
 | 0, _, _, _, _, _, _, _ => none
 | k + 1, x0, x4, x5, x6, x7, x8, x40 => if x40 = true then (some false) else ((laws_toInstrS.f k x0).bind fun t17 => ((laws_eqInstrS.f k x6 t17).bind fun t20 => (if t20 = true then ((laws_markInstrS.f k x6 1).bind fun bt21 => (if bt21.1 < 0 then (laws_FnExactWithFences.j1 k x0 x4 x5 x7 true) else ((laws_eqInstrS.f k x7 x4).bind fun t23 => (if t23 = true then (laws_FnExactWithFences.j1 k x0 x4 x5 x7 (x8 != x5)) else (laws_FnExactWithFences.j1 k x0 x4 x5 x7 true))))) else (some false))))
def laws_FnExactWithFences.j1 : Nat → List (S176) → List (S153) → Bool → List (S153) → Bool → Option (Bool)
 | 0, _, _, _, _, _ => none
 | k + 1, x0, x4, x5, x7, x61 => if x61 = true then (some false) else ((laws_markInstrS.f k x7 1).bind fun bt24 => ((laws_heldInstrS.f k bt24.2 1).bind fun t26 => (if t26 < 0 then (some false) else (if t26 = bt24.1 then ((laws_toInstrS.f k x0).bind fun t27 => ((impl_WithFences.f k t27).bind fun bt30 => ((laws_eqInstrS.f k bt30.1 x4).bind fun t34 => (if t34 = true then (laws_FnExactWithFences.j2 k bt24.2 bt24.1 (bt30.2 != x5)) else (laws_FnExactWithFences.j2 k bt24.2 bt24.1 true))))) else (some false)))))
def laws_FnExactWithFences.j2 : Nat → List (S153) → Int → Bool → Option (Bool)
 | 0, _, _, _ => none
 | k + 1, x7, x10, x87 => if x87 = true then (some false) else ((laws_heldInstrS.f k x7 1).bind fun t35 => (if t35 < 0 then (some false) else (if t35 = x10 then (some true) else (some false))))
end
def laws_FnExactWithFences.f (k : Nat) (l0 : List (S176)) : Option (Bool) := (laws_szInstrS.f l0 1048576).bind fun t1 => (if t1 < 0 then (some true) else ((laws_toInstrS.f k l0).bind fun t2 => ((spec_WithFences.f k t2).bind fun bt5 => ((laws_toInstrS.f k l0).bind fun t9 => ((impl_WithFences.f k t9).bind fun bt12 => ((laws_eqInstrS.f k bt12.1 bt5.1).bind fun t16 => (if t16 = true then (laws_FnExactWithFences.j0 k l0 bt5.1 bt5.2 t9 bt12.1 bt12.2 (bt12.2 != bt5.2)) else (laws_FnExactWithFences.j0 k l0 bt5.1 bt5.2 t9 bt12.1 bt12.2 true))))))))
theorem laws_FnExactWithFences.mono_l : ∀ k, (∀ y0 y1 y2 y3 y4 y5 y6, LeO (laws_FnExactWithFences.j0 k y0 y1 y2 y3 y4 y5 y6) (laws_FnExactWithFences.j0 (k + 1) y0 y1 y2 y3 y4 y5 y6)) ∧ (∀ y0 y1 y2 y3 y4, LeO (laws_FnExactWithFences.j1 k y0 y1 y2 y3 y4) (laws_FnExactWithFences.j1 (k + 1) y0 y1 y2 y3 y4)) ∧ (∀ y0 y1 y2, LeO (laws_FnExactWithFences.j2 k y0 y1 y2) (laws_FnExactWithFences.j2 (k + 1) y0 y1 y2))
 | 0 => ⟨fun _ _ _ _ _ _ _ r h => by simp [laws_FnExactWithFences.j0] at h, fun _ _ _ _ _ r h => by simp [laws_FnExactWithFences.j1] at h, fun _ _ _ r h => by simp [laws_FnExactWithFences.j2] at h⟩
 | k + 1 => by
  obtain ⟨ih0, ih1, ih2⟩ := laws_FnExactWithFences.mono_l k
  refine ⟨?_, ?_, ?_⟩
  ·intro y0 y1 y2 y3 y4 y5 y6
   unfold laws_FnExactWithFences.j0
   repeat' first
   | (with_reducible exact ih0 _ _ _ _ _ _ _)
   | (with_reducible exact ih1 _ _ _ _ _)
   | (with_reducible exact ih2 _ _ _)
   | (with_reducible exact impl_WithFences.mono _ _)
   | (with_reducible exact laws_eqInstrS.mono _ _ _)
   | (with_reducible exact laws_heldInstrS.mono _ _ _)
   | (with_reducible exact laws_markInstrS.mono _ _ _)
   | (with_reducible exact laws_toInstrS.mono _ _)
   | (with_reducible exact spec_WithFences.mono _ _)
   | (with_reducible exact LeO.refl _)
   | (with_reducible exact LeO.none _)
   | (with_reducible refine LeO.ite ?_ ?_)
   | (with_reducible refine LeO.bind ?_ (fun _ => ?_))
   | exact ih0 _ _ _ _ _ _ _
   | exact ih1 _ _ _ _ _
   | exact ih2 _ _ _
   | exact impl_WithFences.mono _ _
   | exact laws_eqInstrS.mono _ _ _
   | exact laws_heldInstrS.mono _ _ _
   | exact laws_markInstrS.mono _ _ _
   | exact laws_toInstrS.mono _ _
   | exact spec_WithFences.mono _ _
   | exact LeO.none _
   | refine LeO.ite ?_ ?_
   | refine LeO.bind ?_ (fun _ => ?_)
  ·intro y0 y1 y2 y3 y4
   unfold laws_FnExactWithFences.j1
   repeat' first
   | (with_reducible exact ih0 _ _ _ _ _ _ _)
   | (with_reducible exact ih1 _ _ _ _ _)
   | (with_reducible exact ih2 _ _ _)
   | (with_reducible exact impl_WithFences.mono _ _)
   | (with_reducible exact laws_eqInstrS.mono _ _ _)
   | (with_reducible exact laws_heldInstrS.mono _ _ _)
   | (with_reducible exact laws_markInstrS.mono _ _ _)
   | (with_reducible exact laws_toInstrS.mono _ _)
   | (with_reducible exact spec_WithFences.mono _ _)
   | (with_reducible exact LeO.refl _)
   | (with_reducible exact LeO.none _)
   | (with_reducible refine LeO.ite ?_ ?_)
   | (with_reducible refine LeO.bind ?_ (fun _ => ?_))
   | exact ih0 _ _ _ _ _ _ _
   | exact ih1 _ _ _ _ _
   | exact ih2 _ _ _
   | exact impl_WithFences.mono _ _
   | exact laws_eqInstrS.mono _ _ _
   | exact laws_heldInstrS.mono _ _ _
   | exact laws_markInstrS.mono _ _ _
   | exact laws_toInstrS.mono _ _
   | exact spec_WithFences.mono _ _
   | exact LeO.none _
   | refine LeO.ite ?_ ?_
   | refine LeO.bind ?_ (fun _ => ?_)
  ·intro y0 y1 y2
   unfold laws_FnExactWithFences.j2
   repeat' first
   | (with_reducible exact ih0 _ _ _ _ _ _ _)
   | (with_reducible exact ih1 _ _ _ _ _)
   | (with_reducible exact ih2 _ _ _)
   | (with_reducible exact impl_WithFences.mono _ _)
   | (with_reducible exact laws_eqInstrS.mono _ _ _)
   | (with_reducible exact laws_heldInstrS.mono _ _ _)
   | (with_reducible exact laws_markInstrS.mono _ _ _)
   | (with_reducible exact laws_toInstrS.mono _ _)
   | (with_reducible exact spec_WithFences.mono _ _)
   | (with_reducible exact LeO.refl _)
   | (with_reducible exact LeO.none _)
   | (with_reducible refine LeO.ite ?_ ?_)
   | (with_reducible refine LeO.bind ?_ (fun _ => ?_))
   | exact ih0 _ _ _ _ _ _ _
   | exact ih1 _ _ _ _ _
   | exact ih2 _ _ _
   | exact impl_WithFences.mono _ _
   | exact laws_eqInstrS.mono _ _ _
   | exact laws_heldInstrS.mono _ _ _
   | exact laws_markInstrS.mono _ _ _
   | exact laws_toInstrS.mono _ _
   | exact spec_WithFences.mono _ _
   | exact LeO.none _
   | refine LeO.ite ?_ ?_
   | refine LeO.bind ?_ (fun _ => ?_)
theorem laws_FnExactWithFences.mono : ∀ a0 k, LeO (laws_FnExactWithFences.f k a0) (laws_FnExactWithFences.f (k + 1) a0) := by
 intro a0 k
 obtain ⟨ih0, ih1, ih2⟩ := laws_FnExactWithFences.mono_l k
 unfold laws_FnExactWithFences.f
 repeat' first
   | (with_reducible exact ih0 _ _ _ _ _ _ _)
   | (with_reducible exact ih1 _ _ _ _ _)
   | (with_reducible exact ih2 _ _ _)
   | (with_reducible exact impl_WithFences.mono _ _)
   | (with_reducible exact laws_eqInstrS.mono _ _ _)
   | (with_reducible exact laws_heldInstrS.mono _ _ _)
   | (with_reducible exact laws_markInstrS.mono _ _ _)
   | (with_reducible exact laws_toInstrS.mono _ _)
   | (with_reducible exact spec_WithFences.mono _ _)
   | (with_reducible exact LeO.refl _)
   | (with_reducible exact LeO.none _)
   | (with_reducible refine LeO.ite ?_ ?_)
   | (with_reducible refine LeO.bind ?_ (fun _ => ?_))
   | exact ih0 _ _ _ _ _ _ _
   | exact ih1 _ _ _ _ _
   | exact ih2 _ _ _
   | exact impl_WithFences.mono _ _
   | exact laws_eqInstrS.mono _ _ _
   | exact laws_heldInstrS.mono _ _ _
   | exact laws_markInstrS.mono _ _ _
   | exact laws_toInstrS.mono _ _
   | exact spec_WithFences.mono _ _
   | exact LeO.none _
   | refine LeO.ite ?_ ?_
   | refine LeO.bind ?_ (fun _ => ?_)
set_option maxHeartbeats 8000000 in
set_option maxRecDepth 100000 in
theorem laws_FnExactWithFences.calls (k : Nat) (A0 : Option Addr) (c0 : Nat) (l0 : List (S176)) (r : Bool) (w : World) (hr0 : Kd.C k176 w A0 l0.length l0) (hc0 : l0.length ≤ c0) (h : laws_FnExactWithFences.f k l0 = some r) :
  Calls Try.prog 17 #[.slice A0 l0.length c0] w fun e w' => e = .returned (.bool r) ∧ Below w.heap.size w w' := by
 have HR0 := Aside0.mk hr0
 have HC0 := Aside0.mk hc0
 clear hr0 hc0
 have HB := Aside0.mk (Below.refl w.heap.size w)
 have H : ((laws_szInstrS.f l0 1048576).bind fun t1 => (if t1 < 0 then (some true) else ((laws_toInstrS.f k l0).bind fun t2 => ((spec_WithFences.f k t2).bind fun bt5 => ((laws_toInstrS.f k l0).bind fun t9 => ((impl_WithFences.f k t9).bind fun bt12 => ((laws_eqInstrS.f k bt12.1 bt5.1).bind fun t16 => (if t16 = true then (laws_FnExactWithFences.j0 k l0 bt5.1 bt5.2 t9 bt12.1 bt12.2 (bt12.2 != bt5.2)) else (laws_FnExactWithFences.j0 k l0 bt5.1 bt5.2 t9 bt12.1 bt12.2 true))))))))) = some r := h
 clear h
 replace H := Option.bind_eq_some_iff.mp H
 obtain ⟨t1, A20, H⟩ := H
 replace H : (if t1 < 0 then (some true) else ((laws_toInstrS.f k l0).bind fun t2 => ((spec_WithFences.f k t2).bind fun bt5 => ((laws_toInstrS.f k l0).bind fun t9 => ((impl_WithFences.f k t9).bind fun bt12 => ((laws_eqInstrS.f k bt12.1 bt5.1).bind fun t16 => (if t16 = true then (laws_FnExactWithFences.j0 k l0 bt5.1 bt5.2 t9 bt12.1 bt12.2 (bt12.2 != bt5.2)) else (laws_FnExactWithFences.j0 k l0 bt5.1 bt5.2 t9 bt12.1 bt12.2 true)))))))) = some r := H
 have A2 := Aside0.mk A20
 clear A20
 by_cases c3 : t1 < 0
 ·rw [if_pos c3] at H
  have c3b0 : decide (t1 < 0) = true := decide_eq_true c3
  clear c3
  obtain rfl := Option.some.inj H
  go_enter Try.func17, Try.ntmps17
  go_wp2_with (first | ((with_reducible refine gate_callee (f := 70) rfl ?_); refine goesL_ (some 16) rfl rfl Try.func70 (by kernel_rfl) rfl #[.slice A0 l0.length c0, .int .i64 1048576] rfl ar_ ?_; (with_reducible refine (laws_szInstrS.calls _ _ l0 1048576 t1 _ ?side1 ?side2 A2.out).mono ?_); (case side1 => repeat (first | exact HR0.out | (with_reducible refine Kd.C_alloc ?_ _) | (with_reducible refine Kd.C_drewN ?_ _) | (with_reducible refine Kd.C_drew ?_))); (case side2 => exact HC0.out); rintro e w' ⟨rfl, ⟨nd, rfl⟩⟩; refine ⟨_, rfl, ?_⟩))
  go_ret
  exact ⟨rr_, bw_⟩
 rw [if_neg c3] at H
 have c3b0 : decide (t1 < 0) = false := decide_eq_false c3
 clear c3
 replace H := Option.bind_eq_some_iff.mp H
 obtain ⟨t2, A40, H⟩ := H
 replace H : ((spec_WithFences.f k t2).bind fun bt5 => ((laws_toInstrS.f k l0).bind fun t9 => ((impl_WithFences.f k t9).bind fun bt12 => ((laws_eqInstrS.f k bt12.1 bt5.1).bind fun t16 => (if t16 = true then (laws_FnExactWithFences.j0 k l0 bt5.1 bt5.2 t9 bt12.1 bt12.2 (bt12.2 != bt5.2)) else (laws_FnExactWithFences.j0 k l0 bt5.1 bt5.2 t9 bt12.1 bt12.2 true)))))) = some r := H
 have A4 := Aside0.mk A40
 clear A40
 replace H := Option.bind_eq_some_iff.mp H
 obtain ⟨⟨t5, t6⟩, A50, H⟩ := H
 replace H : ((laws_toInstrS.f k l0).bind fun t9 => ((impl_WithFences.f k t9).bind fun bt12 => ((laws_eqInstrS.f k bt12.1 t5).bind fun t16 => (if t16 = true then (laws_FnExactWithFences.j0 k l0 t5 t6 t9 bt12.1 bt12.2 (bt12.2 != t6)) else (laws_FnExactWithFences.j0 k l0 t5 t6 t9 bt12.1 bt12.2 true))))) = some r := H
 have A5 := Aside0.mk A50
 clear A50
 replace H := Option.bind_eq_some_iff.mp H
 obtain ⟨t9, A60, H⟩ := H
 replace H : ((impl_WithFences.f k t9).bind fun bt12 => ((laws_eqInstrS.f k bt12.1 t5).bind fun t16 => (if t16 = true then (laws_FnExactWithFences.j0 k l0 t5 t6 t9 bt12.1 bt12.2 (bt12.2 != t6)) else (laws_FnExactWithFences.j0 k l0 t5 t6 t9 bt12.1 bt12.2 true)))) = some r := H
 have A6 := Aside0.mk A60
 clear A60
 replace H := Option.bind_eq_some_iff.mp H
 obtain ⟨⟨t12, t13⟩, A70, H⟩ := H
 replace H : ((laws_eqInstrS.f k t12 t5).bind fun t16 => (if t16 = true then (laws_FnExactWithFences.j0 k l0 t5 t6 t9 t12 t13 (t13 != t6)) else (laws_FnExactWithFences.j0 k l0 t5 t6 t9 t12 t13 true))) = some r := H
 have A7 := Aside0.mk A70
 clear A70
 have HC8 := Aside0.mk H
 clear H
 go_enter Try.func17, Try.ntmps17
 go_upto_region 8 with (first | ((with_reducible refine gate_callee (f := 70) rfl ?_); refine goesL_ (some 16) rfl rfl Try.func70 (by kernel_rfl) rfl #[.slice A0 l0.length c0, .int .i64 1048576] rfl ar_ ?_; (with_reducible refine (laws_szInstrS.calls _ _ l0 1048576 t1 _ ?side1 ?side2 A2.out).mono ?_); (case side1 => repeat (first | exact HR0.out | (with_reducible refine Kd.C_alloc ?_ _) | (with_reducible refine Kd.C_drewN ?_ _) | (with_reducible refine Kd.C_drew ?_))); (case side2 => exact HC0.out); rintro e w' ⟨rfl, ⟨nd, rfl⟩⟩; refine ⟨_, rfl, ?_⟩) | ((with_reducible refine gate_callee (f := 72) rfl ?_); refine goesL_ (some 21) rfl rfl Try.func72 (by kernel_rfl) rfl #[.slice A0 l0.length c0] rfl ar_ ?_; (with_reducible refine (laws_toInstrS.calls k _ _ l0 t2 _ ?side1 ?side2 A4.out).mono ?_); (case side1 => repeat (first | exact HR0.out | (with_reducible refine Kd.C_alloc ?_ _) | (with_reducible refine Kd.C_drewN ?_ _) | (with_reducible refine Kd.C_drew ?_))); (case side2 => exact HC0.out); rintro e w9 ⟨v3, rfl, ho0, hb⟩; refine ⟨_, rfl, ?_⟩; have n0_ := Aside0.mk (Kd.R_lower ho0 (below_size bw_)); have n1_ := Aside0.mk (below_step bw_ hb); clear HB; have HO4 := n0_; have HB := n1_; clear n0_ n1_; (try clear hb); (try clear hb2); (try clear hk); (try clear hi); (try clear ho0); obtain ⟨Ao10, co10, eo10⟩ := Kd.R_slice HO4.out; subst eo10) | ((with_reducible refine gate_callee (f := 81) rfl ?_); refine goesL_ (some 22) rfl rfl Try.func81 (by kernel_rfl) rfl #[.slice Ao10 t2.length co10] rfl ar_ ?_; (with_reducible refine (spec_WithFences.calls k _ _ t2 t5 t6 _ ?side1 ?side2 A5.out).mono ?_); (case side1 => repeat (first | exact (Kd.R_reads' HO4.out).2.2 | (with_reducible refine Kd.C_alloc ?_ _) | (with_reducible refine Kd.C_drewN ?_ _) | (with_reducible refine Kd.C_drew ?_))); (case side2 => exact (Kd.R_reads' HO4.out).2.1); rintro e w11 ⟨v7, rfl, ho0, hb⟩; refine ⟨_, rfl, ?_⟩; have n0_ := Aside0.mk (Kd.R_elder' (by (with_reducible repeat (first | apply Kd.R_alloc | apply Kd.R_drewN | apply Kd.R_drew)); exact HO4.out) (Kd.R_base ho0) hb); have n1_ := Aside0.mk (Kd.R_lower (Kd.R_new' ho0 (Kd.R_lt (by (with_reducible repeat (first | apply Kd.R_alloc | apply Kd.R_drewN | apply Kd.R_drew)); exact HO4.out))) (below_size bw_)); have n2_ := Aside0.mk (below_step bw_ hb); clear HO4; clear HB; have HO4 := n0_; have HO8 := n1_; have HB := n2_; clear n0_ n1_ n2_; (try clear hb); (try clear hb2); (try clear hk); (try clear hi); (try clear ho0)) | ((with_reducible refine gate_callee (f := 72) rfl ?_); refine goesL_ (some 26) rfl rfl Try.func72 (by kernel_rfl) rfl #[.slice A0 l0.length c0] rfl ar_ ?_; (with_reducible refine (laws_toInstrS.calls k _ _ l0 t9 _ ?side1 ?side2 A6.out).mono ?_); (case side1 => exact cb_); (case side2 => exact HC0.out); rintro e w12 ⟨v10, rfl, ho0, hb⟩; refine ⟨_, rfl, ?_⟩; have n0_ := Aside0.mk (Kd.R_elder' (by (with_reducible repeat (first | apply Kd.R_alloc | apply Kd.R_drewN | apply Kd.R_drew)); exact HO4.out) (Kd.R_base ho0) hb); have n1_ := Aside0.mk (Kd.R_elder' (by (with_reducible repeat (first | apply Kd.R_alloc | apply Kd.R_drewN | apply Kd.R_drew)); exact HO8.out) (Kd.R_base ho0) hb); have n2_ := Aside0.mk (Kd.R_lower (Kd.R_new' (Kd.R_new' ho0 (Kd.R_lt (by (with_reducible repeat (first | apply Kd.R_alloc | apply Kd.R_drewN | apply Kd.R_drew)); exact HO4.out))) (Kd.R_lt (by (with_reducible repeat (first | apply Kd.R_alloc | apply Kd.R_drewN | apply Kd.R_drew)); exact HO8.out))) (below_size bw_)); have n3_ := Aside0.mk (below_step bw_ hb); clear HO4; clear HO8; clear HB; have HO4 := n0_; have HO8 := n1_; have HO11 := n2_; have HB := n3_; clear n0_ n1_ n2_ n3_; (try clear hb); (try clear hb2); (try clear hk); (try clear hi); (try clear ho0); obtain ⟨Ao13, co13, eo13⟩ := Kd.R_slice HO11.out; subst eo13) | ((with_reducible refine gate_callee (f := 82) rfl ?_); refine goesL_ (some 29) rfl rfl Try.func82 (by kernel_rfl) rfl #[.slice Ao13 t9.length co13] rfl ar_ ?_; (with_reducible refine (impl_WithFences.calls k _ _ t9 t12 t13 _ ?side1 ?side2 A7.out).mono ?_); (case side1 => repeat (first | exact (Kd.R_reads' HO11.out).2.2 | (with_reducible refine Kd.C_alloc ?_ _) | (with_reducible refine Kd.C_drewN ?_ _) | (with_reducible refine Kd.C_drew ?_))); (case side2 => exact (Kd.R_reads' HO11.out).2.1); rintro e w14 ⟨v14, rfl, ho0, hb⟩; refine ⟨_, rfl, ?_⟩; have n0_ := Aside0.mk (Kd.R_elder' (by (with_reducible repeat (first | apply Kd.R_alloc | apply Kd.R_drewN | apply Kd.R_drew)); exact HO4.out) (Kd.R_base ho0) hb); have n1_ := Aside0.mk (Kd.R_elder' (by (with_reducible repeat (first | apply Kd.R_alloc | apply Kd.R_drewN | apply Kd.R_drew)); exact HO8.out) (Kd.R_base ho0) hb); have n2_ := Aside0.mk (Kd.R_elder' (by (with_reducible repeat (first | apply Kd.R_alloc | apply Kd.R_drewN | apply Kd.R_drew)); exact HO11.out) (Kd.R_base ho0) hb); have n3_ := Aside0.mk (Kd.R_lower (Kd.R_new' (Kd.R_new' (Kd.R_new' ho0 (Kd.R_lt (by (with_reducible repeat (first | apply Kd.R_alloc | apply Kd.R_drewN | apply Kd.R_drew)); exact HO4.out))) (Kd.R_lt (by (with_reducible repeat (first | apply Kd.R_alloc | apply Kd.R_drewN | apply Kd.R_drew)); exact HO8.out))) (Kd.R_lt (by (with_reducible repeat (first | apply Kd.R_alloc | apply Kd.R_drewN | apply Kd.R_drew)); exact HO11.out))) (below_size bw_)); have n4_ := Aside0.mk (below_step bw_ hb); clear HO4; clear HO8; clear HO11; clear HB; have HO4 := n0_; have HO8 := n1_; have HO11 := n2_; have HO15 := n3_; have HB := n4_; clear n0_ n1_ n2_ n3_ n4_; (try clear hb); (try clear hb2); (try clear hk); (try clear hi); (try clear ho0)))
 (try simp only [Act.put, List.setIfInBounds_toArray, List.set_cons_zero, List.set_cons_succ])
 go_cut [40] (fun v40 wc => ∃ (kq : Nat) (x40_7 : Bool), v40 = .bool x40_7 ∧ Aside0 (laws_FnExactWithFences.j0 kq l0 t5 t6 t9 t12 t13 x40_7 = some r) ∧ Aside0 (kq ≤ k) ∧ Aside0 (Kd.R k153 153 wc w.heap.size (fun k_ => some k_ ≠ ((.slice Ao13 t9.length co13) : Value).ownBlock ∧ some k_ ≠ (v14 : Value).ownBlock) v7 t5) ∧ Aside0 (Kd.R k153 153 wc w.heap.size (fun k_ => some k_ ≠ (v7 : Value).ownBlock ∧ some k_ ≠ (v14 : Value).ownBlock) (.slice Ao13 t9.length co13) t9) ∧ Aside0 (Kd.R k153 153 wc w.heap.size (fun k_ => some k_ ≠ (v7 : Value).ownBlock ∧ some k_ ≠ ((.slice Ao13 t9.length co13) : Value).ownBlock) v14 t12) ∧ Aside0 (Below w.heap.size w wc))
 case first =>
  have H := HC8.out
  clear HC8
  replace H := Option.bind_eq_some_iff.mp H
  obtain ⟨t16, A150, H⟩ := H
  replace H : (if t16 = true then (laws_FnExactWithFences.j0 k l0 t5 t6 t9 t12 t13 (t13 != t6)) else (laws_FnExactWithFences.j0 k l0 t5 t6 t9 t12 t13 true)) = some r := H
  have A15 := Aside0.mk A150
  clear A150
  by_cases c16 : t16 = true
  ·subst c16
   have H1 : (laws_FnExactWithFences.j0 k l0 t5 t6 t9 t12 t13 (t13 != t6)) = some r := by rw [if_pos rfl] at H; exact H
   clear H
   have H := H1
   clear H1
   have H' := Aside0.mk H
   clear H
   obtain ⟨Ao17, co17, eo17⟩ := Kd.R_slice HO15.out
   subst eo17
   obtain ⟨Ao18, co18, eo18⟩ := Kd.R_slice HO8.out
   subst eo18
   go_wp2_with (first | ((with_reducible refine gate_callee (f := 74) rfl ?_); refine goesL_ (some 34) rfl rfl Try.func74 (by kernel_rfl) rfl #[.slice Ao17 t12.length co17, .slice Ao18 t5.length co18] rfl ar_ ?_; (with_reducible refine (laws_eqInstrS.calls k _ _ t12 _ _ t5 true _ ?side1 ?side2 ?side3 ?side4 A15.out).mono ?_); (case side1 => repeat (first | exact (Kd.R_reads' HO15.out).2.2 | (with_reducible refine Kd.C_alloc ?_ _) | (with_reducible refine Kd.C_drewN ?_ _) | (with_reducible refine Kd.C_drew ?_))); (case side2 => exact (Kd.R_reads' HO15.out).2.1); (case side3 => repeat (first | exact (Kd.R_reads' HO8.out).2.2 | (with_reducible refine Kd.C_alloc ?_ _) | (with_reducible refine Kd.C_drewN ?_ _) | (with_reducible refine Kd.C_drew ?_))); (case side4 => exact (Kd.R_reads' HO8.out).2.1); rintro e w19 ⟨rfl, hb⟩; refine ⟨_, rfl, ?_⟩; have n0_ := Aside0.mk (Kd.R_below (by (with_reducible repeat (first | apply Kd.R_alloc | apply Kd.R_drewN | apply Kd.R_drew)); exact HO4.out) hb); have n1_ := Aside0.mk (Kd.R_below (by (with_reducible repeat (first | apply Kd.R_alloc | apply Kd.R_drewN | apply Kd.R_drew)); exact HO8.out) hb); have n2_ := Aside0.mk (Kd.R_below (by (with_reducible repeat (first | apply Kd.R_alloc | apply Kd.R_drewN | apply Kd.R_drew)); exact HO11.out) hb); have n3_ := Aside0.mk (Kd.R_below (by (with_reducible repeat (first | apply Kd.R_alloc | apply Kd.R_drewN | apply Kd.R_drew)); exact HO15.out) hb); have n4_ := Aside0.mk (below_step bw_ hb); clear HO4; clear HO8; clear HO11; clear HO15; clear HB; have HO4 := n0_; have HO8 := n1_; have HO11 := n2_; have HO15 := n3_; have HB := n4_; clear n0_ n1_ n2_ n3_ n4_; (try clear hb); (try clear hb2); (try clear hk); (try clear hi)))
   go_meet
   case rel => exact ⟨_, ((t13 != t6)), sd_, H', ⟨by first | omega | exact Nat.le_refl _⟩, ⟨by (with_reducible repeat (first | apply Kd.R_alloc | apply Kd.R_drewN | apply Kd.R_drew)); exact Kd.R_mono HO8.out (fun _ hk => ⟨hk.1.2, hk.2⟩)⟩, ⟨by (with_reducible repeat (first | apply Kd.R_alloc | apply Kd.R_drewN | apply Kd.R_drew)); exact Kd.R_mono HO11.out (fun _ hk => ⟨hk.1.2, hk.2⟩)⟩, ⟨by (with_reducible repeat (first | apply Kd.R_alloc | apply Kd.R_drewN | apply Kd.R_drew)); exact Kd.R_mono HO15.out (fun _ hk => ⟨hk.1.2, hk.2⟩)⟩, ⟨bw_⟩⟩
  replace c16 := Bool.eq_false_iff.mpr c16
  subst c16
  have H1 : (laws_FnExactWithFences.j0 k l0 t5 t6 t9 t12 t13 true) = some r := by rw [if_neg (show ¬ (false = true) by decide)] at H; exact H
  clear H
  have H := H1
  clear H1
  have H' := Aside0.mk H
  clear H
  obtain ⟨Ao20, co20, eo20⟩ := Kd.R_slice HO15.out
  subst eo20
  obtain ⟨Ao21, co21, eo21⟩ := Kd.R_slice HO8.out
  subst eo21
  go_wp2_with (first | ((with_reducible refine gate_callee (f := 74) rfl ?_); refine goesL_ (some 34) rfl rfl Try.func74 (by kernel_rfl) rfl #[.slice Ao20 t12.length co20, .slice Ao21 t5.length co21] rfl ar_ ?_; (with_reducible refine (laws_eqInstrS.calls k _ _ t12 _ _ t5 false _ ?side1 ?side2 ?side3 ?side4 A15.out).mono ?_); (case side1 => repeat (first | exact (Kd.R_reads' HO15.out).2.2 | (with_reducible refine Kd.C_alloc ?_ _) | (with_reducible refine Kd.C_drewN ?_ _) | (with_reducible refine Kd.C_drew ?_))); (case side2 => exact (Kd.R_reads' HO15.out).2.1); (case side3 => repeat (first | exact (Kd.R_reads' HO8.out).2.2 | (with_reducible refine Kd.C_alloc ?_ _) | (with_reducible refine Kd.C_drewN ?_ _) | (with_reducible refine Kd.C_drew ?_))); (case side4 => exact (Kd.R_reads' HO8.out).2.1); rintro e w22 ⟨rfl, hb⟩; refine ⟨_, rfl, ?_⟩; have n0_ := Aside0.mk (Kd.R_below (by (with_reducible repeat (first | apply Kd.R_alloc | apply Kd.R_drewN | apply Kd.R_drew)); exact HO4.out) hb); have n1_ := Aside0.mk (Kd.R_below (by (with_reducible repeat (first | apply Kd.R_alloc | apply Kd.R_drewN | apply Kd.R_drew)); exact HO8.out) hb); have n2_ := Aside0.mk (Kd.R_below (by (with_reducible repeat (first | apply Kd.R_alloc | apply Kd.R_drewN | apply Kd.R_drew)); exact HO11.out) hb); have n3_ := Aside0.mk (Kd.R_below (by (with_reducible repeat (first | apply Kd.R_alloc | apply Kd.R_drewN | apply Kd.R_drew)); exact HO15.out) hb); have n4_ := Aside0.mk (below_step bw_ hb); clear HO4; clear HO8; clear HO11; clear HO15; clear HB; have HO4 := n0_; have HO8 := n1_; have HO11 := n2_; have HO15 := n3_; have HB := n4_; clear n0_ n1_ n2_ n3_ n4_; (try clear hb); (try clear hb2); (try clear hk); (try clear hi)))
  go_meet
  case rel => exact ⟨_, (true), sd_, H', ⟨by first | omega | exact Nat.le_refl _⟩, ⟨by (with_reducible repeat (first | apply Kd.R_alloc | apply Kd.R_drewN | apply Kd.R_drew)); exact Kd.R_mono HO8.out (fun _ hk => ⟨hk.1.2, hk.2⟩)⟩, ⟨by (with_reducible repeat (first | apply Kd.R_alloc | apply Kd.R_drewN | apply Kd.R_drew)); exact Kd.R_mono HO11.out (fun _ hk => ⟨hk.1.2, hk.2⟩)⟩, ⟨by (with_reducible repeat (first | apply Kd.R_alloc | apply Kd.R_drewN | apply Kd.R_drew)); exact Kd.R_mono HO15.out (fun _ hk => ⟨hk.1.2, hk.2⟩)⟩, ⟨bw_⟩⟩
 case rest =>
  clear HC8
  try clear c1
  try clear p2
  try clear c3
  try clear c3b0
  try clear c7
  try clear c8
  try clear c16
  try clear c17
  obtain ⟨kq, x40_7, rfl, HA, HJ7, HO_4, HO_6, HO_7, HB⟩ := hcut
  cases kq with
  | zero => exact absurd HA.out (by simp [laws_FnExactWithFences.j0])
  | succ kj7 =>
   have H := HA.out
   clear HA
   simp only [laws_FnExactWithFences.j0] at H
   by_cases c23 : x40_7 = true
   ·subst c23
    have H1 : (some false) = some r := by rw [if_pos rfl] at H; exact H
    clear H
    have H := H1
    clear H1
    obtain rfl := Option.some.inj H
    go_wp2
    go_ret
    exact ⟨rr_, bw_⟩
   replace c23 := Bool.eq_false_iff.mpr c23
   subst c23
   have H1 : ((laws_toInstrS.f kj7 l0).bind fun t17 => ((laws_eqInstrS.f kj7 t9 t17).bind fun t20 => (if t20 = true then ((laws_markInstrS.f kj7 t9 1).bind fun bt21 => (if bt21.1 < 0 then (laws_FnExactWithFences.j1 kj7 l0 t5 t6 t12 true) else ((laws_eqInstrS.f kj7 t12 t5).bind fun t23 => (if t23 = true then (laws_FnExactWithFences.j1 kj7 l0 t5 t6 t12 (t13 != t6)) else (laws_FnExactWithFences.j1 kj7 l0 t5 t6 t12 true))))) else (some false)))) = some r := by rw [if_neg (show ¬ (false = true) by decide)] at H; exact H
   clear H
   have H := H1
   clear H1
   replace H := Option.bind_eq_some_iff.mp H
   obtain ⟨t17, A240, H⟩ := H
   replace H : ((laws_eqInstrS.f kj7 t9 t17).bind fun t20 => (if t20 = true then ((laws_markInstrS.f kj7 t9 1).bind fun bt21 => (if bt21.1 < 0 then (laws_FnExactWithFences.j1 kj7 l0 t5 t6 t12 true) else ((laws_eqInstrS.f kj7 t12 t5).bind fun t23 => (if t23 = true then (laws_FnExactWithFences.j1 kj7 l0 t5 t6 t12 (t13 != t6)) else (laws_FnExactWithFences.j1 kj7 l0 t5 t6 t12 true))))) else (some false))) = some r := H
   have A24 := Aside0.mk A240
   clear A240
   replace H := Option.bind_eq_some_iff.mp H
   obtain ⟨t20, A250, H⟩ := H
   replace H : (if t20 = true then ((laws_markInstrS.f kj7 t9 1).bind fun bt21 => (if bt21.1 < 0 then (laws_FnExactWithFences.j1 kj7 l0 t5 t6 t12 true) else ((laws_eqInstrS.f kj7 t12 t5).bind fun t23 => (if t23 = true then (laws_FnExactWithFences.j1 kj7 l0 t5 t6 t12 (t13 != t6)) else (laws_FnExactWithFences.j1 kj7 l0 t5 t6 t12 true))))) else (some false)) = some r := H
   have A25 := Aside0.mk A250
   clear A250
   by_cases c26 : t20 = true
   rotate_left
   ·replace c26 := Bool.eq_false_iff.mpr c26
    subst c26
    have H1 : (some false) = some r := by rw [if_neg (show ¬ (false = true) by decide)] at H; exact H
    clear H
    have H := H1
    clear H1
    obtain rfl := Option.some.inj H
    go_wp2_with (first | ((with_reducible refine gate_callee (f := 72) rfl ?_); refine goesL_ (some 43) rfl rfl Try.func72 (by kernel_rfl) rfl #[.slice A0 l0.length c0] rfl ar_ ?_; (with_reducible refine (laws_toInstrS.calls kj7 _ _ l0 t17 _ ?side1 ?side2 A24.out).mono ?_); (case side1 => exact cb_); (case side2 => exact HC0.out); rintro e w71 ⟨v18, rfl, ho0, hb⟩; refine ⟨_, rfl, ?_⟩; have n0_ := Aside0.mk (Kd.R_elder' (by (with_reducible repeat (first | apply Kd.R_alloc | apply Kd.R_drewN | apply Kd.R_drew)); exact HO_4.out) (Kd.R_base ho0) hb); have n1_ := Aside0.mk (Kd.R_elder' (by (with_reducible repeat (first | apply Kd.R_alloc | apply Kd.R_drewN | apply Kd.R_drew)); exact HO_6.out) (Kd.R_base ho0) hb); have n2_ := Aside0.mk (Kd.R_elder' (by (with_reducible repeat (first | apply Kd.R_alloc | apply Kd.R_drewN | apply Kd.R_drew)); exact HO_7.out) (Kd.R_base ho0) hb); have n3_ := Aside0.mk (Kd.R_lower (Kd.R_new' (Kd.R_new' (Kd.R_new' ho0 (Kd.R_lt (by (with_reducible repeat (first | apply Kd.R_alloc | apply Kd.R_drewN | apply Kd.R_drew)); exact HO_4.out))) (Kd.R_lt (by (with_reducible repeat (first | apply Kd.R_alloc | apply Kd.R_drewN | apply Kd.R_drew)); exact HO_6.out))) (Kd.R_lt (by (with_reducible repeat (first | apply Kd.R_alloc | apply Kd.R_drewN | apply Kd.R_drew)); exact HO_7.out))) (below_size bw_)); have n4_ := Aside0.mk (below_step bw_ hb); clear HO_4; clear HO_6; clear HO_7; clear HB; have HO_4 := n0_; have HO_6 := n1_; have HO_7 := n2_; have HO19 := n3_; have HB := n4_; clear n0_ n1_ n2_ n3_ n4_; (try clear hb); (try clear hb2); (try clear hk); (try clear hi); (try clear ho0); obtain ⟨Ao72, co72, eo72⟩ := Kd.R_slice HO19.out; subst eo72) | ((with_reducible refine gate_callee (f := 74) rfl ?_); refine goesL_ (some 44) rfl rfl Try.func74 (by kernel_rfl) rfl #[.slice Ao13 t9.length co13, .slice Ao72 t17.length co72] rfl ar_ ?_; (with_reducible refine (laws_eqInstrS.calls kj7 _ _ t9 _ _ t17 false _ ?side1 ?side2 ?side3 ?side4 A25.out).mono ?_); (case side1 => repeat (first | exact (Kd.R_reads' HO_6.out).2.2 | (with_reducible refine Kd.C_alloc ?_ _) | (with_reducible refine Kd.C_drewN ?_ _) | (with_reducible refine Kd.C_drew ?_))); (case side2 => exact (Kd.R_reads' HO_6.out).2.1); (case side3 => repeat (first | exact (Kd.R_reads' HO19.out).2.2 | (with_reducible refine Kd.C_alloc ?_ _) | (with_reducible refine Kd.C_drewN ?_ _) | (with_reducible refine Kd.C_drew ?_))); (case side4 => exact (Kd.R_reads' HO19.out).2.1); rintro e w73 ⟨rfl, hb⟩; refine ⟨_, rfl, ?_⟩; have n0_ := Aside0.mk (Kd.R_below (by (with_reducible repeat (first | apply Kd.R_alloc | apply Kd.R_drewN | apply Kd.R_drew)); exact HO_4.out) hb); have n1_ := Aside0.mk (Kd.R_below (by (with_reducible repeat (first | apply Kd.R_alloc | apply Kd.R_drewN | apply Kd.R_drew)); exact HO_6.out) hb); have n2_ := Aside0.mk (Kd.R_below (by (with_reducible repeat (first | apply Kd.R_alloc | apply Kd.R_drewN | apply Kd.R_drew)); exact HO_7.out) hb); have n3_ := Aside0.mk (Kd.R_below (by (with_reducible repeat (first | apply Kd.R_alloc | apply Kd.R_drewN | apply Kd.R_drew)); exact HO19.out) hb); have n4_ := Aside0.mk (below_step bw_ hb); clear HO_4; clear HO_6; clear HO_7; clear HO19; clear HB; have HO_4 := n0_; have HO_6 := n1_; have HO_7 := n2_; have HO19 := n3_; have HB := n4_; clear n0_ n1_ n2_ n3_ n4_; (try clear hb); (try clear hb2); (try clear hk); (try clear hi)))
    go_ret
    exact ⟨rr_, bw_⟩
   subst c26
   have H1 : ((laws_markInstrS.f kj7 t9 1).bind fun bt21 => (if bt21.1 < 0 then (laws_FnExactWithFences.j1 kj7 l0 t5 t6 t12 true) else ((laws_eqInstrS.f kj7 t12 t5).bind fun t23 => (if t23 = true then (laws_FnExactWithFences.j1 kj7 l0 t5 t6 t12 (t13 != t6)) else (laws_FnExactWithFences.j1 kj7 l0 t5 t6 t12 true))))) = some r := by rw [if_pos rfl] at H; exact H
   clear H
   have H := H1
   clear H1
   replace H := Option.bind_eq_some_iff.mp H
   obtain ⟨⟨t21, t22⟩, A270, H⟩ := H
   replace H : (if t21 < 0 then (laws_FnExactWithFences.j1 kj7 l0 t5 t6 t12 true) else ((laws_eqInstrS.f kj7 t12 t5).bind fun t23 => (if t23 = true then (laws_FnExactWithFences.j1 kj7 l0 t5 t6 t12 (t13 != t6)) else (laws_FnExactWithFences.j1 kj7 l0 t5 t6 t12 true)))) = some r := H
   have A27 := Aside0.mk A270
   clear A270
   have HC28 := Aside0.mk H
   clear H
   go_upto_region 14 with (first | ((with_reducible refine gate_callee (f := 72) rfl ?_); refine goesL_ (some 43) rfl rfl Try.func72 (by kernel_rfl) rfl #[.slice A0 l0.length c0] rfl ar_ ?_; (with_reducible refine (laws_toInstrS.calls kj7 _ _ l0 t17 _ ?side1 ?side2 A24.out).mono ?_); (case side1 => exact cb_); (case side2 => exact HC0.out); rintro e w29 ⟨v18, rfl, ho0, hb⟩; refine ⟨_, rfl, ?_⟩; have n0_ := Aside0.mk (Kd.R_elder' (by (with_reducible repeat (first | apply Kd.R_alloc | apply Kd.R_drewN | apply Kd.R_drew)); exact HO_4.out) (Kd.R_base ho0) hb); have n1_ := Aside0.mk (Kd.R_elder' (by (with_reducible repeat (first | apply Kd.R_alloc | apply Kd.R_drewN | apply Kd.R_drew)); exact HO_6.out) (Kd.R_base ho0) hb); have n2_ := Aside0.mk (Kd.R_elder' (by (with_reducible repeat (first | apply Kd.R_alloc | apply Kd.R_drewN | apply Kd.R_drew)); exact HO_7.out) (Kd.R_base ho0) hb); have n3_ := Aside0.mk (Kd.R_lower (Kd.R_new' (Kd.R_new' (Kd.R_new' ho0 (Kd.R_lt (by (with_reducible repeat (first | apply Kd.R_alloc | apply Kd.R_drewN | apply Kd.R_drew)); exact HO_4.out))) (Kd.R_lt (by (with_reducible repeat (first | apply Kd.R_alloc | apply Kd.R_drewN | apply Kd.R_drew)); exact HO_6.out))) (Kd.R_lt (by (with_reducible repeat (first | apply Kd.R_alloc | apply Kd.R_drewN | apply Kd.R_drew)); exact HO_7.out))) (below_size bw_)); have n4_ := Aside0.mk (below_step bw_ hb); clear HO_4; clear HO_6; clear HO_7; clear HB; have HO_4 := n0_; have HO_6 := n1_; have HO_7 := n2_; have HO19 := n3_; have HB := n4_; clear n0_ n1_ n2_ n3_ n4_; (try clear hb); (try clear hb2); (try clear hk); (try clear hi); (try clear ho0); obtain ⟨Ao30, co30, eo30⟩ := Kd.R_slice HO19.out; subst eo30) | ((with_reducible refine gate_callee (f := 74) rfl ?_); refine goesL_ (some 44) rfl rfl Try.func74 (by kernel_rfl) rfl #[.slice Ao13 t9.length co13, .slice Ao30 t17.length co30] rfl ar_ ?_; (with_reducible refine (laws_eqInstrS.calls kj7 _ _ t9 _ _ t17 true _ ?side1 ?side2 ?side3 ?side4 A25.out).mono ?_); (case side1 => repeat (first | exact (Kd.R_reads' HO_6.out).2.2 | (with_reducible refine Kd.C_alloc ?_ _) | (with_reducible refine Kd.C_drewN ?_ _) | (with_reducible refine Kd.C_drew ?_))); (case side2 => exact (Kd.R_reads' HO_6.out).2.1); (case side3 => repeat (first | exact (Kd.R_reads' HO19.out).2.2 | (with_reducible refine Kd.C_alloc ?_ _) | (with_reducible refine Kd.C_drewN ?_ _) | (with_reducible refine Kd.C_drew ?_))); (case side4 => exact (Kd.R_reads' HO19.out).2.1); rintro e w31 ⟨rfl, hb⟩; refine ⟨_, rfl, ?_⟩; have n0_ := Aside0.mk (Kd.R_below (by (with_reducible repeat (first | apply Kd.R_alloc | apply Kd.R_drewN | apply Kd.R_drew)); exact HO_4.out) hb); have n1_ := Aside0.mk (Kd.R_below (by (with_reducible repeat (first | apply Kd.R_alloc | apply Kd.R_drewN | apply Kd.R_drew)); exact HO_6.out) hb); have n2_ := Aside0.mk (Kd.R_below (by (with_reducible repeat (first | apply Kd.R_alloc | apply Kd.R_drewN | apply Kd.R_drew)); exact HO_7.out) hb); have n3_ := Aside0.mk (Kd.R_below (by (with_reducible repeat (first | apply Kd.R_alloc | apply Kd.R_drewN | apply Kd.R_drew)); exact HO19.out) hb); have n4_ := Aside0.mk (below_step bw_ hb); clear HO_4; clear HO_6; clear HO_7; clear HO19; clear HB; have HO_4 := n0_; have HO_6 := n1_; have HO_7 := n2_; have HO19 := n3_; have HB := n4_; clear n0_ n1_ n2_ n3_ n4_; (try clear hb); (try clear hb2); (try clear hk); (try clear hi)) | ((with_reducible refine gate_callee (f := 75) rfl ?_); refine goesL_ (some 48) rfl rfl Try.func75 (by kernel_rfl) rfl #[.slice Ao13 t9.length co13, .int .i64 1] rfl ar_ ?_; (with_reducible refine (laws_markInstrS.calls kj7 (fun k_ => some k_ = (.slice Ao13 t9.length co13 : Value).ownBlock) (.slice Ao13 t9.length co13) t9 1 t21 t22 w _ ?side1 ?side2 A27.out).mono ?_); (case side1 => repeat (first | (with_reducible first | exact HB.out | apply below_alloc | apply pw_below_drewN | apply below_drew1) | exact HB.out)); (case side2 => exact Kd.R_tight rfl HO_6.out); rintro e w32 ⟨rfl, hy0, hb, hkp⟩; refine ⟨_, rfl, ?_⟩; have n0_ := Aside0.mk (Kd.R_mono (ok' := fun k_ => some k_ ≠ (.slice Ao13 t9.length co13 : Value).ownBlock ∧ some k_ ≠ (v14 : Value).ownBlock ∧ some k_ ≠ (.slice Ao30 t17.length co30 : Value).ownBlock) (Kd.R_keptB (HO_4.out) hkp (fun k_ hk_ hs_ => (hk_.1.1) hs_)) (fun k_ hk_ => ⟨hk_.1.1.1, hk_.1.1.2, hk_.1.2⟩)); have n1_ := Aside0.mk (Kd.R_reok rfl hy0 (fun k_ e_ => HO_6.out.1 k_ e_)); have n2_ := Aside0.mk (Kd.R_mono (ok' := fun k_ => some k_ ≠ (v7 : Value).ownBlock ∧ some k_ ≠ (.slice Ao13 t9.length co13 : Value).ownBlock ∧ some k_ ≠ (.slice Ao30 t17.length co30 : Value).ownBlock) (Kd.R_keptB (HO_7.out) hkp (fun k_ hk_ hs_ => (hk_.1.2) hs_)) (fun k_ hk_ => ⟨hk_.1.1.1, hk_.1.1.2, hk_.1.2⟩)); have n3_ := Aside0.mk (Kd.R_mono (ok' := fun k_ => some k_ ≠ (v7 : Value).ownBlock ∧ some k_ ≠ (.slice Ao13 t9.length co13 : Value).ownBlock ∧ some k_ ≠ (v14 : Value).ownBlock) (Kd.R_keptB (HO19.out) hkp (fun k_ hk_ hs_ => (hk_.1.2) hs_)) (fun k_ hk_ => ⟨hk_.1.1.1.2, hk_.1.1.2, hk_.1.2⟩)); have n4_ := Aside0.mk (hb); clear HO_4; clear HO_6; clear HO_7; clear HO19; clear HB; have HO_4 := n0_; have HO_6 := n1_; have HO_7 := n2_; have HO19 := n3_; have HB := n4_; clear n0_ n1_ n2_ n3_ n4_; (try clear hb); (try clear hkp); (try clear hy0)))
   (try simp only [Act.put, List.setIfInBounds_toArray, List.set_cons_zero, List.set_cons_succ])
   go_cut [61] (fun v61 wc => ∃ (kq : Nat) (x61_27 : Bool), v61 = .bool x61_27 ∧ Aside0 (laws_FnExactWithFences.j1 kq l0 t5 t6 t12 x61_27 = some r) ∧ Aside0 (kq ≤ kj7) ∧ Aside0 (Kd.R k153 153 wc w.heap.size (fun k_ => some k_ ≠ (v14 : Value).ownBlock) v7 t5) ∧ Aside0 (Kd.R k153 153 wc w.heap.size (fun k_ => some k_ ≠ (v7 : Value).ownBlock) v14 t12) ∧ Aside0 (Below w.heap.size w wc))
   case first =>
    have H := HC28.out
    clear HC28
    by_cases c33 : t21 < 0
    ·rw [if_pos c33] at H
     have c33b0 : decide (t21 < 0) = true := decide_eq_true c33
     clear c33
     (first | rw [c33b0] | (simp only [i64_w, i32_w]; rw [c33b0]) | skip)
     have H' := Aside0.mk H
     clear H
     go_wp2
     go_meet
     case rel => exact ⟨_, (true), sd_, H', ⟨by have := HJ7.out; first | omega | exact Nat.le_refl _⟩, ⟨by (with_reducible repeat (first | apply Kd.R_alloc | apply Kd.R_drewN | apply Kd.R_drew)); exact Kd.R_mono HO_4.out (fun _ hk => hk.2.1)⟩, ⟨by (with_reducible repeat (first | apply Kd.R_alloc | apply Kd.R_drewN | apply Kd.R_drew)); exact Kd.R_mono HO_7.out (fun _ hk => hk.1)⟩, ⟨bw_⟩⟩
    rw [if_neg c33] at H
    have c33b0 : decide (t21 < 0) = false := decide_eq_false c33
    clear c33
    (first | rw [c33b0] | (simp only [i64_w, i32_w]; rw [c33b0]) | skip)
    replace H := Option.bind_eq_some_iff.mp H
    obtain ⟨t23, A340, H⟩ := H
    replace H : (if t23 = true then (laws_FnExactWithFences.j1 kj7 l0 t5 t6 t12 (t13 != t6)) else (laws_FnExactWithFences.j1 kj7 l0 t5 t6 t12 true)) = some r := H
    have A34 := Aside0.mk A340
    clear A340
    by_cases c35 : t23 = true
    ·subst c35
     have H1 : (laws_FnExactWithFences.j1 kj7 l0 t5 t6 t12 (t13 != t6)) = some r := by rw [if_pos rfl] at H; exact H
     clear H
     have H := H1
     clear H1
     have H' := Aside0.mk H
     clear H
     obtain ⟨Ao36, co36, eo36⟩ := Kd.R_slice HO_7.out
     subst eo36
     obtain ⟨Ao37, co37, eo37⟩ := Kd.R_slice HO_4.out
     subst eo37
     go_wp2_with (first | (go_at_call 74; (with_reducible refine (laws_eqInstrS.calls kj7 _ _ t12 _ _ t5 true _ ?side1 ?side2 ?side3 ?side4 A34.out).mono ?_); (case side1 => repeat (first | exact (Kd.R_reads' HO_7.out).2.2 | (with_reducible refine Kd.C_alloc ?_ _) | (with_reducible refine Kd.C_drewN ?_ _) | (with_reducible refine Kd.C_drew ?_))); (case side2 => exact (Kd.R_reads' HO_7.out).2.1); (case side3 => repeat (first | exact (Kd.R_reads' HO_4.out).2.2 | (with_reducible refine Kd.C_alloc ?_ _) | (with_reducible refine Kd.C_drewN ?_ _) | (with_reducible refine Kd.C_drew ?_))); (case side4 => exact (Kd.R_reads' HO_4.out).2.1); rintro e w38 ⟨rfl, hb⟩; have n0_ := Aside0.mk (Kd.R_below (by (with_reducible repeat (first | apply Kd.R_alloc | apply Kd.R_drewN | apply Kd.R_drew)); exact HO_4.out) hb); have n1_ := Aside0.mk (Kd.R_below (by (with_reducible repeat (first | apply Kd.R_alloc | apply Kd.R_drewN | apply Kd.R_drew)); exact HO_6.out) hb); have n2_ := Aside0.mk (Kd.R_below (by (with_reducible repeat (first | apply Kd.R_alloc | apply Kd.R_drewN | apply Kd.R_drew)); exact HO_7.out) hb); have n3_ := Aside0.mk (Kd.R_below (by (with_reducible repeat (first | apply Kd.R_alloc | apply Kd.R_drewN | apply Kd.R_drew)); exact HO19.out) hb); have n4_ := Aside0.mk (below_step bw_ hb); clear HO_4; clear HO_6; clear HO_7; clear HO19; clear HB; have HO_4 := n0_; have HO_6 := n1_; have HO_7 := n2_; have HO19 := n3_; have HB := n4_; clear n0_ n1_ n2_ n3_ n4_; (try clear hb); (try clear hb2); (try clear hk); (try clear hi)))
     go_meet
     case rel => exact ⟨_, ((t13 != t6)), sd_, H', ⟨by have := HJ7.out; first | omega | exact Nat.le_refl _⟩, ⟨by (with_reducible repeat (first | apply Kd.R_alloc | apply Kd.R_drewN | apply Kd.R_drew)); exact Kd.R_mono HO_4.out (fun _ hk => hk.2.1)⟩, ⟨by (with_reducible repeat (first | apply Kd.R_alloc | apply Kd.R_drewN | apply Kd.R_drew)); exact Kd.R_mono HO_7.out (fun _ hk => hk.1)⟩, ⟨bw_⟩⟩
    replace c35 := Bool.eq_false_iff.mpr c35
    subst c35
    have H1 : (laws_FnExactWithFences.j1 kj7 l0 t5 t6 t12 true) = some r := by rw [if_neg (show ¬ (false = true) by decide)] at H; exact H
    clear H
    have H := H1
    clear H1
    have H' := Aside0.mk H
    clear H
    obtain ⟨Ao39, co39, eo39⟩ := Kd.R_slice HO_7.out
    subst eo39
    obtain ⟨Ao40, co40, eo40⟩ := Kd.R_slice HO_4.out
    subst eo40
    go_wp2_with (first | (go_at_call 74; (with_reducible refine (laws_eqInstrS.calls kj7 _ _ t12 _ _ t5 false _ ?side1 ?side2 ?side3 ?side4 A34.out).mono ?_); (case side1 => repeat (first | exact (Kd.R_reads' HO_7.out).2.2 | (with_reducible refine Kd.C_alloc ?_ _) | (with_reducible refine Kd.C_drewN ?_ _) | (with_reducible refine Kd.C_drew ?_))); (case side2 => exact (Kd.R_reads' HO_7.out).2.1); (case side3 => repeat (first | exact (Kd.R_reads' HO_4.out).2.2 | (with_reducible refine Kd.C_alloc ?_ _) | (with_reducible refine Kd.C_drewN ?_ _) | (with_reducible refine Kd.C_drew ?_))); (case side4 => exact (Kd.R_reads' HO_4.out).2.1); rintro e w41 ⟨rfl, hb⟩; have n0_ := Aside0.mk (Kd.R_below (by (with_reducible repeat (first | apply Kd.R_alloc | apply Kd.R_drewN | apply Kd.R_drew)); exact HO_4.out) hb); have n1_ := Aside0.mk (Kd.R_below (by (with_reducible repeat (first | apply Kd.R_alloc | apply Kd.R_drewN | apply Kd.R_drew)); exact HO_6.out) hb); have n2_ := Aside0.mk (Kd.R_below (by (with_reducible repeat (first | apply Kd.R_alloc | apply Kd.R_drewN | apply Kd.R_drew)); exact HO_7.out) hb); have n3_ := Aside0.mk (Kd.R_below (by (with_reducible repeat (first | apply Kd.R_alloc | apply Kd.R_drewN | apply Kd.R_drew)); exact HO19.out) hb); have n4_ := Aside0.mk (below_step bw_ hb); clear HO_4; clear HO_6; clear HO_7; clear HO19; clear HB; have HO_4 := n0_; have HO_6 := n1_; have HO_7 := n2_; have HO19 := n3_; have HB := n4_; clear n0_ n1_ n2_ n3_ n4_; (try clear hb); (try clear hb2); (try clear hk); (try clear hi)))
    go_meet
    case rel => exact ⟨_, (true), sd_, H', ⟨by have := HJ7.out; first | omega | exact Nat.le_refl _⟩, ⟨by (with_reducible repeat (first | apply Kd.R_alloc | apply Kd.R_drewN | apply Kd.R_drew)); exact Kd.R_mono HO_4.out (fun _ hk => hk.2.1)⟩, ⟨by (with_reducible repeat (first | apply Kd.R_alloc | apply Kd.R_drewN | apply Kd.R_drew)); exact Kd.R_mono HO_7.out (fun _ hk => hk.1)⟩, ⟨bw_⟩⟩
   case rest =>
    clear HC28
    try clear c1
    try clear c2
    try clear p2
    try clear c3
    try clear c3b0
    try clear c7
    try clear c8
    try clear c16
    try clear c17
    try clear c23
    try clear c26
    try clear c33
    try clear c33b0
    try clear c35
    try clear p2
    obtain ⟨kq, x61_27, rfl, HA, HJ27, HO_4, HO_7, HB⟩ := hcut
    cases kq with
    | zero => exact absurd HA.out (by simp [laws_FnExactWithFences.j1])
    | succ kj27 =>
     have H := HA.out
     clear HA
     simp only [laws_FnExactWithFences.j1] at H
     by_cases c42 : x61_27 = true
     ·subst c42
      have H1 : (some false) = some r := by rw [if_pos rfl] at H; exact H
      clear H
      have H := H1
      clear H1
      obtain rfl := Option.some.inj H
      go_wp2
      go_ret
      exact ⟨rr_, bw_⟩
     replace c42 := Bool.eq_false_iff.mpr c42
     subst c42
     have H1 : ((laws_markInstrS.f kj27 t12 1).bind fun bt24 => ((laws_heldInstrS.f kj27 bt24.2 1).bind fun t26 => (if t26 < 0 then (some false) else (if t26 = bt24.1 then ((laws_toInstrS.f kj27 l0).bind fun t27 => ((impl_WithFences.f kj27 t27).bind fun bt30 => ((laws_eqInstrS.f kj27 bt30.1 t5).bind fun t34 => (if t34 = true then (laws_FnExactWithFences.j2 kj27 bt24.2 bt24.1 (bt30.2 != t6)) else (laws_FnExactWithFences.j2 kj27 bt24.2 bt24.1 true))))) else (some false))))) = some r := by rw [if_neg (show ¬ (false = true) by decide)] at H; exact H
     clear H
     have H := H1
     clear H1
     replace H := Option.bind_eq_some_iff.mp H
     obtain ⟨⟨t24, t25⟩, A430, H⟩ := H
     replace H : ((laws_heldInstrS.f kj27 t25 1).bind fun t26 => (if t26 < 0 then (some false) else (if t26 = t24 then ((laws_toInstrS.f kj27 l0).bind fun t27 => ((impl_WithFences.f kj27 t27).bind fun bt30 => ((laws_eqInstrS.f kj27 bt30.1 t5).bind fun t34 => (if t34 = true then (laws_FnExactWithFences.j2 kj27 t25 t24 (bt30.2 != t6)) else (laws_FnExactWithFences.j2 kj27 t25 t24 true))))) else (some false)))) = some r := H
     have A43 := Aside0.mk A430
     clear A430
     replace H := Option.bind_eq_some_iff.mp H
     obtain ⟨t26, A440, H⟩ := H
     replace H : (if t26 < 0 then (some false) else (if t26 = t24 then ((laws_toInstrS.f kj27 l0).bind fun t27 => ((impl_WithFences.f kj27 t27).bind fun bt30 => ((laws_eqInstrS.f kj27 bt30.1 t5).bind fun t34 => (if t34 = true then (laws_FnExactWithFences.j2 kj27 t25 t24 (bt30.2 != t6)) else (laws_FnExactWithFences.j2 kj27 t25 t24 true))))) else (some false))) = some r := H
     have A44 := Aside0.mk A440
     clear A440
     by_cases c45 : t26 < 0
     ·rw [if_pos c45] at H
      have c45b0 : decide (t26 < 0) = true := decide_eq_true c45
      clear c45
      obtain rfl := Option.some.inj H
      obtain ⟨Ao46, co46, eo46⟩ := Kd.R_slice HO_7.out
      subst eo46
      go_wp2_with (first | ((with_reducible refine gate_callee (f := 75) rfl ?_); refine goesL_ (some 64) rfl rfl Try.func75 (by kernel_rfl) rfl #[.slice Ao46 t12.length co46, .int .i64 1] rfl ar_ ?_; (with_reducible refine (laws_markInstrS.calls kj27 (fun k_ => some k_ = (.slice Ao46 t12.length co46 : Value).ownBlock) (.slice Ao46 t12.length co46) t12 1 t24 t25 w _ ?side1 ?side2 A43.out).mono ?_); (case side1 => repeat (first | (with_reducible first | exact HB.out | apply below_alloc | apply pw_below_drewN | apply below_drew1) | exact HB.out)); (case side2 => exact Kd.R_tight rfl HO_7.out); rintro e w47 ⟨rfl, hy0, hb, hkp⟩; refine ⟨_, rfl, ?_⟩; have n0_ := Aside0.mk (Kd.R_mono (ok' := fun k_ => some k_ ≠ (.slice Ao46 t12.length co46 : Value).ownBlock) (Kd.R_keptB (HO_4.out) hkp (fun k_ hk_ hs_ => (hk_) hs_)) (fun k_ hk_ => hk_.1)); have n1_ := Aside0.mk (Kd.R_reok rfl hy0 (fun k_ e_ => HO_7.out.1 k_ e_)); have n2_ := Aside0.mk (hb); clear HO_4; clear HO_7; clear HB; have HO_4 := n0_; have HO_7 := n1_; have HB := n2_; clear n0_ n1_ n2_; (try clear hb); (try clear hkp); (try clear hy0)) | ((with_reducible refine gate_callee (f := 83) rfl ?_); refine goesL_ (some 67) rfl rfl Try.func83 (by kernel_rfl) rfl #[.slice Ao46 t25.length co46, .int .i64 1] rfl (by (try simp only [List.map_toArray, List.map_cons, List.map_nil]); first | done | (rw [show t25.length = t12.length from (Kd.R_reads' HO_7.out).1.symm] <;> rfl) | rfl | (simp only [List.length_drop, List.length_take]; rfl)) ?_; (with_reducible refine (laws_heldInstrS.calls kj27 _ _ t25 1 t26 _ ?side1 ?side2 A44.out).mono ?_); (case side1 => repeat (first | exact (Kd.R_reads' HO_7.out).2.2 | (with_reducible refine Kd.C_alloc ?_ _) | (with_reducible refine Kd.C_drewN ?_ _) | (with_reducible refine Kd.C_drew ?_))); (case side2 => rw [show t25.length = t12.length from (Kd.R_reads' HO_7.out).1.symm]; exact (Kd.R_reads' HO_7.out).2.1); rintro e w' ⟨rfl, ⟨nd, rfl⟩⟩; refine ⟨_, rfl, ?_⟩))
      go_ret
      exact ⟨rr_, bw_⟩
     rw [if_neg c45] at H
     have c45b0 : decide (t26 < 0) = false := decide_eq_false c45
     clear c45
     by_cases c48 : t26 = t24
     rotate_left
     ·rw [if_neg c48] at H
      have c48b0 : (t26 == t24) = false := beq_eq_false_iff_ne.mpr c48
      have c48b1 : (t26 != t24) = true := bne_iff_ne.mpr c48
      obtain rfl := Option.some.inj H
      obtain ⟨Ao69, co69, eo69⟩ := Kd.R_slice HO_7.out
      subst eo69
      go_wp2_with (first | ((with_reducible refine gate_callee (f := 75) rfl ?_); refine goesL_ (some 64) rfl rfl Try.func75 (by kernel_rfl) rfl #[.slice Ao69 t12.length co69, .int .i64 1] rfl ar_ ?_; (with_reducible refine (laws_markInstrS.calls kj27 (fun k_ => some k_ = (.slice Ao69 t12.length co69 : Value).ownBlock) (.slice Ao69 t12.length co69) t12 1 t24 t25 w _ ?side1 ?side2 A43.out).mono ?_); (case side1 => repeat (first | (with_reducible first | exact HB.out | apply below_alloc | apply pw_below_drewN | apply below_drew1) | exact HB.out)); (case side2 => exact Kd.R_tight rfl HO_7.out); rintro e w70 ⟨rfl, hy0, hb, hkp⟩; refine ⟨_, rfl, ?_⟩; have n0_ := Aside0.mk (Kd.R_mono (ok' := fun k_ => some k_ ≠ (.slice Ao69 t12.length co69 : Value).ownBlock) (Kd.R_keptB (HO_4.out) hkp (fun k_ hk_ hs_ => (hk_) hs_)) (fun k_ hk_ => hk_.1)); have n1_ := Aside0.mk (Kd.R_reok rfl hy0 (fun k_ e_ => HO_7.out.1 k_ e_)); have n2_ := Aside0.mk (hb); clear HO_4; clear HO_7; clear HB; have HO_4 := n0_; have HO_7 := n1_; have HB := n2_; clear n0_ n1_ n2_; (try clear hb); (try clear hkp); (try clear hy0)) | ((with_reducible refine gate_callee (f := 83) rfl ?_); refine goesL_ (some 67) rfl rfl Try.func83 (by kernel_rfl) rfl #[.slice Ao69 t25.length co69, .int .i64 1] rfl (by (try simp only [List.map_toArray, List.map_cons, List.map_nil]); first | done | (rw [show t25.length = t12.length from (Kd.R_reads' HO_7.out).1.symm] <;> rfl) | rfl | (simp only [List.length_drop, List.length_take]; rfl)) ?_; (with_reducible refine (laws_heldInstrS.calls kj27 _ _ t25 1 t26 _ ?side1 ?side2 A44.out).mono ?_); (case side1 => repeat (first | exact (Kd.R_reads' HO_7.out).2.2 | (with_reducible refine Kd.C_alloc ?_ _) | (with_reducible refine Kd.C_drewN ?_ _) | (with_reducible refine Kd.C_drew ?_))); (case side2 => rw [show t25.length = t12.length from (Kd.R_reads' HO_7.out).1.symm]; exact (Kd.R_reads' HO_7.out).2.1); rintro e w' ⟨rfl, ⟨nd, rfl⟩⟩; refine ⟨_, rfl, ?_⟩))
      go_ret
      exact ⟨rr_, bw_⟩
     rw [if_pos c48] at H
     have c48b0 : (t26 == t24) = true := beq_iff_eq.mpr c48
     have c48b1 : (t26 != t24) = false := bne_eq_false_iff_eq.mpr c48
     clear c48
     replace H := Option.bind_eq_some_iff.mp H
     obtain ⟨t27, A490, H⟩ := H
     replace H : ((impl_WithFences.f kj27 t27).bind fun bt30 => ((laws_eqInstrS.f kj27 bt30.1 t5).bind fun t34 => (if t34 = true then (laws_FnExactWithFences.j2 kj27 t25 t24 (bt30.2 != t6)) else (laws_FnExactWithFences.j2 kj27 t25 t24 true)))) = some r := H
     have A49 := Aside0.mk A490
     clear A490
     replace H := Option.bind_eq_some_iff.mp H
     obtain ⟨⟨t30, t31⟩, A500, H⟩ := H
     replace H : ((laws_eqInstrS.f kj27 t30 t5).bind fun t34 => (if t34 = true then (laws_FnExactWithFences.j2 kj27 t25 t24 (t31 != t6)) else (laws_FnExactWithFences.j2 kj27 t25 t24 true))) = some r := H
     have A50 := Aside0.mk A500
     clear A500
     have HC51 := Aside0.mk H
     clear H
     obtain ⟨Ao52, co52, eo52⟩ := Kd.R_slice HO_7.out
     subst eo52
     go_upto_region 25 with (first | ((with_reducible refine gate_callee (f := 75) rfl ?_); refine goesL_ (some 64) rfl rfl Try.func75 (by kernel_rfl) rfl #[.slice Ao52 t12.length co52, .int .i64 1] rfl ar_ ?_; (with_reducible refine (laws_markInstrS.calls kj27 (fun k_ => some k_ = (.slice Ao52 t12.length co52 : Value).ownBlock) (.slice Ao52 t12.length co52) t12 1 t24 t25 w _ ?side1 ?side2 A43.out).mono ?_); (case side1 => repeat (first | (with_reducible first | exact HB.out | apply below_alloc | apply pw_below_drewN | apply below_drew1) | exact HB.out)); (case side2 => exact Kd.R_tight rfl HO_7.out); rintro e w53 ⟨rfl, hy0, hb, hkp⟩; refine ⟨_, rfl, ?_⟩; have n0_ := Aside0.mk (Kd.R_mono (ok' := fun k_ => some k_ ≠ (.slice Ao52 t12.length co52 : Value).ownBlock) (Kd.R_keptB (HO_4.out) hkp (fun k_ hk_ hs_ => (hk_) hs_)) (fun k_ hk_ => hk_.1)); have n1_ := Aside0.mk (Kd.R_reok rfl hy0 (fun k_ e_ => HO_7.out.1 k_ e_)); have n2_ := Aside0.mk (hb); clear HO_4; clear HO_7; clear HB; have HO_4 := n0_; have HO_7 := n1_; have HB := n2_; clear n0_ n1_ n2_; (try clear hb); (try clear hkp); (try clear hy0)) | ((with_reducible refine gate_callee (f := 83) rfl ?_); refine goesL_ (some 67) rfl rfl Try.func83 (by kernel_rfl) rfl #[.slice Ao52 t25.length co52, .int .i64 1] rfl (by (try simp only [List.map_toArray, List.map_cons, List.map_nil]); first | done | (rw [show t25.length = t12.length from (Kd.R_reads' HO_7.out).1.symm] <;> rfl) | rfl | (simp only [List.length_drop, List.length_take]; rfl)) ?_; (with_reducible refine (laws_heldInstrS.calls kj27 _ _ t25 1 t26 _ ?side1 ?side2 A44.out).mono ?_); (case side1 => repeat (first | exact (Kd.R_reads' HO_7.out).2.2 | (with_reducible refine Kd.C_alloc ?_ _) | (with_reducible refine Kd.C_drewN ?_ _) | (with_reducible refine Kd.C_drew ?_))); (case side2 => rw [show t25.length = t12.length from (Kd.R_reads' HO_7.out).1.symm]; exact (Kd.R_reads' HO_7.out).2.1); rintro e w' ⟨rfl, ⟨nd, rfl⟩⟩; refine ⟨_, rfl, ?_⟩) | ((with_reducible refine gate_callee (f := 72) rfl ?_); refine goesL_ (some 75) rfl rfl Try.func72 (by kernel_rfl) rfl #[.slice A0 l0.length c0] rfl ar_ ?_; (with_reducible refine (laws_toInstrS.calls kj27 _ _ l0 t27 _ ?side1 ?side2 A49.out).mono ?_); (case side1 => repeat (first | exact (Kd.C_below HR0.out bw_) | (with_reducible refine Kd.C_alloc ?_ _) | (with_reducible refine Kd.C_drewN ?_ _) | (with_reducible refine Kd.C_drew ?_))); (case side2 => exact HC0.out); rintro e w54 ⟨v28, rfl, ho0, hb⟩; refine ⟨_, rfl, ?_⟩; have n0_ := Aside0.mk (Kd.R_elder' (by (with_reducible repeat (first | apply Kd.R_alloc | apply Kd.R_drewN | apply Kd.R_drew)); exact HO_4.out) (Kd.R_base ho0) hb); have n1_ := Aside0.mk (Kd.R_elder' (by (with_reducible repeat (first | apply Kd.R_alloc | apply Kd.R_drewN | apply Kd.R_drew)); exact HO_7.out) (Kd.R_base ho0) hb); have n2_ := Aside0.mk (Kd.R_lower (Kd.R_new' (Kd.R_new' ho0 (Kd.R_lt (by (with_reducible repeat (first | apply Kd.R_alloc | apply Kd.R_drewN | apply Kd.R_drew)); exact HO_4.out))) (Kd.R_lt (by (with_reducible repeat (first | apply Kd.R_alloc | apply Kd.R_drewN | apply Kd.R_drew)); exact HO_7.out))) (below_size bw_)); have n3_ := Aside0.mk (below_step bw_ hb); clear HO_4; clear HO_7; clear HB; have HO_4 := n0_; have HO_7 := n1_; have HO29 := n2_; have HB := n3_; clear n0_ n1_ n2_ n3_; (try clear hb); (try clear hb2); (try clear hk); (try clear hi); (try clear ho0); obtain ⟨Ao55, co55, eo55⟩ := Kd.R_slice HO29.out; subst eo55) | ((with_reducible refine gate_callee (f := 82) rfl ?_); refine goesL_ (some 76) rfl rfl Try.func82 (by kernel_rfl) rfl #[.slice Ao55 t27.length co55] rfl ar_ ?_; (with_reducible refine (impl_WithFences.calls kj27 _ _ t27 t30 t31 _ ?side1 ?side2 A50.out).mono ?_); (case side1 => repeat (first | exact (Kd.R_reads' HO29.out).2.2 | (with_reducible refine Kd.C_alloc ?_ _) | (with_reducible refine Kd.C_drewN ?_ _) | (with_reducible refine Kd.C_drew ?_))); (case side2 => exact (Kd.R_reads' HO29.out).2.1); rintro e w56 ⟨v32, rfl, ho0, hb⟩; refine ⟨_, rfl, ?_⟩; have n0_ := Aside0.mk (Kd.R_elder' (by (with_reducible repeat (first | apply Kd.R_alloc | apply Kd.R_drewN | apply Kd.R_drew)); exact HO_4.out) (Kd.R_base ho0) hb); have n1_ := Aside0.mk (Kd.R_elder' (by (with_reducible repeat (first | apply Kd.R_alloc | apply Kd.R_drewN | apply Kd.R_drew)); exact HO_7.out) (Kd.R_base ho0) hb); have n2_ := Aside0.mk (Kd.R_elder' (by (with_reducible repeat (first | apply Kd.R_alloc | apply Kd.R_drewN | apply Kd.R_drew)); exact HO29.out) (Kd.R_base ho0) hb); have n3_ := Aside0.mk (Kd.R_lower (Kd.R_new' (Kd.R_new' (Kd.R_new' ho0 (Kd.R_lt (by (with_reducible repeat (first | apply Kd.R_alloc | apply Kd.R_drewN | apply Kd.R_drew)); exact HO_4.out))) (Kd.R_lt (by (with_reducible repeat (first | apply Kd.R_alloc | apply Kd.R_drewN | apply Kd.R_drew)); exact HO_7.out))) (Kd.R_lt (by (with_reducible repeat (first | apply Kd.R_alloc | apply Kd.R_drewN | apply Kd.R_drew)); exact HO29.out))) (below_size bw_)); have n4_ := Aside0.mk (below_step bw_ hb); clear HO_4; clear HO_7; clear HO29; clear HB; have HO_4 := n0_; have HO_7 := n1_; have HO29 := n2_; have HO33 := n3_; have HB := n4_; clear n0_ n1_ n2_ n3_ n4_; (try clear hb); (try clear hb2); (try clear hk); (try clear hi); (try clear ho0)))
     (try simp only [Act.put, List.setIfInBounds_toArray, List.set_cons_zero, List.set_cons_succ])
     go_cut [87] (fun v87 wc => ∃ (kq : Nat) (x87_50 : Bool), v87 = .bool x87_50 ∧ Aside0 (laws_FnExactWithFences.j2 kq t25 t24 x87_50 = some r) ∧ Aside0 (kq ≤ kj27) ∧ Aside0 (Kd.R k153 153 wc w.heap.size (fun _ => True) (.slice Ao52 t12.length co52) t25) ∧ Aside0 (Below w.heap.size w wc))
     case first =>
      have H := HC51.out
      clear HC51
      replace H := Option.bind_eq_some_iff.mp H
      obtain ⟨t34, A570, H⟩ := H
      replace H : (if t34 = true then (laws_FnExactWithFences.j2 kj27 t25 t24 (t31 != t6)) else (laws_FnExactWithFences.j2 kj27 t25 t24 true)) = some r := H
      have A57 := Aside0.mk A570
      clear A570
      by_cases c58 : t34 = true
      ·subst c58
       have H1 : (laws_FnExactWithFences.j2 kj27 t25 t24 (t31 != t6)) = some r := by rw [if_pos rfl] at H; exact H
       clear H
       have H := H1
       clear H1
       have H' := Aside0.mk H
       clear H
       obtain ⟨Ao59, co59, eo59⟩ := Kd.R_slice HO33.out
       subst eo59
       obtain ⟨Ao60, co60, eo60⟩ := Kd.R_slice HO_4.out
       subst eo60
       go_wp2_with (first | ((with_reducible refine gate_callee (f := 74) rfl ?_); refine goesL_ (some 81) rfl rfl Try.func74 (by kernel_rfl) rfl #[.slice Ao59 t30.length co59, .slice Ao60 t5.length co60] rfl ar_ ?_; (with_reducible refine (laws_eqInstrS.calls kj27 _ _ t30 _ _ t5 true _ ?side1 ?side2 ?side3 ?side4 A57.out).mono ?_); (case side1 => repeat (first | exact (Kd.R_reads' HO33.out).2.2 | (with_reducible refine Kd.C_alloc ?_ _) | (with_reducible refine Kd.C_drewN ?_ _) | (with_reducible refine Kd.C_drew ?_))); (case side2 => exact (Kd.R_reads' HO33.out).2.1); (case side3 => repeat (first | exact (Kd.R_reads' HO_4.out).2.2 | (with_reducible refine Kd.C_alloc ?_ _) | (with_reducible refine Kd.C_drewN ?_ _) | (with_reducible refine Kd.C_drew ?_))); (case side4 => exact (Kd.R_reads' HO_4.out).2.1); rintro e w61 ⟨rfl, hb⟩; refine ⟨_, rfl, ?_⟩; have n0_ := Aside0.mk (Kd.R_below (by (with_reducible repeat (first | apply Kd.R_alloc | apply Kd.R_drewN | apply Kd.R_drew)); exact HO_4.out) hb); have n1_ := Aside0.mk (Kd.R_below (by (with_reducible repeat (first | apply Kd.R_alloc | apply Kd.R_drewN | apply Kd.R_drew)); exact HO_7.out) hb); have n2_ := Aside0.mk (Kd.R_below (by (with_reducible repeat (first | apply Kd.R_alloc | apply Kd.R_drewN | apply Kd.R_drew)); exact HO29.out) hb); have n3_ := Aside0.mk (Kd.R_below (by (with_reducible repeat (first | apply Kd.R_alloc | apply Kd.R_drewN | apply Kd.R_drew)); exact HO33.out) hb); have n4_ := Aside0.mk (below_step bw_ hb); clear HO_4; clear HO_7; clear HO29; clear HO33; clear HB; have HO_4 := n0_; have HO_7 := n1_; have HO29 := n2_; have HO33 := n3_; have HB := n4_; clear n0_ n1_ n2_ n3_ n4_; (try clear hb); (try clear hb2); (try clear hk); (try clear hi)))
       go_meet
       case rel => exact ⟨_, ((t31 != t6)), sd_, H', ⟨by have := HJ7.out; have := HJ27.out; first | omega | exact Nat.le_refl _⟩, ⟨by (with_reducible repeat (first | apply Kd.R_alloc | apply Kd.R_drewN | apply Kd.R_drew)); exact Kd.R_mono HO_7.out (fun _ hk => trivial)⟩, ⟨bw_⟩⟩
      replace c58 := Bool.eq_false_iff.mpr c58
      subst c58
      have H1 : (laws_FnExactWithFences.j2 kj27 t25 t24 true) = some r := by rw [if_neg (show ¬ (false = true) by decide)] at H; exact H
      clear H
      have H := H1
      clear H1
      have H' := Aside0.mk H
      clear H
      obtain ⟨Ao62, co62, eo62⟩ := Kd.R_slice HO33.out
      subst eo62
      obtain ⟨Ao63, co63, eo63⟩ := Kd.R_slice HO_4.out
      subst eo63
      go_wp2_with (first | ((with_reducible refine gate_callee (f := 74) rfl ?_); refine goesL_ (some 81) rfl rfl Try.func74 (by kernel_rfl) rfl #[.slice Ao62 t30.length co62, .slice Ao63 t5.length co63] rfl ar_ ?_; (with_reducible refine (laws_eqInstrS.calls kj27 _ _ t30 _ _ t5 false _ ?side1 ?side2 ?side3 ?side4 A57.out).mono ?_); (case side1 => repeat (first | exact (Kd.R_reads' HO33.out).2.2 | (with_reducible refine Kd.C_alloc ?_ _) | (with_reducible refine Kd.C_drewN ?_ _) | (with_reducible refine Kd.C_drew ?_))); (case side2 => exact (Kd.R_reads' HO33.out).2.1); (case side3 => repeat (first | exact (Kd.R_reads' HO_4.out).2.2 | (with_reducible refine Kd.C_alloc ?_ _) | (with_reducible refine Kd.C_drewN ?_ _) | (with_reducible refine Kd.C_drew ?_))); (case side4 => exact (Kd.R_reads' HO_4.out).2.1); rintro e w64 ⟨rfl, hb⟩; refine ⟨_, rfl, ?_⟩; have n0_ := Aside0.mk (Kd.R_below (by (with_reducible repeat (first | apply Kd.R_alloc | apply Kd.R_drewN | apply Kd.R_drew)); exact HO_4.out) hb); have n1_ := Aside0.mk (Kd.R_below (by (with_reducible repeat (first | apply Kd.R_alloc | apply Kd.R_drewN | apply Kd.R_drew)); exact HO_7.out) hb); have n2_ := Aside0.mk (Kd.R_below (by (with_reducible repeat (first | apply Kd.R_alloc | apply Kd.R_drewN | apply Kd.R_drew)); exact HO29.out) hb); have n3_ := Aside0.mk (Kd.R_below (by (with_reducible repeat (first | apply Kd.R_alloc | apply Kd.R_drewN | apply Kd.R_drew)); exact HO33.out) hb); have n4_ := Aside0.mk (below_step bw_ hb); clear HO_4; clear HO_7; clear HO29; clear HO33; clear HB; have HO_4 := n0_; have HO_7 := n1_; have HO29 := n2_; have HO33 := n3_; have HB := n4_; clear n0_ n1_ n2_ n3_ n4_; (try clear hb); (try clear hb2); (try clear hk); (try clear hi)))
      go_meet
      case rel => exact ⟨_, (true), sd_, H', ⟨by have := HJ7.out; have := HJ27.out; first | omega | exact Nat.le_refl _⟩, ⟨by (with_reducible repeat (first | apply Kd.R_alloc | apply Kd.R_drewN | apply Kd.R_drew)); exact Kd.R_mono HO_7.out (fun _ hk => trivial)⟩, ⟨bw_⟩⟩
     case rest =>
      clear HC51
      try clear c1
      try clear c2
      try clear p2
      try clear c3
      try clear c3b0
      try clear c4
      try clear c5
      try clear c7
      try clear c8
      try clear c16
      try clear c17
      try clear c23
      try clear c26
      try clear c33
      try clear c33b0
      try clear c35
      try clear c42
      try clear c45
      try clear c45b0
      try clear c48
      try clear c48b0
      try clear c48b1
      try clear c58
      try clear p2
      obtain ⟨kq, x87_50, rfl, HA, HJ50, HO_7, HB⟩ := hcut
      have hl7_50 := (Kd.R_reads' HO_7.out).1
      rw [hl7_50] at HO_7
      (try simp only [hl7_50])
      cases kq with
      | zero => exact absurd HA.out (by simp [laws_FnExactWithFences.j2])
      | succ kj50 =>
       have H := HA.out
       clear HA
       simp only [laws_FnExactWithFences.j2] at H
       by_cases c65 : x87_50 = true
       ·subst c65
        have H1 : (some false) = some r := by rw [if_pos rfl] at H; exact H
        clear H
        have H := H1
        clear H1
        obtain rfl := Option.some.inj H
        go_wp2
        go_ret
        exact ⟨rr_, bw_⟩
       replace c65 := Bool.eq_false_iff.mpr c65
       subst c65
       have H1 : ((laws_heldInstrS.f kj50 t25 1).bind fun t35 => (if t35 < 0 then (some false) else (if t35 = t24 then (some true) else (some false)))) = some r := by rw [if_neg (show ¬ (false = true) by decide)] at H; exact H
       clear H
       have H := H1
       clear H1
       replace H := Option.bind_eq_some_iff.mp H
       obtain ⟨t35, A660, H⟩ := H
       replace H : (if t35 < 0 then (some false) else (if t35 = t24 then (some true) else (some false))) = some r := H
       have A66 := Aside0.mk A660
       clear A660
       by_cases c67 : t35 < 0
       ·rw [if_pos c67] at H
        have c67b0 : decide (t35 < 0) = true := decide_eq_true c67
        clear c67
        obtain rfl := Option.some.inj H
        go_wp2_with (first | ((with_reducible refine gate_callee (f := 83) rfl ?_); refine goesL_ (some 90) rfl rfl Try.func83 (by kernel_rfl) rfl #[.slice Ao52 t25.length co52, .int .i64 1] rfl ar_ ?_; (with_reducible refine (laws_heldInstrS.calls kj50 _ _ t25 1 t35 _ ?side1 ?side2 A66.out).mono ?_); (case side1 => repeat (first | exact (Kd.R_reads' HO_7.out).2.2 | (with_reducible refine Kd.C_alloc ?_ _) | (with_reducible refine Kd.C_drewN ?_ _) | (with_reducible refine Kd.C_drew ?_))); (case side2 => exact (Kd.R_reads' HO_7.out).2.1); rintro e w' ⟨rfl, ⟨nd, rfl⟩⟩; refine ⟨_, rfl, ?_⟩))
        go_ret
        exact ⟨rr_, bw_⟩
       rw [if_neg c67] at H
       have c67b0 : decide (t35 < 0) = false := decide_eq_false c67
       clear c67
       by_cases c68 : t35 = t24
       rotate_left
       ·rw [if_neg c68] at H
        have c68b0 : (t35 == t24) = false := beq_eq_false_iff_ne.mpr c68
        have c68b1 : (t35 != t24) = true := bne_iff_ne.mpr c68
        obtain rfl := Option.some.inj H
        go_wp2_with (first | ((with_reducible refine gate_callee (f := 83) rfl ?_); refine goesL_ (some 90) rfl rfl Try.func83 (by kernel_rfl) rfl #[.slice Ao52 t25.length co52, .int .i64 1] rfl ar_ ?_; (with_reducible refine (laws_heldInstrS.calls kj50 _ _ t25 1 t35 _ ?side1 ?side2 A66.out).mono ?_); (case side1 => repeat (first | exact (Kd.R_reads' HO_7.out).2.2 | (with_reducible refine Kd.C_alloc ?_ _) | (with_reducible refine Kd.C_drewN ?_ _) | (with_reducible refine Kd.C_drew ?_))); (case side2 => exact (Kd.R_reads' HO_7.out).2.1); rintro e w' ⟨rfl, ⟨nd, rfl⟩⟩; refine ⟨_, rfl, ?_⟩))
        go_ret
        exact ⟨rr_, bw_⟩
       rw [if_pos c68] at H
       have c68b0 : (t35 == t24) = true := beq_iff_eq.mpr c68
       have c68b1 : (t35 != t24) = false := bne_eq_false_iff_eq.mpr c68
       clear c68
       obtain rfl := Option.some.inj H
       go_wp2_with (first | ((with_reducible refine gate_callee (f := 83) rfl ?_); refine goesL_ (some 90) rfl rfl Try.func83 (by kernel_rfl) rfl #[.slice Ao52 t25.length co52, .int .i64 1] rfl ar_ ?_; (with_reducible refine (laws_heldInstrS.calls kj50 _ _ t25 1 t35 _ ?side1 ?side2 A66.out).mono ?_); (case side1 => repeat (first | exact (Kd.R_reads' HO_7.out).2.2 | (with_reducible refine Kd.C_alloc ?_ _) | (with_reducible refine Kd.C_drewN ?_ _) | (with_reducible refine Kd.C_drew ?_))); (case side2 => exact (Kd.R_reads' HO_7.out).2.1); rintro e w' ⟨rfl, ⟨nd, rfl⟩⟩; refine ⟨_, rfl, ?_⟩))
       go_ret
       exact ⟨rr_, bw_⟩

end Go.Proofs.Ytpcfcdnmpginhaa.P
