-- Written by mp.py (the session's own driver over the kit's printer) for the seat YtchpopocnaoabaaDoor.
import Derived.Test.YtchpopocnaoabaaDoorK
import Derived.Test.YtchpopocnaoabaaDoorPimplBufText
import Derived.Test.YtchpopocnaoabaaDoorPlawseqSlotS
import Derived.Test.YtchpopocnaoabaaDoorPlawsszSlotS
import Derived.Test.YtchpopocnaoabaaDoorPspecBufText
import Derived.Test.YtchpopocnaoabaaDoorEnv
namespace Go.Proofs.YtchpopocnaoabaaDoor.P
open Go.RowKit Go.Proofs.YtchpopocnaoabaaDoorW.PrintWords Go.Proofs.YtchpopocnaoabaaDoorW.PrintLast Go.Proofs.YtchpopocnaoabaaDoorW.PrintMore
attribute [local go_sem] max2_int min2_int max_two min_two max_three min_three max_four min_four
set_option linter.unusedVariables false
set_option linter.unusedSimpArgs false

/-! ### laws_FnExactBufText: function 6 -/
def laws_FnExactBufText.f (k : Nat) (l0 : List (S121)) : Option (Bool) := (laws_szSlotS.f l0 1048576).bind fun t1 => (if t1 < 0 then (some true) else ((laws_toSlotS.f k l0).bind fun t2 => ((spec_BufText.f k t2).bind fun t5 => ((laws_toSlotS.f k l0).bind fun t6 => ((impl_BufText.f k t6).bind fun t9 => (if t9.toList = t5.toList then ((laws_toSlotS.f k l0).bind fun t10 => ((laws_eqSlotS.f k t6 t10).bind fun t13 => (if t13 = true then (some true) else (some false)))) else (some false)))))))
theorem laws_FnExactBufText.mono : ∀ a0 k, LeO (laws_FnExactBufText.f k a0) (laws_FnExactBufText.f (k + 1) a0) := by
 intro a0 k
 unfold laws_FnExactBufText.f
 repeat' first | (with_reducible first | exact impl_BufText.mono _ _ | exact laws_eqSlotS.mono _ _ _ | exact laws_toSlotS.mono _ _ | exact spec_BufText.mono _ _ | exact lr_ | exact ln_ | refine LeO.ite ?_ ?_ | refine LeO.bind ?_ (fun _ => ?_)) | exact impl_BufText.mono _ _ | exact laws_eqSlotS.mono _ _ _ | exact laws_toSlotS.mono _ _ | exact spec_BufText.mono _ _ | exact ln_ | refine LeO.ite ?_ ?_ | refine LeO.bind ?_ (fun _ => ?_)
set_option maxHeartbeats 8000000 in
set_option maxRecDepth 100000 in
theorem laws_FnExactBufText.calls (k : Nat) (A0 : Option Addr) (c0 : Nat) (l0 : List (S121)) (r : Bool) (w : World) (hE_ : EnvOk false w) (hr0 : Kd.C k121 w A0 l0.length l0) (hc0 : l0.length ≤ c0) (h : laws_FnExactBufText.f k l0 = some r) (hr_ : r = true) :
  Calls Tryd.prog 6 #[.slice A0 l0.length c0] w fun e w' => e = .returned (.bool r) ∧ Below w.heap.size w w' := by
 have HE_ := Aside0.mk hE_
 clear hE_
 have HR0 := Aside0.mk hr0
 have HC0 := Aside0.mk hc0
 clear hr0 hc0
 have HB := Aside0.mk (Below.refl w.heap.size w)
 have H : ((laws_szSlotS.f l0 1048576).bind fun t1 => (if t1 < 0 then (some true) else ((laws_toSlotS.f k l0).bind fun t2 => ((spec_BufText.f k t2).bind fun t5 => ((laws_toSlotS.f k l0).bind fun t6 => ((impl_BufText.f k t6).bind fun t9 => (if t9.toList = t5.toList then ((laws_toSlotS.f k l0).bind fun t10 => ((laws_eqSlotS.f k t6 t10).bind fun t13 => (if t13 = true then (some true) else (some false)))) else (some false)))))))) = some r := h
 clear h
 replace H := Option.bind_eq_some_iff.mp H
 obtain ⟨t1, A20, H⟩ := H
 replace H : (if t1 < 0 then (some true) else ((laws_toSlotS.f k l0).bind fun t2 => ((spec_BufText.f k t2).bind fun t5 => ((laws_toSlotS.f k l0).bind fun t6 => ((impl_BufText.f k t6).bind fun t9 => (if t9.toList = t5.toList then ((laws_toSlotS.f k l0).bind fun t10 => ((laws_eqSlotS.f k t6 t10).bind fun t13 => (if t13 = true then (some true) else (some false)))) else (some false))))))) = some r := H
 have A2 := Aside0.mk A20
 clear A20
 by_cases c3 : t1 < 0
 ·rw [if_pos c3] at H
  have c3b0 : decide (t1 < 0) = true := decide_eq_true c3
  clear c3
  obtain rfl := Option.some.inj H
  clear hr_
  go_enter Tryd.func6, Tryd.ntmps6
  go_wp2_with (first | ((with_reducible refine gate_callee (f := 32) rfl ?_); refine goesL_ (some 9) rfl rfl Tryd.func32 (by kernel_rfl) rfl #[.slice A0 l0.length c0, .int .i64 1048576] rfl ar_ ?_; (with_reducible refine (laws_szSlotS.calls _ _ l0 1048576 t1 _ ?side1 ?side2 A2.out).mono ?_); (case side1 => repeat (first | exact HR0.out | (with_reducible refine Kd.C_alloc ?_ _) | (with_reducible refine Kd.C_drewN ?_ _) | (with_reducible refine Kd.C_drew ?_))); (case side2 => exact HC0.out); rintro e w' ⟨rfl, ⟨nd, rfl⟩⟩; refine ⟨_, rfl, ?_⟩))
  go_ret
  exact ⟨rr_, bw_⟩
 rw [if_neg c3] at H
 have c3b0 : decide (t1 < 0) = false := decide_eq_false c3
 clear c3
 replace H := Option.bind_eq_some_iff.mp H
 obtain ⟨t2, A40, H⟩ := H
 replace H : ((spec_BufText.f k t2).bind fun t5 => ((laws_toSlotS.f k l0).bind fun t6 => ((impl_BufText.f k t6).bind fun t9 => (if t9.toList = t5.toList then ((laws_toSlotS.f k l0).bind fun t10 => ((laws_eqSlotS.f k t6 t10).bind fun t13 => (if t13 = true then (some true) else (some false)))) else (some false))))) = some r := H
 have A4 := Aside0.mk A40
 clear A40
 replace H := Option.bind_eq_some_iff.mp H
 obtain ⟨t5, A50, H⟩ := H
 replace H : ((laws_toSlotS.f k l0).bind fun t6 => ((impl_BufText.f k t6).bind fun t9 => (if t9.toList = t5.toList then ((laws_toSlotS.f k l0).bind fun t10 => ((laws_eqSlotS.f k t6 t10).bind fun t13 => (if t13 = true then (some true) else (some false)))) else (some false)))) = some r := H
 have A5 := Aside0.mk A50
 clear A50
 replace H := Option.bind_eq_some_iff.mp H
 obtain ⟨t6, A60, H⟩ := H
 replace H : ((impl_BufText.f k t6).bind fun t9 => (if t9.toList = t5.toList then ((laws_toSlotS.f k l0).bind fun t10 => ((laws_eqSlotS.f k t6 t10).bind fun t13 => (if t13 = true then (some true) else (some false)))) else (some false))) = some r := H
 have A6 := Aside0.mk A60
 clear A60
 replace H := Option.bind_eq_some_iff.mp H
 obtain ⟨t9, A70, H⟩ := H
 replace H : (if t9.toList = t5.toList then ((laws_toSlotS.f k l0).bind fun t10 => ((laws_eqSlotS.f k t6 t10).bind fun t13 => (if t13 = true then (some true) else (some false)))) else (some false)) = some r := H
 have A7 := Aside0.mk A70
 clear A70
 by_cases c8 : t9.toList = t5.toList
 rotate_left
 ·rw [if_neg c8] at H
  have c8b0 : (t9.toList == t5.toList) = false := beq_eq_false_iff_ne.mpr c8
  have c8b1 : (t9.toList != t5.toList) = true := bne_iff_ne.mpr c8
  obtain rfl := Option.some.inj H
  exact absurd hr_ (by decide)
 rw [if_pos c8] at H
 have c8b0 : (t9.toList == t5.toList) = true := beq_iff_eq.mpr c8
 have c8b1 : (t9.toList != t5.toList) = false := bne_eq_false_iff_eq.mpr c8
 clear c8
 replace H := Option.bind_eq_some_iff.mp H
 obtain ⟨t10, A90, H⟩ := H
 replace H : ((laws_eqSlotS.f k t6 t10).bind fun t13 => (if t13 = true then (some true) else (some false))) = some r := H
 have A9 := Aside0.mk A90
 clear A90
 replace H := Option.bind_eq_some_iff.mp H
 obtain ⟨t13, A100, H⟩ := H
 replace H : (if t13 = true then (some true) else (some false)) = some r := H
 have A10 := Aside0.mk A100
 clear A100
 by_cases c11 : t13 = true
 rotate_left
 ·replace c11 := Bool.eq_false_iff.mpr c11
  subst c11
  have H1 : (some false) = some r := by rw [if_neg (show ¬ (false = true) by decide)] at H; exact H
  clear H
  have H := H1
  clear H1
  obtain rfl := Option.some.inj H
  exact absurd hr_ (by decide)
 subst c11
 have H1 : (some true) = some r := by rw [if_pos rfl] at H; exact H
 clear H
 have H := H1
 clear H1
 obtain rfl := Option.some.inj H
 clear hr_
 go_enter Tryd.func6, Tryd.ntmps6
 go_wp2_with (first | ((with_reducible refine gate_callee (f := 32) rfl ?_); refine goesL_ (some 9) rfl rfl Tryd.func32 (by kernel_rfl) rfl #[.slice A0 l0.length c0, .int .i64 1048576] rfl ar_ ?_; (with_reducible refine (laws_szSlotS.calls _ _ l0 1048576 t1 _ ?side1 ?side2 A2.out).mono ?_); (case side1 => repeat (first | exact HR0.out | (with_reducible refine Kd.C_alloc ?_ _) | (with_reducible refine Kd.C_drewN ?_ _) | (with_reducible refine Kd.C_drew ?_))); (case side2 => exact HC0.out); rintro e w' ⟨rfl, ⟨nd, rfl⟩⟩; refine ⟨_, rfl, ?_⟩) | ((with_reducible refine gate_callee (f := 34) rfl ?_); refine goesL_ (some 13) rfl rfl Tryd.func34 (by kernel_rfl) rfl #[.slice A0 l0.length c0] rfl ar_ ?_; (with_reducible refine (laws_toSlotS.calls k _ _ l0 t2 _ ?side1 ?side2 A4.out).mono ?_); (case side1 => repeat (first | exact HR0.out | (with_reducible refine Kd.C_alloc ?_ _) | (with_reducible refine Kd.C_drewN ?_ _) | (with_reducible refine Kd.C_drew ?_))); (case side2 => exact HC0.out); rintro e w12 ⟨v3, rfl, ho0, hb⟩; refine ⟨_, rfl, ?_⟩; have n0_ := Aside0.mk (Kd.R_lower ho0 (below_size bw_)); have n1_ := bs_ hb; clear HB; have HO4 := n0_; have HB := n1_; clear n0_ n1_; (try clear hb); (try clear hb2); (try clear hk); (try clear hi); (try clear ho0); obtain ⟨Ao13, co13, eo13⟩ := Kd.R_slice HO4.out; subst eo13) | ((with_reducible refine gate_callee (f := 33) rfl ?_); refine goesL_ (some 14) rfl rfl Tryd.func33 (by kernel_rfl) rfl #[.slice Ao13 t2.length co13] rfl ar_ ?_; (with_reducible refine (spec_BufText.calls k _ _ t2 t5 _ ?side1 ?side2 A5.out).mono ?_); (case side1 => repeat (first | exact (Kd.R_reads' HO4.out).2.2 | (with_reducible refine Kd.C_alloc ?_ _) | (with_reducible refine Kd.C_drewN ?_ _) | (with_reducible refine Kd.C_drew ?_))); (case side2 => exact (Kd.R_reads' HO4.out).2.1); rintro e w14 ⟨rfl, hb⟩; refine ⟨_, rfl, ?_⟩; have n0_ := Aside0.mk (Kd.R_below (rx_ HO4.out) hb); have n1_ := bs_ hb; clear HO4; clear HB; have HO4 := n0_; have HB := n1_; clear n0_ n1_; (try clear hb); (try clear hb2); (try clear hk); (try clear hi)) | ((with_reducible refine gate_callee (f := 34) rfl ?_); refine goesL_ (some 16) rfl rfl Tryd.func34 (by kernel_rfl) rfl #[.slice A0 l0.length c0] rfl ar_ ?_; (with_reducible refine (laws_toSlotS.calls k _ _ l0 t6 _ ?side1 ?side2 A6.out).mono ?_); (case side1 => exact cb_); (case side2 => exact HC0.out); rintro e w15 ⟨v7, rfl, ho0, hb⟩; refine ⟨_, rfl, ?_⟩; have n0_ := Aside0.mk (Kd.R_elder' (rx_ HO4.out) (Kd.R_base ho0) hb); have n1_ := Aside0.mk (Kd.R_lower (Kd.R_new' ho0 (Kd.R_lt (rx_ HO4.out))) (below_size bw_)); have n2_ := bs_ hb; clear HO4; clear HB; have HO4 := n0_; have HO8 := n1_; have HB := n2_; clear n0_ n1_ n2_; (try clear hb); (try clear hb2); (try clear hk); (try clear hi); (try clear ho0); obtain ⟨Ao16, co16, eo16⟩ := Kd.R_slice HO8.out; subst eo16) | ((with_reducible refine gate_callee (f := 35) rfl ?_); refine goesL_ (some 18) rfl rfl Tryd.func35 (by kernel_rfl) rfl #[.slice Ao16 t6.length co16] rfl ar_ ?_; (with_reducible refine (impl_BufText.calls (hE_ := ee_) k _ _ t6 t9 _ ?side1 ?side2 A7.out).mono ?_); (case side1 => repeat (first | exact (Kd.R_reads' HO8.out).2.2 | (with_reducible refine Kd.C_alloc ?_ _) | (with_reducible refine Kd.C_drewN ?_ _) | (with_reducible refine Kd.C_drew ?_))); (case side2 => exact (Kd.R_reads' HO8.out).2.1); rintro e w17 ⟨rfl, hb⟩; refine ⟨_, rfl, ?_⟩; have n0_ := Aside0.mk (Kd.R_below (rx_ HO4.out) hb); have n1_ := Aside0.mk (Kd.R_below (rx_ HO8.out) hb); have n2_ := bs_ hb; clear HO4; clear HO8; clear HB; have HO4 := n0_; have HO8 := n1_; have HB := n2_; clear n0_ n1_ n2_; (try clear hb); (try clear hb2); (try clear hk); (try clear hi)) | ((with_reducible refine gate_callee (f := 34) rfl ?_); refine goesL_ (some 24) rfl rfl Tryd.func34 (by kernel_rfl) rfl #[.slice A0 l0.length c0] rfl ar_ ?_; (with_reducible refine (laws_toSlotS.calls k _ _ l0 t10 _ ?side1 ?side2 A9.out).mono ?_); (case side1 => exact cb_); (case side2 => exact HC0.out); rintro e w18 ⟨v11, rfl, ho0, hb⟩; refine ⟨_, rfl, ?_⟩; have n0_ := Aside0.mk (Kd.R_elder' (rx_ HO4.out) (Kd.R_base ho0) hb); have n1_ := Aside0.mk (Kd.R_elder' (rx_ HO8.out) (Kd.R_base ho0) hb); have n2_ := Aside0.mk (Kd.R_lower (Kd.R_new' (Kd.R_new' ho0 (Kd.R_lt (rx_ HO4.out))) (Kd.R_lt (rx_ HO8.out))) (below_size bw_)); have n3_ := bs_ hb; clear HO4; clear HO8; clear HB; have HO4 := n0_; have HO8 := n1_; have HO12 := n2_; have HB := n3_; clear n0_ n1_ n2_ n3_; (try clear hb); (try clear hb2); (try clear hk); (try clear hi); (try clear ho0); obtain ⟨Ao19, co19, eo19⟩ := Kd.R_slice HO12.out; subst eo19) | ((with_reducible refine gate_callee (f := 36) rfl ?_); refine goesL_ (some 25) rfl rfl Tryd.func36 (by kernel_rfl) rfl #[.slice Ao16 t6.length co16, .slice Ao19 t10.length co19] rfl ar_ ?_; (with_reducible refine (laws_eqSlotS.calls k _ _ t6 _ _ t10 true _ ?side1 ?side2 ?side3 ?side4 A10.out).mono ?_); (case side1 => repeat (first | exact (Kd.R_reads' HO8.out).2.2 | (with_reducible refine Kd.C_alloc ?_ _) | (with_reducible refine Kd.C_drewN ?_ _) | (with_reducible refine Kd.C_drew ?_))); (case side2 => exact (Kd.R_reads' HO8.out).2.1); (case side3 => repeat (first | exact (Kd.R_reads' HO12.out).2.2 | (with_reducible refine Kd.C_alloc ?_ _) | (with_reducible refine Kd.C_drewN ?_ _) | (with_reducible refine Kd.C_drew ?_))); (case side4 => exact (Kd.R_reads' HO12.out).2.1); rintro e w20 ⟨rfl, hb⟩; refine ⟨_, rfl, ?_⟩; have n0_ := Aside0.mk (Kd.R_below (rx_ HO4.out) hb); have n1_ := Aside0.mk (Kd.R_below (rx_ HO8.out) hb); have n2_ := Aside0.mk (Kd.R_below (rx_ HO12.out) hb); have n3_ := bs_ hb; clear HO4; clear HO8; clear HO12; clear HB; have HO4 := n0_; have HO8 := n1_; have HO12 := n2_; have HB := n3_; clear n0_ n1_ n2_ n3_; (try clear hb); (try clear hb2); (try clear hk); (try clear hi)))
 go_ret
 exact ⟨rr_, bw_⟩

end Go.Proofs.YtchpopocnaoabaaDoor.P
