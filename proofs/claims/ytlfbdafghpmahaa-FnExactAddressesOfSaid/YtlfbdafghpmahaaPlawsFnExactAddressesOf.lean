-- Written by mp.py (the session's own driver over the kit's printer) for the seat Ytlfbdafghpmahaa.
import Derived.Test.YtlfbdafghpmahaaV2
import Derived.Test.YtlfbdafghpmahaaK
import Derived.Test.YtlfbdafghpmahaaE
import Derived.Test.YtlfbdafghpmahaaPimplAddressesOf
import Derived.Test.YtlfbdafghpmahaaPlawseqInstrS
import Derived.Test.YtlfbdafghpmahaaPlawseqIntS
import Derived.Test.YtlfbdafghpmahaaPlawsheldIntS
import Derived.Test.YtlfbdafghpmahaaPlawsszInstrS
import Derived.Test.YtlfbdafghpmahaaPspecAddressesOf
namespace Go.Proofs.Ytlfbdafghpmahaa.P
open Go.RowKit Go.Proofs.YtlfbdafghpmahaaW.PrintWords Go.Proofs.YtlfbdafghpmahaaW.PrintLast Go.Proofs.YtlfbdafghpmahaaW.PrintMore
attribute [local go_sem] max2_int min2_int max_two min_two max_three min_three max_four min_four
set_option linter.unusedVariables false
set_option linter.unusedSimpArgs false

/-! ### laws_FnExactAddressesOf: function 3 -/
def laws_FnExactAddressesOf.j0 : Nat → List (S84) → List Int → List Int → Bool → Option (Bool)
 | 0, _, _, _, _ => none
 | k + 1, x0, x4, x6, x42 => if x42 = true then (some false) else ((laws_markIntS.f k x6 1).bind fun bt22 => ((laws_heldIntS.f k bt22.2 1).bind fun t24 => (if t24 < 0 then (some false) else (if t24 = bt22.1 then ((laws_toInstrS.f k x0).bind fun t25 => ((impl_AddressesOf.f k t25).bind fun t28 => ((laws_eqIntS.f k t28 x4).bind fun t31 => (if t31 = true then ((laws_heldIntS.f k bt22.2 1).bind fun t32 => (if t32 < 0 then (some false) else (if t32 = bt22.1 then (some true) else (some false)))) else (some false))))) else (some false)))))
def laws_FnExactAddressesOf.f (k : Nat) (l0 : List (S84)) : Option (Bool) := (laws_szInstrS.f l0 1048576).bind fun t1 => (if t1 < 0 then (some true) else ((laws_toInstrS.f k l0).bind fun t2 => ((spec_AddressesOf.f k t2).bind fun t5 => ((laws_toInstrS.f k l0).bind fun t8 => ((impl_AddressesOf.f k t8).bind fun t11 => ((laws_eqIntS.f k t11 t5).bind fun t14 => (if t14 = true then ((laws_toInstrS.f k l0).bind fun t15 => ((laws_eqInstrS.f k t8 t15).bind fun t18 => (if t18 = true then ((laws_markInstrS.f k t8 1).bind fun bt19 => (if bt19.1 < 0 then (laws_FnExactAddressesOf.j0 k l0 t5 t11 true) else ((laws_eqIntS.f k t11 t5).bind fun t21 => (laws_FnExactAddressesOf.j0 k l0 t5 t11 (!t21))))) else (some false)))) else (some false))))))))
theorem laws_FnExactAddressesOf.mono_l : ∀ k, (∀ y0 y1 y2 y3, LeO (laws_FnExactAddressesOf.j0 k y0 y1 y2 y3) (laws_FnExactAddressesOf.j0 (k + 1) y0 y1 y2 y3))
 | 0 => fun _ _ _ _ r h => by simp [laws_FnExactAddressesOf.j0] at h
 | k + 1 => by
  have ih0 := laws_FnExactAddressesOf.mono_l k
  ·intro y0 y1 y2 y3
   unfold laws_FnExactAddressesOf.j0
   repeat' first
   | (with_reducible exact ih0 _ _ _ _)
   | (with_reducible exact impl_AddressesOf.mono _ _)
   | (with_reducible exact laws_eqInstrS.mono _ _ _)
   | (with_reducible exact laws_eqIntS.mono _ _ _)
   | (with_reducible exact laws_heldIntS.mono _ _ _)
   | (with_reducible exact laws_markInstrS.mono _ _ _)
   | (with_reducible exact laws_markIntS.mono _ _ _)
   | (with_reducible exact laws_toInstrS.mono _ _)
   | (with_reducible exact spec_AddressesOf.mono _ _)
   | (with_reducible exact LeO.refl _)
   | (with_reducible exact LeO.none _)
   | (with_reducible refine LeO.ite ?_ ?_)
   | (with_reducible refine LeO.bind ?_ (fun _ => ?_))
   | exact ih0 _ _ _ _
   | exact impl_AddressesOf.mono _ _
   | exact laws_eqInstrS.mono _ _ _
   | exact laws_eqIntS.mono _ _ _
   | exact laws_heldIntS.mono _ _ _
   | exact laws_markInstrS.mono _ _ _
   | exact laws_markIntS.mono _ _ _
   | exact laws_toInstrS.mono _ _
   | exact spec_AddressesOf.mono _ _
   | exact LeO.none _
   | refine LeO.ite ?_ ?_
   | refine LeO.bind ?_ (fun _ => ?_)
theorem laws_FnExactAddressesOf.mono : ∀ a0 k, LeO (laws_FnExactAddressesOf.f k a0) (laws_FnExactAddressesOf.f (k + 1) a0) := by
 intro a0 k
 have ih0 := laws_FnExactAddressesOf.mono_l k
 unfold laws_FnExactAddressesOf.f
 repeat' first
   | (with_reducible exact ih0 _ _ _ _)
   | (with_reducible exact impl_AddressesOf.mono _ _)
   | (with_reducible exact laws_eqInstrS.mono _ _ _)
   | (with_reducible exact laws_eqIntS.mono _ _ _)
   | (with_reducible exact laws_heldIntS.mono _ _ _)
   | (with_reducible exact laws_markInstrS.mono _ _ _)
   | (with_reducible exact laws_markIntS.mono _ _ _)
   | (with_reducible exact laws_toInstrS.mono _ _)
   | (with_reducible exact spec_AddressesOf.mono _ _)
   | (with_reducible exact LeO.refl _)
   | (with_reducible exact LeO.none _)
   | (with_reducible refine LeO.ite ?_ ?_)
   | (with_reducible refine LeO.bind ?_ (fun _ => ?_))
   | exact ih0 _ _ _ _
   | exact impl_AddressesOf.mono _ _
   | exact laws_eqInstrS.mono _ _ _
   | exact laws_eqIntS.mono _ _ _
   | exact laws_heldIntS.mono _ _ _
   | exact laws_markInstrS.mono _ _ _
   | exact laws_markIntS.mono _ _ _
   | exact laws_toInstrS.mono _ _
   | exact spec_AddressesOf.mono _ _
   | exact LeO.none _
   | refine LeO.ite ?_ ?_
   | refine LeO.bind ?_ (fun _ => ?_)
set_option maxHeartbeats 8000000 in
set_option maxRecDepth 100000 in
theorem laws_FnExactAddressesOf.calls (k : Nat) (A0 : Option Addr) (c0 : Nat) (l0 : List (S84)) (r : Bool) (w : World) (hr0 : Kd.C k84 w A0 l0.length l0) (hc0 : l0.length ≤ c0) (h : laws_FnExactAddressesOf.f k l0 = some r) (hr_ : r = true) :
  Calls Try.prog 3 #[.slice A0 l0.length c0] w fun e w' => e = .returned (.bool r) ∧ Below w.heap.size w w' := by
 have HR0 := Aside0.mk hr0
 have HC0 := Aside0.mk hc0
 clear hr0 hc0
 have HB := Aside0.mk (Below.refl w.heap.size w)
 have H : ((laws_szInstrS.f l0 1048576).bind fun t1 => (if t1 < 0 then (some true) else ((laws_toInstrS.f k l0).bind fun t2 => ((spec_AddressesOf.f k t2).bind fun t5 => ((laws_toInstrS.f k l0).bind fun t8 => ((impl_AddressesOf.f k t8).bind fun t11 => ((laws_eqIntS.f k t11 t5).bind fun t14 => (if t14 = true then ((laws_toInstrS.f k l0).bind fun t15 => ((laws_eqInstrS.f k t8 t15).bind fun t18 => (if t18 = true then ((laws_markInstrS.f k t8 1).bind fun bt19 => (if bt19.1 < 0 then (laws_FnExactAddressesOf.j0 k l0 t5 t11 true) else ((laws_eqIntS.f k t11 t5).bind fun t21 => (laws_FnExactAddressesOf.j0 k l0 t5 t11 (!t21))))) else (some false)))) else (some false))))))))) = some r := h
 clear h
 replace H := Option.bind_eq_some_iff.mp H
 obtain ⟨t1, A20, H⟩ := H
 replace H : (if t1 < 0 then (some true) else ((laws_toInstrS.f k l0).bind fun t2 => ((spec_AddressesOf.f k t2).bind fun t5 => ((laws_toInstrS.f k l0).bind fun t8 => ((impl_AddressesOf.f k t8).bind fun t11 => ((laws_eqIntS.f k t11 t5).bind fun t14 => (if t14 = true then ((laws_toInstrS.f k l0).bind fun t15 => ((laws_eqInstrS.f k t8 t15).bind fun t18 => (if t18 = true then ((laws_markInstrS.f k t8 1).bind fun bt19 => (if bt19.1 < 0 then (laws_FnExactAddressesOf.j0 k l0 t5 t11 true) else ((laws_eqIntS.f k t11 t5).bind fun t21 => (laws_FnExactAddressesOf.j0 k l0 t5 t11 (!t21))))) else (some false)))) else (some false)))))))) = some r := H
 have A2 := Aside0.mk A20
 clear A20
 by_cases c3 : t1 < 0
 ·rw [if_pos c3] at H
  have c3b0 : decide (t1 < 0) = true := decide_eq_true c3
  clear c3
  obtain rfl := Option.some.inj H
  clear hr_
  go_enter Try.func3, Try.ntmps3
  go_wp2_with (first | ((with_reducible refine gate_callee (f := 10) rfl ?_); refine goesL_ (some 13) rfl rfl Try.func10 (by kernel_rfl) rfl #[.slice A0 l0.length c0, .int .i64 1048576] rfl ar_ ?_; (with_reducible refine (laws_szInstrS.calls _ _ l0 1048576 t1 _ ?side1 ?side2 A2.out).mono ?_); (case side1 => repeat (first | exact HR0.out | (with_reducible refine Kd.C_alloc ?_ _) | (with_reducible refine Kd.C_drewN ?_ _) | (with_reducible refine Kd.C_drew ?_))); (case side2 => exact HC0.out); rintro e w' ⟨rfl, ⟨nd, rfl⟩⟩; refine ⟨_, rfl, ?_⟩))
  go_ret
  exact ⟨rr_, bw_⟩
 rw [if_neg c3] at H
 have c3b0 : decide (t1 < 0) = false := decide_eq_false c3
 clear c3
 replace H := Option.bind_eq_some_iff.mp H
 obtain ⟨t2, A40, H⟩ := H
 replace H : ((spec_AddressesOf.f k t2).bind fun t5 => ((laws_toInstrS.f k l0).bind fun t8 => ((impl_AddressesOf.f k t8).bind fun t11 => ((laws_eqIntS.f k t11 t5).bind fun t14 => (if t14 = true then ((laws_toInstrS.f k l0).bind fun t15 => ((laws_eqInstrS.f k t8 t15).bind fun t18 => (if t18 = true then ((laws_markInstrS.f k t8 1).bind fun bt19 => (if bt19.1 < 0 then (laws_FnExactAddressesOf.j0 k l0 t5 t11 true) else ((laws_eqIntS.f k t11 t5).bind fun t21 => (laws_FnExactAddressesOf.j0 k l0 t5 t11 (!t21))))) else (some false)))) else (some false)))))) = some r := H
 have A4 := Aside0.mk A40
 clear A40
 replace H := Option.bind_eq_some_iff.mp H
 obtain ⟨t5, A50, H⟩ := H
 replace H : ((laws_toInstrS.f k l0).bind fun t8 => ((impl_AddressesOf.f k t8).bind fun t11 => ((laws_eqIntS.f k t11 t5).bind fun t14 => (if t14 = true then ((laws_toInstrS.f k l0).bind fun t15 => ((laws_eqInstrS.f k t8 t15).bind fun t18 => (if t18 = true then ((laws_markInstrS.f k t8 1).bind fun bt19 => (if bt19.1 < 0 then (laws_FnExactAddressesOf.j0 k l0 t5 t11 true) else ((laws_eqIntS.f k t11 t5).bind fun t21 => (laws_FnExactAddressesOf.j0 k l0 t5 t11 (!t21))))) else (some false)))) else (some false))))) = some r := H
 have A5 := Aside0.mk A50
 clear A50
 replace H := Option.bind_eq_some_iff.mp H
 obtain ⟨t8, A60, H⟩ := H
 replace H : ((impl_AddressesOf.f k t8).bind fun t11 => ((laws_eqIntS.f k t11 t5).bind fun t14 => (if t14 = true then ((laws_toInstrS.f k l0).bind fun t15 => ((laws_eqInstrS.f k t8 t15).bind fun t18 => (if t18 = true then ((laws_markInstrS.f k t8 1).bind fun bt19 => (if bt19.1 < 0 then (laws_FnExactAddressesOf.j0 k l0 t5 t11 true) else ((laws_eqIntS.f k t11 t5).bind fun t21 => (laws_FnExactAddressesOf.j0 k l0 t5 t11 (!t21))))) else (some false)))) else (some false)))) = some r := H
 have A6 := Aside0.mk A60
 clear A60
 replace H := Option.bind_eq_some_iff.mp H
 obtain ⟨t11, A70, H⟩ := H
 replace H : ((laws_eqIntS.f k t11 t5).bind fun t14 => (if t14 = true then ((laws_toInstrS.f k l0).bind fun t15 => ((laws_eqInstrS.f k t8 t15).bind fun t18 => (if t18 = true then ((laws_markInstrS.f k t8 1).bind fun bt19 => (if bt19.1 < 0 then (laws_FnExactAddressesOf.j0 k l0 t5 t11 true) else ((laws_eqIntS.f k t11 t5).bind fun t21 => (laws_FnExactAddressesOf.j0 k l0 t5 t11 (!t21))))) else (some false)))) else (some false))) = some r := H
 have A7 := Aside0.mk A70
 clear A70
 replace H := Option.bind_eq_some_iff.mp H
 obtain ⟨t14, A80, H⟩ := H
 replace H : (if t14 = true then ((laws_toInstrS.f k l0).bind fun t15 => ((laws_eqInstrS.f k t8 t15).bind fun t18 => (if t18 = true then ((laws_markInstrS.f k t8 1).bind fun bt19 => (if bt19.1 < 0 then (laws_FnExactAddressesOf.j0 k l0 t5 t11 true) else ((laws_eqIntS.f k t11 t5).bind fun t21 => (laws_FnExactAddressesOf.j0 k l0 t5 t11 (!t21))))) else (some false)))) else (some false)) = some r := H
 have A8 := Aside0.mk A80
 clear A80
 by_cases c9 : t14 = true
 rotate_left
 ·replace c9 := Bool.eq_false_iff.mpr c9
  subst c9
  have H1 : (some false) = some r := by rw [if_neg (show ¬ (false = true) by decide)] at H; exact H
  clear H
  have H := H1
  clear H1
  obtain rfl := Option.some.inj H
  exact absurd hr_ (by decide)
 subst c9
 have H1 : ((laws_toInstrS.f k l0).bind fun t15 => ((laws_eqInstrS.f k t8 t15).bind fun t18 => (if t18 = true then ((laws_markInstrS.f k t8 1).bind fun bt19 => (if bt19.1 < 0 then (laws_FnExactAddressesOf.j0 k l0 t5 t11 true) else ((laws_eqIntS.f k t11 t5).bind fun t21 => (laws_FnExactAddressesOf.j0 k l0 t5 t11 (!t21))))) else (some false)))) = some r := by rw [if_pos rfl] at H; exact H
 clear H
 have H := H1
 clear H1
 replace H := Option.bind_eq_some_iff.mp H
 obtain ⟨t15, A100, H⟩ := H
 replace H : ((laws_eqInstrS.f k t8 t15).bind fun t18 => (if t18 = true then ((laws_markInstrS.f k t8 1).bind fun bt19 => (if bt19.1 < 0 then (laws_FnExactAddressesOf.j0 k l0 t5 t11 true) else ((laws_eqIntS.f k t11 t5).bind fun t21 => (laws_FnExactAddressesOf.j0 k l0 t5 t11 (!t21))))) else (some false))) = some r := H
 have A10 := Aside0.mk A100
 clear A100
 replace H := Option.bind_eq_some_iff.mp H
 obtain ⟨t18, A110, H⟩ := H
 replace H : (if t18 = true then ((laws_markInstrS.f k t8 1).bind fun bt19 => (if bt19.1 < 0 then (laws_FnExactAddressesOf.j0 k l0 t5 t11 true) else ((laws_eqIntS.f k t11 t5).bind fun t21 => (laws_FnExactAddressesOf.j0 k l0 t5 t11 (!t21))))) else (some false)) = some r := H
 have A11 := Aside0.mk A110
 clear A110
 by_cases c12 : t18 = true
 rotate_left
 ·replace c12 := Bool.eq_false_iff.mpr c12
  subst c12
  have H1 : (some false) = some r := by rw [if_neg (show ¬ (false = true) by decide)] at H; exact H
  clear H
  have H := H1
  clear H1
  obtain rfl := Option.some.inj H
  exact absurd hr_ (by decide)
 subst c12
 have H1 : ((laws_markInstrS.f k t8 1).bind fun bt19 => (if bt19.1 < 0 then (laws_FnExactAddressesOf.j0 k l0 t5 t11 true) else ((laws_eqIntS.f k t11 t5).bind fun t21 => (laws_FnExactAddressesOf.j0 k l0 t5 t11 (!t21))))) = some r := by rw [if_pos rfl] at H; exact H
 clear H
 have H := H1
 clear H1
 replace H := Option.bind_eq_some_iff.mp H
 obtain ⟨⟨t19, t20⟩, A130, H⟩ := H
 replace H : (if t19 < 0 then (laws_FnExactAddressesOf.j0 k l0 t5 t11 true) else ((laws_eqIntS.f k t11 t5).bind fun t21 => (laws_FnExactAddressesOf.j0 k l0 t5 t11 (!t21)))) = some r := H
 have A13 := Aside0.mk A130
 clear A130
 have HC14 := Aside0.mk H
 clear H
 go_enter Try.func3, Try.ntmps3
 go_upto_region 14 with (first | ((with_reducible refine gate_callee (f := 10) rfl ?_); refine goesL_ (some 13) rfl rfl Try.func10 (by kernel_rfl) rfl #[.slice A0 l0.length c0, .int .i64 1048576] rfl ar_ ?_; (with_reducible refine (laws_szInstrS.calls _ _ l0 1048576 t1 _ ?side1 ?side2 A2.out).mono ?_); (case side1 => repeat (first | exact HR0.out | (with_reducible refine Kd.C_alloc ?_ _) | (with_reducible refine Kd.C_drewN ?_ _) | (with_reducible refine Kd.C_drew ?_))); (case side2 => exact HC0.out); rintro e w' ⟨rfl, ⟨nd, rfl⟩⟩; refine ⟨_, rfl, ?_⟩) | ((with_reducible refine gate_callee (f := 12) rfl ?_); refine goesL_ (some 17) rfl rfl Try.func12 (by kernel_rfl) rfl #[.slice A0 l0.length c0] rfl ar_ ?_; (with_reducible refine (laws_toInstrS.calls k _ _ l0 t2 _ ?side1 ?side2 A4.out).mono ?_); (case side1 => repeat (first | exact HR0.out | (with_reducible refine Kd.C_alloc ?_ _) | (with_reducible refine Kd.C_drewN ?_ _) | (with_reducible refine Kd.C_drew ?_))); (case side2 => exact HC0.out); rintro e w15 ⟨v3, rfl, ho0, hb⟩; refine ⟨_, rfl, ?_⟩; have n0_ := Aside0.mk (Kd.R_lower ho0 (below_size bw_)); have n1_ := Aside0.mk (below_step bw_ hb); clear HB; have HO4 := n0_; have HB := n1_; clear n0_ n1_; (try clear hb); (try clear hb2); (try clear hk); (try clear hi); (try clear ho0); obtain ⟨Ao16, co16, eo16⟩ := Kd.R_slice HO4.out; subst eo16) | ((with_reducible refine gate_callee (f := 11) rfl ?_); refine goesL_ (some 18) rfl rfl Try.func11 (by kernel_rfl) rfl #[.slice Ao16 t2.length co16] rfl ar_ ?_; (with_reducible refine (spec_AddressesOf.calls k _ _ t2 t5 _ ?side1 ?side2 A5.out).mono ?_); (case side1 => repeat (first | exact (Kd.R_reads' HO4.out).2.2 | (with_reducible refine Kd.C_alloc ?_ _) | (with_reducible refine Kd.C_drewN ?_ _) | (with_reducible refine Kd.C_drew ?_))); (case side2 => exact (Kd.R_reads' HO4.out).2.1); rintro e w17 ⟨v6, rfl, ho0, hb⟩; refine ⟨_, rfl, ?_⟩; have n0_ := Aside0.mk (Kd.R_below (by (with_reducible repeat (first | apply Kd.R_alloc | apply Kd.R_drewN | apply Kd.R_drew)); exact HO4.out) hb); have n1_ := Aside0.mk (Kd.R_lower ho0 (below_size bw_)); have n2_ := Aside0.mk (below_step bw_ hb); clear HO4; clear HB; have HO4 := n0_; have HO7 := n1_; have HB := n2_; clear n0_ n1_ n2_; (try clear hb); (try clear hb2); (try clear hk); (try clear hi); (try clear ho0)) | ((with_reducible refine gate_callee (f := 12) rfl ?_); refine goesL_ (some 20) rfl rfl Try.func12 (by kernel_rfl) rfl #[.slice A0 l0.length c0] rfl ar_ ?_; (with_reducible refine (laws_toInstrS.calls k _ _ l0 t8 _ ?side1 ?side2 A6.out).mono ?_); (case side1 => exact cb_); (case side2 => exact HC0.out); rintro e w18 ⟨v9, rfl, ho0, hb⟩; refine ⟨_, rfl, ?_⟩; have n0_ := Aside0.mk (Kd.R_elder' (by (with_reducible repeat (first | apply Kd.R_alloc | apply Kd.R_drewN | apply Kd.R_drew)); exact HO4.out) (Kd.R_base ho0) hb); have n1_ := Aside0.mk (Kd.R_below (by (with_reducible repeat (first | apply Kd.R_alloc | apply Kd.R_drewN | apply Kd.R_drew)); exact HO7.out) hb); have n2_ := Aside0.mk (Kd.R_lower (Kd.R_new' ho0 (Kd.R_lt (by (with_reducible repeat (first | apply Kd.R_alloc | apply Kd.R_drewN | apply Kd.R_drew)); exact HO4.out))) (below_size bw_)); have n3_ := Aside0.mk (below_step bw_ hb); clear HO4; clear HO7; clear HB; have HO4 := n0_; have HO7 := n1_; have HO10 := n2_; have HB := n3_; clear n0_ n1_ n2_ n3_; (try clear hb); (try clear hb2); (try clear hk); (try clear hi); (try clear ho0); obtain ⟨Ao19, co19, eo19⟩ := Kd.R_slice HO10.out; subst eo19) | ((with_reducible refine gate_callee (f := 13) rfl ?_); refine goesL_ (some 22) rfl rfl Try.func13 (by kernel_rfl) rfl #[.slice Ao19 t8.length co19] rfl ar_ ?_; (with_reducible refine (impl_AddressesOf.calls k _ _ t8 t11 _ ?side1 ?side2 A7.out).mono ?_); (case side1 => repeat (first | exact (Kd.R_reads' HO10.out).2.2 | (with_reducible refine Kd.C_alloc ?_ _) | (with_reducible refine Kd.C_drewN ?_ _) | (with_reducible refine Kd.C_drew ?_))); (case side2 => exact (Kd.R_reads' HO10.out).2.1); rintro e w20 ⟨v12, rfl, ho0, hb⟩; refine ⟨_, rfl, ?_⟩; have n0_ := Aside0.mk (Kd.R_below (by (with_reducible repeat (first | apply Kd.R_alloc | apply Kd.R_drewN | apply Kd.R_drew)); exact HO4.out) hb); have n1_ := Aside0.mk (Kd.R_elder' (by (with_reducible repeat (first | apply Kd.R_alloc | apply Kd.R_drewN | apply Kd.R_drew)); exact HO7.out) (Kd.R_base ho0) hb); have n2_ := Aside0.mk (Kd.R_below (by (with_reducible repeat (first | apply Kd.R_alloc | apply Kd.R_drewN | apply Kd.R_drew)); exact HO10.out) hb); have n3_ := Aside0.mk (Kd.R_lower (Kd.R_new' ho0 (Kd.R_lt (by (with_reducible repeat (first | apply Kd.R_alloc | apply Kd.R_drewN | apply Kd.R_drew)); exact HO7.out))) (below_size bw_)); have n4_ := Aside0.mk (below_step bw_ hb); clear HO4; clear HO7; clear HO10; clear HB; have HO4 := n0_; have HO7 := n1_; have HO10 := n2_; have HO13 := n3_; have HB := n4_; clear n0_ n1_ n2_ n3_ n4_; (try clear hb); (try clear hb2); (try clear hk); (try clear hi); (try clear ho0); obtain ⟨Ao21, co21, eo21⟩ := Kd.R_slice HO13.out; subst eo21; obtain ⟨Ao22, co22, eo22⟩ := Kd.R_slice HO7.out; subst eo22) | ((with_reducible refine gate_callee (f := 14) rfl ?_); refine goesL_ (some 25) rfl rfl Try.func14 (by kernel_rfl) rfl #[.slice Ao21 t11.length co21, .slice Ao22 t5.length co22] rfl ar_ ?_; (with_reducible refine (laws_eqIntS.calls k _ _ t11 _ _ t5 true _ ?side1 ?side2 ?side3 ?side4 A8.out).mono ?_); (case side1 => repeat (first | exact (Kd.R_reads' HO13.out).2.2 | (with_reducible refine Kd.C_alloc ?_ _) | (with_reducible refine Kd.C_drewN ?_ _) | (with_reducible refine Kd.C_drew ?_))); (case side2 => exact (Kd.R_reads' HO13.out).2.1); (case side3 => repeat (first | exact (Kd.R_reads' HO7.out).2.2 | (with_reducible refine Kd.C_alloc ?_ _) | (with_reducible refine Kd.C_drewN ?_ _) | (with_reducible refine Kd.C_drew ?_))); (case side4 => exact (Kd.R_reads' HO7.out).2.1); rintro e w' ⟨rfl, ⟨nd, rfl⟩⟩; refine ⟨_, rfl, ?_⟩) | ((with_reducible refine gate_callee (f := 12) rfl ?_); refine goesL_ (some 29) rfl rfl Try.func12 (by kernel_rfl) rfl #[.slice A0 l0.length c0] rfl ar_ ?_; (with_reducible refine (laws_toInstrS.calls k _ _ l0 t15 _ ?side1 ?side2 A10.out).mono ?_); (case side1 => repeat (first | exact (Kd.C_below HR0.out bw_) | (with_reducible refine Kd.C_alloc ?_ _) | (with_reducible refine Kd.C_drewN ?_ _) | (with_reducible refine Kd.C_drew ?_))); (case side2 => exact HC0.out); rintro e w23 ⟨v16, rfl, ho0, hb⟩; refine ⟨_, rfl, ?_⟩; have n0_ := Aside0.mk (Kd.R_elder' (by (with_reducible repeat (first | apply Kd.R_alloc | apply Kd.R_drewN | apply Kd.R_drew)); exact HO4.out) (Kd.R_base ho0) hb); have n1_ := Aside0.mk (Kd.R_below (by (with_reducible repeat (first | apply Kd.R_alloc | apply Kd.R_drewN | apply Kd.R_drew)); exact HO7.out) hb); have n2_ := Aside0.mk (Kd.R_elder' (by (with_reducible repeat (first | apply Kd.R_alloc | apply Kd.R_drewN | apply Kd.R_drew)); exact HO10.out) (Kd.R_base ho0) hb); have n3_ := Aside0.mk (Kd.R_below (by (with_reducible repeat (first | apply Kd.R_alloc | apply Kd.R_drewN | apply Kd.R_drew)); exact HO13.out) hb); have n4_ := Aside0.mk (Kd.R_lower (Kd.R_new' (Kd.R_new' ho0 (Kd.R_lt (by (with_reducible repeat (first | apply Kd.R_alloc | apply Kd.R_drewN | apply Kd.R_drew)); exact HO4.out))) (Kd.R_lt (by (with_reducible repeat (first | apply Kd.R_alloc | apply Kd.R_drewN | apply Kd.R_drew)); exact HO10.out))) (below_size bw_)); have n5_ := Aside0.mk (below_step bw_ hb); clear HO4; clear HO7; clear HO10; clear HO13; clear HB; have HO4 := n0_; have HO7 := n1_; have HO10 := n2_; have HO13 := n3_; have HO17 := n4_; have HB := n5_; clear n0_ n1_ n2_ n3_ n4_ n5_; (try clear hb); (try clear hb2); (try clear hk); (try clear hi); (try clear ho0); obtain ⟨Ao24, co24, eo24⟩ := Kd.R_slice HO17.out; subst eo24) | ((with_reducible refine gate_callee (f := 15) rfl ?_); refine goesL_ (some 30) rfl rfl Try.func15 (by kernel_rfl) rfl #[.slice Ao19 t8.length co19, .slice Ao24 t15.length co24] rfl ar_ ?_; (with_reducible refine (laws_eqInstrS.calls k _ _ t8 _ _ t15 true _ ?side1 ?side2 ?side3 ?side4 A11.out).mono ?_); (case side1 => repeat (first | exact (Kd.R_reads' HO10.out).2.2 | (with_reducible refine Kd.C_alloc ?_ _) | (with_reducible refine Kd.C_drewN ?_ _) | (with_reducible refine Kd.C_drew ?_))); (case side2 => exact (Kd.R_reads' HO10.out).2.1); (case side3 => repeat (first | exact (Kd.R_reads' HO17.out).2.2 | (with_reducible refine Kd.C_alloc ?_ _) | (with_reducible refine Kd.C_drewN ?_ _) | (with_reducible refine Kd.C_drew ?_))); (case side4 => exact (Kd.R_reads' HO17.out).2.1); rintro e w25 ⟨rfl, hb⟩; refine ⟨_, rfl, ?_⟩; have n0_ := Aside0.mk (Kd.R_below (by (with_reducible repeat (first | apply Kd.R_alloc | apply Kd.R_drewN | apply Kd.R_drew)); exact HO4.out) hb); have n1_ := Aside0.mk (Kd.R_below (by (with_reducible repeat (first | apply Kd.R_alloc | apply Kd.R_drewN | apply Kd.R_drew)); exact HO7.out) hb); have n2_ := Aside0.mk (Kd.R_below (by (with_reducible repeat (first | apply Kd.R_alloc | apply Kd.R_drewN | apply Kd.R_drew)); exact HO10.out) hb); have n3_ := Aside0.mk (Kd.R_below (by (with_reducible repeat (first | apply Kd.R_alloc | apply Kd.R_drewN | apply Kd.R_drew)); exact HO13.out) hb); have n4_ := Aside0.mk (Kd.R_below (by (with_reducible repeat (first | apply Kd.R_alloc | apply Kd.R_drewN | apply Kd.R_drew)); exact HO17.out) hb); have n5_ := Aside0.mk (below_step bw_ hb); clear HO4; clear HO7; clear HO10; clear HO13; clear HO17; clear HB; have HO4 := n0_; have HO7 := n1_; have HO10 := n2_; have HO13 := n3_; have HO17 := n4_; have HB := n5_; clear n0_ n1_ n2_ n3_ n4_ n5_; (try clear hb); (try clear hb2); (try clear hk); (try clear hi)) | ((with_reducible refine gate_callee (f := 16) rfl ?_); refine goesL_ (some 34) rfl rfl Try.func16 (by kernel_rfl) rfl #[.slice Ao19 t8.length co19, .int .i64 1] rfl ar_ ?_; (with_reducible refine (laws_markInstrS.calls k (fun k_ => some k_ = (.slice Ao19 t8.length co19 : Value).ownBlock) (.slice Ao19 t8.length co19) t8 1 t19 t20 w _ ?side1 ?side2 A13.out).mono ?_); (case side1 => repeat (first | (with_reducible first | exact HB.out | apply below_alloc | apply pw_below_drewN | apply below_drew1) | exact HB.out)); (case side2 => exact Kd.R_tight rfl HO10.out); rintro e w26 ⟨rfl, hy0, hb, hkp⟩; refine ⟨_, rfl, ?_⟩; have n0_ := Aside0.mk (Kd.R_mono (ok' := fun k_ => some k_ ≠ (.slice Ao19 t8.length co19 : Value).ownBlock ∧ some k_ ≠ (.slice Ao24 t15.length co24 : Value).ownBlock) (Kd.R_keptB (HO4.out) hkp (fun k_ hk_ hs_ => (hk_.1.2) hs_)) (fun k_ hk_ => ⟨hk_.1.1.2, hk_.1.2⟩)); have n1_ := Aside0.mk (Kd.R_mono (ok' := fun k_ => some k_ ≠ (.slice Ao21 t11.length co21 : Value).ownBlock) (Kd.R_keptB ((Kd.R_apart' HO7.out (Kd.R_typed HO10.out) (by decide))) hkp (fun k_ hk_ hs_ => (hk_.2) hs_)) (fun k_ hk_ => hk_.1.1.2)); have n2_ := Aside0.mk (Kd.R_reok rfl hy0 (fun k_ e_ => HO10.out.1 k_ e_)); have n3_ := Aside0.mk (Kd.R_mono (ok' := fun k_ => some k_ ≠ (.slice Ao22 t5.length co22 : Value).ownBlock) (Kd.R_keptB ((Kd.R_apart' HO13.out (Kd.R_typed HO10.out) (by decide))) hkp (fun k_ hk_ hs_ => (hk_.2) hs_)) (fun k_ hk_ => hk_.1.1.2)); have n4_ := Aside0.mk (Kd.R_mono (ok' := fun k_ => some k_ ≠ (.slice Ao16 t2.length co16 : Value).ownBlock ∧ some k_ ≠ (.slice Ao19 t8.length co19 : Value).ownBlock) (Kd.R_keptB (HO17.out) hkp (fun k_ hk_ hs_ => (hk_.2) hs_)) (fun k_ hk_ => ⟨hk_.1.1.2, hk_.1.2⟩)); have n5_ := Aside0.mk (hb); clear HO4; clear HO7; clear HO10; clear HO13; clear HO17; clear HB; have HO4 := n0_; have HO7 := n1_; have HO10 := n2_; have HO13 := n3_; have HO17 := n4_; have HB := n5_; clear n0_ n1_ n2_ n3_ n4_ n5_; (try clear hb); (try clear hkp); (try clear hy0)))
 (try simp only [Act.put, List.setIfInBounds_toArray, List.set_cons_zero, List.set_cons_succ])
 go_cut [42] (fun v42 wc => ∃ (kq : Nat) (x42_13 : Bool), v42 = .bool x42_13 ∧ Aside0 (laws_FnExactAddressesOf.j0 kq l0 t5 t11 x42_13 = some r) ∧ Aside0 (kq ≤ k) ∧ Aside0 (Kd.R (Kd.int .i64) 3 wc w.heap.size (fun k_ => some k_ ≠ ((.slice Ao21 t11.length co21) : Value).ownBlock) (.slice Ao22 t5.length co22) t5) ∧ Aside0 (Kd.R (Kd.int .i64) 3 wc w.heap.size (fun k_ => some k_ ≠ ((.slice Ao22 t5.length co22) : Value).ownBlock) (.slice Ao21 t11.length co21) t11) ∧ Aside0 (Below w.heap.size w wc))
 case first =>
  have H := HC14.out
  clear HC14
  by_cases c27 : t19 < 0
  ·rw [if_pos c27] at H
   have c27b0 : decide (t19 < 0) = true := decide_eq_true c27
   clear c27
   (first | rw [c27b0] | (simp only [i64_w, i32_w]; rw [c27b0]) | skip)
   have H' := Aside0.mk H
   clear H
   go_wp2
   go_meet
   case rel => exact ⟨_, (true), sd_, H', ⟨by first | omega | exact Nat.le_refl _⟩, ⟨by (with_reducible repeat (first | apply Kd.R_alloc | apply Kd.R_drewN | apply Kd.R_drew)); exact HO7.out⟩, ⟨by (with_reducible repeat (first | apply Kd.R_alloc | apply Kd.R_drewN | apply Kd.R_drew)); exact HO13.out⟩, ⟨bw_⟩⟩
  rw [if_neg c27] at H
  have c27b0 : decide (t19 < 0) = false := decide_eq_false c27
  clear c27
  (first | rw [c27b0] | (simp only [i64_w, i32_w]; rw [c27b0]) | skip)
  replace H := Option.bind_eq_some_iff.mp H
  obtain ⟨t21, A280, H⟩ := H
  replace H : (laws_FnExactAddressesOf.j0 k l0 t5 t11 (!t21)) = some r := H
  have A28 := Aside0.mk A280
  clear A280
  have H' := Aside0.mk H
  clear H
  go_wp2_with (first | (go_at_call 14; (with_reducible refine (laws_eqIntS.calls k _ _ t11 _ _ t5 t21 _ ?side1 ?side2 ?side3 ?side4 A28.out).mono ?_); (case side1 => repeat (first | exact (Kd.R_reads' HO13.out).2.2 | (with_reducible refine Kd.C_alloc ?_ _) | (with_reducible refine Kd.C_drewN ?_ _) | (with_reducible refine Kd.C_drew ?_))); (case side2 => exact (Kd.R_reads' HO13.out).2.1); (case side3 => repeat (first | exact (Kd.R_reads' HO7.out).2.2 | (with_reducible refine Kd.C_alloc ?_ _) | (with_reducible refine Kd.C_drewN ?_ _) | (with_reducible refine Kd.C_drew ?_))); (case side4 => exact (Kd.R_reads' HO7.out).2.1); rintro e w' ⟨rfl, ⟨nd, rfl⟩⟩))
  go_meet
  case rel => exact ⟨_, (!t21), sd_, H', ⟨by first | omega | exact Nat.le_refl _⟩, ⟨by (with_reducible repeat (first | apply Kd.R_alloc | apply Kd.R_drewN | apply Kd.R_drew)); exact HO7.out⟩, ⟨by (with_reducible repeat (first | apply Kd.R_alloc | apply Kd.R_drewN | apply Kd.R_drew)); exact HO13.out⟩, ⟨bw_⟩⟩
 case rest =>
  clear HC14
  try clear c1
  try clear c2
  try clear p2
  try clear c3
  try clear c3b0
  try clear c9
  try clear c10
  try clear c11
  try clear c12
  try clear c13
  try clear c14
  try clear c15
  try clear c16
  try clear c27
  try clear c27b0
  obtain ⟨kq, x42_13, rfl, HA, HJ13, HO_4, HO_6, HB⟩ := hcut
  cases kq with
  | zero => exact absurd HA.out (by simp [laws_FnExactAddressesOf.j0])
  | succ kj13 =>
   have H := HA.out
   clear HA
   simp only [laws_FnExactAddressesOf.j0] at H
   by_cases c29 : x42_13 = true
   ·subst c29
    have H1 : (some false) = some r := by rw [if_pos rfl] at H; exact H
    clear H
    have H := H1
    clear H1
    obtain rfl := Option.some.inj H
    exact absurd hr_ (by decide)
   replace c29 := Bool.eq_false_iff.mpr c29
   subst c29
   have H1 : ((laws_markIntS.f kj13 t11 1).bind fun bt22 => ((laws_heldIntS.f kj13 bt22.2 1).bind fun t24 => (if t24 < 0 then (some false) else (if t24 = bt22.1 then ((laws_toInstrS.f kj13 l0).bind fun t25 => ((impl_AddressesOf.f kj13 t25).bind fun t28 => ((laws_eqIntS.f kj13 t28 t5).bind fun t31 => (if t31 = true then ((laws_heldIntS.f kj13 bt22.2 1).bind fun t32 => (if t32 < 0 then (some false) else (if t32 = bt22.1 then (some true) else (some false)))) else (some false))))) else (some false))))) = some r := by rw [if_neg (show ¬ (false = true) by decide)] at H; exact H
   clear H
   have H := H1
   clear H1
   replace H := Option.bind_eq_some_iff.mp H
   obtain ⟨⟨t22, t23⟩, A300, H⟩ := H
   replace H : ((laws_heldIntS.f kj13 t23 1).bind fun t24 => (if t24 < 0 then (some false) else (if t24 = t22 then ((laws_toInstrS.f kj13 l0).bind fun t25 => ((impl_AddressesOf.f kj13 t25).bind fun t28 => ((laws_eqIntS.f kj13 t28 t5).bind fun t31 => (if t31 = true then ((laws_heldIntS.f kj13 t23 1).bind fun t32 => (if t32 < 0 then (some false) else (if t32 = t22 then (some true) else (some false)))) else (some false))))) else (some false)))) = some r := H
   have A30 := Aside0.mk A300
   clear A300
   replace H := Option.bind_eq_some_iff.mp H
   obtain ⟨t24, A310, H⟩ := H
   replace H : (if t24 < 0 then (some false) else (if t24 = t22 then ((laws_toInstrS.f kj13 l0).bind fun t25 => ((impl_AddressesOf.f kj13 t25).bind fun t28 => ((laws_eqIntS.f kj13 t28 t5).bind fun t31 => (if t31 = true then ((laws_heldIntS.f kj13 t23 1).bind fun t32 => (if t32 < 0 then (some false) else (if t32 = t22 then (some true) else (some false)))) else (some false))))) else (some false))) = some r := H
   have A31 := Aside0.mk A310
   clear A310
   by_cases c32 : t24 < 0
   ·rw [if_pos c32] at H
    have c32b0 : decide (t24 < 0) = true := decide_eq_true c32
    clear c32
    obtain rfl := Option.some.inj H
    exact absurd hr_ (by decide)
   rw [if_neg c32] at H
   have c32b0 : decide (t24 < 0) = false := decide_eq_false c32
   clear c32
   by_cases c34 : t24 = t22
   rotate_left
   ·rw [if_neg c34] at H
    have c34b0 : (t24 == t22) = false := beq_eq_false_iff_ne.mpr c34
    have c34b1 : (t24 != t22) = true := bne_iff_ne.mpr c34
    obtain rfl := Option.some.inj H
    exact absurd hr_ (by decide)
   rw [if_pos c34] at H
   have c34b0 : (t24 == t22) = true := beq_iff_eq.mpr c34
   have c34b1 : (t24 != t22) = false := bne_eq_false_iff_eq.mpr c34
   clear c34
   replace H := Option.bind_eq_some_iff.mp H
   obtain ⟨t25, A350, H⟩ := H
   replace H : ((impl_AddressesOf.f kj13 t25).bind fun t28 => ((laws_eqIntS.f kj13 t28 t5).bind fun t31 => (if t31 = true then ((laws_heldIntS.f kj13 t23 1).bind fun t32 => (if t32 < 0 then (some false) else (if t32 = t22 then (some true) else (some false)))) else (some false)))) = some r := H
   have A35 := Aside0.mk A350
   clear A350
   replace H := Option.bind_eq_some_iff.mp H
   obtain ⟨t28, A360, H⟩ := H
   replace H : ((laws_eqIntS.f kj13 t28 t5).bind fun t31 => (if t31 = true then ((laws_heldIntS.f kj13 t23 1).bind fun t32 => (if t32 < 0 then (some false) else (if t32 = t22 then (some true) else (some false)))) else (some false))) = some r := H
   have A36 := Aside0.mk A360
   clear A360
   replace H := Option.bind_eq_some_iff.mp H
   obtain ⟨t31, A370, H⟩ := H
   replace H : (if t31 = true then ((laws_heldIntS.f kj13 t23 1).bind fun t32 => (if t32 < 0 then (some false) else (if t32 = t22 then (some true) else (some false)))) else (some false)) = some r := H
   have A37 := Aside0.mk A370
   clear A370
   by_cases c38 : t31 = true
   rotate_left
   ·replace c38 := Bool.eq_false_iff.mpr c38
    subst c38
    have H1 : (some false) = some r := by rw [if_neg (show ¬ (false = true) by decide)] at H; exact H
    clear H
    have H := H1
    clear H1
    obtain rfl := Option.some.inj H
    exact absurd hr_ (by decide)
   subst c38
   have H1 : ((laws_heldIntS.f kj13 t23 1).bind fun t32 => (if t32 < 0 then (some false) else (if t32 = t22 then (some true) else (some false)))) = some r := by rw [if_pos rfl] at H; exact H
   clear H
   have H := H1
   clear H1
   replace H := Option.bind_eq_some_iff.mp H
   obtain ⟨t32, A390, H⟩ := H
   replace H : (if t32 < 0 then (some false) else (if t32 = t22 then (some true) else (some false))) = some r := H
   have A39 := Aside0.mk A390
   clear A390
   by_cases c40 : t32 < 0
   ·rw [if_pos c40] at H
    have c40b0 : decide (t32 < 0) = true := decide_eq_true c40
    clear c40
    obtain rfl := Option.some.inj H
    exact absurd hr_ (by decide)
   rw [if_neg c40] at H
   have c40b0 : decide (t32 < 0) = false := decide_eq_false c40
   clear c40
   by_cases c46 : t32 = t22
   rotate_left
   ·rw [if_neg c46] at H
    have c46b0 : (t32 == t22) = false := beq_eq_false_iff_ne.mpr c46
    have c46b1 : (t32 != t22) = true := bne_iff_ne.mpr c46
    obtain rfl := Option.some.inj H
    exact absurd hr_ (by decide)
   rw [if_pos c46] at H
   have c46b0 : (t32 == t22) = true := beq_iff_eq.mpr c46
   have c46b1 : (t32 != t22) = false := bne_eq_false_iff_eq.mpr c46
   clear c46
   obtain rfl := Option.some.inj H
   clear hr_
   go_wp2_with (first | ((with_reducible refine gate_callee (f := 17) rfl ?_); refine goesL_ (some 45) rfl rfl Try.func17 (by kernel_rfl) rfl #[.slice Ao21 t11.length co21, .int .i64 1] rfl ar_ ?_; (with_reducible refine (laws_markIntS.calls kj13 (fun k_ => some k_ = (.slice Ao21 t11.length co21 : Value).ownBlock) (.slice Ao21 t11.length co21) t11 1 t22 t23 w _ ?side1 ?side2 A30.out).mono ?_); (case side1 => repeat (first | (with_reducible first | exact HB.out | apply below_alloc | apply pw_below_drewN | apply below_drew1) | exact HB.out)); (case side2 => exact Kd.R_tight rfl HO_6.out); rintro e w47 ⟨rfl, hy0, hb, hkp⟩; refine ⟨_, rfl, ?_⟩; have n0_ := Aside0.mk (Kd.R_mono (ok' := fun k_ => some k_ ≠ (.slice Ao21 t11.length co21 : Value).ownBlock) (Kd.R_keptB (HO_4.out) hkp (fun k_ hk_ hs_ => (hk_) hs_)) (fun k_ hk_ => hk_.1)); have n1_ := Aside0.mk (Kd.R_reok rfl hy0 (fun k_ e_ => HO_6.out.1 k_ e_)); have n2_ := Aside0.mk (hb); clear HO_4; clear HO_6; clear HB; have HO_4 := n0_; have HO_6 := n1_; have HB := n2_; clear n0_ n1_ n2_; (try clear hb); (try clear hkp); (try clear hy0)) | ((with_reducible refine gate_callee (f := 18) rfl ?_); refine goesL_ (some 48) rfl rfl Try.func18 (by kernel_rfl) rfl #[.slice Ao21 t23.length co21, .int .i64 1] rfl (by (try simp only [List.map_toArray, List.map_cons, List.map_nil]); first | done | (rw [show t23.length = t11.length from (Kd.R_reads' HO_6.out).1.symm] <;> rfl) | rfl | (simp only [List.length_drop, List.length_take]; rfl)) ?_; (with_reducible refine (laws_heldIntS.calls kj13 _ _ t23 1 t24 _ ?side1 ?side2 A31.out).mono ?_); (case side1 => repeat (first | exact (Kd.R_reads' HO_6.out).2.2 | (with_reducible refine Kd.C_alloc ?_ _) | (with_reducible refine Kd.C_drewN ?_ _) | (with_reducible refine Kd.C_drew ?_))); (case side2 => rw [show t23.length = t11.length from (Kd.R_reads' HO_6.out).1.symm]; exact (Kd.R_reads' HO_6.out).2.1); rintro e w' ⟨rfl, ⟨nd, rfl⟩⟩; refine ⟨_, rfl, ?_⟩) | ((with_reducible refine gate_callee (f := 12) rfl ?_); refine goesL_ (some 55) rfl rfl Try.func12 (by kernel_rfl) rfl #[.slice A0 l0.length c0] rfl ar_ ?_; (with_reducible refine (laws_toInstrS.calls kj13 _ _ l0 t25 _ ?side1 ?side2 A35.out).mono ?_); (case side1 => repeat (first | exact (Kd.C_below HR0.out bw_) | (with_reducible refine Kd.C_alloc ?_ _) | (with_reducible refine Kd.C_drewN ?_ _) | (with_reducible refine Kd.C_drew ?_))); (case side2 => exact HC0.out); rintro e w48 ⟨v26, rfl, ho0, hb⟩; refine ⟨_, rfl, ?_⟩; have n0_ := Aside0.mk (Kd.R_below (by (with_reducible repeat (first | apply Kd.R_alloc | apply Kd.R_drewN | apply Kd.R_drew)); exact HO_4.out) hb); have n1_ := Aside0.mk (Kd.R_below (by (with_reducible repeat (first | apply Kd.R_alloc | apply Kd.R_drewN | apply Kd.R_drew)); exact HO_6.out) hb); have n2_ := Aside0.mk (Kd.R_lower ho0 (below_size bw_)); have n3_ := Aside0.mk (below_step bw_ hb); clear HO_4; clear HO_6; clear HB; have HO_4 := n0_; have HO_6 := n1_; have HO27 := n2_; have HB := n3_; clear n0_ n1_ n2_ n3_; (try clear hb); (try clear hb2); (try clear hk); (try clear hi); (try clear ho0); obtain ⟨Ao49, co49, eo49⟩ := Kd.R_slice HO27.out; subst eo49) | ((with_reducible refine gate_callee (f := 13) rfl ?_); refine goesL_ (some 56) rfl rfl Try.func13 (by kernel_rfl) rfl #[.slice Ao49 t25.length co49] rfl ar_ ?_; (with_reducible refine (impl_AddressesOf.calls kj13 _ _ t25 t28 _ ?side1 ?side2 A36.out).mono ?_); (case side1 => repeat (first | exact (Kd.R_reads' HO27.out).2.2 | (with_reducible refine Kd.C_alloc ?_ _) | (with_reducible refine Kd.C_drewN ?_ _) | (with_reducible refine Kd.C_drew ?_))); (case side2 => exact (Kd.R_reads' HO27.out).2.1); rintro e w50 ⟨v29, rfl, ho0, hb⟩; refine ⟨_, rfl, ?_⟩; have n0_ := Aside0.mk (Kd.R_elder' (by (with_reducible repeat (first | apply Kd.R_alloc | apply Kd.R_drewN | apply Kd.R_drew)); exact HO_4.out) (Kd.R_base ho0) hb); have n1_ := Aside0.mk (Kd.R_elder' (by (with_reducible repeat (first | apply Kd.R_alloc | apply Kd.R_drewN | apply Kd.R_drew)); exact HO_6.out) (Kd.R_base ho0) hb); have n2_ := Aside0.mk (Kd.R_below (by (with_reducible repeat (first | apply Kd.R_alloc | apply Kd.R_drewN | apply Kd.R_drew)); exact HO27.out) hb); have n3_ := Aside0.mk (Kd.R_lower (Kd.R_new' (Kd.R_new' ho0 (Kd.R_lt (by (with_reducible repeat (first | apply Kd.R_alloc | apply Kd.R_drewN | apply Kd.R_drew)); exact HO_4.out))) (Kd.R_lt (by (with_reducible repeat (first | apply Kd.R_alloc | apply Kd.R_drewN | apply Kd.R_drew)); exact HO_6.out))) (below_size bw_)); have n4_ := Aside0.mk (below_step bw_ hb); clear HO_4; clear HO_6; clear HO27; clear HB; have HO_4 := n0_; have HO_6 := n1_; have HO27 := n2_; have HO30 := n3_; have HB := n4_; clear n0_ n1_ n2_ n3_ n4_; (try clear hb); (try clear hb2); (try clear hk); (try clear hi); (try clear ho0); obtain ⟨Ao51, co51, eo51⟩ := Kd.R_slice HO30.out; subst eo51) | ((with_reducible refine gate_callee (f := 14) rfl ?_); refine goesL_ (some 59) rfl rfl Try.func14 (by kernel_rfl) rfl #[.slice Ao51 t28.length co51, .slice Ao22 t5.length co22] rfl ar_ ?_; (with_reducible refine (laws_eqIntS.calls kj13 _ _ t28 _ _ t5 true _ ?side1 ?side2 ?side3 ?side4 A37.out).mono ?_); (case side1 => repeat (first | exact (Kd.R_reads' HO30.out).2.2 | (with_reducible refine Kd.C_alloc ?_ _) | (with_reducible refine Kd.C_drewN ?_ _) | (with_reducible refine Kd.C_drew ?_))); (case side2 => exact (Kd.R_reads' HO30.out).2.1); (case side3 => repeat (first | exact (Kd.R_reads' HO_4.out).2.2 | (with_reducible refine Kd.C_alloc ?_ _) | (with_reducible refine Kd.C_drewN ?_ _) | (with_reducible refine Kd.C_drew ?_))); (case side4 => exact (Kd.R_reads' HO_4.out).2.1); rintro e w' ⟨rfl, ⟨nd, rfl⟩⟩; refine ⟨_, rfl, ?_⟩) | ((with_reducible refine gate_callee (f := 18) rfl ?_); refine goesL_ (some 63) rfl rfl Try.func18 (by kernel_rfl) rfl #[.slice Ao21 t23.length co21, .int .i64 1] rfl (by (try simp only [List.map_toArray, List.map_cons, List.map_nil]); first | done | (rw [show t23.length = t11.length from (Kd.R_reads' HO_6.out).1.symm] <;> rfl) | rfl | (simp only [List.length_drop, List.length_take]; rfl)) ?_; (with_reducible refine (laws_heldIntS.calls kj13 _ _ t23 1 t32 _ ?side1 ?side2 A39.out).mono ?_); (case side1 => repeat (first | exact (Kd.R_reads' HO_6.out).2.2 | (with_reducible refine Kd.C_alloc ?_ _) | (with_reducible refine Kd.C_drewN ?_ _) | (with_reducible refine Kd.C_drew ?_))); (case side2 => rw [show t23.length = t11.length from (Kd.R_reads' HO_6.out).1.symm]; exact (Kd.R_reads' HO_6.out).2.1); rintro e w' ⟨rfl, ⟨nd, rfl⟩⟩; refine ⟨_, rfl, ?_⟩))
   go_ret
   exact ⟨rr_, bw_⟩

end Go.Proofs.Ytlfbdafghpmahaa.P
