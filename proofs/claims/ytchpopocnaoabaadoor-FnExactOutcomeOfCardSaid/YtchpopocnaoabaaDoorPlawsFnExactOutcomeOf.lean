-- Written by mp.py (the session's own driver over the kit's printer) for the seat YtchpopocnaoabaaDoor.
import Derived.Test.YtchpopocnaoabaaDoorK
import Derived.Test.YtchpopocnaoabaaDoorPlawseqThreadS
import Derived.Test.YtchpopocnaoabaaDoorPlawsszThread
import Derived.Test.YtchpopocnaoabaaDoorPlawstoThreadS
import Derived.Test.YtchpopocnaoabaaDoorPspecOutcomeOf
import Derived.Test.YtchpopocnaoabaaDoorEnv
namespace Go.Proofs.YtchpopocnaoabaaDoor.P
open Go.RowKit Go.Proofs.YtchpopocnaoabaaDoorW.PrintWords Go.Proofs.YtchpopocnaoabaaDoorW.PrintLast Go.Proofs.YtchpopocnaoabaaDoorW.PrintMore
attribute [local go_sem] max2_int min2_int max_two min_two max_three min_three max_four min_four
set_option linter.unusedVariables false
set_option linter.unusedSimpArgs false

/-! ### laws_FnExactOutcomeOf: function 10 -/
def laws_FnExactOutcomeOf.f (k : Nat) (l0_0 : List Int) (l0_1 : List (S167)) : Option (Bool) := (laws_szMachine.f k l0_0 l0_1 1048576).bind fun t2 => (if t2 < 0 then (some true) else ((laws_toMachine.f k l0_0 l0_1).bind fun bt3 => ((spec_OutcomeOf.f k bt3.1 bt3.2).bind fun t9 => ((laws_toMachine.f k l0_0 l0_1).bind fun bt10 => ((impl_OutcomeOf.f k bt10.1 bt10.2).bind fun t17 => (if t17.toList = t9.toList then ((laws_toMachine.f k l0_0 l0_1).bind fun bt18 => ((laws_eqMachine.f k bt10.1 bt10.2 bt18.1 bt18.2).bind fun t24 => (if t24 = true then (some true) else (some false)))) else (some false)))))))
theorem laws_FnExactOutcomeOf.mono : ∀ a0 a1 k, LeO (laws_FnExactOutcomeOf.f k a0 a1) (laws_FnExactOutcomeOf.f (k + 1) a0 a1) := by
 intro a0 a1 k
 unfold laws_FnExactOutcomeOf.f
 repeat' first | (with_reducible first | exact impl_OutcomeOf.mono _ _ _ | exact laws_eqMachine.mono _ _ _ _ _ | exact laws_szMachine.mono _ _ _ _ | exact laws_toMachine.mono _ _ _ | exact spec_OutcomeOf.mono _ _ _ | exact lr_ | exact ln_ | refine LeO.ite ?_ ?_ | refine LeO.bind ?_ (fun _ => ?_)) | exact impl_OutcomeOf.mono _ _ _ | exact laws_eqMachine.mono _ _ _ _ _ | exact laws_szMachine.mono _ _ _ _ | exact laws_toMachine.mono _ _ _ | exact spec_OutcomeOf.mono _ _ _ | exact ln_ | refine LeO.ite ?_ ?_ | refine LeO.bind ?_ (fun _ => ?_)
set_option maxHeartbeats 8000000 in
set_option maxRecDepth 100000 in
theorem laws_FnExactOutcomeOf.calls (k : Nat) (A0_0 : Option Addr) (c0_0 : Nat) (l0_0 : List Int) (A0_1 : Option Addr) (c0_1 : Nat) (l0_1 : List (S167)) (r : Bool) (w : World) (hE_ : EnvOk false w) (hr0_0 : Kd.C (Kd.int .i64) w A0_0 l0_0.length l0_0) (hc0_0 : l0_0.length ≤ c0_0) (hr0_1 : Kd.C k167 w A0_1 l0_1.length l0_1) (hc0_1 : l0_1.length ≤ c0_1) (h : laws_FnExactOutcomeOf.f k l0_0 l0_1 = some r) (hr_ : r = true) :
  Calls Tryd.prog 10 #[.agg #[.slice A0_0 l0_0.length c0_0, .slice A0_1 l0_1.length c0_1]] w fun e w' => e = .returned (.bool r) ∧ Below w.heap.size w w' := by
 have HE_ := Aside0.mk hE_
 clear hE_
 have hu75 := Tryd.underlying75
 have hu80 := Tryd.underlying80
 have HR0_0 := Aside0.mk hr0_0
 have HC0_0 := Aside0.mk hc0_0
 clear hr0_0 hc0_0
 have HR0_1 := Aside0.mk hr0_1
 have HC0_1 := Aside0.mk hc0_1
 clear hr0_1 hc0_1
 have HB := Aside0.mk (Below.refl w.heap.size w)
 have H : ((laws_szMachine.f k l0_0 l0_1 1048576).bind fun t2 => (if t2 < 0 then (some true) else ((laws_toMachine.f k l0_0 l0_1).bind fun bt3 => ((spec_OutcomeOf.f k bt3.1 bt3.2).bind fun t9 => ((laws_toMachine.f k l0_0 l0_1).bind fun bt10 => ((impl_OutcomeOf.f k bt10.1 bt10.2).bind fun t17 => (if t17.toList = t9.toList then ((laws_toMachine.f k l0_0 l0_1).bind fun bt18 => ((laws_eqMachine.f k bt10.1 bt10.2 bt18.1 bt18.2).bind fun t24 => (if t24 = true then (some true) else (some false)))) else (some false)))))))) = some r := h
 clear h
 replace H := Option.bind_eq_some_iff.mp H
 obtain ⟨t2, A20, H⟩ := H
 replace H : (if t2 < 0 then (some true) else ((laws_toMachine.f k l0_0 l0_1).bind fun bt3 => ((spec_OutcomeOf.f k bt3.1 bt3.2).bind fun t9 => ((laws_toMachine.f k l0_0 l0_1).bind fun bt10 => ((impl_OutcomeOf.f k bt10.1 bt10.2).bind fun t17 => (if t17.toList = t9.toList then ((laws_toMachine.f k l0_0 l0_1).bind fun bt18 => ((laws_eqMachine.f k bt10.1 bt10.2 bt18.1 bt18.2).bind fun t24 => (if t24 = true then (some true) else (some false)))) else (some false))))))) = some r := H
 have A2 := Aside0.mk A20
 clear A20
 by_cases c3 : t2 < 0
 ·rw [if_pos c3] at H
  have c3b0 : decide (t2 < 0) = true := decide_eq_true c3
  clear c3
  obtain rfl := Option.some.inj H
  clear hr_
  go_enter Tryd.func10, Tryd.ntmps10
  go_wp2_with (first | ((with_reducible refine gate_dst (N := 1) rfl ?_); refine box_event ?hg (N := 1) ?hd (cs := #[.slice A0_0 l0_0.length c0_0, .slice A0_1 l0_1.length c0_1]) (t := 75) ?hr ?_; (case hd => rfl); (case hg => rfl); (case hr => exact hr_); intro gb1 hg w4 hbox hb; have n0_ := bs_ hb; have n1_ := Aside0.mk (hbox); have n2_ := ge_ (w := w) hg; have n3_ := ge_ (w := w) hg; clear HB; have HB := n0_; have BK1 := n1_; have GW1 := n2_; have GE1 := n3_; clear n0_ n1_ n2_ n3_; clear hb hbox hg; obtain ⟨hcz5_0, hcz5_1, hfz5_0, hfz5_1⟩ := bc2_ BK1.out) | ((with_reducible refine gate_callee (f := 50) rfl ?_); refine goesL_ (some 9) rfl rfl Tryd.func50 (by kernel_rfl) rfl #[.agg #[.slice A0_0 l0_0.length c0_0, .slice A0_1 l0_1.length c0_1], .int .i64 1048576] rfl ar_ ?_; (with_reducible refine (laws_szMachine.calls k _ _ l0_0 _ _ l0_1 1048576 t2 _ ?side1 ?side2 ?side3 ?side4 A2.out).mono ?_); (case side1 => exact cb_); (case side2 => exact HC0_0.out); (case side3 => exact cb_); (case side4 => exact HC0_1.out); rintro e w6 ⟨rfl, hb⟩; refine ⟨_, rfl, ?_⟩; have n0_ := bb_ BK1.out hb; have n1_ := bs_ hb; clear BK1; clear HB; have BK1 := n0_; have HB := n1_; clear n0_ n1_; (try clear hb); (try clear hb2); (try clear hk); (try clear hi)))
  go_ret
  exact ⟨rr_, bw_⟩
 rw [if_neg c3] at H
 have c3b0 : decide (t2 < 0) = false := decide_eq_false c3
 clear c3
 replace H := Option.bind_eq_some_iff.mp H
 obtain ⟨⟨t3, t6⟩, A70, H⟩ := H
 replace H : ((spec_OutcomeOf.f k t3 t6).bind fun t9 => ((laws_toMachine.f k l0_0 l0_1).bind fun bt10 => ((impl_OutcomeOf.f k bt10.1 bt10.2).bind fun t17 => (if t17.toList = t9.toList then ((laws_toMachine.f k l0_0 l0_1).bind fun bt18 => ((laws_eqMachine.f k bt10.1 bt10.2 bt18.1 bt18.2).bind fun t24 => (if t24 = true then (some true) else (some false)))) else (some false))))) = some r := H
 have A7 := Aside0.mk A70
 clear A70
 replace H := Option.bind_eq_some_iff.mp H
 obtain ⟨t9, A80, H⟩ := H
 replace H : ((laws_toMachine.f k l0_0 l0_1).bind fun bt10 => ((impl_OutcomeOf.f k bt10.1 bt10.2).bind fun t17 => (if t17.toList = t9.toList then ((laws_toMachine.f k l0_0 l0_1).bind fun bt18 => ((laws_eqMachine.f k bt10.1 bt10.2 bt18.1 bt18.2).bind fun t24 => (if t24 = true then (some true) else (some false)))) else (some false)))) = some r := H
 have A8 := Aside0.mk A80
 clear A80
 replace H := Option.bind_eq_some_iff.mp H
 obtain ⟨⟨t10, t13⟩, A90, H⟩ := H
 replace H : ((impl_OutcomeOf.f k t10 t13).bind fun t17 => (if t17.toList = t9.toList then ((laws_toMachine.f k l0_0 l0_1).bind fun bt18 => ((laws_eqMachine.f k t10 t13 bt18.1 bt18.2).bind fun t24 => (if t24 = true then (some true) else (some false)))) else (some false))) = some r := H
 have A9 := Aside0.mk A90
 clear A90
 replace H := Option.bind_eq_some_iff.mp H
 obtain ⟨t17, A100, H⟩ := H
 replace H : (if t17.toList = t9.toList then ((laws_toMachine.f k l0_0 l0_1).bind fun bt18 => ((laws_eqMachine.f k t10 t13 bt18.1 bt18.2).bind fun t24 => (if t24 = true then (some true) else (some false)))) else (some false)) = some r := H
 have A10 := Aside0.mk A100
 clear A100
 by_cases c11 : t17.toList = t9.toList
 rotate_left
 ·rw [if_neg c11] at H
  have c11b0 : (t17.toList == t9.toList) = false := beq_eq_false_iff_ne.mpr c11
  have c11b1 : (t17.toList != t9.toList) = true := bne_iff_ne.mpr c11
  obtain rfl := Option.some.inj H
  exact absurd hr_ (by decide)
 rw [if_pos c11] at H
 have c11b0 : (t17.toList == t9.toList) = true := beq_iff_eq.mpr c11
 have c11b1 : (t17.toList != t9.toList) = false := bne_eq_false_iff_eq.mpr c11
 clear c11
 replace H := Option.bind_eq_some_iff.mp H
 obtain ⟨⟨t18, t21⟩, A120, H⟩ := H
 replace H : ((laws_eqMachine.f k t10 t13 t18 t21).bind fun t24 => (if t24 = true then (some true) else (some false))) = some r := H
 have A12 := Aside0.mk A120
 clear A120
 replace H := Option.bind_eq_some_iff.mp H
 obtain ⟨t24, A130, H⟩ := H
 replace H : (if t24 = true then (some true) else (some false)) = some r := H
 have A13 := Aside0.mk A130
 clear A130
 by_cases c14 : t24 = true
 rotate_left
 ·replace c14 := Bool.eq_false_iff.mpr c14
  subst c14
  have H1 : (some false) = some r := by rw [if_neg (show ¬ (false = true) by decide)] at H; exact H
  clear H
  have H := H1
  clear H1
  obtain rfl := Option.some.inj H
  exact absurd hr_ (by decide)
 subst c14
 have H1 : (some true) = some r := by rw [if_pos rfl] at H; exact H
 clear H
 have H := H1
 clear H1
 obtain rfl := Option.some.inj H
 clear hr_
 go_enter Tryd.func10, Tryd.ntmps10
 try go_wp2_with (first | ((with_reducible refine gate_dst (N := 1) rfl ?_); refine box_event ?hg (N := 1) ?hd (cs := #[.slice A0_0 l0_0.length c0_0, .slice A0_1 l0_1.length c0_1]) (t := 75) ?hr ?_; (case hd => rfl); (case hg => rfl); (case hr => exact hr_); intro gb1 hg w15 hbox hb; have n0_ := bs_ hb; have n1_ := Aside0.mk (hbox); have n2_ := ge_ (w := w) hg; have n3_ := ge_ (w := w) hg; clear HB; have HB := n0_; have BK1 := n1_; have GW1 := n2_; have GE1 := n3_; clear n0_ n1_ n2_ n3_; clear hb hbox hg; obtain ⟨hcz16_0, hcz16_1, hfz16_0, hfz16_1⟩ := bc2_ BK1.out) | ((with_reducible refine gate_callee (f := 50) rfl ?_); refine goesL_ (some 9) rfl rfl Tryd.func50 (by kernel_rfl) rfl #[.agg #[.slice A0_0 l0_0.length c0_0, .slice A0_1 l0_1.length c0_1], .int .i64 1048576] rfl ar_ ?_; (with_reducible refine (laws_szMachine.calls k _ _ l0_0 _ _ l0_1 1048576 t2 _ ?side1 ?side2 ?side3 ?side4 A2.out).mono ?_); (case side1 => exact cb_); (case side2 => exact HC0_0.out); (case side3 => exact cb_); (case side4 => exact HC0_1.out); rintro e w17 ⟨rfl, hb⟩; refine ⟨_, rfl, ?_⟩; have n0_ := bb_ BK1.out hb; have n1_ := bs_ hb; clear BK1; clear HB; have BK1 := n0_; have HB := n1_; clear n0_ n1_; (try clear hb); (try clear hb2); (try clear hk); (try clear hi); obtain ⟨hcz18_0, hcz18_1, hfz18_0, hfz18_1⟩ := bc2_ BK1.out) | ((with_reducible refine gate_callee (f := 52) rfl ?_); refine goesL_ (some 13) rfl rfl Tryd.func52 (by kernel_rfl) rfl #[.agg #[.slice A0_0 l0_0.length c0_0, .slice A0_1 l0_1.length c0_1]] rfl ar_ ?_; (with_reducible refine (laws_toMachine.calls k _ _ l0_0 _ _ l0_1 t3 t6 _ ?side1 ?side2 ?side3 ?side4 A7.out).mono ?_); (case side1 => exact cb_); (case side2 => exact HC0_0.out); (case side3 => exact cb_); (case side4 => exact HC0_1.out); rintro e w19 ⟨v4, v7, rfl, ho0, ho1, hb⟩; refine ⟨_, rfl, ?_⟩; have n0_ := Aside0.mk (Kd.R_lower ho0 (below_size bw_)); have n1_ := Aside0.mk (Kd.S_lower ho1 (below_size bw_)); have n2_ := bb_ BK1.out hb; have n3_ := bs_ hb; clear BK1; clear HB; have HO5 := n0_; have HO8 := n1_; have BK1 := n2_; have HB := n3_; clear n0_ n1_ n2_ n3_; (try clear hb); (try clear hb2); (try clear hk); (try clear hi); (try clear ho0); (try clear ho1); obtain ⟨Ao20, co20, eo20⟩ := Kd.R_slice HO5.out; subst eo20; obtain ⟨Ao21, co21, eo21⟩ := Kd.S_slice HO8.out; subst eo21) | ((with_reducible refine gate_callee (f := 51) rfl ?_); refine goesL_ (some 14) rfl rfl Tryd.func51 (by kernel_rfl) rfl #[.agg #[.slice Ao20 t3.length co20, .slice Ao21 t6.length co21]] rfl ar_ ?_; (with_reducible refine (spec_OutcomeOf.calls k _ _ t3 _ _ t6 t9 _ ?side1 ?side2 ?side3 ?side4 A8.out).mono ?_); (case side1 => repeat (first | exact (Kd.R_reads' HO5.out).2.2 | (with_reducible refine Kd.C_alloc ?_ _) | (with_reducible refine Kd.C_drewN ?_ _) | (with_reducible refine Kd.C_drew ?_))); (case side2 => exact (Kd.R_reads' HO5.out).2.1); (case side3 => repeat (first | exact (Kd.S_reads' HO8.out).2.2 | (with_reducible refine Kd.C_alloc ?_ _) | (with_reducible refine Kd.C_drewN ?_ _) | (with_reducible refine Kd.C_drew ?_))); (case side4 => exact (Kd.S_reads' HO8.out).2.1); rintro e w22 ⟨rfl, hb⟩; refine ⟨_, rfl, ?_⟩; have n0_ := Aside0.mk (Kd.R_below (rx_ HO5.out) hb); have n1_ := Aside0.mk (Kd.S_below (sx_ HO8.out) hb); have n2_ := bb_ BK1.out hb; have n3_ := bs_ hb; clear HO5; clear HO8; clear BK1; clear HB; have HO5 := n0_; have HO8 := n1_; have BK1 := n2_; have HB := n3_; clear n0_ n1_ n2_ n3_; (try clear hb); (try clear hb2); (try clear hk); (try clear hi); obtain ⟨hcz23_0, hcz23_1, hfz23_0, hfz23_1⟩ := bc2_ BK1.out) | ((with_reducible refine gate_callee (f := 52) rfl ?_); refine goesL_ (some 16) rfl rfl Tryd.func52 (by kernel_rfl) rfl #[.agg #[.slice A0_0 l0_0.length c0_0, .slice A0_1 l0_1.length c0_1]] rfl ar_ ?_; (with_reducible refine (laws_toMachine.calls k _ _ l0_0 _ _ l0_1 t10 t13 _ ?side1 ?side2 ?side3 ?side4 A9.out).mono ?_); (case side1 => exact cb_); (case side2 => exact HC0_0.out); (case side3 => exact cb_); (case side4 => exact HC0_1.out); rintro e w24 ⟨v11, v14, rfl, ho0, ho1, hb⟩; refine ⟨_, rfl, ?_⟩; have n0_ := Aside0.mk (Kd.R_elder' (rx_ HO5.out) (Kd.R_base ho0) hb); have n1_ := Aside0.mk (Kd.S_mono (Kd.S_told (Kd.S_told (Kd.S_old (sx_ HO8.out) hb) (Kd.R_base ho0)) (Kd.S_base ho1)) (fun _ h_ => h_.1)); have n2_ := Aside0.mk (Kd.R_lower (Kd.R_new' ho0 (Kd.R_lt (rx_ HO5.out))) (below_size bw_)); have n3_ := Aside0.mk (Kd.S_lower (Kd.S_new' (Kd.S_new' ho1 (Kd.R_lt (rx_ HO5.out))) (Kd.S_lt (sx_ HO8.out))) (below_size bw_)); have n4_ := bb_ BK1.out hb; have n5_ := bs_ hb; clear HO5; clear HO8; clear BK1; clear HB; have HO5 := n0_; have HO8 := n1_; have HO12 := n2_; have HO15 := n3_; have BK1 := n4_; have HB := n5_; clear n0_ n1_ n2_ n3_ n4_ n5_; (try clear hb); (try clear hb2); (try clear hk); (try clear hi); (try clear ho0); (try clear ho1)) | ((with_reducible refine gate_dst (N := 5) rfl ?_); refine box_event ?hg (N := 5) ?hd (cs := #[.slice none 0 0, .slice none 0 0]) (t := 80) ?hr ?_; (case hd => rfl); (case hg => rfl); (case hr => exact hr_); intro gb16 hg w25 hbox hb; have n0_ := Aside0.mk (Kd.R_below (rx_ HO5.out) hb); have n1_ := Aside0.mk (Kd.S_below (sx_ HO8.out) hb); have n2_ := Aside0.mk (Kd.R_below (rx_ HO12.out) hb); have n3_ := Aside0.mk (Kd.S_below (sx_ HO15.out) hb); have n4_ := bb_ BK1.out hb; have n5_ := bs_ hb; have n6_ := Aside0.mk (hbox); have n7_ := ge_ (w := w) hg; have n8_ := ge_ (w := w) hg; have n9_ := nl_ BK1.out hg; have n10_ := nr_ BK1.out hg; clear HO5; clear HO8; clear HO12; clear HO15; clear BK1; clear HB; have HO5 := n0_; have HO8 := n1_; have HO12 := n2_; have HO15 := n3_; have BK1 := n4_; have HB := n5_; have BK16 := n6_; have GW16 := n7_; have GE16 := n8_; have NB1_16 := n9_; have NB16_1 := n10_; clear n0_ n1_ n2_ n3_ n4_ n5_ n6_ n7_ n8_ n9_ n10_; clear hb hbox hg; obtain ⟨Ao26, co26, eo26⟩ := Kd.R_slice HO12.out; subst eo26; have hnb27 := NB16_1.out; have hnc27 := NB1_16.out; obtain ⟨hcz28_0, hcz28_1, hfz28_0, hfz28_1⟩ := bc2_ BK16.out; obtain ⟨Ao29, co29, eo29⟩ := Kd.S_slice HO15.out; subst eo29) | ((with_reducible refine gate_callee (f := 53) rfl ?_); refine goesL_ (some 18) rfl rfl Tryd.func53 (by kernel_rfl) rfl #[.agg #[.slice Ao26 t10.length co26, .slice Ao29 t13.length co29]] rfl ar_ ?_; (with_reducible refine (impl_OutcomeOf.calls (hE_ := ee_) k _ _ t10 _ _ t13 t17 _ ?side1 ?side2 ?side3 ?side4 A10.out).mono ?_); (case side1 => refine (Kd.R_reads' (e := 3) (base := w.heap.size) (ok := fun k_ => (True ∧ some k_ ≠ (.slice Ao20 t3.length co20 : Value).ownBlock)) (n := t10.length) (c := co26) ?_).2.2; exact (by (with_reducible repeat (first | apply Kd.R_alloc | apply Kd.R_drewN | apply Kd.R_drew)); exact (Kd.R_mono (Kd.R_far (p := ⟨gb16, 1, none⟩) (Kd.R_far (p := ⟨gb16, 0, none⟩) (Kd.R_types HO12.out BK16.out (by decide)) (fun _ hk => hk.2) (.slice Ao26 t10.length co26)) (fun _ hk => hk.2) (.slice Ao29 t13.length co29)) (fun _ h_ => h_.1)))); (case side2 => exact (Kd.R_reads' HO12.out).2.1); (case side3 => refine (Kd.S_reads' (e := 133) (base := w.heap.size) (ok := fun k_ => ((some k_ ≠ (.slice Ao26 t10.length co26 : Value).ownBlock ∧ some k_ ≠ (.slice Ao20 t3.length co20 : Value).ownBlock) ∧ some k_ ≠ (.slice Ao21 t6.length co21 : Value).ownBlock)) (n := t13.length) (c := co29) ?_).2.2; exact (by (with_reducible repeat (first | apply Kd.S_alloc | apply Kd.S_drewN | apply Kd.S_drew)); exact (Kd.S_mono (Kd.S_far (p := ⟨gb16, 1, none⟩) (Kd.S_far (p := ⟨gb16, 0, none⟩) (Kd.S_types HO15.out BK16.out (by decide)) (fun _ hk => hk.2) (.slice Ao26 t10.length co26)) (fun _ hk => hk.2) (.slice Ao29 t13.length co29)) (fun _ h_ => h_.1)))); (case side4 => exact (Kd.S_reads' HO15.out).2.1); rintro e w30 ⟨rfl, hb⟩; refine ⟨_, rfl, ?_⟩; have n0_ := Aside0.mk (Kd.R_below (by (with_reducible repeat (first | apply Kd.R_alloc | apply Kd.R_drewN | apply Kd.R_drew)); exact (Kd.R_mono (Kd.R_far (p := ⟨gb16, 1, none⟩) (Kd.R_far (p := ⟨gb16, 0, none⟩) (Kd.R_types HO5.out BK16.out (by decide)) (fun _ hk => hk.2) (.slice Ao26 t10.length co26)) (fun _ hk => hk.2) (.slice Ao29 t13.length co29)) (fun _ h_ => h_.1))) hb); have n1_ := Aside0.mk (Kd.S_below (by (with_reducible repeat (first | apply Kd.S_alloc | apply Kd.S_drewN | apply Kd.S_drew)); exact (Kd.S_mono (Kd.S_far (p := ⟨gb16, 1, none⟩) (Kd.S_far (p := ⟨gb16, 0, none⟩) (Kd.S_types HO8.out BK16.out (by decide)) (fun _ hk => hk.2) (.slice Ao26 t10.length co26)) (fun _ hk => hk.2) (.slice Ao29 t13.length co29)) (fun _ h_ => h_.1))) hb); have n2_ := Aside0.mk (Kd.R_below (by (with_reducible repeat (first | apply Kd.R_alloc | apply Kd.R_drewN | apply Kd.R_drew)); exact (Kd.R_mono (Kd.R_far (p := ⟨gb16, 1, none⟩) (Kd.R_far (p := ⟨gb16, 0, none⟩) (Kd.R_types HO12.out BK16.out (by decide)) (fun _ hk => hk.2) (.slice Ao26 t10.length co26)) (fun _ hk => hk.2) (.slice Ao29 t13.length co29)) (fun _ h_ => h_.1))) hb); have n3_ := Aside0.mk (Kd.S_below (by (with_reducible repeat (first | apply Kd.S_alloc | apply Kd.S_drewN | apply Kd.S_drew)); exact (Kd.S_mono (Kd.S_far (p := ⟨gb16, 1, none⟩) (Kd.S_far (p := ⟨gb16, 0, none⟩) (Kd.S_types HO15.out BK16.out (by decide)) (fun _ hk => hk.2) (.slice Ao26 t10.length co26)) (fun _ hk => hk.2) (.slice Ao29 t13.length co29)) (fun _ h_ => h_.1))) hb); have n4_ := Aside0.mk (blk_below (g := gb1) (o := .cells #[.slice A0_0 l0_0.length c0_0, .slice A0_1 l0_1.length c0_1] 75 (0, 0)) (by (with_reducible repeat (first | refine blk_drewN ?_ _ | refine blk_drew ?_ | refine blk_alloc ?_ _)); refine blk_far ?_ NB1_16.out _; (with_reducible repeat (first | refine blk_drewN ?_ _ | refine blk_drew ?_ | refine blk_alloc ?_ _)); refine blk_far ?_ NB1_16.out _; (with_reducible repeat (first | refine blk_drewN ?_ _ | refine blk_drew ?_ | refine blk_alloc ?_ _)); exact BK1.out) hb); have n5_ := Aside0.mk (blk_below (g := gb16) (o := .cells #[.slice Ao26 t10.length co26, .slice Ao29 t13.length co29] 80 (0, 0)) (by (with_reducible repeat (first | refine blk_drewN ?_ _ | refine blk_drew ?_ | refine blk_alloc ?_ _)); refine blk_put (cs := #[.slice Ao26 t10.length co26, .slice none 0 0]) ?_ 1 _ rfl; (with_reducible repeat (first | refine blk_drewN ?_ _ | refine blk_drew ?_ | refine blk_alloc ?_ _)); refine blk_put (cs := #[.slice none 0 0, .slice none 0 0]) ?_ 0 _ rfl; (with_reducible repeat (first | refine blk_drewN ?_ _ | refine blk_drew ?_ | refine blk_alloc ?_ _)); exact BK16.out) hb); have n6_ := bs_ hb; clear HO5; clear HO8; clear HO12; clear HO15; clear BK1; clear BK16; clear HB; have HO5 := n0_; have HO8 := n1_; have HO12 := n2_; have HO15 := n3_; have BK1 := n4_; have BK16 := n5_; have HB := n6_; clear n0_ n1_ n2_ n3_ n4_ n5_ n6_; (try clear hb); (try clear hb2); (try clear hk); (try clear hi)))
 have n0_ := Aside0.mk (Kd.R_drew HO5.out)
 have n1_ := Aside0.mk (Kd.S_drew HO8.out)
 have n2_ := Aside0.mk (Kd.R_drew HO12.out)
 have n3_ := Aside0.mk (Kd.S_drew HO15.out)
 have n4_ := Aside0.mk (blk_drew BK1.out)
 have n5_ := Aside0.mk (blk_drew BK16.out)
 have n6_ := Aside0.mk (below_drew1 HB.out)
 clear HO5
 clear HO8
 clear HO12
 clear HO15
 clear BK1
 clear BK16
 clear HB
 have HO5 := n0_
 have HO8 := n1_
 have HO12 := n2_
 have HO15 := n3_
 have BK1 := n4_
 have BK16 := n5_
 have HB := n6_
 clear n0_ n1_ n2_ n3_ n4_ n5_ n6_
 refine start_ (n := 5) (S := fun w' => w'.cell? ⟨gb16, 0, none⟩ = some (.slice Ao26 t10.length co26) ∧ w'.cell? ⟨gb16, 1, none⟩ = some (.slice Ao29 t13.length co29) ∧ w'.cell? ⟨gb1, 0, none⟩ = some (.slice A0_0 l0_0.length c0_0) ∧ w'.cell? ⟨gb1, 1, none⟩ = some (.slice A0_1 l0_1.length c0_1)) (ds := []) #[false, false, false, false, false] (by kernel_rfl) rfl rfl ⟨(blk_cell BK16.out 0).trans rfl, (blk_cell BK16.out 1).trans rfl, (blk_cell BK1.out 0).trans rfl, (blk_cell BK1.out 1).trans rfl⟩ (fun hHeld => ?_)
 generalize w30.drew = w31 at HO5 HO8 HO12 HO15 BK1 BK16 HB hHeld ⊢
 refine take_ (i := 0) (N := some 22) (v := ?_) (a' := ?_) (bm_ 5 1) rfl rfl (by kernel_rfl) (fun _ _ _ h => h) (Or.inl ⟨by rfl, ?_⟩) hHeld ?_ ?_
 rotate_left
 ·rintro w' ⟨s0, s1, s2, s3⟩
  go_simp
  with_reducible rfl
 rotate_left
 ·exact pu_
 refine take_ (i := 1) (N := some 23) (v := ?_) (a' := ?_) (bm_ 5 3) rfl rfl (by kernel_rfl) (fun _ _ _ h => h) (Or.inl ⟨by rfl, ?_⟩) hHeld ?_ ?_
 rotate_left
 ·rintro w' ⟨s0, s1, s2, s3⟩
  go_simp
  with_reducible rfl
 rotate_left
 ·exact pu_
 refine one_ (i := 2) (N := some 24) (bm_ 5 7) rfl rfl (by kernel_rfl) (by decide) (fun K hK => ?_)
 refine goes_ Tryd.func52 (by kernel_rfl) rfl #[.agg #[.slice A0_0 l0_0.length c0_0, .slice A0_1 l0_1.length c0_1]] (by rfl) rfl rfl ar_ ?_
 with_reducible refine (laws_toMachine.calls k _ _ l0_0 _ _ l0_1 t18 t21 _ ?side1 ?side2 ?side3 ?side4 A12.out).mono ?_
 (case side1 => exact cb_)
 (case side2 => exact HC0_0.out)
 (case side3 => exact cb_)
 (case side4 => exact HC0_1.out)
 rintro e w32 ⟨v19, v22, rfl, ho0, ho1, hb⟩
 refine ⟨_, rfl, ?_⟩
 have n0_ := Aside0.mk (Kd.R_elder' (rx_ HO5.out) (Kd.R_base ho0) hb)
 have n1_ := Aside0.mk (Kd.S_mono (Kd.S_told (Kd.S_told (Kd.S_old (sx_ HO8.out) hb) (Kd.R_base ho0)) (Kd.S_base ho1)) (fun _ h_ => h_.1))
 have n2_ := Aside0.mk (Kd.R_elder' (rx_ HO12.out) (Kd.R_base ho0) hb)
 have n3_ := Aside0.mk (Kd.S_mono (Kd.S_told (Kd.S_told (Kd.S_old (sx_ HO15.out) hb) (Kd.R_base ho0)) (Kd.S_base ho1)) (fun _ h_ => h_.1))
 have n4_ := Aside0.mk (Kd.R_lower (Kd.R_new' (Kd.R_new' ho0 (Kd.R_lt (rx_ HO5.out))) (Kd.R_lt (rx_ HO12.out))) (below_size bw_))
 have n5_ := Aside0.mk (Kd.S_lower (Kd.S_new' (Kd.S_new' (Kd.S_new' (Kd.S_new' ho1 (Kd.R_lt (rx_ HO5.out))) (Kd.S_lt (sx_ HO8.out))) (Kd.R_lt (rx_ HO12.out))) (Kd.S_lt (sx_ HO15.out))) (below_size bw_))
 have n6_ := bb_ BK1.out hb
 have n7_ := bb_ BK16.out hb
 have n8_ := bs_ hb
 clear HO5
 clear HO8
 clear HO12
 clear HO15
 clear BK1
 clear BK16
 clear HB
 have HO5 := n0_
 have HO8 := n1_
 have HO12 := n2_
 have HO15 := n3_
 have HO20 := n4_
 have HO23 := n5_
 have BK1 := n6_
 have BK16 := n7_
 have HB := n8_
 clear n0_ n1_ n2_ n3_ n4_ n5_ n6_ n7_ n8_
 (try clear hb)
 (try clear hb2)
 (try clear hk)
 (try clear hi)
 (try clear ho0)
 (try clear ho1)
 obtain ⟨Ao33, co33, eo33⟩ := Kd.R_slice HO20.out
 (first | subst eo33 | (injection eo33 with f1_ f2_ f3_; have f4_ := f1_.symm; have f5_ := f3_.symm; clear f1_ f2_ f3_; subst f4_; subst f5_))
 obtain ⟨Ao34, co34, eo34⟩ := Kd.S_slice HO23.out
 (first | subst eo34 | (injection eo34 with f1_ f2_ f3_; have f4_ := f1_.symm; have f5_ := f3_.symm; clear f1_ f2_ f3_; subst f4_; subst f5_))
 refine hK.out _ _ ⟨(blk_cell BK16.out 0).trans rfl, (blk_cell BK16.out 1).trans rfl, (blk_cell BK1.out 0).trans rfl, (blk_cell BK1.out 1).trans rfl⟩ (fun hHeld => ?_)
 clear hK K
 refine norm_ (a' := ?_) ?_ ?_
 rotate_left
 ·show Act.put _ (some 24) _ = _
  simp only [Act.put, List.setIfInBounds_toArray, List.set_cons_zero, List.set_cons_succ, i64_w, i32_w]
  rfl
 refine one_ (i := 3) (N := some 25) (bm_ 5 15) rfl rfl (by kernel_rfl) (by decide) (fun K hK => ?_)
 refine goes_ Tryd.func54 (by kernel_rfl) rfl #[.agg #[.slice Ao26 t10.length co26, .slice Ao29 t13.length co29], .agg #[.slice Ao33 t18.length co33, .slice Ao34 t21.length co34]] (by rfl) rfl rfl ar_ ?_
 with_reducible refine (laws_eqMachine.calls k _ _ t10 _ _ t13 _ _ t18 _ _ t21 true _ ?side1 ?side2 ?side3 ?side4 ?side5 ?side6 ?side7 ?side8 A13.out).mono ?_
 (case side1 => repeat (first | exact (Kd.R_reads' HO12.out).2.2 | (with_reducible refine Kd.C_alloc ?_ _) | (with_reducible refine Kd.C_drewN ?_ _) | (with_reducible refine Kd.C_drew ?_)))
 (case side2 => exact (Kd.R_reads' HO12.out).2.1)
 (case side3 => repeat (first | exact (Kd.S_reads' HO15.out).2.2 | (with_reducible refine Kd.C_alloc ?_ _) | (with_reducible refine Kd.C_drewN ?_ _) | (with_reducible refine Kd.C_drew ?_)))
 (case side4 => exact (Kd.S_reads' HO15.out).2.1)
 (case side5 => repeat (first | exact (Kd.R_reads' HO20.out).2.2 | (with_reducible refine Kd.C_alloc ?_ _) | (with_reducible refine Kd.C_drewN ?_ _) | (with_reducible refine Kd.C_drew ?_)))
 (case side6 => exact (Kd.R_reads' HO20.out).2.1)
 (case side7 => repeat (first | exact (Kd.S_reads' HO23.out).2.2 | (with_reducible refine Kd.C_alloc ?_ _) | (with_reducible refine Kd.C_drewN ?_ _) | (with_reducible refine Kd.C_drew ?_)))
 (case side8 => exact (Kd.S_reads' HO23.out).2.1)
 rintro e w35 ⟨rfl, hb⟩
 refine ⟨_, rfl, ?_⟩
 have n0_ := Aside0.mk (Kd.R_below (rx_ HO5.out) hb)
 have n1_ := Aside0.mk (Kd.S_below (sx_ HO8.out) hb)
 have n2_ := Aside0.mk (Kd.R_below (rx_ HO12.out) hb)
 have n3_ := Aside0.mk (Kd.S_below (sx_ HO15.out) hb)
 have n4_ := Aside0.mk (Kd.R_below (rx_ HO20.out) hb)
 have n5_ := Aside0.mk (Kd.S_below (sx_ HO23.out) hb)
 have n6_ := bb_ BK1.out hb
 have n7_ := bb_ BK16.out hb
 have n8_ := bs_ hb
 clear HO5
 clear HO8
 clear HO12
 clear HO15
 clear HO20
 clear HO23
 clear BK1
 clear BK16
 clear HB
 have HO5 := n0_
 have HO8 := n1_
 have HO12 := n2_
 have HO15 := n3_
 have HO20 := n4_
 have HO23 := n5_
 have BK1 := n6_
 have BK16 := n7_
 have HB := n8_
 clear n0_ n1_ n2_ n3_ n4_ n5_ n6_ n7_ n8_
 (try clear hb)
 (try clear hb2)
 (try clear hk)
 (try clear hi)
 refine hK.out _ _ ⟨(blk_cell BK16.out 0).trans rfl, (blk_cell BK16.out 1).trans rfl, (blk_cell BK1.out 0).trans rfl, (blk_cell BK1.out 1).trans rfl⟩ (fun hHeld => ?_)
 clear hK K
 refine norm_ (a' := ?_) ?_ ?_
 rotate_left
 ·show Act.put _ (some 25) _ = _
  simp only [Act.put, List.setIfInBounds_toArray, List.set_cons_zero, List.set_cons_succ, i64_w, i32_w]
  rfl
 refine pure_ (i := 4) (N := some 26) (v := ?_) (a' := ?_) (bm_ 5 31) rfl rfl (by kernel_rfl) (fun _ _ _ h => h) (Or.inl ⟨by rfl, ?_⟩) ?_ ?_
 rotate_left
 ·intro w'
  go_simp
  with_reducible rfl
 rotate_left
 ·exact pu_
 refine done_ (by kernel_rfl) ?_
 try go_wp2
 go_ret
 exact ⟨rr_, bw_⟩

end Go.Proofs.YtchpopocnaoabaaDoor.P
