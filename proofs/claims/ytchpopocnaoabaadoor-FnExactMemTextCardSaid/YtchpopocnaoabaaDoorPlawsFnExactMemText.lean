-- Written by mp.py (the session's own driver over the kit's printer) for the seat YtchpopocnaoabaaDoor.
import Derived.Test.YtchpopocnaoabaaDoorK
import Derived.Test.YtchpopocnaoabaaDoorPimplMemOk
import Derived.Test.YtchpopocnaoabaaDoorPlawsszIntS
import Derived.Test.YtchpopocnaoabaaDoorPlawstoMem
import Derived.Test.YtchpopocnaoabaaDoorEnv
namespace Go.Proofs.YtchpopocnaoabaaDoor.P
open Go.RowKit Go.Proofs.YtchpopocnaoabaaDoorW.PrintWords Go.Proofs.YtchpopocnaoabaaDoorW.PrintLast Go.Proofs.YtchpopocnaoabaaDoorW.PrintMore
attribute [local go_sem] max2_int min2_int max_two min_two max_three min_three max_four min_four
set_option linter.unusedVariables false
set_option linter.unusedSimpArgs false

/-! ### laws_FnExactMemText: function 7 -/
def laws_FnExactMemText.f (k : Nat) (l0_0 : List Int) : Option (Bool) := (laws_szMem.f l0_0 1048576).bind fun t2 => (if t2 < 0 then (some true) else ((laws_toMem.f k l0_0).bind fun t3 => ((spec_MemText.f k t3).bind fun t6 => ((laws_toMem.f k l0_0).bind fun t7 => ((impl_MemText.f k t7).bind fun t11 => (if t11.toList = t6.toList then ((laws_toMem.f k l0_0).bind fun t12 => ((laws_eqMem.f k t7 t12).bind fun t15 => (if t15 = true then (some true) else (some false)))) else (some false)))))))
theorem laws_FnExactMemText.mono : ∀ a0 k, LeO (laws_FnExactMemText.f k a0) (laws_FnExactMemText.f (k + 1) a0) := by
 intro a0 k
 unfold laws_FnExactMemText.f
 repeat' first | (with_reducible first | exact impl_MemText.mono _ _ | exact laws_eqMem.mono _ _ _ | exact laws_toMem.mono _ _ | exact spec_MemText.mono _ _ | exact lr_ | exact ln_ | refine LeO.ite ?_ ?_ | refine LeO.bind ?_ (fun _ => ?_)) | exact impl_MemText.mono _ _ | exact laws_eqMem.mono _ _ _ | exact laws_toMem.mono _ _ | exact spec_MemText.mono _ _ | exact ln_ | refine LeO.ite ?_ ?_ | refine LeO.bind ?_ (fun _ => ?_)
set_option maxHeartbeats 8000000 in
set_option maxRecDepth 100000 in
theorem laws_FnExactMemText.calls (k : Nat) (A0_0 : Option Addr) (c0_0 : Nat) (l0_0 : List Int) (r : Bool) (w : World) (hE_ : EnvOk false w) (hr0_0 : Kd.C (Kd.int .i64) w A0_0 l0_0.length l0_0) (hc0_0 : l0_0.length ≤ c0_0) (h : laws_FnExactMemText.f k l0_0 = some r) (hr_ : r = true) :
  Calls Tryd.prog 7 #[.agg #[.slice A0_0 l0_0.length c0_0]] w fun e w' => e = .returned (.bool r) ∧ Below w.heap.size w w' := by
 have HE_ := Aside0.mk hE_
 clear hE_
 have hu57 := Tryd.underlying57
 have hu60 := Tryd.underlying60
 have HR0_0 := Aside0.mk hr0_0
 have HC0_0 := Aside0.mk hc0_0
 clear hr0_0 hc0_0
 have HB := Aside0.mk (Below.refl w.heap.size w)
 have H : ((laws_szMem.f l0_0 1048576).bind fun t2 => (if t2 < 0 then (some true) else ((laws_toMem.f k l0_0).bind fun t3 => ((spec_MemText.f k t3).bind fun t6 => ((laws_toMem.f k l0_0).bind fun t7 => ((impl_MemText.f k t7).bind fun t11 => (if t11.toList = t6.toList then ((laws_toMem.f k l0_0).bind fun t12 => ((laws_eqMem.f k t7 t12).bind fun t15 => (if t15 = true then (some true) else (some false)))) else (some false)))))))) = some r := h
 clear h
 replace H := Option.bind_eq_some_iff.mp H
 obtain ⟨t2, A20, H⟩ := H
 replace H : (if t2 < 0 then (some true) else ((laws_toMem.f k l0_0).bind fun t3 => ((spec_MemText.f k t3).bind fun t6 => ((laws_toMem.f k l0_0).bind fun t7 => ((impl_MemText.f k t7).bind fun t11 => (if t11.toList = t6.toList then ((laws_toMem.f k l0_0).bind fun t12 => ((laws_eqMem.f k t7 t12).bind fun t15 => (if t15 = true then (some true) else (some false)))) else (some false))))))) = some r := H
 have A2 := Aside0.mk A20
 clear A20
 by_cases c3 : t2 < 0
 ·rw [if_pos c3] at H
  have c3b0 : decide (t2 < 0) = true := decide_eq_true c3
  clear c3
  obtain rfl := Option.some.inj H
  clear hr_
  go_enter Tryd.func7, Tryd.ntmps7
  go_wp2_with (first | ((with_reducible refine gate_dst (N := 1) rfl ?_); refine box_event ?hg (N := 1) ?hd (cs := #[.slice A0_0 l0_0.length c0_0]) (t := 57) ?hr ?_; (case hd => rfl); (case hg => rfl); (case hr => exact hr_); intro gb1 hg w4 hbox hb; have n0_ := bs_ hb; have n1_ := Aside0.mk (hbox); have n2_ := ge_ (w := w) hg; have n3_ := ge_ (w := w) hg; clear HB; have HB := n0_; have BK1 := n1_; have GW1 := n2_; have GE1 := n3_; clear n0_ n1_ n2_ n3_; clear hb hbox hg; obtain ⟨hcz5_0, hfz5_0⟩ := bc1_ BK1.out) | ((with_reducible refine gate_callee (f := 37) rfl ?_); refine goesL_ (some 9) rfl rfl Tryd.func37 (by kernel_rfl) rfl #[.agg #[.slice A0_0 l0_0.length c0_0], .int .i64 1048576] rfl ar_ ?_; (with_reducible refine (laws_szMem.calls _ _ l0_0 1048576 t2 _ ?side1 ?side2 A2.out).mono ?_); (case side1 => exact cb_); (case side2 => exact HC0_0.out); rintro e w6 ⟨rfl, hb⟩; refine ⟨_, rfl, ?_⟩; have n0_ := bb_ BK1.out hb; have n1_ := bs_ hb; clear BK1; clear HB; have BK1 := n0_; have HB := n1_; clear n0_ n1_; (try clear hb); (try clear hb2); (try clear hk); (try clear hi)))
  go_ret
  exact ⟨rr_, bw_⟩
 rw [if_neg c3] at H
 have c3b0 : decide (t2 < 0) = false := decide_eq_false c3
 clear c3
 replace H := Option.bind_eq_some_iff.mp H
 obtain ⟨t3, A70, H⟩ := H
 replace H : ((spec_MemText.f k t3).bind fun t6 => ((laws_toMem.f k l0_0).bind fun t7 => ((impl_MemText.f k t7).bind fun t11 => (if t11.toList = t6.toList then ((laws_toMem.f k l0_0).bind fun t12 => ((laws_eqMem.f k t7 t12).bind fun t15 => (if t15 = true then (some true) else (some false)))) else (some false))))) = some r := H
 have A7 := Aside0.mk A70
 clear A70
 replace H := Option.bind_eq_some_iff.mp H
 obtain ⟨t6, A80, H⟩ := H
 replace H : ((laws_toMem.f k l0_0).bind fun t7 => ((impl_MemText.f k t7).bind fun t11 => (if t11.toList = t6.toList then ((laws_toMem.f k l0_0).bind fun t12 => ((laws_eqMem.f k t7 t12).bind fun t15 => (if t15 = true then (some true) else (some false)))) else (some false)))) = some r := H
 have A8 := Aside0.mk A80
 clear A80
 replace H := Option.bind_eq_some_iff.mp H
 obtain ⟨t7, A90, H⟩ := H
 replace H : ((impl_MemText.f k t7).bind fun t11 => (if t11.toList = t6.toList then ((laws_toMem.f k l0_0).bind fun t12 => ((laws_eqMem.f k t7 t12).bind fun t15 => (if t15 = true then (some true) else (some false)))) else (some false))) = some r := H
 have A9 := Aside0.mk A90
 clear A90
 replace H := Option.bind_eq_some_iff.mp H
 obtain ⟨t11, A100, H⟩ := H
 replace H : (if t11.toList = t6.toList then ((laws_toMem.f k l0_0).bind fun t12 => ((laws_eqMem.f k t7 t12).bind fun t15 => (if t15 = true then (some true) else (some false)))) else (some false)) = some r := H
 have A10 := Aside0.mk A100
 clear A100
 by_cases c11 : t11.toList = t6.toList
 rotate_left
 ·rw [if_neg c11] at H
  have c11b0 : (t11.toList == t6.toList) = false := beq_eq_false_iff_ne.mpr c11
  have c11b1 : (t11.toList != t6.toList) = true := bne_iff_ne.mpr c11
  obtain rfl := Option.some.inj H
  exact absurd hr_ (by decide)
 rw [if_pos c11] at H
 have c11b0 : (t11.toList == t6.toList) = true := beq_iff_eq.mpr c11
 have c11b1 : (t11.toList != t6.toList) = false := bne_eq_false_iff_eq.mpr c11
 clear c11
 replace H := Option.bind_eq_some_iff.mp H
 obtain ⟨t12, A120, H⟩ := H
 replace H : ((laws_eqMem.f k t7 t12).bind fun t15 => (if t15 = true then (some true) else (some false))) = some r := H
 have A12 := Aside0.mk A120
 clear A120
 replace H := Option.bind_eq_some_iff.mp H
 obtain ⟨t15, A130, H⟩ := H
 replace H : (if t15 = true then (some true) else (some false)) = some r := H
 have A13 := Aside0.mk A130
 clear A130
 by_cases c14 : t15 = true
 rotate_left
 ·replace c14 := Bool.eq_false_iff.mpr c14
  subst c14
  have H1 : (some false) = some r := by rw [if_neg (show ¬ (false = true) by decide)] at H; exact H
  clear H
  have H := H1
  clear H1
  obtain rfl := Option.some.inj H
  exact absurd hr_ (by decide)
 subst c14
 have H1 : (some true) = some r := by rw [if_pos rfl] at H; exact H
 clear H
 have H := H1
 clear H1
 obtain rfl := Option.some.inj H
 clear hr_
 go_enter Tryd.func7, Tryd.ntmps7
 try go_wp2_with (first | ((with_reducible refine gate_dst (N := 1) rfl ?_); refine box_event ?hg (N := 1) ?hd (cs := #[.slice A0_0 l0_0.length c0_0]) (t := 57) ?hr ?_; (case hd => rfl); (case hg => rfl); (case hr => exact hr_); intro gb1 hg w15 hbox hb; have n0_ := bs_ hb; have n1_ := Aside0.mk (hbox); have n2_ := ge_ (w := w) hg; have n3_ := ge_ (w := w) hg; clear HB; have HB := n0_; have BK1 := n1_; have GW1 := n2_; have GE1 := n3_; clear n0_ n1_ n2_ n3_; clear hb hbox hg; obtain ⟨hcz16_0, hfz16_0⟩ := bc1_ BK1.out) | ((with_reducible refine gate_callee (f := 37) rfl ?_); refine goesL_ (some 9) rfl rfl Tryd.func37 (by kernel_rfl) rfl #[.agg #[.slice A0_0 l0_0.length c0_0], .int .i64 1048576] rfl ar_ ?_; (with_reducible refine (laws_szMem.calls _ _ l0_0 1048576 t2 _ ?side1 ?side2 A2.out).mono ?_); (case side1 => exact cb_); (case side2 => exact HC0_0.out); rintro e w17 ⟨rfl, hb⟩; refine ⟨_, rfl, ?_⟩; have n0_ := bb_ BK1.out hb; have n1_ := bs_ hb; clear BK1; clear HB; have BK1 := n0_; have HB := n1_; clear n0_ n1_; (try clear hb); (try clear hb2); (try clear hk); (try clear hi); obtain ⟨hcz18_0, hfz18_0⟩ := bc1_ BK1.out) | ((with_reducible refine gate_callee (f := 39) rfl ?_); refine goesL_ (some 13) rfl rfl Tryd.func39 (by kernel_rfl) rfl #[.agg #[.slice A0_0 l0_0.length c0_0]] rfl ar_ ?_; (with_reducible refine (laws_toMem.calls k _ _ l0_0 t3 _ ?side1 ?side2 A7.out).mono ?_); (case side1 => exact cb_); (case side2 => exact HC0_0.out); rintro e w19 ⟨v4, rfl, ho0, hb⟩; refine ⟨_, rfl, ?_⟩; have n0_ := Aside0.mk (Kd.R_lower ho0 (below_size bw_)); have n1_ := bb_ BK1.out hb; have n2_ := bs_ hb; clear BK1; clear HB; have HO5 := n0_; have BK1 := n1_; have HB := n2_; clear n0_ n1_ n2_; (try clear hb); (try clear hb2); (try clear hk); (try clear hi); (try clear ho0); obtain ⟨Ao20, co20, eo20⟩ := Kd.R_slice HO5.out; subst eo20) | ((with_reducible refine gate_callee (f := 38) rfl ?_); refine goesL_ (some 14) rfl rfl Tryd.func38 (by kernel_rfl) rfl #[.agg #[.slice Ao20 t3.length co20]] rfl ar_ ?_; (with_reducible refine (spec_MemText.calls k _ _ t3 t6 _ ?side1 ?side2 A8.out).mono ?_); (case side1 => repeat (first | exact (Kd.R_reads' HO5.out).2.2 | (with_reducible refine Kd.C_alloc ?_ _) | (with_reducible refine Kd.C_drewN ?_ _) | (with_reducible refine Kd.C_drew ?_))); (case side2 => exact (Kd.R_reads' HO5.out).2.1); rintro e w21 ⟨rfl, hb⟩; refine ⟨_, rfl, ?_⟩; have n0_ := Aside0.mk (Kd.R_below (rx_ HO5.out) hb); have n1_ := bb_ BK1.out hb; have n2_ := bs_ hb; clear HO5; clear BK1; clear HB; have HO5 := n0_; have BK1 := n1_; have HB := n2_; clear n0_ n1_ n2_; (try clear hb); (try clear hb2); (try clear hk); (try clear hi); obtain ⟨hcz22_0, hfz22_0⟩ := bc1_ BK1.out) | ((with_reducible refine gate_callee (f := 39) rfl ?_); refine goesL_ (some 16) rfl rfl Tryd.func39 (by kernel_rfl) rfl #[.agg #[.slice A0_0 l0_0.length c0_0]] rfl ar_ ?_; (with_reducible refine (laws_toMem.calls k _ _ l0_0 t7 _ ?side1 ?side2 A9.out).mono ?_); (case side1 => exact cb_); (case side2 => exact HC0_0.out); rintro e w23 ⟨v8, rfl, ho0, hb⟩; refine ⟨_, rfl, ?_⟩; have n0_ := Aside0.mk (Kd.R_elder' (rx_ HO5.out) (Kd.R_base ho0) hb); have n1_ := Aside0.mk (Kd.R_lower (Kd.R_new' ho0 (Kd.R_lt (rx_ HO5.out))) (below_size bw_)); have n2_ := bb_ BK1.out hb; have n3_ := bs_ hb; clear HO5; clear BK1; clear HB; have HO5 := n0_; have HO9 := n1_; have BK1 := n2_; have HB := n3_; clear n0_ n1_ n2_ n3_; (try clear hb); (try clear hb2); (try clear hk); (try clear hi); (try clear ho0)) | ((with_reducible refine gate_dst (N := 5) rfl ?_); refine box_event ?hg (N := 5) ?hd (cs := #[.slice none 0 0]) (t := 60) ?hr ?_; (case hd => rfl); (case hg => rfl); (case hr => exact hr_); intro gb10 hg w24 hbox hb; have n0_ := Aside0.mk (Kd.R_below (rx_ HO5.out) hb); have n1_ := Aside0.mk (Kd.R_below (rx_ HO9.out) hb); have n2_ := bb_ BK1.out hb; have n3_ := bs_ hb; have n4_ := Aside0.mk (hbox); have n5_ := ge_ (w := w) hg; have n6_ := ge_ (w := w) hg; have n7_ := nl_ BK1.out hg; have n8_ := nr_ BK1.out hg; clear HO5; clear HO9; clear BK1; clear HB; have HO5 := n0_; have HO9 := n1_; have BK1 := n2_; have HB := n3_; have BK10 := n4_; have GW10 := n5_; have GE10 := n6_; have NB1_10 := n7_; have NB10_1 := n8_; clear n0_ n1_ n2_ n3_ n4_ n5_ n6_ n7_ n8_; clear hb hbox hg; obtain ⟨Ao25, co25, eo25⟩ := Kd.R_slice HO9.out; subst eo25; have hnb26 := NB10_1.out; have hnc26 := NB1_10.out; obtain ⟨hcz27_0, hfz27_0⟩ := bc1_ BK10.out) | ((with_reducible refine gate_callee (f := 40) rfl ?_); refine goesL_ (some 18) rfl rfl Tryd.func40 (by kernel_rfl) rfl #[.agg #[.slice Ao25 t7.length co25]] rfl ar_ ?_; (with_reducible refine (impl_MemText.calls (hE_ := ee_) k _ _ t7 t11 _ ?side1 ?side2 A10.out).mono ?_); (case side1 => refine (Kd.R_reads' (e := 3) (base := w.heap.size) (ok := fun k_ => (True ∧ some k_ ≠ (.slice Ao20 t3.length co20 : Value).ownBlock)) (n := t7.length) (c := co25) ?_).2.2; exact (by (with_reducible repeat (first | apply Kd.R_alloc | apply Kd.R_drewN | apply Kd.R_drew)); exact (Kd.R_mono (Kd.R_far (p := ⟨gb10, 0, none⟩) (Kd.R_types HO9.out BK10.out (by decide)) (fun _ hk => hk.2) (.slice Ao25 t7.length co25)) (fun _ h_ => h_.1)))); (case side2 => exact (Kd.R_reads' HO9.out).2.1); rintro e w28 ⟨rfl, hb⟩; refine ⟨_, rfl, ?_⟩; have n0_ := Aside0.mk (Kd.R_below (by (with_reducible repeat (first | apply Kd.R_alloc | apply Kd.R_drewN | apply Kd.R_drew)); exact (Kd.R_mono (Kd.R_far (p := ⟨gb10, 0, none⟩) (Kd.R_types HO5.out BK10.out (by decide)) (fun _ hk => hk.2) (.slice Ao25 t7.length co25)) (fun _ h_ => h_.1))) hb); have n1_ := Aside0.mk (Kd.R_below (by (with_reducible repeat (first | apply Kd.R_alloc | apply Kd.R_drewN | apply Kd.R_drew)); exact (Kd.R_mono (Kd.R_far (p := ⟨gb10, 0, none⟩) (Kd.R_types HO9.out BK10.out (by decide)) (fun _ hk => hk.2) (.slice Ao25 t7.length co25)) (fun _ h_ => h_.1))) hb); have n2_ := Aside0.mk (blk_below (g := gb1) (o := .cells #[.slice A0_0 l0_0.length c0_0] 57 (0, 0)) (by (with_reducible repeat (first | refine blk_drewN ?_ _ | refine blk_drew ?_ | refine blk_alloc ?_ _)); refine blk_far ?_ NB1_10.out _; (with_reducible repeat (first | refine blk_drewN ?_ _ | refine blk_drew ?_ | refine blk_alloc ?_ _)); exact BK1.out) hb); have n3_ := Aside0.mk (blk_below (g := gb10) (o := .cells #[.slice Ao25 t7.length co25] 60 (0, 0)) (by (with_reducible repeat (first | refine blk_drewN ?_ _ | refine blk_drew ?_ | refine blk_alloc ?_ _)); refine blk_put (cs := #[.slice none 0 0]) ?_ 0 _ rfl; (with_reducible repeat (first | refine blk_drewN ?_ _ | refine blk_drew ?_ | refine blk_alloc ?_ _)); exact BK10.out) hb); have n4_ := bs_ hb; clear HO5; clear HO9; clear BK1; clear BK10; clear HB; have HO5 := n0_; have HO9 := n1_; have BK1 := n2_; have BK10 := n3_; have HB := n4_; clear n0_ n1_ n2_ n3_ n4_; (try clear hb); (try clear hb2); (try clear hk); (try clear hi)))
 have n0_ := Aside0.mk (Kd.R_drew HO5.out)
 have n1_ := Aside0.mk (Kd.R_drew HO9.out)
 have n2_ := Aside0.mk (blk_drew BK1.out)
 have n3_ := Aside0.mk (blk_drew BK10.out)
 have n4_ := Aside0.mk (below_drew1 HB.out)
 clear HO5
 clear HO9
 clear BK1
 clear BK10
 clear HB
 have HO5 := n0_
 have HO9 := n1_
 have BK1 := n2_
 have BK10 := n3_
 have HB := n4_
 clear n0_ n1_ n2_ n3_ n4_
 refine start_ (n := 5) (S := fun w' => w'.cell? ⟨gb10, 0, none⟩ = some (.slice Ao25 t7.length co25) ∧ w'.cell? ⟨gb1, 0, none⟩ = some (.slice A0_0 l0_0.length c0_0)) (ds := []) #[false, false, false, false, false] (by kernel_rfl) rfl rfl ⟨(blk_cell BK10.out 0).trans rfl, (blk_cell BK1.out 0).trans rfl⟩ (fun hHeld => ?_)
 generalize w28.drew = w29 at HO5 HO9 BK1 BK10 HB hHeld ⊢
 refine take_ (i := 0) (N := some 22) (v := ?_) (a' := ?_) (bm_ 5 1) rfl rfl (by kernel_rfl) (fun _ _ _ h => h) (Or.inl ⟨by rfl, ?_⟩) hHeld ?_ ?_
 rotate_left
 ·rintro w' ⟨s0, s1⟩
  go_simp
  with_reducible rfl
 rotate_left
 ·exact pu_
 refine take_ (i := 1) (N := some 23) (v := ?_) (a' := ?_) (bm_ 5 3) rfl rfl (by kernel_rfl) (fun _ _ _ h => h) (Or.inl ⟨by rfl, ?_⟩) hHeld ?_ ?_
 rotate_left
 ·rintro w' ⟨s0, s1⟩
  go_simp
  with_reducible rfl
 rotate_left
 ·exact pu_
 refine one_ (i := 2) (N := some 24) (bm_ 5 7) rfl rfl (by kernel_rfl) (by decide) (fun K hK => ?_)
 refine goes_ Tryd.func39 (by kernel_rfl) rfl #[.agg #[.slice A0_0 l0_0.length c0_0]] (by rfl) rfl rfl ar_ ?_
 with_reducible refine (laws_toMem.calls k _ _ l0_0 t12 _ ?side1 ?side2 A12.out).mono ?_
 (case side1 => exact cb_)
 (case side2 => exact HC0_0.out)
 rintro e w30 ⟨v13, rfl, ho0, hb⟩
 refine ⟨_, rfl, ?_⟩
 have n0_ := Aside0.mk (Kd.R_elder' (rx_ HO5.out) (Kd.R_base ho0) hb)
 have n1_ := Aside0.mk (Kd.R_elder' (rx_ HO9.out) (Kd.R_base ho0) hb)
 have n2_ := Aside0.mk (Kd.R_lower (Kd.R_new' (Kd.R_new' ho0 (Kd.R_lt (rx_ HO5.out))) (Kd.R_lt (rx_ HO9.out))) (below_size bw_))
 have n3_ := bb_ BK1.out hb
 have n4_ := bb_ BK10.out hb
 have n5_ := bs_ hb
 clear HO5
 clear HO9
 clear BK1
 clear BK10
 clear HB
 have HO5 := n0_
 have HO9 := n1_
 have HO14 := n2_
 have BK1 := n3_
 have BK10 := n4_
 have HB := n5_
 clear n0_ n1_ n2_ n3_ n4_ n5_
 (try clear hb)
 (try clear hb2)
 (try clear hk)
 (try clear hi)
 (try clear ho0)
 obtain ⟨Ao31, co31, eo31⟩ := Kd.R_slice HO14.out
 (first | subst eo31 | (injection eo31 with f1_ f2_ f3_; have f4_ := f1_.symm; have f5_ := f3_.symm; clear f1_ f2_ f3_; subst f4_; subst f5_))
 refine hK.out _ _ ⟨(blk_cell BK10.out 0).trans rfl, (blk_cell BK1.out 0).trans rfl⟩ (fun hHeld => ?_)
 clear hK K
 refine norm_ (a' := ?_) ?_ ?_
 rotate_left
 ·show Act.put _ (some 24) _ = _
  simp only [Act.put, List.setIfInBounds_toArray, List.set_cons_zero, List.set_cons_succ, i64_w, i32_w]
  rfl
 refine one_ (i := 3) (N := some 25) (bm_ 5 15) rfl rfl (by kernel_rfl) (by decide) (fun K hK => ?_)
 refine goes_ Tryd.func41 (by kernel_rfl) rfl #[.agg #[.slice Ao25 t7.length co25], .agg #[.slice Ao31 t12.length co31]] (by rfl) rfl rfl ar_ ?_
 with_reducible refine (laws_eqMem.calls k _ _ t7 _ _ t12 true _ ?side1 ?side2 ?side3 ?side4 A13.out).mono ?_
 (case side1 => repeat (first | exact (Kd.R_reads' HO9.out).2.2 | (with_reducible refine Kd.C_alloc ?_ _) | (with_reducible refine Kd.C_drewN ?_ _) | (with_reducible refine Kd.C_drew ?_)))
 (case side2 => exact (Kd.R_reads' HO9.out).2.1)
 (case side3 => repeat (first | exact (Kd.R_reads' HO14.out).2.2 | (with_reducible refine Kd.C_alloc ?_ _) | (with_reducible refine Kd.C_drewN ?_ _) | (with_reducible refine Kd.C_drew ?_)))
 (case side4 => exact (Kd.R_reads' HO14.out).2.1)
 rintro e w32 ⟨rfl, hb⟩
 refine ⟨_, rfl, ?_⟩
 have n0_ := Aside0.mk (Kd.R_below (rx_ HO5.out) hb)
 have n1_ := Aside0.mk (Kd.R_below (rx_ HO9.out) hb)
 have n2_ := Aside0.mk (Kd.R_below (rx_ HO14.out) hb)
 have n3_ := bb_ BK1.out hb
 have n4_ := bb_ BK10.out hb
 have n5_ := bs_ hb
 clear HO5
 clear HO9
 clear HO14
 clear BK1
 clear BK10
 clear HB
 have HO5 := n0_
 have HO9 := n1_
 have HO14 := n2_
 have BK1 := n3_
 have BK10 := n4_
 have HB := n5_
 clear n0_ n1_ n2_ n3_ n4_ n5_
 (try clear hb)
 (try clear hb2)
 (try clear hk)
 (try clear hi)
 refine hK.out _ _ ⟨(blk_cell BK10.out 0).trans rfl, (blk_cell BK1.out 0).trans rfl⟩ (fun hHeld => ?_)
 clear hK K
 refine norm_ (a' := ?_) ?_ ?_
 rotate_left
 ·show Act.put _ (some 25) _ = _
  simp only [Act.put, List.setIfInBounds_toArray, List.set_cons_zero, List.set_cons_succ, i64_w, i32_w]
  rfl
 refine pure_ (i := 4) (N := some 26) (v := ?_) (a' := ?_) (bm_ 5 31) rfl rfl (by kernel_rfl) (fun _ _ _ h => h) (Or.inl ⟨by rfl, ?_⟩) ?_ ?_
 rotate_left
 ·intro w'
  go_simp
  with_reducible rfl
 rotate_left
 ·exact pu_
 refine done_ (by kernel_rfl) ?_
 try go_wp2
 go_ret
 exact ⟨rr_, bw_⟩

end Go.Proofs.YtchpopocnaoabaaDoor.P
