-- Written by mp.py (the session's own driver over the kit's printer) for the seat YtchpopocnaoabaaDoor.
import Derived.Test.YtchpopocnaoabaaDoorK
import Derived.Test.YtchpopocnaoabaaDoorPimplCodeText
import Derived.Test.YtchpopocnaoabaaDoorPlawseqInstr
import Derived.Test.YtchpopocnaoabaaDoorEnv
namespace Go.Proofs.YtchpopocnaoabaaDoor.P
open Go.RowKit Go.Proofs.YtchpopocnaoabaaDoorW.PrintWords Go.Proofs.YtchpopocnaoabaaDoorW.PrintLast Go.Proofs.YtchpopocnaoabaaDoorW.PrintMore
attribute [local go_sem] max2_int min2_int max_two min_two max_three min_three max_four min_four
set_option linter.unusedVariables false
set_option linter.unusedSimpArgs false

/-! ### laws_FnExactCodeText: function 9 -/
def laws_FnExactCodeText.j0 : Nat → List (S44) → List (S37) → Bool → Option (Bool)
 | 0, _, _, _ => none
 | k + 1, x0, x6, x34 => if x34 = true then (some false) else ((laws_toInstrS.f k x0).bind fun t12 => ((laws_eqInstrS.f k x6 t12).bind fun t15 => (if t15 = true then (some true) else (some false))))
def laws_FnExactCodeText.f (k : Nat) (l0 : List (S44)) : Option (Bool) := (laws_szInstrS.f l0 1048576).bind fun t1 => (if t1 < 0 then (some true) else ((laws_toInstrS.f k l0).bind fun t2 => ((spec_CodeText.f k t2).bind fun bt5 => ((laws_toInstrS.f k l0).bind fun t7 => ((impl_CodeText.f k t7).bind fun bt10 => (if bt10.1.toList = bt5.1.toList then (laws_FnExactCodeText.j0 k l0 t7 (bt10.2 != bt5.2)) else (laws_FnExactCodeText.j0 k l0 t7 true)))))))
theorem laws_FnExactCodeText.mono_l : ∀ k, (∀ y0 y1 y2, LeO (laws_FnExactCodeText.j0 k y0 y1 y2) (laws_FnExactCodeText.j0 (k + 1) y0 y1 y2))
 | 0 => fun _ _ _ r h => by simp [laws_FnExactCodeText.j0] at h
 | k + 1 => by
  have ih0 := laws_FnExactCodeText.mono_l k
  ·intro y0 y1 y2
   unfold laws_FnExactCodeText.j0
   repeat' first | (with_reducible first | exact ih0 _ _ _ | exact impl_CodeText.mono _ _ | exact laws_eqInstrS.mono _ _ _ | exact laws_toInstrS.mono _ _ | exact spec_CodeText.mono _ _ | exact lr_ | exact ln_ | refine LeO.ite ?_ ?_ | refine LeO.bind ?_ (fun _ => ?_)) | exact ih0 _ _ _ | exact impl_CodeText.mono _ _ | exact laws_eqInstrS.mono _ _ _ | exact laws_toInstrS.mono _ _ | exact spec_CodeText.mono _ _ | exact ln_ | refine LeO.ite ?_ ?_ | refine LeO.bind ?_ (fun _ => ?_)
theorem laws_FnExactCodeText.mono : ∀ a0 k, LeO (laws_FnExactCodeText.f k a0) (laws_FnExactCodeText.f (k + 1) a0) := by
 intro a0 k
 have ih0 := laws_FnExactCodeText.mono_l k
 unfold laws_FnExactCodeText.f
 repeat' first | (with_reducible first | exact ih0 _ _ _ | exact impl_CodeText.mono _ _ | exact laws_eqInstrS.mono _ _ _ | exact laws_toInstrS.mono _ _ | exact spec_CodeText.mono _ _ | exact lr_ | exact ln_ | refine LeO.ite ?_ ?_ | refine LeO.bind ?_ (fun _ => ?_)) | exact ih0 _ _ _ | exact impl_CodeText.mono _ _ | exact laws_eqInstrS.mono _ _ _ | exact laws_toInstrS.mono _ _ | exact spec_CodeText.mono _ _ | exact ln_ | refine LeO.ite ?_ ?_ | refine LeO.bind ?_ (fun _ => ?_)
set_option maxHeartbeats 8000000 in
set_option maxRecDepth 100000 in
theorem laws_FnExactCodeText.calls (k : Nat) (A0 : Option Addr) (c0 : Nat) (l0 : List (S44)) (r : Bool) (w : World) (hE_ : EnvOk false w) (hr0 : Kd.C k44 w A0 l0.length l0) (hc0 : l0.length ≤ c0) (h : laws_FnExactCodeText.f k l0 = some r) (hr_ : r = true) :
  Calls Tryd.prog 9 #[.slice A0 l0.length c0] w fun e w' => e = .returned (.bool r) ∧ Below w.heap.size w w' := by
 have HE_ := Aside0.mk hE_
 clear hE_
 have HR0 := Aside0.mk hr0
 have HC0 := Aside0.mk hc0
 clear hr0 hc0
 have HB := Aside0.mk (Below.refl w.heap.size w)
 have H : ((laws_szInstrS.f l0 1048576).bind fun t1 => (if t1 < 0 then (some true) else ((laws_toInstrS.f k l0).bind fun t2 => ((spec_CodeText.f k t2).bind fun bt5 => ((laws_toInstrS.f k l0).bind fun t7 => ((impl_CodeText.f k t7).bind fun bt10 => (if bt10.1.toList = bt5.1.toList then (laws_FnExactCodeText.j0 k l0 t7 (bt10.2 != bt5.2)) else (laws_FnExactCodeText.j0 k l0 t7 true)))))))) = some r := h
 clear h
 replace H := Option.bind_eq_some_iff.mp H
 obtain ⟨t1, A20, H⟩ := H
 replace H : (if t1 < 0 then (some true) else ((laws_toInstrS.f k l0).bind fun t2 => ((spec_CodeText.f k t2).bind fun bt5 => ((laws_toInstrS.f k l0).bind fun t7 => ((impl_CodeText.f k t7).bind fun bt10 => (if bt10.1.toList = bt5.1.toList then (laws_FnExactCodeText.j0 k l0 t7 (bt10.2 != bt5.2)) else (laws_FnExactCodeText.j0 k l0 t7 true))))))) = some r := H
 have A2 := Aside0.mk A20
 clear A20
 by_cases c3 : t1 < 0
 ·rw [if_pos c3] at H
  have c3b0 : decide (t1 < 0) = true := decide_eq_true c3
  clear c3
  obtain rfl := Option.some.inj H
  clear hr_
  go_enter Tryd.func9, Tryd.ntmps9
  go_wp2_with (first | ((with_reducible refine gate_callee (f := 46) rfl ?_); refine goesL_ (some 11) rfl rfl Tryd.func46 (by kernel_rfl) rfl #[.slice A0 l0.length c0, .int .i64 1048576] rfl ar_ ?_; (with_reducible refine (laws_szInstrS.calls _ _ l0 1048576 t1 _ ?side1 ?side2 A2.out).mono ?_); (case side1 => repeat (first | exact HR0.out | (with_reducible refine Kd.C_alloc ?_ _) | (with_reducible refine Kd.C_drewN ?_ _) | (with_reducible refine Kd.C_drew ?_))); (case side2 => exact HC0.out); rintro e w' ⟨rfl, ⟨nd, rfl⟩⟩; refine ⟨_, rfl, ?_⟩))
  go_ret
  exact ⟨rr_, bw_⟩
 rw [if_neg c3] at H
 have c3b0 : decide (t1 < 0) = false := decide_eq_false c3
 clear c3
 replace H := Option.bind_eq_some_iff.mp H
 obtain ⟨t2, A40, H⟩ := H
 replace H : ((spec_CodeText.f k t2).bind fun bt5 => ((laws_toInstrS.f k l0).bind fun t7 => ((impl_CodeText.f k t7).bind fun bt10 => (if bt10.1.toList = bt5.1.toList then (laws_FnExactCodeText.j0 k l0 t7 (bt10.2 != bt5.2)) else (laws_FnExactCodeText.j0 k l0 t7 true))))) = some r := H
 have A4 := Aside0.mk A40
 clear A40
 replace H := Option.bind_eq_some_iff.mp H
 obtain ⟨⟨t5, t6⟩, A50, H⟩ := H
 replace H : ((laws_toInstrS.f k l0).bind fun t7 => ((impl_CodeText.f k t7).bind fun bt10 => (if bt10.1.toList = t5.toList then (laws_FnExactCodeText.j0 k l0 t7 (bt10.2 != t6)) else (laws_FnExactCodeText.j0 k l0 t7 true)))) = some r := H
 have A5 := Aside0.mk A50
 clear A50
 replace H := Option.bind_eq_some_iff.mp H
 obtain ⟨t7, A60, H⟩ := H
 replace H : ((impl_CodeText.f k t7).bind fun bt10 => (if bt10.1.toList = t5.toList then (laws_FnExactCodeText.j0 k l0 t7 (bt10.2 != t6)) else (laws_FnExactCodeText.j0 k l0 t7 true))) = some r := H
 have A6 := Aside0.mk A60
 clear A60
 replace H := Option.bind_eq_some_iff.mp H
 obtain ⟨⟨t10, t11⟩, A70, H⟩ := H
 replace H : (if t10.toList = t5.toList then (laws_FnExactCodeText.j0 k l0 t7 (t11 != t6)) else (laws_FnExactCodeText.j0 k l0 t7 true)) = some r := H
 have A7 := Aside0.mk A70
 clear A70
 have HC8 := Aside0.mk H
 clear H
 go_enter Tryd.func9, Tryd.ntmps9
 go_upto_region 8 with (first | ((with_reducible refine gate_callee (f := 46) rfl ?_); refine goesL_ (some 11) rfl rfl Tryd.func46 (by kernel_rfl) rfl #[.slice A0 l0.length c0, .int .i64 1048576] rfl ar_ ?_; (with_reducible refine (laws_szInstrS.calls _ _ l0 1048576 t1 _ ?side1 ?side2 A2.out).mono ?_); (case side1 => repeat (first | exact HR0.out | (with_reducible refine Kd.C_alloc ?_ _) | (with_reducible refine Kd.C_drewN ?_ _) | (with_reducible refine Kd.C_drew ?_))); (case side2 => exact HC0.out); rintro e w' ⟨rfl, ⟨nd, rfl⟩⟩; refine ⟨_, rfl, ?_⟩) | ((with_reducible refine gate_callee (f := 48) rfl ?_); refine goesL_ (some 16) rfl rfl Tryd.func48 (by kernel_rfl) rfl #[.slice A0 l0.length c0] rfl ar_ ?_; (with_reducible refine (laws_toInstrS.calls k _ _ l0 t2 _ ?side1 ?side2 A4.out).mono ?_); (case side1 => repeat (first | exact HR0.out | (with_reducible refine Kd.C_alloc ?_ _) | (with_reducible refine Kd.C_drewN ?_ _) | (with_reducible refine Kd.C_drew ?_))); (case side2 => exact HC0.out); rintro e w9 ⟨v3, rfl, ho0, hb⟩; refine ⟨_, rfl, ?_⟩; have n0_ := Aside0.mk (Kd.R_lower ho0 (below_size bw_)); have n1_ := bs_ hb; clear HB; have HO4 := n0_; have HB := n1_; clear n0_ n1_; (try clear hb); (try clear hb2); (try clear hk); (try clear hi); (try clear ho0); obtain ⟨Ao10, co10, eo10⟩ := Kd.R_slice HO4.out; subst eo10) | ((with_reducible refine gate_callee (f := 47) rfl ?_); refine goesL_ (some 17) rfl rfl Tryd.func47 (by kernel_rfl) rfl #[.slice Ao10 t2.length co10] rfl ar_ ?_; (with_reducible refine (spec_CodeText.calls k _ _ t2 t5 t6 _ ?side1 ?side2 A5.out).mono ?_); (case side1 => repeat (first | exact (Kd.R_reads' HO4.out).2.2 | (with_reducible refine Kd.C_alloc ?_ _) | (with_reducible refine Kd.C_drewN ?_ _) | (with_reducible refine Kd.C_drew ?_))); (case side2 => exact (Kd.R_reads' HO4.out).2.1); rintro e w11 ⟨rfl, hb⟩; refine ⟨_, rfl, ?_⟩; have n0_ := Aside0.mk (Kd.R_below (rx_ HO4.out) hb); have n1_ := bs_ hb; clear HO4; clear HB; have HO4 := n0_; have HB := n1_; clear n0_ n1_; (try clear hb); (try clear hb2); (try clear hk); (try clear hi)) | ((with_reducible refine gate_callee (f := 48) rfl ?_); refine goesL_ (some 21) rfl rfl Tryd.func48 (by kernel_rfl) rfl #[.slice A0 l0.length c0] rfl ar_ ?_; (with_reducible refine (laws_toInstrS.calls k _ _ l0 t7 _ ?side1 ?side2 A6.out).mono ?_); (case side1 => exact cb_); (case side2 => exact HC0.out); rintro e w12 ⟨v8, rfl, ho0, hb⟩; refine ⟨_, rfl, ?_⟩; have n0_ := Aside0.mk (Kd.R_elder' (rx_ HO4.out) (Kd.R_base ho0) hb); have n1_ := Aside0.mk (Kd.R_lower (Kd.R_new' ho0 (Kd.R_lt (rx_ HO4.out))) (below_size bw_)); have n2_ := bs_ hb; clear HO4; clear HB; have HO4 := n0_; have HO9 := n1_; have HB := n2_; clear n0_ n1_ n2_; (try clear hb); (try clear hb2); (try clear hk); (try clear hi); (try clear ho0); obtain ⟨Ao13, co13, eo13⟩ := Kd.R_slice HO9.out; subst eo13) | ((with_reducible refine gate_callee (f := 19) rfl ?_); refine goesL_ (some 24) rfl rfl Tryd.func19 (by kernel_rfl) rfl #[.slice Ao13 t7.length co13] rfl ar_ ?_; (with_reducible refine (impl_CodeText.calls (hE_ := ee_) k _ _ t7 t10 t11 _ ?side1 ?side2 A7.out).mono ?_); (case side1 => repeat (first | exact (Kd.R_reads' HO9.out).2.2 | (with_reducible refine Kd.C_alloc ?_ _) | (with_reducible refine Kd.C_drewN ?_ _) | (with_reducible refine Kd.C_drew ?_))); (case side2 => exact (Kd.R_reads' HO9.out).2.1); rintro e w14 ⟨rfl, hb⟩; refine ⟨_, rfl, ?_⟩; have n0_ := Aside0.mk (Kd.R_below (rx_ HO4.out) hb); have n1_ := Aside0.mk (Kd.R_below (rx_ HO9.out) hb); have n2_ := bs_ hb; clear HO4; clear HO9; clear HB; have HO4 := n0_; have HO9 := n1_; have HB := n2_; clear n0_ n1_ n2_; (try clear hb); (try clear hb2); (try clear hk); (try clear hi)))
 (try simp only [Act.put, List.setIfInBounds_toArray, List.set_cons_zero, List.set_cons_succ])
 go_cut [34] (fun v34 wc => ∃ (kq : Nat) (x34_7 : Bool), v34 = .bool x34_7 ∧ Aside0 (laws_FnExactCodeText.j0 kq l0 t7 x34_7 = some r) ∧ Aside0 (kq ≤ k) ∧ Aside0 (Kd.R k37 37 wc w.heap.size (fun _ => True) (.slice Ao13 t7.length co13) t7) ∧ Aside0 (Below w.heap.size w wc))
 case first =>
  have H := HC8.out
  clear HC8
  by_cases c15 : t10.toList = t5.toList
  rotate_left
  ·rw [if_neg c15] at H
   have c15b0 : (t10.toList == t5.toList) = false := beq_eq_false_iff_ne.mpr c15
   have c15b1 : (t10.toList != t5.toList) = true := bne_iff_ne.mpr c15
   (first | rw [c15b0] | (simp only [i64_w, i32_w]; rw [c15b0]) | skip)
   have H' := Aside0.mk H
   clear H
   go_wp2
   go_meet
   case rel => exact ⟨_, (true), sd_, H', ⟨by first | omega | exact Nat.le_refl _⟩, ⟨by (with_reducible repeat (first | apply Kd.R_alloc | apply Kd.R_drewN | apply Kd.R_drew)); exact Kd.R_mono HO9.out (fun _ hk => trivial)⟩, ⟨bw_⟩⟩
  rw [if_pos c15] at H
  have c15b0 : (t10.toList == t5.toList) = true := beq_iff_eq.mpr c15
  have c15b1 : (t10.toList != t5.toList) = false := bne_eq_false_iff_eq.mpr c15
  clear c15
  (first | rw [c15b0] | (simp only [i64_w, i32_w]; rw [c15b0]) | skip)
  have H' := Aside0.mk H
  clear H
  go_wp2
  go_meet
  case rel => exact ⟨_, ((t11 != t6)), sd_, H', ⟨by first | omega | exact Nat.le_refl _⟩, ⟨by (with_reducible repeat (first | apply Kd.R_alloc | apply Kd.R_drewN | apply Kd.R_drew)); exact Kd.R_mono HO9.out (fun _ hk => trivial)⟩, ⟨bw_⟩⟩
 case rest =>
  clear HC8
  try clear c1
  try clear p2
  try clear c3
  try clear c3b0
  try clear c4
  try clear c9
  try clear c15
  try clear c15b0
  try clear c15b1
  obtain ⟨kq, x34_7, rfl, HA, HJ7, HO_6, HB⟩ := hcut
  cases kq with
  | zero => exact absurd HA.out (by simp [laws_FnExactCodeText.j0])
  | succ kj7 =>
   have H := HA.out
   clear HA
   simp only [laws_FnExactCodeText.j0] at H
   by_cases c16 : x34_7 = true
   ·subst c16
    have H1 : (some false) = some r := by rw [if_pos rfl] at H; exact H
    clear H
    have H := H1
    clear H1
    obtain rfl := Option.some.inj H
    exact absurd hr_ (by decide)
   replace c16 := Bool.eq_false_iff.mpr c16
   subst c16
   have H1 : ((laws_toInstrS.f kj7 l0).bind fun t12 => ((laws_eqInstrS.f kj7 t7 t12).bind fun t15 => (if t15 = true then (some true) else (some false)))) = some r := by rw [if_neg (show ¬ (false = true) by decide)] at H; exact H
   clear H
   have H := H1
   clear H1
   replace H := Option.bind_eq_some_iff.mp H
   obtain ⟨t12, A170, H⟩ := H
   replace H : ((laws_eqInstrS.f kj7 t7 t12).bind fun t15 => (if t15 = true then (some true) else (some false))) = some r := H
   have A17 := Aside0.mk A170
   clear A170
   replace H := Option.bind_eq_some_iff.mp H
   obtain ⟨t15, A180, H⟩ := H
   replace H : (if t15 = true then (some true) else (some false)) = some r := H
   have A18 := Aside0.mk A180
   clear A180
   by_cases c19 : t15 = true
   rotate_left
   ·replace c19 := Bool.eq_false_iff.mpr c19
    subst c19
    have H1 : (some false) = some r := by rw [if_neg (show ¬ (false = true) by decide)] at H; exact H
    clear H
    have H := H1
    clear H1
    obtain rfl := Option.some.inj H
    exact absurd hr_ (by decide)
   subst c19
   have H1 : (some true) = some r := by rw [if_pos rfl] at H; exact H
   clear H
   have H := H1
   clear H1
   obtain rfl := Option.some.inj H
   clear hr_
   go_wp2_with (first | ((with_reducible refine gate_callee (f := 48) rfl ?_); refine goesL_ (some 37) rfl rfl Tryd.func48 (by kernel_rfl) rfl #[.slice A0 l0.length c0] rfl ar_ ?_; (with_reducible refine (laws_toInstrS.calls kj7 _ _ l0 t12 _ ?side1 ?side2 A17.out).mono ?_); (case side1 => exact cb_); (case side2 => exact HC0.out); rintro e w20 ⟨v13, rfl, ho0, hb⟩; refine ⟨_, rfl, ?_⟩; have n0_ := Aside0.mk (Kd.R_elder' (rx_ HO_6.out) (Kd.R_base ho0) hb); have n1_ := Aside0.mk (Kd.R_lower (Kd.R_new' ho0 (Kd.R_lt (rx_ HO_6.out))) (below_size bw_)); have n2_ := bs_ hb; clear HO_6; clear HB; have HO_6 := n0_; have HO14 := n1_; have HB := n2_; clear n0_ n1_ n2_; (try clear hb); (try clear hb2); (try clear hk); (try clear hi); (try clear ho0); obtain ⟨Ao21, co21, eo21⟩ := Kd.R_slice HO14.out; subst eo21) | ((with_reducible refine gate_callee (f := 49) rfl ?_); refine goesL_ (some 38) rfl rfl Tryd.func49 (by kernel_rfl) rfl #[.slice Ao13 t7.length co13, .slice Ao21 t12.length co21] rfl ar_ ?_; (with_reducible refine (laws_eqInstrS.calls kj7 _ _ t7 _ _ t12 true _ ?side1 ?side2 ?side3 ?side4 A18.out).mono ?_); (case side1 => repeat (first | exact (Kd.R_reads' HO_6.out).2.2 | (with_reducible refine Kd.C_alloc ?_ _) | (with_reducible refine Kd.C_drewN ?_ _) | (with_reducible refine Kd.C_drew ?_))); (case side2 => exact (Kd.R_reads' HO_6.out).2.1); (case side3 => repeat (first | exact (Kd.R_reads' HO14.out).2.2 | (with_reducible refine Kd.C_alloc ?_ _) | (with_reducible refine Kd.C_drewN ?_ _) | (with_reducible refine Kd.C_drew ?_))); (case side4 => exact (Kd.R_reads' HO14.out).2.1); rintro e w22 ⟨rfl, hb⟩; refine ⟨_, rfl, ?_⟩; have n0_ := Aside0.mk (Kd.R_below (rx_ HO_6.out) hb); have n1_ := Aside0.mk (Kd.R_below (rx_ HO14.out) hb); have n2_ := bs_ hb; clear HO_6; clear HO14; clear HB; have HO_6 := n0_; have HO14 := n1_; have HB := n2_; clear n0_ n1_ n2_; (try clear hb); (try clear hb2); (try clear hk); (try clear hi)))
   go_ret
   exact ⟨rr_, bw_⟩

end Go.Proofs.YtchpopocnaoabaaDoor.P
