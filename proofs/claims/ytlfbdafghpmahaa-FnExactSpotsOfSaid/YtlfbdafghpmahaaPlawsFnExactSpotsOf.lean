-- Written by mp.py (the session's own driver over the kit's printer) for the seat Ytlfbdafghpmahaa.
import Derived.Test.YtlfbdafghpmahaaV2
import Derived.Test.YtlfbdafghpmahaaK
import Derived.Test.YtlfbdafghpmahaaE
import Derived.Test.YtlfbdafghpmahaaPimplisCandidate
import Derived.Test.YtlfbdafghpmahaaPlawseqInstrSS
import Derived.Test.YtlfbdafghpmahaaPlawseqSpot
import Derived.Test.YtlfbdafghpmahaaPlawsmarkProg
import Derived.Test.YtlfbdafghpmahaaPlawsszInstrSS
import Derived.Test.YtlfbdafghpmahaaPspecSpotsOf
import Derived.Test.YtlfbdafghpmahaaYoung
namespace Go.Proofs.Ytlfbdafghpmahaa.P
open Go.RowKit Go.Proofs.YtlfbdafghpmahaaW.PrintWords Go.Proofs.YtlfbdafghpmahaaW.PrintLast Go.Proofs.YtlfbdafghpmahaaW.PrintMore
attribute [local go_sem] max2_int min2_int max_two min_two max_three min_three max_four min_four
set_option linter.unusedVariables false
set_option linter.unusedSimpArgs false

/-! ### laws_FnExactSpotsOf: function 5 -/
def laws_FnExactSpotsOf.f (k : Nat) (a0_0 : Int) (l0_1 : List (List (S84))) : Option (Bool) := (laws_szProg.f k a0_0 l0_1 1048576).bind fun t2 => (if t2 < 0 then (some true) else ((laws_toProg.f k a0_0 l0_1).bind fun bt3 => ((spec_SpotsOf.f k bt3.1 bt3.2).bind fun t7 => ((laws_toProg.f k a0_0 l0_1).bind fun bt10 => ((impl_SpotsOf.f k bt10.1 bt10.2).bind fun t15 => ((laws_eqSpotS.f k t15 t7).bind fun t18 => (if t18 = true then ((laws_toProg.f k a0_0 l0_1).bind fun bt19 => ((laws_eqProg.f k bt10.1 bt10.2 bt19.1 bt19.2).bind fun t23 => (if t23 = true then ((laws_markProg.f k bt10.1 bt10.2 1).bind fun t24 => (if t24 < 0 then (some false) else ((laws_eqSpotS.f k t15 t7).bind fun t25 => (if t25 = true then ((laws_markSpotS.f k t15 1).bind fun bt26 => ((laws_heldSpotS.f k bt26.2 1).bind fun t28 => (if t28 < 0 then (some false) else (if t28 = bt26.1 then ((laws_toProg.f k a0_0 l0_1).bind fun bt29 => ((impl_SpotsOf.f k bt29.1 bt29.2).bind fun t33 => ((laws_eqSpotS.f k t33 t7).bind fun t36 => (if t36 = true then ((laws_heldSpotS.f k bt26.2 1).bind fun t37 => (if t37 < 0 then (some false) else (if t37 = bt26.1 then (some true) else (some false)))) else (some false))))) else (some false))))) else (some false))))) else (some false)))) else (some false))))))))
theorem laws_FnExactSpotsOf.mono : ∀ a0 a1 k, LeO (laws_FnExactSpotsOf.f k a0 a1) (laws_FnExactSpotsOf.f (k + 1) a0 a1) := by
 intro a0 a1 k
 unfold laws_FnExactSpotsOf.f
 repeat' first
   | (with_reducible exact impl_SpotsOf.mono _ _ _)
   | (with_reducible exact laws_eqProg.mono _ _ _ _ _)
   | (with_reducible exact laws_eqSpotS.mono _ _ _)
   | (with_reducible exact laws_heldSpotS.mono _ _ _)
   | (with_reducible exact laws_markProg.mono _ _ _ _)
   | (with_reducible exact laws_markSpotS.mono _ _ _)
   | (with_reducible exact laws_szProg.mono _ _ _ _)
   | (with_reducible exact laws_toProg.mono _ _ _)
   | (with_reducible exact spec_SpotsOf.mono _ _ _)
   | (with_reducible exact LeO.refl _)
   | (with_reducible exact LeO.none _)
   | (with_reducible refine LeO.ite ?_ ?_)
   | (with_reducible refine LeO.bind ?_ (fun _ => ?_))
   | exact impl_SpotsOf.mono _ _ _
   | exact laws_eqProg.mono _ _ _ _ _
   | exact laws_eqSpotS.mono _ _ _
   | exact laws_heldSpotS.mono _ _ _
   | exact laws_markProg.mono _ _ _ _
   | exact laws_markSpotS.mono _ _ _
   | exact laws_szProg.mono _ _ _ _
   | exact laws_toProg.mono _ _ _
   | exact spec_SpotsOf.mono _ _ _
   | exact LeO.none _
   | refine LeO.ite ?_ ?_
   | refine LeO.bind ?_ (fun _ => ?_)
set_option maxHeartbeats 8000000 in
set_option maxRecDepth 100000 in
theorem laws_FnExactSpotsOf.calls (k : Nat) (a0_0 : Int) (A0_1 : Option Addr) (c0_1 : Nat) (l0_1 : List (List (S84))) (r : Bool) (w : World) (hr0_1 : Kd.C (Kd.slice 84 k84) w A0_1 l0_1.length l0_1) (hc0_1 : l0_1.length ≤ c0_1) (h : laws_FnExactSpotsOf.f k a0_0 l0_1 = some r) (hr_ : r = true) :
  Calls Try.prog 5 #[.agg #[.int .i64 a0_0, .slice A0_1 l0_1.length c0_1]] w fun e w' => e = .returned (.bool r) ∧ Below w.heap.size w w' := by
 have hu35 := Try.underlying35
 have hu39 := Try.underlying39
 have HR0_1 := Aside0.mk hr0_1
 have HC0_1 := Aside0.mk hc0_1
 clear hr0_1 hc0_1
 have HB := Aside0.mk (Below.refl w.heap.size w)
 have H : ((laws_szProg.f k a0_0 l0_1 1048576).bind fun t2 => (if t2 < 0 then (some true) else ((laws_toProg.f k a0_0 l0_1).bind fun bt3 => ((spec_SpotsOf.f k bt3.1 bt3.2).bind fun t7 => ((laws_toProg.f k a0_0 l0_1).bind fun bt10 => ((impl_SpotsOf.f k bt10.1 bt10.2).bind fun t15 => ((laws_eqSpotS.f k t15 t7).bind fun t18 => (if t18 = true then ((laws_toProg.f k a0_0 l0_1).bind fun bt19 => ((laws_eqProg.f k bt10.1 bt10.2 bt19.1 bt19.2).bind fun t23 => (if t23 = true then ((laws_markProg.f k bt10.1 bt10.2 1).bind fun t24 => (if t24 < 0 then (some false) else ((laws_eqSpotS.f k t15 t7).bind fun t25 => (if t25 = true then ((laws_markSpotS.f k t15 1).bind fun bt26 => ((laws_heldSpotS.f k bt26.2 1).bind fun t28 => (if t28 < 0 then (some false) else (if t28 = bt26.1 then ((laws_toProg.f k a0_0 l0_1).bind fun bt29 => ((impl_SpotsOf.f k bt29.1 bt29.2).bind fun t33 => ((laws_eqSpotS.f k t33 t7).bind fun t36 => (if t36 = true then ((laws_heldSpotS.f k bt26.2 1).bind fun t37 => (if t37 < 0 then (some false) else (if t37 = bt26.1 then (some true) else (some false)))) else (some false))))) else (some false))))) else (some false))))) else (some false)))) else (some false))))))))) = some r := h
 clear h
 replace H := Option.bind_eq_some_iff.mp H
 obtain ⟨t2, A20, H⟩ := H
 replace H : (if t2 < 0 then (some true) else ((laws_toProg.f k a0_0 l0_1).bind fun bt3 => ((spec_SpotsOf.f k bt3.1 bt3.2).bind fun t7 => ((laws_toProg.f k a0_0 l0_1).bind fun bt10 => ((impl_SpotsOf.f k bt10.1 bt10.2).bind fun t15 => ((laws_eqSpotS.f k t15 t7).bind fun t18 => (if t18 = true then ((laws_toProg.f k a0_0 l0_1).bind fun bt19 => ((laws_eqProg.f k bt10.1 bt10.2 bt19.1 bt19.2).bind fun t23 => (if t23 = true then ((laws_markProg.f k bt10.1 bt10.2 1).bind fun t24 => (if t24 < 0 then (some false) else ((laws_eqSpotS.f k t15 t7).bind fun t25 => (if t25 = true then ((laws_markSpotS.f k t15 1).bind fun bt26 => ((laws_heldSpotS.f k bt26.2 1).bind fun t28 => (if t28 < 0 then (some false) else (if t28 = bt26.1 then ((laws_toProg.f k a0_0 l0_1).bind fun bt29 => ((impl_SpotsOf.f k bt29.1 bt29.2).bind fun t33 => ((laws_eqSpotS.f k t33 t7).bind fun t36 => (if t36 = true then ((laws_heldSpotS.f k bt26.2 1).bind fun t37 => (if t37 < 0 then (some false) else (if t37 = bt26.1 then (some true) else (some false)))) else (some false))))) else (some false))))) else (some false))))) else (some false)))) else (some false)))))))) = some r := H
 have A2 := Aside0.mk A20
 clear A20
 by_cases c3 : t2 < 0
 ·rw [if_pos c3] at H
  have c3b0 : decide (t2 < 0) = true := decide_eq_true c3
  clear c3
  obtain rfl := Option.some.inj H
  clear hr_
  go_enter Try.func5, Try.ntmps5
  go_wp2_with (first | ((with_reducible refine gate_dst (N := 1) rfl ?_); refine box_event ?hg (N := 1) ?hd (cs := #[.int .i64 a0_0, .slice A0_1 l0_1.length c0_1]) (t := 35) ?hr ?_; (case hd => rfl); (case hg => rfl); (case hr => first | (go_simp; done) | (go_simp; rfl)); intro gb1 hg w4 hbox hb; have n0_ := Aside0.mk (below_step bw_ hb); have n1_ := Aside0.mk (hbox); have n2_ := Aside0.mk ((by rw [hg]; exact (below_size bw_) : w.heap.size ≤ gb1)); have n3_ := Aside0.mk ((by rw [hg]; exact (below_size bw_) : w.heap.size ≤ gb1)); clear HB; have HB := n0_; have BK1 := n1_; have GW1 := n2_; have GE1 := n3_; clear n0_ n1_ n2_ n3_; clear hb hbox hg; have hcz5_0 := (blk_cell BK1.out 0).trans rfl; have hcz5_1 := (blk_cell BK1.out 1).trans rfl; have hfz5_0 := blk_frozen BK1.out 0; have hfz5_1 := blk_frozen BK1.out 1) | ((with_reducible refine gate_callee (f := 19) rfl ?_); refine goesL_ (some 13) rfl rfl Try.func19 (by kernel_rfl) rfl #[.agg #[.int .i64 a0_0, .slice A0_1 l0_1.length c0_1], .int .i64 1048576] rfl ar_ ?_; (with_reducible refine (laws_szProg.calls k a0_0 _ _ l0_1 1048576 t2 _ ?side1 ?side2 A2.out).mono ?_); (case side1 => exact cb_); (case side2 => exact HC0_1.out); rintro e w6 ⟨rfl, hb⟩; refine ⟨_, rfl, ?_⟩; have n0_ := Aside0.mk (blk_below (g := gb1) (o := .cells #[.int .i64 a0_0, .slice A0_1 l0_1.length c0_1] 35 (0, 0)) bk_ hb); have n1_ := Aside0.mk (below_step bw_ hb); clear BK1; clear HB; have BK1 := n0_; have HB := n1_; clear n0_ n1_; (try clear hb); (try clear hb2); (try clear hk); (try clear hi)))
  go_ret
  exact ⟨rr_, bw_⟩
 rw [if_neg c3] at H
 have c3b0 : decide (t2 < 0) = false := decide_eq_false c3
 clear c3
 replace H := Option.bind_eq_some_iff.mp H
 obtain ⟨⟨t3, t4⟩, A70, H⟩ := H
 replace H : ((spec_SpotsOf.f k t3 t4).bind fun t7 => ((laws_toProg.f k a0_0 l0_1).bind fun bt10 => ((impl_SpotsOf.f k bt10.1 bt10.2).bind fun t15 => ((laws_eqSpotS.f k t15 t7).bind fun t18 => (if t18 = true then ((laws_toProg.f k a0_0 l0_1).bind fun bt19 => ((laws_eqProg.f k bt10.1 bt10.2 bt19.1 bt19.2).bind fun t23 => (if t23 = true then ((laws_markProg.f k bt10.1 bt10.2 1).bind fun t24 => (if t24 < 0 then (some false) else ((laws_eqSpotS.f k t15 t7).bind fun t25 => (if t25 = true then ((laws_markSpotS.f k t15 1).bind fun bt26 => ((laws_heldSpotS.f k bt26.2 1).bind fun t28 => (if t28 < 0 then (some false) else (if t28 = bt26.1 then ((laws_toProg.f k a0_0 l0_1).bind fun bt29 => ((impl_SpotsOf.f k bt29.1 bt29.2).bind fun t33 => ((laws_eqSpotS.f k t33 t7).bind fun t36 => (if t36 = true then ((laws_heldSpotS.f k bt26.2 1).bind fun t37 => (if t37 < 0 then (some false) else (if t37 = bt26.1 then (some true) else (some false)))) else (some false))))) else (some false))))) else (some false))))) else (some false)))) else (some false)))))) = some r := H
 have A7 := Aside0.mk A70
 clear A70
 replace H := Option.bind_eq_some_iff.mp H
 obtain ⟨t7, A80, H⟩ := H
 replace H : ((laws_toProg.f k a0_0 l0_1).bind fun bt10 => ((impl_SpotsOf.f k bt10.1 bt10.2).bind fun t15 => ((laws_eqSpotS.f k t15 t7).bind fun t18 => (if t18 = true then ((laws_toProg.f k a0_0 l0_1).bind fun bt19 => ((laws_eqProg.f k bt10.1 bt10.2 bt19.1 bt19.2).bind fun t23 => (if t23 = true then ((laws_markProg.f k bt10.1 bt10.2 1).bind fun t24 => (if t24 < 0 then (some false) else ((laws_eqSpotS.f k t15 t7).bind fun t25 => (if t25 = true then ((laws_markSpotS.f k t15 1).bind fun bt26 => ((laws_heldSpotS.f k bt26.2 1).bind fun t28 => (if t28 < 0 then (some false) else (if t28 = bt26.1 then ((laws_toProg.f k a0_0 l0_1).bind fun bt29 => ((impl_SpotsOf.f k bt29.1 bt29.2).bind fun t33 => ((laws_eqSpotS.f k t33 t7).bind fun t36 => (if t36 = true then ((laws_heldSpotS.f k bt26.2 1).bind fun t37 => (if t37 < 0 then (some false) else (if t37 = bt26.1 then (some true) else (some false)))) else (some false))))) else (some false))))) else (some false))))) else (some false)))) else (some false))))) = some r := H
 have A8 := Aside0.mk A80
 clear A80
 replace H := Option.bind_eq_some_iff.mp H
 obtain ⟨⟨t10, t11⟩, A90, H⟩ := H
 replace H : ((impl_SpotsOf.f k t10 t11).bind fun t15 => ((laws_eqSpotS.f k t15 t7).bind fun t18 => (if t18 = true then ((laws_toProg.f k a0_0 l0_1).bind fun bt19 => ((laws_eqProg.f k t10 t11 bt19.1 bt19.2).bind fun t23 => (if t23 = true then ((laws_markProg.f k t10 t11 1).bind fun t24 => (if t24 < 0 then (some false) else ((laws_eqSpotS.f k t15 t7).bind fun t25 => (if t25 = true then ((laws_markSpotS.f k t15 1).bind fun bt26 => ((laws_heldSpotS.f k bt26.2 1).bind fun t28 => (if t28 < 0 then (some false) else (if t28 = bt26.1 then ((laws_toProg.f k a0_0 l0_1).bind fun bt29 => ((impl_SpotsOf.f k bt29.1 bt29.2).bind fun t33 => ((laws_eqSpotS.f k t33 t7).bind fun t36 => (if t36 = true then ((laws_heldSpotS.f k bt26.2 1).bind fun t37 => (if t37 < 0 then (some false) else (if t37 = bt26.1 then (some true) else (some false)))) else (some false))))) else (some false))))) else (some false))))) else (some false)))) else (some false)))) = some r := H
 have A9 := Aside0.mk A90
 clear A90
 replace H := Option.bind_eq_some_iff.mp H
 obtain ⟨t15, A100, H⟩ := H
 replace H : ((laws_eqSpotS.f k t15 t7).bind fun t18 => (if t18 = true then ((laws_toProg.f k a0_0 l0_1).bind fun bt19 => ((laws_eqProg.f k t10 t11 bt19.1 bt19.2).bind fun t23 => (if t23 = true then ((laws_markProg.f k t10 t11 1).bind fun t24 => (if t24 < 0 then (some false) else ((laws_eqSpotS.f k t15 t7).bind fun t25 => (if t25 = true then ((laws_markSpotS.f k t15 1).bind fun bt26 => ((laws_heldSpotS.f k bt26.2 1).bind fun t28 => (if t28 < 0 then (some false) else (if t28 = bt26.1 then ((laws_toProg.f k a0_0 l0_1).bind fun bt29 => ((impl_SpotsOf.f k bt29.1 bt29.2).bind fun t33 => ((laws_eqSpotS.f k t33 t7).bind fun t36 => (if t36 = true then ((laws_heldSpotS.f k bt26.2 1).bind fun t37 => (if t37 < 0 then (some false) else (if t37 = bt26.1 then (some true) else (some false)))) else (some false))))) else (some false))))) else (some false))))) else (some false)))) else (some false))) = some r := H
 have A10 := Aside0.mk A100
 clear A100
 replace H := Option.bind_eq_some_iff.mp H
 obtain ⟨t18, A110, H⟩ := H
 replace H : (if t18 = true then ((laws_toProg.f k a0_0 l0_1).bind fun bt19 => ((laws_eqProg.f k t10 t11 bt19.1 bt19.2).bind fun t23 => (if t23 = true then ((laws_markProg.f k t10 t11 1).bind fun t24 => (if t24 < 0 then (some false) else ((laws_eqSpotS.f k t15 t7).bind fun t25 => (if t25 = true then ((laws_markSpotS.f k t15 1).bind fun bt26 => ((laws_heldSpotS.f k bt26.2 1).bind fun t28 => (if t28 < 0 then (some false) else (if t28 = bt26.1 then ((laws_toProg.f k a0_0 l0_1).bind fun bt29 => ((impl_SpotsOf.f k bt29.1 bt29.2).bind fun t33 => ((laws_eqSpotS.f k t33 t7).bind fun t36 => (if t36 = true then ((laws_heldSpotS.f k bt26.2 1).bind fun t37 => (if t37 < 0 then (some false) else (if t37 = bt26.1 then (some true) else (some false)))) else (some false))))) else (some false))))) else (some false))))) else (some false)))) else (some false)) = some r := H
 have A11 := Aside0.mk A110
 clear A110
 by_cases c12 : t18 = true
 rotate_left
 ·replace c12 := Bool.eq_false_iff.mpr c12
  subst c12
  have H1 : (some false) = some r := by rw [if_neg (show ¬ (false = true) by decide)] at H; exact H
  clear H
  have H := H1
  clear H1
  obtain rfl := Option.some.inj H
  exact absurd hr_ (by decide)
 subst c12
 have H1 : ((laws_toProg.f k a0_0 l0_1).bind fun bt19 => ((laws_eqProg.f k t10 t11 bt19.1 bt19.2).bind fun t23 => (if t23 = true then ((laws_markProg.f k t10 t11 1).bind fun t24 => (if t24 < 0 then (some false) else ((laws_eqSpotS.f k t15 t7).bind fun t25 => (if t25 = true then ((laws_markSpotS.f k t15 1).bind fun bt26 => ((laws_heldSpotS.f k bt26.2 1).bind fun t28 => (if t28 < 0 then (some false) else (if t28 = bt26.1 then ((laws_toProg.f k a0_0 l0_1).bind fun bt29 => ((impl_SpotsOf.f k bt29.1 bt29.2).bind fun t33 => ((laws_eqSpotS.f k t33 t7).bind fun t36 => (if t36 = true then ((laws_heldSpotS.f k bt26.2 1).bind fun t37 => (if t37 < 0 then (some false) else (if t37 = bt26.1 then (some true) else (some false)))) else (some false))))) else (some false))))) else (some false))))) else (some false)))) = some r := by rw [if_pos rfl] at H; exact H
 clear H
 have H := H1
 clear H1
 replace H := Option.bind_eq_some_iff.mp H
 obtain ⟨⟨t19, t20⟩, A130, H⟩ := H
 replace H : ((laws_eqProg.f k t10 t11 t19 t20).bind fun t23 => (if t23 = true then ((laws_markProg.f k t10 t11 1).bind fun t24 => (if t24 < 0 then (some false) else ((laws_eqSpotS.f k t15 t7).bind fun t25 => (if t25 = true then ((laws_markSpotS.f k t15 1).bind fun bt26 => ((laws_heldSpotS.f k bt26.2 1).bind fun t28 => (if t28 < 0 then (some false) else (if t28 = bt26.1 then ((laws_toProg.f k a0_0 l0_1).bind fun bt29 => ((impl_SpotsOf.f k bt29.1 bt29.2).bind fun t33 => ((laws_eqSpotS.f k t33 t7).bind fun t36 => (if t36 = true then ((laws_heldSpotS.f k bt26.2 1).bind fun t37 => (if t37 < 0 then (some false) else (if t37 = bt26.1 then (some true) else (some false)))) else (some false))))) else (some false))))) else (some false))))) else (some false))) = some r := H
 have A13 := Aside0.mk A130
 clear A130
 replace H := Option.bind_eq_some_iff.mp H
 obtain ⟨t23, A140, H⟩ := H
 replace H : (if t23 = true then ((laws_markProg.f k t10 t11 1).bind fun t24 => (if t24 < 0 then (some false) else ((laws_eqSpotS.f k t15 t7).bind fun t25 => (if t25 = true then ((laws_markSpotS.f k t15 1).bind fun bt26 => ((laws_heldSpotS.f k bt26.2 1).bind fun t28 => (if t28 < 0 then (some false) else (if t28 = bt26.1 then ((laws_toProg.f k a0_0 l0_1).bind fun bt29 => ((impl_SpotsOf.f k bt29.1 bt29.2).bind fun t33 => ((laws_eqSpotS.f k t33 t7).bind fun t36 => (if t36 = true then ((laws_heldSpotS.f k bt26.2 1).bind fun t37 => (if t37 < 0 then (some false) else (if t37 = bt26.1 then (some true) else (some false)))) else (some false))))) else (some false))))) else (some false))))) else (some false)) = some r := H
 have A14 := Aside0.mk A140
 clear A140
 by_cases c15 : t23 = true
 rotate_left
 ·replace c15 := Bool.eq_false_iff.mpr c15
  subst c15
  have H1 : (some false) = some r := by rw [if_neg (show ¬ (false = true) by decide)] at H; exact H
  clear H
  have H := H1
  clear H1
  obtain rfl := Option.some.inj H
  exact absurd hr_ (by decide)
 subst c15
 have H1 : ((laws_markProg.f k t10 t11 1).bind fun t24 => (if t24 < 0 then (some false) else ((laws_eqSpotS.f k t15 t7).bind fun t25 => (if t25 = true then ((laws_markSpotS.f k t15 1).bind fun bt26 => ((laws_heldSpotS.f k bt26.2 1).bind fun t28 => (if t28 < 0 then (some false) else (if t28 = bt26.1 then ((laws_toProg.f k a0_0 l0_1).bind fun bt29 => ((impl_SpotsOf.f k bt29.1 bt29.2).bind fun t33 => ((laws_eqSpotS.f k t33 t7).bind fun t36 => (if t36 = true then ((laws_heldSpotS.f k bt26.2 1).bind fun t37 => (if t37 < 0 then (some false) else (if t37 = bt26.1 then (some true) else (some false)))) else (some false))))) else (some false))))) else (some false))))) = some r := by rw [if_pos rfl] at H; exact H
 clear H
 have H := H1
 clear H1
 replace H := Option.bind_eq_some_iff.mp H
 obtain ⟨t24, A160, H⟩ := H
 replace H : (if t24 < 0 then (some false) else ((laws_eqSpotS.f k t15 t7).bind fun t25 => (if t25 = true then ((laws_markSpotS.f k t15 1).bind fun bt26 => ((laws_heldSpotS.f k bt26.2 1).bind fun t28 => (if t28 < 0 then (some false) else (if t28 = bt26.1 then ((laws_toProg.f k a0_0 l0_1).bind fun bt29 => ((impl_SpotsOf.f k bt29.1 bt29.2).bind fun t33 => ((laws_eqSpotS.f k t33 t7).bind fun t36 => (if t36 = true then ((laws_heldSpotS.f k bt26.2 1).bind fun t37 => (if t37 < 0 then (some false) else (if t37 = bt26.1 then (some true) else (some false)))) else (some false))))) else (some false))))) else (some false)))) = some r := H
 have A16 := Aside0.mk A160
 clear A160
 by_cases c17 : t24 < 0
 ·rw [if_pos c17] at H
  have c17b0 : decide (t24 < 0) = true := decide_eq_true c17
  clear c17
  obtain rfl := Option.some.inj H
  exact absurd hr_ (by decide)
 rw [if_neg c17] at H
 have c17b0 : decide (t24 < 0) = false := decide_eq_false c17
 clear c17
 replace H := Option.bind_eq_some_iff.mp H
 obtain ⟨t25, A410, H⟩ := H
 replace H : (if t25 = true then ((laws_markSpotS.f k t15 1).bind fun bt26 => ((laws_heldSpotS.f k bt26.2 1).bind fun t28 => (if t28 < 0 then (some false) else (if t28 = bt26.1 then ((laws_toProg.f k a0_0 l0_1).bind fun bt29 => ((impl_SpotsOf.f k bt29.1 bt29.2).bind fun t33 => ((laws_eqSpotS.f k t33 t7).bind fun t36 => (if t36 = true then ((laws_heldSpotS.f k bt26.2 1).bind fun t37 => (if t37 < 0 then (some false) else (if t37 = bt26.1 then (some true) else (some false)))) else (some false))))) else (some false))))) else (some false)) = some r := H
 have A41 := Aside0.mk A410
 clear A410
 by_cases c42 : t25 = true
 rotate_left
 ·replace c42 := Bool.eq_false_iff.mpr c42
  subst c42
  have H1 : (some false) = some r := by rw [if_neg (show ¬ (false = true) by decide)] at H; exact H
  clear H
  have H := H1
  clear H1
  obtain rfl := Option.some.inj H
  exact absurd hr_ (by decide)
 subst c42
 have H1 : ((laws_markSpotS.f k t15 1).bind fun bt26 => ((laws_heldSpotS.f k bt26.2 1).bind fun t28 => (if t28 < 0 then (some false) else (if t28 = bt26.1 then ((laws_toProg.f k a0_0 l0_1).bind fun bt29 => ((impl_SpotsOf.f k bt29.1 bt29.2).bind fun t33 => ((laws_eqSpotS.f k t33 t7).bind fun t36 => (if t36 = true then ((laws_heldSpotS.f k bt26.2 1).bind fun t37 => (if t37 < 0 then (some false) else (if t37 = bt26.1 then (some true) else (some false)))) else (some false))))) else (some false))))) = some r := by rw [if_pos rfl] at H; exact H
 clear H
 have H := H1
 clear H1
 replace H := Option.bind_eq_some_iff.mp H
 obtain ⟨⟨t26, t27⟩, A430, H⟩ := H
 replace H : ((laws_heldSpotS.f k t27 1).bind fun t28 => (if t28 < 0 then (some false) else (if t28 = t26 then ((laws_toProg.f k a0_0 l0_1).bind fun bt29 => ((impl_SpotsOf.f k bt29.1 bt29.2).bind fun t33 => ((laws_eqSpotS.f k t33 t7).bind fun t36 => (if t36 = true then ((laws_heldSpotS.f k t27 1).bind fun t37 => (if t37 < 0 then (some false) else (if t37 = t26 then (some true) else (some false)))) else (some false))))) else (some false)))) = some r := H
 have A43 := Aside0.mk A430
 clear A430
 replace H := Option.bind_eq_some_iff.mp H
 obtain ⟨t28, A440, H⟩ := H
 replace H : (if t28 < 0 then (some false) else (if t28 = t26 then ((laws_toProg.f k a0_0 l0_1).bind fun bt29 => ((impl_SpotsOf.f k bt29.1 bt29.2).bind fun t33 => ((laws_eqSpotS.f k t33 t7).bind fun t36 => (if t36 = true then ((laws_heldSpotS.f k t27 1).bind fun t37 => (if t37 < 0 then (some false) else (if t37 = t26 then (some true) else (some false)))) else (some false))))) else (some false))) = some r := H
 have A44 := Aside0.mk A440
 clear A440
 by_cases c45 : t28 < 0
 ·rw [if_pos c45] at H
  have c45b0 : decide (t28 < 0) = true := decide_eq_true c45
  clear c45
  obtain rfl := Option.some.inj H
  exact absurd hr_ (by decide)
 rw [if_neg c45] at H
 have c45b0 : decide (t28 < 0) = false := decide_eq_false c45
 clear c45
 by_cases c71 : t28 = t26
 rotate_left
 ·rw [if_neg c71] at H
  have c71b0 : (t28 == t26) = false := beq_eq_false_iff_ne.mpr c71
  have c71b1 : (t28 != t26) = true := bne_iff_ne.mpr c71
  obtain rfl := Option.some.inj H
  exact absurd hr_ (by decide)
 rw [if_pos c71] at H
 have c71b0 : (t28 == t26) = true := beq_iff_eq.mpr c71
 have c71b1 : (t28 != t26) = false := bne_eq_false_iff_eq.mpr c71
 clear c71
 replace H := Option.bind_eq_some_iff.mp H
 obtain ⟨⟨t29, t30⟩, A720, H⟩ := H
 replace H : ((impl_SpotsOf.f k t29 t30).bind fun t33 => ((laws_eqSpotS.f k t33 t7).bind fun t36 => (if t36 = true then ((laws_heldSpotS.f k t27 1).bind fun t37 => (if t37 < 0 then (some false) else (if t37 = t26 then (some true) else (some false)))) else (some false)))) = some r := H
 have A72 := Aside0.mk A720
 clear A720
 replace H := Option.bind_eq_some_iff.mp H
 obtain ⟨t33, A730, H⟩ := H
 replace H : ((laws_eqSpotS.f k t33 t7).bind fun t36 => (if t36 = true then ((laws_heldSpotS.f k t27 1).bind fun t37 => (if t37 < 0 then (some false) else (if t37 = t26 then (some true) else (some false)))) else (some false))) = some r := H
 have A73 := Aside0.mk A730
 clear A730
 replace H := Option.bind_eq_some_iff.mp H
 obtain ⟨t36, A740, H⟩ := H
 replace H : (if t36 = true then ((laws_heldSpotS.f k t27 1).bind fun t37 => (if t37 < 0 then (some false) else (if t37 = t26 then (some true) else (some false)))) else (some false)) = some r := H
 have A74 := Aside0.mk A740
 clear A740
 by_cases c75 : t36 = true
 rotate_left
 ·replace c75 := Bool.eq_false_iff.mpr c75
  subst c75
  have H1 : (some false) = some r := by rw [if_neg (show ¬ (false = true) by decide)] at H; exact H
  clear H
  have H := H1
  clear H1
  obtain rfl := Option.some.inj H
  exact absurd hr_ (by decide)
 subst c75
 have H1 : ((laws_heldSpotS.f k t27 1).bind fun t37 => (if t37 < 0 then (some false) else (if t37 = t26 then (some true) else (some false)))) = some r := by rw [if_pos rfl] at H; exact H
 clear H
 have H := H1
 clear H1
 replace H := Option.bind_eq_some_iff.mp H
 obtain ⟨t37, A760, H⟩ := H
 replace H : (if t37 < 0 then (some false) else (if t37 = t26 then (some true) else (some false))) = some r := H
 have A76 := Aside0.mk A760
 clear A760
 by_cases c77 : t37 < 0
 ·rw [if_pos c77] at H
  have c77b0 : decide (t37 < 0) = true := decide_eq_true c77
  clear c77
  obtain rfl := Option.some.inj H
  exact absurd hr_ (by decide)
 rw [if_neg c77] at H
 have c77b0 : decide (t37 < 0) = false := decide_eq_false c77
 clear c77
 by_cases c109 : t37 = t26
 rotate_left
 ·rw [if_neg c109] at H
  have c109b0 : (t37 == t26) = false := beq_eq_false_iff_ne.mpr c109
  have c109b1 : (t37 != t26) = true := bne_iff_ne.mpr c109
  obtain rfl := Option.some.inj H
  exact absurd hr_ (by decide)
 rw [if_pos c109] at H
 have c109b0 : (t37 == t26) = true := beq_iff_eq.mpr c109
 have c109b1 : (t37 != t26) = false := bne_eq_false_iff_eq.mpr c109
 clear c109
 obtain rfl := Option.some.inj H
 clear hr_
 go_enter Try.func5, Try.ntmps5
 try go_wp2_with (first | ((with_reducible refine gate_dst (N := 1) rfl ?_); refine box_event ?hg (N := 1) ?hd (cs := #[.int .i64 a0_0, .slice A0_1 l0_1.length c0_1]) (t := 35) ?hr ?_; (case hd => rfl); (case hg => rfl); (case hr => first | (go_simp; done) | (go_simp; rfl)); intro gb1 hg w110 hbox hb; have n0_ := Aside0.mk (below_step bw_ hb); have n1_ := Aside0.mk (hbox); have n2_ := Aside0.mk ((by rw [hg]; exact (below_size bw_) : w.heap.size ≤ gb1)); have n3_ := Aside0.mk ((by rw [hg]; exact (below_size bw_) : w.heap.size ≤ gb1)); clear HB; have HB := n0_; have BK1 := n1_; have GW1 := n2_; have GE1 := n3_; clear n0_ n1_ n2_ n3_; clear hb hbox hg; have hcz111_0 := (blk_cell BK1.out 0).trans rfl; have hcz111_1 := (blk_cell BK1.out 1).trans rfl; have hfz111_0 := blk_frozen BK1.out 0; have hfz111_1 := blk_frozen BK1.out 1) | ((with_reducible refine gate_callee (f := 19) rfl ?_); refine goesL_ (some 13) rfl rfl Try.func19 (by kernel_rfl) rfl #[.agg #[.int .i64 a0_0, .slice A0_1 l0_1.length c0_1], .int .i64 1048576] rfl ar_ ?_; (with_reducible refine (laws_szProg.calls k a0_0 _ _ l0_1 1048576 t2 _ ?side1 ?side2 A2.out).mono ?_); (case side1 => exact cb_); (case side2 => exact HC0_1.out); rintro e w112 ⟨rfl, hb⟩; refine ⟨_, rfl, ?_⟩; have n0_ := Aside0.mk (blk_below (g := gb1) (o := .cells #[.int .i64 a0_0, .slice A0_1 l0_1.length c0_1] 35 (0, 0)) bk_ hb); have n1_ := Aside0.mk (below_step bw_ hb); clear BK1; clear HB; have BK1 := n0_; have HB := n1_; clear n0_ n1_; (try clear hb); (try clear hb2); (try clear hk); (try clear hi); have hcz113_0 := (blk_cell BK1.out 0).trans rfl; have hcz113_1 := (blk_cell BK1.out 1).trans rfl; have hfz113_0 := blk_frozen BK1.out 0; have hfz113_1 := blk_frozen BK1.out 1) | ((with_reducible refine gate_callee (f := 21) rfl ?_); refine goesL_ (some 17) rfl rfl Try.func21 (by kernel_rfl) rfl #[.agg #[.int .i64 a0_0, .slice A0_1 l0_1.length c0_1]] rfl ar_ ?_; (with_reducible refine (laws_toProg.calls k a0_0 _ _ l0_1 t3 t4 _ ?side1 ?side2 A7.out).mono ?_); (case side1 => exact cb_); (case side2 => exact HC0_1.out); rintro e w114 ⟨v5, rfl, ho0, hb⟩; refine ⟨_, rfl, ?_⟩; have n0_ := Aside0.mk (Kd.S_fresh ho0 (below_size bw_)); have n1_ := Aside0.mk (blk_below (g := gb1) (o := .cells #[.int .i64 a0_0, .slice A0_1 l0_1.length c0_1] 35 (0, 0)) bk_ hb); have n2_ := Aside0.mk (below_step bw_ hb); clear BK1; clear HB; have HO6 := n0_; have BK1 := n1_; have HB := n2_; clear n0_ n1_ n2_; (try clear hb); (try clear hb2); (try clear hk); (try clear hi); (try clear ho0); obtain ⟨Ao115, co115, eo115⟩ := Kd.S_slice HO6.out; subst eo115) | ((with_reducible refine gate_callee (f := 26) rfl ?_); refine goesL_ (some 18) rfl rfl Try.func26 (by kernel_rfl) rfl #[.agg #[.int .i64 t3, .slice Ao115 t4.length co115]] rfl ar_ ?_; (with_reducible refine (spec_SpotsOf.calls k t3 _ _ t4 t7 _ ?side1 ?side2 A8.out).mono ?_); (case side1 => repeat (first | exact (Kd.S_reads' HO6.out).2.2 | (with_reducible refine Kd.C_alloc ?_ _) | (with_reducible refine Kd.C_drewN ?_ _) | (with_reducible refine Kd.C_drew ?_))); (case side2 => exact (Kd.S_reads' HO6.out).2.1); rintro e w116 ⟨v8, rfl, ho0, hb⟩; refine ⟨_, rfl, ?_⟩; have n0_ := Aside0.mk (Kd.S_young (by (with_reducible repeat (first | apply Kd.S_alloc | apply Kd.S_drewN | apply Kd.S_drew)); exact HO6.out) hb); have n1_ := Aside0.mk (Kd.R_fresh ho0 (below_size bw_)); have n2_ := Aside0.mk (blk_below (g := gb1) (o := .cells #[.int .i64 a0_0, .slice A0_1 l0_1.length c0_1] 35 (0, 0)) bk_ hb); have n3_ := Aside0.mk (below_step bw_ hb); clear HO6; clear BK1; clear HB; have HO6 := n0_; have HO9 := n1_; have BK1 := n2_; have HB := n3_; clear n0_ n1_ n2_ n3_; (try clear hb); (try clear hb2); (try clear hk); (try clear hi); (try clear ho0); have hcz117_0 := (blk_cell BK1.out 0).trans rfl; have hcz117_1 := (blk_cell BK1.out 1).trans rfl; have hfz117_0 := blk_frozen BK1.out 0; have hfz117_1 := blk_frozen BK1.out 1) | ((with_reducible refine gate_callee (f := 21) rfl ?_); refine goesL_ (some 20) rfl rfl Try.func21 (by kernel_rfl) rfl #[.agg #[.int .i64 a0_0, .slice A0_1 l0_1.length c0_1]] rfl ar_ ?_; (with_reducible refine (laws_toProg.calls k a0_0 _ _ l0_1 t10 t11 _ ?side1 ?side2 A9.out).mono ?_); (case side1 => exact cb_); (case side2 => exact HC0_1.out); rintro e w118 ⟨v12, rfl, ho0, hb⟩; refine ⟨_, rfl, ?_⟩; have n0_ := Aside0.mk (Kd.S_young (by (with_reducible repeat (first | apply Kd.S_alloc | apply Kd.S_drewN | apply Kd.S_drew)); exact HO6.out) hb); have n1_ := Aside0.mk (Kd.R_young (by (with_reducible repeat (first | apply Kd.R_alloc | apply Kd.R_drewN | apply Kd.R_drew)); exact HO9.out) hb); have n2_ := Aside0.mk (Kd.S_fresh ho0 (below_size bw_)); have n3_ := Aside0.mk (blk_below (g := gb1) (o := .cells #[.int .i64 a0_0, .slice A0_1 l0_1.length c0_1] 35 (0, 0)) bk_ hb); have n4_ := Aside0.mk (below_step bw_ hb); clear HO6; clear HO9; clear BK1; clear HB; have HO6 := n0_; have HO9 := n1_; have HO13 := n2_; have BK1 := n3_; have HB := n4_; clear n0_ n1_ n2_ n3_ n4_; (try clear hb); (try clear hb2); (try clear hk); (try clear hi); (try clear ho0)) | ((with_reducible refine gate_dst (N := 5) rfl ?_); refine box_event ?hg (N := 5) ?hd (cs := #[.int .i64 0, .slice none 0 0]) (t := 39) ?hr ?_; (case hd => rfl); (case hg => rfl); (case hr => first | (go_simp; done) | (go_simp; rfl)); intro gb14 hg w119 hbox hb; have n0_ := Aside0.mk (Kd.S_below (by (with_reducible repeat (first | apply Kd.S_alloc | apply Kd.S_drewN | apply Kd.S_drew)); exact HO6.out) hb); have n1_ := Aside0.mk (Kd.R_below (by (with_reducible repeat (first | apply Kd.R_alloc | apply Kd.R_drewN | apply Kd.R_drew)); exact HO9.out) hb); have n2_ := Aside0.mk (Kd.S_below (by (with_reducible repeat (first | apply Kd.S_alloc | apply Kd.S_drewN | apply Kd.S_drew)); exact HO13.out) hb); have n3_ := Aside0.mk (blk_below (g := gb1) (o := .cells #[.int .i64 a0_0, .slice A0_1 l0_1.length c0_1] 35 (0, 0)) bk_ hb); have n4_ := Aside0.mk (below_step bw_ hb); have n5_ := Aside0.mk (hbox); have n6_ := Aside0.mk ((by rw [hg]; exact (below_size bw_) : w.heap.size ≤ gb14)); have n7_ := Aside0.mk ((by rw [hg]; exact (below_size bw_) : w.heap.size ≤ gb14)); have n8_ := Aside0.mk ((by rw [hg]; exact Nat.ne_of_lt (blk_lt (g := gb1) (o := .cells #[.int .i64 a0_0, .slice A0_1 l0_1.length c0_1] 35 (0, 0)) bk_) : gb1 ≠ gb14)); have n9_ := Aside0.mk ((by rw [hg]; exact Nat.ne_of_gt (blk_lt (g := gb1) (o := .cells #[.int .i64 a0_0, .slice A0_1 l0_1.length c0_1] 35 (0, 0)) bk_) : gb14 ≠ gb1)); clear HO6; clear HO9; clear HO13; clear BK1; clear HB; have HO6 := n0_; have HO9 := n1_; have HO13 := n2_; have BK1 := n3_; have HB := n4_; have BK14 := n5_; have GW14 := n6_; have GE14 := n7_; have NB1_14 := n8_; have NB14_1 := n9_; clear n0_ n1_ n2_ n3_ n4_ n5_ n6_ n7_ n8_ n9_; clear hb hbox hg; have hnb120 := NB14_1.out; have hnc120 := NB1_14.out; have hcz121_0 := (blk_cell BK14.out 0).trans rfl; have hcz121_1 := (blk_cell BK14.out 1).trans rfl; have hfz121_0 := blk_frozen BK14.out 0; have hfz121_1 := blk_frozen BK14.out 1; obtain ⟨Ao122, co122, eo122⟩ := Kd.S_slice HO13.out; subst eo122) | ((with_reducible refine gate_callee (f := 27) rfl ?_); refine goesL_ (some 22) rfl rfl Try.func27 (by kernel_rfl) rfl #[.agg #[.int .i64 t10, .slice Ao122 t11.length co122]] rfl ar_ ?_; (with_reducible refine (impl_SpotsOf.calls k t10 _ _ t11 t15 _ ?side1 ?side2 A10.out).mono ?_); (case side1 => exact (Kd.S_reads' (e := 26) (base := w.heap.size) (n := t11.length) (c := co122) (by (with_reducible repeat (first | apply Kd.S_alloc | apply Kd.S_drewN | apply Kd.S_drew)); exact (Kd.S_mono (Kd.S_far (p := ⟨gb14, 1, none⟩) (Kd.S_far (p := ⟨gb14, 0, none⟩) (Kd.S_types HO13.out BK14.out (by decide)) (fun _ hk => hk.2) (.int .i64 t10)) (fun _ hk => hk.2) (.slice Ao122 t11.length co122)) (fun _ h_ => h_.1)))).2.2); (case side2 => exact (Kd.S_reads' HO13.out).2.1); rintro e w123 ⟨v16, rfl, ho0, hb⟩; refine ⟨_, rfl, ?_⟩; have n0_ := Aside0.mk (Kd.S_young (by (with_reducible repeat (first | apply Kd.S_alloc | apply Kd.S_drewN | apply Kd.S_drew)); exact (Kd.S_mono (Kd.S_far (p := ⟨gb14, 1, none⟩) (Kd.S_far (p := ⟨gb14, 0, none⟩) (Kd.S_types HO6.out BK14.out (by decide)) (fun _ hk => hk.2) (.int .i64 t10)) (fun _ hk => hk.2) (.slice Ao122 t11.length co122)) (fun _ h_ => h_.1))) hb); have n1_ := Aside0.mk (Kd.R_young (by (with_reducible repeat (first | apply Kd.R_alloc | apply Kd.R_drewN | apply Kd.R_drew)); exact (Kd.R_mono (Kd.R_far (p := ⟨gb14, 1, none⟩) (Kd.R_far (p := ⟨gb14, 0, none⟩) (Kd.R_types HO9.out BK14.out (by decide)) (fun _ hk => hk.2) (.int .i64 t10)) (fun _ hk => hk.2) (.slice Ao122 t11.length co122)) (fun _ h_ => h_.1))) hb); have n2_ := Aside0.mk (Kd.S_young (by (with_reducible repeat (first | apply Kd.S_alloc | apply Kd.S_drewN | apply Kd.S_drew)); exact (Kd.S_mono (Kd.S_far (p := ⟨gb14, 1, none⟩) (Kd.S_far (p := ⟨gb14, 0, none⟩) (Kd.S_types HO13.out BK14.out (by decide)) (fun _ hk => hk.2) (.int .i64 t10)) (fun _ hk => hk.2) (.slice Ao122 t11.length co122)) (fun _ h_ => h_.1))) hb); have n3_ := Aside0.mk (Kd.R_fresh ho0 (below_size bw_)); have n4_ := Aside0.mk (blk_below (g := gb1) (o := .cells #[.int .i64 a0_0, .slice A0_1 l0_1.length c0_1] 35 (0, 0)) (by (with_reducible repeat (first | refine blk_drewN ?_ _ | refine blk_drew ?_ | refine blk_alloc ?_ _)); refine blk_far ?_ NB1_14.out _; (with_reducible repeat (first | refine blk_drewN ?_ _ | refine blk_drew ?_ | refine blk_alloc ?_ _)); refine blk_far ?_ NB1_14.out _; (with_reducible repeat (first | refine blk_drewN ?_ _ | refine blk_drew ?_ | refine blk_alloc ?_ _)); exact BK1.out) hb); have n5_ := Aside0.mk (blk_below (g := gb14) (o := .cells #[.int .i64 t10, .slice Ao122 t11.length co122] 39 (0, 0)) (by (with_reducible repeat (first | refine blk_drewN ?_ _ | refine blk_drew ?_ | refine blk_alloc ?_ _)); refine blk_put (cs := #[.int .i64 t10, .slice none 0 0]) ?_ 1 _ rfl; (with_reducible repeat (first | refine blk_drewN ?_ _ | refine blk_drew ?_ | refine blk_alloc ?_ _)); refine blk_put (cs := #[.int .i64 0, .slice none 0 0]) ?_ 0 _ rfl; (with_reducible repeat (first | refine blk_drewN ?_ _ | refine blk_drew ?_ | refine blk_alloc ?_ _)); exact BK14.out) hb); have n6_ := Aside0.mk (below_step bw_ hb); clear HO6; clear HO9; clear HO13; clear BK1; clear BK14; clear HB; have HO6 := n0_; have HO9 := n1_; have HO13 := n2_; have HO17 := n3_; have BK1 := n4_; have BK14 := n5_; have HB := n6_; clear n0_ n1_ n2_ n3_ n4_ n5_ n6_; (try clear hb); (try clear hb2); (try clear hk); (try clear hi); (try clear ho0); obtain ⟨Ao124, co124, eo124⟩ := Kd.R_slice HO17.out; subst eo124; obtain ⟨Ao125, co125, eo125⟩ := Kd.R_slice HO9.out; subst eo125) | ((with_reducible refine gate_callee (f := 28) rfl ?_); refine goesL_ (some 25) rfl rfl Try.func28 (by kernel_rfl) rfl #[.slice Ao124 t15.length co124, .slice Ao125 t7.length co125] rfl ar_ ?_; (with_reducible refine (laws_eqSpotS.calls k _ _ t15 _ _ t7 true _ ?side1 ?side2 ?side3 ?side4 A11.out).mono ?_); (case side1 => repeat (first | exact (Kd.R_reads' HO17.out).2.2 | (with_reducible refine Kd.C_alloc ?_ _) | (with_reducible refine Kd.C_drewN ?_ _) | (with_reducible refine Kd.C_drew ?_))); (case side2 => exact (Kd.R_reads' HO17.out).2.1); (case side3 => repeat (first | exact (Kd.R_reads' HO9.out).2.2 | (with_reducible refine Kd.C_alloc ?_ _) | (with_reducible refine Kd.C_drewN ?_ _) | (with_reducible refine Kd.C_drew ?_))); (case side4 => exact (Kd.R_reads' HO9.out).2.1); rintro e w126 ⟨rfl, hb⟩; refine ⟨_, rfl, ?_⟩; have n0_ := Aside0.mk (Kd.S_below (by (with_reducible repeat (first | apply Kd.S_alloc | apply Kd.S_drewN | apply Kd.S_drew)); exact HO6.out) hb); have n1_ := Aside0.mk (Kd.R_below (by (with_reducible repeat (first | apply Kd.R_alloc | apply Kd.R_drewN | apply Kd.R_drew)); exact HO9.out) hb); have n2_ := Aside0.mk (Kd.S_below (by (with_reducible repeat (first | apply Kd.S_alloc | apply Kd.S_drewN | apply Kd.S_drew)); exact HO13.out) hb); have n3_ := Aside0.mk (Kd.R_below (by (with_reducible repeat (first | apply Kd.R_alloc | apply Kd.R_drewN | apply Kd.R_drew)); exact HO17.out) hb); have n4_ := Aside0.mk (blk_below (g := gb1) (o := .cells #[.int .i64 a0_0, .slice A0_1 l0_1.length c0_1] 35 (0, 0)) bk_ hb); have n5_ := Aside0.mk (blk_below (g := gb14) (o := .cells #[.int .i64 t10, .slice Ao122 t11.length co122] 39 (0, 0)) bk_ hb); have n6_ := Aside0.mk (below_step bw_ hb); clear HO6; clear HO9; clear HO13; clear HO17; clear BK1; clear BK14; clear HB; have HO6 := n0_; have HO9 := n1_; have HO13 := n2_; have HO17 := n3_; have BK1 := n4_; have BK14 := n5_; have HB := n6_; clear n0_ n1_ n2_ n3_ n4_ n5_ n6_; (try clear hb); (try clear hb2); (try clear hk); (try clear hi)))
 have n0_ := Aside0.mk (Kd.S_drew HO6.out)
 have n1_ := Aside0.mk (Kd.R_drew HO9.out)
 have n2_ := Aside0.mk (Kd.S_drew HO13.out)
 have n3_ := Aside0.mk (Kd.R_drew HO17.out)
 have n4_ := Aside0.mk (blk_drew BK1.out)
 have n5_ := Aside0.mk (blk_drew BK14.out)
 have n6_ := Aside0.mk (below_drew1 HB.out)
 clear HO6
 clear HO9
 clear HO13
 clear HO17
 clear BK1
 clear BK14
 clear HB
 have HO6 := n0_
 have HO9 := n1_
 have HO13 := n2_
 have HO17 := n3_
 have BK1 := n4_
 have BK14 := n5_
 have HB := n6_
 clear n0_ n1_ n2_ n3_ n4_ n5_ n6_
 refine start_ (n := 5) (S := fun w' => w'.cell? ⟨gb14, 0, none⟩ = some (.int .i64 t10) ∧ w'.cell? ⟨gb14, 1, none⟩ = some (.slice Ao122 t11.length co122) ∧ w'.cell? ⟨gb1, 0, none⟩ = some (.int .i64 a0_0) ∧ w'.cell? ⟨gb1, 1, none⟩ = some (.slice A0_1 l0_1.length c0_1)) (ds := []) #[false, false, false, false, false] (by kernel_rfl) rfl rfl ⟨(blk_cell BK14.out 0).trans rfl, (blk_cell BK14.out 1).trans rfl, (blk_cell BK1.out 0).trans rfl, (blk_cell BK1.out 1).trans rfl⟩ (fun hHeld => ?_)
 generalize w126.drew = w127 at HO6 HO9 HO13 HO17 BK1 BK14 HB hHeld ⊢
 refine take_ (i := 0) (N := some 27) (v := ?_) (a' := ?_) #[true, false, false, false, false] rfl rfl (by kernel_rfl) (fun _ _ _ h => h) (Or.inl ⟨by rfl, ?_⟩) hHeld ?_ ?_
 rotate_left
 ·rintro w' ⟨s0, s1, s2, s3⟩
  go_simp
  with_reducible rfl
 rotate_left
 ·simp only [Act.put, List.setIfInBounds_toArray, List.set_cons_zero, List.set_cons_succ, i64_w, i32_w]
  rfl
 refine take_ (i := 1) (N := some 28) (v := ?_) (a' := ?_) #[true, true, false, false, false] rfl rfl (by kernel_rfl) (fun _ _ _ h => h) (Or.inl ⟨by rfl, ?_⟩) hHeld ?_ ?_
 rotate_left
 ·rintro w' ⟨s0, s1, s2, s3⟩
  go_simp
  with_reducible rfl
 rotate_left
 ·simp only [Act.put, List.setIfInBounds_toArray, List.set_cons_zero, List.set_cons_succ, i64_w, i32_w]
  rfl
 refine one_ (i := 2) (N := some 29) #[true, true, true, false, false] rfl rfl (by kernel_rfl) (by decide) (fun K hK => ?_)
 refine goes_ Try.func21 (by kernel_rfl) rfl #[.agg #[.int .i64 a0_0, .slice A0_1 l0_1.length c0_1]] (by rfl) rfl rfl ar_ ?_
 with_reducible refine (laws_toProg.calls k a0_0 _ _ l0_1 t19 t20 _ ?side1 ?side2 A13.out).mono ?_
 (case side1 => exact cb_)
 (case side2 => exact HC0_1.out)
 rintro e w128 ⟨v21, rfl, ho0, hb⟩
 refine ⟨_, rfl, ?_⟩
 have n0_ := Aside0.mk (Kd.S_young (by (with_reducible repeat (first | apply Kd.S_alloc | apply Kd.S_drewN | apply Kd.S_drew)); exact HO6.out) hb)
 have n1_ := Aside0.mk (Kd.R_young (by (with_reducible repeat (first | apply Kd.R_alloc | apply Kd.R_drewN | apply Kd.R_drew)); exact HO9.out) hb)
 have n2_ := Aside0.mk (Kd.S_young (by (with_reducible repeat (first | apply Kd.S_alloc | apply Kd.S_drewN | apply Kd.S_drew)); exact HO13.out) hb)
 have n3_ := Aside0.mk (Kd.R_young (by (with_reducible repeat (first | apply Kd.R_alloc | apply Kd.R_drewN | apply Kd.R_drew)); exact HO17.out) hb)
 have n4_ := Aside0.mk (Kd.S_fresh ho0 (below_size bw_))
 have n5_ := Aside0.mk (blk_below (g := gb1) (o := .cells #[.int .i64 a0_0, .slice A0_1 l0_1.length c0_1] 35 (0, 0)) bk_ hb)
 have n6_ := Aside0.mk (blk_below (g := gb14) (o := .cells #[.int .i64 t10, .slice Ao122 t11.length co122] 39 (0, 0)) bk_ hb)
 have n7_ := Aside0.mk (below_step bw_ hb)
 clear HO6
 clear HO9
 clear HO13
 clear HO17
 clear BK1
 clear BK14
 clear HB
 have HO6 := n0_
 have HO9 := n1_
 have HO13 := n2_
 have HO17 := n3_
 have HO22 := n4_
 have BK1 := n5_
 have BK14 := n6_
 have HB := n7_
 clear n0_ n1_ n2_ n3_ n4_ n5_ n6_ n7_
 (try clear hb)
 (try clear hb2)
 (try clear hk)
 (try clear hi)
 (try clear ho0)
 obtain ⟨Ao129, co129, eo129⟩ := Kd.S_slice HO22.out
 (first | subst eo129 | (injection eo129 with f1_ f2_ f3_; have f4_ := f1_.symm; have f5_ := f3_.symm; clear f1_ f2_ f3_; subst f4_; subst f5_))
 refine hK.out _ _ ⟨(blk_cell BK14.out 0).trans rfl, (blk_cell BK14.out 1).trans rfl, (blk_cell BK1.out 0).trans rfl, (blk_cell BK1.out 1).trans rfl⟩ (fun hHeld => ?_)
 clear hK K
 refine norm_ (a' := ?_) ?_ ?_
 rotate_left
 ·show Act.put _ (some 29) _ = _
  simp only [Act.put, List.setIfInBounds_toArray, List.set_cons_zero, List.set_cons_succ, i64_w, i32_w]
  rfl
 refine one_ (i := 3) (N := some 30) #[true, true, true, true, false] rfl rfl (by kernel_rfl) (by decide) (fun K hK => ?_)
 refine goes_ Try.func23 (by kernel_rfl) rfl #[.agg #[.int .i64 t10, .slice Ao122 t11.length co122], .agg #[.int .i64 t19, .slice Ao129 t20.length co129]] (by rfl) rfl rfl ar_ ?_
 with_reducible refine (laws_eqProg.calls k t10 _ _ t11 t19 _ _ t20 true _ ?side1 ?side2 ?side3 ?side4 A14.out).mono ?_
 (case side1 => repeat (first | exact (Kd.S_reads' HO13.out).2.2 | (with_reducible refine Kd.C_alloc ?_ _) | (with_reducible refine Kd.C_drewN ?_ _) | (with_reducible refine Kd.C_drew ?_)))
 (case side2 => exact (Kd.S_reads' HO13.out).2.1)
 (case side3 => repeat (first | exact (Kd.S_reads' HO22.out).2.2 | (with_reducible refine Kd.C_alloc ?_ _) | (with_reducible refine Kd.C_drewN ?_ _) | (with_reducible refine Kd.C_drew ?_)))
 (case side4 => exact (Kd.S_reads' HO22.out).2.1)
 rintro e w130 ⟨rfl, hb⟩
 refine ⟨_, rfl, ?_⟩
 have n0_ := Aside0.mk (Kd.S_below (by (with_reducible repeat (first | apply Kd.S_alloc | apply Kd.S_drewN | apply Kd.S_drew)); exact HO6.out) hb)
 have n1_ := Aside0.mk (Kd.R_below (by (with_reducible repeat (first | apply Kd.R_alloc | apply Kd.R_drewN | apply Kd.R_drew)); exact HO9.out) hb)
 have n2_ := Aside0.mk (Kd.S_below (by (with_reducible repeat (first | apply Kd.S_alloc | apply Kd.S_drewN | apply Kd.S_drew)); exact HO13.out) hb)
 have n3_ := Aside0.mk (Kd.R_below (by (with_reducible repeat (first | apply Kd.R_alloc | apply Kd.R_drewN | apply Kd.R_drew)); exact HO17.out) hb)
 have n4_ := Aside0.mk (Kd.S_below (by (with_reducible repeat (first | apply Kd.S_alloc | apply Kd.S_drewN | apply Kd.S_drew)); exact HO22.out) hb)
 have n5_ := Aside0.mk (blk_below (g := gb1) (o := .cells #[.int .i64 a0_0, .slice A0_1 l0_1.length c0_1] 35 (0, 0)) bk_ hb)
 have n6_ := Aside0.mk (blk_below (g := gb14) (o := .cells #[.int .i64 t10, .slice Ao122 t11.length co122] 39 (0, 0)) bk_ hb)
 have n7_ := Aside0.mk (below_step bw_ hb)
 clear HO6
 clear HO9
 clear HO13
 clear HO17
 clear HO22
 clear BK1
 clear BK14
 clear HB
 have HO6 := n0_
 have HO9 := n1_
 have HO13 := n2_
 have HO17 := n3_
 have HO22 := n4_
 have BK1 := n5_
 have BK14 := n6_
 have HB := n7_
 clear n0_ n1_ n2_ n3_ n4_ n5_ n6_ n7_
 (try clear hb)
 (try clear hb2)
 (try clear hk)
 (try clear hi)
 refine hK.out _ _ ⟨(blk_cell BK14.out 0).trans rfl, (blk_cell BK14.out 1).trans rfl, (blk_cell BK1.out 0).trans rfl, (blk_cell BK1.out 1).trans rfl⟩ (fun hHeld => ?_)
 clear hK K
 refine norm_ (a' := ?_) ?_ ?_
 rotate_left
 ·show Act.put _ (some 30) _ = _
  simp only [Act.put, List.setIfInBounds_toArray, List.set_cons_zero, List.set_cons_succ, i64_w, i32_w]
  rfl
 refine pure_ (i := 4) (N := some 31) (v := ?_) (a' := ?_) #[true, true, true, true, true] rfl rfl (by kernel_rfl) (fun _ _ _ h => h) (Or.inl ⟨by rfl, ?_⟩) ?_ ?_
 rotate_left
 ·intro w'
  go_simp
  with_reducible rfl
 rotate_left
 ·simp only [Act.put, List.setIfInBounds_toArray, List.set_cons_zero, List.set_cons_succ, i64_w, i32_w]
  rfl
 refine done_ (by kernel_rfl) ?_
 have hcz131_0 := (blk_cell BK14.out 0).trans rfl
 have hcz131_1 := (blk_cell BK14.out 1).trans rfl
 have hfz131_0 := blk_frozen BK14.out 0
 have hfz131_1 := blk_frozen BK14.out 1
 try go_wp2_with (first | ((with_reducible refine gate_callee (f := 24) rfl ?_); refine goesL_ (some 34) rfl rfl Try.func24 (by kernel_rfl) rfl #[.agg #[.int .i64 t10, .slice Ao122 t11.length co122], .int .i64 1] rfl ar_ ?_; obtain ⟨l_A16, hm_A16, hh_A16⟩ := laws_markProg.told A16.out; have HM_A16 := Aside0.mk hm_A16; clear hm_A16 hh_A16; (with_reducible refine (laws_markProg.writes k t10 t11 1 t24 l_A16 w _ HO13.out ?side1 ?side2 HM_A16.out).mono ?_); (case side1 => exact (by repeat (first | (with_reducible first | exact HB.out | apply below_alloc | apply pw_below_drewN | apply below_drew1 | refine below_set ?_ (Aside0.out (by assumption))) | exact HB.out))); (case side2 => exact (by repeat (first | exact HO13.out | (with_reducible refine Kd.S_alloc ?_ _) | (with_reducible refine Kd.S_drewN ?_ _) | (with_reducible refine Kd.S_drew ?_)))); rintro e w132 ⟨rfl, hy_, hb, hkp⟩; refine ⟨_, rfl, ?_⟩; have n0_ := Aside0.mk (Kd.S_keptX HO6.out (by (with_reducible repeat (first | apply Kd.S_alloc | apply Kd.S_drewN | apply Kd.S_drew)); exact HO6.out) hkp (fun k_ hk_ hs_ => Nat.not_lt.2 hs_.1.1.1.1 hk_.1.1.2)); have n1_ := Aside0.mk (Kd.R_keptX HO9.out (by (with_reducible repeat (first | apply Kd.R_alloc | apply Kd.R_drewN | apply Kd.R_drew)); exact HO9.out) hkp (fun k_ hk_ hs_ => Nat.not_lt.2 hs_.1.1.1.1 hk_.1.1.2)); have n2_ := Aside0.mk (hy_); have n3_ := Aside0.mk (Kd.R_keptX HO17.out (by (with_reducible repeat (first | apply Kd.R_alloc | apply Kd.R_drewN | apply Kd.R_drew)); exact HO17.out) hkp (fun k_ hk_ hs_ => Nat.not_lt.2 hk_.1.1 hs_.1.1.2)); have n4_ := Aside0.mk (Kd.S_keptX HO22.out (by (with_reducible repeat (first | apply Kd.S_alloc | apply Kd.S_drewN | apply Kd.S_drew)); exact HO22.out) hkp (fun k_ hk_ hs_ => Nat.not_lt.2 hk_.1 hs_.1.2)); have n5_ := Aside0.mk (blk_kept (g := gb1) (o := .cells #[.int .i64 a0_0, .slice A0_1 l0_1.length c0_1] 35 (0, 0)) bk_ hkp (fun hs_ => typed_ne (g := gb1) (cs := #[.int .i64 a0_0, .slice A0_1 l0_1.length c0_1]) (T := 35) hs_.2 bk_ (by decide))); have n6_ := Aside0.mk (blk_kept (g := gb14) (o := .cells #[.int .i64 t10, .slice Ao122 t11.length co122] 39 (0, 0)) bk_ hkp (fun hs_ => typed_ne (g := gb14) (cs := #[.int .i64 t10, .slice Ao122 t11.length co122]) (T := 39) hs_.2 bk_ (by decide))); have n7_ := Aside0.mk (hb); clear HO6; clear HO9; clear HO13; clear HO17; clear HO22; clear BK1; clear BK14; clear HB; have HO6 := n0_; have HO9 := n1_; have HO13 := n2_; have HO17 := n3_; have HO22 := n4_; have BK1 := n5_; have BK14 := n6_; have HB := n7_; clear n0_ n1_ n2_ n3_ n4_ n5_ n6_ n7_; (try clear hb); (try clear hb2); (try clear hk); (try clear hi)) | (go_at_call 28; (with_reducible refine (laws_eqSpotS.calls k _ _ t15 _ _ t7 true _ ?side1 ?side2 ?side3 ?side4 A41.out).mono ?_); (case side1 => repeat (first | exact (Kd.R_reads' HO17.out).2.2 | (with_reducible refine Kd.C_alloc ?_ _) | (with_reducible refine Kd.C_drewN ?_ _) | (with_reducible refine Kd.C_drew ?_))); (case side2 => exact (Kd.R_reads' HO17.out).2.1); (case side3 => repeat (first | exact (Kd.R_reads' HO9.out).2.2 | (with_reducible refine Kd.C_alloc ?_ _) | (with_reducible refine Kd.C_drewN ?_ _) | (with_reducible refine Kd.C_drew ?_))); (case side4 => exact (Kd.R_reads' HO9.out).2.1); rintro e w133 ⟨rfl, hb⟩; have n0_ := Aside0.mk (Kd.S_below (by (with_reducible repeat (first | apply Kd.S_alloc | apply Kd.S_drewN | apply Kd.S_drew)); exact HO6.out) hb); have n1_ := Aside0.mk (Kd.R_below (by (with_reducible repeat (first | apply Kd.R_alloc | apply Kd.R_drewN | apply Kd.R_drew)); exact HO9.out) hb); have n2_ := Aside0.mk (Kd.S_below (by (with_reducible repeat (first | apply Kd.S_alloc | apply Kd.S_drewN | apply Kd.S_drew)); exact HO13.out) hb); have n3_ := Aside0.mk (Kd.R_below (by (with_reducible repeat (first | apply Kd.R_alloc | apply Kd.R_drewN | apply Kd.R_drew)); exact HO17.out) hb); have n4_ := Aside0.mk (Kd.S_below (by (with_reducible repeat (first | apply Kd.S_alloc | apply Kd.S_drewN | apply Kd.S_drew)); exact HO22.out) hb); have n5_ := Aside0.mk (blk_below (g := gb1) (o := .cells #[.int .i64 a0_0, .slice A0_1 l0_1.length c0_1] 35 (0, 0)) bk_ hb); have n6_ := Aside0.mk (blk_below (g := gb14) (o := .cells #[.int .i64 t10, .slice Ao122 t11.length co122] 39 (0, 0)) bk_ hb); have n7_ := Aside0.mk (below_step bw_ hb); clear HO6; clear HO9; clear HO13; clear HO17; clear HO22; clear BK1; clear BK14; clear HB; have HO6 := n0_; have HO9 := n1_; have HO13 := n2_; have HO17 := n3_; have HO22 := n4_; have BK1 := n5_; have BK14 := n6_; have HB := n7_; clear n0_ n1_ n2_ n3_ n4_ n5_ n6_ n7_; (try clear hb); (try clear hb2); (try clear hk); (try clear hi)) | ((with_reducible refine gate_callee (f := 29) rfl ?_); refine goesL_ (some 45) rfl rfl Try.func29 (by kernel_rfl) rfl #[.slice Ao124 t15.length co124, .int .i64 1] rfl ar_ ?_; (with_reducible refine (laws_markSpotS.calls k (fun k_ => some k_ = (.slice Ao124 t15.length co124 : Value).ownBlock) (.slice Ao124 t15.length co124) t15 1 t26 t27 w _ ?side1 ?side2 A43.out).mono ?_); (case side1 => repeat (first | (with_reducible first | exact HB.out | apply below_alloc | apply pw_below_drewN | apply below_drew1 | refine below_set ?_ GE1.out | refine below_set ?_ GE14.out) | exact HB.out)); (case side2 => exact Kd.R_tight rfl HO17.out); rintro e w134 ⟨rfl, hy0, hb, hkp⟩; refine ⟨_, rfl, ?_⟩; have n0_ := Aside0.mk (blk_kept bk_ hkp (fun hs_ => (fun e_ => (Kd.R_ne HO17.out BK1.out (by decide)) e_) hs_)); have n1_ := Aside0.mk (Kd.S_keptX HO6.out (by repeat (first | exact HO6.out | (with_reducible refine Kd.S_alloc ?_ _) | (with_reducible refine Kd.S_drewN ?_ _) | (with_reducible refine Kd.S_drew ?_))) hkp (fun k_ hk_ hs_ => Nat.not_lt.2 (HO17.out.1 k_ hs_.symm).1.1 hk_.1.2)); have n2_ := Aside0.mk (Kd.R_keptX HO9.out (by repeat (first | exact HO9.out | (with_reducible refine Kd.R_alloc ?_ _) | (with_reducible refine Kd.R_drewN ?_ _) | (with_reducible refine Kd.R_drew ?_))) hkp (fun k_ hk_ hs_ => Nat.not_lt.2 (HO17.out.1 k_ hs_.symm).1.1 hk_.1.2)); have n3_ := Aside0.mk (Kd.S_keptX HO13.out (by repeat (first | exact HO13.out | (with_reducible refine Kd.S_alloc ?_ _) | (with_reducible refine Kd.S_drewN ?_ _) | (with_reducible refine Kd.S_drew ?_))) hkp (fun k_ hk_ hs_ => Nat.not_lt.2 (HO17.out.1 k_ hs_.symm).1.1 hk_.1.2)); have n4_ := Aside0.mk (blk_kept bk_ hkp (fun hs_ => (fun e_ => (Kd.R_ne HO17.out BK14.out (by decide)) e_) hs_)); have n5_ := Aside0.mk (Kd.R_reok rfl hy0 (fun k_ e_ => HO17.out.1 k_ e_)); have n6_ := Aside0.mk (Kd.S_keptX HO22.out (by repeat (first | exact HO22.out | (with_reducible refine Kd.S_alloc ?_ _) | (with_reducible refine Kd.S_drewN ?_ _) | (with_reducible refine Kd.S_drew ?_))) hkp (fun k_ hk_ hs_ => Nat.not_lt.2 hk_.1 (HO17.out.1 k_ hs_.symm).2)); have n7_ := Aside0.mk (hb); clear BK1; clear HO6; clear HO9; clear HO13; clear BK14; clear HO17; clear HO22; clear HB; have BK1 := n0_; have HO6 := n1_; have HO9 := n2_; have HO13 := n3_; have BK14 := n4_; have HO17 := n5_; have HO22 := n6_; have HB := n7_; clear n0_ n1_ n2_ n3_ n4_ n5_ n6_ n7_; (try clear hb); (try clear hkp); (try clear hy0)) | ((with_reducible refine gate_callee (f := 30) rfl ?_); refine goesL_ (some 48) rfl rfl Try.func30 (by kernel_rfl) rfl #[.slice Ao124 t27.length co124, .int .i64 1] rfl (by (try simp only [List.map_toArray, List.map_cons, List.map_nil]); first | done | (rw [show t27.length = t15.length from (Kd.R_reads' HO17.out).1.symm] <;> rfl) | rfl | (simp only [List.length_drop, List.length_take]; rfl)) ?_; (with_reducible refine (laws_heldSpotS.calls k _ _ t27 1 t28 _ ?side1 ?side2 A44.out).mono ?_); (case side1 => repeat (first | exact (Kd.R_reads' HO17.out).2.2 | (with_reducible refine Kd.C_alloc ?_ _) | (with_reducible refine Kd.C_drewN ?_ _) | (with_reducible refine Kd.C_drew ?_))); (case side2 => rw [show t27.length = t15.length from (Kd.R_reads' HO17.out).1.symm]; exact (Kd.R_reads' HO17.out).2.1); rintro e w' ⟨rfl, ⟨nd, rfl⟩⟩; refine ⟨_, rfl, ?_⟩; have hcz135_0 := (blk_cell BK1.out 0).trans rfl; have hcz135_1 := (blk_cell BK1.out 1).trans rfl; have hfz135_0 := blk_frozen BK1.out 0; have hfz135_1 := blk_frozen BK1.out 1) | ((with_reducible refine gate_callee (f := 21) rfl ?_); refine goesL_ (some 55) rfl rfl Try.func21 (by kernel_rfl) rfl #[.agg #[.int .i64 a0_0, .slice A0_1 l0_1.length c0_1]] rfl ar_ ?_; (with_reducible refine (laws_toProg.calls k a0_0 _ _ l0_1 t29 t30 _ ?side1 ?side2 A72.out).mono ?_); (case side1 => repeat (first | exact (Kd.C_below HR0_1.out bw_) | (with_reducible refine Kd.C_alloc ?_ _) | (with_reducible refine Kd.C_drewN ?_ _) | (with_reducible refine Kd.C_drew ?_))); (case side2 => exact HC0_1.out); rintro e w136 ⟨v31, rfl, ho0, hb⟩; refine ⟨_, rfl, ?_⟩; have n0_ := Aside0.mk (Kd.S_young (by (with_reducible repeat (first | apply Kd.S_alloc | apply Kd.S_drewN | apply Kd.S_drew)); exact HO6.out) hb); have n1_ := Aside0.mk (Kd.R_young (by (with_reducible repeat (first | apply Kd.R_alloc | apply Kd.R_drewN | apply Kd.R_drew)); exact HO9.out) hb); have n2_ := Aside0.mk (Kd.S_young (by (with_reducible repeat (first | apply Kd.S_alloc | apply Kd.S_drewN | apply Kd.S_drew)); exact HO13.out) hb); have n3_ := Aside0.mk (Kd.R_young (by (with_reducible repeat (first | apply Kd.R_alloc | apply Kd.R_drewN | apply Kd.R_drew)); exact HO17.out) hb); have n4_ := Aside0.mk (Kd.S_young (by (with_reducible repeat (first | apply Kd.S_alloc | apply Kd.S_drewN | apply Kd.S_drew)); exact HO22.out) hb); have n5_ := Aside0.mk (Kd.S_fresh ho0 (below_size bw_)); have n6_ := Aside0.mk (blk_below (g := gb1) (o := .cells #[.int .i64 a0_0, .slice A0_1 l0_1.length c0_1] 35 (0, 0)) bk_ hb); have n7_ := Aside0.mk (blk_below (g := gb14) (o := .cells #[.int .i64 t10, .slice Ao122 t11.length co122] 39 (0, 0)) bk_ hb); have n8_ := Aside0.mk (below_step bw_ hb); clear HO6; clear HO9; clear HO13; clear HO17; clear HO22; clear BK1; clear BK14; clear HB; have HO6 := n0_; have HO9 := n1_; have HO13 := n2_; have HO17 := n3_; have HO22 := n4_; have HO32 := n5_; have BK1 := n6_; have BK14 := n7_; have HB := n8_; clear n0_ n1_ n2_ n3_ n4_ n5_ n6_ n7_ n8_; (try clear hb); (try clear hb2); (try clear hk); (try clear hi); (try clear ho0); obtain ⟨Ao137, co137, eo137⟩ := Kd.S_slice HO32.out; subst eo137) | ((with_reducible refine gate_callee (f := 27) rfl ?_); refine goesL_ (some 56) rfl rfl Try.func27 (by kernel_rfl) rfl #[.agg #[.int .i64 t29, .slice Ao137 t30.length co137]] rfl ar_ ?_; (with_reducible refine (impl_SpotsOf.calls k t29 _ _ t30 t33 _ ?side1 ?side2 A73.out).mono ?_); (case side1 => repeat (first | exact (Kd.S_reads' HO32.out).2.2 | (with_reducible refine Kd.C_alloc ?_ _) | (with_reducible refine Kd.C_drewN ?_ _) | (with_reducible refine Kd.C_drew ?_))); (case side2 => exact (Kd.S_reads' HO32.out).2.1); rintro e w138 ⟨v34, rfl, ho0, hb⟩; refine ⟨_, rfl, ?_⟩; have n0_ := Aside0.mk (Kd.S_young (by (with_reducible repeat (first | apply Kd.S_alloc | apply Kd.S_drewN | apply Kd.S_drew)); exact HO6.out) hb); have n1_ := Aside0.mk (Kd.R_young (by (with_reducible repeat (first | apply Kd.R_alloc | apply Kd.R_drewN | apply Kd.R_drew)); exact HO9.out) hb); have n2_ := Aside0.mk (Kd.S_young (by (with_reducible repeat (first | apply Kd.S_alloc | apply Kd.S_drewN | apply Kd.S_drew)); exact HO13.out) hb); have n3_ := Aside0.mk (Kd.R_young (by (with_reducible repeat (first | apply Kd.R_alloc | apply Kd.R_drewN | apply Kd.R_drew)); exact HO17.out) hb); have n4_ := Aside0.mk (Kd.S_young (by (with_reducible repeat (first | apply Kd.S_alloc | apply Kd.S_drewN | apply Kd.S_drew)); exact HO22.out) hb); have n5_ := Aside0.mk (Kd.S_young (by (with_reducible repeat (first | apply Kd.S_alloc | apply Kd.S_drewN | apply Kd.S_drew)); exact HO32.out) hb); have n6_ := Aside0.mk (Kd.R_fresh ho0 (below_size bw_)); have n7_ := Aside0.mk (blk_below (g := gb1) (o := .cells #[.int .i64 a0_0, .slice A0_1 l0_1.length c0_1] 35 (0, 0)) bk_ hb); have n8_ := Aside0.mk (blk_below (g := gb14) (o := .cells #[.int .i64 t10, .slice Ao122 t11.length co122] 39 (0, 0)) bk_ hb); have n9_ := Aside0.mk (below_step bw_ hb); clear HO6; clear HO9; clear HO13; clear HO17; clear HO22; clear HO32; clear BK1; clear BK14; clear HB; have HO6 := n0_; have HO9 := n1_; have HO13 := n2_; have HO17 := n3_; have HO22 := n4_; have HO32 := n5_; have HO35 := n6_; have BK1 := n7_; have BK14 := n8_; have HB := n9_; clear n0_ n1_ n2_ n3_ n4_ n5_ n6_ n7_ n8_ n9_; (try clear hb); (try clear hb2); (try clear hk); (try clear hi); (try clear ho0); obtain ⟨Ao139, co139, eo139⟩ := Kd.R_slice HO35.out; subst eo139) | ((with_reducible refine gate_callee (f := 28) rfl ?_); refine goesL_ (some 59) rfl rfl Try.func28 (by kernel_rfl) rfl #[.slice Ao139 t33.length co139, .slice Ao125 t7.length co125] rfl ar_ ?_; (with_reducible refine (laws_eqSpotS.calls k _ _ t33 _ _ t7 true _ ?side1 ?side2 ?side3 ?side4 A74.out).mono ?_); (case side1 => repeat (first | exact (Kd.R_reads' HO35.out).2.2 | (with_reducible refine Kd.C_alloc ?_ _) | (with_reducible refine Kd.C_drewN ?_ _) | (with_reducible refine Kd.C_drew ?_))); (case side2 => exact (Kd.R_reads' HO35.out).2.1); (case side3 => repeat (first | exact (Kd.R_reads' HO9.out).2.2 | (with_reducible refine Kd.C_alloc ?_ _) | (with_reducible refine Kd.C_drewN ?_ _) | (with_reducible refine Kd.C_drew ?_))); (case side4 => exact (Kd.R_reads' HO9.out).2.1); rintro e w140 ⟨rfl, hb⟩; refine ⟨_, rfl, ?_⟩; have n0_ := Aside0.mk (Kd.S_below (by (with_reducible repeat (first | apply Kd.S_alloc | apply Kd.S_drewN | apply Kd.S_drew)); exact HO6.out) hb); have n1_ := Aside0.mk (Kd.R_below (by (with_reducible repeat (first | apply Kd.R_alloc | apply Kd.R_drewN | apply Kd.R_drew)); exact HO9.out) hb); have n2_ := Aside0.mk (Kd.S_below (by (with_reducible repeat (first | apply Kd.S_alloc | apply Kd.S_drewN | apply Kd.S_drew)); exact HO13.out) hb); have n3_ := Aside0.mk (Kd.R_below (by (with_reducible repeat (first | apply Kd.R_alloc | apply Kd.R_drewN | apply Kd.R_drew)); exact HO17.out) hb); have n4_ := Aside0.mk (Kd.S_below (by (with_reducible repeat (first | apply Kd.S_alloc | apply Kd.S_drewN | apply Kd.S_drew)); exact HO22.out) hb); have n5_ := Aside0.mk (Kd.S_below (by (with_reducible repeat (first | apply Kd.S_alloc | apply Kd.S_drewN | apply Kd.S_drew)); exact HO32.out) hb); have n6_ := Aside0.mk (Kd.R_below (by (with_reducible repeat (first | apply Kd.R_alloc | apply Kd.R_drewN | apply Kd.R_drew)); exact HO35.out) hb); have n7_ := Aside0.mk (blk_below (g := gb1) (o := .cells #[.int .i64 a0_0, .slice A0_1 l0_1.length c0_1] 35 (0, 0)) bk_ hb); have n8_ := Aside0.mk (blk_below (g := gb14) (o := .cells #[.int .i64 t10, .slice Ao122 t11.length co122] 39 (0, 0)) bk_ hb); have n9_ := Aside0.mk (below_step bw_ hb); clear HO6; clear HO9; clear HO13; clear HO17; clear HO22; clear HO32; clear HO35; clear BK1; clear BK14; clear HB; have HO6 := n0_; have HO9 := n1_; have HO13 := n2_; have HO17 := n3_; have HO22 := n4_; have HO32 := n5_; have HO35 := n6_; have BK1 := n7_; have BK14 := n8_; have HB := n9_; clear n0_ n1_ n2_ n3_ n4_ n5_ n6_ n7_ n8_ n9_; (try clear hb); (try clear hb2); (try clear hk); (try clear hi)) | ((with_reducible refine gate_callee (f := 30) rfl ?_); refine goesL_ (some 63) rfl rfl Try.func30 (by kernel_rfl) rfl #[.slice Ao124 t27.length co124, .int .i64 1] rfl (by (try simp only [List.map_toArray, List.map_cons, List.map_nil]); first | done | (rw [show t27.length = t15.length from (Kd.R_reads' HO17.out).1.symm] <;> rfl) | rfl | (simp only [List.length_drop, List.length_take]; rfl)) ?_; (with_reducible refine (laws_heldSpotS.calls k _ _ t27 1 t37 _ ?side1 ?side2 A76.out).mono ?_); (case side1 => repeat (first | exact (Kd.R_reads' HO17.out).2.2 | (with_reducible refine Kd.C_alloc ?_ _) | (with_reducible refine Kd.C_drewN ?_ _) | (with_reducible refine Kd.C_drew ?_))); (case side2 => rw [show t27.length = t15.length from (Kd.R_reads' HO17.out).1.symm]; exact (Kd.R_reads' HO17.out).2.1); rintro e w' ⟨rfl, ⟨nd, rfl⟩⟩; refine ⟨_, rfl, ?_⟩))
 go_ret
 exact ⟨rr_, bw_⟩

end Go.Proofs.Ytlfbdafghpmahaa.P
