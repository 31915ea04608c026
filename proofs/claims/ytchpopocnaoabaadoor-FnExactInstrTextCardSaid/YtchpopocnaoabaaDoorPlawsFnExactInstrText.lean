-- Written by mp.py (the session's own driver over the kit's printer) for the seat YtchpopocnaoabaaDoor.
import Derived.Test.YtchpopocnaoabaaDoorK
import Derived.Test.YtchpopocnaoabaaDoorPimplInstrText
import Derived.Test.YtchpopocnaoabaaDoorPlawstoInstr
import Derived.Test.YtchpopocnaoabaaDoorPspecl02Word
import Derived.Test.YtchpopocnaoabaaDoorEnv
namespace Go.Proofs.YtchpopocnaoabaaDoor.P
open Go.RowKit Go.Proofs.YtchpopocnaoabaaDoorW.PrintWords Go.Proofs.YtchpopocnaoabaaDoorW.PrintLast Go.Proofs.YtchpopocnaoabaaDoorW.PrintMore
attribute [local go_sem] max2_int min2_int max_two min_two max_three min_three max_four min_four
set_option linter.unusedVariables false
set_option linter.unusedSimpArgs false

/-! ### laws_FnExactInstrText: function 5 -/
def laws_FnExactInstrText.f (k : Nat) (a0_0 : Int) (a0_1 : Int) (a0_2 : Int) (a0_3 : Int) : Option (Bool) := (laws_toInstr.f a0_0 a0_1 a0_2 a0_3).bind fun bt2 => ((spec_InstrText.f k bt2.1 bt2.2.1 bt2.2.2.1 bt2.2.2.2).bind fun t6 => ((laws_toInstr.f a0_0 a0_1 a0_2 a0_3).bind fun bt7 => ((impl_InstrText.f k bt7.1 bt7.2.1 bt7.2.2.1 bt7.2.2.2).bind fun t11 => (if t11.toList = t6.toList then (some true) else (some false)))))
theorem laws_FnExactInstrText.mono : ∀ a0 a1 a2 a3 k, LeO (laws_FnExactInstrText.f k a0 a1 a2 a3) (laws_FnExactInstrText.f (k + 1) a0 a1 a2 a3) := by
 intro a0 a1 a2 a3 k
 unfold laws_FnExactInstrText.f
 repeat' first | (with_reducible first | exact impl_InstrText.mono _ _ _ _ _ | exact spec_InstrText.mono _ _ _ _ _ | exact lr_ | exact ln_ | refine LeO.ite ?_ ?_ | refine LeO.bind ?_ (fun _ => ?_)) | exact impl_InstrText.mono _ _ _ _ _ | exact spec_InstrText.mono _ _ _ _ _ | exact ln_ | refine LeO.ite ?_ ?_ | refine LeO.bind ?_ (fun _ => ?_)
set_option maxHeartbeats 8000000 in
set_option maxRecDepth 100000 in
theorem laws_FnExactInstrText.calls (k : Nat) (a0_0 : Int) (a0_1 : Int) (a0_2 : Int) (a0_3 : Int) (r : Bool) (w : World) (hE_ : EnvOk false w) (h : laws_FnExactInstrText.f k a0_0 a0_1 a0_2 a0_3 = some r) (hr_ : r = true) :
  Calls Tryd.prog 5 #[.agg #[.int .i64 a0_0, .int .i64 a0_1, .int .i64 a0_2, .int .i64 a0_3]] w fun e w' => e = .returned (.bool r) ∧ Below w.heap.size w w' := by
 have HE_ := Aside0.mk hE_
 clear hE_
 have hu44 := Tryd.underlying44
 have HB := Aside0.mk (Below.refl w.heap.size w)
 have H : ((laws_toInstr.f a0_0 a0_1 a0_2 a0_3).bind fun bt2 => ((spec_InstrText.f k bt2.1 bt2.2.1 bt2.2.2.1 bt2.2.2.2).bind fun t6 => ((laws_toInstr.f a0_0 a0_1 a0_2 a0_3).bind fun bt7 => ((impl_InstrText.f k bt7.1 bt7.2.1 bt7.2.2.1 bt7.2.2.2).bind fun t11 => (if t11.toList = t6.toList then (some true) else (some false)))))) = some r := h
 clear h
 replace H := Option.bind_eq_some_iff.mp H
 obtain ⟨⟨t2, t3, t4, t5⟩, A20, H⟩ := H
 replace H : ((spec_InstrText.f k t2 t3 t4 t5).bind fun t6 => ((laws_toInstr.f a0_0 a0_1 a0_2 a0_3).bind fun bt7 => ((impl_InstrText.f k bt7.1 bt7.2.1 bt7.2.2.1 bt7.2.2.2).bind fun t11 => (if t11.toList = t6.toList then (some true) else (some false))))) = some r := H
 have A2 := Aside0.mk A20
 clear A20
 replace H := Option.bind_eq_some_iff.mp H
 obtain ⟨t6, A30, H⟩ := H
 replace H : ((laws_toInstr.f a0_0 a0_1 a0_2 a0_3).bind fun bt7 => ((impl_InstrText.f k bt7.1 bt7.2.1 bt7.2.2.1 bt7.2.2.2).bind fun t11 => (if t11.toList = t6.toList then (some true) else (some false)))) = some r := H
 have A3 := Aside0.mk A30
 clear A30
 replace H := Option.bind_eq_some_iff.mp H
 obtain ⟨⟨t7, t8, t9, t10⟩, A40, H⟩ := H
 replace H : ((impl_InstrText.f k t7 t8 t9 t10).bind fun t11 => (if t11.toList = t6.toList then (some true) else (some false))) = some r := H
 have A4 := Aside0.mk A40
 clear A40
 replace H := Option.bind_eq_some_iff.mp H
 obtain ⟨t11, A50, H⟩ := H
 replace H : (if t11.toList = t6.toList then (some true) else (some false)) = some r := H
 have A5 := Aside0.mk A50
 clear A50
 by_cases c6 : t11.toList = t6.toList
 rotate_left
 ·rw [if_neg c6] at H
  have c6b0 : (t11.toList == t6.toList) = false := beq_eq_false_iff_ne.mpr c6
  have c6b1 : (t11.toList != t6.toList) = true := bne_iff_ne.mpr c6
  obtain rfl := Option.some.inj H
  exact absurd hr_ (by decide)
 rw [if_pos c6] at H
 have c6b0 : (t11.toList == t6.toList) = true := beq_iff_eq.mpr c6
 have c6b1 : (t11.toList != t6.toList) = false := bne_eq_false_iff_eq.mpr c6
 clear c6
 obtain rfl := Option.some.inj H
 clear hr_
 go_enter Tryd.func5, Tryd.ntmps5
 go_wp2_with (first | ((with_reducible refine gate_dst (N := 1) rfl ?_); refine box_event ?hg (N := 1) ?hd (cs := #[.int .i64 a0_0, .int .i64 a0_1, .int .i64 a0_2, .int .i64 a0_3]) (t := 44) ?hr ?_; (case hd => rfl); (case hg => rfl); (case hr => exact hr_); intro gb1 hg w7 hbox hb; have n0_ := bs_ hb; have n1_ := Aside0.mk (hbox); have n2_ := ge_ (w := w) hg; have n3_ := ge_ (w := w) hg; clear HB; have HB := n0_; have BK1 := n1_; have GW1 := n2_; have GE1 := n3_; clear n0_ n1_ n2_ n3_; clear hb hbox hg; obtain ⟨hcz8_0, hcz8_1, hcz8_2, hcz8_3, hfz8_0, hfz8_1, hfz8_2, hfz8_3⟩ := bc4_ BK1.out) | ((with_reducible refine gate_callee (f := 30) rfl ?_); refine goesL_ (some 6) rfl rfl Tryd.func30 (by kernel_rfl) rfl #[.agg #[.int .i64 a0_0, .int .i64 a0_1, .int .i64 a0_2, .int .i64 a0_3]] rfl ar_ ?_; (with_reducible refine (laws_toInstr.calls a0_0 a0_1 a0_2 a0_3 t2 t3 t4 t5 _ A2.out).mono ?_); rintro e w9 ⟨rfl, hb⟩; refine ⟨_, rfl, ?_⟩; have n0_ := bb_ BK1.out hb; have n1_ := bs_ hb; clear BK1; clear HB; have BK1 := n0_; have HB := n1_; clear n0_ n1_; (try clear hb); (try clear hb2); (try clear hk); (try clear hi)) | ((with_reducible refine gate_callee (f := 29) rfl ?_); refine goesL_ (some 7) rfl rfl Tryd.func29 (by kernel_rfl) rfl #[.agg #[.int .i64 t2, .int .i64 t3, .int .i64 t4, .int .i64 t5]] rfl ar_ ?_; (with_reducible refine (spec_InstrText.calls k t2 t3 t4 t5 t6 _ A3.out).mono ?_); rintro e w10 ⟨rfl, hb⟩; refine ⟨_, rfl, ?_⟩; have n0_ := bb_ BK1.out hb; have n1_ := bs_ hb; clear BK1; clear HB; have BK1 := n0_; have HB := n1_; clear n0_ n1_; (try clear hb); (try clear hb2); (try clear hk); (try clear hi); obtain ⟨hcz11_0, hcz11_1, hcz11_2, hcz11_3, hfz11_0, hfz11_1, hfz11_2, hfz11_3⟩ := bc4_ BK1.out) | ((with_reducible refine gate_callee (f := 30) rfl ?_); refine goesL_ (some 9) rfl rfl Tryd.func30 (by kernel_rfl) rfl #[.agg #[.int .i64 a0_0, .int .i64 a0_1, .int .i64 a0_2, .int .i64 a0_3]] rfl ar_ ?_; (with_reducible refine (laws_toInstr.calls a0_0 a0_1 a0_2 a0_3 t7 t8 t9 t10 _ A4.out).mono ?_); rintro e w12 ⟨rfl, hb⟩; refine ⟨_, rfl, ?_⟩; have n0_ := bb_ BK1.out hb; have n1_ := bs_ hb; clear BK1; clear HB; have BK1 := n0_; have HB := n1_; clear n0_ n1_; (try clear hb); (try clear hb2); (try clear hk); (try clear hi)) | ((with_reducible refine gate_callee (f := 31) rfl ?_); refine goesL_ (some 10) rfl rfl Tryd.func31 (by kernel_rfl) rfl #[.agg #[.int .i64 t7, .int .i64 t8, .int .i64 t9, .int .i64 t10]] rfl ar_ ?_; (with_reducible refine (impl_InstrText.calls (hE_ := ee_) k t7 t8 t9 t10 t11 _ A5.out).mono ?_); rintro e w13 ⟨rfl, hb⟩; refine ⟨_, rfl, ?_⟩; have n0_ := bb_ BK1.out hb; have n1_ := bs_ hb; clear BK1; clear HB; have BK1 := n0_; have HB := n1_; clear n0_ n1_; (try clear hb); (try clear hb2); (try clear hk); (try clear hi)))
 go_ret
 exact ⟨rr_, bw_⟩

end Go.Proofs.YtchpopocnaoabaaDoor.P
