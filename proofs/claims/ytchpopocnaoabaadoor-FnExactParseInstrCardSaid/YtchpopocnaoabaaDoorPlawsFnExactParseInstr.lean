-- Written by mp.py (the session's own driver over the kit's printer) for the seat YtchpopocnaoabaaDoor.
import Derived.Test.YtchpopocnaoabaaDoorK
import Derived.Test.YtchpopocnaoabaaDoorE
import Derived.Test.YtchpopocnaoabaaDoorPimplParseInstr
import Derived.Test.YtchpopocnaoabaaDoorPlawseqInstr
import Derived.Test.YtchpopocnaoabaaDoorPspecParseInstr
import Derived.Test.YtchpopocnaoabaaDoorEnv
namespace Go.Proofs.YtchpopocnaoabaaDoor.P
open Go.RowKit Go.Proofs.YtchpopocnaoabaaDoorW.PrintWords Go.Proofs.YtchpopocnaoabaaDoorW.PrintLast Go.Proofs.YtchpopocnaoabaaDoorW.PrintMore
attribute [local go_sem] max2_int min2_int max_two min_two max_three min_three max_four min_four
set_option linter.unusedVariables false
set_option linter.unusedSimpArgs false

/-! ### laws_FnExactParseInstr: function 13 -/
def laws_FnExactParseInstr.f (k : Nat) (a0 : ByteArray) : Option (Bool) := if (a0.size : Int) > 1048576 then (some true) else ((spec_ParseInstr.f k a0).bind fun bt1 => ((impl_ParseInstr.f k a0).bind fun bt7 => ((laws_eqInstr.f bt7.1 bt7.2.1 bt7.2.2.1 bt7.2.2.2.1 bt1.1 bt1.2.1 bt1.2.2.1 bt1.2.2.2.1).bind fun t13 => (if t13 = true then (if (bt7.2.2.2.2 != bt1.2.2.2.2) = true then (some false) else (some true)) else (some false)))))
theorem laws_FnExactParseInstr.mono : ∀ a0 k, LeO (laws_FnExactParseInstr.f k a0) (laws_FnExactParseInstr.f (k + 1) a0) := by
 intro a0 k
 unfold laws_FnExactParseInstr.f
 repeat' first | (with_reducible first | exact impl_ParseInstr.mono _ _ | exact spec_ParseInstr.mono _ _ | exact lr_ | exact ln_ | refine LeO.ite ?_ ?_ | refine LeO.bind ?_ (fun _ => ?_)) | exact impl_ParseInstr.mono _ _ | exact spec_ParseInstr.mono _ _ | exact ln_ | refine LeO.ite ?_ ?_ | refine LeO.bind ?_ (fun _ => ?_)
set_option maxHeartbeats 8000000 in
set_option maxRecDepth 100000 in
theorem laws_FnExactParseInstr.calls (k : Nat) (a0 : ByteArray) (r : Bool) (w : World) (hE_ : EnvOk true w) (h : laws_FnExactParseInstr.f k a0 = some r) (hr_ : r = true) :
  Calls Tryd.prog 13 #[.string a0] w fun e w' => e = .returned (.bool r) ∧ Below w.heap.size w w' := by
 have HE_ := Aside0.mk hE_
 clear hE_
 have hu37 := Tryd.underlying37
 have HB := Aside0.mk (Below.refl w.heap.size w)
 have H : (if (a0.size : Int) > 1048576 then (some true) else ((spec_ParseInstr.f k a0).bind fun bt1 => ((impl_ParseInstr.f k a0).bind fun bt7 => ((laws_eqInstr.f bt7.1 bt7.2.1 bt7.2.2.1 bt7.2.2.2.1 bt1.1 bt1.2.1 bt1.2.2.1 bt1.2.2.2.1).bind fun t13 => (if t13 = true then (if (bt7.2.2.2.2 != bt1.2.2.2.2) = true then (some false) else (some true)) else (some false)))))) = some r := h
 clear h
 by_cases c2 : (a0.size : Int) > 1048576
 ·rw [if_pos c2] at H
  have c2b0 : decide (1048576 < (a0.size : Int)) = true := decide_eq_true c2
  have c2b1 : decide (1048576 < a0.size) = true := decide_eq_true (by omega)
  clear c2
  obtain rfl := Option.some.inj H
  clear hr_
  go_enter Tryd.func13, Tryd.ntmps13
  go_wp2
  go_ret
  exact ⟨rr_, bw_⟩
 rw [if_neg c2] at H
 have c2b0 : decide (1048576 < (a0.size : Int)) = false := decide_eq_false c2
 have c2b1 : decide (1048576 < a0.size) = false := decide_eq_false (by omega)
 clear c2
 replace H := Option.bind_eq_some_iff.mp H
 obtain ⟨⟨t1, t2, t3, t4, t5⟩, A30, H⟩ := H
 replace H : ((impl_ParseInstr.f k a0).bind fun bt7 => ((laws_eqInstr.f bt7.1 bt7.2.1 bt7.2.2.1 bt7.2.2.2.1 t1 t2 t3 t4).bind fun t13 => (if t13 = true then (if (bt7.2.2.2.2 != t5) = true then (some false) else (some true)) else (some false)))) = some r := H
 have A3 := Aside0.mk A30
 clear A30
 replace H := Option.bind_eq_some_iff.mp H
 obtain ⟨⟨t7, t8, t9, t10, t11⟩, A40, H⟩ := H
 replace H : ((laws_eqInstr.f t7 t8 t9 t10 t1 t2 t3 t4).bind fun t13 => (if t13 = true then (if (t11 != t5) = true then (some false) else (some true)) else (some false))) = some r := H
 have A4 := Aside0.mk A40
 clear A40
 replace H := Option.bind_eq_some_iff.mp H
 obtain ⟨t13, A50, H⟩ := H
 replace H : (if t13 = true then (if (t11 != t5) = true then (some false) else (some true)) else (some false)) = some r := H
 have A5 := Aside0.mk A50
 clear A50
 by_cases c6 : t13 = true
 rotate_left
 ·replace c6 := Bool.eq_false_iff.mpr c6
  subst c6
  have H1 : (some false) = some r := by rw [if_neg (show ¬ (false = true) by decide)] at H; exact H
  clear H
  have H := H1
  clear H1
  obtain rfl := Option.some.inj H
  exact absurd hr_ (by decide)
 subst c6
 have H1 : (if (t11 != t5) = true then (some false) else (some true)) = some r := by rw [if_pos rfl] at H; exact H
 clear H
 have H := H1
 clear H1
 by_cases c7 : (t11 != t5) = true
 ·rw [if_pos c7] at H
  have c7b0 : (t11 != t5) = true := c7
  (try (have c7b1 : decide (t11 = t5) = false := by simpa using c7))
  (try (have c7b2 : (t11 == t5) = false := by simpa using c7))
  (try (have c7b3 : ¬ (t11 = t5) := by simpa using c7))
  clear c7
  obtain rfl := Option.some.inj H
  exact absurd hr_ (by decide)
 rw [if_neg c7] at H
 have c7b0 : (t11 != t5) = false := by simpa using c7
 (try (have c7b1 : decide (t11 = t5) = true := by simpa using c7))
 (try (have c7b2 : (t11 == t5) = true := by simpa using c7))
 clear c7
 obtain rfl := Option.some.inj H
 clear hr_
 go_enter Tryd.func13, Tryd.ntmps13
 go_wp2_with (first | ((with_reducible refine gate_callee (f := 61) rfl ?_); refine goesL_ (some 12) rfl rfl Tryd.func61 (by kernel_rfl) rfl #[.string a0] rfl ar_ ?_; (with_reducible refine (spec_ParseInstr.calls k a0 t1 t2 t3 t4 t5 _ A3.out).mono ?_); rintro e w17 ⟨rfl, hb⟩; refine ⟨_, rfl, ?_⟩; have n0_ := bs_ hb; clear HB; have HB := n0_; clear n0_; (try clear hb); (try clear hb2); (try clear hk); (try clear hi)) | ((with_reducible refine gate_dst (N := 3) rfl ?_); refine box_event ?hg (N := 3) ?hd (cs := #[.int .i64 0, .int .i64 0, .int .i64 0, .int .i64 0]) (t := 37) ?hr ?_; (case hd => rfl); (case hg => rfl); (case hr => exact hrr_); intro gb6 hg w18 hbox hb; have n0_ := bs_ hb; have n1_ := Aside0.mk (hbox); have n2_ := ge_ (w := w) hg; have n3_ := ge_ (w := w) hg; clear HB; have HB := n0_; have BK6 := n1_; have GW6 := n2_; have GE6 := n3_; clear n0_ n1_ n2_ n3_; clear hb hbox hg; obtain ⟨hcz19_0, hcz19_1, hcz19_2, hcz19_3, hfz19_0, hfz19_1, hfz19_2, hfz19_3⟩ := bc4_ BK6.out) | ((with_reducible refine gate_callee (f := 62) rfl ?_); refine goesL_ (some 17) rfl rfl Tryd.func62 (by kernel_rfl) rfl #[.string a0] rfl ar_ ?_; (with_reducible refine (impl_ParseInstr.calls (hE_ := ee_) k a0 t7 t8 t9 t10 t11 _ A4.out).mono ?_); rintro e w20 ⟨rfl, hb⟩; refine ⟨_, rfl, ?_⟩; have n0_ := Aside0.mk (blk_below (g := gb6) (o := .cells #[.int .i64 t1, .int .i64 t2, .int .i64 t3, .int .i64 t4] 37 (0, 0)) (by (with_reducible repeat (first | refine blk_drewN ?_ _ | refine blk_drew ?_ | refine blk_alloc ?_ _)); refine blk_put (cs := #[.int .i64 t1, .int .i64 t2, .int .i64 t3, .int .i64 0]) ?_ 3 _ rfl; (with_reducible repeat (first | refine blk_drewN ?_ _ | refine blk_drew ?_ | refine blk_alloc ?_ _)); refine blk_put (cs := #[.int .i64 t1, .int .i64 t2, .int .i64 0, .int .i64 0]) ?_ 2 _ rfl; (with_reducible repeat (first | refine blk_drewN ?_ _ | refine blk_drew ?_ | refine blk_alloc ?_ _)); refine blk_put (cs := #[.int .i64 t1, .int .i64 0, .int .i64 0, .int .i64 0]) ?_ 1 _ rfl; (with_reducible repeat (first | refine blk_drewN ?_ _ | refine blk_drew ?_ | refine blk_alloc ?_ _)); refine blk_put (cs := #[.int .i64 0, .int .i64 0, .int .i64 0, .int .i64 0]) ?_ 0 _ rfl; (with_reducible repeat (first | refine blk_drewN ?_ _ | refine blk_drew ?_ | refine blk_alloc ?_ _)); exact BK6.out) hb); have n1_ := bs_ hb; clear BK6; clear HB; have BK6 := n0_; have HB := n1_; clear n0_ n1_; (try clear hb); (try clear hb2); (try clear hk); (try clear hi)) | ((with_reducible refine gate_dst (N := 5) rfl ?_); refine box_event ?hg (N := 5) ?hd (cs := #[.int .i64 0, .int .i64 0, .int .i64 0, .int .i64 0]) (t := 37) ?hr ?_; (case hd => rfl); (case hg => rfl); (case hr => exact hrr_); intro gb12 hg w21 hbox hb; have n0_ := bb_ BK6.out hb; have n1_ := bs_ hb; have n2_ := Aside0.mk (hbox); have n3_ := ge_ (w := w) hg; have n4_ := ge_ (w := w) hg; have n5_ := nl_ BK6.out hg; have n6_ := nr_ BK6.out hg; clear BK6; clear HB; have BK6 := n0_; have HB := n1_; have BK12 := n2_; have GW12 := n3_; have GE12 := n4_; have NB6_12 := n5_; have NB12_6 := n6_; clear n0_ n1_ n2_ n3_ n4_ n5_ n6_; clear hb hbox hg; have hnb22 := NB12_6.out; have hnc22 := NB6_12.out; obtain ⟨hcz23_0, hcz23_1, hcz23_2, hcz23_3, hfz23_0, hfz23_1, hfz23_2, hfz23_3⟩ := bc4_ BK12.out; obtain ⟨hcz24_0, hcz24_1, hcz24_2, hcz24_3, hfz24_0, hfz24_1, hfz24_2, hfz24_3⟩ := bc4_ BK6.out) | ((with_reducible refine gate_callee (f := 63) rfl ?_); refine goesL_ (some 22) rfl rfl Tryd.func63 (by kernel_rfl) rfl #[.agg #[.int .i64 t7, .int .i64 t8, .int .i64 t9, .int .i64 t10], .agg #[.int .i64 t1, .int .i64 t2, .int .i64 t3, .int .i64 t4]] rfl ar_ ?_; (with_reducible refine (laws_eqInstr.calls t7 t8 t9 t10 t1 t2 t3 t4 true _ A5.out).mono ?_); rintro e w25 ⟨rfl, hb⟩; refine ⟨_, rfl, ?_⟩; have n0_ := Aside0.mk (blk_below (g := gb6) (o := .cells #[.int .i64 t1, .int .i64 t2, .int .i64 t3, .int .i64 t4] 37 (0, 0)) (by (with_reducible repeat (first | refine blk_drewN ?_ _ | refine blk_drew ?_ | refine blk_alloc ?_ _)); refine blk_far ?_ NB6_12.out _; (with_reducible repeat (first | refine blk_drewN ?_ _ | refine blk_drew ?_ | refine blk_alloc ?_ _)); refine blk_far ?_ NB6_12.out _; (with_reducible repeat (first | refine blk_drewN ?_ _ | refine blk_drew ?_ | refine blk_alloc ?_ _)); refine blk_far ?_ NB6_12.out _; (with_reducible repeat (first | refine blk_drewN ?_ _ | refine blk_drew ?_ | refine blk_alloc ?_ _)); refine blk_far ?_ NB6_12.out _; (with_reducible repeat (first | refine blk_drewN ?_ _ | refine blk_drew ?_ | refine blk_alloc ?_ _)); exact BK6.out) hb); have n1_ := Aside0.mk (blk_below (g := gb12) (o := .cells #[.int .i64 t7, .int .i64 t8, .int .i64 t9, .int .i64 t10] 37 (0, 0)) (by (with_reducible repeat (first | refine blk_drewN ?_ _ | refine blk_drew ?_ | refine blk_alloc ?_ _)); refine blk_put (cs := #[.int .i64 t7, .int .i64 t8, .int .i64 t9, .int .i64 0]) ?_ 3 _ rfl; (with_reducible repeat (first | refine blk_drewN ?_ _ | refine blk_drew ?_ | refine blk_alloc ?_ _)); refine blk_put (cs := #[.int .i64 t7, .int .i64 t8, .int .i64 0, .int .i64 0]) ?_ 2 _ rfl; (with_reducible repeat (first | refine blk_drewN ?_ _ | refine blk_drew ?_ | refine blk_alloc ?_ _)); refine blk_put (cs := #[.int .i64 t7, .int .i64 0, .int .i64 0, .int .i64 0]) ?_ 1 _ rfl; (with_reducible repeat (first | refine blk_drewN ?_ _ | refine blk_drew ?_ | refine blk_alloc ?_ _)); refine blk_put (cs := #[.int .i64 0, .int .i64 0, .int .i64 0, .int .i64 0]) ?_ 0 _ rfl; (with_reducible repeat (first | refine blk_drewN ?_ _ | refine blk_drew ?_ | refine blk_alloc ?_ _)); exact BK12.out) hb); have n2_ := bs_ hb; clear BK6; clear BK12; clear HB; have BK6 := n0_; have BK12 := n1_; have HB := n2_; clear n0_ n1_ n2_; (try clear hb); (try clear hb2); (try clear hk); (try clear hi)))
 go_ret
 exact ⟨rr_, bw_⟩


end Go.Proofs.YtchpopocnaoabaaDoor.P
