-- Written by mp.py (the session's own driver over the kit's printer) for the seat YtchpopocnaoabaaDoor.
import Derived.Test.YtchpopocnaoabaaDoorK
import Derived.Test.YtchpopocnaoabaaDoorE
import Derived.Test.YtchpopocnaoabaaDoorPimplMemOk
import Derived.Test.YtchpopocnaoabaaDoorPimplParseMem
import Derived.Test.YtchpopocnaoabaaDoorPlawsbig
import Derived.Test.YtchpopocnaoabaaDoorPspecDrawMemOk
import Derived.Test.YtchpopocnaoabaaDoorPspecMemOk
import Derived.Test.YtchpopocnaoabaaDoorEnv
namespace Go.Proofs.YtchpopocnaoabaaDoor.P
open Go.RowKit Go.Proofs.YtchpopocnaoabaaDoorW.PrintWords Go.Proofs.YtchpopocnaoabaaDoorW.PrintLast Go.Proofs.YtchpopocnaoabaaDoorW.PrintMore
attribute [local go_sem] max2_int min2_int max_two min_two max_three min_three max_four min_four
set_option linter.unusedVariables false
set_option linter.unusedSimpArgs false

/-! ### laws_FnMemTexts: function 12 -/
def laws_FnMemTexts.f (k : Nat) (l0 : List Int) : Option (Bool) := (laws_big.f l0).bind fun t1 => (if t1 = true then (some true) else ((spec_DrawMemText.f k l0).bind fun t2 => ((spec_MemOk.f k t2).bind fun t6 => (if t6 = true then ((impl_MemText.f k t2).bind fun t7 => ((impl_ParseMem.f k t7).bind fun bt8 => (if bt8.2 = true then ((impl_SameMem.f k bt8.1 t2).bind fun t13 => (some t13)) else (some false)))) else (some true)))))
theorem laws_FnMemTexts.mono : ∀ a0 k, LeO (laws_FnMemTexts.f k a0) (laws_FnMemTexts.f (k + 1) a0) := by
 intro a0 k
 unfold laws_FnMemTexts.f
 repeat' first | (with_reducible first | exact impl_MemText.mono _ _ | exact impl_ParseMem.mono _ _ | exact impl_SameMem.mono _ _ _ | exact spec_DrawMemText.mono _ _ | exact spec_MemOk.mono _ _ | exact lr_ | exact ln_ | refine LeO.ite ?_ ?_ | refine LeO.bind ?_ (fun _ => ?_)) | exact impl_MemText.mono _ _ | exact impl_ParseMem.mono _ _ | exact impl_SameMem.mono _ _ _ | exact spec_DrawMemText.mono _ _ | exact spec_MemOk.mono _ _ | exact ln_ | refine LeO.ite ?_ ?_ | refine LeO.bind ?_ (fun _ => ?_)
set_option maxHeartbeats 8000000 in
set_option maxRecDepth 100000 in
theorem laws_FnMemTexts.calls (k : Nat) (A0 : Option Addr) (c0 : Nat) (l0 : List Int) (r : Bool) (w : World) (hE_ : EnvOk true w) (hr0 : Kd.C (Kd.int .u8) w A0 l0.length l0) (hc0 : l0.length ≤ c0) (h : laws_FnMemTexts.f k l0 = some r) (hr_ : r = true) :
  Calls Tryd.prog 12 #[.slice A0 l0.length c0] w fun e w' => e = .returned (.bool r) ∧ Below w.heap.size w w' := by
 have HE_ := Aside0.mk hE_
 clear hE_
 have hu60 := Tryd.underlying60
 have HR0 := Aside0.mk hr0
 have HC0 := Aside0.mk hc0
 clear hr0 hc0
 have HB := Aside0.mk (Below.refl w.heap.size w)
 have H : ((laws_big.f l0).bind fun t1 => (if t1 = true then (some true) else ((spec_DrawMemText.f k l0).bind fun t2 => ((spec_MemOk.f k t2).bind fun t6 => (if t6 = true then ((impl_MemText.f k t2).bind fun t7 => ((impl_ParseMem.f k t7).bind fun bt8 => (if bt8.2 = true then ((impl_SameMem.f k bt8.1 t2).bind fun t13 => (some t13)) else (some false)))) else (some true)))))) = some r := h
 clear h
 replace H := Option.bind_eq_some_iff.mp H
 obtain ⟨t1, A20, H⟩ := H
 replace H : (if t1 = true then (some true) else ((spec_DrawMemText.f k l0).bind fun t2 => ((spec_MemOk.f k t2).bind fun t6 => (if t6 = true then ((impl_MemText.f k t2).bind fun t7 => ((impl_ParseMem.f k t7).bind fun bt8 => (if bt8.2 = true then ((impl_SameMem.f k bt8.1 t2).bind fun t13 => (some t13)) else (some false)))) else (some true))))) = some r := H
 have A2 := Aside0.mk A20
 clear A20
 by_cases c3 : t1 = true
 ·subst c3
  have H1 : (some true) = some r := by rw [if_pos rfl] at H; exact H
  clear H
  have H := H1
  clear H1
  obtain rfl := Option.some.inj H
  clear hr_
  go_enter Tryd.func12, Tryd.ntmps12
  go_wp2_with (first | ((with_reducible refine gate_callee (f := 16) rfl ?_); refine goesL_ (some 7) rfl rfl Tryd.func16 (by kernel_rfl) rfl #[.slice A0 l0.length c0] rfl ar_ ?_; (with_reducible refine (laws_big.calls _ _ l0 true _ ?side1 ?side2 A2.out).mono ?_); (case side1 => repeat (first | exact HR0.out | (with_reducible refine Kd.C_alloc ?_ _) | (with_reducible refine Kd.C_drewN ?_ _) | (with_reducible refine Kd.C_drew ?_))); (case side2 => exact HC0.out); rintro e w' ⟨rfl, ⟨nd, rfl⟩⟩; refine ⟨_, rfl, ?_⟩))
  go_ret
  exact ⟨rr_, bw_⟩
 replace c3 := Bool.eq_false_iff.mpr c3
 subst c3
 have H1 : ((spec_DrawMemText.f k l0).bind fun t2 => ((spec_MemOk.f k t2).bind fun t6 => (if t6 = true then ((impl_MemText.f k t2).bind fun t7 => ((impl_ParseMem.f k t7).bind fun bt8 => (if bt8.2 = true then ((impl_SameMem.f k bt8.1 t2).bind fun t13 => (some t13)) else (some false)))) else (some true)))) = some r := by rw [if_neg (show ¬ (false = true) by decide)] at H; exact H
 clear H
 have H := H1
 clear H1
 replace H := Option.bind_eq_some_iff.mp H
 obtain ⟨t2, A40, H⟩ := H
 replace H : ((spec_MemOk.f k t2).bind fun t6 => (if t6 = true then ((impl_MemText.f k t2).bind fun t7 => ((impl_ParseMem.f k t7).bind fun bt8 => (if bt8.2 = true then ((impl_SameMem.f k bt8.1 t2).bind fun t13 => (some t13)) else (some false)))) else (some true))) = some r := H
 have A4 := Aside0.mk A40
 clear A40
 replace H := Option.bind_eq_some_iff.mp H
 obtain ⟨t6, A50, H⟩ := H
 replace H : (if t6 = true then ((impl_MemText.f k t2).bind fun t7 => ((impl_ParseMem.f k t7).bind fun bt8 => (if bt8.2 = true then ((impl_SameMem.f k bt8.1 t2).bind fun t13 => (some t13)) else (some false)))) else (some true)) = some r := H
 have A5 := Aside0.mk A50
 clear A50
 by_cases c6 : t6 = true
 rotate_left
 ·replace c6 := Bool.eq_false_iff.mpr c6
  subst c6
  have H1 : (some true) = some r := by rw [if_neg (show ¬ (false = true) by decide)] at H; exact H
  clear H
  have H := H1
  clear H1
  obtain rfl := Option.some.inj H
  clear hr_
  go_enter Tryd.func12, Tryd.ntmps12
  go_wp2_with (first | ((with_reducible refine gate_callee (f := 16) rfl ?_); refine goesL_ (some 7) rfl rfl Tryd.func16 (by kernel_rfl) rfl #[.slice A0 l0.length c0] rfl ar_ ?_; (with_reducible refine (laws_big.calls _ _ l0 false _ ?side1 ?side2 A2.out).mono ?_); (case side1 => repeat (first | exact HR0.out | (with_reducible refine Kd.C_alloc ?_ _) | (with_reducible refine Kd.C_drewN ?_ _) | (with_reducible refine Kd.C_drew ?_))); (case side2 => exact HC0.out); rintro e w' ⟨rfl, ⟨nd, rfl⟩⟩; refine ⟨_, rfl, ?_⟩) | ((with_reducible refine gate_callee (f := 57) rfl ?_); refine goesL_ (some 9) rfl rfl Tryd.func57 (by kernel_rfl) rfl #[.slice A0 l0.length c0] rfl ar_ ?_; (with_reducible refine (spec_DrawMemText.calls k _ _ l0 t2 _ ?side1 ?side2 A4.out).mono ?_); (case side1 => repeat (first | exact HR0.out | (with_reducible refine Kd.C_alloc ?_ _) | (with_reducible refine Kd.C_drewN ?_ _) | (with_reducible refine Kd.C_drew ?_))); (case side2 => exact HC0.out); rintro e w37 ⟨v3, rfl, ho0, hb⟩; refine ⟨_, rfl, ?_⟩; have n0_ := Aside0.mk (Kd.R_lower ho0 (below_size bw_)); have n1_ := bs_ hb; clear HB; have HO4 := n0_; have HB := n1_; clear n0_ n1_; (try clear hb); (try clear hb2); (try clear hk); (try clear hi); (try clear ho0)) | ((with_reducible refine gate_dst (N := 3) rfl ?_); refine box_event ?hg (N := 3) ?hd (cs := #[.slice none 0 0]) (t := 60) ?hr ?_; (case hd => rfl); (case hg => rfl); (case hr => exact hrr_); intro gb5 hg w38 hbox hb; have n0_ := Aside0.mk (Kd.R_below (rx_ HO4.out) hb); have n1_ := bs_ hb; have n2_ := Aside0.mk (hbox); have n3_ := ge_ (w := w) hg; have n4_ := ge_ (w := w) hg; clear HO4; clear HB; have HO4 := n0_; have HB := n1_; have BK5 := n2_; have GW5 := n3_; have GE5 := n4_; clear n0_ n1_ n2_ n3_ n4_; clear hb hbox hg; obtain ⟨Ao39, co39, eo39⟩ := Kd.R_slice HO4.out; subst eo39; obtain ⟨hcz40_0, hfz40_0⟩ := bc1_ BK5.out) | ((with_reducible refine gate_callee (f := 58) rfl ?_); refine goesL_ (some 11) rfl rfl Tryd.func58 (by kernel_rfl) rfl #[.agg #[.slice Ao39 t2.length co39]] rfl ar_ ?_; (with_reducible refine (spec_MemOk.calls k _ _ t2 false _ ?side1 ?side2 A5.out).mono ?_); (case side1 => refine (Kd.R_reads' (e := 3) (base := w.heap.size) (ok := fun k_ => True) (n := t2.length) (c := co39) ?_).2.2; exact (by (with_reducible repeat (first | apply Kd.R_alloc | apply Kd.R_drewN | apply Kd.R_drew)); exact (Kd.R_mono (Kd.R_far (p := ⟨gb5, 0, none⟩) (Kd.R_types HO4.out BK5.out (by decide)) (fun _ hk => hk.2) (.slice Ao39 t2.length co39)) (fun _ h_ => h_.1)))); (case side2 => exact (Kd.R_reads' HO4.out).2.1); rintro e w41 ⟨rfl, hb⟩; refine ⟨_, rfl, ?_⟩; have n0_ := Aside0.mk (Kd.R_below (by (with_reducible repeat (first | apply Kd.R_alloc | apply Kd.R_drewN | apply Kd.R_drew)); exact (Kd.R_mono (Kd.R_far (p := ⟨gb5, 0, none⟩) (Kd.R_types HO4.out BK5.out (by decide)) (fun _ hk => hk.2) (.slice Ao39 t2.length co39)) (fun _ h_ => h_.1))) hb); have n1_ := Aside0.mk (blk_below (g := gb5) (o := .cells #[.slice Ao39 t2.length co39] 60 (0, 0)) (by (with_reducible repeat (first | refine blk_drewN ?_ _ | refine blk_drew ?_ | refine blk_alloc ?_ _)); refine blk_put (cs := #[.slice none 0 0]) ?_ 0 _ rfl; (with_reducible repeat (first | refine blk_drewN ?_ _ | refine blk_drew ?_ | refine blk_alloc ?_ _)); exact BK5.out) hb); have n2_ := bs_ hb; clear HO4; clear BK5; clear HB; have HO4 := n0_; have BK5 := n1_; have HB := n2_; clear n0_ n1_ n2_; (try clear hb); (try clear hb2); (try clear hk); (try clear hi)))
  go_ret
  exact ⟨rr_, bw_⟩
 subst c6
 have H1 : ((impl_MemText.f k t2).bind fun t7 => ((impl_ParseMem.f k t7).bind fun bt8 => (if bt8.2 = true then ((impl_SameMem.f k bt8.1 t2).bind fun t13 => (some t13)) else (some false)))) = some r := by rw [if_pos rfl] at H; exact H
 clear H
 have H := H1
 clear H1
 replace H := Option.bind_eq_some_iff.mp H
 obtain ⟨t7, A70, H⟩ := H
 replace H : ((impl_ParseMem.f k t7).bind fun bt8 => (if bt8.2 = true then ((impl_SameMem.f k bt8.1 t2).bind fun t13 => (some t13)) else (some false))) = some r := H
 have A7 := Aside0.mk A70
 clear A70
 replace H := Option.bind_eq_some_iff.mp H
 obtain ⟨⟨t8, t11⟩, A80, H⟩ := H
 replace H : (if t11 = true then ((impl_SameMem.f k t8 t2).bind fun t13 => (some t13)) else (some false)) = some r := H
 have A8 := Aside0.mk A80
 clear A80
 by_cases c9 : t11 = true
 rotate_left
 ·replace c9 := Bool.eq_false_iff.mpr c9
  subst c9
  have H1 : (some false) = some r := by rw [if_neg (show ¬ (false = true) by decide)] at H; exact H
  clear H
  have H := H1
  clear H1
  obtain rfl := Option.some.inj H
  exact absurd hr_ (by decide)
 subst c9
 have H1 : ((impl_SameMem.f k t8 t2).bind fun t13 => (some t13)) = some r := by rw [if_pos rfl] at H; exact H
 clear H
 have H := H1
 clear H1
 replace H := Option.bind_eq_some_iff.mp H
 obtain ⟨t13, A100, H⟩ := H
 replace H : (some t13) = some r := H
 have A10 := Aside0.mk A100
 clear A100
 obtain rfl := Option.some.inj H
 go_enter Tryd.func12, Tryd.ntmps12
 go_wp2_with (first | ((with_reducible refine gate_callee (f := 16) rfl ?_); refine goesL_ (some 7) rfl rfl Tryd.func16 (by kernel_rfl) rfl #[.slice A0 l0.length c0] rfl ar_ ?_; (with_reducible refine (laws_big.calls _ _ l0 false _ ?side1 ?side2 A2.out).mono ?_); (case side1 => repeat (first | exact HR0.out | (with_reducible refine Kd.C_alloc ?_ _) | (with_reducible refine Kd.C_drewN ?_ _) | (with_reducible refine Kd.C_drew ?_))); (case side2 => exact HC0.out); rintro e w' ⟨rfl, ⟨nd, rfl⟩⟩; refine ⟨_, rfl, ?_⟩) | ((with_reducible refine gate_callee (f := 57) rfl ?_); refine goesL_ (some 9) rfl rfl Tryd.func57 (by kernel_rfl) rfl #[.slice A0 l0.length c0] rfl ar_ ?_; (with_reducible refine (spec_DrawMemText.calls k _ _ l0 t2 _ ?side1 ?side2 A4.out).mono ?_); (case side1 => repeat (first | exact HR0.out | (with_reducible refine Kd.C_alloc ?_ _) | (with_reducible refine Kd.C_drewN ?_ _) | (with_reducible refine Kd.C_drew ?_))); (case side2 => exact HC0.out); rintro e w11 ⟨v3, rfl, ho0, hb⟩; refine ⟨_, rfl, ?_⟩; have n0_ := Aside0.mk (Kd.R_lower ho0 (below_size bw_)); have n1_ := bs_ hb; clear HB; have HO4 := n0_; have HB := n1_; clear n0_ n1_; (try clear hb); (try clear hb2); (try clear hk); (try clear hi); (try clear ho0)) | ((with_reducible refine gate_dst (N := 3) rfl ?_); refine box_event ?hg (N := 3) ?hd (cs := #[.slice none 0 0]) (t := 60) ?hr ?_; (case hd => rfl); (case hg => rfl); (case hr => exact hrr_); intro gb5 hg w12 hbox hb; have n0_ := Aside0.mk (Kd.R_below (rx_ HO4.out) hb); have n1_ := bs_ hb; have n2_ := Aside0.mk (hbox); have n3_ := ge_ (w := w) hg; have n4_ := ge_ (w := w) hg; clear HO4; clear HB; have HO4 := n0_; have HB := n1_; have BK5 := n2_; have GW5 := n3_; have GE5 := n4_; clear n0_ n1_ n2_ n3_ n4_; clear hb hbox hg; obtain ⟨Ao13, co13, eo13⟩ := Kd.R_slice HO4.out; subst eo13; obtain ⟨hcz14_0, hfz14_0⟩ := bc1_ BK5.out) | ((with_reducible refine gate_callee (f := 58) rfl ?_); refine goesL_ (some 11) rfl rfl Tryd.func58 (by kernel_rfl) rfl #[.agg #[.slice Ao13 t2.length co13]] rfl ar_ ?_; (with_reducible refine (spec_MemOk.calls k _ _ t2 true _ ?side1 ?side2 A5.out).mono ?_); (case side1 => refine (Kd.R_reads' (e := 3) (base := w.heap.size) (ok := fun k_ => True) (n := t2.length) (c := co13) ?_).2.2; exact (by (with_reducible repeat (first | apply Kd.R_alloc | apply Kd.R_drewN | apply Kd.R_drew)); exact (Kd.R_mono (Kd.R_far (p := ⟨gb5, 0, none⟩) (Kd.R_types HO4.out BK5.out (by decide)) (fun _ hk => hk.2) (.slice Ao13 t2.length co13)) (fun _ h_ => h_.1)))); (case side2 => exact (Kd.R_reads' HO4.out).2.1); rintro e w15 ⟨rfl, hb⟩; refine ⟨_, rfl, ?_⟩; have n0_ := Aside0.mk (Kd.R_below (by (with_reducible repeat (first | apply Kd.R_alloc | apply Kd.R_drewN | apply Kd.R_drew)); exact (Kd.R_mono (Kd.R_far (p := ⟨gb5, 0, none⟩) (Kd.R_types HO4.out BK5.out (by decide)) (fun _ hk => hk.2) (.slice Ao13 t2.length co13)) (fun _ h_ => h_.1))) hb); have n1_ := Aside0.mk (blk_below (g := gb5) (o := .cells #[.slice Ao13 t2.length co13] 60 (0, 0)) (by (with_reducible repeat (first | refine blk_drewN ?_ _ | refine blk_drew ?_ | refine blk_alloc ?_ _)); refine blk_put (cs := #[.slice none 0 0]) ?_ 0 _ rfl; (with_reducible repeat (first | refine blk_drewN ?_ _ | refine blk_drew ?_ | refine blk_alloc ?_ _)); exact BK5.out) hb); have n2_ := bs_ hb; clear HO4; clear BK5; clear HB; have HO4 := n0_; have BK5 := n1_; have HB := n2_; clear n0_ n1_ n2_; (try clear hb); (try clear hb2); (try clear hk); (try clear hi); obtain ⟨hcz16_0, hfz16_0⟩ := bc1_ BK5.out) | ((with_reducible refine gate_callee (f := 40) rfl ?_); refine goesL_ (some 15) rfl rfl Tryd.func40 (by kernel_rfl) rfl #[.agg #[.slice Ao13 t2.length co13]] rfl ar_ ?_; (with_reducible refine (impl_MemText.calls (hE_ := ee_) k _ _ t2 t7 _ ?side1 ?side2 A7.out).mono ?_); (case side1 => repeat (first | exact (Kd.R_reads' HO4.out).2.2 | (with_reducible refine Kd.C_alloc ?_ _) | (with_reducible refine Kd.C_drewN ?_ _) | (with_reducible refine Kd.C_drew ?_))); (case side2 => exact (Kd.R_reads' HO4.out).2.1); rintro e w17 ⟨rfl, hb⟩; refine ⟨_, rfl, ?_⟩; have n0_ := Aside0.mk (Kd.R_below (rx_ HO4.out) hb); have n1_ := bb_ BK5.out hb; have n2_ := bs_ hb; clear HO4; clear BK5; clear HB; have HO4 := n0_; have BK5 := n1_; have HB := n2_; clear n0_ n1_ n2_; (try clear hb); (try clear hb2); (try clear hk); (try clear hi)) | ((with_reducible refine gate_callee (f := 59) rfl ?_); refine goesL_ (some 16) rfl rfl Tryd.func59 (by kernel_rfl) rfl #[.string t7] rfl ar_ ?_; (with_reducible refine (impl_ParseMem.calls (hE_ := ee_) k t7 t8 true _ A8.out).mono ?_); rintro e w18 ⟨v9, rfl, ho0, hb⟩; refine ⟨_, rfl, ?_⟩; have n0_ := Aside0.mk (Kd.R_elder' (rx_ HO4.out) (Kd.R_base ho0) hb); have n1_ := Aside0.mk (Kd.R_lower (Kd.R_new' ho0 (Kd.R_lt (rx_ HO4.out))) (below_size bw_)); have n2_ := bb_ BK5.out hb; have n3_ := bs_ hb; clear HO4; clear BK5; clear HB; have HO4 := n0_; have HO10 := n1_; have BK5 := n2_; have HB := n3_; clear n0_ n1_ n2_ n3_; (try clear hb); (try clear hb2); (try clear hk); (try clear hi); (try clear ho0)) | ((with_reducible refine gate_dst (N := 4) rfl ?_); refine box_event ?hg (N := 4) ?hd (cs := #[.slice none 0 0]) (t := 60) ?hr ?_; (case hd => rfl); (case hg => rfl); (case hr => exact hrr_); intro gb12 hg w19 hbox hb; have n0_ := Aside0.mk (Kd.R_below (rx_ HO4.out) hb); have n1_ := Aside0.mk (Kd.R_below (rx_ HO10.out) hb); have n2_ := bb_ BK5.out hb; have n3_ := bs_ hb; have n4_ := Aside0.mk (hbox); have n5_ := ge_ (w := w) hg; have n6_ := ge_ (w := w) hg; have n7_ := nl_ BK5.out hg; have n8_ := nr_ BK5.out hg; clear HO4; clear HO10; clear BK5; clear HB; have HO4 := n0_; have HO10 := n1_; have BK5 := n2_; have HB := n3_; have BK12 := n4_; have GW12 := n5_; have GE12 := n6_; have NB5_12 := n7_; have NB12_5 := n8_; clear n0_ n1_ n2_ n3_ n4_ n5_ n6_ n7_ n8_; clear hb hbox hg; obtain ⟨Ao20, co20, eo20⟩ := Kd.R_slice HO10.out; subst eo20; have hnb21 := NB12_5.out; have hnc21 := NB5_12.out; obtain ⟨hcz22_0, hfz22_0⟩ := bc1_ BK12.out; obtain ⟨hcz23_0, hfz23_0⟩ := bc1_ BK5.out) | (go_at_call 60; (with_reducible refine (impl_SameMem.calls k _ _ t8 _ _ t2 t13 _ ?side1 ?side2 ?side3 ?side4 A10.out).mono ?_); (case side1 => refine (Kd.R_reads' (e := 3) (base := w.heap.size) (ok := fun k_ => (True ∧ some k_ ≠ (.slice Ao13 t2.length co13 : Value).ownBlock)) (n := t8.length) (c := co20) ?_).2.2; exact (by (with_reducible repeat (first | apply Kd.R_alloc | apply Kd.R_drewN | apply Kd.R_drew)); exact (Kd.R_mono (Kd.R_far (p := ⟨gb12, 0, none⟩) (Kd.R_types HO10.out BK12.out (by decide)) (fun _ hk => hk.2) (.slice Ao20 t8.length co20)) (fun _ h_ => h_.1)))); (case side2 => exact (Kd.R_reads' HO10.out).2.1); (case side3 => refine (Kd.R_reads' (e := 3) (base := w.heap.size) (ok := fun k_ => (True ∧ some k_ ≠ (.slice Ao20 t8.length co20 : Value).ownBlock)) (n := t2.length) (c := co13) ?_).2.2; exact (by (with_reducible repeat (first | apply Kd.R_alloc | apply Kd.R_drewN | apply Kd.R_drew)); exact (Kd.R_mono (Kd.R_far (p := ⟨gb12, 0, none⟩) (Kd.R_types HO4.out BK12.out (by decide)) (fun _ hk => hk.2) (.slice Ao20 t8.length co20)) (fun _ h_ => h_.1)))); (case side4 => exact (Kd.R_reads' HO4.out).2.1); rintro e w24 ⟨rfl, hb⟩; have n0_ := Aside0.mk (Kd.R_below (by (with_reducible repeat (first | apply Kd.R_alloc | apply Kd.R_drewN | apply Kd.R_drew)); exact (Kd.R_mono (Kd.R_far (p := ⟨gb12, 0, none⟩) (Kd.R_types HO4.out BK12.out (by decide)) (fun _ hk => hk.2) (.slice Ao20 t8.length co20)) (fun _ h_ => h_.1))) hb); have n1_ := Aside0.mk (Kd.R_below (by (with_reducible repeat (first | apply Kd.R_alloc | apply Kd.R_drewN | apply Kd.R_drew)); exact (Kd.R_mono (Kd.R_far (p := ⟨gb12, 0, none⟩) (Kd.R_types HO10.out BK12.out (by decide)) (fun _ hk => hk.2) (.slice Ao20 t8.length co20)) (fun _ h_ => h_.1))) hb); have n2_ := Aside0.mk (blk_below (g := gb5) (o := .cells #[.slice Ao13 t2.length co13] 60 (0, 0)) (by (with_reducible repeat (first | refine blk_drewN ?_ _ | refine blk_drew ?_ | refine blk_alloc ?_ _)); refine blk_far ?_ NB5_12.out _; (with_reducible repeat (first | refine blk_drewN ?_ _ | refine blk_drew ?_ | refine blk_alloc ?_ _)); exact BK5.out) hb); have n3_ := Aside0.mk (blk_below (g := gb12) (o := .cells #[.slice Ao20 t8.length co20] 60 (0, 0)) (by (with_reducible repeat (first | refine blk_drewN ?_ _ | refine blk_drew ?_ | refine blk_alloc ?_ _)); refine blk_put (cs := #[.slice none 0 0]) ?_ 0 _ rfl; (with_reducible repeat (first | refine blk_drewN ?_ _ | refine blk_drew ?_ | refine blk_alloc ?_ _)); exact BK12.out) hb); have n4_ := bs_ hb; clear HO4; clear HO10; clear BK5; clear BK12; clear HB; have HO4 := n0_; have HO10 := n1_; have BK5 := n2_; have BK12 := n3_; have HB := n4_; clear n0_ n1_ n2_ n3_ n4_; (try clear hb); (try clear hb2); (try clear hk); (try clear hi)))
 go_ret
 exact ⟨rr_, bw_⟩


end Go.Proofs.YtchpopocnaoabaaDoor.P
