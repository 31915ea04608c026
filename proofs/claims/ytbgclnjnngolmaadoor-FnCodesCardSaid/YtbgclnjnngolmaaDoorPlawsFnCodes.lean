-- Written by mp.py (the session's own driver over the kit's printer) for the seat YtbgclnjnngolmaaDoor.
import Derived.Test.YtbgclnjnngolmaaDoorK
import Derived.Test.YtbgclnjnngolmaaDoorE
import Derived.Test.YtbgclnjnngolmaaDoorPimplCodeText
import Derived.Test.YtbgclnjnngolmaaDoorPimplParseCode
import Derived.Test.YtbgclnjnngolmaaDoorPimplWithFences
import Derived.Test.YtbgclnjnngolmaaDoorPlawsbig
import Derived.Test.YtbgclnjnngolmaaDoorPspecDrawProgOk
import Derived.Test.YtbgclnjnngolmaaDoorPspecProgOk
import Derived.Test.YtbgclnjnngolmaaDoorPspecWithFences
import Derived.Test.YtbgclnjnngolmaaDoorEnv
namespace Go.Proofs.YtbgclnjnngolmaaDoor.P
open Go.RowKit Go.Proofs.YtbgclnjnngolmaaDoorW.PrintWords Go.Proofs.YtbgclnjnngolmaaDoorW.PrintLast Go.Proofs.YtbgclnjnngolmaaDoorW.PrintMore
attribute [local go_sem] max2_int min2_int max_two min_two max_three min_three max_four min_four
set_option linter.unusedVariables false
set_option linter.unusedSimpArgs false

/-! ### laws_FnCodes: function 3 -/
mutual
def laws_FnCodes.l0 : Nat → Int → Int → List (List (S37)) → Option (Bool)
 | 0, _, _, _ => none
 | k + 1, x4, x7000, x7001 => if x4 < (x7001.length : Int) then (if 0 ≤ x4 then ((impl_CodeText.f k (rd_L4 x7001 x4)).bind fun bt9 => ((impl_ParseCode.f k bt9.1).bind fun bt11 => (if bt9.2 = true then (if bt11.2 = true then ((laws_sameCode.f k bt11.1 (rd_L4 x7001 x4)).bind fun t16 => (laws_FnCodes.j1 k x4 (!t16) x7000 x7001)) else (laws_FnCodes.j1 k x4 true x7000 x7001)) else (laws_FnCodes.j1 k x4 true x7000 x7001)))) else (none)) else (some true)
def laws_FnCodes.j1 : Nat → Int → Bool → Int → List (List (S37)) → Option (Bool)
 | 0, _, _, _, _ => none
 | k + 1, x4, x59, x7000, x7001 => if x59 = true then (some false) else (if 0 ≤ x4 then (if x4 < (x7001.length : Int) then ((spec_WithFences.f k (rd_L4 x7001 x4)).bind fun bt18 => (if bt18.2 = true then ((impl_WithFences.f k (rd_L4 x7001 x4)).bind fun bt23 => ((impl_WithFences.f k bt23.1).bind fun bt27 => (if bt23.2 = true then (if bt27.2 = true then ((laws_sameCode.f k bt23.1 bt27.1).bind fun t31 => (laws_FnCodes.j2 k x4 bt23.1 (!t31) x7000 x7001)) else (laws_FnCodes.j2 k x4 bt23.1 true x7000 x7001)) else (laws_FnCodes.j2 k x4 bt23.1 true x7000 x7001)))) else (laws_FnCodes.l0 k (wrap64 (x4 + 1)) x7000 x7001))) else (none)) else (none))
def laws_FnCodes.j2 : Nat → Int → List (S37) → Bool → Int → List (List (S37)) → Option (Bool)
 | 0, _, _, _, _, _ => none
 | k + 1, x4, x11, x96, x7000, x7001 => if x96 = true then (some false) else (laws_FnCodes.l1 k x4 x11 0 x7000 x7001)
def laws_FnCodes.l1 : Nat → Int → List (S37) → Int → Int → List (List (S37)) → Option (Bool)
 | 0, _, _, _, _, _ => none
 | k + 1, x4, x11, x15, x7000, x7001 => if x15 < (x11.length : Int) then (if 0 ≤ x15 then (if ((rd_T37 x11 x15).f0) = 3 then (if (wrap64 (x15 + 1)) = (x11.length : Int) then (some false) else (if 0 ≤ (wrap64 (x15 + 1)) then (if (wrap64 (x15 + 1)) < (x11.length : Int) then (if ((rd_T37 x11 (wrap64 (x15 + 1))).f0) = 4 then (laws_FnCodes.l1 k x4 x11 (wrap64 (x15 + 1)) x7000 x7001) else (some false)) else (none)) else (none))) else (laws_FnCodes.l1 k x4 x11 (wrap64 (x15 + 1)) x7000 x7001)) else (none)) else (laws_FnCodes.l0 k (wrap64 (x4 + 1)) x7000 x7001)
end
def laws_FnCodes.f (k : Nat) (l0 : List Int) : Option (Bool) := (laws_big.f l0).bind fun t1 => (if t1 = true then (some true) else ((spec_DrawProgOk.f k l0).bind fun bt2 => ((spec_ProgOk.f k bt2.1 bt2.2).bind fun t7 => (if t7 = true then (laws_FnCodes.l0 k 0 bt2.1 bt2.2) else (some true)))))
theorem laws_FnCodes.mono_l : ∀ k, (∀ y0 y1 y2, LeO (laws_FnCodes.l0 k y0 y1 y2) (laws_FnCodes.l0 (k + 1) y0 y1 y2)) ∧ (∀ y0 y1 y2 y3, LeO (laws_FnCodes.j1 k y0 y1 y2 y3) (laws_FnCodes.j1 (k + 1) y0 y1 y2 y3)) ∧ (∀ y0 y1 y2 y3 y4, LeO (laws_FnCodes.j2 k y0 y1 y2 y3 y4) (laws_FnCodes.j2 (k + 1) y0 y1 y2 y3 y4)) ∧ (∀ y0 y1 y2 y3 y4, LeO (laws_FnCodes.l1 k y0 y1 y2 y3 y4) (laws_FnCodes.l1 (k + 1) y0 y1 y2 y3 y4))
 | 0 => ⟨fun _ _ _ r h => by simp [laws_FnCodes.l0] at h, fun _ _ _ _ r h => by simp [laws_FnCodes.j1] at h, fun _ _ _ _ _ r h => by simp [laws_FnCodes.j2] at h, fun _ _ _ _ _ r h => by simp [laws_FnCodes.l1] at h⟩
 | k + 1 => by
  obtain ⟨ih0, ih1, ih2, ih3⟩ := laws_FnCodes.mono_l k
  refine ⟨?_, ?_, ?_, ?_⟩
  ·intro y0 y1 y2
   unfold laws_FnCodes.l0
   repeat' first | (with_reducible first | exact ih0 _ _ _ | exact ih1 _ _ _ _ | exact ih2 _ _ _ _ _ | exact ih3 _ _ _ _ _ | exact impl_CodeText.mono _ _ | exact impl_ParseCode.mono _ _ | exact impl_WithFences.mono _ _ | exact laws_sameCode.mono _ _ _ | exact spec_DrawProgOk.mono _ _ | exact spec_ProgOk.mono _ _ _ | exact spec_WithFences.mono _ _ | exact lr_ | exact ln_ | refine LeO.ite ?_ ?_ | refine LeO.bind ?_ (fun _ => ?_)) | exact ih0 _ _ _ | exact ih1 _ _ _ _ | exact ih2 _ _ _ _ _ | exact ih3 _ _ _ _ _ | exact impl_CodeText.mono _ _ | exact impl_ParseCode.mono _ _ | exact impl_WithFences.mono _ _ | exact laws_sameCode.mono _ _ _ | exact spec_DrawProgOk.mono _ _ | exact spec_ProgOk.mono _ _ _ | exact spec_WithFences.mono _ _ | exact ln_ | refine LeO.ite ?_ ?_ | refine LeO.bind ?_ (fun _ => ?_)
  ·intro y0 y1 y2 y3
   unfold laws_FnCodes.j1
   repeat' first | (with_reducible first | exact ih0 _ _ _ | exact ih1 _ _ _ _ | exact ih2 _ _ _ _ _ | exact ih3 _ _ _ _ _ | exact impl_CodeText.mono _ _ | exact impl_ParseCode.mono _ _ | exact impl_WithFences.mono _ _ | exact laws_sameCode.mono _ _ _ | exact spec_DrawProgOk.mono _ _ | exact spec_ProgOk.mono _ _ _ | exact spec_WithFences.mono _ _ | exact lr_ | exact ln_ | refine LeO.ite ?_ ?_ | refine LeO.bind ?_ (fun _ => ?_)) | exact ih0 _ _ _ | exact ih1 _ _ _ _ | exact ih2 _ _ _ _ _ | exact ih3 _ _ _ _ _ | exact impl_CodeText.mono _ _ | exact impl_ParseCode.mono _ _ | exact impl_WithFences.mono _ _ | exact laws_sameCode.mono _ _ _ | exact spec_DrawProgOk.mono _ _ | exact spec_ProgOk.mono _ _ _ | exact spec_WithFences.mono _ _ | exact ln_ | refine LeO.ite ?_ ?_ | refine LeO.bind ?_ (fun _ => ?_)
  ·intro y0 y1 y2 y3 y4
   unfold laws_FnCodes.j2
   repeat' first | (with_reducible first | exact ih0 _ _ _ | exact ih1 _ _ _ _ | exact ih2 _ _ _ _ _ | exact ih3 _ _ _ _ _ | exact impl_CodeText.mono _ _ | exact impl_ParseCode.mono _ _ | exact impl_WithFences.mono _ _ | exact laws_sameCode.mono _ _ _ | exact spec_DrawProgOk.mono _ _ | exact spec_ProgOk.mono _ _ _ | exact spec_WithFences.mono _ _ | exact lr_ | exact ln_ | refine LeO.ite ?_ ?_ | refine LeO.bind ?_ (fun _ => ?_)) | exact ih0 _ _ _ | exact ih1 _ _ _ _ | exact ih2 _ _ _ _ _ | exact ih3 _ _ _ _ _ | exact impl_CodeText.mono _ _ | exact impl_ParseCode.mono _ _ | exact impl_WithFences.mono _ _ | exact laws_sameCode.mono _ _ _ | exact spec_DrawProgOk.mono _ _ | exact spec_ProgOk.mono _ _ _ | exact spec_WithFences.mono _ _ | exact ln_ | refine LeO.ite ?_ ?_ | refine LeO.bind ?_ (fun _ => ?_)
  ·intro y0 y1 y2 y3 y4
   unfold laws_FnCodes.l1
   repeat' first | (with_reducible first | exact ih0 _ _ _ | exact ih1 _ _ _ _ | exact ih2 _ _ _ _ _ | exact ih3 _ _ _ _ _ | exact impl_CodeText.mono _ _ | exact impl_ParseCode.mono _ _ | exact impl_WithFences.mono _ _ | exact laws_sameCode.mono _ _ _ | exact spec_DrawProgOk.mono _ _ | exact spec_ProgOk.mono _ _ _ | exact spec_WithFences.mono _ _ | exact lr_ | exact ln_ | refine LeO.ite ?_ ?_ | refine LeO.bind ?_ (fun _ => ?_)) | exact ih0 _ _ _ | exact ih1 _ _ _ _ | exact ih2 _ _ _ _ _ | exact ih3 _ _ _ _ _ | exact impl_CodeText.mono _ _ | exact impl_ParseCode.mono _ _ | exact impl_WithFences.mono _ _ | exact laws_sameCode.mono _ _ _ | exact spec_DrawProgOk.mono _ _ | exact spec_ProgOk.mono _ _ _ | exact spec_WithFences.mono _ _ | exact ln_ | refine LeO.ite ?_ ?_ | refine LeO.bind ?_ (fun _ => ?_)
theorem laws_FnCodes.mono : ∀ a0 k, LeO (laws_FnCodes.f k a0) (laws_FnCodes.f (k + 1) a0) := by
 intro a0 k
 obtain ⟨ih0, ih1, ih2, ih3⟩ := laws_FnCodes.mono_l k
 unfold laws_FnCodes.f
 repeat' first | (with_reducible first | exact ih0 _ _ _ | exact ih1 _ _ _ _ | exact ih2 _ _ _ _ _ | exact ih3 _ _ _ _ _ | exact impl_CodeText.mono _ _ | exact impl_ParseCode.mono _ _ | exact impl_WithFences.mono _ _ | exact laws_sameCode.mono _ _ _ | exact spec_DrawProgOk.mono _ _ | exact spec_ProgOk.mono _ _ _ | exact spec_WithFences.mono _ _ | exact lr_ | exact ln_ | refine LeO.ite ?_ ?_ | refine LeO.bind ?_ (fun _ => ?_)) | exact ih0 _ _ _ | exact ih1 _ _ _ _ | exact ih2 _ _ _ _ _ | exact ih3 _ _ _ _ _ | exact impl_CodeText.mono _ _ | exact impl_ParseCode.mono _ _ | exact impl_WithFences.mono _ _ | exact laws_sameCode.mono _ _ _ | exact spec_DrawProgOk.mono _ _ | exact spec_ProgOk.mono _ _ _ | exact spec_WithFences.mono _ _ | exact ln_ | refine LeO.ite ?_ ?_ | refine LeO.bind ?_ (fun _ => ?_)
set_option maxHeartbeats 8000000 in
set_option maxRecDepth 100000 in
theorem laws_FnCodes.calls (k : Nat) (A0 : Option Addr) (c0 : Nat) (l0 : List Int) (r : Bool) (w : World) (hE_ : EnvOk true w) (hr0 : Kd.C (Kd.int .u8) w A0 l0.length l0) (hc0 : l0.length ≤ c0) (h : laws_FnCodes.f k l0 = some r) (hr_ : r = true) :
  Calls Tryd.prog 3 #[.slice A0 l0.length c0] w fun e w' => e = .returned (.bool r) ∧ Below w.heap.size w w' := by
 have HE_ := Aside0.mk hE_
 clear hE_
 have hu26 := Tryd.underlying26
 have HR0 := Aside0.mk hr0
 have HC0 := Aside0.mk hc0
 clear hr0 hc0
 have HB := Aside0.mk (Below.refl w.heap.size w)
 have H : ((laws_big.f l0).bind fun t1 => (if t1 = true then (some true) else ((spec_DrawProgOk.f k l0).bind fun bt2 => ((spec_ProgOk.f k bt2.1 bt2.2).bind fun t7 => (if t7 = true then (laws_FnCodes.l0 k 0 bt2.1 bt2.2) else (some true)))))) = some r := h
 clear h
 replace H := Option.bind_eq_some_iff.mp H
 obtain ⟨t1, A20, H⟩ := H
 replace H : (if t1 = true then (some true) else ((spec_DrawProgOk.f k l0).bind fun bt2 => ((spec_ProgOk.f k bt2.1 bt2.2).bind fun t7 => (if t7 = true then (laws_FnCodes.l0 k 0 bt2.1 bt2.2) else (some true))))) = some r := H
 have A2 := Aside0.mk A20
 clear A20
 by_cases c3 : t1 = true
 ·subst c3
  have H1 : (some true) = some r := by rw [if_pos rfl] at H; exact H
  clear H
  have H := H1
  clear H1
  obtain rfl := Option.some.inj H
  clear hr_
  go_enter Tryd.func3, Tryd.ntmps3
  go_wp2_with (first | ((with_reducible refine gate_callee (f := 4) rfl ?_); refine goesL_ (some 17) rfl rfl Tryd.func4 (by kernel_rfl) rfl #[.slice A0 l0.length c0] rfl ar_ ?_; (with_reducible refine (laws_big.calls _ _ l0 true _ ?side1 ?side2 A2.out).mono ?_); (case side1 => repeat (first | exact HR0.out | (with_reducible refine Kd.C_alloc ?_ _) | (with_reducible refine Kd.C_drewN ?_ _) | (with_reducible refine Kd.C_drew ?_))); (case side2 => exact HC0.out); rintro e w' ⟨rfl, ⟨nd, rfl⟩⟩; refine ⟨_, rfl, ?_⟩))
  go_ret
  exact ⟨rr_, bw_⟩
 replace c3 := Bool.eq_false_iff.mpr c3
 subst c3
 have H1 : ((spec_DrawProgOk.f k l0).bind fun bt2 => ((spec_ProgOk.f k bt2.1 bt2.2).bind fun t7 => (if t7 = true then (laws_FnCodes.l0 k 0 bt2.1 bt2.2) else (some true)))) = some r := by rw [if_neg (show ¬ (false = true) by decide)] at H; exact H
 clear H
 have H := H1
 clear H1
 replace H := Option.bind_eq_some_iff.mp H
 obtain ⟨⟨t2, t3⟩, A40, H⟩ := H
 replace H : ((spec_ProgOk.f k t2 t3).bind fun t7 => (if t7 = true then (laws_FnCodes.l0 k 0 t2 t3) else (some true))) = some r := H
 have A4 := Aside0.mk A40
 clear A40
 replace H := Option.bind_eq_some_iff.mp H
 obtain ⟨t7, A50, H⟩ := H
 replace H : (if t7 = true then (laws_FnCodes.l0 k 0 t2 t3) else (some true)) = some r := H
 have A5 := Aside0.mk A50
 clear A50
 by_cases c6 : t7 = true
 rotate_left
 ·replace c6 := Bool.eq_false_iff.mpr c6
  subst c6
  have H1 : (some true) = some r := by rw [if_neg (show ¬ (false = true) by decide)] at H; exact H
  clear H
  have H := H1
  clear H1
  obtain rfl := Option.some.inj H
  clear hr_
  go_enter Tryd.func3, Tryd.ntmps3
  go_wp2_with (first | ((with_reducible refine gate_callee (f := 4) rfl ?_); refine goesL_ (some 17) rfl rfl Tryd.func4 (by kernel_rfl) rfl #[.slice A0 l0.length c0] rfl ar_ ?_; (with_reducible refine (laws_big.calls _ _ l0 false _ ?side1 ?side2 A2.out).mono ?_); (case side1 => repeat (first | exact HR0.out | (with_reducible refine Kd.C_alloc ?_ _) | (with_reducible refine Kd.C_drewN ?_ _) | (with_reducible refine Kd.C_drew ?_))); (case side2 => exact HC0.out); rintro e w' ⟨rfl, ⟨nd, rfl⟩⟩; refine ⟨_, rfl, ?_⟩) | ((with_reducible refine gate_callee (f := 5) rfl ?_); refine goesL_ (some 19) rfl rfl Tryd.func5 (by kernel_rfl) rfl #[.slice A0 l0.length c0] rfl ar_ ?_; (with_reducible refine (spec_DrawProgOk.calls k _ _ l0 t2 t3 _ ?side1 ?side2 A4.out).mono ?_); (case side1 => repeat (first | exact HR0.out | (with_reducible refine Kd.C_alloc ?_ _) | (with_reducible refine Kd.C_drewN ?_ _) | (with_reducible refine Kd.C_drew ?_))); (case side2 => exact HC0.out); rintro e w55 ⟨v4, rfl, ho0, hb⟩; refine ⟨_, rfl, ?_⟩; have n0_ := Aside0.mk (Kd.N_lower (Kd.N_mono (ok' := fun k_ => True) ho0 (fun k_ hk_ => trivial)) (below_size bw_)); have n1_ := bs_ hb; clear HB; have HO5 := n0_; have HB := n1_; clear n0_ n1_; (try clear hb); (try clear hb2); (try clear hk); (try clear hi); (try clear ho0)) | ((with_reducible refine gate_dst (N := 3) rfl ?_); (try (refine gate_guard (by rfl) ?_; dsimp only)); refine box_event ?hg (N := 3) ?hd (cs := #[.int .i64 0, .slice none 0 0]) (t := 26) ?hr ?_; (case hd => rfl); (case hg => rfl); (case hr => exact hrr_); intro gb6 hg w56 hbox hb; have n0_ := Aside0.mk (Kd.N_below (Kd.N_elderB (by (with_reducible repeat (first | apply Kd.N_alloc | apply Kd.N_drewN | apply Kd.N_drew)); exact HO5.out) gb6 (Nat.le_of_eq hg.symm)) hb); have n1_ := bs_ hb; have n2_ := Aside0.mk (hbox); have n3_ := ge_ (w := w) hg; have n4_ := ge_ (w := w) hg; clear HO5; clear HB; have HO5 := n0_; have HB := n1_; have BK6 := n2_; have GW6 := n3_; have GE6 := n4_; clear n0_ n1_ n2_ n3_ n4_; clear hb hbox hg; obtain ⟨hcz57_0, hcz57_1, hfz57_0, hfz57_1⟩ := bc2_ BK6.out; obtain ⟨Ao58, co58, eo58⟩ := Kd.N_slice HO5.out; subst eo58) | ((with_reducible refine gate_callee (f := 6) rfl ?_); refine goesL_ (some 21) rfl rfl Tryd.func6 (by kernel_rfl) rfl #[.agg #[.int .i64 t2, .slice Ao58 t3.length co58]] rfl ar_ ?_; (with_reducible refine (spec_ProgOk.calls k t2 _ _ t3 false _ ?side1 ?side2 A5.out).mono ?_); (case side1 => refine (Kd.N_reads' (e := 31) (base := w.heap.size) (ok := fun k_ => (True ∧ k_ ≠ gb6)) (n := t3.length) (c := co58) ?_).2.2; exact (by (with_reducible repeat (first | apply Kd.N_alloc | apply Kd.N_drewN | apply Kd.N_drew)); exact (Kd.N_mono (Kd.N_far (p := ⟨gb6, 1, none⟩) (Kd.N_far (p := ⟨gb6, 0, none⟩) (Kd.N_mono HO5.out (fun k_ hk => (⟨hk, hk.2⟩ : _ ∧ k_ ≠ gb6))) (fun _ hk => hk.2) (.int .i64 t2)) (fun _ hk => hk.2) (.slice Ao58 t3.length co58)) (fun _ h_ => h_.1)))); (case side2 => exact (Kd.N_reads' HO5.out).2.1); rintro e w59 ⟨rfl, hb⟩; refine ⟨_, rfl, ?_⟩; have n0_ := Aside0.mk (Kd.N_below (by (with_reducible repeat (first | apply Kd.N_alloc | apply Kd.N_drewN | apply Kd.N_drew)); exact (Kd.N_mono (Kd.N_far (p := ⟨gb6, 1, none⟩) (Kd.N_far (p := ⟨gb6, 0, none⟩) (Kd.N_mono HO5.out (fun k_ hk => (⟨hk, hk.2⟩ : _ ∧ k_ ≠ gb6))) (fun _ hk => hk.2) (.int .i64 t2)) (fun _ hk => hk.2) (.slice Ao58 t3.length co58)) (fun _ h_ => h_.1))) hb); have n1_ := Aside0.mk (blk_below (g := gb6) (o := .cells #[.int .i64 t2, .slice Ao58 t3.length co58] 26 (0, 0)) (by (with_reducible repeat (first | refine blk_drewN ?_ _ | refine blk_drew ?_ | refine blk_alloc ?_ _)); refine blk_put (cs := #[.int .i64 t2, .slice none 0 0]) ?_ 1 _ rfl; (with_reducible repeat (first | refine blk_drewN ?_ _ | refine blk_drew ?_ | refine blk_alloc ?_ _)); refine blk_put (cs := #[.int .i64 0, .slice none 0 0]) ?_ 0 _ rfl; (with_reducible repeat (first | refine blk_drewN ?_ _ | refine blk_drew ?_ | refine blk_alloc ?_ _)); exact BK6.out) hb); have n2_ := bs_ hb; clear HO5; clear BK6; clear HB; have HO5 := n0_; have BK6 := n1_; have HB := n2_; clear n0_ n1_ n2_; (try clear hb); (try clear hb2); (try clear hk); (try clear hi)))
  go_ret
  exact ⟨rr_, bw_⟩
 subst c6
 have H1 : (laws_FnCodes.l0 k 0 t2 t3) = some r := by rw [if_pos rfl] at H; exact H
 clear H
 have H := H1
 clear H1
 have H' := Aside0.mk H
 clear H
 go_enter Tryd.func3, Tryd.ntmps3
 go_wp2_with (first | ((with_reducible refine gate_callee (f := 4) rfl ?_); refine goesL_ (some 17) rfl rfl Tryd.func4 (by kernel_rfl) rfl #[.slice A0 l0.length c0] rfl ar_ ?_; (with_reducible refine (laws_big.calls _ _ l0 false _ ?side1 ?side2 A2.out).mono ?_); (case side1 => repeat (first | exact HR0.out | (with_reducible refine Kd.C_alloc ?_ _) | (with_reducible refine Kd.C_drewN ?_ _) | (with_reducible refine Kd.C_drew ?_))); (case side2 => exact HC0.out); rintro e w' ⟨rfl, ⟨nd, rfl⟩⟩; refine ⟨_, rfl, ?_⟩) | ((with_reducible refine gate_callee (f := 5) rfl ?_); refine goesL_ (some 19) rfl rfl Tryd.func5 (by kernel_rfl) rfl #[.slice A0 l0.length c0] rfl ar_ ?_; (with_reducible refine (spec_DrawProgOk.calls k _ _ l0 t2 t3 _ ?side1 ?side2 A4.out).mono ?_); (case side1 => repeat (first | exact HR0.out | (with_reducible refine Kd.C_alloc ?_ _) | (with_reducible refine Kd.C_drewN ?_ _) | (with_reducible refine Kd.C_drew ?_))); (case side2 => exact HC0.out); rintro e w7 ⟨v4, rfl, ho0, hb⟩; refine ⟨_, rfl, ?_⟩; have n0_ := Aside0.mk (Kd.N_lower (Kd.N_mono (ok' := fun k_ => True) ho0 (fun k_ hk_ => trivial)) (below_size bw_)); have n1_ := bs_ hb; clear HB; have HO5 := n0_; have HB := n1_; clear n0_ n1_; (try clear hb); (try clear hb2); (try clear hk); (try clear hi); (try clear ho0)) | ((with_reducible refine gate_dst (N := 3) rfl ?_); (try (refine gate_guard (by rfl) ?_; dsimp only)); refine box_event ?hg (N := 3) ?hd (cs := #[.int .i64 0, .slice none 0 0]) (t := 26) ?hr ?_; (case hd => rfl); (case hg => rfl); (case hr => exact hrr_); intro gb6 hg w8 hbox hb; have n0_ := Aside0.mk (Kd.N_below (Kd.N_elderB (by (with_reducible repeat (first | apply Kd.N_alloc | apply Kd.N_drewN | apply Kd.N_drew)); exact HO5.out) gb6 (Nat.le_of_eq hg.symm)) hb); have n1_ := bs_ hb; have n2_ := Aside0.mk (hbox); have n3_ := ge_ (w := w) hg; have n4_ := ge_ (w := w) hg; clear HO5; clear HB; have HO5 := n0_; have HB := n1_; have BK6 := n2_; have GW6 := n3_; have GE6 := n4_; clear n0_ n1_ n2_ n3_ n4_; clear hb hbox hg; obtain ⟨hcz9_0, hcz9_1, hfz9_0, hfz9_1⟩ := bc2_ BK6.out; obtain ⟨Ao10, co10, eo10⟩ := Kd.N_slice HO5.out; subst eo10) | ((with_reducible refine gate_callee (f := 6) rfl ?_); refine goesL_ (some 21) rfl rfl Tryd.func6 (by kernel_rfl) rfl #[.agg #[.int .i64 t2, .slice Ao10 t3.length co10]] rfl ar_ ?_; (with_reducible refine (spec_ProgOk.calls k t2 _ _ t3 true _ ?side1 ?side2 A5.out).mono ?_); (case side1 => refine (Kd.N_reads' (e := 31) (base := w.heap.size) (ok := fun k_ => (True ∧ k_ ≠ gb6)) (n := t3.length) (c := co10) ?_).2.2; exact (by (with_reducible repeat (first | apply Kd.N_alloc | apply Kd.N_drewN | apply Kd.N_drew)); exact (Kd.N_mono (Kd.N_far (p := ⟨gb6, 1, none⟩) (Kd.N_far (p := ⟨gb6, 0, none⟩) (Kd.N_mono HO5.out (fun k_ hk => (⟨hk, hk.2⟩ : _ ∧ k_ ≠ gb6))) (fun _ hk => hk.2) (.int .i64 t2)) (fun _ hk => hk.2) (.slice Ao10 t3.length co10)) (fun _ h_ => h_.1)))); (case side2 => exact (Kd.N_reads' HO5.out).2.1); rintro e w11 ⟨rfl, hb⟩; refine ⟨_, rfl, ?_⟩; have n0_ := Aside0.mk (Kd.N_below (by (with_reducible repeat (first | apply Kd.N_alloc | apply Kd.N_drewN | apply Kd.N_drew)); exact (Kd.N_mono (Kd.N_far (p := ⟨gb6, 1, none⟩) (Kd.N_far (p := ⟨gb6, 0, none⟩) (Kd.N_mono HO5.out (fun k_ hk => (⟨hk, hk.2⟩ : _ ∧ k_ ≠ gb6))) (fun _ hk => hk.2) (.int .i64 t2)) (fun _ hk => hk.2) (.slice Ao10 t3.length co10)) (fun _ h_ => h_.1))) hb); have n1_ := Aside0.mk (blk_below (g := gb6) (o := .cells #[.int .i64 t2, .slice Ao10 t3.length co10] 26 (0, 0)) (by (with_reducible repeat (first | refine blk_drewN ?_ _ | refine blk_drew ?_ | refine blk_alloc ?_ _)); refine blk_put (cs := #[.int .i64 t2, .slice none 0 0]) ?_ 1 _ rfl; (with_reducible repeat (first | refine blk_drewN ?_ _ | refine blk_drew ?_ | refine blk_alloc ?_ _)); refine blk_put (cs := #[.int .i64 0, .slice none 0 0]) ?_ 0 _ rfl; (with_reducible repeat (first | refine blk_drewN ?_ _ | refine blk_drew ?_ | refine blk_alloc ?_ _)); exact BK6.out) hb); have n2_ := bs_ hb; clear HO5; clear BK6; clear HB; have HO5 := n0_; have BK6 := n1_; have HB := n2_; clear n0_ n1_ n2_; (try clear hb); (try clear hb2); (try clear hk); (try clear hi)))
 go_loopg [4] k (fun kq v4 w' => ∃ (x4_1 : Int), v4 = .int .i64 x4_1 ∧ Aside0 (laws_FnCodes.l0 kq x4_1 t2 t3 = some r) ∧ Aside0 (kq ≤ k) ∧ Aside0 (Kd.N (Kd.slice 37 k37) 31 w' w.heap.size (fun k_ => k_ ≠ gb6) (.slice Ao10 t3.length co10) t3) ∧ Aside0 (w'.heap[gb6]? = some (.cells #[.int .i64 t2, (.slice Ao10 t3.length co10)] 26 (0, 0))) ∧ Aside0 (Below w.heap.size w w'))
 case atStart => exact ⟨(0), sd_, H', ⟨Nat.le_refl _⟩, ⟨by (with_reducible repeat (first | apply Kd.N_alloc | apply Kd.N_drewN | apply Kd.N_drew)); exact Kd.N_mono HO5.out (fun _ hk => hk.2)⟩, ⟨bk_⟩, ⟨bw_⟩⟩
 case round =>
  clear H'
  try clear p2
  try clear c3
  try clear c4
  try clear c5
  try clear c6
  try clear hcz9_0 hcz9_1
  try clear hfz9_0 hfz9_1
  obtain ⟨x4_1, rfl, HA, HK1, HO_7001, BK6, HB⟩ := hrel
  cases gk with
  | zero => exact absurd HA.out (by simp [laws_FnCodes.l0])
  | succ k1 =>
   have H := HA.out
   clear HA
   simp only [laws_FnCodes.l0] at H
   by_cases c12 : x4_1 < (t3.length : Int)
   rotate_left
   ·rw [if_neg c12] at H
    have c12b0 : decide (x4_1 < (t3.length : Int)) = false := decide_eq_false c12
    clear c12
    obtain rfl := Option.some.inj H
    clear hr_
    obtain ⟨hcz54_0, hcz54_1, hfz54_0, hfz54_1⟩ := bc2_ BK6.out
    go_wp2
    go_ret
    exact ⟨rr_, bw_⟩
   rw [if_pos c12] at H
   have c12b0 : decide (x4_1 < (t3.length : Int)) = true := decide_eq_true c12
   clear c12
   by_cases c13 : 0 ≤ x4_1
   rotate_left
   ·rw [if_neg c13] at H
    exact absurd H (by simp)
   rw [if_pos c13] at H
   have c13b0 : decide (0 ≤ x4_1) = true := decide_eq_true c13
   clear c13
   replace H := Option.bind_eq_some_iff.mp H
   obtain ⟨⟨t9, t10⟩, A140, H⟩ := H
   replace H : ((impl_ParseCode.f k1 t9).bind fun bt11 => (if t10 = true then (if bt11.2 = true then ((laws_sameCode.f k1 bt11.1 (rd_L4 t3 x4_1)).bind fun t16 => (laws_FnCodes.j1 k1 x4_1 (!t16) t2 t3)) else (laws_FnCodes.j1 k1 x4_1 true t2 t3)) else (laws_FnCodes.j1 k1 x4_1 true t2 t3))) = some r := H
   have A14 := Aside0.mk A140
   clear A140
   replace H := Option.bind_eq_some_iff.mp H
   obtain ⟨⟨t11, t12⟩, A150, H⟩ := H
   replace H : (if t10 = true then (if t12 = true then ((laws_sameCode.f k1 t11 (rd_L4 t3 x4_1)).bind fun t16 => (laws_FnCodes.j1 k1 x4_1 (!t16) t2 t3)) else (laws_FnCodes.j1 k1 x4_1 true t2 t3)) else (laws_FnCodes.j1 k1 x4_1 true t2 t3)) = some r := H
   have A15 := Aside0.mk A150
   clear A150
   have HC16 := Aside0.mk H
   clear H
   obtain ⟨hcz17_0, hcz17_1, hfz17_0, hfz17_1⟩ := bc2_ BK6.out
   have p8 : 0 ≤ (x4_1 : Int) := od_
   have q8 : x4_1 < (t3.length : Int) := od_
   obtain ⟨ad8, A8_0, c8_0, e8, hx8_0, hl8_0, hi8_0⟩ := at_L4 (Kd.N_reads' HO_7001.out).2.2 x4_1 p8 q8
   cases e8
   obtain ⟨ce8, hce8, hMe8, hcc8⟩ := Kd.N_get HO_7001.out [] x4_1 p8 (by first | exact q8 | exact od_ | (have e_ := (Kd.N_reads' HO_7001.out).1; omega))
   obtain ⟨ua8_0, uc8_0, rfl, ul8_0, ge8_0⟩ := Kd.FK_slice_open hMe8
   have hv8_0 := hcc8 0 _ rfl
   rw [Nat.add_zero, show ((Kd.slice 37 k37)).sz = 1 from rfl, Nat.mul_one] at hv8_0
   replace hv8_0 := Option.some.inj (hv8_0.symm.trans hx8_0)
   injection hv8_0 with hva_ hvn_ hvc_
   rw [hva_] at ge8_0
   rw [hvc_] at ul8_0
   have HL8_0 := Aside0.mk (show Kd.V k37 37 _ w.heap.size _ _ (rd_L4 t3 x4_1) from Kd.V_mk ul8_0 ge8_0)
   clear hva_ hvn_ hvc_ ge8_0 ul8_0
   clear hcc8 hce8
   have HR8_0 := Aside0.mk hi8_0
   have HC8_0 := Aside0.mk hl8_0
   clear hi8_0 hl8_0
   replace p8 := eq_true p8
   replace q8 := eq_true q8
   go_upto_region 11 with (first | ((with_reducible refine gate_callee (f := 7) rfl ?_); refine goesL_ (some 36) rfl rfl Tryd.func7 (by kernel_rfl) rfl #[.slice A8_0 (rd_L4 t3 x4_1).length c8_0] rfl ar_ ?_; (with_reducible refine (impl_CodeText.calls (hE_ := ee_) k1 _ _ (rd_L4 t3 x4_1) t9 t10 _ ?side1 ?side2 A14.out).mono ?_); (case side1 => repeat (first | exact (by repeat (first | (with_reducible exact HR8_0.out) | (with_reducible refine Kd.C_alloc ?_ _) | (with_reducible refine Kd.C_drewN ?_ _) | (with_reducible refine Kd.C_drew ?_) | exact HR8_0.out)) | (with_reducible refine Kd.C_alloc ?_ _) | (with_reducible refine Kd.C_drewN ?_ _) | (with_reducible refine Kd.C_drew ?_))); (case side2 => exact HC8_0.out); rintro e w18 ⟨rfl, hb⟩; refine ⟨_, rfl, ?_⟩; have n0_ := Aside0.mk (Kd.N_below (by (with_reducible repeat (first | apply Kd.N_alloc | apply Kd.N_drewN | apply Kd.N_drew)); exact HO_7001.out) hb); have n1_ := Aside0.mk (Kd.V_below (by (with_reducible repeat (first | apply Kd.V_alloc | apply Kd.V_drewN | apply Kd.V_drew)); exact HL8_0.out) hb); have n2_ := bb_ BK6.out hb; have n3_ := Aside0.mk (Kd.C_below (by repeat (first | (with_reducible exact HR8_0.out) | (with_reducible refine Kd.C_alloc ?_ _) | (with_reducible refine Kd.C_drewN ?_ _) | (with_reducible refine Kd.C_drew ?_) | exact HR8_0.out)) hb); have n4_ := bs_ hb; clear HO_7001; clear HL8_0; clear BK6; clear HR8_0; clear HB; have HO_7001 := n0_; have HL8_0 := n1_; have BK6 := n2_; have HR8_0 := n3_; have HB := n4_; clear n0_ n1_ n2_ n3_ n4_; (try clear hb); (try clear hb2); (try clear hk); (try clear hi)) | ((with_reducible refine gate_callee (f := 8) rfl ?_); refine goesL_ (some 41) rfl rfl Tryd.func8 (by kernel_rfl) rfl #[.string t9] rfl ar_ ?_; (with_reducible refine (impl_ParseCode.calls (hE_ := ee_) k1 t9 t11 t12 _ A15.out).mono ?_); rintro e w19 ⟨v13, rfl, ho0, hb⟩; refine ⟨_, rfl, ?_⟩; have n0_ := Aside0.mk (Kd.N_elder' (by (with_reducible repeat (first | apply Kd.N_alloc | apply Kd.N_drewN | apply Kd.N_drew)); exact HO_7001.out) (Kd.R_base ho0) hb); have n1_ := Aside0.mk (Kd.V_elder' (by (with_reducible repeat (first | apply Kd.V_alloc | apply Kd.V_drewN | apply Kd.V_drew)); exact HL8_0.out) (Kd.R_base ho0) hb); have n2_ := Aside0.mk (Kd.R_lower ho0 (below_size bw_)); have n3_ := bb_ BK6.out hb; have n4_ := Aside0.mk (Kd.C_below (by repeat (first | (with_reducible exact HR8_0.out) | (with_reducible refine Kd.C_alloc ?_ _) | (with_reducible refine Kd.C_drewN ?_ _) | (with_reducible refine Kd.C_drew ?_) | exact HR8_0.out)) hb); have n5_ := bs_ hb; clear HO_7001; clear HL8_0; clear BK6; clear HR8_0; clear HB; have HO_7001 := n0_; have HL8_0 := n1_; have HO14 := n2_; have BK6 := n3_; have HR8_0 := n4_; have HB := n5_; clear n0_ n1_ n2_ n3_ n4_ n5_; (try clear hb); (try clear hb2); (try clear hk); (try clear hi); (try clear ho0)))
   (try simp only [Act.put, List.setIfInBounds_toArray, List.set_cons_zero, List.set_cons_succ])
   go_cut [59] (fun v59 wc => ∃ (kq : Nat) (x59_15 : Bool), v59 = .bool x59_15 ∧ Aside0 (laws_FnCodes.j1 kq x4_1 x59_15 t2 t3 = some r) ∧ Aside0 (kq ≤ k1) ∧ Aside0 (Kd.N (Kd.slice 37 k37) 31 wc w.heap.size (fun k_ => k_ ≠ gb6) (.slice (some ad8) t3.length co10) t3) ∧ Aside0 (wc.heap[gb6]? = some (.cells #[.int .i64 t2, (.slice (some ad8) t3.length co10)] 26 (0, 0))) ∧ Aside0 (Kd.C k37 wc A8_0 (rd_L4 t3 x4_1).length (rd_L4 t3 x4_1)) ∧ Aside0 (Below w.heap.size w wc))
   case first =>
    have H := HC16.out
    clear HC16
    by_cases c20 : t10 = true
    rotate_left
    ·replace c20 := Bool.eq_false_iff.mpr c20
     subst c20
     have H1 : (laws_FnCodes.j1 k1 x4_1 true t2 t3) = some r := by rw [if_neg (show ¬ (false = true) by decide)] at H; exact H
     clear H
     have H := H1
     clear H1
     have H' := Aside0.mk H
     clear H
     go_wp2
     go_meet
     case rel => exact ⟨_, (true), sd_, H', ⟨by have := HK1.out; first | omega | exact Nat.le_refl _⟩, ⟨by (with_reducible repeat (first | apply Kd.N_alloc | apply Kd.N_drewN | apply Kd.N_drew)); exact Kd.N_mono HO_7001.out (fun _ hk => hk.1)⟩, ⟨bk_⟩, ⟨by repeat (first | (with_reducible exact HR8_0.out) | (with_reducible refine Kd.C_alloc ?_ _) | (with_reducible refine Kd.C_drewN ?_ _) | (with_reducible refine Kd.C_drew ?_) | exact HR8_0.out)⟩, ⟨bw_⟩⟩
    subst c20
    have H1 : (if t12 = true then ((laws_sameCode.f k1 t11 (rd_L4 t3 x4_1)).bind fun t16 => (laws_FnCodes.j1 k1 x4_1 (!t16) t2 t3)) else (laws_FnCodes.j1 k1 x4_1 true t2 t3)) = some r := by rw [if_pos rfl] at H; exact H
    clear H
    have H := H1
    clear H1
    by_cases c21 : t12 = true
    rotate_left
    ·replace c21 := Bool.eq_false_iff.mpr c21
     subst c21
     have H1 : (laws_FnCodes.j1 k1 x4_1 true t2 t3) = some r := by rw [if_neg (show ¬ (false = true) by decide)] at H; exact H
     clear H
     have H := H1
     clear H1
     have H' := Aside0.mk H
     clear H
     go_wp2
     go_meet
     case rel => exact ⟨_, (true), sd_, H', ⟨by have := HK1.out; first | omega | exact Nat.le_refl _⟩, ⟨by (with_reducible repeat (first | apply Kd.N_alloc | apply Kd.N_drewN | apply Kd.N_drew)); exact Kd.N_mono HO_7001.out (fun _ hk => hk.1)⟩, ⟨bk_⟩, ⟨by repeat (first | (with_reducible exact HR8_0.out) | (with_reducible refine Kd.C_alloc ?_ _) | (with_reducible refine Kd.C_drewN ?_ _) | (with_reducible refine Kd.C_drew ?_) | exact HR8_0.out)⟩, ⟨bw_⟩⟩
    subst c21
    have H1 : ((laws_sameCode.f k1 t11 (rd_L4 t3 x4_1)).bind fun t16 => (laws_FnCodes.j1 k1 x4_1 (!t16) t2 t3)) = some r := by rw [if_pos rfl] at H; exact H
    clear H
    have H := H1
    clear H1
    replace H := Option.bind_eq_some_iff.mp H
    obtain ⟨t16, A220, H⟩ := H
    replace H : (laws_FnCodes.j1 k1 x4_1 (!t16) t2 t3) = some r := H
    have A22 := Aside0.mk A220
    clear A220
    have H' := Aside0.mk H
    clear H
    obtain ⟨hcz23_0, hcz23_1, hfz23_0, hfz23_1⟩ := bc2_ BK6.out
    have p15 : 0 ≤ (x4_1 : Int) := od_
    have q15 : x4_1 < (t3.length : Int) := od_
    obtain ⟨ad15, A15_0, c15_0, e15, hx15_0, hl15_0, hi15_0⟩ := at_L4 (Kd.N_reads' HO_7001.out).2.2 x4_1 p15 q15
    obtain rfl : ad8 = ad15 := (by injection e15)
    obtain ⟨ce15, hce15, hMe15, hcc15⟩ := Kd.N_get HO_7001.out [] x4_1 p15 (by first | exact q15 | exact od_ | (have e_ := (Kd.N_reads' HO_7001.out).1; omega))
    obtain ⟨ua15_0, uc15_0, rfl, ul15_0, ge15_0⟩ := Kd.FK_slice_open hMe15
    have hv15_0 := hcc15 0 _ rfl
    rw [Nat.add_zero, show ((Kd.slice 37 k37)).sz = 1 from rfl, Nat.mul_one] at hv15_0
    replace hv15_0 := Option.some.inj (hv15_0.symm.trans hx15_0)
    injection hv15_0 with hva_ hvn_ hvc_
    rw [hva_] at ge15_0
    rw [hvc_] at ul15_0
    have HL15_0 := Aside0.mk (show Kd.V k37 37 _ w.heap.size _ _ (rd_L4 t3 x4_1) from Kd.V_mk ul15_0 ge15_0)
    clear hva_ hvn_ hvc_ ge15_0 ul15_0
    clear hcc15 hce15
    have HR15_0 := Aside0.mk hi15_0
    have HC15_0 := Aside0.mk hl15_0
    clear hi15_0 hl15_0
    replace p15 := eq_true p15
    replace q15 := eq_true q15
    obtain ⟨Ao24, co24, eo24⟩ := Kd.R_slice HO14.out
    subst eo24
    go_wp2_with (first | (go_at_call 9; (with_reducible refine (laws_sameCode.calls k1 _ _ t11 _ _ (rd_L4 t3 x4_1) t16 _ ?side1 ?side2 ?side3 ?side4 A22.out).mono ?_); (case side1 => repeat (first | exact (Kd.R_reads' HO14.out).2.2 | (with_reducible refine Kd.C_alloc ?_ _) | (with_reducible refine Kd.C_drewN ?_ _) | (with_reducible refine Kd.C_drew ?_))); (case side2 => exact (Kd.R_reads' HO14.out).2.1); (case side3 => repeat (first | exact (by repeat (first | (with_reducible exact HR15_0.out) | (with_reducible refine Kd.C_alloc ?_ _) | (with_reducible refine Kd.C_drewN ?_ _) | (with_reducible refine Kd.C_drew ?_) | exact HR15_0.out)) | (with_reducible refine Kd.C_alloc ?_ _) | (with_reducible refine Kd.C_drewN ?_ _) | (with_reducible refine Kd.C_drew ?_))); (case side4 => exact HC15_0.out); rintro e w' ⟨rfl, ⟨nd, rfl⟩⟩))
    go_meet
    case rel => exact ⟨_, (!t16), sd_, H', ⟨by have := HK1.out; first | omega | exact Nat.le_refl _⟩, ⟨by (with_reducible repeat (first | apply Kd.N_alloc | apply Kd.N_drewN | apply Kd.N_drew)); exact Kd.N_mono HO_7001.out (fun _ hk => hk.1)⟩, ⟨bk_⟩, ⟨by repeat (first | (with_reducible exact HR8_0.out) | (with_reducible refine Kd.C_alloc ?_ _) | (with_reducible refine Kd.C_drewN ?_ _) | (with_reducible refine Kd.C_drew ?_) | exact HR8_0.out)⟩, ⟨bw_⟩⟩
   case rest =>
    clear HC16
    try clear c1
    try clear p1
    try clear q1
    try clear hx1
    try clear c2
    try clear p2
    try clear c3
    try clear c4
    try clear c5
    try clear c6
    try clear c7
    try clear c8
    try clear p8
    try clear q8
    try clear hx8
    try clear c12
    try clear c12b0
    try clear c13
    try clear c13b0
    try clear c15
    try clear p15
    try clear q15
    try clear hx15
    try clear c20
    try clear c21
    try clear hcz17_0 hcz17_1
    try clear hcz23_0 hcz23_1
    try clear hcz9_0 hcz9_1
    try clear hfz17_0 hfz17_1
    try clear hfz23_0 hfz23_1
    try clear hfz9_0 hfz9_1
    try clear hx15_0
    try clear hx8_0
    try clear p15
    try clear p2
    try clear p8
    try clear q15
    try clear q8
    obtain ⟨kq, x59_15, rfl, HA, HJ15, HO_7001, BK6, HR8_0, HB⟩ := hcut
    cases kq with
    | zero => exact absurd HA.out (by simp [laws_FnCodes.j1])
    | succ kj15 =>
     have H := HA.out
     clear HA
     simp only [laws_FnCodes.j1] at H
     by_cases c25 : x59_15 = true
     ·subst c25
      have H1 : (some false) = some r := by rw [if_pos rfl] at H; exact H
      clear H
      have H := H1
      clear H1
      obtain rfl := Option.some.inj H
      exact absurd hr_ (by decide)
     replace c25 := Bool.eq_false_iff.mpr c25
     subst c25
     have H1 : (if 0 ≤ x4_1 then (if x4_1 < (t3.length : Int) then ((spec_WithFences.f kj15 (rd_L4 t3 x4_1)).bind fun bt18 => (if bt18.2 = true then ((impl_WithFences.f kj15 (rd_L4 t3 x4_1)).bind fun bt23 => ((impl_WithFences.f kj15 bt23.1).bind fun bt27 => (if bt23.2 = true then (if bt27.2 = true then ((laws_sameCode.f kj15 bt23.1 bt27.1).bind fun t31 => (laws_FnCodes.j2 kj15 x4_1 bt23.1 (!t31) t2 t3)) else (laws_FnCodes.j2 kj15 x4_1 bt23.1 true t2 t3)) else (laws_FnCodes.j2 kj15 x4_1 bt23.1 true t2 t3)))) else (laws_FnCodes.l0 kj15 (wrap64 (x4_1 + 1)) t2 t3))) else (none)) else (none)) = some r := by rw [if_neg (show ¬ (false = true) by decide)] at H; exact H
     clear H
     have H := H1
     clear H1
     by_cases c26 : 0 ≤ x4_1
     rotate_left
     ·rw [if_neg c26] at H
      exact absurd H (by simp)
     rw [if_pos c26] at H
     have c26b0 : decide (0 ≤ x4_1) = true := decide_eq_true c26
     clear c26
     by_cases c27 : x4_1 < (t3.length : Int)
     rotate_left
     ·rw [if_neg c27] at H
      exact absurd H (by simp)
     rw [if_pos c27] at H
     have c27b0 : decide (x4_1 < (t3.length : Int)) = true := decide_eq_true c27
     clear c27
     replace H := Option.bind_eq_some_iff.mp H
     obtain ⟨⟨t18, t19⟩, A280, H⟩ := H
     replace H : (if t19 = true then ((impl_WithFences.f kj15 (rd_L4 t3 x4_1)).bind fun bt23 => ((impl_WithFences.f kj15 bt23.1).bind fun bt27 => (if bt23.2 = true then (if bt27.2 = true then ((laws_sameCode.f kj15 bt23.1 bt27.1).bind fun t31 => (laws_FnCodes.j2 kj15 x4_1 bt23.1 (!t31) t2 t3)) else (laws_FnCodes.j2 kj15 x4_1 bt23.1 true t2 t3)) else (laws_FnCodes.j2 kj15 x4_1 bt23.1 true t2 t3)))) else (laws_FnCodes.l0 kj15 (wrap64 (x4_1 + 1)) t2 t3)) = some r := H
     have A28 := Aside0.mk A280
     clear A280
     by_cases c29 : t19 = true
     rotate_left
     ·replace c29 := Bool.eq_false_iff.mpr c29
      subst c29
      have H1 : (laws_FnCodes.l0 kj15 (wrap64 (x4_1 + 1)) t2 t3) = some r := by rw [if_neg (show ¬ (false = true) by decide)] at H; exact H
      clear H
      have H := H1
      clear H1
      have H' := Aside0.mk H
      clear H
      obtain ⟨hcz52_0, hcz52_1, hfz52_0, hfz52_1⟩ := bc2_ BK6.out
      have p17 : 0 ≤ (x4_1 : Int) := od_
      have q17 : x4_1 < (t3.length : Int) := od_
      obtain ⟨ad17, A17_0, c17_0, e17, hx17_0, hl17_0, hi17_0⟩ := at_L4 (Kd.N_reads' HO_7001.out).2.2 x4_1 p17 q17
      obtain rfl : ad8 = ad17 := (by injection e17)
      obtain ⟨ce17, hce17, hMe17, hcc17⟩ := Kd.N_get HO_7001.out [] x4_1 p17 (by first | exact q17 | exact od_ | (have e_ := (Kd.N_reads' HO_7001.out).1; omega))
      obtain ⟨ua17_0, uc17_0, rfl, ul17_0, ge17_0⟩ := Kd.FK_slice_open hMe17
      have hv17_0 := hcc17 0 _ rfl
      rw [Nat.add_zero, show ((Kd.slice 37 k37)).sz = 1 from rfl, Nat.mul_one] at hv17_0
      replace hv17_0 := Option.some.inj (hv17_0.symm.trans hx17_0)
      injection hv17_0 with hva_ hvn_ hvc_
      rw [hva_] at ge17_0
      rw [hvc_] at ul17_0
      have HL17_0 := Aside0.mk (show Kd.V k37 37 _ w.heap.size _ _ (rd_L4 t3 x4_1) from Kd.V_mk ul17_0 ge17_0)
      clear hva_ hvn_ hvc_ ge17_0 ul17_0
      clear hcc17 hce17
      have HR17_0 := Aside0.mk hi17_0
      have HC17_0 := Aside0.mk hl17_0
      clear hi17_0 hl17_0
      replace p17 := eq_true p17
      replace q17 := eq_true q17
      go_wp2_with (first | ((with_reducible refine gate_callee (f := 10) rfl ?_); refine goesL_ (some 66) rfl rfl Tryd.func10 (by kernel_rfl) rfl #[.slice A17_0 (rd_L4 t3 x4_1).length c17_0] rfl ar_ ?_; (with_reducible refine (spec_WithFences.calls kj15 _ _ (rd_L4 t3 x4_1) t18 false _ ?side1 ?side2 A28.out).mono ?_); (case side1 => repeat (first | exact (by repeat (first | (with_reducible exact HR17_0.out) | (with_reducible refine Kd.C_alloc ?_ _) | (with_reducible refine Kd.C_drewN ?_ _) | (with_reducible refine Kd.C_drew ?_) | exact HR17_0.out)) | (with_reducible refine Kd.C_alloc ?_ _) | (with_reducible refine Kd.C_drewN ?_ _) | (with_reducible refine Kd.C_drew ?_))); (case side2 => exact HC17_0.out); rintro e w53 ⟨v20, rfl, ho0, hb⟩; refine ⟨_, rfl, ?_⟩; have n0_ := Aside0.mk (Kd.N_elder' (by (with_reducible repeat (first | apply Kd.N_alloc | apply Kd.N_drewN | apply Kd.N_drew)); exact HO_7001.out) (Kd.R_base ho0) hb); have n1_ := Aside0.mk (Kd.V_elder' (by (with_reducible repeat (first | apply Kd.V_alloc | apply Kd.V_drewN | apply Kd.V_drew)); exact HL17_0.out) (Kd.R_base ho0) hb); have n2_ := Aside0.mk (Kd.R_lower ho0 (below_size bw_)); have n3_ := bb_ BK6.out hb; have n4_ := Aside0.mk (Kd.C_below (by repeat (first | (with_reducible exact HR8_0.out) | (with_reducible refine Kd.C_alloc ?_ _) | (with_reducible refine Kd.C_drewN ?_ _) | (with_reducible refine Kd.C_drew ?_) | exact HR8_0.out)) hb); have n5_ := Aside0.mk (Kd.C_below (by repeat (first | (with_reducible exact HR17_0.out) | (with_reducible refine Kd.C_alloc ?_ _) | (with_reducible refine Kd.C_drewN ?_ _) | (with_reducible refine Kd.C_drew ?_) | exact HR17_0.out)) hb); have n6_ := bs_ hb; clear HO_7001; clear HL17_0; clear BK6; clear HR8_0; clear HR17_0; clear HB; have HO_7001 := n0_; have HL17_0 := n1_; have HO21 := n2_; have BK6 := n3_; have HR8_0 := n4_; have HR17_0 := n5_; have HB := n6_; clear n0_ n1_ n2_ n3_ n4_ n5_ n6_; (try clear hb); (try clear hb2); (try clear hk); (try clear hi); (try clear ho0)))
      go_roundg kj15
      case measure => have := HK1.out; have := HJ15.out; omega
      case rel => exact ⟨(wrap64 (x4_1 + 1)), sd_, H', ⟨by have := HK1.out; have := HJ15.out; omega⟩, ⟨by (with_reducible repeat (first | apply Kd.N_alloc | apply Kd.N_drewN | apply Kd.N_drew)); exact Kd.N_mono HO_7001.out (fun _ hk => hk.1)⟩, ⟨bk_⟩, ⟨bw_⟩⟩
     subst c29
     have H1 : ((impl_WithFences.f kj15 (rd_L4 t3 x4_1)).bind fun bt23 => ((impl_WithFences.f kj15 bt23.1).bind fun bt27 => (if bt23.2 = true then (if bt27.2 = true then ((laws_sameCode.f kj15 bt23.1 bt27.1).bind fun t31 => (laws_FnCodes.j2 kj15 x4_1 bt23.1 (!t31) t2 t3)) else (laws_FnCodes.j2 kj15 x4_1 bt23.1 true t2 t3)) else (laws_FnCodes.j2 kj15 x4_1 bt23.1 true t2 t3)))) = some r := by rw [if_pos rfl] at H; exact H
     clear H
     have H := H1
     clear H1
     replace H := Option.bind_eq_some_iff.mp H
     obtain ⟨⟨t23, t24⟩, A300, H⟩ := H
     replace H : ((impl_WithFences.f kj15 t23).bind fun bt27 => (if t24 = true then (if bt27.2 = true then ((laws_sameCode.f kj15 t23 bt27.1).bind fun t31 => (laws_FnCodes.j2 kj15 x4_1 t23 (!t31) t2 t3)) else (laws_FnCodes.j2 kj15 x4_1 t23 true t2 t3)) else (laws_FnCodes.j2 kj15 x4_1 t23 true t2 t3))) = some r := H
     have A30 := Aside0.mk A300
     clear A300
     replace H := Option.bind_eq_some_iff.mp H
     obtain ⟨⟨t27, t28⟩, A310, H⟩ := H
     replace H : (if t24 = true then (if t28 = true then ((laws_sameCode.f kj15 t23 t27).bind fun t31 => (laws_FnCodes.j2 kj15 x4_1 t23 (!t31) t2 t3)) else (laws_FnCodes.j2 kj15 x4_1 t23 true t2 t3)) else (laws_FnCodes.j2 kj15 x4_1 t23 true t2 t3)) = some r := H
     have A31 := Aside0.mk A310
     clear A310
     have HC32 := Aside0.mk H
     clear H
     obtain ⟨hcz33_0, hcz33_1, hfz33_0, hfz33_1⟩ := bc2_ BK6.out
     have p17 : 0 ≤ (x4_1 : Int) := od_
     have q17 : x4_1 < (t3.length : Int) := od_
     obtain ⟨ad17, A17_0, c17_0, e17, hx17_0, hl17_0, hi17_0⟩ := at_L4 (Kd.N_reads' HO_7001.out).2.2 x4_1 p17 q17
     obtain rfl : ad8 = ad17 := (by injection e17)
     obtain ⟨ce17, hce17, hMe17, hcc17⟩ := Kd.N_get HO_7001.out [] x4_1 p17 (by first | exact q17 | exact od_ | (have e_ := (Kd.N_reads' HO_7001.out).1; omega))
     obtain ⟨ua17_0, uc17_0, rfl, ul17_0, ge17_0⟩ := Kd.FK_slice_open hMe17
     have hv17_0 := hcc17 0 _ rfl
     rw [Nat.add_zero, show ((Kd.slice 37 k37)).sz = 1 from rfl, Nat.mul_one] at hv17_0
     replace hv17_0 := Option.some.inj (hv17_0.symm.trans hx17_0)
     injection hv17_0 with hva_ hvn_ hvc_
     rw [hva_] at ge17_0
     rw [hvc_] at ul17_0
     have HL17_0 := Aside0.mk (show Kd.V k37 37 _ w.heap.size _ _ (rd_L4 t3 x4_1) from Kd.V_mk ul17_0 ge17_0)
     clear hva_ hvn_ hvc_ ge17_0 ul17_0
     clear hcc17 hce17
     have HR17_0 := Aside0.mk hi17_0
     have HC17_0 := Aside0.mk hl17_0
     clear hi17_0 hl17_0
     replace p17 := eq_true p17
     replace q17 := eq_true q17
     go_upto_region 17 with (first | ((with_reducible refine gate_callee (f := 10) rfl ?_); refine goesL_ (some 66) rfl rfl Tryd.func10 (by kernel_rfl) rfl #[.slice A17_0 (rd_L4 t3 x4_1).length c17_0] rfl ar_ ?_; (with_reducible refine (spec_WithFences.calls kj15 _ _ (rd_L4 t3 x4_1) t18 true _ ?side1 ?side2 A28.out).mono ?_); (case side1 => repeat (first | exact (by repeat (first | (with_reducible exact HR17_0.out) | (with_reducible refine Kd.C_alloc ?_ _) | (with_reducible refine Kd.C_drewN ?_ _) | (with_reducible refine Kd.C_drew ?_) | exact HR17_0.out)) | (with_reducible refine Kd.C_alloc ?_ _) | (with_reducible refine Kd.C_drewN ?_ _) | (with_reducible refine Kd.C_drew ?_))); (case side2 => exact HC17_0.out); rintro e w34 ⟨v20, rfl, ho0, hb⟩; refine ⟨_, rfl, ?_⟩; have n0_ := Aside0.mk (Kd.N_elder' (by (with_reducible repeat (first | apply Kd.N_alloc | apply Kd.N_drewN | apply Kd.N_drew)); exact HO_7001.out) (Kd.R_base ho0) hb); have n1_ := Aside0.mk (Kd.V_elder' (by (with_reducible repeat (first | apply Kd.V_alloc | apply Kd.V_drewN | apply Kd.V_drew)); exact HL17_0.out) (Kd.R_base ho0) hb); have n2_ := Aside0.mk (Kd.R_lower ho0 (below_size bw_)); have n3_ := bb_ BK6.out hb; have n4_ := Aside0.mk (Kd.C_below (by repeat (first | (with_reducible exact HR8_0.out) | (with_reducible refine Kd.C_alloc ?_ _) | (with_reducible refine Kd.C_drewN ?_ _) | (with_reducible refine Kd.C_drew ?_) | exact HR8_0.out)) hb); have n5_ := Aside0.mk (Kd.C_below (by repeat (first | (with_reducible exact HR17_0.out) | (with_reducible refine Kd.C_alloc ?_ _) | (with_reducible refine Kd.C_drewN ?_ _) | (with_reducible refine Kd.C_drew ?_) | exact HR17_0.out)) hb); have n6_ := bs_ hb; clear HO_7001; clear HL17_0; clear BK6; clear HR8_0; clear HR17_0; clear HB; have HO_7001 := n0_; have HL17_0 := n1_; have HO21 := n2_; have BK6 := n3_; have HR8_0 := n4_; have HR17_0 := n5_; have HB := n6_; clear n0_ n1_ n2_ n3_ n4_ n5_ n6_; (try clear hb); (try clear hb2); (try clear hk); (try clear hi); (try clear ho0); obtain ⟨hcz35_0, hcz35_1, hfz35_0, hfz35_1⟩ := bc2_ BK6.out; have p22 : 0 ≤ (x4_1 : Int) := od_; have q22 : x4_1 < (t3.length : Int) := od_; obtain ⟨ad22, A22_0, c22_0, e22, hx22_0, hl22_0, hi22_0⟩ := at_L4 (Kd.N_reads' HO_7001.out).2.2 x4_1 p22 q22; obtain rfl : ad8 = ad22 := (by injection e22); obtain ⟨ce22, hce22, hMe22, hcc22⟩ := Kd.N_get HO_7001.out [] x4_1 p22 (by first | exact q22 | exact od_ | (have e_ := (Kd.N_reads' HO_7001.out).1; omega)); obtain ⟨ua22_0, uc22_0, rfl, ul22_0, ge22_0⟩ := Kd.FK_slice_open hMe22; have hv22_0 := hcc22 0 _ rfl; rw [Nat.add_zero, show ((Kd.slice 37 k37)).sz = 1 from rfl, Nat.mul_one] at hv22_0; replace hv22_0 := Option.some.inj (hv22_0.symm.trans hx22_0); injection hv22_0 with hva_ hvn_ hvc_; rw [hva_] at ge22_0; rw [hvc_] at ul22_0; have HL22_0 := Aside0.mk (show Kd.V k37 37 _ w.heap.size _ _ (rd_L4 t3 x4_1) from Kd.V_mk ul22_0 ge22_0); clear hva_ hvn_ hvc_ ge22_0 ul22_0; clear hcc22 hce22; have HR22_0 := Aside0.mk hi22_0; have HC22_0 := Aside0.mk hl22_0; clear hi22_0 hl22_0; replace p22 := eq_true p22; replace q22 := eq_true q22) | ((with_reducible refine gate_callee (f := 11) rfl ?_); refine goesL_ (some 77) rfl rfl Tryd.func11 (by kernel_rfl) rfl #[.slice A22_0 (rd_L4 t3 x4_1).length c22_0] rfl ar_ ?_; (with_reducible refine (impl_WithFences.calls kj15 _ _ (rd_L4 t3 x4_1) t23 t24 _ ?side1 ?side2 A30.out).mono ?_); (case side1 => repeat (first | exact (by repeat (first | (with_reducible exact HR22_0.out) | (with_reducible refine Kd.C_alloc ?_ _) | (with_reducible refine Kd.C_drewN ?_ _) | (with_reducible refine Kd.C_drew ?_) | exact HR22_0.out)) | (with_reducible refine Kd.C_alloc ?_ _) | (with_reducible refine Kd.C_drewN ?_ _) | (with_reducible refine Kd.C_drew ?_))); (case side2 => exact HC22_0.out); rintro e w36 ⟨v25, rfl, ho0, hb⟩; refine ⟨_, rfl, ?_⟩; have n0_ := Aside0.mk (Kd.N_elder' (by (with_reducible repeat (first | apply Kd.N_alloc | apply Kd.N_drewN | apply Kd.N_drew)); exact HO_7001.out) (Kd.R_base ho0) hb); have n1_ := Aside0.mk (Kd.V_elder' (by (with_reducible repeat (first | apply Kd.V_alloc | apply Kd.V_drewN | apply Kd.V_drew)); exact HL17_0.out) (Kd.R_base ho0) hb); have n2_ := Aside0.mk (Kd.R_elder' (rx_ HO21.out) (Kd.R_base ho0) hb); have n3_ := Aside0.mk (Kd.V_elder' (by (with_reducible repeat (first | apply Kd.V_alloc | apply Kd.V_drewN | apply Kd.V_drew)); exact HL22_0.out) (Kd.R_base ho0) hb); have n4_ := Aside0.mk (Kd.R_lower (Kd.R_new' ho0 (Kd.R_lt (rx_ HO21.out))) (below_size bw_)); have n5_ := bb_ BK6.out hb; have n6_ := Aside0.mk (Kd.C_below (by repeat (first | (with_reducible exact HR8_0.out) | (with_reducible refine Kd.C_alloc ?_ _) | (with_reducible refine Kd.C_drewN ?_ _) | (with_reducible refine Kd.C_drew ?_) | exact HR8_0.out)) hb); have n7_ := Aside0.mk (Kd.C_below (by repeat (first | (with_reducible exact HR17_0.out) | (with_reducible refine Kd.C_alloc ?_ _) | (with_reducible refine Kd.C_drewN ?_ _) | (with_reducible refine Kd.C_drew ?_) | exact HR17_0.out)) hb); have n8_ := Aside0.mk (Kd.C_below (by repeat (first | (with_reducible exact HR22_0.out) | (with_reducible refine Kd.C_alloc ?_ _) | (with_reducible refine Kd.C_drewN ?_ _) | (with_reducible refine Kd.C_drew ?_) | exact HR22_0.out)) hb); have n9_ := bs_ hb; clear HO_7001; clear HL17_0; clear HO21; clear HL22_0; clear BK6; clear HR8_0; clear HR17_0; clear HR22_0; clear HB; have HO_7001 := n0_; have HL17_0 := n1_; have HO21 := n2_; have HL22_0 := n3_; have HO26 := n4_; have BK6 := n5_; have HR8_0 := n6_; have HR17_0 := n7_; have HR22_0 := n8_; have HB := n9_; clear n0_ n1_ n2_ n3_ n4_ n5_ n6_ n7_ n8_ n9_; (try clear hb); (try clear hb2); (try clear hk); (try clear hi); (try clear ho0); obtain ⟨Ao37, co37, eo37⟩ := Kd.R_slice HO26.out; subst eo37) | ((with_reducible refine gate_callee (f := 11) rfl ?_); refine goesL_ (some 82) rfl rfl Tryd.func11 (by kernel_rfl) rfl #[.slice Ao37 t23.length co37] rfl ar_ ?_; (with_reducible refine (impl_WithFences.calls kj15 _ _ t23 t27 t28 _ ?side1 ?side2 A31.out).mono ?_); (case side1 => repeat (first | exact (Kd.R_reads' HO26.out).2.2 | (with_reducible refine Kd.C_alloc ?_ _) | (with_reducible refine Kd.C_drewN ?_ _) | (with_reducible refine Kd.C_drew ?_))); (case side2 => exact (Kd.R_reads' HO26.out).2.1); rintro e w38 ⟨v29, rfl, ho0, hb⟩; refine ⟨_, rfl, ?_⟩; have n0_ := Aside0.mk (Kd.N_elder' (by (with_reducible repeat (first | apply Kd.N_alloc | apply Kd.N_drewN | apply Kd.N_drew)); exact HO_7001.out) (Kd.R_base ho0) hb); have n1_ := Aside0.mk (Kd.V_elder' (by (with_reducible repeat (first | apply Kd.V_alloc | apply Kd.V_drewN | apply Kd.V_drew)); exact HL17_0.out) (Kd.R_base ho0) hb); have n2_ := Aside0.mk (Kd.R_elder' (rx_ HO21.out) (Kd.R_base ho0) hb); have n3_ := Aside0.mk (Kd.V_elder' (by (with_reducible repeat (first | apply Kd.V_alloc | apply Kd.V_drewN | apply Kd.V_drew)); exact HL22_0.out) (Kd.R_base ho0) hb); have n4_ := Aside0.mk (Kd.R_elder' (rx_ HO26.out) (Kd.R_base ho0) hb); have n5_ := Aside0.mk (Kd.R_lower (Kd.R_new' (Kd.R_new' ho0 (Kd.R_lt (rx_ HO21.out))) (Kd.R_lt (rx_ HO26.out))) (below_size bw_)); have n6_ := bb_ BK6.out hb; have n7_ := Aside0.mk (Kd.C_below (by repeat (first | (with_reducible exact HR8_0.out) | (with_reducible refine Kd.C_alloc ?_ _) | (with_reducible refine Kd.C_drewN ?_ _) | (with_reducible refine Kd.C_drew ?_) | exact HR8_0.out)) hb); have n8_ := Aside0.mk (Kd.C_below (by repeat (first | (with_reducible exact HR17_0.out) | (with_reducible refine Kd.C_alloc ?_ _) | (with_reducible refine Kd.C_drewN ?_ _) | (with_reducible refine Kd.C_drew ?_) | exact HR17_0.out)) hb); have n9_ := Aside0.mk (Kd.C_below (by repeat (first | (with_reducible exact HR22_0.out) | (with_reducible refine Kd.C_alloc ?_ _) | (with_reducible refine Kd.C_drewN ?_ _) | (with_reducible refine Kd.C_drew ?_) | exact HR22_0.out)) hb); have n10_ := bs_ hb; clear HO_7001; clear HL17_0; clear HO21; clear HL22_0; clear HO26; clear BK6; clear HR8_0; clear HR17_0; clear HR22_0; clear HB; have HO_7001 := n0_; have HL17_0 := n1_; have HO21 := n2_; have HL22_0 := n3_; have HO26 := n4_; have HO30 := n5_; have BK6 := n6_; have HR8_0 := n7_; have HR17_0 := n8_; have HR22_0 := n9_; have HB := n10_; clear n0_ n1_ n2_ n3_ n4_ n5_ n6_ n7_ n8_ n9_ n10_; (try clear hb); (try clear hb2); (try clear hk); (try clear hi); (try clear ho0)))
     (try simp only [Act.put, List.setIfInBounds_toArray, List.set_cons_zero, List.set_cons_succ])
     go_cut [96] (fun v96 wc => ∃ (kq : Nat) (x96_31 : Bool), v96 = .bool x96_31 ∧ Aside0 (laws_FnCodes.j2 kq x4_1 t23 x96_31 t2 t3 = some r) ∧ Aside0 (kq ≤ kj15) ∧ Aside0 (Kd.R k37 37 wc w.heap.size (fun _ => True) (.slice Ao37 t23.length co37) t23) ∧ Aside0 (Kd.N (Kd.slice 37 k37) 31 wc w.heap.size (fun k_ => some k_ ≠ ((.slice Ao37 t23.length co37) : Value).ownBlock ∧ k_ ≠ gb6) (.slice (some ad8) t3.length co10) t3) ∧ Aside0 (wc.heap[gb6]? = some (.cells #[.int .i64 t2, (.slice (some ad8) t3.length co10)] 26 (0, 0))) ∧ Aside0 (Kd.C k37 wc A8_0 (rd_L4 t3 x4_1).length (rd_L4 t3 x4_1)) ∧ Aside0 (Kd.C k37 wc A17_0 (rd_L4 t3 x4_1).length (rd_L4 t3 x4_1)) ∧ Aside0 (Kd.C k37 wc A22_0 (rd_L4 t3 x4_1).length (rd_L4 t3 x4_1)) ∧ Aside0 (Below w.heap.size w wc))
     case first =>
      have H := HC32.out
      clear HC32
      by_cases c39 : t24 = true
      rotate_left
      ·replace c39 := Bool.eq_false_iff.mpr c39
       subst c39
       have H1 : (laws_FnCodes.j2 kj15 x4_1 t23 true t2 t3) = some r := by rw [if_neg (show ¬ (false = true) by decide)] at H; exact H
       clear H
       have H := H1
       clear H1
       have H' := Aside0.mk H
       clear H
       go_wp2
       go_meet
       case rel => exact ⟨_, (true), sd_, H', ⟨by have := HK1.out; have := HJ15.out; first | omega | exact Nat.le_refl _⟩, ⟨by (with_reducible repeat (first | apply Kd.R_alloc | apply Kd.R_drewN | apply Kd.R_drew)); exact Kd.R_mono HO26.out (fun _ hk => trivial)⟩, ⟨by (with_reducible repeat (first | apply Kd.N_alloc | apply Kd.N_drewN | apply Kd.N_drew)); exact Kd.N_mono HO_7001.out (fun _ hk => ⟨hk.1.2, hk.1.1.1⟩)⟩, ⟨bk_⟩, ⟨by repeat (first | (with_reducible exact HR8_0.out) | (with_reducible refine Kd.C_alloc ?_ _) | (with_reducible refine Kd.C_drewN ?_ _) | (with_reducible refine Kd.C_drew ?_) | exact HR8_0.out)⟩, ⟨by repeat (first | (with_reducible exact HR17_0.out) | (with_reducible refine Kd.C_alloc ?_ _) | (with_reducible refine Kd.C_drewN ?_ _) | (with_reducible refine Kd.C_drew ?_) | exact HR17_0.out)⟩, ⟨by repeat (first | (with_reducible exact HR22_0.out) | (with_reducible refine Kd.C_alloc ?_ _) | (with_reducible refine Kd.C_drewN ?_ _) | (with_reducible refine Kd.C_drew ?_) | exact HR22_0.out)⟩, ⟨bw_⟩⟩
      subst c39
      have H1 : (if t28 = true then ((laws_sameCode.f kj15 t23 t27).bind fun t31 => (laws_FnCodes.j2 kj15 x4_1 t23 (!t31) t2 t3)) else (laws_FnCodes.j2 kj15 x4_1 t23 true t2 t3)) = some r := by rw [if_pos rfl] at H; exact H
      clear H
      have H := H1
      clear H1
      by_cases c40 : t28 = true
      rotate_left
      ·replace c40 := Bool.eq_false_iff.mpr c40
       subst c40
       have H1 : (laws_FnCodes.j2 kj15 x4_1 t23 true t2 t3) = some r := by rw [if_neg (show ¬ (false = true) by decide)] at H; exact H
       clear H
       have H := H1
       clear H1
       have H' := Aside0.mk H
       clear H
       go_wp2
       go_meet
       case rel => exact ⟨_, (true), sd_, H', ⟨by have := HK1.out; have := HJ15.out; first | omega | exact Nat.le_refl _⟩, ⟨by (with_reducible repeat (first | apply Kd.R_alloc | apply Kd.R_drewN | apply Kd.R_drew)); exact Kd.R_mono HO26.out (fun _ hk => trivial)⟩, ⟨by (with_reducible repeat (first | apply Kd.N_alloc | apply Kd.N_drewN | apply Kd.N_drew)); exact Kd.N_mono HO_7001.out (fun _ hk => ⟨hk.1.2, hk.1.1.1⟩)⟩, ⟨bk_⟩, ⟨by repeat (first | (with_reducible exact HR8_0.out) | (with_reducible refine Kd.C_alloc ?_ _) | (with_reducible refine Kd.C_drewN ?_ _) | (with_reducible refine Kd.C_drew ?_) | exact HR8_0.out)⟩, ⟨by repeat (first | (with_reducible exact HR17_0.out) | (with_reducible refine Kd.C_alloc ?_ _) | (with_reducible refine Kd.C_drewN ?_ _) | (with_reducible refine Kd.C_drew ?_) | exact HR17_0.out)⟩, ⟨by repeat (first | (with_reducible exact HR22_0.out) | (with_reducible refine Kd.C_alloc ?_ _) | (with_reducible refine Kd.C_drewN ?_ _) | (with_reducible refine Kd.C_drew ?_) | exact HR22_0.out)⟩, ⟨bw_⟩⟩
      subst c40
      have H1 : ((laws_sameCode.f kj15 t23 t27).bind fun t31 => (laws_FnCodes.j2 kj15 x4_1 t23 (!t31) t2 t3)) = some r := by rw [if_pos rfl] at H; exact H
      clear H
      have H := H1
      clear H1
      replace H := Option.bind_eq_some_iff.mp H
      obtain ⟨t31, A410, H⟩ := H
      replace H : (laws_FnCodes.j2 kj15 x4_1 t23 (!t31) t2 t3) = some r := H
      have A41 := Aside0.mk A410
      clear A410
      have H' := Aside0.mk H
      clear H
      obtain ⟨Ao42, co42, eo42⟩ := Kd.R_slice HO30.out
      subst eo42
      go_wp2_with (first | (go_at_call 9; (with_reducible refine (laws_sameCode.calls kj15 _ _ t23 _ _ t27 t31 _ ?side1 ?side2 ?side3 ?side4 A41.out).mono ?_); (case side1 => repeat (first | exact (Kd.R_reads' HO26.out).2.2 | (with_reducible refine Kd.C_alloc ?_ _) | (with_reducible refine Kd.C_drewN ?_ _) | (with_reducible refine Kd.C_drew ?_))); (case side2 => exact (Kd.R_reads' HO26.out).2.1); (case side3 => repeat (first | exact (Kd.R_reads' HO30.out).2.2 | (with_reducible refine Kd.C_alloc ?_ _) | (with_reducible refine Kd.C_drewN ?_ _) | (with_reducible refine Kd.C_drew ?_))); (case side4 => exact (Kd.R_reads' HO30.out).2.1); rintro e w' ⟨rfl, ⟨nd, rfl⟩⟩))
      go_meet
      case rel => exact ⟨_, (!t31), sd_, H', ⟨by have := HK1.out; have := HJ15.out; first | omega | exact Nat.le_refl _⟩, ⟨by (with_reducible repeat (first | apply Kd.R_alloc | apply Kd.R_drewN | apply Kd.R_drew)); exact Kd.R_mono HO26.out (fun _ hk => trivial)⟩, ⟨by (with_reducible repeat (first | apply Kd.N_alloc | apply Kd.N_drewN | apply Kd.N_drew)); exact Kd.N_mono HO_7001.out (fun _ hk => ⟨hk.1.2, hk.1.1.1⟩)⟩, ⟨bk_⟩, ⟨by repeat (first | (with_reducible exact HR8_0.out) | (with_reducible refine Kd.C_alloc ?_ _) | (with_reducible refine Kd.C_drewN ?_ _) | (with_reducible refine Kd.C_drew ?_) | exact HR8_0.out)⟩, ⟨by repeat (first | (with_reducible exact HR17_0.out) | (with_reducible refine Kd.C_alloc ?_ _) | (with_reducible refine Kd.C_drewN ?_ _) | (with_reducible refine Kd.C_drew ?_) | exact HR17_0.out)⟩, ⟨by repeat (first | (with_reducible exact HR22_0.out) | (with_reducible refine Kd.C_alloc ?_ _) | (with_reducible refine Kd.C_drewN ?_ _) | (with_reducible refine Kd.C_drew ?_) | exact HR22_0.out)⟩, ⟨bw_⟩⟩
     case rest =>
      clear HC32
      try clear c1
      try clear p1
      try clear q1
      try clear hx1
      try clear c2
      try clear p2
      try clear q2
      try clear hx2
      try clear c3
      try clear c4
      try clear c5
      try clear c6
      try clear p6
      try clear c7
      try clear c8
      try clear p8
      try clear q8
      try clear hx8
      try clear c10
      try clear c11
      try clear c12
      try clear c12b0
      try clear c13
      try clear c13b0
      try clear c15
      try clear p15
      try clear q15
      try clear hx15
      try clear c17
      try clear p17
      try clear q17
      try clear hx17
      try clear c20
      try clear c21
      try clear c22
      try clear p22
      try clear q22
      try clear hx22
      try clear c25
      try clear c26
      try clear c26b0
      try clear c27
      try clear c27b0
      try clear c29
      try clear c39
      try clear c40
      try clear hcz17_0 hcz17_1
      try clear hcz23_0 hcz23_1
      try clear hcz33_0 hcz33_1
      try clear hcz35_0 hcz35_1
      try clear hcz9_0 hcz9_1
      try clear hfz17_0 hfz17_1
      try clear hfz23_0 hfz23_1
      try clear hfz33_0 hfz33_1
      try clear hfz35_0 hfz35_1
      try clear hfz9_0 hfz9_1
      try clear hx15_0
      try clear hx17_0
      try clear hx22_0
      try clear hx8_0
      try clear p1
      try clear p15
      try clear p17
      try clear p2
      try clear p22
      try clear p8
      try clear q1
      try clear q15
      try clear q17
      try clear q22
      try clear q8
      obtain ⟨kq, x96_31, rfl, HA, HJ31, HO_11, HO_7001, BK6, HR8_0, HR17_0, HR22_0, HB⟩ := hcut
      cases kq with
      | zero => exact absurd HA.out (by simp [laws_FnCodes.j2])
      | succ kj31 =>
       have H := HA.out
       clear HA
       simp only [laws_FnCodes.j2] at H
       by_cases c43 : x96_31 = true
       ·subst c43
        have H1 : (some false) = some r := by rw [if_pos rfl] at H; exact H
        clear H
        have H := H1
        clear H1
        obtain rfl := Option.some.inj H
        exact absurd hr_ (by decide)
       replace c43 := Bool.eq_false_iff.mpr c43
       subst c43
       have H1 : (laws_FnCodes.l1 kj31 x4_1 t23 0 t2 t3) = some r := by rw [if_neg (show ¬ (false = true) by decide)] at H; exact H
       clear H
       have H := H1
       clear H1
       have H' := Aside0.mk H
       clear H
       go_wp2
       go_loopg [15] kj31 (fun kq v15 w' => ∃ (x15_4 : Int), v15 = .int .i64 x15_4 ∧ Aside0 (laws_FnCodes.l1 kq x4_1 t23 x15_4 t2 t3 = some r) ∧ Aside0 (kq ≤ kj31) ∧ Aside0 (Kd.R k37 37 w' w.heap.size (fun _ => True) (.slice Ao37 t23.length co37) t23) ∧ Aside0 (Kd.N (Kd.slice 37 k37) 31 w' w.heap.size (fun k_ => some k_ ≠ ((.slice Ao37 t23.length co37) : Value).ownBlock ∧ k_ ≠ gb6) (.slice (some ad8) t3.length co10) t3) ∧ Aside0 (w'.heap[gb6]? = some (.cells #[.int .i64 t2, (.slice (some ad8) t3.length co10)] 26 (0, 0))) ∧ Aside0 (Kd.C k37 w' A8_0 (rd_L4 t3 x4_1).length (rd_L4 t3 x4_1)) ∧ Aside0 (Kd.C k37 w' A17_0 (rd_L4 t3 x4_1).length (rd_L4 t3 x4_1)) ∧ Aside0 (Kd.C k37 w' A22_0 (rd_L4 t3 x4_1).length (rd_L4 t3 x4_1)) ∧ Aside0 (Below w.heap.size w w'))
       case atStart => exact ⟨(0), sd_, H', ⟨Nat.le_refl _⟩, ⟨by (with_reducible repeat (first | apply Kd.R_alloc | apply Kd.R_drewN | apply Kd.R_drew)); exact HO_11.out⟩, ⟨by (with_reducible repeat (first | apply Kd.N_alloc | apply Kd.N_drewN | apply Kd.N_drew)); exact HO_7001.out⟩, ⟨bk_⟩, ⟨by repeat (first | (with_reducible exact HR8_0.out) | (with_reducible refine Kd.C_alloc ?_ _) | (with_reducible refine Kd.C_drewN ?_ _) | (with_reducible refine Kd.C_drew ?_) | exact HR8_0.out)⟩, ⟨by repeat (first | (with_reducible exact HR17_0.out) | (with_reducible refine Kd.C_alloc ?_ _) | (with_reducible refine Kd.C_drewN ?_ _) | (with_reducible refine Kd.C_drew ?_) | exact HR17_0.out)⟩, ⟨by repeat (first | (with_reducible exact HR22_0.out) | (with_reducible refine Kd.C_alloc ?_ _) | (with_reducible refine Kd.C_drewN ?_ _) | (with_reducible refine Kd.C_drew ?_) | exact HR22_0.out)⟩, ⟨bw_⟩⟩
       case round =>
        clear H'
        try clear c1
        try clear p1
        try clear q1
        try clear hx1
        try clear c2
        try clear p2
        try clear q2
        try clear hx2
        try clear c3
        try clear c4
        try clear c5
        try clear c6
        try clear p6
        try clear c7
        try clear c8
        try clear p8
        try clear q8
        try clear hx8
        try clear c10
        try clear c11
        try clear c12
        try clear c12b0
        try clear c13
        try clear c13b0
        try clear c15
        try clear p15
        try clear q15
        try clear hx15
        try clear c17
        try clear p17
        try clear q17
        try clear hx17
        try clear c20
        try clear c21
        try clear c22
        try clear p22
        try clear q22
        try clear hx22
        try clear c25
        try clear c26
        try clear c26b0
        try clear c27
        try clear c27b0
        try clear c29
        try clear c39
        try clear c40
        try clear c43
        try clear hcz17_0 hcz17_1
        try clear hcz23_0 hcz23_1
        try clear hcz33_0 hcz33_1
        try clear hcz35_0 hcz35_1
        try clear hcz9_0 hcz9_1
        try clear hfz17_0 hfz17_1
        try clear hfz23_0 hfz23_1
        try clear hfz33_0 hfz33_1
        try clear hfz35_0 hfz35_1
        try clear hfz9_0 hfz9_1
        try clear hx15_0
        try clear hx17_0
        try clear hx22_0
        try clear hx8_0
        try clear p1
        try clear p15
        try clear p17
        try clear p2
        try clear p22
        try clear p6
        try clear p8
        try clear q1
        try clear q15
        try clear q17
        try clear q2
        try clear q22
        try clear q8
        obtain ⟨x15_4, rfl, HA, HK4, HO_11, HO_7001, BK6, HR8_0, HR17_0, HR22_0, HB⟩ := hrel
        cases gk with
        | zero => exact absurd HA.out (by simp [laws_FnCodes.l1])
        | succ k4 =>
         have H := HA.out
         clear HA
         simp only [laws_FnCodes.l1] at H
         by_cases c44 : x15_4 < (t23.length : Int)
         rotate_left
         ·rw [if_neg c44] at H
          have c44b0 : decide (x15_4 < (t23.length : Int)) = false := decide_eq_false c44
          clear c44
          have H' := Aside0.mk H
          clear H
          go_wp2
          go_roundg k4
          case measure => have := HK1.out; have := HJ15.out; have := HJ31.out; have := HK4.out; omega
          case rel => exact ⟨(wrap64 (x4_1 + 1)), sd_, H', ⟨by have := HK1.out; have := HJ15.out; have := HJ31.out; have := HK4.out; omega⟩, ⟨by (with_reducible repeat (first | apply Kd.N_alloc | apply Kd.N_drewN | apply Kd.N_drew)); exact Kd.N_mono HO_7001.out (fun _ hk => hk.2)⟩, ⟨bk_⟩, ⟨bw_⟩⟩
         rw [if_pos c44] at H
         have c44b0 : decide (x15_4 < (t23.length : Int)) = true := decide_eq_true c44
         clear c44
         by_cases c45 : 0 ≤ x15_4
         rotate_left
         ·rw [if_neg c45] at H
          exact absurd H (by simp)
         rw [if_pos c45] at H
         have c45b0 : decide (0 ≤ x15_4) = true := decide_eq_true c45
         clear c45
         by_cases c46 : ((rd_T37 t23 x15_4).f0) = 3
         rotate_left
         ·rw [if_neg c46] at H
          have c46b0 : (((rd_T37 t23 x15_4).f0) == 3) = false := beq_eq_false_iff_ne.mpr c46
          have c46b1 : (((rd_T37 t23 x15_4).f0) != 3) = true := bne_iff_ne.mpr c46
          have H' := Aside0.mk H
          clear H
          have p32 : 0 ≤ (x15_4 : Int) := od_
          have q32 : x15_4 < (t23.length : Int) := od_
          obtain ⟨ad32, e32, hx32_0, hx32_1, hx32_2, hx32_3⟩ := at_T37 (Kd.R_reads' HO_11.out).2.2 x15_4 p32 q32
          cases e32
          replace p32 := eq_true p32
          replace q32 := eq_true q32
          go_wp2
          go_roundg k4
          case measure => have := HK1.out; have := HJ15.out; have := HJ31.out; have := HK4.out; omega
          case rel => exact ⟨(wrap64 (x15_4 + 1)), sd_, H', ⟨by have := HK1.out; have := HJ15.out; have := HJ31.out; have := HK4.out; omega⟩, ⟨by (with_reducible repeat (first | apply Kd.R_alloc | apply Kd.R_drewN | apply Kd.R_drew)); exact HO_11.out⟩, ⟨by (with_reducible repeat (first | apply Kd.N_alloc | apply Kd.N_drewN | apply Kd.N_drew)); exact HO_7001.out⟩, ⟨bk_⟩, ⟨by repeat (first | (with_reducible exact HR8_0.out) | (with_reducible refine Kd.C_alloc ?_ _) | (with_reducible refine Kd.C_drewN ?_ _) | (with_reducible refine Kd.C_drew ?_) | exact HR8_0.out)⟩, ⟨by repeat (first | (with_reducible exact HR17_0.out) | (with_reducible refine Kd.C_alloc ?_ _) | (with_reducible refine Kd.C_drewN ?_ _) | (with_reducible refine Kd.C_drew ?_) | exact HR17_0.out)⟩, ⟨by repeat (first | (with_reducible exact HR22_0.out) | (with_reducible refine Kd.C_alloc ?_ _) | (with_reducible refine Kd.C_drewN ?_ _) | (with_reducible refine Kd.C_drew ?_) | exact HR22_0.out)⟩, ⟨bw_⟩⟩
         rw [if_pos c46] at H
         have c46b0 : (((rd_T37 t23 x15_4).f0) == 3) = true := beq_iff_eq.mpr c46
         have c46b1 : (((rd_T37 t23 x15_4).f0) != 3) = false := bne_eq_false_iff_eq.mpr c46
         clear c46
         by_cases c47 : (wrap64 (x15_4 + 1)) = (t23.length : Int)
         ·rw [if_pos c47] at H
          have c47b0 : ((wrap64 (x15_4 + 1)) == (t23.length : Int)) = true := beq_iff_eq.mpr c47
          have c47b1 : ((wrap64 (x15_4 + 1)) != (t23.length : Int)) = false := bne_eq_false_iff_eq.mpr c47
          clear c47
          obtain rfl := Option.some.inj H
          exact absurd hr_ (by decide)
         rw [if_neg c47] at H
         have c47b0 : ((wrap64 (x15_4 + 1)) == (t23.length : Int)) = false := beq_eq_false_iff_ne.mpr c47
         have c47b1 : ((wrap64 (x15_4 + 1)) != (t23.length : Int)) = true := bne_iff_ne.mpr c47
         obtain ⟨ji48, hji48⟩ : ∃ j_ : Int, (wrap64 (x15_4 + 1)) = j_ := ⟨_, rfl⟩
         replace H : (if 0 ≤ (ji48) then (if (ji48) < (t23.length : Int) then (if ((rd_T37 t23 (ji48)).f0) = 4 then (laws_FnCodes.l1 k4 x4_1 t23 ji48 t2 t3) else (some false)) else (none)) else (none)) = some r := by first | (rw [hji48] at H; exact H) | (simp only [hji48] at H ⊢; exact H)
         (try rw [hji48] at c47b0)
         (try rw [hji48] at c47b1)
         have hji48w : (IntKind.i64.wrap (x15_4 + 1)) = ji48 := (i64_w _).trans hji48
         by_cases c49 : 0 ≤ (ji48)
         rotate_left
         ·rw [if_neg c49] at H
          exact absurd H (by simp)
         rw [if_pos c49] at H
         have c49b0 : decide (0 ≤ (ji48)) = true := decide_eq_true c49
         clear c49
         by_cases c50 : (ji48) < (t23.length : Int)
         rotate_left
         ·rw [if_neg c50] at H
          exact absurd H (by simp)
         rw [if_pos c50] at H
         have c50b0 : decide ((ji48) < (t23.length : Int)) = true := decide_eq_true c50
         clear c50
         by_cases c51 : ((rd_T37 t23 (ji48)).f0) = 4
         rotate_left
         ·rw [if_neg c51] at H
          have c51b0 : (((rd_T37 t23 (ji48)).f0) == 4) = false := beq_eq_false_iff_ne.mpr c51
          have c51b1 : (((rd_T37 t23 (ji48)).f0) != 4) = true := bne_iff_ne.mpr c51
          obtain rfl := Option.some.inj H
          exact absurd hr_ (by decide)
         rw [if_pos c51] at H
         have c51b0 : (((rd_T37 t23 (ji48)).f0) == 4) = true := beq_iff_eq.mpr c51
         have c51b1 : (((rd_T37 t23 (ji48)).f0) != 4) = false := bne_eq_false_iff_eq.mpr c51
         clear c51
         have H' := Aside0.mk H
         clear H
         have p32 : 0 ≤ (x15_4 : Int) := od_
         have q32 : x15_4 < (t23.length : Int) := od_
         obtain ⟨ad32, e32, hx32_0, hx32_1, hx32_2, hx32_3⟩ := at_T37 (Kd.R_reads' HO_11.out).2.2 x15_4 p32 q32
         cases e32
         replace p32 := eq_true p32
         replace q32 := eq_true q32
         have p33 : 0 ≤ ((ji48) : Int) := od_
         have q33 : (ji48) < (t23.length : Int) := od_
         obtain ⟨ad33, e33, hx33_0, hx33_1, hx33_2, hx33_3⟩ := at_T37 (Kd.R_reads' HO_11.out).2.2 (ji48) p33 q33
         obtain rfl : ad32 = ad33 := (by injection e33)
         replace p33 := eq_true p33
         replace q33 := eq_true q33
         go_wp2
         go_roundg k4
         case measure => have := HK1.out; have := HJ15.out; have := HJ31.out; have := HK4.out; omega
         case rel => exact ⟨(ji48), (by first | rfl | (simp; done) | (simp only [← hji48] <;> (first | rfl | simp)) | (simp [*]; done)), H', ⟨by have := HK1.out; have := HJ15.out; have := HJ31.out; have := HK4.out; omega⟩, ⟨by (with_reducible repeat (first | apply Kd.R_alloc | apply Kd.R_drewN | apply Kd.R_drew)); exact HO_11.out⟩, ⟨by (with_reducible repeat (first | apply Kd.N_alloc | apply Kd.N_drewN | apply Kd.N_drew)); exact HO_7001.out⟩, ⟨bk_⟩, ⟨by repeat (first | (with_reducible exact HR8_0.out) | (with_reducible refine Kd.C_alloc ?_ _) | (with_reducible refine Kd.C_drewN ?_ _) | (with_reducible refine Kd.C_drew ?_) | exact HR8_0.out)⟩, ⟨by repeat (first | (with_reducible exact HR17_0.out) | (with_reducible refine Kd.C_alloc ?_ _) | (with_reducible refine Kd.C_drewN ?_ _) | (with_reducible refine Kd.C_drew ?_) | exact HR17_0.out)⟩, ⟨by repeat (first | (with_reducible exact HR22_0.out) | (with_reducible refine Kd.C_alloc ?_ _) | (with_reducible refine Kd.C_drewN ?_ _) | (with_reducible refine Kd.C_drew ?_) | exact HR22_0.out)⟩, ⟨bw_⟩⟩


end Go.Proofs.YtbgclnjnngolmaaDoor.P
