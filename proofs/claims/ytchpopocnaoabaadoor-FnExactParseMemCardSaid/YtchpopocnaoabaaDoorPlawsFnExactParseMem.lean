-- Written by mp.py (the session's own driver over the kit's printer) for the seat YtchpopocnaoabaaDoor.
import Derived.Test.YtchpopocnaoabaaDoorK
import Derived.Test.YtchpopocnaoabaaDoorE
import Derived.Test.YtchpopocnaoabaaDoorPimplParseMem
import Derived.Test.YtchpopocnaoabaaDoorPlawseqIntS
import Derived.Test.YtchpopocnaoabaaDoorPlawsheldMem
import Derived.Test.YtchpopocnaoabaaDoorPspecParseMem
import Derived.Test.YtchpopocnaoabaaDoorEnv
namespace Go.Proofs.YtchpopocnaoabaaDoor.P
open Go.RowKit Go.Proofs.YtchpopocnaoabaaDoorW.PrintWords Go.Proofs.YtchpopocnaoabaaDoorW.PrintLast Go.Proofs.YtchpopocnaoabaaDoorW.PrintMore
attribute [local go_sem] max2_int min2_int max_two min_two max_three min_three max_four min_four
set_option linter.unusedVariables false
set_option linter.unusedSimpArgs false

/-! ### laws_FnExactParseMem: function 14 -/
mutual
def laws_FnExactParseMem.j0 : Nat → ByteArray → Bool → Bool → List Int → List Int → Option (Bool)
 | 0, _, _, _, _, _ => none
 | k + 1, x0, x4, x32, x6000, x11000 => if x32 = true then (some false) else ((laws_markMem.f k x11000 1).bind fun bt12 => ((laws_heldMem.f k bt12.2 1).bind fun t14 => (if t14 < 0 then (some false) else (if t14 = bt12.1 then ((impl_ParseMem.f k x0).bind fun bt15 => ((laws_eqMem.f k bt15.1 x6000).bind fun t20 => (if t20 = true then (laws_FnExactParseMem.j1 k bt12.1 (bt15.2 != x4) bt12.2) else (laws_FnExactParseMem.j1 k bt12.1 true bt12.2)))) else (some false)))))
def laws_FnExactParseMem.j1 : Nat → Int → Bool → List Int → Option (Bool)
 | 0, _, _, _ => none
 | k + 1, x7, x57, x11000 => if x57 = true then (some false) else ((laws_heldMem.f k x11000 1).bind fun t21 => (if t21 < 0 then (some false) else (if t21 = x7 then (some true) else (some false))))
end
def laws_FnExactParseMem.f (k : Nat) (a0 : ByteArray) : Option (Bool) := if (a0.size : Int) > 1048576 then (some true) else ((spec_ParseMem.f k a0).bind fun bt1 => ((impl_ParseMem.f k a0).bind fun bt6 => ((laws_eqMem.f k bt6.1 bt1.1).bind fun t11 => (if t11 = true then (laws_FnExactParseMem.j0 k a0 bt1.2 (bt6.2 != bt1.2) bt1.1 bt6.1) else (laws_FnExactParseMem.j0 k a0 bt1.2 true bt1.1 bt6.1)))))
theorem laws_FnExactParseMem.mono_l : ∀ k, (∀ y0 y1 y2 y3 y4, LeO (laws_FnExactParseMem.j0 k y0 y1 y2 y3 y4) (laws_FnExactParseMem.j0 (k + 1) y0 y1 y2 y3 y4)) ∧ (∀ y0 y1 y2, LeO (laws_FnExactParseMem.j1 k y0 y1 y2) (laws_FnExactParseMem.j1 (k + 1) y0 y1 y2))
 | 0 => ⟨fun _ _ _ _ _ r h => by simp [laws_FnExactParseMem.j0] at h, fun _ _ _ r h => by simp [laws_FnExactParseMem.j1] at h⟩
 | k + 1 => by
  obtain ⟨ih0, ih1⟩ := laws_FnExactParseMem.mono_l k
  refine ⟨?_, ?_⟩
  ·intro y0 y1 y2 y3 y4
   unfold laws_FnExactParseMem.j0
   repeat' first | (with_reducible first | exact ih0 _ _ _ _ _ | exact ih1 _ _ _ | exact impl_ParseMem.mono _ _ | exact laws_eqMem.mono _ _ _ | exact laws_heldMem.mono _ _ _ | exact laws_markMem.mono _ _ _ | exact spec_ParseMem.mono _ _ | exact lr_ | exact ln_ | refine LeO.ite ?_ ?_ | refine LeO.bind ?_ (fun _ => ?_)) | exact ih0 _ _ _ _ _ | exact ih1 _ _ _ | exact impl_ParseMem.mono _ _ | exact laws_eqMem.mono _ _ _ | exact laws_heldMem.mono _ _ _ | exact laws_markMem.mono _ _ _ | exact spec_ParseMem.mono _ _ | exact ln_ | refine LeO.ite ?_ ?_ | refine LeO.bind ?_ (fun _ => ?_)
  ·intro y0 y1 y2
   unfold laws_FnExactParseMem.j1
   repeat' first | (with_reducible first | exact ih0 _ _ _ _ _ | exact ih1 _ _ _ | exact impl_ParseMem.mono _ _ | exact laws_eqMem.mono _ _ _ | exact laws_heldMem.mono _ _ _ | exact laws_markMem.mono _ _ _ | exact spec_ParseMem.mono _ _ | exact lr_ | exact ln_ | refine LeO.ite ?_ ?_ | refine LeO.bind ?_ (fun _ => ?_)) | exact ih0 _ _ _ _ _ | exact ih1 _ _ _ | exact impl_ParseMem.mono _ _ | exact laws_eqMem.mono _ _ _ | exact laws_heldMem.mono _ _ _ | exact laws_markMem.mono _ _ _ | exact spec_ParseMem.mono _ _ | exact ln_ | refine LeO.ite ?_ ?_ | refine LeO.bind ?_ (fun _ => ?_)
theorem laws_FnExactParseMem.mono : ∀ a0 k, LeO (laws_FnExactParseMem.f k a0) (laws_FnExactParseMem.f (k + 1) a0) := by
 intro a0 k
 obtain ⟨ih0, ih1⟩ := laws_FnExactParseMem.mono_l k
 unfold laws_FnExactParseMem.f
 repeat' first | (with_reducible first | exact ih0 _ _ _ _ _ | exact ih1 _ _ _ | exact impl_ParseMem.mono _ _ | exact laws_eqMem.mono _ _ _ | exact laws_heldMem.mono _ _ _ | exact laws_markMem.mono _ _ _ | exact spec_ParseMem.mono _ _ | exact lr_ | exact ln_ | refine LeO.ite ?_ ?_ | refine LeO.bind ?_ (fun _ => ?_)) | exact ih0 _ _ _ _ _ | exact ih1 _ _ _ | exact impl_ParseMem.mono _ _ | exact laws_eqMem.mono _ _ _ | exact laws_heldMem.mono _ _ _ | exact laws_markMem.mono _ _ _ | exact spec_ParseMem.mono _ _ | exact ln_ | refine LeO.ite ?_ ?_ | refine LeO.bind ?_ (fun _ => ?_)
set_option maxHeartbeats 8000000 in
set_option maxRecDepth 100000 in
theorem laws_FnExactParseMem.calls (k : Nat) (a0 : ByteArray) (r : Bool) (w : World) (hE_ : EnvOk true w) (h : laws_FnExactParseMem.f k a0 = some r) (hr_ : r = true) :
  Calls Tryd.prog 14 #[.string a0] w fun e w' => e = .returned (.bool r) ∧ Below w.heap.size w w' := by
 have HE_ := Aside0.mk hE_
 clear hE_
 have hu60 := Tryd.underlying60
 have HB := Aside0.mk (Below.refl w.heap.size w)
 have H : (if (a0.size : Int) > 1048576 then (some true) else ((spec_ParseMem.f k a0).bind fun bt1 => ((impl_ParseMem.f k a0).bind fun bt6 => ((laws_eqMem.f k bt6.1 bt1.1).bind fun t11 => (if t11 = true then (laws_FnExactParseMem.j0 k a0 bt1.2 (bt6.2 != bt1.2) bt1.1 bt6.1) else (laws_FnExactParseMem.j0 k a0 bt1.2 true bt1.1 bt6.1)))))) = some r := h
 clear h
 by_cases c2 : (a0.size : Int) > 1048576
 ·rw [if_pos c2] at H
  have c2b0 : decide (1048576 < (a0.size : Int)) = true := decide_eq_true c2
  have c2b1 : decide (1048576 < a0.size) = true := decide_eq_true (by omega)
  clear c2
  obtain rfl := Option.some.inj H
  clear hr_
  go_enter Tryd.func14, Tryd.ntmps14
  go_wp2
  go_ret
  exact ⟨rr_, bw_⟩
 rw [if_neg c2] at H
 have c2b0 : decide (1048576 < (a0.size : Int)) = false := decide_eq_false c2
 have c2b1 : decide (1048576 < a0.size) = false := decide_eq_false (by omega)
 clear c2
 replace H := Option.bind_eq_some_iff.mp H
 obtain ⟨⟨t1, t4⟩, A30, H⟩ := H
 replace H : ((impl_ParseMem.f k a0).bind fun bt6 => ((laws_eqMem.f k bt6.1 t1).bind fun t11 => (if t11 = true then (laws_FnExactParseMem.j0 k a0 t4 (bt6.2 != t4) t1 bt6.1) else (laws_FnExactParseMem.j0 k a0 t4 true t1 bt6.1)))) = some r := H
 have A3 := Aside0.mk A30
 clear A30
 replace H := Option.bind_eq_some_iff.mp H
 obtain ⟨⟨t6, t9⟩, A40, H⟩ := H
 replace H : ((laws_eqMem.f k t6 t1).bind fun t11 => (if t11 = true then (laws_FnExactParseMem.j0 k a0 t4 (t9 != t4) t1 t6) else (laws_FnExactParseMem.j0 k a0 t4 true t1 t6))) = some r := H
 have A4 := Aside0.mk A40
 clear A40
 have HC5 := Aside0.mk H
 clear H
 go_enter Tryd.func14, Tryd.ntmps14
 go_upto_region 5 with (first | ((with_reducible refine gate_callee (f := 64) rfl ?_); refine goesL_ (some 16) rfl rfl Tryd.func64 (by kernel_rfl) rfl #[.string a0] rfl ar_ ?_; (with_reducible refine (spec_ParseMem.calls k a0 t1 t4 _ A3.out).mono ?_); rintro e w6 ⟨v2, rfl, ho0, hb⟩; refine ⟨_, rfl, ?_⟩; have n0_ := Aside0.mk (Kd.R_lower ho0 (below_size bw_)); have n1_ := bs_ hb; clear HB; have HO3 := n0_; have HB := n1_; clear n0_ n1_; (try clear hb); (try clear hb2); (try clear hk); (try clear hi); (try clear ho0)) | ((with_reducible refine gate_dst (N := 3) rfl ?_); refine box_event ?hg (N := 3) ?hd (cs := #[.slice none 0 0]) (t := 60) ?hr ?_; (case hd => rfl); (case hg => rfl); (case hr => exact hrr_); intro gb5 hg w7 hbox hb; have n0_ := Aside0.mk (Kd.R_below (rx_ HO3.out) hb); have n1_ := bs_ hb; have n2_ := Aside0.mk (hbox); have n3_ := ge_ (w := w) hg; have n4_ := ge_ (w := w) hg; clear HO3; clear HB; have HO3 := n0_; have HB := n1_; have BK5 := n2_; have GW5 := n3_; have GE5 := n4_; clear n0_ n1_ n2_ n3_ n4_; clear hb hbox hg; obtain ⟨Ao8, co8, eo8⟩ := Kd.R_slice HO3.out; subst eo8; obtain ⟨hcz9_0, hfz9_0⟩ := bc1_ BK5.out) | ((with_reducible refine gate_callee (f := 59) rfl ?_); refine goesL_ (some 21) rfl rfl Tryd.func59 (by kernel_rfl) rfl #[.string a0] rfl ar_ ?_; (with_reducible refine (impl_ParseMem.calls (hE_ := ee_) k a0 t6 t9 _ A4.out).mono ?_); rintro e w10 ⟨v7, rfl, ho0, hb⟩; refine ⟨_, rfl, ?_⟩; have n0_ := Aside0.mk (Kd.R_elder' (by (with_reducible repeat (first | apply Kd.R_alloc | apply Kd.R_drewN | apply Kd.R_drew)); exact (Kd.R_mono (Kd.R_far (p := ⟨gb5, 0, none⟩) (Kd.R_types HO3.out BK5.out (by decide)) (fun _ hk => hk.2) (.slice Ao8 t1.length co8)) (fun _ h_ => h_.1))) (Kd.R_base ho0) hb); have n1_ := Aside0.mk (Kd.R_lower (Kd.R_new' ho0 (Kd.R_lt (by (with_reducible repeat (first | apply Kd.R_alloc | apply Kd.R_drewN | apply Kd.R_drew)); exact (Kd.R_mono (Kd.R_far (p := ⟨gb5, 0, none⟩) (Kd.R_types HO3.out BK5.out (by decide)) (fun _ hk => hk.2) (.slice Ao8 t1.length co8)) (fun _ h_ => h_.1))))) (below_size bw_)); have n2_ := Aside0.mk (blk_below (g := gb5) (o := .cells #[.slice Ao8 t1.length co8] 60 (0, 0)) (by (with_reducible repeat (first | refine blk_drewN ?_ _ | refine blk_drew ?_ | refine blk_alloc ?_ _)); refine blk_put (cs := #[.slice none 0 0]) ?_ 0 _ rfl; (with_reducible repeat (first | refine blk_drewN ?_ _ | refine blk_drew ?_ | refine blk_alloc ?_ _)); exact BK5.out) hb); have n3_ := bs_ hb; clear HO3; clear BK5; clear HB; have HO3 := n0_; have HO8 := n1_; have BK5 := n2_; have HB := n3_; clear n0_ n1_ n2_ n3_; (try clear hb); (try clear hb2); (try clear hk); (try clear hi); (try clear ho0)) | ((with_reducible refine gate_dst (N := 5) rfl ?_); refine box_event ?hg (N := 5) ?hd (cs := #[.slice none 0 0]) (t := 60) ?hr ?_; (case hd => rfl); (case hg => rfl); (case hr => exact hrr_); intro gb10 hg w11 hbox hb; have n0_ := Aside0.mk (Kd.R_below (rx_ HO3.out) hb); have n1_ := Aside0.mk (Kd.R_below (rx_ HO8.out) hb); have n2_ := bb_ BK5.out hb; have n3_ := bs_ hb; have n4_ := Aside0.mk (hbox); have n5_ := ge_ (w := w) hg; have n6_ := ge_ (w := w) hg; have n7_ := nl_ BK5.out hg; have n8_ := nr_ BK5.out hg; clear HO3; clear HO8; clear BK5; clear HB; have HO3 := n0_; have HO8 := n1_; have BK5 := n2_; have HB := n3_; have BK10 := n4_; have GW10 := n5_; have GE10 := n6_; have NB5_10 := n7_; have NB10_5 := n8_; clear n0_ n1_ n2_ n3_ n4_ n5_ n6_ n7_ n8_; clear hb hbox hg; obtain ⟨Ao12, co12, eo12⟩ := Kd.R_slice HO8.out; subst eo12; have hnb13 := NB10_5.out; have hnc13 := NB5_10.out; obtain ⟨hcz14_0, hfz14_0⟩ := bc1_ BK10.out))
 (try simp only [Act.put, List.setIfInBounds_toArray, List.set_cons_zero, List.set_cons_succ])
 go_cut [32] (fun v32 wc => ∃ (kq : Nat) (x32_4 : Bool), v32 = .bool x32_4 ∧ Aside0 (laws_FnExactParseMem.j0 kq a0 t4 x32_4 t1 t6 = some r) ∧ Aside0 (kq ≤ k) ∧ Aside0 (Kd.R (Kd.int .i64) 3 wc w.heap.size (fun k_ => some k_ ≠ ((.slice Ao12 t6.length co12) : Value).ownBlock) (.slice Ao8 t1.length co8) t1) ∧ Aside0 (Kd.R (Kd.int .i64) 3 wc w.heap.size (fun k_ => some k_ ≠ ((.slice Ao8 t1.length co8) : Value).ownBlock) (.slice Ao12 t6.length co12) t6) ∧ Aside0 (wc.heap[gb5]? = some (.cells #[(.slice Ao8 t1.length co8)] 60 (0, 0))) ∧ Aside0 (wc.heap[gb10]? = some (.cells #[(.slice Ao12 t6.length co12)] 60 (0, 0))) ∧ Aside0 (Below w.heap.size w wc))
 case first =>
  have H := HC5.out
  clear HC5
  replace H := Option.bind_eq_some_iff.mp H
  obtain ⟨t11, A150, H⟩ := H
  replace H : (if t11 = true then (laws_FnExactParseMem.j0 k a0 t4 (t9 != t4) t1 t6) else (laws_FnExactParseMem.j0 k a0 t4 true t1 t6)) = some r := H
  have A15 := Aside0.mk A150
  clear A150
  by_cases c16 : t11 = true
  ·subst c16
   have H1 : (laws_FnExactParseMem.j0 k a0 t4 (t9 != t4) t1 t6) = some r := by rw [if_pos rfl] at H; exact H
   clear H
   have H := H1
   clear H1
   have H' := Aside0.mk H
   clear H
   have hnb17 := NB10_5.out
   have hnc17 := NB5_10.out
   obtain ⟨hcz18_0, hfz18_0⟩ := bc1_ BK10.out
   obtain ⟨hcz19_0, hfz19_0⟩ := bc1_ BK5.out
   go_wp2_with (first | ((with_reducible refine gate_callee (f := 41) rfl ?_); refine goesL_ (some 26) rfl rfl Tryd.func41 (by kernel_rfl) rfl #[.agg #[.slice Ao12 t6.length co12], .agg #[.slice Ao8 t1.length co8]] rfl ar_ ?_; (with_reducible refine (laws_eqMem.calls k _ _ t6 _ _ t1 true _ ?side1 ?side2 ?side3 ?side4 A15.out).mono ?_); (case side1 => refine (Kd.R_reads' (e := 3) (base := w.heap.size) (ok := fun k_ => (True ∧ some k_ ≠ (.slice Ao8 t1.length co8 : Value).ownBlock)) (n := t6.length) (c := co12) ?_).2.2; exact (by (with_reducible repeat (first | apply Kd.R_alloc | apply Kd.R_drewN | apply Kd.R_drew)); exact (Kd.R_mono (Kd.R_far (p := ⟨gb10, 0, none⟩) (Kd.R_types HO8.out BK10.out (by decide)) (fun _ hk => hk.2) (.slice Ao12 t6.length co12)) (fun _ h_ => h_.1)))); (case side2 => exact (Kd.R_reads' HO8.out).2.1); (case side3 => refine (Kd.R_reads' (e := 3) (base := w.heap.size) (ok := fun k_ => (True ∧ some k_ ≠ (.slice Ao12 t6.length co12 : Value).ownBlock)) (n := t1.length) (c := co8) ?_).2.2; exact (by (with_reducible repeat (first | apply Kd.R_alloc | apply Kd.R_drewN | apply Kd.R_drew)); exact (Kd.R_mono (Kd.R_far (p := ⟨gb10, 0, none⟩) (Kd.R_types HO3.out BK10.out (by decide)) (fun _ hk => hk.2) (.slice Ao12 t6.length co12)) (fun _ h_ => h_.1)))); (case side4 => exact (Kd.R_reads' HO3.out).2.1); rintro e w20 ⟨rfl, hb⟩; refine ⟨_, rfl, ?_⟩; have n0_ := Aside0.mk (Kd.R_below (by (with_reducible repeat (first | apply Kd.R_alloc | apply Kd.R_drewN | apply Kd.R_drew)); exact (Kd.R_mono (Kd.R_far (p := ⟨gb10, 0, none⟩) (Kd.R_types HO3.out BK10.out (by decide)) (fun _ hk => hk.2) (.slice Ao12 t6.length co12)) (fun _ h_ => h_.1))) hb); have n1_ := Aside0.mk (Kd.R_below (by (with_reducible repeat (first | apply Kd.R_alloc | apply Kd.R_drewN | apply Kd.R_drew)); exact (Kd.R_mono (Kd.R_far (p := ⟨gb10, 0, none⟩) (Kd.R_types HO8.out BK10.out (by decide)) (fun _ hk => hk.2) (.slice Ao12 t6.length co12)) (fun _ h_ => h_.1))) hb); have n2_ := Aside0.mk (blk_below (g := gb5) (o := .cells #[.slice Ao8 t1.length co8] 60 (0, 0)) (by (with_reducible repeat (first | refine blk_drewN ?_ _ | refine blk_drew ?_ | refine blk_alloc ?_ _)); refine blk_far ?_ NB5_10.out _; (with_reducible repeat (first | refine blk_drewN ?_ _ | refine blk_drew ?_ | refine blk_alloc ?_ _)); exact BK5.out) hb); have n3_ := Aside0.mk (blk_below (g := gb10) (o := .cells #[.slice Ao12 t6.length co12] 60 (0, 0)) (by (with_reducible repeat (first | refine blk_drewN ?_ _ | refine blk_drew ?_ | refine blk_alloc ?_ _)); refine blk_put (cs := #[.slice none 0 0]) ?_ 0 _ rfl; (with_reducible repeat (first | refine blk_drewN ?_ _ | refine blk_drew ?_ | refine blk_alloc ?_ _)); exact BK10.out) hb); have n4_ := bs_ hb; clear HO3; clear HO8; clear BK5; clear BK10; clear HB; have HO3 := n0_; have HO8 := n1_; have BK5 := n2_; have BK10 := n3_; have HB := n4_; clear n0_ n1_ n2_ n3_ n4_; (try clear hb); (try clear hb2); (try clear hk); (try clear hi)))
   go_meet
   case rel => exact ⟨_, ((t9 != t4)), sd_, H', ⟨by first | omega | exact Nat.le_refl _⟩, ⟨by (with_reducible repeat (first | apply Kd.R_alloc | apply Kd.R_drewN | apply Kd.R_drew)); exact Kd.R_mono HO3.out (fun _ hk => hk.2)⟩, ⟨by (with_reducible repeat (first | apply Kd.R_alloc | apply Kd.R_drewN | apply Kd.R_drew)); exact Kd.R_mono HO8.out (fun _ hk => hk.2)⟩, ⟨bk_⟩, ⟨bk_⟩, ⟨bw_⟩⟩
  replace c16 := Bool.eq_false_iff.mpr c16
  subst c16
  have H1 : (laws_FnExactParseMem.j0 k a0 t4 true t1 t6) = some r := by rw [if_neg (show ¬ (false = true) by decide)] at H; exact H
  clear H
  have H := H1
  clear H1
  have H' := Aside0.mk H
  clear H
  have hnb21 := NB10_5.out
  have hnc21 := NB5_10.out
  obtain ⟨hcz22_0, hfz22_0⟩ := bc1_ BK10.out
  obtain ⟨hcz23_0, hfz23_0⟩ := bc1_ BK5.out
  go_wp2_with (first | ((with_reducible refine gate_callee (f := 41) rfl ?_); refine goesL_ (some 26) rfl rfl Tryd.func41 (by kernel_rfl) rfl #[.agg #[.slice Ao12 t6.length co12], .agg #[.slice Ao8 t1.length co8]] rfl ar_ ?_; (with_reducible refine (laws_eqMem.calls k _ _ t6 _ _ t1 false _ ?side1 ?side2 ?side3 ?side4 A15.out).mono ?_); (case side1 => refine (Kd.R_reads' (e := 3) (base := w.heap.size) (ok := fun k_ => (True ∧ some k_ ≠ (.slice Ao8 t1.length co8 : Value).ownBlock)) (n := t6.length) (c := co12) ?_).2.2; exact (by (with_reducible repeat (first | apply Kd.R_alloc | apply Kd.R_drewN | apply Kd.R_drew)); exact (Kd.R_mono (Kd.R_far (p := ⟨gb10, 0, none⟩) (Kd.R_types HO8.out BK10.out (by decide)) (fun _ hk => hk.2) (.slice Ao12 t6.length co12)) (fun _ h_ => h_.1)))); (case side2 => exact (Kd.R_reads' HO8.out).2.1); (case side3 => refine (Kd.R_reads' (e := 3) (base := w.heap.size) (ok := fun k_ => (True ∧ some k_ ≠ (.slice Ao12 t6.length co12 : Value).ownBlock)) (n := t1.length) (c := co8) ?_).2.2; exact (by (with_reducible repeat (first | apply Kd.R_alloc | apply Kd.R_drewN | apply Kd.R_drew)); exact (Kd.R_mono (Kd.R_far (p := ⟨gb10, 0, none⟩) (Kd.R_types HO3.out BK10.out (by decide)) (fun _ hk => hk.2) (.slice Ao12 t6.length co12)) (fun _ h_ => h_.1)))); (case side4 => exact (Kd.R_reads' HO3.out).2.1); rintro e w24 ⟨rfl, hb⟩; refine ⟨_, rfl, ?_⟩; have n0_ := Aside0.mk (Kd.R_below (by (with_reducible repeat (first | apply Kd.R_alloc | apply Kd.R_drewN | apply Kd.R_drew)); exact (Kd.R_mono (Kd.R_far (p := ⟨gb10, 0, none⟩) (Kd.R_types HO3.out BK10.out (by decide)) (fun _ hk => hk.2) (.slice Ao12 t6.length co12)) (fun _ h_ => h_.1))) hb); have n1_ := Aside0.mk (Kd.R_below (by (with_reducible repeat (first | apply Kd.R_alloc | apply Kd.R_drewN | apply Kd.R_drew)); exact (Kd.R_mono (Kd.R_far (p := ⟨gb10, 0, none⟩) (Kd.R_types HO8.out BK10.out (by decide)) (fun _ hk => hk.2) (.slice Ao12 t6.length co12)) (fun _ h_ => h_.1))) hb); have n2_ := Aside0.mk (blk_below (g := gb5) (o := .cells #[.slice Ao8 t1.length co8] 60 (0, 0)) (by (with_reducible repeat (first | refine blk_drewN ?_ _ | refine blk_drew ?_ | refine blk_alloc ?_ _)); refine blk_far ?_ NB5_10.out _; (with_reducible repeat (first | refine blk_drewN ?_ _ | refine blk_drew ?_ | refine blk_alloc ?_ _)); exact BK5.out) hb); have n3_ := Aside0.mk (blk_below (g := gb10) (o := .cells #[.slice Ao12 t6.length co12] 60 (0, 0)) (by (with_reducible repeat (first | refine blk_drewN ?_ _ | refine blk_drew ?_ | refine blk_alloc ?_ _)); refine blk_put (cs := #[.slice none 0 0]) ?_ 0 _ rfl; (with_reducible repeat (first | refine blk_drewN ?_ _ | refine blk_drew ?_ | refine blk_alloc ?_ _)); exact BK10.out) hb); have n4_ := bs_ hb; clear HO3; clear HO8; clear BK5; clear BK10; clear HB; have HO3 := n0_; have HO8 := n1_; have BK5 := n2_; have BK10 := n3_; have HB := n4_; clear n0_ n1_ n2_ n3_ n4_; (try clear hb); (try clear hb2); (try clear hk); (try clear hi)))
  go_meet
  case rel => exact ⟨_, (true), sd_, H', ⟨by first | omega | exact Nat.le_refl _⟩, ⟨by (with_reducible repeat (first | apply Kd.R_alloc | apply Kd.R_drewN | apply Kd.R_drew)); exact Kd.R_mono HO3.out (fun _ hk => hk.2)⟩, ⟨by (with_reducible repeat (first | apply Kd.R_alloc | apply Kd.R_drewN | apply Kd.R_drew)); exact Kd.R_mono HO8.out (fun _ hk => hk.2)⟩, ⟨bk_⟩, ⟨bk_⟩, ⟨bw_⟩⟩
 case rest =>
  clear HC5
  try clear c1
  try clear c2
  try clear c2b0
  try clear c2b1
  try clear p2
  try clear c4
  try clear c5
  try clear c6
  try clear c13
  try clear c14
  try clear c16
  try clear c17
  try clear c21
  try clear hcz14_0
  try clear hcz18_0
  try clear hcz19_0
  try clear hcz22_0
  try clear hcz23_0
  try clear hcz9_0
  try clear hfz14_0
  try clear hfz18_0
  try clear hfz19_0
  try clear hfz22_0
  try clear hfz23_0
  try clear hfz9_0
  obtain ⟨kq, x32_4, rfl, HA, HJ4, HO_6000, HO_11000, BK5, BK10, HB⟩ := hcut
  cases kq with
  | zero => exact absurd HA.out (by simp [laws_FnExactParseMem.j0])
  | succ kj4 =>
   have H := HA.out
   clear HA
   simp only [laws_FnExactParseMem.j0] at H
   by_cases c25 : x32_4 = true
   ·subst c25
    have H1 : (some false) = some r := by rw [if_pos rfl] at H; exact H
    clear H
    have H := H1
    clear H1
    obtain rfl := Option.some.inj H
    exact absurd hr_ (by decide)
   replace c25 := Bool.eq_false_iff.mpr c25
   subst c25
   have H1 : ((laws_markMem.f kj4 t6 1).bind fun bt12 => ((laws_heldMem.f kj4 bt12.2 1).bind fun t14 => (if t14 < 0 then (some false) else (if t14 = bt12.1 then ((impl_ParseMem.f kj4 a0).bind fun bt15 => ((laws_eqMem.f kj4 bt15.1 t1).bind fun t20 => (if t20 = true then (laws_FnExactParseMem.j1 kj4 bt12.1 (bt15.2 != t4) bt12.2) else (laws_FnExactParseMem.j1 kj4 bt12.1 true bt12.2)))) else (some false))))) = some r := by rw [if_neg (show ¬ (false = true) by decide)] at H; exact H
   clear H
   have H := H1
   clear H1
   replace H := Option.bind_eq_some_iff.mp H
   obtain ⟨⟨t12, t13⟩, A260, H⟩ := H
   replace H : ((laws_heldMem.f kj4 t13 1).bind fun t14 => (if t14 < 0 then (some false) else (if t14 = t12 then ((impl_ParseMem.f kj4 a0).bind fun bt15 => ((laws_eqMem.f kj4 bt15.1 t1).bind fun t20 => (if t20 = true then (laws_FnExactParseMem.j1 kj4 t12 (bt15.2 != t4) t13) else (laws_FnExactParseMem.j1 kj4 t12 true t13)))) else (some false)))) = some r := H
   have A26 := Aside0.mk A260
   clear A260
   replace H := Option.bind_eq_some_iff.mp H
   obtain ⟨t14, A270, H⟩ := H
   replace H : (if t14 < 0 then (some false) else (if t14 = t12 then ((impl_ParseMem.f kj4 a0).bind fun bt15 => ((laws_eqMem.f kj4 bt15.1 t1).bind fun t20 => (if t20 = true then (laws_FnExactParseMem.j1 kj4 t12 (bt15.2 != t4) t13) else (laws_FnExactParseMem.j1 kj4 t12 true t13)))) else (some false))) = some r := H
   have A27 := Aside0.mk A270
   clear A270
   by_cases c28 : t14 < 0
   ·rw [if_pos c28] at H
    have c28b0 : decide (t14 < 0) = true := decide_eq_true c28
    clear c28
    obtain rfl := Option.some.inj H
    exact absurd hr_ (by decide)
   rw [if_neg c28] at H
   have c28b0 : decide (t14 < 0) = false := decide_eq_false c28
   clear c28
   by_cases c34 : t14 = t12
   rotate_left
   ·rw [if_neg c34] at H
    have c34b0 : (t14 == t12) = false := beq_eq_false_iff_ne.mpr c34
    have c34b1 : (t14 != t12) = true := bne_iff_ne.mpr c34
    obtain rfl := Option.some.inj H
    exact absurd hr_ (by decide)
   rw [if_pos c34] at H
   have c34b0 : (t14 == t12) = true := beq_iff_eq.mpr c34
   have c34b1 : (t14 != t12) = false := bne_eq_false_iff_eq.mpr c34
   clear c34
   replace H := Option.bind_eq_some_iff.mp H
   obtain ⟨⟨t15, t18⟩, A350, H⟩ := H
   replace H : ((laws_eqMem.f kj4 t15 t1).bind fun t20 => (if t20 = true then (laws_FnExactParseMem.j1 kj4 t12 (t18 != t4) t13) else (laws_FnExactParseMem.j1 kj4 t12 true t13))) = some r := H
   have A35 := Aside0.mk A350
   clear A350
   have HC36 := Aside0.mk H
   clear H
   have hnb37 := NB10_5.out
   have hnc37 := NB5_10.out
   obtain ⟨hcz38_0, hfz38_0⟩ := bc1_ BK10.out
   go_upto_region 16 with (first | ((with_reducible refine gate_callee (f := 65) rfl ?_); refine goesL_ (some 35) rfl rfl Tryd.func65 (by kernel_rfl) rfl #[.agg #[.slice Ao12 t6.length co12], .int .i64 1] rfl ar_ ?_; (with_reducible refine (laws_markMem.calls kj4 (fun k_ => some k_ = (.slice Ao12 t6.length co12 : Value).ownBlock) (.slice Ao12 t6.length co12) t6 1 t12 t13 w _ ?side1 ?side2 A26.out).mono ?_); (case side1 => repeat (first | (with_reducible first | exact HB.out | apply below_alloc | apply pw_below_drewN | apply below_drew1 | refine below_set ?_ GE5.out | refine below_set ?_ GE10.out) | exact HB.out)); (case side2 => exact Kd.R_tight rfl HO_11000.out); rintro e w39 ⟨rfl, hy0, hb, hkp⟩; refine ⟨_, rfl, ?_⟩; have n0_ := Aside0.mk (Kd.R_mono (ok' := fun k_ => some k_ ≠ (.slice Ao12 t6.length co12 : Value).ownBlock) (Kd.R_keptB (HO_6000.out) hkp (fun k_ hk_ hs_ => (hk_) hs_)) (fun k_ hk_ => hk_.1)); have n1_ := Aside0.mk (Kd.R_reok rfl hy0 (fun k_ e_ => HO_11000.out.1 k_ e_)); have n2_ := Aside0.mk (blk_kept bk_ hkp (fun hs_ => (fun e_ => (Kd.R_ne HO_11000.out BK5.out (by decide)) e_) hs_)); have n3_ := Aside0.mk (blk_kept bk_ hkp (fun hs_ => (fun e_ => (Kd.R_ne HO_11000.out BK10.out (by decide)) e_) hs_)); have n4_ := Aside0.mk (hb); clear HO_6000; clear HO_11000; clear BK5; clear BK10; clear HB; have HO_6000 := n0_; have HO_11000 := n1_; have BK5 := n2_; have BK10 := n3_; have HB := n4_; clear n0_ n1_ n2_ n3_ n4_; (try clear hb); (try clear hkp); (try clear hy0); obtain ⟨hcz40_0, hfz40_0⟩ := bc1_ BK10.out) | ((with_reducible refine gate_callee (f := 66) rfl ?_); refine goesL_ (some 38) rfl rfl Tryd.func66 (by kernel_rfl) rfl #[.agg #[.slice Ao12 t13.length co12], .int .i64 1] rfl (by (try simp only [List.map_toArray, List.map_cons, List.map_nil]); first | done | (rw [show t13.length = t6.length from (Kd.R_reads' HO_11000.out).1.symm] <;> rfl) | rfl | (simp only [List.length_drop, List.length_take]; rfl)) ?_; (with_reducible refine (laws_heldMem.calls kj4 _ _ t13 1 t14 _ ?side1 ?side2 A27.out).mono ?_); (case side1 => repeat (first | exact (Kd.R_reads' HO_11000.out).2.2 | (with_reducible refine Kd.C_alloc ?_ _) | (with_reducible refine Kd.C_drewN ?_ _) | (with_reducible refine Kd.C_drew ?_))); (case side2 => rw [show t13.length = t6.length from (Kd.R_reads' HO_11000.out).1.symm]; exact (Kd.R_reads' HO_11000.out).2.1); rintro e w41 ⟨rfl, hb⟩; refine ⟨_, rfl, ?_⟩; have n0_ := Aside0.mk (Kd.R_below (rx_ HO_6000.out) hb); have n1_ := Aside0.mk (Kd.R_below (rx_ HO_11000.out) hb); have n2_ := bb_ BK5.out hb; have n3_ := bb_ BK10.out hb; have n4_ := bs_ hb; clear HO_6000; clear HO_11000; clear BK5; clear BK10; clear HB; have HO_6000 := n0_; have HO_11000 := n1_; have BK5 := n2_; have BK10 := n3_; have HB := n4_; clear n0_ n1_ n2_ n3_ n4_; (try clear hb); (try clear hb2); (try clear hk); (try clear hi)) | ((with_reducible refine gate_callee (f := 59) rfl ?_); refine goesL_ (some 46) rfl rfl Tryd.func59 (by kernel_rfl) rfl #[.string a0] rfl ar_ ?_; (with_reducible refine (impl_ParseMem.calls (hE_ := ee_) kj4 a0 t15 t18 _ A35.out).mono ?_); rintro e w42 ⟨v16, rfl, ho0, hb⟩; refine ⟨_, rfl, ?_⟩; have n0_ := Aside0.mk (Kd.R_elder' (rx_ HO_6000.out) (Kd.R_base ho0) hb); have n1_ := Aside0.mk (Kd.R_elder' (rx_ HO_11000.out) (Kd.R_base ho0) hb); have n2_ := Aside0.mk (Kd.R_lower (Kd.R_new' (Kd.R_new' ho0 (Kd.R_lt (rx_ HO_6000.out))) (Kd.R_lt (rx_ HO_11000.out))) (below_size bw_)); have n3_ := bb_ BK5.out hb; have n4_ := bb_ BK10.out hb; have n5_ := bs_ hb; clear HO_6000; clear HO_11000; clear BK5; clear BK10; clear HB; have HO_6000 := n0_; have HO_11000 := n1_; have HO17 := n2_; have BK5 := n3_; have BK10 := n4_; have HB := n5_; clear n0_ n1_ n2_ n3_ n4_ n5_; (try clear hb); (try clear hb2); (try clear hk); (try clear hi); (try clear ho0)) | ((with_reducible refine gate_dst (N := 9) rfl ?_); refine box_event ?hg (N := 9) ?hd (cs := #[.slice none 0 0]) (t := 60) ?hr ?_; (case hd => rfl); (case hg => rfl); (case hr => exact hrr_); intro gb19 hg w43 hbox hb; have n0_ := Aside0.mk (Kd.R_below (rx_ HO_6000.out) hb); have n1_ := Aside0.mk (Kd.R_below (rx_ HO_11000.out) hb); have n2_ := Aside0.mk (Kd.R_below (rx_ HO17.out) hb); have n3_ := bb_ BK5.out hb; have n4_ := bb_ BK10.out hb; have n5_ := bs_ hb; have n6_ := Aside0.mk (hbox); have n7_ := ge_ (w := w) hg; have n8_ := ge_ (w := w) hg; have n9_ := nl_ BK5.out hg; have n10_ := nr_ BK5.out hg; have n11_ := nl_ BK10.out hg; have n12_ := nr_ BK10.out hg; clear HO_6000; clear HO_11000; clear HO17; clear BK5; clear BK10; clear HB; have HO_6000 := n0_; have HO_11000 := n1_; have HO17 := n2_; have BK5 := n3_; have BK10 := n4_; have HB := n5_; have BK19 := n6_; have GW19 := n7_; have GE19 := n8_; have NB5_19 := n9_; have NB19_5 := n10_; have NB10_19 := n11_; have NB19_10 := n12_; clear n0_ n1_ n2_ n3_ n4_ n5_ n6_ n7_ n8_ n9_ n10_ n11_ n12_; clear hb hbox hg; obtain ⟨Ao44, co44, eo44⟩ := Kd.R_slice HO17.out; subst eo44; have hnb45 := NB19_5.out; have hnc45 := NB5_19.out; have hnb46 := NB19_10.out; have hnc46 := NB10_19.out; obtain ⟨hcz47_0, hfz47_0⟩ := bc1_ BK19.out))
   (try simp only [Act.put, List.setIfInBounds_toArray, List.set_cons_zero, List.set_cons_succ])
   go_cut [57] (fun v57 wc => ∃ (kq : Nat) (x57_35 : Bool), v57 = .bool x57_35 ∧ Aside0 (laws_FnExactParseMem.j1 kq t12 x57_35 t13 = some r) ∧ Aside0 (kq ≤ kj4) ∧ Aside0 (Kd.R (Kd.int .i64) 3 wc w.heap.size (fun k_ => some k_ ≠ ((.slice Ao12 t6.length co12) : Value).ownBlock ∧ some k_ ≠ ((.slice Ao44 t15.length co44) : Value).ownBlock) (.slice Ao8 t1.length co8) t1) ∧ Aside0 (Kd.R (Kd.int .i64) 3 wc w.heap.size (fun k_ => some k_ ≠ ((.slice Ao8 t1.length co8) : Value).ownBlock ∧ some k_ ≠ ((.slice Ao44 t15.length co44) : Value).ownBlock) (.slice Ao12 t6.length co12) t13) ∧ Aside0 (Kd.R (Kd.int .i64) 3 wc w.heap.size (fun k_ => some k_ ≠ ((.slice Ao8 t1.length co8) : Value).ownBlock ∧ some k_ ≠ ((.slice Ao12 t6.length co12) : Value).ownBlock) (.slice Ao44 t15.length co44) t15) ∧ Aside0 (wc.heap[gb5]? = some (.cells #[(.slice Ao8 t1.length co8)] 60 (0, 0))) ∧ Aside0 (wc.heap[gb10]? = some (.cells #[(.slice Ao12 t6.length co12)] 60 (0, 0))) ∧ Aside0 (wc.heap[gb19]? = some (.cells #[(.slice Ao44 t15.length co44)] 60 (0, 0))) ∧ Aside0 (Below w.heap.size w wc))
   case first =>
    have H := HC36.out
    clear HC36
    replace H := Option.bind_eq_some_iff.mp H
    obtain ⟨t20, A480, H⟩ := H
    replace H : (if t20 = true then (laws_FnExactParseMem.j1 kj4 t12 (t18 != t4) t13) else (laws_FnExactParseMem.j1 kj4 t12 true t13)) = some r := H
    have A48 := Aside0.mk A480
    clear A480
    by_cases c49 : t20 = true
    ·subst c49
     have H1 : (laws_FnExactParseMem.j1 kj4 t12 (t18 != t4) t13) = some r := by rw [if_pos rfl] at H; exact H
     clear H
     have H := H1
     clear H1
     have H' := Aside0.mk H
     clear H
     have hnb50 := NB19_5.out
     have hnc50 := NB5_19.out
     have hnb51 := NB19_10.out
     have hnc51 := NB10_19.out
     obtain ⟨hcz52_0, hfz52_0⟩ := bc1_ BK19.out
     have hnb53 := NB5_10.out
     have hnc53 := NB10_5.out
     obtain ⟨hcz54_0, hfz54_0⟩ := bc1_ BK5.out
     go_wp2_with (first | ((with_reducible refine gate_callee (f := 41) rfl ?_); refine goesL_ (some 51) rfl rfl Tryd.func41 (by kernel_rfl) rfl #[.agg #[.slice Ao44 t15.length co44], .agg #[.slice Ao8 t1.length co8]] rfl ar_ ?_; (with_reducible refine (laws_eqMem.calls kj4 _ _ t15 _ _ t1 true _ ?side1 ?side2 ?side3 ?side4 A48.out).mono ?_); (case side1 => refine (Kd.R_reads' (e := 3) (base := w.heap.size) (ok := fun k_ => ((True ∧ some k_ ≠ (.slice Ao8 t1.length co8 : Value).ownBlock) ∧ some k_ ≠ (.slice Ao12 t6.length co12 : Value).ownBlock)) (n := t15.length) (c := co44) ?_).2.2; exact (by (with_reducible repeat (first | apply Kd.R_alloc | apply Kd.R_drewN | apply Kd.R_drew)); exact (Kd.R_mono (Kd.R_far (p := ⟨gb19, 0, none⟩) (Kd.R_types HO17.out BK19.out (by decide)) (fun _ hk => hk.2) (.slice Ao44 t15.length co44)) (fun _ h_ => h_.1)))); (case side2 => exact (Kd.R_reads' HO17.out).2.1); (case side3 => refine (Kd.R_reads' (e := 3) (base := w.heap.size) (ok := fun k_ => (some k_ ≠ (.slice Ao12 t6.length co12 : Value).ownBlock ∧ some k_ ≠ (.slice Ao44 t15.length co44 : Value).ownBlock)) (n := t1.length) (c := co8) ?_).2.2; exact (by (with_reducible repeat (first | apply Kd.R_alloc | apply Kd.R_drewN | apply Kd.R_drew)); exact (Kd.R_mono (Kd.R_far (p := ⟨gb19, 0, none⟩) (Kd.R_types HO_6000.out BK19.out (by decide)) (fun _ hk => hk.2) (.slice Ao44 t15.length co44)) (fun _ h_ => h_.1)))); (case side4 => exact (Kd.R_reads' HO_6000.out).2.1); rintro e w55 ⟨rfl, hb⟩; refine ⟨_, rfl, ?_⟩; have n0_ := Aside0.mk (Kd.R_below (by (with_reducible repeat (first | apply Kd.R_alloc | apply Kd.R_drewN | apply Kd.R_drew)); exact (Kd.R_mono (Kd.R_far (p := ⟨gb19, 0, none⟩) (Kd.R_types HO_6000.out BK19.out (by decide)) (fun _ hk => hk.2) (.slice Ao44 t15.length co44)) (fun _ h_ => h_.1))) hb); have n1_ := Aside0.mk (Kd.R_below (by (with_reducible repeat (first | apply Kd.R_alloc | apply Kd.R_drewN | apply Kd.R_drew)); exact (Kd.R_mono (Kd.R_far (p := ⟨gb19, 0, none⟩) (Kd.R_types HO_11000.out BK19.out (by decide)) (fun _ hk => hk.2) (.slice Ao44 t15.length co44)) (fun _ h_ => h_.1))) hb); have n2_ := Aside0.mk (Kd.R_below (by (with_reducible repeat (first | apply Kd.R_alloc | apply Kd.R_drewN | apply Kd.R_drew)); exact (Kd.R_mono (Kd.R_far (p := ⟨gb19, 0, none⟩) (Kd.R_types HO17.out BK19.out (by decide)) (fun _ hk => hk.2) (.slice Ao44 t15.length co44)) (fun _ h_ => h_.1))) hb); have n3_ := Aside0.mk (blk_below (g := gb5) (o := .cells #[.slice Ao8 t1.length co8] 60 (0, 0)) (by (with_reducible repeat (first | refine blk_drewN ?_ _ | refine blk_drew ?_ | refine blk_alloc ?_ _)); refine blk_far ?_ NB5_19.out _; (with_reducible repeat (first | refine blk_drewN ?_ _ | refine blk_drew ?_ | refine blk_alloc ?_ _)); exact BK5.out) hb); have n4_ := Aside0.mk (blk_below (g := gb10) (o := .cells #[.slice Ao12 t6.length co12] 60 (0, 0)) (by (with_reducible repeat (first | refine blk_drewN ?_ _ | refine blk_drew ?_ | refine blk_alloc ?_ _)); refine blk_far ?_ NB10_19.out _; (with_reducible repeat (first | refine blk_drewN ?_ _ | refine blk_drew ?_ | refine blk_alloc ?_ _)); exact BK10.out) hb); have n5_ := Aside0.mk (blk_below (g := gb19) (o := .cells #[.slice Ao44 t15.length co44] 60 (0, 0)) (by (with_reducible repeat (first | refine blk_drewN ?_ _ | refine blk_drew ?_ | refine blk_alloc ?_ _)); refine blk_put (cs := #[.slice none 0 0]) ?_ 0 _ rfl; (with_reducible repeat (first | refine blk_drewN ?_ _ | refine blk_drew ?_ | refine blk_alloc ?_ _)); exact BK19.out) hb); have n6_ := bs_ hb; clear HO_6000; clear HO_11000; clear HO17; clear BK5; clear BK10; clear BK19; clear HB; have HO_6000 := n0_; have HO_11000 := n1_; have HO17 := n2_; have BK5 := n3_; have BK10 := n4_; have BK19 := n5_; have HB := n6_; clear n0_ n1_ n2_ n3_ n4_ n5_ n6_; (try clear hb); (try clear hb2); (try clear hk); (try clear hi)))
     go_meet
     case rel => exact ⟨_, ((t18 != t4)), sd_, H', ⟨by have := HJ4.out; first | omega | exact Nat.le_refl _⟩, ⟨by (with_reducible repeat (first | apply Kd.R_alloc | apply Kd.R_drewN | apply Kd.R_drew)); exact HO_6000.out⟩, ⟨by (with_reducible repeat (first | apply Kd.R_alloc | apply Kd.R_drewN | apply Kd.R_drew)); exact HO_11000.out⟩, ⟨by (with_reducible repeat (first | apply Kd.R_alloc | apply Kd.R_drewN | apply Kd.R_drew)); exact Kd.R_mono HO17.out (fun _ hk => ⟨hk.1.2, hk.2⟩)⟩, ⟨bk_⟩, ⟨bk_⟩, ⟨bk_⟩, ⟨bw_⟩⟩
    replace c49 := Bool.eq_false_iff.mpr c49
    subst c49
    have H1 : (laws_FnExactParseMem.j1 kj4 t12 true t13) = some r := by rw [if_neg (show ¬ (false = true) by decide)] at H; exact H
    clear H
    have H := H1
    clear H1
    have H' := Aside0.mk H
    clear H
    have hnb56 := NB19_5.out
    have hnc56 := NB5_19.out
    have hnb57 := NB19_10.out
    have hnc57 := NB10_19.out
    obtain ⟨hcz58_0, hfz58_0⟩ := bc1_ BK19.out
    have hnb59 := NB5_10.out
    have hnc59 := NB10_5.out
    obtain ⟨hcz60_0, hfz60_0⟩ := bc1_ BK5.out
    go_wp2_with (first | ((with_reducible refine gate_callee (f := 41) rfl ?_); refine goesL_ (some 51) rfl rfl Tryd.func41 (by kernel_rfl) rfl #[.agg #[.slice Ao44 t15.length co44], .agg #[.slice Ao8 t1.length co8]] rfl ar_ ?_; (with_reducible refine (laws_eqMem.calls kj4 _ _ t15 _ _ t1 false _ ?side1 ?side2 ?side3 ?side4 A48.out).mono ?_); (case side1 => refine (Kd.R_reads' (e := 3) (base := w.heap.size) (ok := fun k_ => ((True ∧ some k_ ≠ (.slice Ao8 t1.length co8 : Value).ownBlock) ∧ some k_ ≠ (.slice Ao12 t6.length co12 : Value).ownBlock)) (n := t15.length) (c := co44) ?_).2.2; exact (by (with_reducible repeat (first | apply Kd.R_alloc | apply Kd.R_drewN | apply Kd.R_drew)); exact (Kd.R_mono (Kd.R_far (p := ⟨gb19, 0, none⟩) (Kd.R_types HO17.out BK19.out (by decide)) (fun _ hk => hk.2) (.slice Ao44 t15.length co44)) (fun _ h_ => h_.1)))); (case side2 => exact (Kd.R_reads' HO17.out).2.1); (case side3 => refine (Kd.R_reads' (e := 3) (base := w.heap.size) (ok := fun k_ => (some k_ ≠ (.slice Ao12 t6.length co12 : Value).ownBlock ∧ some k_ ≠ (.slice Ao44 t15.length co44 : Value).ownBlock)) (n := t1.length) (c := co8) ?_).2.2; exact (by (with_reducible repeat (first | apply Kd.R_alloc | apply Kd.R_drewN | apply Kd.R_drew)); exact (Kd.R_mono (Kd.R_far (p := ⟨gb19, 0, none⟩) (Kd.R_types HO_6000.out BK19.out (by decide)) (fun _ hk => hk.2) (.slice Ao44 t15.length co44)) (fun _ h_ => h_.1)))); (case side4 => exact (Kd.R_reads' HO_6000.out).2.1); rintro e w61 ⟨rfl, hb⟩; refine ⟨_, rfl, ?_⟩; have n0_ := Aside0.mk (Kd.R_below (by (with_reducible repeat (first | apply Kd.R_alloc | apply Kd.R_drewN | apply Kd.R_drew)); exact (Kd.R_mono (Kd.R_far (p := ⟨gb19, 0, none⟩) (Kd.R_types HO_6000.out BK19.out (by decide)) (fun _ hk => hk.2) (.slice Ao44 t15.length co44)) (fun _ h_ => h_.1))) hb); have n1_ := Aside0.mk (Kd.R_below (by (with_reducible repeat (first | apply Kd.R_alloc | apply Kd.R_drewN | apply Kd.R_drew)); exact (Kd.R_mono (Kd.R_far (p := ⟨gb19, 0, none⟩) (Kd.R_types HO_11000.out BK19.out (by decide)) (fun _ hk => hk.2) (.slice Ao44 t15.length co44)) (fun _ h_ => h_.1))) hb); have n2_ := Aside0.mk (Kd.R_below (by (with_reducible repeat (first | apply Kd.R_alloc | apply Kd.R_drewN | apply Kd.R_drew)); exact (Kd.R_mono (Kd.R_far (p := ⟨gb19, 0, none⟩) (Kd.R_types HO17.out BK19.out (by decide)) (fun _ hk => hk.2) (.slice Ao44 t15.length co44)) (fun _ h_ => h_.1))) hb); have n3_ := Aside0.mk (blk_below (g := gb5) (o := .cells #[.slice Ao8 t1.length co8] 60 (0, 0)) (by (with_reducible repeat (first | refine blk_drewN ?_ _ | refine blk_drew ?_ | refine blk_alloc ?_ _)); refine blk_far ?_ NB5_19.out _; (with_reducible repeat (first | refine blk_drewN ?_ _ | refine blk_drew ?_ | refine blk_alloc ?_ _)); exact BK5.out) hb); have n4_ := Aside0.mk (blk_below (g := gb10) (o := .cells #[.slice Ao12 t6.length co12] 60 (0, 0)) (by (with_reducible repeat (first | refine blk_drewN ?_ _ | refine blk_drew ?_ | refine blk_alloc ?_ _)); refine blk_far ?_ NB10_19.out _; (with_reducible repeat (first | refine blk_drewN ?_ _ | refine blk_drew ?_ | refine blk_alloc ?_ _)); exact BK10.out) hb); have n5_ := Aside0.mk (blk_below (g := gb19) (o := .cells #[.slice Ao44 t15.length co44] 60 (0, 0)) (by (with_reducible repeat (first | refine blk_drewN ?_ _ | refine blk_drew ?_ | refine blk_alloc ?_ _)); refine blk_put (cs := #[.slice none 0 0]) ?_ 0 _ rfl; (with_reducible repeat (first | refine blk_drewN ?_ _ | refine blk_drew ?_ | refine blk_alloc ?_ _)); exact BK19.out) hb); have n6_ := bs_ hb; clear HO_6000; clear HO_11000; clear HO17; clear BK5; clear BK10; clear BK19; clear HB; have HO_6000 := n0_; have HO_11000 := n1_; have HO17 := n2_; have BK5 := n3_; have BK10 := n4_; have BK19 := n5_; have HB := n6_; clear n0_ n1_ n2_ n3_ n4_ n5_ n6_; (try clear hb); (try clear hb2); (try clear hk); (try clear hi)))
    go_meet
    case rel => exact ⟨_, (true), sd_, H', ⟨by have := HJ4.out; first | omega | exact Nat.le_refl _⟩, ⟨by (with_reducible repeat (first | apply Kd.R_alloc | apply Kd.R_drewN | apply Kd.R_drew)); exact HO_6000.out⟩, ⟨by (with_reducible repeat (first | apply Kd.R_alloc | apply Kd.R_drewN | apply Kd.R_drew)); exact HO_11000.out⟩, ⟨by (with_reducible repeat (first | apply Kd.R_alloc | apply Kd.R_drewN | apply Kd.R_drew)); exact Kd.R_mono HO17.out (fun _ hk => ⟨hk.1.2, hk.2⟩)⟩, ⟨bk_⟩, ⟨bk_⟩, ⟨bk_⟩, ⟨bw_⟩⟩
   case rest =>
    clear HC36
    try clear c1
    try clear c2
    try clear c2b0
    try clear c2b1
    try clear p2
    try clear c3
    try clear c4
    try clear c5
    try clear c6
    try clear c13
    try clear c14
    try clear c16
    try clear c17
    try clear c21
    try clear c25
    try clear c28
    try clear c28b0
    try clear c29
    try clear c34
    try clear c34b0
    try clear c34b1
    try clear c37
    try clear c41
    try clear c45
    try clear c46
    try clear c49
    try clear c50
    try clear c51
    try clear c53
    try clear c56
    try clear c57
    try clear c59
    try clear hcz14_0
    try clear hcz18_0
    try clear hcz19_0
    try clear hcz22_0
    try clear hcz23_0
    try clear hcz30_0
    try clear hcz32_0
    try clear hcz38_0
    try clear hcz40_0
    try clear hcz47_0
    try clear hcz52_0
    try clear hcz54_0
    try clear hcz58_0
    try clear hcz60_0
    try clear hcz9_0
    try clear hfz14_0
    try clear hfz18_0
    try clear hfz19_0
    try clear hfz22_0
    try clear hfz23_0
    try clear hfz30_0
    try clear hfz32_0
    try clear hfz38_0
    try clear hfz40_0
    try clear hfz47_0
    try clear hfz52_0
    try clear hfz54_0
    try clear hfz58_0
    try clear hfz60_0
    try clear hfz9_0
    try clear p2
    obtain ⟨kq, x57_35, rfl, HA, HJ35, HO_6000, HO_11000, HO_20000, BK5, BK10, BK19, HB⟩ := hcut
    have hl11000_35 := (Kd.R_reads' HO_11000.out).1
    rw [hl11000_35] at HO_11000
    (try simp only [hl11000_35])
    (try simp only [hl11000_35] at BK5)
    (try simp only [hl11000_35] at BK10)
    (try simp only [hl11000_35] at BK19)
    (try simp only [hl11000_35] at HO_6000)
    (try simp only [hl11000_35] at HO_20000)
    cases kq with
    | zero => exact absurd HA.out (by simp [laws_FnExactParseMem.j1])
    | succ kj35 =>
     have H := HA.out
     clear HA
     simp only [laws_FnExactParseMem.j1] at H
     by_cases c62 : x57_35 = true
     ·subst c62
      have H1 : (some false) = some r := by rw [if_pos rfl] at H; exact H
      clear H
      have H := H1
      clear H1
      obtain rfl := Option.some.inj H
      exact absurd hr_ (by decide)
     replace c62 := Bool.eq_false_iff.mpr c62
     subst c62
     have H1 : ((laws_heldMem.f kj35 t13 1).bind fun t21 => (if t21 < 0 then (some false) else (if t21 = t12 then (some true) else (some false)))) = some r := by rw [if_neg (show ¬ (false = true) by decide)] at H; exact H
     clear H
     have H := H1
     clear H1
     replace H := Option.bind_eq_some_iff.mp H
     obtain ⟨t21, A630, H⟩ := H
     replace H : (if t21 < 0 then (some false) else (if t21 = t12 then (some true) else (some false))) = some r := H
     have A63 := Aside0.mk A630
     clear A630
     by_cases c64 : t21 < 0
     ·rw [if_pos c64] at H
      have c64b0 : decide (t21 < 0) = true := decide_eq_true c64
      clear c64
      obtain rfl := Option.some.inj H
      exact absurd hr_ (by decide)
     rw [if_neg c64] at H
     have c64b0 : decide (t21 < 0) = false := decide_eq_false c64
     clear c64
     by_cases c69 : t21 = t12
     rotate_left
     ·rw [if_neg c69] at H
      have c69b0 : (t21 == t12) = false := beq_eq_false_iff_ne.mpr c69
      have c69b1 : (t21 != t12) = true := bne_iff_ne.mpr c69
      obtain rfl := Option.some.inj H
      exact absurd hr_ (by decide)
     rw [if_pos c69] at H
     have c69b0 : (t21 == t12) = true := beq_iff_eq.mpr c69
     have c69b1 : (t21 != t12) = false := bne_eq_false_iff_eq.mpr c69
     clear c69
     obtain rfl := Option.some.inj H
     clear hr_
     have hnb70 := NB10_5.out
     have hnc70 := NB5_10.out
     have hnb71 := NB10_19.out
     have hnc71 := NB19_10.out
     obtain ⟨hcz72_0, hfz72_0⟩ := bc1_ BK10.out
     go_wp2_with (first | ((with_reducible refine gate_callee (f := 66) rfl ?_); refine goesL_ (some 60) rfl rfl Tryd.func66 (by kernel_rfl) rfl #[.agg #[.slice Ao12 t13.length co12], .int .i64 1] rfl ar_ ?_; (with_reducible refine (laws_heldMem.calls kj35 _ _ t13 1 t21 _ ?side1 ?side2 A63.out).mono ?_); (case side1 => repeat (first | exact (Kd.R_reads' HO_11000.out).2.2 | (with_reducible refine Kd.C_alloc ?_ _) | (with_reducible refine Kd.C_drewN ?_ _) | (with_reducible refine Kd.C_drew ?_))); (case side2 => exact (Kd.R_reads' HO_11000.out).2.1); rintro e w73 ⟨rfl, hb⟩; refine ⟨_, rfl, ?_⟩; have n0_ := Aside0.mk (Kd.R_below (rx_ HO_6000.out) hb); have n1_ := Aside0.mk (Kd.R_below (rx_ HO_11000.out) hb); have n2_ := Aside0.mk (Kd.R_below (rx_ HO_20000.out) hb); have n3_ := bb_ BK5.out hb; have n4_ := bb_ BK10.out hb; have n5_ := bb_ BK19.out hb; have n6_ := bs_ hb; clear HO_6000; clear HO_11000; clear HO_20000; clear BK5; clear BK10; clear BK19; clear HB; have HO_6000 := n0_; have HO_11000 := n1_; have HO_20000 := n2_; have BK5 := n3_; have BK10 := n4_; have BK19 := n5_; have HB := n6_; clear n0_ n1_ n2_ n3_ n4_ n5_ n6_; (try clear hb); (try clear hb2); (try clear hk); (try clear hi)))
     go_ret
     exact ⟨rr_, bw_⟩


end Go.Proofs.YtchpopocnaoabaaDoor.P
