-- Written by mp.py (the session's own driver over the kit's printer) for the seat Ytlfbdafghpmahaa.
import Derived.Test.YtlfbdafghpmahaaK
import Derived.Test.YtlfbdafghpmahaaPlawseqIntS
namespace Go.Proofs.Ytlfbdafghpmahaa.P
open Go.RowKit Go.Proofs.YtlfbdafghpmahaaW.PrintWords Go.Proofs.YtlfbdafghpmahaaW.PrintLast Go.Proofs.YtlfbdafghpmahaaW.PrintMore
attribute [local go_sem] max2_int min2_int max_two min_two max_three min_three max_four min_four
set_option linter.unusedVariables false
set_option linter.unusedSimpArgs false

/-! ### laws_eqMachine: function 33 -/
def laws_eqMachine.f (k : Nat) (l0_0 : List Int) (l0_1 : List (S102)) (l1_0 : List Int) (l1_1 : List (S102)) : Option (Bool) := (laws_eqMem.f k l0_0 l1_0).bind fun t3 => (if t3 = true then ((laws_eqThreadS.f k l0_1 l1_1).bind fun t4 => (if t4 = true then (some true) else (some false))) else (some false))
theorem laws_eqMachine.mono : ∀ a0 a1 a2 a3 k, LeO (laws_eqMachine.f k a0 a1 a2 a3) (laws_eqMachine.f (k + 1) a0 a1 a2 a3) := by
 intro a0 a1 a2 a3 k
 unfold laws_eqMachine.f
 repeat' first | (with_reducible first | exact laws_eqMem.mono _ _ _ | exact laws_eqThreadS.mono _ _ _ | exact lr_ | exact ln_ | refine LeO.ite ?_ ?_ | refine LeO.bind ?_ (fun _ => ?_)) | exact laws_eqMem.mono _ _ _ | exact laws_eqThreadS.mono _ _ _ | exact ln_ | refine LeO.ite ?_ ?_ | refine LeO.bind ?_ (fun _ => ?_)
set_option maxHeartbeats 8000000 in
set_option maxRecDepth 100000 in
theorem laws_eqMachine.calls (k : Nat) (A0_0 : Option Addr) (c0_0 : Nat) (l0_0 : List Int) (A0_1 : Option Addr) (c0_1 : Nat) (l0_1 : List (S102)) (A1_0 : Option Addr) (c1_0 : Nat) (l1_0 : List Int) (A1_1 : Option Addr) (c1_1 : Nat) (l1_1 : List (S102)) (r : Bool) (w : World) (hr0_0 : Kd.C (Kd.int .i64) w A0_0 l0_0.length l0_0) (hc0_0 : l0_0.length ≤ c0_0) (hr0_1 : Kd.C k102 w A0_1 l0_1.length l0_1) (hc0_1 : l0_1.length ≤ c0_1) (hr1_0 : Kd.C (Kd.int .i64) w A1_0 l1_0.length l1_0) (hc1_0 : l1_0.length ≤ c1_0) (hr1_1 : Kd.C k102 w A1_1 l1_1.length l1_1) (hc1_1 : l1_1.length ≤ c1_1) (h : laws_eqMachine.f k l0_0 l0_1 l1_0 l1_1 = some r) :
  Calls Try.prog 33 #[.agg #[.slice A0_0 l0_0.length c0_0, .slice A0_1 l0_1.length c0_1], .agg #[.slice A1_0 l1_0.length c1_0, .slice A1_1 l1_1.length c1_1]] w fun e w' => e = .returned (.bool r) ∧ Below w.heap.size w w' := by
 have hu54 := Try.underlying54
 have hu51 := Try.underlying51
 have HR0_0 := Aside0.mk hr0_0
 have HC0_0 := Aside0.mk hc0_0
 clear hr0_0 hc0_0
 have HR0_1 := Aside0.mk hr0_1
 have HC0_1 := Aside0.mk hc0_1
 clear hr0_1 hc0_1
 have HR1_0 := Aside0.mk hr1_0
 have HC1_0 := Aside0.mk hc1_0
 clear hr1_0 hc1_0
 have HR1_1 := Aside0.mk hr1_1
 have HC1_1 := Aside0.mk hc1_1
 clear hr1_1 hc1_1
 have HB := Aside0.mk (Below.refl w.heap.size w)
 have H : ((laws_eqMem.f k l0_0 l1_0).bind fun t3 => (if t3 = true then ((laws_eqThreadS.f k l0_1 l1_1).bind fun t4 => (if t4 = true then (some true) else (some false))) else (some false))) = some r := h
 clear h
 replace H := Option.bind_eq_some_iff.mp H
 obtain ⟨t3, A30, H⟩ := H
 replace H : (if t3 = true then ((laws_eqThreadS.f k l0_1 l1_1).bind fun t4 => (if t4 = true then (some true) else (some false))) else (some false)) = some r := H
 have A3 := Aside0.mk A30
 clear A30
 by_cases c4 : t3 = true
 rotate_left
 ·replace c4 := Bool.eq_false_iff.mpr c4
  subst c4
  have H1 : (some false) = some r := by rw [if_neg (show ¬ (false = true) by decide)] at H; exact H
  clear H
  have H := H1
  clear H1
  obtain rfl := Option.some.inj H
  go_enter Try.func33, Try.ntmps33
  go_wp2_with (first | ((with_reducible refine gate_dst (N := 2) rfl ?_); refine box_event ?hg (N := 2) ?hd (cs := #[.slice A0_0 l0_0.length c0_0, .slice A0_1 l0_1.length c0_1]) (t := 54) ?hr ?_; (case hd => rfl); (case hg => rfl); (case hr => exact hr_); intro gb1 hg w25 hbox hb; have n0_ := bs_ hb; have n1_ := Aside0.mk (hbox); have n2_ := ge_ (w := w) hg; have n3_ := ge_ (w := w) hg; clear HB; have HB := n0_; have BK1 := n1_; have GW1 := n2_; have GE1 := n3_; clear n0_ n1_ n2_ n3_; clear hb hbox hg) | ((with_reducible refine gate_dst (N := 3) rfl ?_); refine box_event ?hg (N := 3) ?hd (cs := #[.slice A1_0 l1_0.length c1_0, .slice A1_1 l1_1.length c1_1]) (t := 54) ?hr ?_; (case hd => rfl); (case hg => rfl); (case hr => exact hr_); intro gb2 hg w26 hbox hb; have n0_ := bb_ BK1.out hb; have n1_ := bs_ hb; have n2_ := Aside0.mk (hbox); have n3_ := ge_ (w := w) hg; have n4_ := ge_ (w := w) hg; have n5_ := nl_ BK1.out hg; have n6_ := nr_ BK1.out hg; clear BK1; clear HB; have BK1 := n0_; have HB := n1_; have BK2 := n2_; have GW2 := n3_; have GE2 := n4_; have NB1_2 := n5_; have NB2_1 := n6_; clear n0_ n1_ n2_ n3_ n4_ n5_ n6_; clear hb hbox hg; have hnb27 := NB1_2.out; have hnc27 := NB2_1.out; obtain ⟨hcz28_0, hcz28_1, hfz28_0, hfz28_1⟩ := bc2_ BK1.out; obtain ⟨hcz29_0, hcz29_1, hfz29_0, hfz29_1⟩ := bc2_ BK2.out) | ((with_reducible refine gate_callee (f := 69) rfl ?_); refine goesL_ (some 9) rfl rfl Try.func69 (by kernel_rfl) rfl #[.agg #[.slice A0_0 l0_0.length c0_0], .agg #[.slice A1_0 l1_0.length c1_0]] rfl ar_ ?_; (with_reducible refine (laws_eqMem.calls k _ _ l0_0 _ _ l1_0 false _ ?side1 ?side2 ?side3 ?side4 A3.out).mono ?_); (case side1 => exact cb_); (case side2 => exact HC0_0.out); (case side3 => exact cb_); (case side4 => exact HC1_0.out); rintro e w30 ⟨rfl, hb⟩; refine ⟨_, rfl, ?_⟩; have n0_ := bb_ BK1.out hb; have n1_ := bb_ BK2.out hb; have n2_ := bs_ hb; clear BK1; clear BK2; clear HB; have BK1 := n0_; have BK2 := n1_; have HB := n2_; clear n0_ n1_ n2_; (try clear hb); (try clear hb2); (try clear hk); (try clear hi)))
  go_ret
  exact ⟨rr_, bw_⟩
 subst c4
 have H1 : ((laws_eqThreadS.f k l0_1 l1_1).bind fun t4 => (if t4 = true then (some true) else (some false))) = some r := by rw [if_pos rfl] at H; exact H
 clear H
 have H := H1
 clear H1
 replace H := Option.bind_eq_some_iff.mp H
 obtain ⟨t4, A50, H⟩ := H
 replace H : (if t4 = true then (some true) else (some false)) = some r := H
 have A5 := Aside0.mk A50
 clear A50
 by_cases c6 : t4 = true
 ·subst c6
  have H1 : (some true) = some r := by rw [if_pos rfl] at H; exact H
  clear H
  have H := H1
  clear H1
  obtain rfl := Option.some.inj H
  go_enter Try.func33, Try.ntmps33
  go_wp2_with (first | ((with_reducible refine gate_dst (N := 2) rfl ?_); refine box_event ?hg (N := 2) ?hd (cs := #[.slice A0_0 l0_0.length c0_0, .slice A0_1 l0_1.length c0_1]) (t := 54) ?hr ?_; (case hd => rfl); (case hg => rfl); (case hr => exact hr_); intro gb1 hg w7 hbox hb; have n0_ := bs_ hb; have n1_ := Aside0.mk (hbox); have n2_ := ge_ (w := w) hg; have n3_ := ge_ (w := w) hg; clear HB; have HB := n0_; have BK1 := n1_; have GW1 := n2_; have GE1 := n3_; clear n0_ n1_ n2_ n3_; clear hb hbox hg) | ((with_reducible refine gate_dst (N := 3) rfl ?_); refine box_event ?hg (N := 3) ?hd (cs := #[.slice A1_0 l1_0.length c1_0, .slice A1_1 l1_1.length c1_1]) (t := 54) ?hr ?_; (case hd => rfl); (case hg => rfl); (case hr => exact hr_); intro gb2 hg w8 hbox hb; have n0_ := bb_ BK1.out hb; have n1_ := bs_ hb; have n2_ := Aside0.mk (hbox); have n3_ := ge_ (w := w) hg; have n4_ := ge_ (w := w) hg; have n5_ := nl_ BK1.out hg; have n6_ := nr_ BK1.out hg; clear BK1; clear HB; have BK1 := n0_; have HB := n1_; have BK2 := n2_; have GW2 := n3_; have GE2 := n4_; have NB1_2 := n5_; have NB2_1 := n6_; clear n0_ n1_ n2_ n3_ n4_ n5_ n6_; clear hb hbox hg; have hnb9 := NB1_2.out; have hnc9 := NB2_1.out; obtain ⟨hcz10_0, hcz10_1, hfz10_0, hfz10_1⟩ := bc2_ BK1.out; obtain ⟨hcz11_0, hcz11_1, hfz11_0, hfz11_1⟩ := bc2_ BK2.out) | ((with_reducible refine gate_callee (f := 69) rfl ?_); refine goesL_ (some 9) rfl rfl Try.func69 (by kernel_rfl) rfl #[.agg #[.slice A0_0 l0_0.length c0_0], .agg #[.slice A1_0 l1_0.length c1_0]] rfl ar_ ?_; (with_reducible refine (laws_eqMem.calls k _ _ l0_0 _ _ l1_0 true _ ?side1 ?side2 ?side3 ?side4 A3.out).mono ?_); (case side1 => exact cb_); (case side2 => exact HC0_0.out); (case side3 => exact cb_); (case side4 => exact HC1_0.out); rintro e w12 ⟨rfl, hb⟩; refine ⟨_, rfl, ?_⟩; have n0_ := bb_ BK1.out hb; have n1_ := bb_ BK2.out hb; have n2_ := bs_ hb; clear BK1; clear BK2; clear HB; have BK1 := n0_; have BK2 := n1_; have HB := n2_; clear n0_ n1_ n2_; (try clear hb); (try clear hb2); (try clear hk); (try clear hi); obtain ⟨hcz13_0, hcz13_1, hfz13_0, hfz13_1⟩ := bc2_ BK1.out; obtain ⟨hcz14_0, hcz14_1, hfz14_0, hfz14_1⟩ := bc2_ BK2.out) | ((with_reducible refine gate_callee (f := 70) rfl ?_); refine goesL_ (some 15) rfl rfl Try.func70 (by kernel_rfl) rfl #[.slice A0_1 l0_1.length c0_1, .slice A1_1 l1_1.length c1_1] rfl ar_ ?_; (with_reducible refine (laws_eqThreadS.calls k _ _ l0_1 _ _ l1_1 true _ ?side1 ?side2 ?side3 ?side4 A5.out).mono ?_); (case side1 => exact cb_); (case side2 => exact HC0_1.out); (case side3 => exact cb_); (case side4 => exact HC1_1.out); rintro e w15 ⟨rfl, hb⟩; refine ⟨_, rfl, ?_⟩; have n0_ := bb_ BK1.out hb; have n1_ := bb_ BK2.out hb; have n2_ := bs_ hb; clear BK1; clear BK2; clear HB; have BK1 := n0_; have BK2 := n1_; have HB := n2_; clear n0_ n1_ n2_; (try clear hb); (try clear hb2); (try clear hk); (try clear hi)))
  go_ret
  exact ⟨rr_, bw_⟩
 replace c6 := Bool.eq_false_iff.mpr c6
 subst c6
 have H1 : (some false) = some r := by rw [if_neg (show ¬ (false = true) by decide)] at H; exact H
 clear H
 have H := H1
 clear H1
 obtain rfl := Option.some.inj H
 go_enter Try.func33, Try.ntmps33
 go_wp2_with (first | ((with_reducible refine gate_dst (N := 2) rfl ?_); refine box_event ?hg (N := 2) ?hd (cs := #[.slice A0_0 l0_0.length c0_0, .slice A0_1 l0_1.length c0_1]) (t := 54) ?hr ?_; (case hd => rfl); (case hg => rfl); (case hr => exact hr_); intro gb1 hg w16 hbox hb; have n0_ := bs_ hb; have n1_ := Aside0.mk (hbox); have n2_ := ge_ (w := w) hg; have n3_ := ge_ (w := w) hg; clear HB; have HB := n0_; have BK1 := n1_; have GW1 := n2_; have GE1 := n3_; clear n0_ n1_ n2_ n3_; clear hb hbox hg) | ((with_reducible refine gate_dst (N := 3) rfl ?_); refine box_event ?hg (N := 3) ?hd (cs := #[.slice A1_0 l1_0.length c1_0, .slice A1_1 l1_1.length c1_1]) (t := 54) ?hr ?_; (case hd => rfl); (case hg => rfl); (case hr => exact hr_); intro gb2 hg w17 hbox hb; have n0_ := bb_ BK1.out hb; have n1_ := bs_ hb; have n2_ := Aside0.mk (hbox); have n3_ := ge_ (w := w) hg; have n4_ := ge_ (w := w) hg; have n5_ := nl_ BK1.out hg; have n6_ := nr_ BK1.out hg; clear BK1; clear HB; have BK1 := n0_; have HB := n1_; have BK2 := n2_; have GW2 := n3_; have GE2 := n4_; have NB1_2 := n5_; have NB2_1 := n6_; clear n0_ n1_ n2_ n3_ n4_ n5_ n6_; clear hb hbox hg; have hnb18 := NB1_2.out; have hnc18 := NB2_1.out; obtain ⟨hcz19_0, hcz19_1, hfz19_0, hfz19_1⟩ := bc2_ BK1.out; obtain ⟨hcz20_0, hcz20_1, hfz20_0, hfz20_1⟩ := bc2_ BK2.out) | ((with_reducible refine gate_callee (f := 69) rfl ?_); refine goesL_ (some 9) rfl rfl Try.func69 (by kernel_rfl) rfl #[.agg #[.slice A0_0 l0_0.length c0_0], .agg #[.slice A1_0 l1_0.length c1_0]] rfl ar_ ?_; (with_reducible refine (laws_eqMem.calls k _ _ l0_0 _ _ l1_0 true _ ?side1 ?side2 ?side3 ?side4 A3.out).mono ?_); (case side1 => exact cb_); (case side2 => exact HC0_0.out); (case side3 => exact cb_); (case side4 => exact HC1_0.out); rintro e w21 ⟨rfl, hb⟩; refine ⟨_, rfl, ?_⟩; have n0_ := bb_ BK1.out hb; have n1_ := bb_ BK2.out hb; have n2_ := bs_ hb; clear BK1; clear BK2; clear HB; have BK1 := n0_; have BK2 := n1_; have HB := n2_; clear n0_ n1_ n2_; (try clear hb); (try clear hb2); (try clear hk); (try clear hi); obtain ⟨hcz22_0, hcz22_1, hfz22_0, hfz22_1⟩ := bc2_ BK1.out; obtain ⟨hcz23_0, hcz23_1, hfz23_0, hfz23_1⟩ := bc2_ BK2.out) | ((with_reducible refine gate_callee (f := 70) rfl ?_); refine goesL_ (some 15) rfl rfl Try.func70 (by kernel_rfl) rfl #[.slice A0_1 l0_1.length c0_1, .slice A1_1 l1_1.length c1_1] rfl ar_ ?_; (with_reducible refine (laws_eqThreadS.calls k _ _ l0_1 _ _ l1_1 false _ ?side1 ?side2 ?side3 ?side4 A5.out).mono ?_); (case side1 => exact cb_); (case side2 => exact HC0_1.out); (case side3 => exact cb_); (case side4 => exact HC1_1.out); rintro e w24 ⟨rfl, hb⟩; refine ⟨_, rfl, ?_⟩; have n0_ := bb_ BK1.out hb; have n1_ := bb_ BK2.out hb; have n2_ := bs_ hb; clear BK1; clear BK2; clear HB; have BK1 := n0_; have BK2 := n1_; have HB := n2_; clear n0_ n1_ n2_; (try clear hb); (try clear hb2); (try clear hk); (try clear hi)))
 go_ret
 exact ⟨rr_, bw_⟩

/-! ### laws_markIntS: function 17 -/
def laws_markIntS.l0 : Nat → List Int → Int → Int → Option (Int × List Int)
 | 0, _, _, _ => none
 | k + 1, x0, x1, x5 => if x5 < (x0.length : Int) then (if 0 ≤ x5 then (laws_markIntS.l0 k (x0.set (x5 : Int).toNat x1) (wrap64 (x1 + 1)) (wrap64 (x5 + 1))) else (none)) else (some (x1, x0))
def laws_markIntS.f (k : Nat) (l0 : List Int) (a1 : Int) : Option (Int × List Int) := laws_markIntS.l0 k l0 a1 0
theorem laws_markIntS.mono_l : ∀ k, (∀ y0 y1 y2, LeO (laws_markIntS.l0 k y0 y1 y2) (laws_markIntS.l0 (k + 1) y0 y1 y2))
 | 0 => fun _ _ _ r h => by simp [laws_markIntS.l0] at h
 | k + 1 => by
  have ih0 := laws_markIntS.mono_l k
  ·intro y0 y1 y2
   unfold laws_markIntS.l0
   repeat' first | (with_reducible first | exact ih0 _ _ _ | exact lr_ | exact ln_ | refine LeO.ite ?_ ?_ | refine LeO.bind ?_ (fun _ => ?_)) | exact ih0 _ _ _ | exact ln_ | refine LeO.ite ?_ ?_ | refine LeO.bind ?_ (fun _ => ?_)
theorem laws_markIntS.mono : ∀ a0 a1 k, LeO (laws_markIntS.f k a0 a1) (laws_markIntS.f (k + 1) a0 a1) := by
 intro a0 a1 k
 have ih0 := laws_markIntS.mono_l k
 unfold laws_markIntS.f
 repeat' first | (with_reducible first | exact ih0 _ _ _ | exact lr_ | exact ln_ | refine LeO.ite ?_ ?_ | refine LeO.bind ?_ (fun _ => ?_)) | exact ih0 _ _ _ | exact ln_ | refine LeO.ite ?_ ?_ | refine LeO.bind ?_ (fun _ => ?_)
set_option maxHeartbeats 8000000 in
set_option maxRecDepth 100000 in
theorem laws_markIntS.calls (k : Nat) (P0_ : Nat → Prop) (u9000_ : Value) (l0 : List Int) (a1 : Int) (r1 : Int) (r2 : List Int) (w0 w : World) (hB : Below w0.heap.size w0 w) (ho0 : Kd.R (Kd.int .i64) 3 w w0.heap.size P0_ u9000_ l0) (h : laws_markIntS.f k l0 a1 = some (r1, r2)) :
  Calls Try.prog 17 #[u9000_, .int .i64 a1] w fun e w' => e = .returned (.int .i64 r1) ∧ Kd.R (Kd.int .i64) 3 w' w0.heap.size (fun k_ => (P0_ k_ ∨ w.heap.size ≤ k_)) u9000_ r2 ∧ Below w0.heap.size w0 w' ∧ Kept w w' (fun k_ => P0_ k_) := by
 have HO0 := Aside0.mk (show Kd.R (Kd.int .i64) 3 w w0.heap.size (fun k_ => (P0_ k_ ∨ w.heap.size ≤ k_)) u9000_ l0 from Kd.R_mono ho0 (fun k_ hk => (.inl hk)))
 have HK := Aside0.mk (Kept.refl w (fun k_ => P0_ k_))
 have HW0 := Aside0.mk hB.size
 have HB := Aside0.mk hB
 clear hB
 have H : (laws_markIntS.l0 k l0 a1 0) = some (r1, r2) := h
 clear h
 have H' := Aside0.mk H
 clear H
 go_enter Try.func17, Try.ntmps17
 go_wp2
 go_loopg [1, 5] k (fun kq v1 v5 w' => ∃ (x0_1 : List Int) (x1_1 : Int) (x5_1 : Int), v1 = .int .i64 x1_1 ∧ v5 = .int .i64 x5_1 ∧ Aside0 (laws_markIntS.l0 kq x0_1 x1_1 x5_1 = some (r1, r2)) ∧ Aside0 (kq ≤ k) ∧ Aside0 (Kd.R (Kd.int .i64) 3 w' w0.heap.size (fun k_ => (P0_ k_ ∨ w.heap.size ≤ k_)) u9000_ x0_1) ∧ Aside0 (Kept w w' (fun k_ => P0_ k_)) ∧ Aside0 (Below w0.heap.size w0 w'))
 case atStart => exact ⟨(l0), (a1), (0), sd_, sd_, H', ⟨Nat.le_refl _⟩, ⟨by (with_reducible repeat (first | apply Kd.R_alloc | apply Kd.R_drewN | apply Kd.R_drew)); exact HO0.out⟩, ⟨by repeat (first | (with_reducible first | exact HK.out | apply Kept.alloc | apply Kept.drewN | apply Kept.drew) | exact HK.out)⟩, ⟨bw_⟩⟩
 case round =>
  clear H'
  try clear c1
  try clear p2
  obtain ⟨x0_1, x1_1, x5_1, rfl, rfl, HA, HK1, HO_0, HK, HB⟩ := hrel
  cases gk with
  | zero => exact absurd HA.out (by simp [laws_markIntS.l0])
  | succ k1 =>
   have H := HA.out
   clear HA
   simp only [laws_markIntS.l0] at H
   by_cases c3 : x5_1 < (x0_1.length : Int)
   rotate_left
   ·rw [if_neg c3] at H
    have c3b0 : decide (x5_1 < (x0_1.length : Int)) = false := decide_eq_false c3
    clear c3
    simp only [Option.some.injEq, Prod.mk.injEq] at H
    obtain ⟨rfl, rfl⟩ := H
    obtain ⟨Ao9, co9, eo9⟩ := Kd.R_slice HO_0.out
    subst eo9
    go_wp2
    go_ret
    exact ⟨rr_, by (with_reducible repeat (first | apply Kd.R_alloc | apply Kd.R_drewN | apply Kd.R_drew)); exact HO_0.out, bw_, by repeat (first | (with_reducible first | exact HK.out | apply Kept.alloc | apply Kept.drewN | apply Kept.drew) | exact HK.out)⟩
   rw [if_pos c3] at H
   have c3b0 : decide (x5_1 < (x0_1.length : Int)) = true := decide_eq_true c3
   clear c3
   by_cases c4 : 0 ≤ x5_1
   rotate_left
   ·rw [if_neg c4] at H
    exact absurd H (by simp)
   rw [if_pos c4] at H
   have c4b0 : decide (0 ≤ x5_1) = true := decide_eq_true c4
   clear c4
   obtain ⟨y1, hy1⟩ : ∃ y_ : List Int, y_ = (x0_1.set (x5_1 : Int).toNat x1_1) := ⟨_, rfl⟩
   replace H : (laws_markIntS.l0 k1 y1 (wrap64 (x1_1 + 1)) (wrap64 (x5_1 + 1))) = some (r1, r2) := by first | (rw [hy1]; with_reducible exact H) | (have H2_ := (Option.bind_some _ _).symm.trans H; rw [hy1]; with_reducible exact H2_) | (have H2_ := (Option.bind_some _ _).symm.trans H; with_reducible exact H2_) | with_reducible exact H | (rw [hy1]; exact H) | exact H
   have Ny1 := Aside0.mk hy1
   clear hy1
   have H' := Aside0.mk H
   clear H
   obtain ⟨Ao6, co6, eo6⟩ := Kd.R_slice HO_0.out
   subst eo6
   have p5 : 0 ≤ (x5_1 : Int) := od_
   have q5 : (x5_1 : Int) < ((x0_1.length : Int) : Int) := od_
   obtain ⟨go5, co5, eo5, gb5, gl5, cl5, HG5⟩ := Kd.R_form HO_0.out (by omega)
   (first | cases eo5 | (injection eo5 with ea_ en_ ec_; (first | subst ea_ | (injection ea_ with ea_; subst ea_)); subst ec_; clear en_))
   have GB5 := Aside0.mk gb5
   have GG5 := Aside0.mk HG5
   clear gb5 gl5 HG5
   have HMgo5 := Aside0.mk (show (P0_ go5 ∨ w.heap.size ≤ go5) from (HO_0.out.1 _ rfl))
   obtain ⟨hx5_0, hf5_0⟩ := Kd.R_celln 0 HO_0.out (x5_1 : Int) p5 q5
   replace p5 := eq_true p5
   replace q5 := eq_true q5
   have HP7 := Kd.R_putg HO_0.out (x5_1 : Int) x1_1
   go_wp2_with (first | ((with_reducible refine gate_store (t := 3) (p := 15) rfl ?_); refine store_event (t := 3) (p := 15) (v := ?vo_w8) (w1 := (wr.setCell ⟨go5, (x5_1 : Int).toNat, none⟩ (.int .i64 x1_1))) ?hg ?ho ?hn ?hr ?_; (case ho => rfl); (case hg => rfl); (case hn => rfl); (case hr => first | (go_simp; done) | (go_simp; rfl)); intro w8 hw; have hg : wr.grownBy w8 (some go5) := (by rw [hw]; exact HP7.2); have hp_ : Kd.R (Kd.int .i64) 3 w8 w0.heap.size (fun k_ => (P0_ k_ ∨ w.heap.size ≤ k_)) (.slice (some ⟨go5, 0, none⟩) x0_1.length co6) y1 := (by rw [hw, Ny1.out]; exact HP7.1); clear HP7; have n0_ := Aside0.mk (hp_); have n1_ := Aside0.mk ((by rw [hw]; exact below_set (HB.out) GB5.out : Below w0.heap.size w0 w8)); have n2_ := Aside0.mk (Kept.of_grown (S := (fun k_ => P0_ k_)) hg (by repeat (first | (with_reducible first | exact HK.out | apply Kept.alloc | apply Kept.drewN | apply Kept.drew) | exact HK.out)) (fun k_ e_ => (HO_0.out.1 k_ e_))); clear HO_0; clear HB; clear HK; have HO_0 := n0_; have HB := n1_; have HK := n2_; clear n0_ n1_ n2_; clear hg hw hp_))
   go_roundg k1
   case measure => have := HK1.out; omega
   case rel => exact ⟨(y1), (wrap64 (x1_1 + 1)), (wrap64 (x5_1 + 1)), sd_, sd_, H', ⟨by have := HK1.out; omega⟩, ⟨by (with_reducible repeat (first | apply Kd.R_alloc | apply Kd.R_drewN | apply Kd.R_drew)); exact HO_0.out⟩, ⟨by repeat (first | (with_reducible first | exact HK.out | apply Kept.alloc | apply Kept.drewN | apply Kept.drew) | exact HK.out)⟩, ⟨bw_⟩⟩

/-! ### laws_heldIntS: function 18 -/
def laws_heldIntS.l0 : Nat → List Int → Int → Int → Option (Int)
 | 0, _, _, _ => none
 | k + 1, x0, x1, x5 => if x5 < (x0.length : Int) then (if 0 ≤ x5 then (if (rd x0 x5) = x1 then (laws_heldIntS.l0 k x0 (wrap64 (x1 + 1)) (wrap64 (x5 + 1))) else (some (-1))) else (none)) else (some x1)
def laws_heldIntS.f (k : Nat) (l0 : List Int) (a1 : Int) : Option (Int) := laws_heldIntS.l0 k l0 a1 0
theorem laws_heldIntS.mono_l : ∀ k, (∀ y0 y1 y2, LeO (laws_heldIntS.l0 k y0 y1 y2) (laws_heldIntS.l0 (k + 1) y0 y1 y2))
 | 0 => fun _ _ _ r h => by simp [laws_heldIntS.l0] at h
 | k + 1 => by
  have ih0 := laws_heldIntS.mono_l k
  ·intro y0 y1 y2
   unfold laws_heldIntS.l0
   repeat' first | (with_reducible first | exact ih0 _ _ _ | exact lr_ | exact ln_ | refine LeO.ite ?_ ?_ | refine LeO.bind ?_ (fun _ => ?_)) | exact ih0 _ _ _ | exact ln_ | refine LeO.ite ?_ ?_ | refine LeO.bind ?_ (fun _ => ?_)
theorem laws_heldIntS.mono : ∀ a0 a1 k, LeO (laws_heldIntS.f k a0 a1) (laws_heldIntS.f (k + 1) a0 a1) := by
 intro a0 a1 k
 have ih0 := laws_heldIntS.mono_l k
 unfold laws_heldIntS.f
 repeat' first | (with_reducible first | exact ih0 _ _ _ | exact lr_ | exact ln_ | refine LeO.ite ?_ ?_ | refine LeO.bind ?_ (fun _ => ?_)) | exact ih0 _ _ _ | exact ln_ | refine LeO.ite ?_ ?_ | refine LeO.bind ?_ (fun _ => ?_)
set_option maxHeartbeats 8000000 in
set_option maxRecDepth 100000 in
theorem laws_heldIntS.calls (k : Nat) (A0 : Option Addr) (c0 : Nat) (l0 : List Int) (a1 : Int) (r : Int) (w : World) (hr0 : Kd.C (Kd.int .i64) w A0 l0.length l0) (hc0 : l0.length ≤ c0) (h : laws_heldIntS.f k l0 a1 = some r) :
  Calls Try.prog 18 #[.slice A0 l0.length c0, .int .i64 a1] w fun e w' => e = .returned (.int .i64 r) ∧ Drawn0 w w' := by
 have HR0 := Aside0.mk hr0
 have HC0 := Aside0.mk hc0
 clear hr0 hc0
 have H : (laws_heldIntS.l0 k l0 a1 0) = some r := h
 clear h
 have H' := Aside0.mk H
 clear H
 go_enter Try.func18, Try.ntmps18
 go_wp2
 go_loopg [1, 5] k (fun kq v1 v5 w' => ∃ (x1_1 : Int) (x5_1 : Int), v1 = .int .i64 x1_1 ∧ v5 = .int .i64 x5_1 ∧ Aside0 (laws_heldIntS.l0 kq l0 x1_1 x5_1 = some r) ∧ Aside0 (kq ≤ k) ∧ Drawn0 w w')
 case atStart => exact ⟨(a1), (0), sd_, sd_, H', ⟨Nat.le_refl _⟩, by repeat (first | exact Drawn0.refl _ | apply Drawn0.step)⟩
 case round =>
  clear H'
  try clear c1
  try clear p2
  obtain ⟨x1_1, x5_1, rfl, rfl, HA, HK1, ⟨m1, rfl⟩⟩ := hrel
  cases gk with
  | zero => exact absurd HA.out (by simp [laws_heldIntS.l0])
  | succ k1 =>
   have H := HA.out
   clear HA
   simp only [laws_heldIntS.l0] at H
   by_cases c3 : x5_1 < (l0.length : Int)
   rotate_left
   ·rw [if_neg c3] at H
    have c3b0 : decide (x5_1 < (l0.length : Int)) = false := decide_eq_false c3
    clear c3
    obtain rfl := Option.some.inj H
    go_wp2
    go_ret
    exact ⟨sd_, by repeat (first | exact Drawn0.refl _ | apply Drawn0.step)⟩
   rw [if_pos c3] at H
   have c3b0 : decide (x5_1 < (l0.length : Int)) = true := decide_eq_true c3
   clear c3
   by_cases c4 : 0 ≤ x5_1
   rotate_left
   ·rw [if_neg c4] at H
    exact absurd H (by simp)
   rw [if_pos c4] at H
   have c4b0 : decide (0 ≤ x5_1) = true := decide_eq_true c4
   clear c4
   by_cases c5 : (rd l0 x5_1) = x1_1
   rotate_left
   ·rw [if_neg c5] at H
    have c5b0 : ((rd l0 x5_1) == x1_1) = false := beq_eq_false_iff_ne.mpr c5
    have c5b1 : ((rd l0 x5_1) != x1_1) = true := bne_iff_ne.mpr c5
    obtain rfl := Option.some.inj H
    have p1 : 0 ≤ (x5_1 : Int) := od_
    have q1 : x5_1 < (l0.length : Int) := od_
    obtain ⟨ad1, e1, hx1_0⟩ := Kd.at_int HR0.out x5_1 p1 q1
    cases e1
    replace p1 := eq_true p1
    replace q1 := eq_true q1
    go_wp2
    go_ret
    exact ⟨sd_, by repeat (first | exact Drawn0.refl _ | apply Drawn0.step)⟩
   rw [if_pos c5] at H
   have c5b0 : ((rd l0 x5_1) == x1_1) = true := beq_iff_eq.mpr c5
   have c5b1 : ((rd l0 x5_1) != x1_1) = false := bne_eq_false_iff_eq.mpr c5
   clear c5
   have H' := Aside0.mk H
   clear H
   have p1 : 0 ≤ (x5_1 : Int) := od_
   have q1 : x5_1 < (l0.length : Int) := od_
   obtain ⟨ad1, e1, hx1_0⟩ := Kd.at_int HR0.out x5_1 p1 q1
   cases e1
   replace p1 := eq_true p1
   replace q1 := eq_true q1
   go_wp2
   go_roundg k1
   case measure => have := HK1.out; omega
   case rel => exact ⟨(wrap64 (x1_1 + 1)), (wrap64 (x5_1 + 1)), sd_, sd_, H', ⟨by have := HK1.out; omega⟩, by repeat (first | exact Drawn0.refl _ | apply Drawn0.step)⟩

/-! ### laws_heldMem: function 73 -/
def laws_heldMem.f (k : Nat) (l0_0 : List Int) (a1 : Int) : Option (Int) := (laws_heldIntS.f k l0_0 a1).bind fun t2 => (if t2 < 0 then (some (-1)) else (some t2))
theorem laws_heldMem.mono : ∀ a0 a1 k, LeO (laws_heldMem.f k a0 a1) (laws_heldMem.f (k + 1) a0 a1) := by
 intro a0 a1 k
 unfold laws_heldMem.f
 repeat' first | (with_reducible first | exact laws_heldIntS.mono _ _ _ | exact lr_ | exact ln_ | refine LeO.ite ?_ ?_ | refine LeO.bind ?_ (fun _ => ?_)) | exact laws_heldIntS.mono _ _ _ | exact ln_ | refine LeO.ite ?_ ?_ | refine LeO.bind ?_ (fun _ => ?_)
set_option maxHeartbeats 8000000 in
set_option maxRecDepth 100000 in
theorem laws_heldMem.calls (k : Nat) (A0_0 : Option Addr) (c0_0 : Nat) (l0_0 : List Int) (a1 : Int) (r : Int) (w : World) (hr0_0 : Kd.C (Kd.int .i64) w A0_0 l0_0.length l0_0) (hc0_0 : l0_0.length ≤ c0_0) (h : laws_heldMem.f k l0_0 a1 = some r) :
  Calls Try.prog 73 #[.agg #[.slice A0_0 l0_0.length c0_0], .int .i64 a1] w fun e w' => e = .returned (.int .i64 r) ∧ Below w.heap.size w w' := by
 have hu51 := Try.underlying51
 have HR0_0 := Aside0.mk hr0_0
 have HC0_0 := Aside0.mk hc0_0
 clear hr0_0 hc0_0
 have HB := Aside0.mk (Below.refl w.heap.size w)
 have H : ((laws_heldIntS.f k l0_0 a1).bind fun t2 => (if t2 < 0 then (some (-1)) else (some t2))) = some r := h
 clear h
 replace H := Option.bind_eq_some_iff.mp H
 obtain ⟨t2, A30, H⟩ := H
 replace H : (if t2 < 0 then (some (-1)) else (some t2)) = some r := H
 have A3 := Aside0.mk A30
 clear A30
 by_cases c4 : t2 < 0
 rotate_left
 ·rw [if_neg c4] at H
  have c4b0 : decide (t2 < 0) = false := decide_eq_false c4
  clear c4
  obtain rfl := Option.some.inj H
  go_enter Try.func73, Try.ntmps73
  go_wp2_with (first | ((with_reducible refine gate_dst (N := 2) rfl ?_); refine box_event ?hg (N := 2) ?hd (cs := #[.slice A0_0 l0_0.length c0_0]) (t := 51) ?hr ?_; (case hd => rfl); (case hg => rfl); (case hr => exact hr_); intro gb1 hg w7 hbox hb; have n0_ := bs_ hb; have n1_ := Aside0.mk (hbox); have n2_ := ge_ (w := w) hg; have n3_ := ge_ (w := w) hg; clear HB; have HB := n0_; have BK1 := n1_; have GW1 := n2_; have GE1 := n3_; clear n0_ n1_ n2_ n3_; clear hb hbox hg; obtain ⟨hcz8_0, hfz8_0⟩ := bc1_ BK1.out) | ((with_reducible refine gate_callee (f := 18) rfl ?_); refine goesL_ (some 8) rfl rfl Try.func18 (by kernel_rfl) rfl #[.slice A0_0 l0_0.length c0_0, .int .i64 a1] rfl ar_ ?_; (with_reducible refine (laws_heldIntS.calls k _ _ l0_0 a1 t2 _ ?side1 ?side2 A3.out).mono ?_); (case side1 => exact cb_); (case side2 => exact HC0_0.out); rintro e w' ⟨rfl, ⟨nd, rfl⟩⟩; refine ⟨_, rfl, ?_⟩))
  go_ret
  exact ⟨rr_, bw_⟩
 rw [if_pos c4] at H
 have c4b0 : decide (t2 < 0) = true := decide_eq_true c4
 clear c4
 obtain rfl := Option.some.inj H
 go_enter Try.func73, Try.ntmps73
 go_wp2_with (first | ((with_reducible refine gate_dst (N := 2) rfl ?_); refine box_event ?hg (N := 2) ?hd (cs := #[.slice A0_0 l0_0.length c0_0]) (t := 51) ?hr ?_; (case hd => rfl); (case hg => rfl); (case hr => exact hr_); intro gb1 hg w5 hbox hb; have n0_ := bs_ hb; have n1_ := Aside0.mk (hbox); have n2_ := ge_ (w := w) hg; have n3_ := ge_ (w := w) hg; clear HB; have HB := n0_; have BK1 := n1_; have GW1 := n2_; have GE1 := n3_; clear n0_ n1_ n2_ n3_; clear hb hbox hg; obtain ⟨hcz6_0, hfz6_0⟩ := bc1_ BK1.out) | ((with_reducible refine gate_callee (f := 18) rfl ?_); refine goesL_ (some 8) rfl rfl Try.func18 (by kernel_rfl) rfl #[.slice A0_0 l0_0.length c0_0, .int .i64 a1] rfl ar_ ?_; (with_reducible refine (laws_heldIntS.calls k _ _ l0_0 a1 t2 _ ?side1 ?side2 A3.out).mono ?_); (case side1 => exact cb_); (case side2 => exact HC0_0.out); rintro e w' ⟨rfl, ⟨nd, rfl⟩⟩; refine ⟨_, rfl, ?_⟩))
 go_ret
 exact ⟨rr_, bw_⟩

/-! ### laws_heldSlotS: function 110 -/
def laws_heldSlotS.l0 : Nat → List (S152) → Int → Int → Option (Int)
 | 0, _, _, _ => none
 | k + 1, x0, x1, x5 => if x5 < (x0.length : Int) then (if 0 ≤ x5 then (if ((rd_T152 x0 x5).f0) = x1 then (if ((rd_T152 x0 x5).f1) = (wrap64 (x1 + 1)) then (laws_heldSlotS.l0 k x0 (wrap64 ((wrap64 (x1 + 1)) + 1)) (wrap64 (x5 + 1))) else (some (-1))) else (some (-1))) else (none)) else (some x1)
def laws_heldSlotS.f (k : Nat) (l0 : List (S152)) (a1 : Int) : Option (Int) := laws_heldSlotS.l0 k l0 a1 0
theorem laws_heldSlotS.mono_l : ∀ k, (∀ y0 y1 y2, LeO (laws_heldSlotS.l0 k y0 y1 y2) (laws_heldSlotS.l0 (k + 1) y0 y1 y2))
 | 0 => fun _ _ _ r h => by simp [laws_heldSlotS.l0] at h
 | k + 1 => by
  have ih0 := laws_heldSlotS.mono_l k
  ·intro y0 y1 y2
   unfold laws_heldSlotS.l0
   repeat' first | (with_reducible first | exact ih0 _ _ _ | exact lr_ | exact ln_ | refine LeO.ite ?_ ?_ | refine LeO.bind ?_ (fun _ => ?_)) | exact ih0 _ _ _ | exact ln_ | refine LeO.ite ?_ ?_ | refine LeO.bind ?_ (fun _ => ?_)
theorem laws_heldSlotS.mono : ∀ a0 a1 k, LeO (laws_heldSlotS.f k a0 a1) (laws_heldSlotS.f (k + 1) a0 a1) := by
 intro a0 a1 k
 have ih0 := laws_heldSlotS.mono_l k
 unfold laws_heldSlotS.f
 repeat' first | (with_reducible first | exact ih0 _ _ _ | exact lr_ | exact ln_ | refine LeO.ite ?_ ?_ | refine LeO.bind ?_ (fun _ => ?_)) | exact ih0 _ _ _ | exact ln_ | refine LeO.ite ?_ ?_ | refine LeO.bind ?_ (fun _ => ?_)
set_option maxHeartbeats 8000000 in
set_option maxRecDepth 100000 in
theorem laws_heldSlotS.calls (k : Nat) (A0 : Option Addr) (c0 : Nat) (l0 : List (S152)) (a1 : Int) (r : Int) (w : World) (hr0 : Kd.C k152 w A0 l0.length l0) (hc0 : l0.length ≤ c0) (h : laws_heldSlotS.f k l0 a1 = some r) :
  Calls Try.prog 110 #[.slice A0 l0.length c0, .int .i64 a1] w fun e w' => e = .returned (.int .i64 r) ∧ Drawn0 w w' := by
 have HR0 := Aside0.mk hr0
 have HC0 := Aside0.mk hc0
 clear hr0 hc0
 have H : (laws_heldSlotS.l0 k l0 a1 0) = some r := h
 clear h
 have H' := Aside0.mk H
 clear H
 go_enter Try.func110, Try.ntmps110
 go_wp2
 go_loopg [1, 5] k (fun kq v1 v5 w' => ∃ (x1_1 : Int) (x5_1 : Int), v1 = .int .i64 x1_1 ∧ v5 = .int .i64 x5_1 ∧ Aside0 (laws_heldSlotS.l0 kq l0 x1_1 x5_1 = some r) ∧ Aside0 (kq ≤ k) ∧ Drawn0 w w')
 case atStart => exact ⟨(a1), (0), sd_, sd_, H', ⟨Nat.le_refl _⟩, by repeat (first | exact Drawn0.refl _ | apply Drawn0.step)⟩
 case round =>
  clear H'
  try clear c1
  try clear p2
  obtain ⟨x1_1, x5_1, rfl, rfl, HA, HK1, ⟨m1, rfl⟩⟩ := hrel
  cases gk with
  | zero => exact absurd HA.out (by simp [laws_heldSlotS.l0])
  | succ k1 =>
   have H := HA.out
   clear HA
   simp only [laws_heldSlotS.l0] at H
   by_cases c3 : x5_1 < (l0.length : Int)
   rotate_left
   ·rw [if_neg c3] at H
    have c3b0 : decide (x5_1 < (l0.length : Int)) = false := decide_eq_false c3
    clear c3
    obtain rfl := Option.some.inj H
    go_wp2
    go_ret
    exact ⟨sd_, by repeat (first | exact Drawn0.refl _ | apply Drawn0.step)⟩
   rw [if_pos c3] at H
   have c3b0 : decide (x5_1 < (l0.length : Int)) = true := decide_eq_true c3
   clear c3
   by_cases c4 : 0 ≤ x5_1
   rotate_left
   ·rw [if_neg c4] at H
    exact absurd H (by simp)
   rw [if_pos c4] at H
   have c4b0 : decide (0 ≤ x5_1) = true := decide_eq_true c4
   clear c4
   by_cases c5 : ((rd_T152 l0 x5_1).f0) = x1_1
   rotate_left
   ·rw [if_neg c5] at H
    have c5b0 : (((rd_T152 l0 x5_1).f0) == x1_1) = false := beq_eq_false_iff_ne.mpr c5
    have c5b1 : (((rd_T152 l0 x5_1).f0) != x1_1) = true := bne_iff_ne.mpr c5
    obtain rfl := Option.some.inj H
    have p1 : 0 ≤ (x5_1 : Int) := od_
    have q1 : x5_1 < (l0.length : Int) := od_
    obtain ⟨ad1, e1, hx1_0, hx1_1⟩ := at_T152 HR0.out x5_1 p1 q1
    cases e1
    replace p1 := eq_true p1
    replace q1 := eq_true q1
    go_wp2
    go_ret
    exact ⟨sd_, by repeat (first | exact Drawn0.refl _ | apply Drawn0.step)⟩
   rw [if_pos c5] at H
   have c5b0 : (((rd_T152 l0 x5_1).f0) == x1_1) = true := beq_iff_eq.mpr c5
   have c5b1 : (((rd_T152 l0 x5_1).f0) != x1_1) = false := bne_eq_false_iff_eq.mpr c5
   clear c5
   by_cases c6 : ((rd_T152 l0 x5_1).f1) = (wrap64 (x1_1 + 1))
   rotate_left
   ·rw [if_neg c6] at H
    have c6b0 : (((rd_T152 l0 x5_1).f1) == (wrap64 (x1_1 + 1))) = false := beq_eq_false_iff_ne.mpr c6
    have c6b1 : (((rd_T152 l0 x5_1).f1) != (wrap64 (x1_1 + 1))) = true := bne_iff_ne.mpr c6
    obtain rfl := Option.some.inj H
    have p1 : 0 ≤ (x5_1 : Int) := od_
    have q1 : x5_1 < (l0.length : Int) := od_
    obtain ⟨ad1, e1, hx1_0, hx1_1⟩ := at_T152 HR0.out x5_1 p1 q1
    cases e1
    replace p1 := eq_true p1
    replace q1 := eq_true q1
    have p2 : 0 ≤ (x5_1 : Int) := od_
    have q2 : x5_1 < (l0.length : Int) := od_
    obtain ⟨ad2, e2, hx2_0, hx2_1⟩ := at_T152 HR0.out x5_1 p2 q2
    obtain rfl : ad1 = ad2 := (by injection e2)
    replace p2 := eq_true p2
    replace q2 := eq_true q2
    go_wp2
    go_ret
    exact ⟨sd_, by repeat (first | exact Drawn0.refl _ | apply Drawn0.step)⟩
   rw [if_pos c6] at H
   have c6b0 : (((rd_T152 l0 x5_1).f1) == (wrap64 (x1_1 + 1))) = true := beq_iff_eq.mpr c6
   have c6b1 : (((rd_T152 l0 x5_1).f1) != (wrap64 (x1_1 + 1))) = false := bne_eq_false_iff_eq.mpr c6
   clear c6
   have H' := Aside0.mk H
   clear H
   have p1 : 0 ≤ (x5_1 : Int) := od_
   have q1 : x5_1 < (l0.length : Int) := od_
   obtain ⟨ad1, e1, hx1_0, hx1_1⟩ := at_T152 HR0.out x5_1 p1 q1
   cases e1
   replace p1 := eq_true p1
   replace q1 := eq_true q1
   have p2 : 0 ≤ (x5_1 : Int) := od_
   have q2 : x5_1 < (l0.length : Int) := od_
   obtain ⟨ad2, e2, hx2_0, hx2_1⟩ := at_T152 HR0.out x5_1 p2 q2
   obtain rfl : ad1 = ad2 := (by injection e2)
   replace p2 := eq_true p2
   replace q2 := eq_true q2
   go_wp2
   go_roundg k1
   case measure => have := HK1.out; omega
   case rel => exact ⟨(wrap64 ((wrap64 (x1_1 + 1)) + 1)), (wrap64 (x5_1 + 1)), sd_, sd_, H', ⟨by have := HK1.out; omega⟩, by repeat (first | exact Drawn0.refl _ | apply Drawn0.step)⟩

/-! ### laws_heldThreadS: function 74 -/
def laws_heldThreadS.l0 : Nat → List (S102) → Int → Int → Option (Int)
 | 0, _, _, _ => none
 | k + 1, x0, x1, x5 => if x5 < (x0.length : Int) then (if 0 ≤ x5 then (if ((rd_T102 x0 x5).f0) = x1 then ((laws_heldIntS.f k ((rd_T102 x0 x5).f1) (wrap64 (x1 + 1))).bind fun t3 => (if t3 < 0 then (some (-1)) else ((laws_heldSlotS.f k ((rd_T102 x0 x5).f2) t3).bind fun t5 => (if t5 < 0 then (some (-1)) else (laws_heldThreadS.l0 k x0 t5 (wrap64 (x5 + 1))))))) else (some (-1))) else (none)) else (some x1)
def laws_heldThreadS.f (k : Nat) (l0 : List (S102)) (a1 : Int) : Option (Int) := laws_heldThreadS.l0 k l0 a1 0
theorem laws_heldThreadS.mono_l : ∀ k, (∀ y0 y1 y2, LeO (laws_heldThreadS.l0 k y0 y1 y2) (laws_heldThreadS.l0 (k + 1) y0 y1 y2))
 | 0 => fun _ _ _ r h => by simp [laws_heldThreadS.l0] at h
 | k + 1 => by
  have ih0 := laws_heldThreadS.mono_l k
  ·intro y0 y1 y2
   unfold laws_heldThreadS.l0
   repeat' first | (with_reducible first | exact ih0 _ _ _ | exact laws_heldIntS.mono _ _ _ | exact laws_heldSlotS.mono _ _ _ | exact lr_ | exact ln_ | refine LeO.ite ?_ ?_ | refine LeO.bind ?_ (fun _ => ?_)) | exact ih0 _ _ _ | exact laws_heldIntS.mono _ _ _ | exact laws_heldSlotS.mono _ _ _ | exact ln_ | refine LeO.ite ?_ ?_ | refine LeO.bind ?_ (fun _ => ?_)
theorem laws_heldThreadS.mono : ∀ a0 a1 k, LeO (laws_heldThreadS.f k a0 a1) (laws_heldThreadS.f (k + 1) a0 a1) := by
 intro a0 a1 k
 have ih0 := laws_heldThreadS.mono_l k
 unfold laws_heldThreadS.f
 repeat' first | (with_reducible first | exact ih0 _ _ _ | exact laws_heldIntS.mono _ _ _ | exact laws_heldSlotS.mono _ _ _ | exact lr_ | exact ln_ | refine LeO.ite ?_ ?_ | refine LeO.bind ?_ (fun _ => ?_)) | exact ih0 _ _ _ | exact laws_heldIntS.mono _ _ _ | exact laws_heldSlotS.mono _ _ _ | exact ln_ | refine LeO.ite ?_ ?_ | refine LeO.bind ?_ (fun _ => ?_)
set_option maxHeartbeats 8000000 in
set_option maxRecDepth 100000 in
theorem laws_heldThreadS.calls (k : Nat) (A0 : Option Addr) (c0 : Nat) (l0 : List (S102)) (a1 : Int) (r : Int) (w : World) (hr0 : Kd.C k102 w A0 l0.length l0) (hc0 : l0.length ≤ c0) (h : laws_heldThreadS.f k l0 a1 = some r) :
  Calls Try.prog 74 #[.slice A0 l0.length c0, .int .i64 a1] w fun e w' => e = .returned (.int .i64 r) ∧ Drawn0 w w' := by
 have HR0 := Aside0.mk hr0
 have HC0 := Aside0.mk hc0
 clear hr0 hc0
 have H : (laws_heldThreadS.l0 k l0 a1 0) = some r := h
 clear h
 have H' := Aside0.mk H
 clear H
 go_enter Try.func74, Try.ntmps74
 go_wp2
 go_loopg [1, 5] k (fun kq v1 v5 w' => ∃ (x1_1 : Int) (x5_1 : Int), v1 = .int .i64 x1_1 ∧ v5 = .int .i64 x5_1 ∧ Aside0 (laws_heldThreadS.l0 kq l0 x1_1 x5_1 = some r) ∧ Aside0 (kq ≤ k) ∧ Drawn0 w w')
 case atStart => exact ⟨(a1), (0), sd_, sd_, H', ⟨Nat.le_refl _⟩, by repeat (first | exact Drawn0.refl _ | apply Drawn0.step)⟩
 case round =>
  clear H'
  try clear p2
  obtain ⟨x1_1, x5_1, rfl, rfl, HA, HK1, ⟨m1, rfl⟩⟩ := hrel
  cases gk with
  | zero => exact absurd HA.out (by simp [laws_heldThreadS.l0])
  | succ k1 =>
   have H := HA.out
   clear HA
   simp only [laws_heldThreadS.l0] at H
   by_cases c3 : x5_1 < (l0.length : Int)
   rotate_left
   ·rw [if_neg c3] at H
    have c3b0 : decide (x5_1 < (l0.length : Int)) = false := decide_eq_false c3
    clear c3
    obtain rfl := Option.some.inj H
    go_wp2
    go_ret
    exact ⟨sd_, by repeat (first | exact Drawn0.refl _ | apply Drawn0.step)⟩
   rw [if_pos c3] at H
   have c3b0 : decide (x5_1 < (l0.length : Int)) = true := decide_eq_true c3
   clear c3
   by_cases c4 : 0 ≤ x5_1
   rotate_left
   ·rw [if_neg c4] at H
    exact absurd H (by simp)
   rw [if_pos c4] at H
   have c4b0 : decide (0 ≤ x5_1) = true := decide_eq_true c4
   clear c4
   by_cases c5 : ((rd_T102 l0 x5_1).f0) = x1_1
   rotate_left
   ·rw [if_neg c5] at H
    have c5b0 : (((rd_T102 l0 x5_1).f0) == x1_1) = false := beq_eq_false_iff_ne.mpr c5
    have c5b1 : (((rd_T102 l0 x5_1).f0) != x1_1) = true := bne_iff_ne.mpr c5
    obtain rfl := Option.some.inj H
    have p1 : 0 ≤ (x5_1 : Int) := od_
    have q1 : x5_1 < (l0.length : Int) := od_
    obtain ⟨ad1, A1_1, c1_1, A1_2, c1_2, e1, hx1_0, hx1_1, hx1_2, hl1_1, hi1_1, hl1_2, hi1_2⟩ := at_T102 HR0.out x5_1 p1 q1
    cases e1
    have HR1_1 := Aside0.mk hi1_1
    have HC1_1 := Aside0.mk hl1_1
    clear hi1_1 hl1_1
    have HR1_2 := Aside0.mk hi1_2
    have HC1_2 := Aside0.mk hl1_2
    clear hi1_2 hl1_2
    replace p1 := eq_true p1
    replace q1 := eq_true q1
    go_wp2
    go_ret
    exact ⟨sd_, by repeat (first | exact Drawn0.refl _ | apply Drawn0.step)⟩
   rw [if_pos c5] at H
   have c5b0 : (((rd_T102 l0 x5_1).f0) == x1_1) = true := beq_iff_eq.mpr c5
   have c5b1 : (((rd_T102 l0 x5_1).f0) != x1_1) = false := bne_eq_false_iff_eq.mpr c5
   clear c5
   replace H := Option.bind_eq_some_iff.mp H
   obtain ⟨t3, A60, H⟩ := H
   replace H : (if t3 < 0 then (some (-1)) else ((laws_heldSlotS.f k1 ((rd_T102 l0 x5_1).f2) t3).bind fun t5 => (if t5 < 0 then (some (-1)) else (laws_heldThreadS.l0 k1 l0 t5 (wrap64 (x5_1 + 1)))))) = some r := H
   have A6 := Aside0.mk A60
   clear A60
   by_cases c7 : t3 < 0
   ·rw [if_pos c7] at H
    have c7b0 : decide (t3 < 0) = true := decide_eq_true c7
    clear c7
    obtain rfl := Option.some.inj H
    have p1 : 0 ≤ (x5_1 : Int) := od_
    have q1 : x5_1 < (l0.length : Int) := od_
    obtain ⟨ad1, A1_1, c1_1, A1_2, c1_2, e1, hx1_0, hx1_1, hx1_2, hl1_1, hi1_1, hl1_2, hi1_2⟩ := at_T102 HR0.out x5_1 p1 q1
    cases e1
    have HR1_1 := Aside0.mk hi1_1
    have HC1_1 := Aside0.mk hl1_1
    clear hi1_1 hl1_1
    have HR1_2 := Aside0.mk hi1_2
    have HC1_2 := Aside0.mk hl1_2
    clear hi1_2 hl1_2
    replace p1 := eq_true p1
    replace q1 := eq_true q1
    have p2 : 0 ≤ (x5_1 : Int) := od_
    have q2 : x5_1 < (l0.length : Int) := od_
    obtain ⟨ad2, A2_1, c2_1, A2_2, c2_2, e2, hx2_0, hx2_1, hx2_2, hl2_1, hi2_1, hl2_2, hi2_2⟩ := at_T102 HR0.out x5_1 p2 q2
    obtain rfl : ad1 = ad2 := (by injection e2)
    have HR2_1 := Aside0.mk hi2_1
    have HC2_1 := Aside0.mk hl2_1
    clear hi2_1 hl2_1
    have HR2_2 := Aside0.mk hi2_2
    have HC2_2 := Aside0.mk hl2_2
    clear hi2_2 hl2_2
    replace p2 := eq_true p2
    replace q2 := eq_true q2
    have ea_ := Option.some.inj (hx1_1.symm.trans hx2_1)
    injection ea_ with ea_ en_ ec_
    subst ea_
    subst ec_
    clear en_
    have ea_ := Option.some.inj (hx1_2.symm.trans hx2_2)
    injection ea_ with ea_ en_ ec_
    subst ea_
    subst ec_
    clear en_
    go_wp2_with (first | ((with_reducible refine gate_callee (f := 18) rfl ?_); refine goesL_ (some 27) rfl rfl Try.func18 (by kernel_rfl) rfl #[.slice A1_1 ((rd_T102 l0 x5_1).f1).length c1_1, .int .i64 (wrap64 (x1_1 + 1))] rfl ar_ ?_; (with_reducible refine (laws_heldIntS.calls k1 _ _ ((rd_T102 l0 x5_1).f1) (wrap64 (x1_1 + 1)) t3 _ ?side1 ?side2 A6.out).mono ?_); (case side1 => repeat (first | exact HR2_1.out | (with_reducible refine Kd.C_alloc ?_ _) | (with_reducible refine Kd.C_drewN ?_ _) | (with_reducible refine Kd.C_drew ?_))); (case side2 => exact HC2_1.out); rintro e w' ⟨rfl, ⟨nd, rfl⟩⟩; refine ⟨_, rfl, ?_⟩))
    go_ret
    exact ⟨sd_, by repeat (first | exact Drawn0.refl _ | apply Drawn0.step)⟩
   rw [if_neg c7] at H
   have c7b0 : decide (t3 < 0) = false := decide_eq_false c7
   clear c7
   replace H := Option.bind_eq_some_iff.mp H
   obtain ⟨t5, A80, H⟩ := H
   replace H : (if t5 < 0 then (some (-1)) else (laws_heldThreadS.l0 k1 l0 t5 (wrap64 (x5_1 + 1)))) = some r := H
   have A8 := Aside0.mk A80
   clear A80
   by_cases c9 : t5 < 0
   ·rw [if_pos c9] at H
    have c9b0 : decide (t5 < 0) = true := decide_eq_true c9
    clear c9
    obtain rfl := Option.some.inj H
    have p1 : 0 ≤ (x5_1 : Int) := od_
    have q1 : x5_1 < (l0.length : Int) := od_
    obtain ⟨ad1, A1_1, c1_1, A1_2, c1_2, e1, hx1_0, hx1_1, hx1_2, hl1_1, hi1_1, hl1_2, hi1_2⟩ := at_T102 HR0.out x5_1 p1 q1
    cases e1
    have HR1_1 := Aside0.mk hi1_1
    have HC1_1 := Aside0.mk hl1_1
    clear hi1_1 hl1_1
    have HR1_2 := Aside0.mk hi1_2
    have HC1_2 := Aside0.mk hl1_2
    clear hi1_2 hl1_2
    replace p1 := eq_true p1
    replace q1 := eq_true q1
    have p2 : 0 ≤ (x5_1 : Int) := od_
    have q2 : x5_1 < (l0.length : Int) := od_
    obtain ⟨ad2, A2_1, c2_1, A2_2, c2_2, e2, hx2_0, hx2_1, hx2_2, hl2_1, hi2_1, hl2_2, hi2_2⟩ := at_T102 HR0.out x5_1 p2 q2
    obtain rfl : ad1 = ad2 := (by injection e2)
    have HR2_1 := Aside0.mk hi2_1
    have HC2_1 := Aside0.mk hl2_1
    clear hi2_1 hl2_1
    have HR2_2 := Aside0.mk hi2_2
    have HC2_2 := Aside0.mk hl2_2
    clear hi2_2 hl2_2
    replace p2 := eq_true p2
    replace q2 := eq_true q2
    have ea_ := Option.some.inj (hx1_1.symm.trans hx2_1)
    injection ea_ with ea_ en_ ec_
    subst ea_
    subst ec_
    clear en_
    have ea_ := Option.some.inj (hx1_2.symm.trans hx2_2)
    injection ea_ with ea_ en_ ec_
    subst ea_
    subst ec_
    clear en_
    go_wp2_with (first | ((with_reducible refine gate_callee (f := 18) rfl ?_); refine goesL_ (some 27) rfl rfl Try.func18 (by kernel_rfl) rfl #[.slice A1_1 ((rd_T102 l0 x5_1).f1).length c1_1, .int .i64 (wrap64 (x1_1 + 1))] rfl ar_ ?_; (with_reducible refine (laws_heldIntS.calls k1 _ _ ((rd_T102 l0 x5_1).f1) (wrap64 (x1_1 + 1)) t3 _ ?side1 ?side2 A6.out).mono ?_); (case side1 => repeat (first | exact HR2_1.out | (with_reducible refine Kd.C_alloc ?_ _) | (with_reducible refine Kd.C_drewN ?_ _) | (with_reducible refine Kd.C_drew ?_))); (case side2 => exact HC2_1.out); rintro e w' ⟨rfl, ⟨nd, rfl⟩⟩; refine ⟨_, rfl, ?_⟩; have p4 : 0 ≤ (x5_1 : Int) := od_; have q4 : x5_1 < (l0.length : Int) := od_; obtain ⟨ad4, A4_1, c4_1, A4_2, c4_2, e4, hx4_0, hx4_1, hx4_2, hl4_1, hi4_1, hl4_2, hi4_2⟩ := at_T102 HR0.out x5_1 p4 q4; obtain rfl : ad1 = ad4 := (by injection e4); have HR4_1 := Aside0.mk hi4_1; have HC4_1 := Aside0.mk hl4_1; clear hi4_1 hl4_1; have HR4_2 := Aside0.mk hi4_2; have HC4_2 := Aside0.mk hl4_2; clear hi4_2 hl4_2; replace p4 := eq_true p4; replace q4 := eq_true q4; have ea_ := Option.some.inj (hx1_1.symm.trans hx4_1); injection ea_ with ea_ en_ ec_; subst ea_; subst ec_; clear en_; have ea_ := Option.some.inj (hx1_2.symm.trans hx4_2); injection ea_ with ea_ en_ ec_; subst ea_; subst ec_; clear en_) | ((with_reducible refine gate_callee (f := 110) rfl ?_); refine goesL_ (some 36) rfl rfl Try.func110 (by kernel_rfl) rfl #[.slice A1_2 ((rd_T102 l0 x5_1).f2).length c1_2, .int .i64 t3] rfl ar_ ?_; (with_reducible refine (laws_heldSlotS.calls k1 _ _ ((rd_T102 l0 x5_1).f2) t3 t5 _ ?side1 ?side2 A8.out).mono ?_); (case side1 => repeat (first | exact HR4_2.out | (with_reducible refine Kd.C_alloc ?_ _) | (with_reducible refine Kd.C_drewN ?_ _) | (with_reducible refine Kd.C_drew ?_))); (case side2 => exact HC4_2.out); rintro e w' ⟨rfl, ⟨nd, rfl⟩⟩; refine ⟨_, rfl, ?_⟩))
    go_ret
    exact ⟨sd_, by repeat (first | exact Drawn0.refl _ | apply Drawn0.step)⟩
   rw [if_neg c9] at H
   have c9b0 : decide (t5 < 0) = false := decide_eq_false c9
   clear c9
   have H' := Aside0.mk H
   clear H
   have p1 : 0 ≤ (x5_1 : Int) := od_
   have q1 : x5_1 < (l0.length : Int) := od_
   obtain ⟨ad1, A1_1, c1_1, A1_2, c1_2, e1, hx1_0, hx1_1, hx1_2, hl1_1, hi1_1, hl1_2, hi1_2⟩ := at_T102 HR0.out x5_1 p1 q1
   cases e1
   have HR1_1 := Aside0.mk hi1_1
   have HC1_1 := Aside0.mk hl1_1
   clear hi1_1 hl1_1
   have HR1_2 := Aside0.mk hi1_2
   have HC1_2 := Aside0.mk hl1_2
   clear hi1_2 hl1_2
   replace p1 := eq_true p1
   replace q1 := eq_true q1
   have p2 : 0 ≤ (x5_1 : Int) := od_
   have q2 : x5_1 < (l0.length : Int) := od_
   obtain ⟨ad2, A2_1, c2_1, A2_2, c2_2, e2, hx2_0, hx2_1, hx2_2, hl2_1, hi2_1, hl2_2, hi2_2⟩ := at_T102 HR0.out x5_1 p2 q2
   obtain rfl : ad1 = ad2 := (by injection e2)
   have HR2_1 := Aside0.mk hi2_1
   have HC2_1 := Aside0.mk hl2_1
   clear hi2_1 hl2_1
   have HR2_2 := Aside0.mk hi2_2
   have HC2_2 := Aside0.mk hl2_2
   clear hi2_2 hl2_2
   replace p2 := eq_true p2
   replace q2 := eq_true q2
   have ea_ := Option.some.inj (hx1_1.symm.trans hx2_1)
   injection ea_ with ea_ en_ ec_
   subst ea_
   subst ec_
   clear en_
   have ea_ := Option.some.inj (hx1_2.symm.trans hx2_2)
   injection ea_ with ea_ en_ ec_
   subst ea_
   subst ec_
   clear en_
   go_wp2_with (first | ((with_reducible refine gate_callee (f := 18) rfl ?_); refine goesL_ (some 27) rfl rfl Try.func18 (by kernel_rfl) rfl #[.slice A1_1 ((rd_T102 l0 x5_1).f1).length c1_1, .int .i64 (wrap64 (x1_1 + 1))] rfl ar_ ?_; (with_reducible refine (laws_heldIntS.calls k1 _ _ ((rd_T102 l0 x5_1).f1) (wrap64 (x1_1 + 1)) t3 _ ?side1 ?side2 A6.out).mono ?_); (case side1 => repeat (first | exact HR2_1.out | (with_reducible refine Kd.C_alloc ?_ _) | (with_reducible refine Kd.C_drewN ?_ _) | (with_reducible refine Kd.C_drew ?_))); (case side2 => exact HC2_1.out); rintro e w' ⟨rfl, ⟨nd, rfl⟩⟩; refine ⟨_, rfl, ?_⟩; have p4 : 0 ≤ (x5_1 : Int) := od_; have q4 : x5_1 < (l0.length : Int) := od_; obtain ⟨ad4, A4_1, c4_1, A4_2, c4_2, e4, hx4_0, hx4_1, hx4_2, hl4_1, hi4_1, hl4_2, hi4_2⟩ := at_T102 HR0.out x5_1 p4 q4; obtain rfl : ad1 = ad4 := (by injection e4); have HR4_1 := Aside0.mk hi4_1; have HC4_1 := Aside0.mk hl4_1; clear hi4_1 hl4_1; have HR4_2 := Aside0.mk hi4_2; have HC4_2 := Aside0.mk hl4_2; clear hi4_2 hl4_2; replace p4 := eq_true p4; replace q4 := eq_true q4; have ea_ := Option.some.inj (hx1_1.symm.trans hx4_1); injection ea_ with ea_ en_ ec_; subst ea_; subst ec_; clear en_; have ea_ := Option.some.inj (hx1_2.symm.trans hx4_2); injection ea_ with ea_ en_ ec_; subst ea_; subst ec_; clear en_) | ((with_reducible refine gate_callee (f := 110) rfl ?_); refine goesL_ (some 36) rfl rfl Try.func110 (by kernel_rfl) rfl #[.slice A1_2 ((rd_T102 l0 x5_1).f2).length c1_2, .int .i64 t3] rfl ar_ ?_; (with_reducible refine (laws_heldSlotS.calls k1 _ _ ((rd_T102 l0 x5_1).f2) t3 t5 _ ?side1 ?side2 A8.out).mono ?_); (case side1 => repeat (first | exact HR4_2.out | (with_reducible refine Kd.C_alloc ?_ _) | (with_reducible refine Kd.C_drewN ?_ _) | (with_reducible refine Kd.C_drew ?_))); (case side2 => exact HC4_2.out); rintro e w' ⟨rfl, ⟨nd, rfl⟩⟩; refine ⟨_, rfl, ?_⟩))
   go_roundg k1
   case measure => have := HK1.out; omega
   case rel => exact ⟨(t5), (wrap64 (x5_1 + 1)), sd_, sd_, H', ⟨by have := HK1.out; omega⟩, by repeat (first | exact Drawn0.refl _ | apply Drawn0.step)⟩

/-! ### laws_heldMachine: function 35 -/
def laws_heldMachine.f (k : Nat) (l0_0 : List Int) (l0_1 : List (S102)) (a1 : Int) : Option (Int) := (laws_heldMem.f k l0_0 a1).bind fun t2 => (if t2 < 0 then (some (-1)) else ((laws_heldThreadS.f k l0_1 t2).bind fun t3 => (if t3 < 0 then (some (-1)) else (some t3))))
theorem laws_heldMachine.mono : ∀ a0 a1 a2 k, LeO (laws_heldMachine.f k a0 a1 a2) (laws_heldMachine.f (k + 1) a0 a1 a2) := by
 intro a0 a1 a2 k
 unfold laws_heldMachine.f
 repeat' first | (with_reducible first | exact laws_heldMem.mono _ _ _ | exact laws_heldThreadS.mono _ _ _ | exact lr_ | exact ln_ | refine LeO.ite ?_ ?_ | refine LeO.bind ?_ (fun _ => ?_)) | exact laws_heldMem.mono _ _ _ | exact laws_heldThreadS.mono _ _ _ | exact ln_ | refine LeO.ite ?_ ?_ | refine LeO.bind ?_ (fun _ => ?_)
set_option maxHeartbeats 8000000 in
set_option maxRecDepth 100000 in
theorem laws_heldMachine.calls (k : Nat) (A0_0 : Option Addr) (c0_0 : Nat) (l0_0 : List Int) (A0_1 : Option Addr) (c0_1 : Nat) (l0_1 : List (S102)) (a1 : Int) (r : Int) (w : World) (hr0_0 : Kd.C (Kd.int .i64) w A0_0 l0_0.length l0_0) (hc0_0 : l0_0.length ≤ c0_0) (hr0_1 : Kd.C k102 w A0_1 l0_1.length l0_1) (hc0_1 : l0_1.length ≤ c0_1) (h : laws_heldMachine.f k l0_0 l0_1 a1 = some r) :
  Calls Try.prog 35 #[.agg #[.slice A0_0 l0_0.length c0_0, .slice A0_1 l0_1.length c0_1], .int .i64 a1] w fun e w' => e = .returned (.int .i64 r) ∧ Below w.heap.size w w' := by
 have hu54 := Try.underlying54
 have hu51 := Try.underlying51
 have HR0_0 := Aside0.mk hr0_0
 have HC0_0 := Aside0.mk hc0_0
 clear hr0_0 hc0_0
 have HR0_1 := Aside0.mk hr0_1
 have HC0_1 := Aside0.mk hc0_1
 clear hr0_1 hc0_1
 have HB := Aside0.mk (Below.refl w.heap.size w)
 have H : ((laws_heldMem.f k l0_0 a1).bind fun t2 => (if t2 < 0 then (some (-1)) else ((laws_heldThreadS.f k l0_1 t2).bind fun t3 => (if t3 < 0 then (some (-1)) else (some t3))))) = some r := h
 clear h
 replace H := Option.bind_eq_some_iff.mp H
 obtain ⟨t2, A30, H⟩ := H
 replace H : (if t2 < 0 then (some (-1)) else ((laws_heldThreadS.f k l0_1 t2).bind fun t3 => (if t3 < 0 then (some (-1)) else (some t3)))) = some r := H
 have A3 := Aside0.mk A30
 clear A30
 by_cases c4 : t2 < 0
 ·rw [if_pos c4] at H
  have c4b0 : decide (t2 < 0) = true := decide_eq_true c4
  clear c4
  obtain rfl := Option.some.inj H
  go_enter Try.func35, Try.ntmps35
  go_wp2_with (first | ((with_reducible refine gate_dst (N := 2) rfl ?_); refine box_event ?hg (N := 2) ?hd (cs := #[.slice A0_0 l0_0.length c0_0, .slice A0_1 l0_1.length c0_1]) (t := 54) ?hr ?_; (case hd => rfl); (case hg => rfl); (case hr => exact hr_); intro gb1 hg w5 hbox hb; have n0_ := bs_ hb; have n1_ := Aside0.mk (hbox); have n2_ := ge_ (w := w) hg; have n3_ := ge_ (w := w) hg; clear HB; have HB := n0_; have BK1 := n1_; have GW1 := n2_; have GE1 := n3_; clear n0_ n1_ n2_ n3_; clear hb hbox hg; obtain ⟨hcz6_0, hcz6_1, hfz6_0, hfz6_1⟩ := bc2_ BK1.out) | ((with_reducible refine gate_callee (f := 73) rfl ?_); refine goesL_ (some 8) rfl rfl Try.func73 (by kernel_rfl) rfl #[.agg #[.slice A0_0 l0_0.length c0_0], .int .i64 a1] rfl ar_ ?_; (with_reducible refine (laws_heldMem.calls k _ _ l0_0 a1 t2 _ ?side1 ?side2 A3.out).mono ?_); (case side1 => exact cb_); (case side2 => exact HC0_0.out); rintro e w7 ⟨rfl, hb⟩; refine ⟨_, rfl, ?_⟩; have n0_ := bb_ BK1.out hb; have n1_ := bs_ hb; clear BK1; clear HB; have BK1 := n0_; have HB := n1_; clear n0_ n1_; (try clear hb); (try clear hb2); (try clear hk); (try clear hi)))
  go_ret
  exact ⟨rr_, bw_⟩
 rw [if_neg c4] at H
 have c4b0 : decide (t2 < 0) = false := decide_eq_false c4
 clear c4
 replace H := Option.bind_eq_some_iff.mp H
 obtain ⟨t3, A80, H⟩ := H
 replace H : (if t3 < 0 then (some (-1)) else (some t3)) = some r := H
 have A8 := Aside0.mk A80
 clear A80
 by_cases c9 : t3 < 0
 rotate_left
 ·rw [if_neg c9] at H
  have c9b0 : decide (t3 < 0) = false := decide_eq_false c9
  clear c9
  obtain rfl := Option.some.inj H
  go_enter Try.func35, Try.ntmps35
  go_wp2_with (first | ((with_reducible refine gate_dst (N := 2) rfl ?_); refine box_event ?hg (N := 2) ?hd (cs := #[.slice A0_0 l0_0.length c0_0, .slice A0_1 l0_1.length c0_1]) (t := 54) ?hr ?_; (case hd => rfl); (case hg => rfl); (case hr => exact hr_); intro gb1 hg w14 hbox hb; have n0_ := bs_ hb; have n1_ := Aside0.mk (hbox); have n2_ := ge_ (w := w) hg; have n3_ := ge_ (w := w) hg; clear HB; have HB := n0_; have BK1 := n1_; have GW1 := n2_; have GE1 := n3_; clear n0_ n1_ n2_ n3_; clear hb hbox hg; obtain ⟨hcz15_0, hcz15_1, hfz15_0, hfz15_1⟩ := bc2_ BK1.out) | ((with_reducible refine gate_callee (f := 73) rfl ?_); refine goesL_ (some 8) rfl rfl Try.func73 (by kernel_rfl) rfl #[.agg #[.slice A0_0 l0_0.length c0_0], .int .i64 a1] rfl ar_ ?_; (with_reducible refine (laws_heldMem.calls k _ _ l0_0 a1 t2 _ ?side1 ?side2 A3.out).mono ?_); (case side1 => exact cb_); (case side2 => exact HC0_0.out); rintro e w16 ⟨rfl, hb⟩; refine ⟨_, rfl, ?_⟩; have n0_ := bb_ BK1.out hb; have n1_ := bs_ hb; clear BK1; clear HB; have BK1 := n0_; have HB := n1_; clear n0_ n1_; (try clear hb); (try clear hb2); (try clear hk); (try clear hi); obtain ⟨hcz17_0, hcz17_1, hfz17_0, hfz17_1⟩ := bc2_ BK1.out) | ((with_reducible refine gate_callee (f := 74) rfl ?_); refine goesL_ (some 14) rfl rfl Try.func74 (by kernel_rfl) rfl #[.slice A0_1 l0_1.length c0_1, .int .i64 t2] rfl ar_ ?_; (with_reducible refine (laws_heldThreadS.calls k _ _ l0_1 t2 t3 _ ?side1 ?side2 A8.out).mono ?_); (case side1 => exact cb_); (case side2 => exact HC0_1.out); rintro e w' ⟨rfl, ⟨nd, rfl⟩⟩; refine ⟨_, rfl, ?_⟩))
  go_ret
  exact ⟨rr_, bw_⟩
 rw [if_pos c9] at H
 have c9b0 : decide (t3 < 0) = true := decide_eq_true c9
 clear c9
 obtain rfl := Option.some.inj H
 go_enter Try.func35, Try.ntmps35
 go_wp2_with (first | ((with_reducible refine gate_dst (N := 2) rfl ?_); refine box_event ?hg (N := 2) ?hd (cs := #[.slice A0_0 l0_0.length c0_0, .slice A0_1 l0_1.length c0_1]) (t := 54) ?hr ?_; (case hd => rfl); (case hg => rfl); (case hr => exact hr_); intro gb1 hg w10 hbox hb; have n0_ := bs_ hb; have n1_ := Aside0.mk (hbox); have n2_ := ge_ (w := w) hg; have n3_ := ge_ (w := w) hg; clear HB; have HB := n0_; have BK1 := n1_; have GW1 := n2_; have GE1 := n3_; clear n0_ n1_ n2_ n3_; clear hb hbox hg; obtain ⟨hcz11_0, hcz11_1, hfz11_0, hfz11_1⟩ := bc2_ BK1.out) | ((with_reducible refine gate_callee (f := 73) rfl ?_); refine goesL_ (some 8) rfl rfl Try.func73 (by kernel_rfl) rfl #[.agg #[.slice A0_0 l0_0.length c0_0], .int .i64 a1] rfl ar_ ?_; (with_reducible refine (laws_heldMem.calls k _ _ l0_0 a1 t2 _ ?side1 ?side2 A3.out).mono ?_); (case side1 => exact cb_); (case side2 => exact HC0_0.out); rintro e w12 ⟨rfl, hb⟩; refine ⟨_, rfl, ?_⟩; have n0_ := bb_ BK1.out hb; have n1_ := bs_ hb; clear BK1; clear HB; have BK1 := n0_; have HB := n1_; clear n0_ n1_; (try clear hb); (try clear hb2); (try clear hk); (try clear hi); obtain ⟨hcz13_0, hcz13_1, hfz13_0, hfz13_1⟩ := bc2_ BK1.out) | ((with_reducible refine gate_callee (f := 74) rfl ?_); refine goesL_ (some 14) rfl rfl Try.func74 (by kernel_rfl) rfl #[.slice A0_1 l0_1.length c0_1, .int .i64 t2] rfl ar_ ?_; (with_reducible refine (laws_heldThreadS.calls k _ _ l0_1 t2 t3 _ ?side1 ?side2 A8.out).mono ?_); (case side1 => exact cb_); (case side2 => exact HC0_1.out); rintro e w' ⟨rfl, ⟨nd, rfl⟩⟩; refine ⟨_, rfl, ?_⟩))
 go_ret
 exact ⟨rr_, bw_⟩

/-! ### laws_markMem: function 71 -/
def laws_markMem.f (k : Nat) (l0_0 : List Int) (a1 : Int) : Option (Int × List Int) := (laws_markIntS.f k l0_0 a1).bind fun bt2 => (some (bt2.1, bt2.2))
theorem laws_markMem.mono : ∀ a0 a1 k, LeO (laws_markMem.f k a0 a1) (laws_markMem.f (k + 1) a0 a1) := by
 intro a0 a1 k
 unfold laws_markMem.f
 repeat' first | (with_reducible first | exact laws_markIntS.mono _ _ _ | exact lr_ | exact ln_ | refine LeO.ite ?_ ?_ | refine LeO.bind ?_ (fun _ => ?_)) | exact laws_markIntS.mono _ _ _ | exact ln_ | refine LeO.ite ?_ ?_ | refine LeO.bind ?_ (fun _ => ?_)
set_option maxHeartbeats 8000000 in
set_option maxRecDepth 100000 in
theorem laws_markMem.calls (k : Nat) (P0_0_ : Nat → Prop) (u9000_ : Value) (l0_0 : List Int) (a1 : Int) (r1 : Int) (r2 : List Int) (w0 w : World) (hB : Below w0.heap.size w0 w) (ho0_0 : Kd.R (Kd.int .i64) 3 w w0.heap.size P0_0_ u9000_ l0_0) (h : laws_markMem.f k l0_0 a1 = some (r1, r2)) :
  Calls Try.prog 71 #[.agg #[u9000_], .int .i64 a1] w fun e w' => e = .returned (.int .i64 r1) ∧ Kd.R (Kd.int .i64) 3 w' w0.heap.size (fun k_ => (P0_0_ k_ ∨ w.heap.size ≤ k_)) u9000_ r2 ∧ Below w0.heap.size w0 w' ∧ Kept w w' (fun k_ => P0_0_ k_) := by
 have hu51 := Try.underlying51
 have HO0_0 := Aside0.mk (show Kd.R (Kd.int .i64) 3 w w0.heap.size (fun k_ => (P0_0_ k_ ∨ w.heap.size ≤ k_)) u9000_ l0_0 from Kd.R_mono ho0_0 (fun k_ hk => (.inl hk)))
 have HK := Aside0.mk (Kept.refl w (fun k_ => P0_0_ k_))
 have HW0 := Aside0.mk hB.size
 have HB := Aside0.mk hB
 clear hB
 have H : ((laws_markIntS.f k l0_0 a1).bind fun bt2 => (some (bt2.1, bt2.2))) = some (r1, r2) := h
 clear h
 replace H := Option.bind_eq_some_iff.mp H
 obtain ⟨⟨t2, t3⟩, A30, H⟩ := H
 replace H : (some (t2, t3)) = some (r1, r2) := H
 have A3 := Aside0.mk A30
 clear A30
 simp only [Option.some.injEq, Prod.mk.injEq] at H
 obtain ⟨rfl, rfl⟩ := H
 obtain ⟨Ao4, co4, eo4⟩ := Kd.R_slice HO0_0.out
 subst eo4
 go_enter Try.func71, Try.ntmps71
 go_wp2_with (first | ((with_reducible refine gate_dst (N := 2) rfl ?_); refine box_event ?hg (N := 2) ?hd (cs := #[.slice Ao4 l0_0.length co4]) (t := 51) ?hr ?_; (case hd => rfl); (case hg => rfl); (case hr => exact hr_); intro gb1 hg w5 hbox hb; have n0_ := Aside0.mk (Kd.R_below (rx_ HO0_0.out) hb); have n1_ := Aside0.mk (Kept.below (S := (fun k_ => P0_0_ k_)) (by repeat (first | (with_reducible first | exact HK.out | apply Kept.alloc | apply Kept.drewN | apply Kept.drew) | exact HK.out)) hb); have n2_ := bs_ hb; have n3_ := Aside0.mk (hbox); have n4_ := Aside0.mk ((by rw [hg]; exact (by first | exact HK.out.1 | exact (show Kept w _ (fun k_ => P0_0_ k_) from by repeat (first | (with_reducible first | exact HK.out | apply Kept.alloc | apply Kept.drewN | apply Kept.drew) | exact HK.out)).1) : w.heap.size ≤ gb1)); have n5_ := ge_ (w := w0) hg; clear HO0_0; clear HK; clear HB; have HO0_0 := n0_; have HK := n1_; have HB := n2_; have BK1 := n3_; have GW1 := n4_; have GE1 := n5_; clear n0_ n1_ n2_ n3_ n4_ n5_; clear hb hbox hg; obtain ⟨hcz6_0, hfz6_0⟩ := bc1_ BK1.out) | ((with_reducible refine gate_callee (f := 17) rfl ?_); refine goesL_ (some 8) rfl rfl Try.func17 (by kernel_rfl) rfl #[.slice Ao4 l0_0.length co4, .int .i64 a1] rfl ar_ ?_; (with_reducible refine (laws_markIntS.calls k (fun k_ => some k_ = (.slice Ao4 l0_0.length co4 : Value).ownBlock) (.slice Ao4 l0_0.length co4) l0_0 a1 t2 t3 w0 _ ?side1 ?side2 A3.out).mono ?_); (case side1 => repeat (first | (with_reducible first | exact HB.out | apply below_alloc | apply pw_below_drewN | apply below_drew1 | refine below_set ?_ GE1.out) | exact HB.out)); (case side2 => exact Kd.R_tight rfl HO0_0.out); rintro e w7 ⟨rfl, hy0, hb, hkp⟩; refine ⟨_, rfl, ?_⟩; have n0_ := Aside0.mk (Kd.R_reok rfl hy0 (fun k_ e_ => HO0_0.out.1 k_ e_)); have n1_ := Aside0.mk (blk_kept bk_ hkp (fun hs_ => (fun e_ => (Kd.R_ne HO0_0.out BK1.out (by decide)) e_) hs_)); have n2_ := Aside0.mk (Kept.then_ (S := (fun k_ => P0_0_ k_)) (by repeat (first | (with_reducible first | exact HK.out | apply Kept.alloc | apply Kept.drewN | apply Kept.drew | refine Kept.setCell ?_ (.inr GW1.out) _) | exact HK.out)) hkp (fun k_ hs_ => (fun e_ => (HO0_0.out.1 k_ e_.symm)) hs_)); have n3_ := Aside0.mk (hb); clear HO0_0; clear BK1; clear HK; clear HB; have HO0_0 := n0_; have BK1 := n1_; have HK := n2_; have HB := n3_; clear n0_ n1_ n2_ n3_; (try clear hb); (try clear hkp); (try clear hy0)))
 go_ret
 exact ⟨rr_, by (with_reducible repeat (first | apply Kd.R_alloc | apply Kd.R_drewN | apply Kd.R_drew)); exact HO0_0.out, bw_, by repeat (first | (with_reducible first | exact HK.out | apply Kept.alloc | apply Kept.drewN | apply Kept.drew | refine Kept.setCell ?_ (.inr GW1.out) _) | exact HK.out)⟩

/-! ### laws_markSlotS: function 109 -/
def laws_markSlotS.l0 : Nat → List (S152) → Int → Int → Option (Int × (List (S152)))
 | 0, _, _, _ => none
 | k + 1, x0, x1, x5 => if x5 < (x0.length : Int) then (if 0 ≤ x5 then ((some (x0.set (x5 : Int).toNat (⟨x1, (rd_T152 x0 x5).f1⟩ : S152) : List (S152))).bind fun y1 => (laws_markSlotS.l0 k (y1.set (x5 : Int).toNat (⟨(rd_T152 y1 x5).f0, wrap64 (x1 + 1)⟩ : S152)) (wrap64 ((wrap64 (x1 + 1)) + 1)) (wrap64 (x5 + 1)))) else (none)) else (some (x1, x0))
def laws_markSlotS.f (k : Nat) (l0 : List (S152)) (a1 : Int) : Option (Int × (List (S152))) := laws_markSlotS.l0 k l0 a1 0
theorem laws_markSlotS.mono_l : ∀ k, (∀ y0 y1 y2, LeO (laws_markSlotS.l0 k y0 y1 y2) (laws_markSlotS.l0 (k + 1) y0 y1 y2))
 | 0 => fun _ _ _ r h => by simp [laws_markSlotS.l0] at h
 | k + 1 => by
  have ih0 := laws_markSlotS.mono_l k
  ·intro y0 y1 y2
   unfold laws_markSlotS.l0
   repeat' first | (with_reducible first | exact ih0 _ _ _ | exact lr_ | exact ln_ | refine LeO.ite ?_ ?_ | refine LeO.bind ?_ (fun _ => ?_)) | exact ih0 _ _ _ | exact ln_ | refine LeO.ite ?_ ?_ | refine LeO.bind ?_ (fun _ => ?_)
theorem laws_markSlotS.mono : ∀ a0 a1 k, LeO (laws_markSlotS.f k a0 a1) (laws_markSlotS.f (k + 1) a0 a1) := by
 intro a0 a1 k
 have ih0 := laws_markSlotS.mono_l k
 unfold laws_markSlotS.f
 repeat' first | (with_reducible first | exact ih0 _ _ _ | exact lr_ | exact ln_ | refine LeO.ite ?_ ?_ | refine LeO.bind ?_ (fun _ => ?_)) | exact ih0 _ _ _ | exact ln_ | refine LeO.ite ?_ ?_ | refine LeO.bind ?_ (fun _ => ?_)
set_option maxHeartbeats 8000000 in
set_option maxRecDepth 100000 in
theorem laws_markSlotS.calls (k : Nat) (P0_ : Nat → Prop) (u9000_ : Value) (l0 : List (S152)) (a1 : Int) (r1 : Int) (r2 : List (S152)) (w0 w : World) (hB : Below w0.heap.size w0 w) (ho0 : Kd.R k152 152 w w0.heap.size P0_ u9000_ l0) (h : laws_markSlotS.f k l0 a1 = some (r1, r2)) :
  Calls Try.prog 109 #[u9000_, .int .i64 a1] w fun e w' => e = .returned (.int .i64 r1) ∧ Kd.R k152 152 w' w0.heap.size (fun k_ => (P0_ k_ ∨ w.heap.size ≤ k_)) u9000_ r2 ∧ Below w0.heap.size w0 w' ∧ Kept w w' (fun k_ => P0_ k_) := by
 have HO0 := Aside0.mk (show Kd.R k152 152 w w0.heap.size (fun k_ => (P0_ k_ ∨ w.heap.size ≤ k_)) u9000_ l0 from Kd.R_mono ho0 (fun k_ hk => (.inl hk)))
 have HK := Aside0.mk (Kept.refl w (fun k_ => P0_ k_))
 have HW0 := Aside0.mk hB.size
 have HB := Aside0.mk hB
 clear hB
 have H : (laws_markSlotS.l0 k l0 a1 0) = some (r1, r2) := h
 clear h
 have H' := Aside0.mk H
 clear H
 go_enter Try.func109, Try.ntmps109
 go_wp2
 go_loopg [1, 5] k (fun kq v1 v5 w' => ∃ (x0_1 : List (S152)) (x1_1 : Int) (x5_1 : Int), v1 = .int .i64 x1_1 ∧ v5 = .int .i64 x5_1 ∧ Aside0 (laws_markSlotS.l0 kq x0_1 x1_1 x5_1 = some (r1, r2)) ∧ Aside0 (kq ≤ k) ∧ Aside0 (Kd.R k152 152 w' w0.heap.size (fun k_ => (P0_ k_ ∨ w.heap.size ≤ k_)) u9000_ x0_1) ∧ Aside0 (Kept w w' (fun k_ => P0_ k_)) ∧ Aside0 (Below w0.heap.size w0 w'))
 case atStart => exact ⟨(l0), (a1), (0), sd_, sd_, H', ⟨Nat.le_refl _⟩, ⟨by (with_reducible repeat (first | apply Kd.R_alloc | apply Kd.R_drewN | apply Kd.R_drew)); exact HO0.out⟩, ⟨by repeat (first | (with_reducible first | exact HK.out | apply Kept.alloc | apply Kept.drewN | apply Kept.drew) | exact HK.out)⟩, ⟨bw_⟩⟩
 case round =>
  clear H'
  try clear c1
  try clear p2
  obtain ⟨x0_1, x1_1, x5_1, rfl, rfl, HA, HK1, HO_0, HK, HB⟩ := hrel
  cases gk with
  | zero => exact absurd HA.out (by simp [laws_markSlotS.l0])
  | succ k1 =>
   have H := HA.out
   clear HA
   simp only [laws_markSlotS.l0] at H
   by_cases c3 : x5_1 < (x0_1.length : Int)
   rotate_left
   ·rw [if_neg c3] at H
    have c3b0 : decide (x5_1 < (x0_1.length : Int)) = false := decide_eq_false c3
    clear c3
    simp only [Option.some.injEq, Prod.mk.injEq] at H
    obtain ⟨rfl, rfl⟩ := H
    obtain ⟨Ao12, co12, eo12⟩ := Kd.R_slice HO_0.out
    subst eo12
    go_wp2
    go_ret
    exact ⟨rr_, by (with_reducible repeat (first | apply Kd.R_alloc | apply Kd.R_drewN | apply Kd.R_drew)); exact HO_0.out, bw_, by repeat (first | (with_reducible first | exact HK.out | apply Kept.alloc | apply Kept.drewN | apply Kept.drew) | exact HK.out)⟩
   rw [if_pos c3] at H
   have c3b0 : decide (x5_1 < (x0_1.length : Int)) = true := decide_eq_true c3
   clear c3
   by_cases c4 : 0 ≤ x5_1
   rotate_left
   ·rw [if_neg c4] at H
    exact absurd H (by simp)
   rw [if_pos c4] at H
   have c4b0 : decide (0 ≤ x5_1) = true := decide_eq_true c4
   clear c4
   obtain ⟨y1, hy1⟩ : ∃ y_ : List (S152), y_ = (x0_1.set (x5_1 : Int).toNat (⟨x1_1, (rd_T152 x0_1 x5_1).f1⟩ : S152)) := ⟨_, rfl⟩
   replace H : (laws_markSlotS.l0 k1 (y1.set (x5_1 : Int).toNat (⟨(rd_T152 y1 x5_1).f0, wrap64 (x1_1 + 1)⟩ : S152)) (wrap64 ((wrap64 (x1_1 + 1)) + 1)) (wrap64 (x5_1 + 1))) = some (r1, r2) := by first | (rw [hy1]; with_reducible exact H) | (have H2_ := (Option.bind_some _ _).symm.trans H; rw [hy1]; with_reducible exact H2_) | (have H2_ := (Option.bind_some _ _).symm.trans H; with_reducible exact H2_) | with_reducible exact H | (rw [hy1]; exact H) | exact H
   have Ny1 := Aside0.mk hy1
   clear hy1
   obtain ⟨y2, hy2⟩ : ∃ y_ : List (S152), y_ = (y1.set (x5_1 : Int).toNat (⟨(rd_T152 y1 x5_1).f0, wrap64 (x1_1 + 1)⟩ : S152)) := ⟨_, rfl⟩
   replace H : (laws_markSlotS.l0 k1 y2 (wrap64 ((wrap64 (x1_1 + 1)) + 1)) (wrap64 (x5_1 + 1))) = some (r1, r2) := by first | (rw [hy2]; with_reducible exact H) | (have H2_ := (Option.bind_some _ _).symm.trans H; rw [hy2]; with_reducible exact H2_) | (have H2_ := (Option.bind_some _ _).symm.trans H; with_reducible exact H2_) | with_reducible exact H | (rw [hy2]; exact H) | exact H
   have Ny2 := Aside0.mk hy2
   clear hy2
   have H' := Aside0.mk H
   clear H
   obtain ⟨Ao7, co7, eo7⟩ := Kd.R_slice HO_0.out
   subst eo7
   have p5 : 0 ≤ (x5_1 : Int) := od_
   have q5 : (x5_1 : Int) < ((x0_1.length : Int) : Int) := od_
   obtain ⟨go5, co5, eo5, gb5, gl5, cl5, HG5⟩ := Kd.R_form HO_0.out (by omega)
   (first | cases eo5 | (injection eo5 with ea_ en_ ec_; (first | subst ea_ | (injection ea_ with ea_; subst ea_)); subst ec_; clear en_))
   have GB5 := Aside0.mk gb5
   have GG5 := Aside0.mk HG5
   clear gb5 gl5 HG5
   have HMgo5 := Aside0.mk (show (P0_ go5 ∨ w.heap.size ≤ go5) from (HO_0.out.1 _ rfl))
   obtain ⟨ce5, hcl5, hM5, hcc5, hfr5⟩ := Kd.R_elem HO_0.out z152 (x5_1 : Int) p5 q5
   obtain rfl := k152_openM hM5
   have hx5_0 : wr.cell? ⟨go5, (x5_1 : Int).toNat * 2, none⟩ = some (.int .i64 ((rd_T152 x0_1 x5_1).f0)) := hcc5 0 _ rfl
   have hx5_1 : wr.cell? ⟨go5, (x5_1 : Int).toNat * 2 + 1, none⟩ = some (.int .i64 ((rd_T152 x0_1 x5_1).f1)) := hcc5 1 _ rfl
   have hf5_0 : wr.frozen? ⟨go5, (x5_1 : Int).toNat * 2, none⟩ = false := hfr5 0
   have hf5_1 : wr.frozen? ⟨go5, (x5_1 : Int).toNat * 2 + 1, none⟩ = false := hfr5 1
   (try clear hcl5); (try clear hcc5); (try clear hfr5); (try clear hM5)
   replace p5 := eq_true p5
   replace q5 := eq_true q5
   have HX8 := Aside0.mk (show Kd.R k152 152 wr w0.heap.size (fun k_ => (P0_ k_ ∨ w.heap.size ≤ k_)) (.slice (some ⟨go5, 0, none⟩) x0_1.length co7) x0_1 from (rx_ HO_0.out))
   obtain ⟨ce8, hcl8, hM8, hcc8, hfr8⟩ := Kd.R_elem HX8.out z152 (x5_1 : Int) (od_) (by have h_ : (x5_1 : Int) < ((x0_1.length : Int) : Int) := od_; first | exact h_ | (have e_ := (Kd.R_reads' HO_0.out).1; omega) | simpa using h_)
   obtain rfl := k152_openM hM8
   have HP8 := Kd.R_seg HX8.out (x5_1 : Int) (od_) (by have h_ : (x5_1 : Int) < ((x0_1.length : Int) : Int) := od_; first | exact h_ | (have e_ := (Kd.R_reads' HO_0.out).1; omega) | simpa using h_) (seg := [.int .i64 x1_1]) (j := 0) hcl8 hcc8 (show 1 ≤ 2 from by decide) (x' := (⟨x1_1, (rd_T152 x0_1 x5_1).f1⟩ : S152)) (k152_mkM _ _ _ (⟨x1_1, (rd_T152 x0_1 x5_1).f1⟩ : S152) ) (fun _ hk => hk)
   have hx8_0 := hcc8 0 _ rfl
   (try simp only [show (k152).sz = 2 from rfl, Nat.mul_one, Nat.add_zero] at hx8_0)
   have hf8_0 := hfr8 0
   (try simp only [show (k152).sz = 2 from rfl, Nat.mul_one, Nat.add_zero] at hf8_0)
   (try clear hcl8); (try clear hcc8); (try clear hfr8); (try clear hM8)
   go_wp2_with (first | ((with_reducible refine gate_store (t := 3) (p := 16) rfl ?_); refine store_event (t := 3) (p := 16) (v := ?vo_w9) (w1 := (wr.setCell ⟨go5, (x5_1 : Int).toNat * 2, none⟩ (.int .i64 x1_1))) ?hg ?ho ?hn ?hr ?_; (case ho => rfl); (case hg => rfl); (case hn => rfl); (case hr => first | (go_simp; done) | (go_simp; rfl)); intro w9 hw; have hg : wr.grownBy w9 (some go5) := (by rw [hw]; exact HP8.2); have hp_ : Kd.R k152 152 w9 w0.heap.size (fun k_ => (P0_ k_ ∨ w.heap.size ≤ k_)) (.slice (some ⟨go5, 0, none⟩) x0_1.length co7) y1 := (by rw [hw, Ny1.out]; exact HP8.1); clear HP8; have n0_ := Aside0.mk (hp_); have n1_ := Aside0.mk ((by rw [hw]; exact below_set (HB.out) GB5.out : Below w0.heap.size w0 w9)); have n2_ := Aside0.mk (Kept.of_grown (S := (fun k_ => P0_ k_)) hg (by repeat (first | (with_reducible first | exact HK.out | apply Kept.alloc | apply Kept.drewN | apply Kept.drew) | exact HK.out)) (fun k_ e_ => (HO_0.out.1 k_ e_))); clear HO_0; clear HB; clear HK; have HO_0 := n0_; have HB := n1_; have HK := n2_; clear n0_ n1_ n2_; clear hg hw hp_; have p6 : 0 ≤ (x5_1 : Int) := od_; have q6 : (x5_1 : Int) < ((x0_1.length : Int) : Int) := od_; obtain ⟨ce6, hcl6, hM6, hcc6, hfr6⟩ := Kd.R_elem HO_0.out z152 (x5_1 : Int) p6 q6; obtain rfl := k152_openM hM6; have hx6_0 : w9.cell? ⟨go5, (x5_1 : Int).toNat * 2, none⟩ = some (.int .i64 ((rd_T152 y1 x5_1).f0)) := hcc6 0 _ rfl; have hx6_1 : w9.cell? ⟨go5, (x5_1 : Int).toNat * 2 + 1, none⟩ = some (.int .i64 ((rd_T152 y1 x5_1).f1)) := hcc6 1 _ rfl; have hf6_0 : w9.frozen? ⟨go5, (x5_1 : Int).toNat * 2, none⟩ = false := hfr6 0; have hf6_1 : w9.frozen? ⟨go5, (x5_1 : Int).toNat * 2 + 1, none⟩ = false := hfr6 1; (try clear hcl6); (try clear hcc6); (try clear hfr6); (try clear hM6); replace p6 := eq_true p6; replace q6 := eq_true q6; have HX10 := Aside0.mk (show Kd.R k152 152 w9 w0.heap.size (fun k_ => (P0_ k_ ∨ w.heap.size ≤ k_)) (.slice (some ⟨go5, 0, none⟩) x0_1.length co7) y1 from (rx_ HO_0.out)); obtain ⟨ce10, hcl10, hM10, hcc10, hfr10⟩ := Kd.R_elem HX10.out z152 (x5_1 : Int) (od_) (by have h_ : (x5_1 : Int) < ((x0_1.length : Int) : Int) := od_; first | exact h_ | (have e_ := (Kd.R_reads' HO_0.out).1; omega) | simpa using h_); obtain rfl := k152_openM hM10; have HP10 := Kd.R_seg HX10.out (x5_1 : Int) (od_) (by have h_ : (x5_1 : Int) < ((x0_1.length : Int) : Int) := od_; first | exact h_ | (have e_ := (Kd.R_reads' HO_0.out).1; omega) | simpa using h_) (seg := [.int .i64 (wrap64 (x1_1 + 1))]) (j := 1) hcl10 hcc10 (show 2 ≤ 2 from by decide) (x' := (⟨(rd_T152 y1 x5_1).f0, wrap64 (x1_1 + 1)⟩ : S152)) (k152_mkM _ _ _ (⟨(rd_T152 y1 x5_1).f0, wrap64 (x1_1 + 1)⟩ : S152) ) (fun _ hk => hk); have hx10_1 := hcc10 1 _ rfl; (try simp only [show (k152).sz = 2 from rfl, Nat.mul_one, Nat.add_zero] at hx10_1); have hf10_1 := hfr10 1; (try simp only [show (k152).sz = 2 from rfl, Nat.mul_one, Nat.add_zero] at hf10_1); (try clear hcl10); (try clear hcc10); (try clear hfr10); (try clear hM10)) | ((with_reducible refine gate_store (t := 3) (p := 23) rfl ?_); refine store_event (t := 3) (p := 23) (v := ?vo_w11) (w1 := (w9.setCell ⟨go5, (x5_1 : Int).toNat * 2 + 1, none⟩ (.int .i64 (wrap64 (x1_1 + 1))))) ?hg ?ho ?hn ?hr ?_; (case ho => rfl); (case hg => rfl); (case hn => rfl); (case hr => first | (go_simp; done) | (go_simp; rfl)); intro w11 hw; have hg : w9.grownBy w11 (some go5) := (by rw [hw]; exact HP10.2); have hp_ : Kd.R k152 152 w11 w0.heap.size (fun k_ => (P0_ k_ ∨ w.heap.size ≤ k_)) (.slice (some ⟨go5, 0, none⟩) x0_1.length co7) y2 := (by rw [hw, Ny2.out]; exact HP10.1); clear HP10; have n0_ := Aside0.mk (hp_); have n1_ := Aside0.mk ((by rw [hw]; exact below_set (HB.out) GB5.out : Below w0.heap.size w0 w11)); have n2_ := Aside0.mk (Kept.of_grown (S := (fun k_ => P0_ k_)) hg (by repeat (first | (with_reducible first | exact HK.out | apply Kept.alloc | apply Kept.drewN | apply Kept.drew) | exact HK.out)) (fun k_ e_ => (HO_0.out.1 k_ e_))); clear HO_0; clear HB; clear HK; have HO_0 := n0_; have HB := n1_; have HK := n2_; clear n0_ n1_ n2_; clear hg hw hp_))
   go_roundg k1
   case measure => have := HK1.out; omega
   case rel => exact ⟨(y2), (wrap64 ((wrap64 (x1_1 + 1)) + 1)), (wrap64 (x5_1 + 1)), sd_, sd_, H', ⟨by have := HK1.out; omega⟩, ⟨by (with_reducible repeat (first | apply Kd.R_alloc | apply Kd.R_drewN | apply Kd.R_drew)); exact HO_0.out⟩, ⟨by repeat (first | (with_reducible first | exact HK.out | apply Kept.alloc | apply Kept.drewN | apply Kept.drew) | exact HK.out)⟩, ⟨bw_⟩⟩

end Go.Proofs.Ytlfbdafghpmahaa.P
