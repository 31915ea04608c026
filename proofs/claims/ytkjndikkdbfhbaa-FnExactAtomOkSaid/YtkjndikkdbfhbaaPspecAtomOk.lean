-- Written by mp.py (the session's own driver over the kit's printer) for the seat Ytkjndikkdbfhbaa.
import Derived.Test.YtkjndikkdbfhbaaK
import Derived.Test.YtkjndikkdbfhbaaE
import Derived.Test.YtkjndikkdbfhbaaPimplProgOk
import Derived.Test.YtkjndikkdbfhbaaPimplisRegister
import Derived.Test.YtkjndikkdbfhbaaPimplwithin
import Derived.Test.YtkjndikkdbfhbaaPspecProgOk
import Derived.Test.YtkjndikkdbfhbaaPspecl01In
import Derived.Test.YtkjndikkdbfhbaaPspecl01Value
namespace Go.Proofs.Ytkjndikkdbfhbaa.P
open Go.RowKit Go.Proofs.YtkjndikkdbfhbaaW.PrintWords Go.Proofs.YtkjndikkdbfhbaaW.PrintLast Go.Proofs.YtkjndikkdbfhbaaW.PrintMore
attribute [local go_sem] max2_int min2_int max_two min_two max_three min_three max_four min_four
set_option linter.unusedVariables false
set_option linter.unusedSimpArgs false

/-! ### spec_AtomOk: function 81 -/
def spec_AtomOk.j0 : Nat → Bool → Int → Int → Int → Int → Int → List (List (S176)) → Option (Bool)
  | 0, _, _, _, _, _, _, _ => none
  | k + 1, x13, x804000, x804001, x804002, x804003, x805000, x805001 => if x13 = true then (some false) else (if x804000 = 0 then ((spec_l01In.f x804001 0 (wrap64 ((x805001.length : Int) - 1))).bind fun t807 => (if t807 = true then ((spec_l01In.f x804002 0 3).bind fun t808 => (some t808)) else (some false))) else (if x804000 = 1 then (if x804001 = 0 then ((spec_l01In.f x804002 0 (wrap64 (x805000 - 1))).bind fun t809 => (some t809)) else (some false)) else (some false)))
def spec_AtomOk.f (k : Nat) (a0_0 : Int) (a0_1 : Int) (a0_2 : Int) (a0_3 : Int) (a1_0 : Int) (l1_1 : List (List (S176))) : Option (Bool) := (spec_ProgOk.f k a1_0 l1_1).bind fun t805 => (if t805 = true then ((spec_l01Value.f a0_3).bind fun t806 => (spec_AtomOk.j0 k (!t806) a0_0 a0_1 a0_2 a0_3 a1_0 l1_1)) else (spec_AtomOk.j0 k true a0_0 a0_1 a0_2 a0_3 a1_0 l1_1))
theorem spec_AtomOk.mono_l : ∀ k, (∀ y0 y1 y2 y3 y4 y5 y6, LeO (spec_AtomOk.j0 k y0 y1 y2 y3 y4 y5 y6) (spec_AtomOk.j0 (k + 1) y0 y1 y2 y3 y4 y5 y6))
  | 0 => fun _ _ _ _ _ _ _ r h => by simp [spec_AtomOk.j0] at h
  | k + 1 => by
    have ih0 := spec_AtomOk.mono_l k
    · intro y0 y1 y2 y3 y4 y5 y6
      unfold spec_AtomOk.j0
      repeat' first
      | (with_reducible exact ih0 _ _ _ _ _ _ _)
      | (with_reducible exact spec_ProgOk.mono _ _ _)
      | (with_reducible exact LeO.refl _)
      | (with_reducible exact LeO.none _)
      | (with_reducible refine LeO.ite ?_ ?_)
      | (with_reducible refine LeO.bind ?_ (fun _ => ?_))
      | exact ih0 _ _ _ _ _ _ _
      | exact spec_ProgOk.mono _ _ _
      | exact LeO.none _
      | refine LeO.ite ?_ ?_
      | refine LeO.bind ?_ (fun _ => ?_)
theorem spec_AtomOk.mono : ∀ a0 a1 a2 a3 a4 a5 k, LeO (spec_AtomOk.f k a0 a1 a2 a3 a4 a5) (spec_AtomOk.f (k + 1) a0 a1 a2 a3 a4 a5) := by
  intro a0 a1 a2 a3 a4 a5 k
  have ih0 := spec_AtomOk.mono_l k
  unfold spec_AtomOk.f
  repeat' first
      | (with_reducible exact ih0 _ _ _ _ _ _ _)
      | (with_reducible exact spec_ProgOk.mono _ _ _)
      | (with_reducible exact LeO.refl _)
      | (with_reducible exact LeO.none _)
      | (with_reducible refine LeO.ite ?_ ?_)
      | (with_reducible refine LeO.bind ?_ (fun _ => ?_))
      | exact ih0 _ _ _ _ _ _ _
      | exact spec_ProgOk.mono _ _ _
      | exact LeO.none _
      | refine LeO.ite ?_ ?_
      | refine LeO.bind ?_ (fun _ => ?_)
set_option maxHeartbeats 8000000 in
set_option maxRecDepth 100000 in
theorem spec_AtomOk.calls (k : Nat) (a0_0 : Int) (a0_1 : Int) (a0_2 : Int) (a0_3 : Int) (a1_0 : Int) (A1_1 : Option Addr) (c1_1 : Nat) (l1_1 : List (List (S176))) (r : Bool) (w : World) (hr1_1 : Kd.C (Kd.slice 176 k176) w A1_1 l1_1.length l1_1) (hc1_1 : l1_1.length ≤ c1_1) (h : spec_AtomOk.f k a0_0 a0_1 a0_2 a0_3 a1_0 l1_1 = some r) :
    Calls Try.prog 81 #[.agg #[.int .i64 a0_0, .int .i64 a0_1, .int .i64 a0_2, .int .i64 a0_3], .agg #[.int .i64 a1_0, .slice A1_1 l1_1.length c1_1]] w fun e w' => e = .returned (.bool r) ∧ Below w.heap.size w w' := by
  have hu105 := Try.underlying105
  have hu81 := Try.underlying81
  have HR1_1 := Aside0.mk hr1_1
  have HC1_1 := Aside0.mk hc1_1
  clear hr1_1 hc1_1
  have HB := Aside0.mk (Below.refl w.heap.size w)
  have H : ((spec_ProgOk.f k a1_0 l1_1).bind fun t805 => (if t805 = true then ((spec_l01Value.f a0_3).bind fun t806 => (spec_AtomOk.j0 k (!t806) a0_0 a0_1 a0_2 a0_3 a1_0 l1_1)) else (spec_AtomOk.j0 k true a0_0 a0_1 a0_2 a0_3 a1_0 l1_1))) = some r := h
  clear h
  have HC3 := Aside0.mk H
  clear H
  go_enter Try.func81, Try.ntmps81
  go_upto_region 1 with (first | ((with_reducible refine gate_dst (N := 2) rfl ?_); refine box_event ?hg (N := 2) ?hd (cs := #[.int .i64 a0_0, .int .i64 a0_1, .int .i64 a0_2, .int .i64 a0_3]) (t := 105) ?hr ?_; (case hd => rfl); (case hg => rfl); (case hr => first | (go_simp; done) | (go_simp; rfl)); intro gb803 hg w4 hbox hb; have n0_ := Aside0.mk (below_step (by repeat (first | (with_reducible first | exact HB.out | apply below_alloc | apply pw_below_drewN | apply below_drew1) | exact HB.out)) hb); have n1_ := Aside0.mk (hbox); have n2_ := Aside0.mk ((by rw [hg]; exact (below_size (by repeat (first | (with_reducible first | exact HB.out | apply below_alloc | apply pw_below_drewN | apply below_drew1) | exact HB.out))) : w.heap.size ≤ gb803)); have n3_ := Aside0.mk ((by rw [hg]; exact (below_size (by repeat (first | (with_reducible first | exact HB.out | apply below_alloc | apply pw_below_drewN | apply below_drew1) | exact HB.out))) : w.heap.size ≤ gb803)); clear HB; have HB := n0_; have BK803 := n1_; have GW803 := n2_; have GE803 := n3_; clear n0_ n1_ n2_ n3_; clear hb hbox hg) | ((with_reducible refine gate_dst (N := 3) rfl ?_); refine box_event ?hg (N := 3) ?hd (cs := #[.int .i64 a1_0, .slice A1_1 l1_1.length c1_1]) (t := 81) ?hr ?_; (case hd => rfl); (case hg => rfl); (case hr => first | (go_simp; done) | (go_simp; rfl)); intro gb804 hg w5 hbox hb; have n0_ := Aside0.mk (blk_below (g := gb803) (o := .cells #[.int .i64 a0_0, .int .i64 a0_1, .int .i64 a0_2, .int .i64 a0_3] 105 (0, 0)) (by (with_reducible repeat (first | refine blk_drewN ?_ _ | refine blk_drew ?_ | refine blk_alloc ?_ _)); exact BK803.out) hb); have n1_ := Aside0.mk (below_step (by repeat (first | (with_reducible first | exact HB.out | apply below_alloc | apply pw_below_drewN | apply below_drew1 | refine below_set ?_ GE803.out) | exact HB.out)) hb); have n2_ := Aside0.mk (hbox); have n3_ := Aside0.mk ((by rw [hg]; exact (below_size (by repeat (first | (with_reducible first | exact HB.out | apply below_alloc | apply pw_below_drewN | apply below_drew1 | refine below_set ?_ GE803.out) | exact HB.out))) : w.heap.size ≤ gb804)); have n4_ := Aside0.mk ((by rw [hg]; exact (below_size (by repeat (first | (with_reducible first | exact HB.out | apply below_alloc | apply pw_below_drewN | apply below_drew1 | refine below_set ?_ GE803.out) | exact HB.out))) : w.heap.size ≤ gb804)); have n5_ := Aside0.mk ((by rw [hg]; exact Nat.ne_of_lt (blk_lt (g := gb803) (o := .cells #[.int .i64 a0_0, .int .i64 a0_1, .int .i64 a0_2, .int .i64 a0_3] 105 (0, 0)) (by (with_reducible repeat (first | refine blk_drewN ?_ _ | refine blk_drew ?_ | refine blk_alloc ?_ _)); exact BK803.out)) : gb803 ≠ gb804)); have n6_ := Aside0.mk ((by rw [hg]; exact Nat.ne_of_gt (blk_lt (g := gb803) (o := .cells #[.int .i64 a0_0, .int .i64 a0_1, .int .i64 a0_2, .int .i64 a0_3] 105 (0, 0)) (by (with_reducible repeat (first | refine blk_drewN ?_ _ | refine blk_drew ?_ | refine blk_alloc ?_ _)); exact BK803.out)) : gb804 ≠ gb803)); clear BK803; clear HB; have BK803 := n0_; have HB := n1_; have BK804 := n2_; have GW804 := n3_; have GE804 := n4_; have NB803_804 := n5_; have NB804_803 := n6_; clear n0_ n1_ n2_ n3_ n4_ n5_ n6_; clear hb hbox hg))
  (try simp only [Act.put, List.setIfInBounds_toArray, List.set_cons_zero, List.set_cons_succ])
  go_cut [13] (fun v13 wc => ∃ (kq : Nat) (x13_2 : Bool), v13 = .bool x13_2 ∧ Aside0 (spec_AtomOk.j0 kq x13_2 a0_0 a0_1 a0_2 a0_3 a1_0 l1_1 = some r) ∧ Aside0 (kq ≤ k) ∧ Aside0 (wc.heap[gb803]? = some (.cells #[.int .i64 a0_0, .int .i64 a0_1, .int .i64 a0_2, .int .i64 a0_3] 105 (0, 0))) ∧ Aside0 (wc.heap[gb804]? = some (.cells #[.int .i64 a1_0, (.slice A1_1 l1_1.length c1_1)] 81 (0, 0))) ∧ Aside0 (Below w.heap.size w wc))
  case first =>
    have H := HC3.out
    clear HC3
    replace H := Option.bind_eq_some_iff.mp H
    obtain ⟨t805, A60, H⟩ := H
    replace H : (if t805 = true then ((spec_l01Value.f a0_3).bind fun t806 => (spec_AtomOk.j0 k (!t806) a0_0 a0_1 a0_2 a0_3 a1_0 l1_1)) else (spec_AtomOk.j0 k true a0_0 a0_1 a0_2 a0_3 a1_0 l1_1)) = some r := H
    have A6 := Aside0.mk A60
    clear A60
    by_cases c7 : t805 = true
    · subst c7
      have H1 : ((spec_l01Value.f a0_3).bind fun t806 => (spec_AtomOk.j0 k (!t806) a0_0 a0_1 a0_2 a0_3 a1_0 l1_1)) = some r := by rw [if_pos rfl] at H; exact H
      clear H
      have H := H1
      clear H1
      replace H := Option.bind_eq_some_iff.mp H
      obtain ⟨t806, A80, H⟩ := H
      replace H : (spec_AtomOk.j0 k (!t806) a0_0 a0_1 a0_2 a0_3 a1_0 l1_1) = some r := H
      have A8 := Aside0.mk A80
      clear A80
      have H' := Aside0.mk H
      clear H
      have hnb9 := NB804_803.out
      have hnc9 := NB803_804.out
      have hcz10_0 : w5.cell? ⟨gb804, 0, none⟩ = some (.int .i64 a1_0) := (blk_cell BK804.out 0).trans rfl
      have hcz10_1 : w5.cell? ⟨gb804, 1, none⟩ = some (.slice A1_1 l1_1.length c1_1) := (blk_cell BK804.out 1).trans rfl
      have hfz10_0 := blk_frozen BK804.out 0
      have hfz10_1 := blk_frozen BK804.out 1
      go_wp2_with (first | ((with_reducible refine gate_callee (f := 69) rfl ?_); refine goesL_ (some 6) rfl rfl Try.func69 (by kernel_rfl) rfl #[.agg #[.int .i64 a1_0, .slice A1_1 l1_1.length c1_1]] rfl (by (try simp only [List.map_toArray, List.map_cons, List.map_nil]); first | done | rfl | (simp only [List.length_drop, List.length_take]; rfl)) ?_; (with_reducible refine (spec_ProgOk.calls k a1_0 _ _ l1_1 true _ ?side1 ?side2 A6.out).mono ?_); (case side1 => repeat (first | exact (Kd.C_below HR1_1.out HB.out) | (with_reducible refine Kd.C_alloc ?_ _) | (with_reducible refine Kd.C_drewN ?_ _) | (with_reducible refine Kd.C_drew ?_))); (case side2 => exact HC1_1.out); rintro e w11 ⟨rfl, hb⟩; refine ⟨_, rfl, ?_⟩; have n0_ := Aside0.mk (blk_below (g := gb803) (o := .cells #[.int .i64 a0_0, .int .i64 a0_1, .int .i64 a0_2, .int .i64 a0_3] 105 (0, 0)) (by (with_reducible repeat (first | refine blk_drewN ?_ _ | refine blk_drew ?_ | refine blk_alloc ?_ _)); exact BK803.out) hb); have n1_ := Aside0.mk (blk_below (g := gb804) (o := .cells #[.int .i64 a1_0, .slice A1_1 l1_1.length c1_1] 81 (0, 0)) (by (with_reducible repeat (first | refine blk_drewN ?_ _ | refine blk_drew ?_ | refine blk_alloc ?_ _)); exact BK804.out) hb); have n2_ := Aside0.mk (below_step (by repeat (first | (with_reducible first | exact HB.out | apply below_alloc | apply pw_below_drewN | apply below_drew1 | refine below_set ?_ GE803.out | refine below_set ?_ GE804.out) | exact HB.out)) hb); clear BK803; clear BK804; clear HB; have BK803 := n0_; have BK804 := n1_; have HB := n2_; clear n0_ n1_ n2_; (try clear hb); (try clear hb2); (try clear hk); (try clear hi); have hcz12_0 : w11.cell? ⟨gb803, 0, none⟩ = some (.int .i64 a0_0) := (blk_cell BK803.out 0).trans rfl; have hcz12_1 : w11.cell? ⟨gb803, 1, none⟩ = some (.int .i64 a0_1) := (blk_cell BK803.out 1).trans rfl; have hcz12_2 : w11.cell? ⟨gb803, 2, none⟩ = some (.int .i64 a0_2) := (blk_cell BK803.out 2).trans rfl; have hcz12_3 : w11.cell? ⟨gb803, 3, none⟩ = some (.int .i64 a0_3) := (blk_cell BK803.out 3).trans rfl; have hfz12_0 := blk_frozen BK803.out 0; have hfz12_1 := blk_frozen BK803.out 1; have hfz12_2 := blk_frozen BK803.out 2; have hfz12_3 := blk_frozen BK803.out 3) | (go_at_call 178; (with_reducible refine (spec_l01Value.calls a0_3 t806 _ A8.out).mono ?_); rintro e w' ⟨rfl, ⟨nd, rfl⟩⟩))
      go_meet
      case rel => exact ⟨_, (!t806), (by first | rfl | (simp; done) | (simp [*]; done)), H', ⟨by first | omega | exact Nat.le_refl _⟩, ⟨by (with_reducible repeat (first | refine blk_drewN ?_ _ | refine blk_drew ?_ | refine blk_alloc ?_ _)); exact BK803.out⟩, ⟨by (with_reducible repeat (first | refine blk_drewN ?_ _ | refine blk_drew ?_ | refine blk_alloc ?_ _)); exact BK804.out⟩, ⟨by repeat (first | (with_reducible first | exact HB.out | apply below_alloc | apply pw_below_drewN | apply below_drew1 | refine below_set ?_ GE803.out | refine below_set ?_ GE804.out) | exact HB.out)⟩⟩
    · replace c7 := Bool.eq_false_iff.mpr c7
      subst c7
      have H1 : (spec_AtomOk.j0 k true a0_0 a0_1 a0_2 a0_3 a1_0 l1_1) = some r := by rw [if_neg (show ¬ (false = true) by decide)] at H; exact H
      clear H
      have H := H1
      clear H1
      have H' := Aside0.mk H
      clear H
      have hnb13 := NB804_803.out
      have hnc13 := NB803_804.out
      have hcz14_0 : w5.cell? ⟨gb804, 0, none⟩ = some (.int .i64 a1_0) := (blk_cell BK804.out 0).trans rfl
      have hcz14_1 : w5.cell? ⟨gb804, 1, none⟩ = some (.slice A1_1 l1_1.length c1_1) := (blk_cell BK804.out 1).trans rfl
      have hfz14_0 := blk_frozen BK804.out 0
      have hfz14_1 := blk_frozen BK804.out 1
      go_wp2_with (first | ((with_reducible refine gate_callee (f := 69) rfl ?_); refine goesL_ (some 6) rfl rfl Try.func69 (by kernel_rfl) rfl #[.agg #[.int .i64 a1_0, .slice A1_1 l1_1.length c1_1]] rfl (by (try simp only [List.map_toArray, List.map_cons, List.map_nil]); first | done | rfl | (simp only [List.length_drop, List.length_take]; rfl)) ?_; (with_reducible refine (spec_ProgOk.calls k a1_0 _ _ l1_1 false _ ?side1 ?side2 A6.out).mono ?_); (case side1 => repeat (first | exact (Kd.C_below HR1_1.out HB.out) | (with_reducible refine Kd.C_alloc ?_ _) | (with_reducible refine Kd.C_drewN ?_ _) | (with_reducible refine Kd.C_drew ?_))); (case side2 => exact HC1_1.out); rintro e w15 ⟨rfl, hb⟩; refine ⟨_, rfl, ?_⟩; have n0_ := Aside0.mk (blk_below (g := gb803) (o := .cells #[.int .i64 a0_0, .int .i64 a0_1, .int .i64 a0_2, .int .i64 a0_3] 105 (0, 0)) (by (with_reducible repeat (first | refine blk_drewN ?_ _ | refine blk_drew ?_ | refine blk_alloc ?_ _)); exact BK803.out) hb); have n1_ := Aside0.mk (blk_below (g := gb804) (o := .cells #[.int .i64 a1_0, .slice A1_1 l1_1.length c1_1] 81 (0, 0)) (by (with_reducible repeat (first | refine blk_drewN ?_ _ | refine blk_drew ?_ | refine blk_alloc ?_ _)); exact BK804.out) hb); have n2_ := Aside0.mk (below_step (by repeat (first | (with_reducible first | exact HB.out | apply below_alloc | apply pw_below_drewN | apply below_drew1 | refine below_set ?_ GE803.out | refine below_set ?_ GE804.out) | exact HB.out)) hb); clear BK803; clear BK804; clear HB; have BK803 := n0_; have BK804 := n1_; have HB := n2_; clear n0_ n1_ n2_; (try clear hb); (try clear hb2); (try clear hk); (try clear hi)))
      go_meet
      case rel => exact ⟨_, (true), (by first | rfl | (simp; done) | (simp [*]; done)), H', ⟨by first | omega | exact Nat.le_refl _⟩, ⟨by (with_reducible repeat (first | refine blk_drewN ?_ _ | refine blk_drew ?_ | refine blk_alloc ?_ _)); exact BK803.out⟩, ⟨by (with_reducible repeat (first | refine blk_drewN ?_ _ | refine blk_drew ?_ | refine blk_alloc ?_ _)); exact BK804.out⟩, ⟨by repeat (first | (with_reducible first | exact HB.out | apply below_alloc | apply pw_below_drewN | apply below_drew1 | refine below_set ?_ GE803.out | refine below_set ?_ GE804.out) | exact HB.out)⟩⟩
  case rest =>
    clear HC3
    try clear c1
    try clear p2
    try clear c6
    try clear c7
    try clear c8
    try clear c9
    try clear c13
    try clear hcz10_0
    try clear hcz10_1
    try clear hcz12_0
    try clear hcz12_1
    try clear hcz12_2
    try clear hcz12_3
    try clear hcz14_0
    try clear hcz14_1
    try clear hfz10_0
    try clear hfz10_1
    try clear hfz12_0
    try clear hfz12_1
    try clear hfz12_2
    try clear hfz12_3
    try clear hfz14_0
    try clear hfz14_1
    obtain ⟨kq, x13_2, rfl, HA, HJ2, BK803, BK804, HB⟩ := hcut
    cases kq with
    | zero => exact absurd HA.out (by simp [spec_AtomOk.j0])
    | succ kj2 =>
      have H := HA.out
      clear HA
      simp only [spec_AtomOk.j0] at H
      by_cases c16 : x13_2 = true
      · subst c16
        have H1 : (some false) = some r := by rw [if_pos rfl] at H; exact H
        clear H
        have H := H1
        clear H1
        obtain rfl := Option.some.inj H
        go_wp2
        go_ret
        exact ⟨by first | rfl | (simp [errW_none, errW_some] <;> rfl) | (simp [*, errW_none, errW_some] <;> rfl), by repeat (first | (with_reducible first | exact HB.out | apply below_alloc | apply pw_below_drewN | apply below_drew1 | refine below_set ?_ GE803.out | refine below_set ?_ GE804.out) | exact HB.out)⟩
      · replace c16 := Bool.eq_false_iff.mpr c16
        subst c16
        have H1 : (if a0_0 = 0 then ((spec_l01In.f a0_1 0 (wrap64 ((l1_1.length : Int) - 1))).bind fun t807 => (if t807 = true then ((spec_l01In.f a0_2 0 3).bind fun t808 => (some t808)) else (some false))) else (if a0_0 = 1 then (if a0_1 = 0 then ((spec_l01In.f a0_2 0 (wrap64 (a1_0 - 1))).bind fun t809 => (some t809)) else (some false)) else (some false))) = some r := by rw [if_neg (show ¬ (false = true) by decide)] at H; exact H
        clear H
        have H := H1
        clear H1
        by_cases c17 : a0_0 = 0
        · rw [if_pos c17] at H
          have c17b0 : (a0_0 == 0) = true := beq_iff_eq.mpr c17
          have c17b1 : (a0_0 != 0) = false := bne_eq_false_iff_eq.mpr c17
          clear c17
          replace H := Option.bind_eq_some_iff.mp H
          obtain ⟨t807, A180, H⟩ := H
          replace H : (if t807 = true then ((spec_l01In.f a0_2 0 3).bind fun t808 => (some t808)) else (some false)) = some r := H
          have A18 := Aside0.mk A180
          clear A180
          by_cases c19 : t807 = true
          · subst c19
            have H1 : ((spec_l01In.f a0_2 0 3).bind fun t808 => (some t808)) = some r := by rw [if_pos rfl] at H; exact H
            clear H
            have H := H1
            clear H1
            replace H := Option.bind_eq_some_iff.mp H
            obtain ⟨t808, A200, H⟩ := H
            replace H : (some t808) = some r := H
            have A20 := Aside0.mk A200
            clear A200
            obtain rfl := Option.some.inj H
            have hnb21 := NB803_804.out
            have hnc21 := NB804_803.out
            have hcz22_0 : wc.cell? ⟨gb803, 0, none⟩ = some (.int .i64 a0_0) := (blk_cell BK803.out 0).trans rfl
            have hcz22_1 : wc.cell? ⟨gb803, 1, none⟩ = some (.int .i64 a0_1) := (blk_cell BK803.out 1).trans rfl
            have hcz22_2 : wc.cell? ⟨gb803, 2, none⟩ = some (.int .i64 a0_2) := (blk_cell BK803.out 2).trans rfl
            have hcz22_3 : wc.cell? ⟨gb803, 3, none⟩ = some (.int .i64 a0_3) := (blk_cell BK803.out 3).trans rfl
            have hfz22_0 := blk_frozen BK803.out 0
            have hfz22_1 := blk_frozen BK803.out 1
            have hfz22_2 := blk_frozen BK803.out 2
            have hfz22_3 := blk_frozen BK803.out 3
            have hcz23_0 : wc.cell? ⟨gb804, 0, none⟩ = some (.int .i64 a1_0) := (blk_cell BK804.out 0).trans rfl
            have hcz23_1 : wc.cell? ⟨gb804, 1, none⟩ = some (.slice A1_1 l1_1.length c1_1) := (blk_cell BK804.out 1).trans rfl
            have hfz23_0 := blk_frozen BK804.out 0
            have hfz23_1 := blk_frozen BK804.out 1
            go_wp2_with (first | ((with_reducible refine gate_callee (f := 141) rfl ?_); refine goesL_ (some 23) rfl rfl Try.func141 (by kernel_rfl) rfl #[.int .i64 a0_1, .int .i64 0, .int .i64 (wrap64 ((l1_1.length : Int) - 1))] rfl (by (try simp only [List.map_toArray, List.map_cons, List.map_nil]); first | done | rfl | (simp only [List.length_drop, List.length_take]; rfl)) ?_; (with_reducible refine (spec_l01In.calls a0_1 0 (wrap64 ((l1_1.length : Int) - 1)) true _ A18.out).mono ?_); rintro e w' ⟨rfl, ⟨nd, rfl⟩⟩; refine ⟨_, rfl, ?_⟩) | (go_at_call 141; (with_reducible refine (spec_l01In.calls a0_2 0 3 t808 _ A20.out).mono ?_); rintro e w' ⟨rfl, ⟨nd, rfl⟩⟩))
            go_ret
            exact ⟨by first | rfl | (simp [errW_none, errW_some] <;> rfl) | (simp [*, errW_none, errW_some] <;> rfl), by repeat (first | (with_reducible first | exact HB.out | apply below_alloc | apply pw_below_drewN | apply below_drew1 | refine below_set ?_ GE803.out | refine below_set ?_ GE804.out) | exact HB.out)⟩
          · replace c19 := Bool.eq_false_iff.mpr c19
            subst c19
            have H1 : (some false) = some r := by rw [if_neg (show ¬ (false = true) by decide)] at H; exact H
            clear H
            have H := H1
            clear H1
            obtain rfl := Option.some.inj H
            have hnb24 := NB803_804.out
            have hnc24 := NB804_803.out
            have hcz25_0 : wc.cell? ⟨gb803, 0, none⟩ = some (.int .i64 a0_0) := (blk_cell BK803.out 0).trans rfl
            have hcz25_1 : wc.cell? ⟨gb803, 1, none⟩ = some (.int .i64 a0_1) := (blk_cell BK803.out 1).trans rfl
            have hcz25_2 : wc.cell? ⟨gb803, 2, none⟩ = some (.int .i64 a0_2) := (blk_cell BK803.out 2).trans rfl
            have hcz25_3 : wc.cell? ⟨gb803, 3, none⟩ = some (.int .i64 a0_3) := (blk_cell BK803.out 3).trans rfl
            have hfz25_0 := blk_frozen BK803.out 0
            have hfz25_1 := blk_frozen BK803.out 1
            have hfz25_2 := blk_frozen BK803.out 2
            have hfz25_3 := blk_frozen BK803.out 3
            have hcz26_0 : wc.cell? ⟨gb804, 0, none⟩ = some (.int .i64 a1_0) := (blk_cell BK804.out 0).trans rfl
            have hcz26_1 : wc.cell? ⟨gb804, 1, none⟩ = some (.slice A1_1 l1_1.length c1_1) := (blk_cell BK804.out 1).trans rfl
            have hfz26_0 := blk_frozen BK804.out 0
            have hfz26_1 := blk_frozen BK804.out 1
            go_wp2_with (first | ((with_reducible refine gate_callee (f := 141) rfl ?_); refine goesL_ (some 23) rfl rfl Try.func141 (by kernel_rfl) rfl #[.int .i64 a0_1, .int .i64 0, .int .i64 (wrap64 ((l1_1.length : Int) - 1))] rfl (by (try simp only [List.map_toArray, List.map_cons, List.map_nil]); first | done | rfl | (simp only [List.length_drop, List.length_take]; rfl)) ?_; (with_reducible refine (spec_l01In.calls a0_1 0 (wrap64 ((l1_1.length : Int) - 1)) false _ A18.out).mono ?_); rintro e w' ⟨rfl, ⟨nd, rfl⟩⟩; refine ⟨_, rfl, ?_⟩))
            go_ret
            exact ⟨by first | rfl | (simp [errW_none, errW_some] <;> rfl) | (simp [*, errW_none, errW_some] <;> rfl), by repeat (first | (with_reducible first | exact HB.out | apply below_alloc | apply pw_below_drewN | apply below_drew1 | refine below_set ?_ GE803.out | refine below_set ?_ GE804.out) | exact HB.out)⟩
        · rw [if_neg c17] at H
          have c17b0 : (a0_0 == 0) = false := beq_eq_false_iff_ne.mpr c17
          have c17b1 : (a0_0 != 0) = true := bne_iff_ne.mpr c17
          by_cases c27 : a0_0 = 1
          · rw [if_pos c27] at H
            have c27b0 : (a0_0 == 1) = true := beq_iff_eq.mpr c27
            have c27b1 : (a0_0 != 1) = false := bne_eq_false_iff_eq.mpr c27
            clear c27
            by_cases c28 : a0_1 = 0
            · rw [if_pos c28] at H
              have c28b0 : (a0_1 == 0) = true := beq_iff_eq.mpr c28
              have c28b1 : (a0_1 != 0) = false := bne_eq_false_iff_eq.mpr c28
              clear c28
              replace H := Option.bind_eq_some_iff.mp H
              obtain ⟨t809, A290, H⟩ := H
              replace H : (some t809) = some r := H
              have A29 := Aside0.mk A290
              clear A290
              obtain rfl := Option.some.inj H
              have hnb30 := NB803_804.out
              have hnc30 := NB804_803.out
              have hcz31_0 : wc.cell? ⟨gb803, 0, none⟩ = some (.int .i64 a0_0) := (blk_cell BK803.out 0).trans rfl
              have hcz31_1 : wc.cell? ⟨gb803, 1, none⟩ = some (.int .i64 a0_1) := (blk_cell BK803.out 1).trans rfl
              have hcz31_2 : wc.cell? ⟨gb803, 2, none⟩ = some (.int .i64 a0_2) := (blk_cell BK803.out 2).trans rfl
              have hcz31_3 : wc.cell? ⟨gb803, 3, none⟩ = some (.int .i64 a0_3) := (blk_cell BK803.out 3).trans rfl
              have hfz31_0 := blk_frozen BK803.out 0
              have hfz31_1 := blk_frozen BK803.out 1
              have hfz31_2 := blk_frozen BK803.out 2
              have hfz31_3 := blk_frozen BK803.out 3
              have hcz32_0 : wc.cell? ⟨gb804, 0, none⟩ = some (.int .i64 a1_0) := (blk_cell BK804.out 0).trans rfl
              have hcz32_1 : wc.cell? ⟨gb804, 1, none⟩ = some (.slice A1_1 l1_1.length c1_1) := (blk_cell BK804.out 1).trans rfl
              have hfz32_0 := blk_frozen BK804.out 0
              have hfz32_1 := blk_frozen BK804.out 1
              go_wp2_with (first | (go_at_call 141; (with_reducible refine (spec_l01In.calls a0_2 0 (wrap64 (a1_0 - 1)) t809 _ A29.out).mono ?_); rintro e w' ⟨rfl, ⟨nd, rfl⟩⟩))
              go_ret
              exact ⟨by first | rfl | (simp [errW_none, errW_some] <;> rfl) | (simp [*, errW_none, errW_some] <;> rfl), by repeat (first | (with_reducible first | exact HB.out | apply below_alloc | apply pw_below_drewN | apply below_drew1 | refine below_set ?_ GE803.out | refine below_set ?_ GE804.out) | exact HB.out)⟩
            · rw [if_neg c28] at H
              have c28b0 : (a0_1 == 0) = false := beq_eq_false_iff_ne.mpr c28
              have c28b1 : (a0_1 != 0) = true := bne_iff_ne.mpr c28
              obtain rfl := Option.some.inj H
              have hnb33 := NB803_804.out
              have hnc33 := NB804_803.out
              have hcz34_0 : wc.cell? ⟨gb803, 0, none⟩ = some (.int .i64 a0_0) := (blk_cell BK803.out 0).trans rfl
              have hcz34_1 : wc.cell? ⟨gb803, 1, none⟩ = some (.int .i64 a0_1) := (blk_cell BK803.out 1).trans rfl
              have hcz34_2 : wc.cell? ⟨gb803, 2, none⟩ = some (.int .i64 a0_2) := (blk_cell BK803.out 2).trans rfl
              have hcz34_3 : wc.cell? ⟨gb803, 3, none⟩ = some (.int .i64 a0_3) := (blk_cell BK803.out 3).trans rfl
              have hfz34_0 := blk_frozen BK803.out 0
              have hfz34_1 := blk_frozen BK803.out 1
              have hfz34_2 := blk_frozen BK803.out 2
              have hfz34_3 := blk_frozen BK803.out 3
              go_wp2
              go_ret
              exact ⟨by first | rfl | (simp [errW_none, errW_some] <;> rfl) | (simp [*, errW_none, errW_some] <;> rfl), by repeat (first | (with_reducible first | exact HB.out | apply below_alloc | apply pw_below_drewN | apply below_drew1 | refine below_set ?_ GE803.out | refine below_set ?_ GE804.out) | exact HB.out)⟩
          · rw [if_neg c27] at H
            have c27b0 : (a0_0 == 1) = false := beq_eq_false_iff_ne.mpr c27
            have c27b1 : (a0_0 != 1) = true := bne_iff_ne.mpr c27
            obtain rfl := Option.some.inj H
            have hnb35 := NB803_804.out
            have hnc35 := NB804_803.out
            have hcz36_0 : wc.cell? ⟨gb803, 0, none⟩ = some (.int .i64 a0_0) := (blk_cell BK803.out 0).trans rfl
            have hcz36_1 : wc.cell? ⟨gb803, 1, none⟩ = some (.int .i64 a0_1) := (blk_cell BK803.out 1).trans rfl
            have hcz36_2 : wc.cell? ⟨gb803, 2, none⟩ = some (.int .i64 a0_2) := (blk_cell BK803.out 2).trans rfl
            have hcz36_3 : wc.cell? ⟨gb803, 3, none⟩ = some (.int .i64 a0_3) := (blk_cell BK803.out 3).trans rfl
            have hfz36_0 := blk_frozen BK803.out 0
            have hfz36_1 := blk_frozen BK803.out 1
            have hfz36_2 := blk_frozen BK803.out 2
            have hfz36_3 := blk_frozen BK803.out 3
            go_wp2
            go_ret
            exact ⟨by first | rfl | (simp [errW_none, errW_some] <;> rfl) | (simp [*, errW_none, errW_some] <;> rfl), by repeat (first | (with_reducible first | exact HB.out | apply below_alloc | apply pw_below_drewN | apply below_drew1 | refine below_set ?_ GE803.out | refine below_set ?_ GE804.out) | exact HB.out)⟩

/-! ### impl_AtomOk: function 83 -/
def impl_AtomOk.j0 : Nat → Bool → Int → Int → Int → Int → Int → List (List (S176)) → Option (Bool)
  | 0, _, _, _, _, _, _, _ => none
  | k + 1, x13, x814000, x814001, x814002, x814003, x815000, x815001 => if x13 = true then (some false) else (if x814000 = 0 then ((impl_within.f x814001 0 (wrap64 ((x815001.length : Int) - 1))).bind fun t817 => (if t817 = true then ((impl_isRegister.f x814002).bind fun t818 => (some t818)) else (some false))) else (if x814000 = 1 then (if x814001 = 0 then ((impl_within.f x814002 0 (wrap64 (x815000 - 1))).bind fun t819 => (some t819)) else (some false)) else (some false)))
def impl_AtomOk.f (k : Nat) (a0_0 : Int) (a0_1 : Int) (a0_2 : Int) (a0_3 : Int) (a1_0 : Int) (l1_1 : List (List (S176))) : Option (Bool) := (impl_ProgOk.f a1_0 l1_1).bind fun t815 => (if t815 = true then ((impl_isValue.f a0_3).bind fun t816 => (impl_AtomOk.j0 k (!t816) a0_0 a0_1 a0_2 a0_3 a1_0 l1_1)) else (impl_AtomOk.j0 k true a0_0 a0_1 a0_2 a0_3 a1_0 l1_1))
theorem impl_AtomOk.mono_l : ∀ k, (∀ y0 y1 y2 y3 y4 y5 y6, LeO (impl_AtomOk.j0 k y0 y1 y2 y3 y4 y5 y6) (impl_AtomOk.j0 (k + 1) y0 y1 y2 y3 y4 y5 y6))
  | 0 => fun _ _ _ _ _ _ _ r h => by simp [impl_AtomOk.j0] at h
  | k + 1 => by
    have ih0 := impl_AtomOk.mono_l k
    · intro y0 y1 y2 y3 y4 y5 y6
      unfold impl_AtomOk.j0
      repeat' first
      | (with_reducible exact ih0 _ _ _ _ _ _ _)
      | (with_reducible exact LeO.refl _)
      | (with_reducible exact LeO.none _)
      | (with_reducible refine LeO.ite ?_ ?_)
      | (with_reducible refine LeO.bind ?_ (fun _ => ?_))
      | exact ih0 _ _ _ _ _ _ _
      | exact LeO.none _
      | refine LeO.ite ?_ ?_
      | refine LeO.bind ?_ (fun _ => ?_)
theorem impl_AtomOk.mono : ∀ a0 a1 a2 a3 a4 a5 k, LeO (impl_AtomOk.f k a0 a1 a2 a3 a4 a5) (impl_AtomOk.f (k + 1) a0 a1 a2 a3 a4 a5) := by
  intro a0 a1 a2 a3 a4 a5 k
  have ih0 := impl_AtomOk.mono_l k
  unfold impl_AtomOk.f
  repeat' first
      | (with_reducible exact ih0 _ _ _ _ _ _ _)
      | (with_reducible exact LeO.refl _)
      | (with_reducible exact LeO.none _)
      | (with_reducible refine LeO.ite ?_ ?_)
      | (with_reducible refine LeO.bind ?_ (fun _ => ?_))
      | exact ih0 _ _ _ _ _ _ _
      | exact LeO.none _
      | refine LeO.ite ?_ ?_
      | refine LeO.bind ?_ (fun _ => ?_)
set_option maxHeartbeats 8000000 in
set_option maxRecDepth 100000 in
theorem impl_AtomOk.calls (k : Nat) (a0_0 : Int) (a0_1 : Int) (a0_2 : Int) (a0_3 : Int) (a1_0 : Int) (A1_1 : Option Addr) (c1_1 : Nat) (l1_1 : List (List (S176))) (r : Bool) (w : World) (hr1_1 : Kd.C (Kd.slice 176 k176) w A1_1 l1_1.length l1_1) (hc1_1 : l1_1.length ≤ c1_1) (h : impl_AtomOk.f k a0_0 a0_1 a0_2 a0_3 a1_0 l1_1 = some r) :
    Calls Try.prog 83 #[.agg #[.int .i64 a0_0, .int .i64 a0_1, .int .i64 a0_2, .int .i64 a0_3], .agg #[.int .i64 a1_0, .slice A1_1 l1_1.length c1_1]] w fun e w' => e = .returned (.bool r) ∧ Below w.heap.size w w' := by
  have hu105 := Try.underlying105
  have hu81 := Try.underlying81
  have HR1_1 := Aside0.mk hr1_1
  have HC1_1 := Aside0.mk hc1_1
  clear hr1_1 hc1_1
  have HB := Aside0.mk (Below.refl w.heap.size w)
  have H : ((impl_ProgOk.f a1_0 l1_1).bind fun t815 => (if t815 = true then ((impl_isValue.f a0_3).bind fun t816 => (impl_AtomOk.j0 k (!t816) a0_0 a0_1 a0_2 a0_3 a1_0 l1_1)) else (impl_AtomOk.j0 k true a0_0 a0_1 a0_2 a0_3 a1_0 l1_1))) = some r := h
  clear h
  have HC3 := Aside0.mk H
  clear H
  go_enter Try.func83, Try.ntmps83
  go_upto_region 1 with (first | ((with_reducible refine gate_dst (N := 2) rfl ?_); refine box_event ?hg (N := 2) ?hd (cs := #[.int .i64 a0_0, .int .i64 a0_1, .int .i64 a0_2, .int .i64 a0_3]) (t := 105) ?hr ?_; (case hd => rfl); (case hg => rfl); (case hr => first | (go_simp; done) | (go_simp; rfl)); intro gb813 hg w4 hbox hb; have n0_ := Aside0.mk (below_step (by repeat (first | (with_reducible first | exact HB.out | apply below_alloc | apply pw_below_drewN | apply below_drew1) | exact HB.out)) hb); have n1_ := Aside0.mk (hbox); have n2_ := Aside0.mk ((by rw [hg]; exact (below_size (by repeat (first | (with_reducible first | exact HB.out | apply below_alloc | apply pw_below_drewN | apply below_drew1) | exact HB.out))) : w.heap.size ≤ gb813)); have n3_ := Aside0.mk ((by rw [hg]; exact (below_size (by repeat (first | (with_reducible first | exact HB.out | apply below_alloc | apply pw_below_drewN | apply below_drew1) | exact HB.out))) : w.heap.size ≤ gb813)); clear HB; have HB := n0_; have BK813 := n1_; have GW813 := n2_; have GE813 := n3_; clear n0_ n1_ n2_ n3_; clear hb hbox hg) | ((with_reducible refine gate_dst (N := 3) rfl ?_); refine box_event ?hg (N := 3) ?hd (cs := #[.int .i64 a1_0, .slice A1_1 l1_1.length c1_1]) (t := 81) ?hr ?_; (case hd => rfl); (case hg => rfl); (case hr => first | (go_simp; done) | (go_simp; rfl)); intro gb814 hg w5 hbox hb; have n0_ := Aside0.mk (blk_below (g := gb813) (o := .cells #[.int .i64 a0_0, .int .i64 a0_1, .int .i64 a0_2, .int .i64 a0_3] 105 (0, 0)) (by (with_reducible repeat (first | refine blk_drewN ?_ _ | refine blk_drew ?_ | refine blk_alloc ?_ _)); exact BK813.out) hb); have n1_ := Aside0.mk (below_step (by repeat (first | (with_reducible first | exact HB.out | apply below_alloc | apply pw_below_drewN | apply below_drew1 | refine below_set ?_ GE813.out) | exact HB.out)) hb); have n2_ := Aside0.mk (hbox); have n3_ := Aside0.mk ((by rw [hg]; exact (below_size (by repeat (first | (with_reducible first | exact HB.out | apply below_alloc | apply pw_below_drewN | apply below_drew1 | refine below_set ?_ GE813.out) | exact HB.out))) : w.heap.size ≤ gb814)); have n4_ := Aside0.mk ((by rw [hg]; exact (below_size (by repeat (first | (with_reducible first | exact HB.out | apply below_alloc | apply pw_below_drewN | apply below_drew1 | refine below_set ?_ GE813.out) | exact HB.out))) : w.heap.size ≤ gb814)); have n5_ := Aside0.mk ((by rw [hg]; exact Nat.ne_of_lt (blk_lt (g := gb813) (o := .cells #[.int .i64 a0_0, .int .i64 a0_1, .int .i64 a0_2, .int .i64 a0_3] 105 (0, 0)) (by (with_reducible repeat (first | refine blk_drewN ?_ _ | refine blk_drew ?_ | refine blk_alloc ?_ _)); exact BK813.out)) : gb813 ≠ gb814)); have n6_ := Aside0.mk ((by rw [hg]; exact Nat.ne_of_gt (blk_lt (g := gb813) (o := .cells #[.int .i64 a0_0, .int .i64 a0_1, .int .i64 a0_2, .int .i64 a0_3] 105 (0, 0)) (by (with_reducible repeat (first | refine blk_drewN ?_ _ | refine blk_drew ?_ | refine blk_alloc ?_ _)); exact BK813.out)) : gb814 ≠ gb813)); clear BK813; clear HB; have BK813 := n0_; have HB := n1_; have BK814 := n2_; have GW814 := n3_; have GE814 := n4_; have NB813_814 := n5_; have NB814_813 := n6_; clear n0_ n1_ n2_ n3_ n4_ n5_ n6_; clear hb hbox hg))
  (try simp only [Act.put, List.setIfInBounds_toArray, List.set_cons_zero, List.set_cons_succ])
  go_cut [13] (fun v13 wc => ∃ (kq : Nat) (x13_2 : Bool), v13 = .bool x13_2 ∧ Aside0 (impl_AtomOk.j0 kq x13_2 a0_0 a0_1 a0_2 a0_3 a1_0 l1_1 = some r) ∧ Aside0 (kq ≤ k) ∧ Aside0 (wc.heap[gb813]? = some (.cells #[.int .i64 a0_0, .int .i64 a0_1, .int .i64 a0_2, .int .i64 a0_3] 105 (0, 0))) ∧ Aside0 (wc.heap[gb814]? = some (.cells #[.int .i64 a1_0, (.slice A1_1 l1_1.length c1_1)] 81 (0, 0))) ∧ Aside0 (Below w.heap.size w wc))
  case first =>
    have H := HC3.out
    clear HC3
    replace H := Option.bind_eq_some_iff.mp H
    obtain ⟨t815, A60, H⟩ := H
    replace H : (if t815 = true then ((impl_isValue.f a0_3).bind fun t816 => (impl_AtomOk.j0 k (!t816) a0_0 a0_1 a0_2 a0_3 a1_0 l1_1)) else (impl_AtomOk.j0 k true a0_0 a0_1 a0_2 a0_3 a1_0 l1_1)) = some r := H
    have A6 := Aside0.mk A60
    clear A60
    by_cases c7 : t815 = true
    · subst c7
      have H1 : ((impl_isValue.f a0_3).bind fun t816 => (impl_AtomOk.j0 k (!t816) a0_0 a0_1 a0_2 a0_3 a1_0 l1_1)) = some r := by rw [if_pos rfl] at H; exact H
      clear H
      have H := H1
      clear H1
      replace H := Option.bind_eq_some_iff.mp H
      obtain ⟨t816, A80, H⟩ := H
      replace H : (impl_AtomOk.j0 k (!t816) a0_0 a0_1 a0_2 a0_3 a1_0 l1_1) = some r := H
      have A8 := Aside0.mk A80
      clear A80
      have H' := Aside0.mk H
      clear H
      have hnb9 := NB814_813.out
      have hnc9 := NB813_814.out
      have hcz10_0 : w5.cell? ⟨gb814, 0, none⟩ = some (.int .i64 a1_0) := (blk_cell BK814.out 0).trans rfl
      have hcz10_1 : w5.cell? ⟨gb814, 1, none⟩ = some (.slice A1_1 l1_1.length c1_1) := (blk_cell BK814.out 1).trans rfl
      have hfz10_0 := blk_frozen BK814.out 0
      have hfz10_1 := blk_frozen BK814.out 1
      go_wp2_with (first | ((with_reducible refine gate_callee (f := 71) rfl ?_); refine goesL_ (some 6) rfl rfl Try.func71 (by kernel_rfl) rfl #[.agg #[.int .i64 a1_0, .slice A1_1 l1_1.length c1_1]] rfl (by (try simp only [List.map_toArray, List.map_cons, List.map_nil]); first | done | rfl | (simp only [List.length_drop, List.length_take]; rfl)) ?_; (with_reducible refine (impl_ProgOk.calls a1_0 _ _ l1_1 true _ ?side1 ?side2 A6.out).mono ?_); (case side1 => repeat (first | exact (Kd.C_below HR1_1.out HB.out) | (with_reducible refine Kd.C_alloc ?_ _) | (with_reducible refine Kd.C_drewN ?_ _) | (with_reducible refine Kd.C_drew ?_))); (case side2 => exact HC1_1.out); rintro e w11 ⟨rfl, hb⟩; refine ⟨_, rfl, ?_⟩; have n0_ := Aside0.mk (blk_below (g := gb813) (o := .cells #[.int .i64 a0_0, .int .i64 a0_1, .int .i64 a0_2, .int .i64 a0_3] 105 (0, 0)) (by (with_reducible repeat (first | refine blk_drewN ?_ _ | refine blk_drew ?_ | refine blk_alloc ?_ _)); exact BK813.out) hb); have n1_ := Aside0.mk (blk_below (g := gb814) (o := .cells #[.int .i64 a1_0, .slice A1_1 l1_1.length c1_1] 81 (0, 0)) (by (with_reducible repeat (first | refine blk_drewN ?_ _ | refine blk_drew ?_ | refine blk_alloc ?_ _)); exact BK814.out) hb); have n2_ := Aside0.mk (below_step (by repeat (first | (with_reducible first | exact HB.out | apply below_alloc | apply pw_below_drewN | apply below_drew1 | refine below_set ?_ GE813.out | refine below_set ?_ GE814.out) | exact HB.out)) hb); clear BK813; clear BK814; clear HB; have BK813 := n0_; have BK814 := n1_; have HB := n2_; clear n0_ n1_ n2_; (try clear hb); (try clear hb2); (try clear hk); (try clear hi); have hcz12_0 : w11.cell? ⟨gb813, 0, none⟩ = some (.int .i64 a0_0) := (blk_cell BK813.out 0).trans rfl; have hcz12_1 : w11.cell? ⟨gb813, 1, none⟩ = some (.int .i64 a0_1) := (blk_cell BK813.out 1).trans rfl; have hcz12_2 : w11.cell? ⟨gb813, 2, none⟩ = some (.int .i64 a0_2) := (blk_cell BK813.out 2).trans rfl; have hcz12_3 : w11.cell? ⟨gb813, 3, none⟩ = some (.int .i64 a0_3) := (blk_cell BK813.out 3).trans rfl; have hfz12_0 := blk_frozen BK813.out 0; have hfz12_1 := blk_frozen BK813.out 1; have hfz12_2 := blk_frozen BK813.out 2; have hfz12_3 := blk_frozen BK813.out 3) | (go_at_call 179; (with_reducible refine (impl_isValue.calls a0_3 t816 _ A8.out).mono ?_); rintro e w' ⟨rfl, ⟨nd, rfl⟩⟩))
      go_meet
      case rel => exact ⟨_, (!t816), (by first | rfl | (simp; done) | (simp [*]; done)), H', ⟨by first | omega | exact Nat.le_refl _⟩, ⟨by (with_reducible repeat (first | refine blk_drewN ?_ _ | refine blk_drew ?_ | refine blk_alloc ?_ _)); exact BK813.out⟩, ⟨by (with_reducible repeat (first | refine blk_drewN ?_ _ | refine blk_drew ?_ | refine blk_alloc ?_ _)); exact BK814.out⟩, ⟨by repeat (first | (with_reducible first | exact HB.out | apply below_alloc | apply pw_below_drewN | apply below_drew1 | refine below_set ?_ GE813.out | refine below_set ?_ GE814.out) | exact HB.out)⟩⟩
    · replace c7 := Bool.eq_false_iff.mpr c7
      subst c7
      have H1 : (impl_AtomOk.j0 k true a0_0 a0_1 a0_2 a0_3 a1_0 l1_1) = some r := by rw [if_neg (show ¬ (false = true) by decide)] at H; exact H
      clear H
      have H := H1
      clear H1
      have H' := Aside0.mk H
      clear H
      have hnb13 := NB814_813.out
      have hnc13 := NB813_814.out
      have hcz14_0 : w5.cell? ⟨gb814, 0, none⟩ = some (.int .i64 a1_0) := (blk_cell BK814.out 0).trans rfl
      have hcz14_1 : w5.cell? ⟨gb814, 1, none⟩ = some (.slice A1_1 l1_1.length c1_1) := (blk_cell BK814.out 1).trans rfl
      have hfz14_0 := blk_frozen BK814.out 0
      have hfz14_1 := blk_frozen BK814.out 1
      go_wp2_with (first | ((with_reducible refine gate_callee (f := 71) rfl ?_); refine goesL_ (some 6) rfl rfl Try.func71 (by kernel_rfl) rfl #[.agg #[.int .i64 a1_0, .slice A1_1 l1_1.length c1_1]] rfl (by (try simp only [List.map_toArray, List.map_cons, List.map_nil]); first | done | rfl | (simp only [List.length_drop, List.length_take]; rfl)) ?_; (with_reducible refine (impl_ProgOk.calls a1_0 _ _ l1_1 false _ ?side1 ?side2 A6.out).mono ?_); (case side1 => repeat (first | exact (Kd.C_below HR1_1.out HB.out) | (with_reducible refine Kd.C_alloc ?_ _) | (with_reducible refine Kd.C_drewN ?_ _) | (with_reducible refine Kd.C_drew ?_))); (case side2 => exact HC1_1.out); rintro e w15 ⟨rfl, hb⟩; refine ⟨_, rfl, ?_⟩; have n0_ := Aside0.mk (blk_below (g := gb813) (o := .cells #[.int .i64 a0_0, .int .i64 a0_1, .int .i64 a0_2, .int .i64 a0_3] 105 (0, 0)) (by (with_reducible repeat (first | refine blk_drewN ?_ _ | refine blk_drew ?_ | refine blk_alloc ?_ _)); exact BK813.out) hb); have n1_ := Aside0.mk (blk_below (g := gb814) (o := .cells #[.int .i64 a1_0, .slice A1_1 l1_1.length c1_1] 81 (0, 0)) (by (with_reducible repeat (first | refine blk_drewN ?_ _ | refine blk_drew ?_ | refine blk_alloc ?_ _)); exact BK814.out) hb); have n2_ := Aside0.mk (below_step (by repeat (first | (with_reducible first | exact HB.out | apply below_alloc | apply pw_below_drewN | apply below_drew1 | refine below_set ?_ GE813.out | refine below_set ?_ GE814.out) | exact HB.out)) hb); clear BK813; clear BK814; clear HB; have BK813 := n0_; have BK814 := n1_; have HB := n2_; clear n0_ n1_ n2_; (try clear hb); (try clear hb2); (try clear hk); (try clear hi)))
      go_meet
      case rel => exact ⟨_, (true), (by first | rfl | (simp; done) | (simp [*]; done)), H', ⟨by first | omega | exact Nat.le_refl _⟩, ⟨by (with_reducible repeat (first | refine blk_drewN ?_ _ | refine blk_drew ?_ | refine blk_alloc ?_ _)); exact BK813.out⟩, ⟨by (with_reducible repeat (first | refine blk_drewN ?_ _ | refine blk_drew ?_ | refine blk_alloc ?_ _)); exact BK814.out⟩, ⟨by repeat (first | (with_reducible first | exact HB.out | apply below_alloc | apply pw_below_drewN | apply below_drew1 | refine below_set ?_ GE813.out | refine below_set ?_ GE814.out) | exact HB.out)⟩⟩
  case rest =>
    clear HC3
    try clear c1
    try clear p2
    try clear c7
    try clear c8
    try clear c9
    try clear c13
    try clear hcz10_0
    try clear hcz10_1
    try clear hcz12_0
    try clear hcz12_1
    try clear hcz12_2
    try clear hcz12_3
    try clear hcz14_0
    try clear hcz14_1
    try clear hfz10_0
    try clear hfz10_1
    try clear hfz12_0
    try clear hfz12_1
    try clear hfz12_2
    try clear hfz12_3
    try clear hfz14_0
    try clear hfz14_1
    obtain ⟨kq, x13_2, rfl, HA, HJ2, BK813, BK814, HB⟩ := hcut
    cases kq with
    | zero => exact absurd HA.out (by simp [impl_AtomOk.j0])
    | succ kj2 =>
      have H := HA.out
      clear HA
      simp only [impl_AtomOk.j0] at H
      by_cases c16 : x13_2 = true
      · subst c16
        have H1 : (some false) = some r := by rw [if_pos rfl] at H; exact H
        clear H
        have H := H1
        clear H1
        obtain rfl := Option.some.inj H
        go_wp2
        go_ret
        exact ⟨by first | rfl | (simp [errW_none, errW_some] <;> rfl) | (simp [*, errW_none, errW_some] <;> rfl), by repeat (first | (with_reducible first | exact HB.out | apply below_alloc | apply pw_below_drewN | apply below_drew1 | refine below_set ?_ GE813.out | refine below_set ?_ GE814.out) | exact HB.out)⟩
      · replace c16 := Bool.eq_false_iff.mpr c16
        subst c16
        have H1 : (if a0_0 = 0 then ((impl_within.f a0_1 0 (wrap64 ((l1_1.length : Int) - 1))).bind fun t817 => (if t817 = true then ((impl_isRegister.f a0_2).bind fun t818 => (some t818)) else (some false))) else (if a0_0 = 1 then (if a0_1 = 0 then ((impl_within.f a0_2 0 (wrap64 (a1_0 - 1))).bind fun t819 => (some t819)) else (some false)) else (some false))) = some r := by rw [if_neg (show ¬ (false = true) by decide)] at H; exact H
        clear H
        have H := H1
        clear H1
        by_cases c17 : a0_0 = 0
        · rw [if_pos c17] at H
          have c17b0 : (a0_0 == 0) = true := beq_iff_eq.mpr c17
          have c17b1 : (a0_0 != 0) = false := bne_eq_false_iff_eq.mpr c17
          clear c17
          replace H := Option.bind_eq_some_iff.mp H
          obtain ⟨t817, A180, H⟩ := H
          replace H : (if t817 = true then ((impl_isRegister.f a0_2).bind fun t818 => (some t818)) else (some false)) = some r := H
          have A18 := Aside0.mk A180
          clear A180
          by_cases c19 : t817 = true
          · subst c19
            have H1 : ((impl_isRegister.f a0_2).bind fun t818 => (some t818)) = some r := by rw [if_pos rfl] at H; exact H
            clear H
            have H := H1
            clear H1
            replace H := Option.bind_eq_some_iff.mp H
            obtain ⟨t818, A200, H⟩ := H
            replace H : (some t818) = some r := H
            have A20 := Aside0.mk A200
            clear A200
            obtain rfl := Option.some.inj H
            have hnb21 := NB813_814.out
            have hnc21 := NB814_813.out
            have hcz22_0 : wc.cell? ⟨gb813, 0, none⟩ = some (.int .i64 a0_0) := (blk_cell BK813.out 0).trans rfl
            have hcz22_1 : wc.cell? ⟨gb813, 1, none⟩ = some (.int .i64 a0_1) := (blk_cell BK813.out 1).trans rfl
            have hcz22_2 : wc.cell? ⟨gb813, 2, none⟩ = some (.int .i64 a0_2) := (blk_cell BK813.out 2).trans rfl
            have hcz22_3 : wc.cell? ⟨gb813, 3, none⟩ = some (.int .i64 a0_3) := (blk_cell BK813.out 3).trans rfl
            have hfz22_0 := blk_frozen BK813.out 0
            have hfz22_1 := blk_frozen BK813.out 1
            have hfz22_2 := blk_frozen BK813.out 2
            have hfz22_3 := blk_frozen BK813.out 3
            have hcz23_0 : wc.cell? ⟨gb814, 0, none⟩ = some (.int .i64 a1_0) := (blk_cell BK814.out 0).trans rfl
            have hcz23_1 : wc.cell? ⟨gb814, 1, none⟩ = some (.slice A1_1 l1_1.length c1_1) := (blk_cell BK814.out 1).trans rfl
            have hfz23_0 := blk_frozen BK814.out 0
            have hfz23_1 := blk_frozen BK814.out 1
            go_wp2_with (first | ((with_reducible refine gate_callee (f := 164) rfl ?_); refine goesL_ (some 24) rfl rfl Try.func164 (by kernel_rfl) rfl #[.int .i64 a0_1, .int .i64 0, .int .i64 (wrap64 ((l1_1.length : Int) - 1))] rfl (by (try simp only [List.map_toArray, List.map_cons, List.map_nil]); first | done | rfl | (simp only [List.length_drop, List.length_take]; rfl)) ?_; (with_reducible refine (impl_within.calls a0_1 0 (wrap64 ((l1_1.length : Int) - 1)) true _ A18.out).mono ?_); rintro e w' ⟨rfl, ⟨nd, rfl⟩⟩; refine ⟨_, rfl, ?_⟩) | (go_at_call 180; (with_reducible refine (impl_isRegister.calls a0_2 t818 _ A20.out).mono ?_); rintro e w' ⟨rfl, ⟨nd, rfl⟩⟩))
            go_ret
            exact ⟨by first | rfl | (simp [errW_none, errW_some] <;> rfl) | (simp [*, errW_none, errW_some] <;> rfl), by repeat (first | (with_reducible first | exact HB.out | apply below_alloc | apply pw_below_drewN | apply below_drew1 | refine below_set ?_ GE813.out | refine below_set ?_ GE814.out) | exact HB.out)⟩
          · replace c19 := Bool.eq_false_iff.mpr c19
            subst c19
            have H1 : (some false) = some r := by rw [if_neg (show ¬ (false = true) by decide)] at H; exact H
            clear H
            have H := H1
            clear H1
            obtain rfl := Option.some.inj H
            have hnb24 := NB813_814.out
            have hnc24 := NB814_813.out
            have hcz25_0 : wc.cell? ⟨gb813, 0, none⟩ = some (.int .i64 a0_0) := (blk_cell BK813.out 0).trans rfl
            have hcz25_1 : wc.cell? ⟨gb813, 1, none⟩ = some (.int .i64 a0_1) := (blk_cell BK813.out 1).trans rfl
            have hcz25_2 : wc.cell? ⟨gb813, 2, none⟩ = some (.int .i64 a0_2) := (blk_cell BK813.out 2).trans rfl
            have hcz25_3 : wc.cell? ⟨gb813, 3, none⟩ = some (.int .i64 a0_3) := (blk_cell BK813.out 3).trans rfl
            have hfz25_0 := blk_frozen BK813.out 0
            have hfz25_1 := blk_frozen BK813.out 1
            have hfz25_2 := blk_frozen BK813.out 2
            have hfz25_3 := blk_frozen BK813.out 3
            have hcz26_0 : wc.cell? ⟨gb814, 0, none⟩ = some (.int .i64 a1_0) := (blk_cell BK814.out 0).trans rfl
            have hcz26_1 : wc.cell? ⟨gb814, 1, none⟩ = some (.slice A1_1 l1_1.length c1_1) := (blk_cell BK814.out 1).trans rfl
            have hfz26_0 := blk_frozen BK814.out 0
            have hfz26_1 := blk_frozen BK814.out 1
            go_wp2_with (first | ((with_reducible refine gate_callee (f := 164) rfl ?_); refine goesL_ (some 24) rfl rfl Try.func164 (by kernel_rfl) rfl #[.int .i64 a0_1, .int .i64 0, .int .i64 (wrap64 ((l1_1.length : Int) - 1))] rfl (by (try simp only [List.map_toArray, List.map_cons, List.map_nil]); first | done | rfl | (simp only [List.length_drop, List.length_take]; rfl)) ?_; (with_reducible refine (impl_within.calls a0_1 0 (wrap64 ((l1_1.length : Int) - 1)) false _ A18.out).mono ?_); rintro e w' ⟨rfl, ⟨nd, rfl⟩⟩; refine ⟨_, rfl, ?_⟩))
            go_ret
            exact ⟨by first | rfl | (simp [errW_none, errW_some] <;> rfl) | (simp [*, errW_none, errW_some] <;> rfl), by repeat (first | (with_reducible first | exact HB.out | apply below_alloc | apply pw_below_drewN | apply below_drew1 | refine below_set ?_ GE813.out | refine below_set ?_ GE814.out) | exact HB.out)⟩
        · rw [if_neg c17] at H
          have c17b0 : (a0_0 == 0) = false := beq_eq_false_iff_ne.mpr c17
          have c17b1 : (a0_0 != 0) = true := bne_iff_ne.mpr c17
          by_cases c27 : a0_0 = 1
          · rw [if_pos c27] at H
            have c27b0 : (a0_0 == 1) = true := beq_iff_eq.mpr c27
            have c27b1 : (a0_0 != 1) = false := bne_eq_false_iff_eq.mpr c27
            clear c27
            by_cases c28 : a0_1 = 0
            · rw [if_pos c28] at H
              have c28b0 : (a0_1 == 0) = true := beq_iff_eq.mpr c28
              have c28b1 : (a0_1 != 0) = false := bne_eq_false_iff_eq.mpr c28
              clear c28
              replace H := Option.bind_eq_some_iff.mp H
              obtain ⟨t819, A290, H⟩ := H
              replace H : (some t819) = some r := H
              have A29 := Aside0.mk A290
              clear A290
              obtain rfl := Option.some.inj H
              have hnb30 := NB813_814.out
              have hnc30 := NB814_813.out
              have hcz31_0 : wc.cell? ⟨gb813, 0, none⟩ = some (.int .i64 a0_0) := (blk_cell BK813.out 0).trans rfl
              have hcz31_1 : wc.cell? ⟨gb813, 1, none⟩ = some (.int .i64 a0_1) := (blk_cell BK813.out 1).trans rfl
              have hcz31_2 : wc.cell? ⟨gb813, 2, none⟩ = some (.int .i64 a0_2) := (blk_cell BK813.out 2).trans rfl
              have hcz31_3 : wc.cell? ⟨gb813, 3, none⟩ = some (.int .i64 a0_3) := (blk_cell BK813.out 3).trans rfl
              have hfz31_0 := blk_frozen BK813.out 0
              have hfz31_1 := blk_frozen BK813.out 1
              have hfz31_2 := blk_frozen BK813.out 2
              have hfz31_3 := blk_frozen BK813.out 3
              have hcz32_0 : wc.cell? ⟨gb814, 0, none⟩ = some (.int .i64 a1_0) := (blk_cell BK814.out 0).trans rfl
              have hcz32_1 : wc.cell? ⟨gb814, 1, none⟩ = some (.slice A1_1 l1_1.length c1_1) := (blk_cell BK814.out 1).trans rfl
              have hfz32_0 := blk_frozen BK814.out 0
              have hfz32_1 := blk_frozen BK814.out 1
              go_wp2_with (first | (go_at_call 164; (with_reducible refine (impl_within.calls a0_2 0 (wrap64 (a1_0 - 1)) t819 _ A29.out).mono ?_); rintro e w' ⟨rfl, ⟨nd, rfl⟩⟩))
              go_ret
              exact ⟨by first | rfl | (simp [errW_none, errW_some] <;> rfl) | (simp [*, errW_none, errW_some] <;> rfl), by repeat (first | (with_reducible first | exact HB.out | apply below_alloc | apply pw_below_drewN | apply below_drew1 | refine below_set ?_ GE813.out | refine below_set ?_ GE814.out) | exact HB.out)⟩
            · rw [if_neg c28] at H
              have c28b0 : (a0_1 == 0) = false := beq_eq_false_iff_ne.mpr c28
              have c28b1 : (a0_1 != 0) = true := bne_iff_ne.mpr c28
              obtain rfl := Option.some.inj H
              have hnb33 := NB813_814.out
              have hnc33 := NB814_813.out
              have hcz34_0 : wc.cell? ⟨gb813, 0, none⟩ = some (.int .i64 a0_0) := (blk_cell BK813.out 0).trans rfl
              have hcz34_1 : wc.cell? ⟨gb813, 1, none⟩ = some (.int .i64 a0_1) := (blk_cell BK813.out 1).trans rfl
              have hcz34_2 : wc.cell? ⟨gb813, 2, none⟩ = some (.int .i64 a0_2) := (blk_cell BK813.out 2).trans rfl
              have hcz34_3 : wc.cell? ⟨gb813, 3, none⟩ = some (.int .i64 a0_3) := (blk_cell BK813.out 3).trans rfl
              have hfz34_0 := blk_frozen BK813.out 0
              have hfz34_1 := blk_frozen BK813.out 1
              have hfz34_2 := blk_frozen BK813.out 2
              have hfz34_3 := blk_frozen BK813.out 3
              go_wp2
              go_ret
              exact ⟨by first | rfl | (simp [errW_none, errW_some] <;> rfl) | (simp [*, errW_none, errW_some] <;> rfl), by repeat (first | (with_reducible first | exact HB.out | apply below_alloc | apply pw_below_drewN | apply below_drew1 | refine below_set ?_ GE813.out | refine below_set ?_ GE814.out) | exact HB.out)⟩
          · rw [if_neg c27] at H
            have c27b0 : (a0_0 == 1) = false := beq_eq_false_iff_ne.mpr c27
            have c27b1 : (a0_0 != 1) = true := bne_iff_ne.mpr c27
            obtain rfl := Option.some.inj H
            have hnb35 := NB813_814.out
            have hnc35 := NB814_813.out
            have hcz36_0 : wc.cell? ⟨gb813, 0, none⟩ = some (.int .i64 a0_0) := (blk_cell BK813.out 0).trans rfl
            have hcz36_1 : wc.cell? ⟨gb813, 1, none⟩ = some (.int .i64 a0_1) := (blk_cell BK813.out 1).trans rfl
            have hcz36_2 : wc.cell? ⟨gb813, 2, none⟩ = some (.int .i64 a0_2) := (blk_cell BK813.out 2).trans rfl
            have hcz36_3 : wc.cell? ⟨gb813, 3, none⟩ = some (.int .i64 a0_3) := (blk_cell BK813.out 3).trans rfl
            have hfz36_0 := blk_frozen BK813.out 0
            have hfz36_1 := blk_frozen BK813.out 1
            have hfz36_2 := blk_frozen BK813.out 2
            have hfz36_3 := blk_frozen BK813.out 3
            go_wp2
            go_ret
            exact ⟨by first | rfl | (simp [errW_none, errW_some] <;> rfl) | (simp [*, errW_none, errW_some] <;> rfl), by repeat (first | (with_reducible first | exact HB.out | apply below_alloc | apply pw_below_drewN | apply below_drew1 | refine below_set ?_ GE813.out | refine below_set ?_ GE814.out) | exact HB.out)⟩

end Go.Proofs.Ytkjndikkdbfhbaa.P
