-- Written by mp.py (the session's own driver over the kit's printer) for the seat Ytkjndikkdbfhbaa.
import Derived.Test.YtkjndikkdbfhbaaK
import Derived.Test.YtkjndikkdbfhbaaE
import Derived.Test.YtkjndikkdbfhbaaPimplSpotOk
import Derived.Test.YtkjndikkdbfhbaaPlawseqInstrSS
import Derived.Test.YtkjndikkdbfhbaaPlawsszInstrSS
import Derived.Test.YtkjndikkdbfhbaaPlawstoSpot
import Derived.Test.YtkjndikkdbfhbaaPspecSpotOk
namespace Go.Proofs.Ytkjndikkdbfhbaa.P
open Go.RowKit Go.Proofs.YtkjndikkdbfhbaaW.PrintWords Go.Proofs.YtkjndikkdbfhbaaW.PrintLast Go.Proofs.YtkjndikkdbfhbaaW.PrintMore
attribute [local go_sem] max2_int min2_int max_two min_two max_three min_three max_four min_four
set_option linter.unusedVariables false
set_option linter.unusedSimpArgs false

/-! ### laws_FnExactSpotOk: function 11 -/
def laws_FnExactSpotOk.f (k : Nat) (a0_0 : Int) (a0_1 : Int) (a1_0 : Int) (l1_1 : List (List (S178))) : Option (Bool) := (laws_szProg.f k a1_0 l1_1 1048576).bind fun t676 => (if t676 < 0 then (some true) else ((laws_toSpot.f a0_0 a0_1).bind fun bt677 => ((laws_toProg.f k a1_0 l1_1).bind fun bt679 => ((spec_SpotOk.f k bt677.1 bt677.2 bt679.1 bt679.2).bind fun t683 => ((laws_toProg.f k a1_0 l1_1).bind fun bt684 => ((laws_toSpot.f a0_0 a0_1).bind fun bt689 => ((impl_SpotOk.f bt689.1 bt689.2 bt684.1 bt684.2).bind fun t691 => (if (t691 != t683) = true then (some false) else ((laws_toProg.f k a1_0 l1_1).bind fun bt692 => ((laws_eqProg.f k bt684.1 bt684.2 bt692.1 bt692.2).bind fun t696 => (if t696 = true then (some true) else (some false))))))))))))
theorem laws_FnExactSpotOk.mono : ∀ a0 a1 a2 a3 k, LeO (laws_FnExactSpotOk.f k a0 a1 a2 a3) (laws_FnExactSpotOk.f (k + 1) a0 a1 a2 a3) := by
  intro a0 a1 a2 a3 k
  unfold laws_FnExactSpotOk.f
  repeat' first
      | (with_reducible exact laws_eqProg.mono _ _ _ _ _)
      | (with_reducible exact laws_szProg.mono _ _ _ _)
      | (with_reducible exact laws_toProg.mono _ _ _)
      | (with_reducible exact spec_SpotOk.mono _ _ _ _ _)
      | (with_reducible exact LeO.refl _)
      | (with_reducible exact LeO.none _)
      | (with_reducible refine LeO.ite ?_ ?_)
      | (with_reducible refine LeO.bind ?_ (fun _ => ?_))
      | exact laws_eqProg.mono _ _ _ _ _
      | exact laws_szProg.mono _ _ _ _
      | exact laws_toProg.mono _ _ _
      | exact spec_SpotOk.mono _ _ _ _ _
      | exact LeO.none _
      | refine LeO.ite ?_ ?_
      | refine LeO.bind ?_ (fun _ => ?_)
set_option maxHeartbeats 8000000 in
set_option maxRecDepth 100000 in
theorem laws_FnExactSpotOk.calls (k : Nat) (a0_0 : Int) (a0_1 : Int) (a1_0 : Int) (A1_1 : Option Addr) (c1_1 : Nat) (l1_1 : List (List (S178))) (r : Bool) (w : World) (hr1_1 : Kd.C (Kd.slice 178 k178) w A1_1 l1_1.length l1_1) (hc1_1 : l1_1.length ≤ c1_1) (h : laws_FnExactSpotOk.f k a0_0 a0_1 a1_0 l1_1 = some r) :
    Calls Try.prog 11 #[.agg #[.int .i64 a0_0, .int .i64 a0_1], .agg #[.int .i64 a1_0, .slice A1_1 l1_1.length c1_1]] w fun e w' => e = .returned (.bool r) ∧ Below w.heap.size w w' := by
  have hu86 := Try.underlying86
  have hu76 := Try.underlying76
  have hu81 := Try.underlying81
  have HR1_1 := Aside0.mk hr1_1
  have HC1_1 := Aside0.mk hc1_1
  clear hr1_1 hc1_1
  have HB := Aside0.mk (Below.refl w.heap.size w)
  have H : ((laws_szProg.f k a1_0 l1_1 1048576).bind fun t676 => (if t676 < 0 then (some true) else ((laws_toSpot.f a0_0 a0_1).bind fun bt677 => ((laws_toProg.f k a1_0 l1_1).bind fun bt679 => ((spec_SpotOk.f k bt677.1 bt677.2 bt679.1 bt679.2).bind fun t683 => ((laws_toProg.f k a1_0 l1_1).bind fun bt684 => ((laws_toSpot.f a0_0 a0_1).bind fun bt689 => ((impl_SpotOk.f bt689.1 bt689.2 bt684.1 bt684.2).bind fun t691 => (if (t691 != t683) = true then (some false) else ((laws_toProg.f k a1_0 l1_1).bind fun bt692 => ((laws_eqProg.f k bt684.1 bt684.2 bt692.1 bt692.2).bind fun t696 => (if t696 = true then (some true) else (some false))))))))))))) = some r := h
  clear h
  replace H := Option.bind_eq_some_iff.mp H
  obtain ⟨t676, A30, H⟩ := H
  replace H : (if t676 < 0 then (some true) else ((laws_toSpot.f a0_0 a0_1).bind fun bt677 => ((laws_toProg.f k a1_0 l1_1).bind fun bt679 => ((spec_SpotOk.f k bt677.1 bt677.2 bt679.1 bt679.2).bind fun t683 => ((laws_toProg.f k a1_0 l1_1).bind fun bt684 => ((laws_toSpot.f a0_0 a0_1).bind fun bt689 => ((impl_SpotOk.f bt689.1 bt689.2 bt684.1 bt684.2).bind fun t691 => (if (t691 != t683) = true then (some false) else ((laws_toProg.f k a1_0 l1_1).bind fun bt692 => ((laws_eqProg.f k bt684.1 bt684.2 bt692.1 bt692.2).bind fun t696 => (if t696 = true then (some true) else (some false)))))))))))) = some r := H
  have A3 := Aside0.mk A30
  clear A30
  by_cases c4 : t676 < 0
  · rw [if_pos c4] at H
    have c4b0 : decide (t676 < 0) = true := decide_eq_true c4
    clear c4
    obtain rfl := Option.some.inj H
    go_enter Try.func11, Try.ntmps11
    go_wp2_with (first | ((with_reducible refine gate_dst (N := 2) rfl ?_); refine box_event ?hg (N := 2) ?hd (cs := #[.int .i64 a0_0, .int .i64 a0_1]) (t := 86) ?hr ?_; (case hd => rfl); (case hg => rfl); (case hr => first | (go_simp; done) | (go_simp; rfl)); intro gb674 hg w5 hbox hb; have n0_ := Aside0.mk (below_step (by repeat (first | (with_reducible first | exact HB.out | apply below_alloc | apply pw_below_drewN | apply below_drew1) | exact HB.out)) hb); have n1_ := Aside0.mk (hbox); have n2_ := Aside0.mk ((by rw [hg]; exact (below_size (by repeat (first | (with_reducible first | exact HB.out | apply below_alloc | apply pw_below_drewN | apply below_drew1) | exact HB.out))) : w.heap.size ≤ gb674)); have n3_ := Aside0.mk ((by rw [hg]; exact (below_size (by repeat (first | (with_reducible first | exact HB.out | apply below_alloc | apply pw_below_drewN | apply below_drew1) | exact HB.out))) : w.heap.size ≤ gb674)); clear HB; have HB := n0_; have BK674 := n1_; have GW674 := n2_; have GE674 := n3_; clear n0_ n1_ n2_ n3_; clear hb hbox hg) | ((with_reducible refine gate_dst (N := 3) rfl ?_); refine box_event ?hg (N := 3) ?hd (cs := #[.int .i64 a1_0, .slice A1_1 l1_1.length c1_1]) (t := 76) ?hr ?_; (case hd => rfl); (case hg => rfl); (case hr => first | (go_simp; done) | (go_simp; rfl)); intro gb675 hg w6 hbox hb; have n0_ := Aside0.mk (blk_below (g := gb674) (o := .cells #[.int .i64 a0_0, .int .i64 a0_1] 86 (0, 0)) (by (with_reducible repeat (first | refine blk_drewN ?_ _ | refine blk_drew ?_ | refine blk_alloc ?_ _)); exact BK674.out) hb); have n1_ := Aside0.mk (below_step (by repeat (first | (with_reducible first | exact HB.out | apply below_alloc | apply pw_below_drewN | apply below_drew1 | refine below_set ?_ GE674.out) | exact HB.out)) hb); have n2_ := Aside0.mk (hbox); have n3_ := Aside0.mk ((by rw [hg]; exact (below_size (by repeat (first | (with_reducible first | exact HB.out | apply below_alloc | apply pw_below_drewN | apply below_drew1 | refine below_set ?_ GE674.out) | exact HB.out))) : w.heap.size ≤ gb675)); have n4_ := Aside0.mk ((by rw [hg]; exact (below_size (by repeat (first | (with_reducible first | exact HB.out | apply below_alloc | apply pw_below_drewN | apply below_drew1 | refine below_set ?_ GE674.out) | exact HB.out))) : w.heap.size ≤ gb675)); have n5_ := Aside0.mk ((by rw [hg]; exact Nat.ne_of_lt (blk_lt (g := gb674) (o := .cells #[.int .i64 a0_0, .int .i64 a0_1] 86 (0, 0)) (by (with_reducible repeat (first | refine blk_drewN ?_ _ | refine blk_drew ?_ | refine blk_alloc ?_ _)); exact BK674.out)) : gb674 ≠ gb675)); have n6_ := Aside0.mk ((by rw [hg]; exact Nat.ne_of_gt (blk_lt (g := gb674) (o := .cells #[.int .i64 a0_0, .int .i64 a0_1] 86 (0, 0)) (by (with_reducible repeat (first | refine blk_drewN ?_ _ | refine blk_drew ?_ | refine blk_alloc ?_ _)); exact BK674.out)) : gb675 ≠ gb674)); clear BK674; clear HB; have BK674 := n0_; have HB := n1_; have BK675 := n2_; have GW675 := n3_; have GE675 := n4_; have NB674_675 := n5_; have NB675_674 := n6_; clear n0_ n1_ n2_ n3_ n4_ n5_ n6_; clear hb hbox hg; have hnb7 := NB675_674.out; have hnc7 := NB674_675.out; have hcz8_0 : w6.cell? ⟨gb675, 0, none⟩ = some (.int .i64 a1_0) := (blk_cell BK675.out 0).trans rfl; have hcz8_1 : w6.cell? ⟨gb675, 1, none⟩ = some (.slice A1_1 l1_1.length c1_1) := (blk_cell BK675.out 1).trans rfl; have hfz8_0 := blk_frozen BK675.out 0; have hfz8_1 := blk_frozen BK675.out 1) | ((with_reducible refine gate_callee (f := 68) rfl ?_); refine goesL_ (some 11) rfl rfl Try.func68 (by kernel_rfl) rfl #[.agg #[.int .i64 a1_0, .slice A1_1 l1_1.length c1_1], .int .i64 1048576] rfl (by (try simp only [List.map_toArray, List.map_cons, List.map_nil]); first | done | rfl | (simp only [List.length_drop, List.length_take]; rfl)) ?_; (with_reducible refine (laws_szProg.calls k a1_0 _ _ l1_1 1048576 t676 _ ?side1 ?side2 A3.out).mono ?_); (case side1 => repeat (first | exact (Kd.C_below HR1_1.out HB.out) | (with_reducible refine Kd.C_alloc ?_ _) | (with_reducible refine Kd.C_drewN ?_ _) | (with_reducible refine Kd.C_drew ?_))); (case side2 => exact HC1_1.out); rintro e w9 ⟨rfl, hb⟩; refine ⟨_, rfl, ?_⟩; have n0_ := Aside0.mk (blk_below (g := gb674) (o := .cells #[.int .i64 a0_0, .int .i64 a0_1] 86 (0, 0)) (by (with_reducible repeat (first | refine blk_drewN ?_ _ | refine blk_drew ?_ | refine blk_alloc ?_ _)); exact BK674.out) hb); have n1_ := Aside0.mk (blk_below (g := gb675) (o := .cells #[.int .i64 a1_0, .slice A1_1 l1_1.length c1_1] 76 (0, 0)) (by (with_reducible repeat (first | refine blk_drewN ?_ _ | refine blk_drew ?_ | refine blk_alloc ?_ _)); exact BK675.out) hb); have n2_ := Aside0.mk (below_step (by repeat (first | (with_reducible first | exact HB.out | apply below_alloc | apply pw_below_drewN | apply below_drew1 | refine below_set ?_ GE674.out | refine below_set ?_ GE675.out) | exact HB.out)) hb); clear BK674; clear BK675; clear HB; have BK674 := n0_; have BK675 := n1_; have HB := n2_; clear n0_ n1_ n2_; (try clear hb); (try clear hb2); (try clear hk); (try clear hi)))
    go_ret
    exact ⟨by first | rfl | (simp [errW_none, errW_some] <;> rfl) | (simp [*, errW_none, errW_some] <;> rfl), by repeat (first | (with_reducible first | exact HB.out | apply below_alloc | apply pw_below_drewN | apply below_drew1 | refine below_set ?_ GE674.out | refine below_set ?_ GE675.out) | exact HB.out)⟩
  · rw [if_neg c4] at H
    have c4b0 : decide (t676 < 0) = false := decide_eq_false c4
    clear c4
    replace H := Option.bind_eq_some_iff.mp H
    obtain ⟨⟨t677, t678⟩, A100, H⟩ := H
    replace H : ((laws_toProg.f k a1_0 l1_1).bind fun bt679 => ((spec_SpotOk.f k t677 t678 bt679.1 bt679.2).bind fun t683 => ((laws_toProg.f k a1_0 l1_1).bind fun bt684 => ((laws_toSpot.f a0_0 a0_1).bind fun bt689 => ((impl_SpotOk.f bt689.1 bt689.2 bt684.1 bt684.2).bind fun t691 => (if (t691 != t683) = true then (some false) else ((laws_toProg.f k a1_0 l1_1).bind fun bt692 => ((laws_eqProg.f k bt684.1 bt684.2 bt692.1 bt692.2).bind fun t696 => (if t696 = true then (some true) else (some false)))))))))) = some r := H
    have A10 := Aside0.mk A100
    clear A100
    replace H := Option.bind_eq_some_iff.mp H
    obtain ⟨⟨t679, t680⟩, A110, H⟩ := H
    replace H : ((spec_SpotOk.f k t677 t678 t679 t680).bind fun t683 => ((laws_toProg.f k a1_0 l1_1).bind fun bt684 => ((laws_toSpot.f a0_0 a0_1).bind fun bt689 => ((impl_SpotOk.f bt689.1 bt689.2 bt684.1 bt684.2).bind fun t691 => (if (t691 != t683) = true then (some false) else ((laws_toProg.f k a1_0 l1_1).bind fun bt692 => ((laws_eqProg.f k bt684.1 bt684.2 bt692.1 bt692.2).bind fun t696 => (if t696 = true then (some true) else (some false))))))))) = some r := H
    have A11 := Aside0.mk A110
    clear A110
    replace H := Option.bind_eq_some_iff.mp H
    obtain ⟨t683, A120, H⟩ := H
    replace H : ((laws_toProg.f k a1_0 l1_1).bind fun bt684 => ((laws_toSpot.f a0_0 a0_1).bind fun bt689 => ((impl_SpotOk.f bt689.1 bt689.2 bt684.1 bt684.2).bind fun t691 => (if (t691 != t683) = true then (some false) else ((laws_toProg.f k a1_0 l1_1).bind fun bt692 => ((laws_eqProg.f k bt684.1 bt684.2 bt692.1 bt692.2).bind fun t696 => (if t696 = true then (some true) else (some false)))))))) = some r := H
    have A12 := Aside0.mk A120
    clear A120
    replace H := Option.bind_eq_some_iff.mp H
    obtain ⟨⟨t684, t685⟩, A130, H⟩ := H
    replace H : ((laws_toSpot.f a0_0 a0_1).bind fun bt689 => ((impl_SpotOk.f bt689.1 bt689.2 t684 t685).bind fun t691 => (if (t691 != t683) = true then (some false) else ((laws_toProg.f k a1_0 l1_1).bind fun bt692 => ((laws_eqProg.f k t684 t685 bt692.1 bt692.2).bind fun t696 => (if t696 = true then (some true) else (some false))))))) = some r := H
    have A13 := Aside0.mk A130
    clear A130
    replace H := Option.bind_eq_some_iff.mp H
    obtain ⟨⟨t689, t690⟩, A140, H⟩ := H
    replace H : ((impl_SpotOk.f t689 t690 t684 t685).bind fun t691 => (if (t691 != t683) = true then (some false) else ((laws_toProg.f k a1_0 l1_1).bind fun bt692 => ((laws_eqProg.f k t684 t685 bt692.1 bt692.2).bind fun t696 => (if t696 = true then (some true) else (some false)))))) = some r := H
    have A14 := Aside0.mk A140
    clear A140
    replace H := Option.bind_eq_some_iff.mp H
    obtain ⟨t691, A150, H⟩ := H
    replace H : (if (t691 != t683) = true then (some false) else ((laws_toProg.f k a1_0 l1_1).bind fun bt692 => ((laws_eqProg.f k t684 t685 bt692.1 bt692.2).bind fun t696 => (if t696 = true then (some true) else (some false))))) = some r := H
    have A15 := Aside0.mk A150
    clear A150
    by_cases c16 : (t691 != t683) = true
    · rw [if_pos c16] at H
      have c16b0 : (t691 != t683) = true := c16
      (try (have c16b1 : decide (t691 = t683) = false := by simpa using c16))
      (try (have c16b2 : (t691 == t683) = false := by simpa using c16))
      (try (have c16b3 : ¬ (t691 = t683) := by simpa using c16))
      clear c16
      obtain rfl := Option.some.inj H
      go_enter Try.func11, Try.ntmps11
      try go_wp2_with (first | ((with_reducible refine gate_dst (N := 2) rfl ?_); refine box_event ?hg (N := 2) ?hd (cs := #[.int .i64 a0_0, .int .i64 a0_1]) (t := 86) ?hr ?_; (case hd => rfl); (case hg => rfl); (case hr => first | (go_simp; done) | (go_simp; rfl)); intro gb674 hg w17 hbox hb; have n0_ := Aside0.mk (below_step (by repeat (first | (with_reducible first | exact HB.out | apply below_alloc | apply pw_below_drewN | apply below_drew1) | exact HB.out)) hb); have n1_ := Aside0.mk (hbox); have n2_ := Aside0.mk ((by rw [hg]; exact (below_size (by repeat (first | (with_reducible first | exact HB.out | apply below_alloc | apply pw_below_drewN | apply below_drew1) | exact HB.out))) : w.heap.size ≤ gb674)); have n3_ := Aside0.mk ((by rw [hg]; exact (below_size (by repeat (first | (with_reducible first | exact HB.out | apply below_alloc | apply pw_below_drewN | apply below_drew1) | exact HB.out))) : w.heap.size ≤ gb674)); clear HB; have HB := n0_; have BK674 := n1_; have GW674 := n2_; have GE674 := n3_; clear n0_ n1_ n2_ n3_; clear hb hbox hg) | ((with_reducible refine gate_dst (N := 3) rfl ?_); refine box_event ?hg (N := 3) ?hd (cs := #[.int .i64 a1_0, .slice A1_1 l1_1.length c1_1]) (t := 76) ?hr ?_; (case hd => rfl); (case hg => rfl); (case hr => first | (go_simp; done) | (go_simp; rfl)); intro gb675 hg w18 hbox hb; have n0_ := Aside0.mk (blk_below (g := gb674) (o := .cells #[.int .i64 a0_0, .int .i64 a0_1] 86 (0, 0)) (by (with_reducible repeat (first | refine blk_drewN ?_ _ | refine blk_drew ?_ | refine blk_alloc ?_ _)); exact BK674.out) hb); have n1_ := Aside0.mk (below_step (by repeat (first | (with_reducible first | exact HB.out | apply below_alloc | apply pw_below_drewN | apply below_drew1 | refine below_set ?_ GE674.out) | exact HB.out)) hb); have n2_ := Aside0.mk (hbox); have n3_ := Aside0.mk ((by rw [hg]; exact (below_size (by repeat (first | (with_reducible first | exact HB.out | apply below_alloc | apply pw_below_drewN | apply below_drew1 | refine below_set ?_ GE674.out) | exact HB.out))) : w.heap.size ≤ gb675)); have n4_ := Aside0.mk ((by rw [hg]; exact (below_size (by repeat (first | (with_reducible first | exact HB.out | apply below_alloc | apply pw_below_drewN | apply below_drew1 | refine below_set ?_ GE674.out) | exact HB.out))) : w.heap.size ≤ gb675)); have n5_ := Aside0.mk ((by rw [hg]; exact Nat.ne_of_lt (blk_lt (g := gb674) (o := .cells #[.int .i64 a0_0, .int .i64 a0_1] 86 (0, 0)) (by (with_reducible repeat (first | refine blk_drewN ?_ _ | refine blk_drew ?_ | refine blk_alloc ?_ _)); exact BK674.out)) : gb674 ≠ gb675)); have n6_ := Aside0.mk ((by rw [hg]; exact Nat.ne_of_gt (blk_lt (g := gb674) (o := .cells #[.int .i64 a0_0, .int .i64 a0_1] 86 (0, 0)) (by (with_reducible repeat (first | refine blk_drewN ?_ _ | refine blk_drew ?_ | refine blk_alloc ?_ _)); exact BK674.out)) : gb675 ≠ gb674)); clear BK674; clear HB; have BK674 := n0_; have HB := n1_; have BK675 := n2_; have GW675 := n3_; have GE675 := n4_; have NB674_675 := n5_; have NB675_674 := n6_; clear n0_ n1_ n2_ n3_ n4_ n5_ n6_; clear hb hbox hg; have hnb19 := NB675_674.out; have hnc19 := NB674_675.out; have hcz20_0 : w18.cell? ⟨gb675, 0, none⟩ = some (.int .i64 a1_0) := (blk_cell BK675.out 0).trans rfl; have hcz20_1 : w18.cell? ⟨gb675, 1, none⟩ = some (.slice A1_1 l1_1.length c1_1) := (blk_cell BK675.out 1).trans rfl; have hfz20_0 := blk_frozen BK675.out 0; have hfz20_1 := blk_frozen BK675.out 1) | ((with_reducible refine gate_callee (f := 68) rfl ?_); refine goesL_ (some 11) rfl rfl Try.func68 (by kernel_rfl) rfl #[.agg #[.int .i64 a1_0, .slice A1_1 l1_1.length c1_1], .int .i64 1048576] rfl (by (try simp only [List.map_toArray, List.map_cons, List.map_nil]); first | done | rfl | (simp only [List.length_drop, List.length_take]; rfl)) ?_; (with_reducible refine (laws_szProg.calls k a1_0 _ _ l1_1 1048576 t676 _ ?side1 ?side2 A3.out).mono ?_); (case side1 => repeat (first | exact (Kd.C_below HR1_1.out HB.out) | (with_reducible refine Kd.C_alloc ?_ _) | (with_reducible refine Kd.C_drewN ?_ _) | (with_reducible refine Kd.C_drew ?_))); (case side2 => exact HC1_1.out); rintro e w21 ⟨rfl, hb⟩; refine ⟨_, rfl, ?_⟩; have n0_ := Aside0.mk (blk_below (g := gb674) (o := .cells #[.int .i64 a0_0, .int .i64 a0_1] 86 (0, 0)) (by (with_reducible repeat (first | refine blk_drewN ?_ _ | refine blk_drew ?_ | refine blk_alloc ?_ _)); exact BK674.out) hb); have n1_ := Aside0.mk (blk_below (g := gb675) (o := .cells #[.int .i64 a1_0, .slice A1_1 l1_1.length c1_1] 76 (0, 0)) (by (with_reducible repeat (first | refine blk_drewN ?_ _ | refine blk_drew ?_ | refine blk_alloc ?_ _)); exact BK675.out) hb); have n2_ := Aside0.mk (below_step (by repeat (first | (with_reducible first | exact HB.out | apply below_alloc | apply pw_below_drewN | apply below_drew1 | refine below_set ?_ GE674.out | refine below_set ?_ GE675.out) | exact HB.out)) hb); clear BK674; clear BK675; clear HB; have BK674 := n0_; have BK675 := n1_; have HB := n2_; clear n0_ n1_ n2_; (try clear hb); (try clear hb2); (try clear hk); (try clear hi)))
      have n0_ := Aside0.mk (blk_drew BK674.out)
      have n1_ := Aside0.mk (blk_drew BK675.out)
      have n2_ := Aside0.mk (below_drew1 HB.out)
      clear BK674
      clear BK675
      clear HB
      have BK674 := n0_
      have BK675 := n1_
      have HB := n2_
      clear n0_ n1_ n2_
      refine start_ (n := 6) (S := fun w' => w'.cell? ⟨gb674, 0, none⟩ = some (.int .i64 a0_0) ∧ w'.cell? ⟨gb674, 1, none⟩ = some (.int .i64 a0_1) ∧ w'.cell? ⟨gb675, 0, none⟩ = some (.int .i64 a1_0) ∧ w'.cell? ⟨gb675, 1, none⟩ = some (.slice A1_1 l1_1.length c1_1)) (ds := []) #[false, false, false, false, false, false] (by kernel_rfl) rfl rfl ⟨(blk_cell BK674.out 0).trans rfl, (blk_cell BK674.out 1).trans rfl, (blk_cell BK675.out 0).trans rfl, (blk_cell BK675.out 1).trans rfl⟩ (fun hHeld => ?_)
      generalize w21.drew = w22 at BK674 BK675 HB hHeld ⊢
      refine take_ (i := 0) (N := some 14) (v := ?_) (a' := ?_) #[true, false, false, false, false, false] rfl rfl (by kernel_rfl) (fun _ _ _ h => h) (Or.inl ⟨by rfl, ?_⟩) hHeld ?_ ?_
      rotate_left
      · rintro w' ⟨s0, s1, s2, s3⟩
        go_simp
        with_reducible rfl
      rotate_left
      · simp only [Act.put, List.setIfInBounds_toArray, List.set_cons_zero, List.set_cons_succ, i64_w, i32_w]
        rfl
      refine take_ (i := 2) (N := some 16) (v := ?_) (a' := ?_) #[true, false, true, false, false, false] rfl rfl (by kernel_rfl) (fun _ _ _ h => h) (Or.inl ⟨by rfl, ?_⟩) hHeld ?_ ?_
      rotate_left
      · rintro w' ⟨s0, s1, s2, s3⟩
        go_simp
        with_reducible rfl
      rotate_left
      · simp only [Act.put, List.setIfInBounds_toArray, List.set_cons_zero, List.set_cons_succ, i64_w, i32_w]
        rfl
      refine one_ (i := 1) (N := some 15) #[true, true, true, false, false, false] rfl rfl (by kernel_rfl) (by decide) (fun K hK => ?_)
      refine goes_ Try.func74 (by kernel_rfl) rfl #[.agg #[.int .i64 a0_0, .int .i64 a0_1]] (by rfl) rfl rfl (by (try simp only [List.map_toArray, List.map_cons, List.map_nil]); first | done | rfl | (simp only [List.length_drop, List.length_take]; rfl)) ?_
      with_reducible refine (laws_toSpot.calls a0_0 a0_1 t677 t678 _ A10.out).mono ?_
      rintro e w23 ⟨rfl, hb⟩
      refine ⟨_, rfl, ?_⟩
      have n0_ := Aside0.mk (blk_below (g := gb674) (o := .cells #[.int .i64 a0_0, .int .i64 a0_1] 86 (0, 0)) (by (with_reducible repeat (first | refine blk_drewN ?_ _ | refine blk_drew ?_ | refine blk_alloc ?_ _)); exact BK674.out) hb)
      have n1_ := Aside0.mk (blk_below (g := gb675) (o := .cells #[.int .i64 a1_0, .slice A1_1 l1_1.length c1_1] 76 (0, 0)) (by (with_reducible repeat (first | refine blk_drewN ?_ _ | refine blk_drew ?_ | refine blk_alloc ?_ _)); exact BK675.out) hb)
      have n2_ := Aside0.mk (below_step (by repeat (first | (with_reducible first | exact HB.out | apply below_alloc | apply pw_below_drewN | apply below_drew1 | refine below_set ?_ GE674.out | refine below_set ?_ GE675.out) | exact HB.out)) hb)
      clear BK674
      clear BK675
      clear HB
      have BK674 := n0_
      have BK675 := n1_
      have HB := n2_
      clear n0_ n1_ n2_
      (try clear hb)
      (try clear hb2)
      (try clear hk)
      (try clear hi)
      refine hK.out _ _ ⟨(blk_cell BK674.out 0).trans rfl, (blk_cell BK674.out 1).trans rfl, (blk_cell BK675.out 0).trans rfl, (blk_cell BK675.out 1).trans rfl⟩ (fun hHeld => ?_)
      clear hK K
      refine norm_ (a' := ?_) ?_ ?_
      rotate_left
      · show Act.put _ (some 15) _ = _
        simp only [Act.put, List.setIfInBounds_toArray, List.set_cons_zero, List.set_cons_succ, i64_w, i32_w]
        rfl
      refine one_ (i := 3) (N := some 17) #[true, true, true, true, false, false] rfl rfl (by kernel_rfl) (by decide) (fun K hK => ?_)
      refine goes_ Try.func70 (by kernel_rfl) rfl #[.agg #[.int .i64 a1_0, .slice A1_1 l1_1.length c1_1]] (by rfl) rfl rfl (by (try simp only [List.map_toArray, List.map_cons, List.map_nil]); first | done | rfl | (simp only [List.length_drop, List.length_take]; rfl)) ?_
      with_reducible refine (laws_toProg.calls k a1_0 _ _ l1_1 t679 t680 _ ?side1 ?side2 A11.out).mono ?_
      (case side1 => repeat (first | exact (Kd.C_below HR1_1.out HB.out) | (with_reducible refine Kd.C_alloc ?_ _) | (with_reducible refine Kd.C_drewN ?_ _) | (with_reducible refine Kd.C_drew ?_)))
      (case side2 => exact HC1_1.out)
      rintro e w24 ⟨v681, rfl, ho0, hb⟩
      refine ⟨_, rfl, ?_⟩
      have n0_ := Aside0.mk (Kd.S_lower ho0 (below_size (by repeat (first | (with_reducible first | exact HB.out | apply below_alloc | apply pw_below_drewN | apply below_drew1 | refine below_set ?_ GE674.out | refine below_set ?_ GE675.out) | exact HB.out))))
      have n1_ := Aside0.mk (blk_below (g := gb674) (o := .cells #[.int .i64 a0_0, .int .i64 a0_1] 86 (0, 0)) (by (with_reducible repeat (first | refine blk_drewN ?_ _ | refine blk_drew ?_ | refine blk_alloc ?_ _)); exact BK674.out) hb)
      have n2_ := Aside0.mk (blk_below (g := gb675) (o := .cells #[.int .i64 a1_0, .slice A1_1 l1_1.length c1_1] 76 (0, 0)) (by (with_reducible repeat (first | refine blk_drewN ?_ _ | refine blk_drew ?_ | refine blk_alloc ?_ _)); exact BK675.out) hb)
      have n3_ := Aside0.mk (below_step (by repeat (first | (with_reducible first | exact HB.out | apply below_alloc | apply pw_below_drewN | apply below_drew1 | refine below_set ?_ GE674.out | refine below_set ?_ GE675.out) | exact HB.out)) hb)
      clear BK674
      clear BK675
      clear HB
      have HO682 := n0_
      have BK674 := n1_
      have BK675 := n2_
      have HB := n3_
      clear n0_ n1_ n2_ n3_
      (try clear hb)
      (try clear hb2)
      (try clear hk)
      (try clear hi)
      (try clear ho0)
      obtain ⟨Ao25, co25, eo25⟩ := Kd.S_slice HO682.out
      (first | subst eo25 | (injection eo25 with f1_ f2_ f3_; have f4_ := f1_.symm; have f5_ := f3_.symm; clear f1_ f2_ f3_; subst f4_; subst f5_))
      refine hK.out _ _ ⟨(blk_cell BK674.out 0).trans rfl, (blk_cell BK674.out 1).trans rfl, (blk_cell BK675.out 0).trans rfl, (blk_cell BK675.out 1).trans rfl⟩ (fun hHeld => ?_)
      clear hK K
      refine norm_ (a' := ?_) ?_ ?_
      rotate_left
      · show Act.put _ (some 17) _ = _
        simp only [Act.put, List.setIfInBounds_toArray, List.set_cons_zero, List.set_cons_succ, i64_w, i32_w]
        rfl
      refine one_ (i := 4) (N := some 18) #[true, true, true, true, true, false] rfl rfl (by kernel_rfl) (by decide) (fun K hK => ?_)
      refine goes_ Try.func73 (by kernel_rfl) rfl #[.agg #[.int .i64 t677, .int .i64 t678], .agg #[.int .i64 t679, .slice Ao25 t680.length co25]] (by rfl) rfl rfl (by (try simp only [List.map_toArray, List.map_cons, List.map_nil]); first | done | rfl | (simp only [List.length_drop, List.length_take]; rfl)) ?_
      with_reducible refine (spec_SpotOk.calls k t677 t678 t679 _ _ t680 t683 _ ?side1 ?side2 A12.out).mono ?_
      (case side1 => repeat (first | exact (Kd.S_reads' HO682.out).2.2 | (with_reducible refine Kd.C_alloc ?_ _) | (with_reducible refine Kd.C_drewN ?_ _) | (with_reducible refine Kd.C_drew ?_)))
      (case side2 => exact (Kd.S_reads' HO682.out).2.1)
      rintro e w26 ⟨rfl, hb⟩
      refine ⟨_, rfl, ?_⟩
      have n0_ := Aside0.mk (Kd.S_below (by (with_reducible repeat (first | apply Kd.S_alloc | apply Kd.S_drewN | apply Kd.S_drew)); exact HO682.out) hb)
      have n1_ := Aside0.mk (blk_below (g := gb674) (o := .cells #[.int .i64 a0_0, .int .i64 a0_1] 86 (0, 0)) (by (with_reducible repeat (first | refine blk_drewN ?_ _ | refine blk_drew ?_ | refine blk_alloc ?_ _)); exact BK674.out) hb)
      have n2_ := Aside0.mk (blk_below (g := gb675) (o := .cells #[.int .i64 a1_0, .slice A1_1 l1_1.length c1_1] 76 (0, 0)) (by (with_reducible repeat (first | refine blk_drewN ?_ _ | refine blk_drew ?_ | refine blk_alloc ?_ _)); exact BK675.out) hb)
      have n3_ := Aside0.mk (below_step (by repeat (first | (with_reducible first | exact HB.out | apply below_alloc | apply pw_below_drewN | apply below_drew1 | refine below_set ?_ GE674.out | refine below_set ?_ GE675.out) | exact HB.out)) hb)
      clear HO682
      clear BK674
      clear BK675
      clear HB
      have HO682 := n0_
      have BK674 := n1_
      have BK675 := n2_
      have HB := n3_
      clear n0_ n1_ n2_ n3_
      (try clear hb)
      (try clear hb2)
      (try clear hk)
      (try clear hi)
      refine hK.out _ _ ⟨(blk_cell BK674.out 0).trans rfl, (blk_cell BK674.out 1).trans rfl, (blk_cell BK675.out 0).trans rfl, (blk_cell BK675.out 1).trans rfl⟩ (fun hHeld => ?_)
      clear hK K
      refine norm_ (a' := ?_) ?_ ?_
      rotate_left
      · show Act.put _ (some 18) _ = _
        simp only [Act.put, List.setIfInBounds_toArray, List.set_cons_zero, List.set_cons_succ, i64_w, i32_w]
        rfl
      refine pure_ (i := 5) (N := some 6) (v := ?_) (a' := ?_) #[true, true, true, true, true, true] rfl rfl (by kernel_rfl) (fun _ _ _ h => h) (Or.inl ⟨by rfl, ?_⟩) ?_ ?_
      rotate_left
      · intro w'
        go_simp
        with_reducible rfl
      rotate_left
      · simp only [Act.put, List.setIfInBounds_toArray, List.set_cons_zero, List.set_cons_succ, i64_w, i32_w]
        rfl
      refine done_ (by kernel_rfl) ?_
      have hcz27_0 : w26.cell? ⟨gb675, 0, none⟩ = some (.int .i64 a1_0) := (blk_cell BK675.out 0).trans rfl
      have hcz27_1 : w26.cell? ⟨gb675, 1, none⟩ = some (.slice A1_1 l1_1.length c1_1) := (blk_cell BK675.out 1).trans rfl
      have hfz27_0 := blk_frozen BK675.out 0
      have hfz27_1 := blk_frozen BK675.out 1
      try go_wp2_with (first | ((with_reducible refine gate_callee (f := 70) rfl ?_); refine goesL_ (some 20) rfl rfl Try.func70 (by kernel_rfl) rfl #[.agg #[.int .i64 a1_0, .slice A1_1 l1_1.length c1_1]] rfl (by (try simp only [List.map_toArray, List.map_cons, List.map_nil]); first | done | rfl | (simp only [List.length_drop, List.length_take]; rfl)) ?_; (with_reducible refine (laws_toProg.calls k a1_0 _ _ l1_1 t684 t685 _ ?side1 ?side2 A13.out).mono ?_); (case side1 => repeat (first | exact (Kd.C_below HR1_1.out HB.out) | (with_reducible refine Kd.C_alloc ?_ _) | (with_reducible refine Kd.C_drewN ?_ _) | (with_reducible refine Kd.C_drew ?_))); (case side2 => exact HC1_1.out); rintro e w28 ⟨v686, rfl, ho0, hb⟩; refine ⟨_, rfl, ?_⟩; have n0_ := Aside0.mk (Kd.S_elder' (by (with_reducible repeat (first | apply Kd.S_alloc | apply Kd.S_drewN | apply Kd.S_drew)); exact HO682.out) (Kd.S_base ho0) hb); have n1_ := Aside0.mk (Kd.S_lower (Kd.S_new' ho0 (Kd.S_lt (by (with_reducible repeat (first | apply Kd.S_alloc | apply Kd.S_drewN | apply Kd.S_drew)); exact HO682.out))) (below_size (by repeat (first | (with_reducible first | exact HB.out | apply below_alloc | apply pw_below_drewN | apply below_drew1 | refine below_set ?_ GE674.out | refine below_set ?_ GE675.out) | exact HB.out)))); have n2_ := Aside0.mk (blk_below (g := gb674) (o := .cells #[.int .i64 a0_0, .int .i64 a0_1] 86 (0, 0)) (by (with_reducible repeat (first | refine blk_drewN ?_ _ | refine blk_drew ?_ | refine blk_alloc ?_ _)); exact BK674.out) hb); have n3_ := Aside0.mk (blk_below (g := gb675) (o := .cells #[.int .i64 a1_0, .slice A1_1 l1_1.length c1_1] 76 (0, 0)) (by (with_reducible repeat (first | refine blk_drewN ?_ _ | refine blk_drew ?_ | refine blk_alloc ?_ _)); exact BK675.out) hb); have n4_ := Aside0.mk (below_step (by repeat (first | (with_reducible first | exact HB.out | apply below_alloc | apply pw_below_drewN | apply below_drew1 | refine below_set ?_ GE674.out | refine below_set ?_ GE675.out) | exact HB.out)) hb); clear HO682; clear BK674; clear BK675; clear HB; have HO682 := n0_; have HO687 := n1_; have BK674 := n2_; have BK675 := n3_; have HB := n4_; clear n0_ n1_ n2_ n3_ n4_; (try clear hb); (try clear hb2); (try clear hk); (try clear hi); (try clear ho0)) | ((with_reducible refine gate_dst (N := 7) rfl ?_); refine box_event ?hg (N := 7) ?hd (cs := #[.int .i64 0, .slice none 0 0]) (t := 81) ?hr ?_; (case hd => rfl); (case hg => rfl); (case hr => first | (go_simp; done) | (go_simp; rfl)); intro gb688 hg w29 hbox hb; have n0_ := Aside0.mk (Kd.S_below (by (with_reducible repeat (first | apply Kd.S_alloc | apply Kd.S_drewN | apply Kd.S_drew)); exact HO682.out) hb); have n1_ := Aside0.mk (Kd.S_below (by (with_reducible repeat (first | apply Kd.S_alloc | apply Kd.S_drewN | apply Kd.S_drew)); exact HO687.out) hb); have n2_ := Aside0.mk (blk_below (g := gb674) (o := .cells #[.int .i64 a0_0, .int .i64 a0_1] 86 (0, 0)) (by (with_reducible repeat (first | refine blk_drewN ?_ _ | refine blk_drew ?_ | refine blk_alloc ?_ _)); exact BK674.out) hb); have n3_ := Aside0.mk (blk_below (g := gb675) (o := .cells #[.int .i64 a1_0, .slice A1_1 l1_1.length c1_1] 76 (0, 0)) (by (with_reducible repeat (first | refine blk_drewN ?_ _ | refine blk_drew ?_ | refine blk_alloc ?_ _)); exact BK675.out) hb); have n4_ := Aside0.mk (below_step (by repeat (first | (with_reducible first | exact HB.out | apply below_alloc | apply pw_below_drewN | apply below_drew1 | refine below_set ?_ GE674.out | refine below_set ?_ GE675.out) | exact HB.out)) hb); have n5_ := Aside0.mk (hbox); have n6_ := Aside0.mk ((by rw [hg]; exact (below_size (by repeat (first | (with_reducible first | exact HB.out | apply below_alloc | apply pw_below_drewN | apply below_drew1 | refine below_set ?_ GE674.out | refine below_set ?_ GE675.out) | exact HB.out))) : w.heap.size ≤ gb688)); have n7_ := Aside0.mk ((by rw [hg]; exact (below_size (by repeat (first | (with_reducible first | exact HB.out | apply below_alloc | apply pw_below_drewN | apply below_drew1 | refine below_set ?_ GE674.out | refine below_set ?_ GE675.out) | exact HB.out))) : w.heap.size ≤ gb688)); have n8_ := Aside0.mk ((by rw [hg]; exact Nat.ne_of_lt (blk_lt (g := gb674) (o := .cells #[.int .i64 a0_0, .int .i64 a0_1] 86 (0, 0)) (by (with_reducible repeat (first | refine blk_drewN ?_ _ | refine blk_drew ?_ | refine blk_alloc ?_ _)); exact BK674.out)) : gb674 ≠ gb688)); have n9_ := Aside0.mk ((by rw [hg]; exact Nat.ne_of_gt (blk_lt (g := gb674) (o := .cells #[.int .i64 a0_0, .int .i64 a0_1] 86 (0, 0)) (by (with_reducible repeat (first | refine blk_drewN ?_ _ | refine blk_drew ?_ | refine blk_alloc ?_ _)); exact BK674.out)) : gb688 ≠ gb674)); have n10_ := Aside0.mk ((by rw [hg]; exact Nat.ne_of_lt (blk_lt (g := gb675) (o := .cells #[.int .i64 a1_0, .slice A1_1 l1_1.length c1_1] 76 (0, 0)) (by (with_reducible repeat (first | refine blk_drewN ?_ _ | refine blk_drew ?_ | refine blk_alloc ?_ _)); exact BK675.out)) : gb675 ≠ gb688)); have n11_ := Aside0.mk ((by rw [hg]; exact Nat.ne_of_gt (blk_lt (g := gb675) (o := .cells #[.int .i64 a1_0, .slice A1_1 l1_1.length c1_1] 76 (0, 0)) (by (with_reducible repeat (first | refine blk_drewN ?_ _ | refine blk_drew ?_ | refine blk_alloc ?_ _)); exact BK675.out)) : gb688 ≠ gb675)); clear HO682; clear HO687; clear BK674; clear BK675; clear HB; have HO682 := n0_; have HO687 := n1_; have BK674 := n2_; have BK675 := n3_; have HB := n4_; have BK688 := n5_; have GW688 := n6_; have GE688 := n7_; have NB674_688 := n8_; have NB688_674 := n9_; have NB675_688 := n10_; have NB688_675 := n11_; clear n0_ n1_ n2_ n3_ n4_ n5_ n6_ n7_ n8_ n9_ n10_ n11_; clear hb hbox hg; have hnb30 := NB688_674.out; have hnc30 := NB674_688.out; have hnb31 := NB688_675.out; have hnc31 := NB675_688.out; have hcz32_0 : w29.cell? ⟨gb688, 0, none⟩ = some (.int .i64 0) := (blk_cell BK688.out 0).trans rfl; have hcz32_1 : w29.cell? ⟨gb688, 1, none⟩ = some (.slice none 0 0) := (blk_cell BK688.out 1).trans rfl; have hfz32_0 := blk_frozen BK688.out 0; have hfz32_1 := blk_frozen BK688.out 1; obtain ⟨Ao33, co33, eo33⟩ := Kd.S_slice HO687.out; subst eo33))
      have n0_ : Aside0 (Kd.S (Kd.slice 176 k176) 60 ((w29.setCell ⟨gb688, 0, none⟩ (.int .i64 t684)).setCell ⟨gb688, 1, none⟩ (.slice Ao33 t685.length co33)) w.heap.size (fun k_ => some k_ ≠ (.slice Ao33 t685.length co33 : Value).ownBlock) (.slice Ao25 t680.length co25) t680) := ⟨by (with_reducible repeat (first | apply Kd.S_alloc | apply Kd.S_drewN | apply Kd.S_drew)); exact Kd.S_mono (Kd.S_far (p := ⟨gb688, 1, none⟩) (Kd.S_far (p := ⟨gb688, 0, none⟩) (Kd.S_types HO682.out BK688.out (by decide)) (fun _ hk => hk.2) (.int .i64 t684)) (fun _ hk => hk.2) (.slice Ao33 t685.length co33)) (fun _ hk => hk.1.2)⟩
      have n1_ : Aside0 (Kd.S (Kd.slice 176 k176) 60 ((w29.setCell ⟨gb688, 0, none⟩ (.int .i64 t684)).setCell ⟨gb688, 1, none⟩ (.slice Ao33 t685.length co33)) w.heap.size (fun k_ => some k_ ≠ (.slice Ao25 t680.length co25 : Value).ownBlock) (.slice Ao33 t685.length co33) t685) := ⟨by (with_reducible repeat (first | apply Kd.S_alloc | apply Kd.S_drewN | apply Kd.S_drew)); exact Kd.S_mono (Kd.S_far (p := ⟨gb688, 1, none⟩) (Kd.S_far (p := ⟨gb688, 0, none⟩) (Kd.S_types HO687.out BK688.out (by decide)) (fun _ hk => hk.2) (.int .i64 t684)) (fun _ hk => hk.2) (.slice Ao33 t685.length co33)) (fun _ hk => hk.1.2)⟩
      have n2_ : Aside0 (((w29.setCell ⟨gb688, 0, none⟩ (.int .i64 t684)).setCell ⟨gb688, 1, none⟩ (.slice Ao33 t685.length co33)).heap[gb674]? = some (.cells #[.int .i64 a0_0, .int .i64 a0_1] 86 (0, 0))) := ⟨by (with_reducible repeat (first | refine blk_drewN ?_ _ | refine blk_drew ?_ | refine blk_alloc ?_ _)); refine blk_far ?_ NB674_688.out _; (with_reducible repeat (first | refine blk_drewN ?_ _ | refine blk_drew ?_ | refine blk_alloc ?_ _)); refine blk_far ?_ NB674_688.out _; (with_reducible repeat (first | refine blk_drewN ?_ _ | refine blk_drew ?_ | refine blk_alloc ?_ _)); exact BK674.out⟩
      have n3_ : Aside0 (((w29.setCell ⟨gb688, 0, none⟩ (.int .i64 t684)).setCell ⟨gb688, 1, none⟩ (.slice Ao33 t685.length co33)).heap[gb675]? = some (.cells #[.int .i64 a1_0, .slice A1_1 l1_1.length c1_1] 76 (0, 0))) := ⟨by (with_reducible repeat (first | refine blk_drewN ?_ _ | refine blk_drew ?_ | refine blk_alloc ?_ _)); refine blk_far ?_ NB675_688.out _; (with_reducible repeat (first | refine blk_drewN ?_ _ | refine blk_drew ?_ | refine blk_alloc ?_ _)); refine blk_far ?_ NB675_688.out _; (with_reducible repeat (first | refine blk_drewN ?_ _ | refine blk_drew ?_ | refine blk_alloc ?_ _)); exact BK675.out⟩
      have n4_ : Aside0 (((w29.setCell ⟨gb688, 0, none⟩ (.int .i64 t684)).setCell ⟨gb688, 1, none⟩ (.slice Ao33 t685.length co33)).heap[gb688]? = some (.cells #[.int .i64 t684, .slice Ao33 t685.length co33] 81 (0, 0))) := ⟨by (with_reducible repeat (first | refine blk_drewN ?_ _ | refine blk_drew ?_ | refine blk_alloc ?_ _)); refine blk_put (cs := #[.int .i64 t684, .slice none 0 0]) ?_ 1 _ rfl; (with_reducible repeat (first | refine blk_drewN ?_ _ | refine blk_drew ?_ | refine blk_alloc ?_ _)); refine blk_put (cs := #[.int .i64 0, .slice none 0 0]) ?_ 0 _ rfl; (with_reducible repeat (first | refine blk_drewN ?_ _ | refine blk_drew ?_ | refine blk_alloc ?_ _)); exact BK688.out⟩
      have n5_ : Aside0 (Below w.heap.size w ((w29.setCell ⟨gb688, 0, none⟩ (.int .i64 t684)).setCell ⟨gb688, 1, none⟩ (.slice Ao33 t685.length co33))) := ⟨by repeat (first | (with_reducible first | exact HB.out | apply below_alloc | apply pw_below_drewN | apply below_drew1 | refine below_set ?_ GE674.out | refine below_set ?_ GE675.out | refine below_set ?_ GE688.out) | exact HB.out)⟩
      (try clear HO682)
      (try clear HO687)
      (try clear BK674)
      (try clear BK675)
      (try clear BK688)
      (try clear HB)
      generalize ((w29.setCell ⟨gb688, 0, none⟩ (.int .i64 t684)).setCell ⟨gb688, 1, none⟩ (.slice Ao33 t685.length co33)) = w34 at n0_ n1_ n2_ n3_ n4_ n5_ ⊢
      have HO682 := n0_
      have HO687 := n1_
      have BK674 := n2_
      have BK675 := n3_
      have BK688 := n4_
      have HB := n5_
      clear n0_ n1_ n2_ n3_ n4_ n5_
      have n0_ := Aside0.mk (Kd.S_drew HO682.out)
      have n1_ := Aside0.mk (Kd.S_drew HO687.out)
      have n2_ := Aside0.mk (blk_drew BK674.out)
      have n3_ := Aside0.mk (blk_drew BK675.out)
      have n4_ := Aside0.mk (blk_drew BK688.out)
      have n5_ := Aside0.mk (below_drew1 HB.out)
      clear HO682
      clear HO687
      clear BK674
      clear BK675
      clear BK688
      clear HB
      have HO682 := n0_
      have HO687 := n1_
      have BK674 := n2_
      have BK675 := n3_
      have BK688 := n4_
      have HB := n5_
      clear n0_ n1_ n2_ n3_ n4_ n5_
      refine start_ (n := 5) (S := fun w' => w'.cell? ⟨gb674, 0, none⟩ = some (.int .i64 a0_0) ∧ w'.cell? ⟨gb674, 1, none⟩ = some (.int .i64 a0_1) ∧ w'.cell? ⟨gb688, 0, none⟩ = some (.int .i64 t684) ∧ w'.cell? ⟨gb688, 1, none⟩ = some (.slice Ao33 t685.length co33)) (ds := []) #[false, false, false, false, false] (by kernel_rfl) rfl rfl ⟨(blk_cell BK674.out 0).trans rfl, (blk_cell BK674.out 1).trans rfl, (blk_cell BK688.out 0).trans rfl, (blk_cell BK688.out 1).trans rfl⟩ (fun hHeld => ?_)
      generalize w34.drew = w35 at HO682 HO687 BK674 BK675 BK688 HB hHeld ⊢
      refine take_ (i := 0) (N := some 21) (v := ?_) (a' := ?_) #[true, false, false, false, false] rfl rfl (by kernel_rfl) (fun _ _ _ h => h) (Or.inl ⟨by rfl, ?_⟩) hHeld ?_ ?_
      rotate_left
      · rintro w' ⟨s0, s1, s2, s3⟩
        go_simp
        with_reducible rfl
      rotate_left
      · simp only [Act.put, List.setIfInBounds_toArray, List.set_cons_zero, List.set_cons_succ, i64_w, i32_w]
        rfl
      refine take_ (i := 2) (N := some 23) (v := ?_) (a' := ?_) #[true, false, true, false, false] rfl rfl (by kernel_rfl) (fun _ _ _ h => h) (Or.inl ⟨by rfl, ?_⟩) hHeld ?_ ?_
      rotate_left
      · rintro w' ⟨s0, s1, s2, s3⟩
        go_simp
        with_reducible rfl
      rotate_left
      · simp only [Act.put, List.setIfInBounds_toArray, List.set_cons_zero, List.set_cons_succ, i64_w, i32_w]
        rfl
      refine one_ (i := 1) (N := some 22) #[true, true, true, false, false] rfl rfl (by kernel_rfl) (by decide) (fun K hK => ?_)
      refine goes_ Try.func74 (by kernel_rfl) rfl #[.agg #[.int .i64 a0_0, .int .i64 a0_1]] (by rfl) rfl rfl (by (try simp only [List.map_toArray, List.map_cons, List.map_nil]); first | done | rfl | (simp only [List.length_drop, List.length_take]; rfl)) ?_
      with_reducible refine (laws_toSpot.calls a0_0 a0_1 t689 t690 _ A14.out).mono ?_
      rintro e w36 ⟨rfl, hb⟩
      refine ⟨_, rfl, ?_⟩
      have n0_ := Aside0.mk (Kd.S_below (by (with_reducible repeat (first | apply Kd.S_alloc | apply Kd.S_drewN | apply Kd.S_drew)); exact HO682.out) hb)
      have n1_ := Aside0.mk (Kd.S_below (by (with_reducible repeat (first | apply Kd.S_alloc | apply Kd.S_drewN | apply Kd.S_drew)); exact HO687.out) hb)
      have n2_ := Aside0.mk (blk_below (g := gb674) (o := .cells #[.int .i64 a0_0, .int .i64 a0_1] 86 (0, 0)) (by (with_reducible repeat (first | refine blk_drewN ?_ _ | refine blk_drew ?_ | refine blk_alloc ?_ _)); exact BK674.out) hb)
      have n3_ := Aside0.mk (blk_below (g := gb675) (o := .cells #[.int .i64 a1_0, .slice A1_1 l1_1.length c1_1] 76 (0, 0)) (by (with_reducible repeat (first | refine blk_drewN ?_ _ | refine blk_drew ?_ | refine blk_alloc ?_ _)); exact BK675.out) hb)
      have n4_ := Aside0.mk (blk_below (g := gb688) (o := .cells #[.int .i64 t684, .slice Ao33 t685.length co33] 81 (0, 0)) (by (with_reducible repeat (first | refine blk_drewN ?_ _ | refine blk_drew ?_ | refine blk_alloc ?_ _)); exact BK688.out) hb)
      have n5_ := Aside0.mk (below_step (by repeat (first | (with_reducible first | exact HB.out | apply below_alloc | apply pw_below_drewN | apply below_drew1 | refine below_set ?_ GE674.out | refine below_set ?_ GE675.out | refine below_set ?_ GE688.out) | exact HB.out)) hb)
      clear HO682
      clear HO687
      clear BK674
      clear BK675
      clear BK688
      clear HB
      have HO682 := n0_
      have HO687 := n1_
      have BK674 := n2_
      have BK675 := n3_
      have BK688 := n4_
      have HB := n5_
      clear n0_ n1_ n2_ n3_ n4_ n5_
      (try clear hb)
      (try clear hb2)
      (try clear hk)
      (try clear hi)
      refine hK.out _ _ ⟨(blk_cell BK674.out 0).trans rfl, (blk_cell BK674.out 1).trans rfl, (blk_cell BK688.out 0).trans rfl, (blk_cell BK688.out 1).trans rfl⟩ (fun hHeld => ?_)
      clear hK K
      refine norm_ (a' := ?_) ?_ ?_
      rotate_left
      · show Act.put _ (some 22) _ = _
        simp only [Act.put, List.setIfInBounds_toArray, List.set_cons_zero, List.set_cons_succ, i64_w, i32_w]
        rfl
      refine one_ (i := 3) (N := some 24) #[true, true, true, true, false] rfl rfl (by kernel_rfl) (by decide) (fun K hK => ?_)
      refine goes_ Try.func75 (by kernel_rfl) rfl #[.agg #[.int .i64 t689, .int .i64 t690], .agg #[.int .i64 t684, .slice Ao33 t685.length co33]] (by rfl) rfl rfl (by (try simp only [List.map_toArray, List.map_cons, List.map_nil]); first | done | rfl | (simp only [List.length_drop, List.length_take]; rfl)) ?_
      with_reducible refine (impl_SpotOk.calls t689 t690 t684 _ _ t685 t691 _ ?side1 ?side2 A15.out).mono ?_
      (case side1 => repeat (first | exact (Kd.S_reads' HO687.out).2.2 | (with_reducible refine Kd.C_alloc ?_ _) | (with_reducible refine Kd.C_drewN ?_ _) | (with_reducible refine Kd.C_drew ?_)))
      (case side2 => exact (Kd.S_reads' HO687.out).2.1)
      rintro e w37 ⟨rfl, hb⟩
      refine ⟨_, rfl, ?_⟩
      have n0_ := Aside0.mk (Kd.S_below (by (with_reducible repeat (first | apply Kd.S_alloc | apply Kd.S_drewN | apply Kd.S_drew)); exact HO682.out) hb)
      have n1_ := Aside0.mk (Kd.S_below (by (with_reducible repeat (first | apply Kd.S_alloc | apply Kd.S_drewN | apply Kd.S_drew)); exact HO687.out) hb)
      have n2_ := Aside0.mk (blk_below (g := gb674) (o := .cells #[.int .i64 a0_0, .int .i64 a0_1] 86 (0, 0)) (by (with_reducible repeat (first | refine blk_drewN ?_ _ | refine blk_drew ?_ | refine blk_alloc ?_ _)); exact BK674.out) hb)
      have n3_ := Aside0.mk (blk_below (g := gb675) (o := .cells #[.int .i64 a1_0, .slice A1_1 l1_1.length c1_1] 76 (0, 0)) (by (with_reducible repeat (first | refine blk_drewN ?_ _ | refine blk_drew ?_ | refine blk_alloc ?_ _)); exact BK675.out) hb)
      have n4_ := Aside0.mk (blk_below (g := gb688) (o := .cells #[.int .i64 t684, .slice Ao33 t685.length co33] 81 (0, 0)) (by (with_reducible repeat (first | refine blk_drewN ?_ _ | refine blk_drew ?_ | refine blk_alloc ?_ _)); exact BK688.out) hb)
      have n5_ := Aside0.mk (below_step (by repeat (first | (with_reducible first | exact HB.out | apply below_alloc | apply pw_below_drewN | apply below_drew1 | refine below_set ?_ GE674.out | refine below_set ?_ GE675.out | refine below_set ?_ GE688.out) | exact HB.out)) hb)
      clear HO682
      clear HO687
      clear BK674
      clear BK675
      clear BK688
      clear HB
      have HO682 := n0_
      have HO687 := n1_
      have BK674 := n2_
      have BK675 := n3_
      have BK688 := n4_
      have HB := n5_
      clear n0_ n1_ n2_ n3_ n4_ n5_
      (try clear hb)
      (try clear hb2)
      (try clear hk)
      (try clear hi)
      refine hK.out _ _ ⟨(blk_cell BK674.out 0).trans rfl, (blk_cell BK674.out 1).trans rfl, (blk_cell BK688.out 0).trans rfl, (blk_cell BK688.out 1).trans rfl⟩ (fun hHeld => ?_)
      clear hK K
      refine norm_ (a' := ?_) ?_ ?_
      rotate_left
      · show Act.put _ (some 24) _ = _
        simp only [Act.put, List.setIfInBounds_toArray, List.set_cons_zero, List.set_cons_succ, i64_w, i32_w]
        rfl
      refine pure_ (i := 4) (N := some 8) (v := ?_) (a' := ?_) #[true, true, true, true, true] rfl rfl (by kernel_rfl) (fun _ _ _ h => h) (Or.inl ⟨by rfl, ?_⟩) ?_ ?_
      rotate_left
      · intro w'
        go_simp
        with_reducible rfl
      rotate_left
      · simp only [Act.put, List.setIfInBounds_toArray, List.set_cons_zero, List.set_cons_succ, i64_w, i32_w]
        rfl
      refine done_ (by kernel_rfl) ?_
      try go_wp2
      go_ret
      exact ⟨by first | rfl | (simp [errW_none, errW_some] <;> rfl) | (simp [*, errW_none, errW_some] <;> rfl), by repeat (first | (with_reducible first | exact HB.out | apply below_alloc | apply pw_below_drewN | apply below_drew1 | refine below_set ?_ GE674.out | refine below_set ?_ GE675.out | refine below_set ?_ GE688.out) | exact HB.out)⟩
    · rw [if_neg c16] at H
      have c16b0 : (t691 != t683) = false := by simpa using c16
      (try (have c16b1 : decide (t691 = t683) = true := by simpa using c16))
      (try (have c16b2 : (t691 == t683) = true := by simpa using c16))
      clear c16
      replace H := Option.bind_eq_some_iff.mp H
      obtain ⟨⟨t692, t693⟩, A380, H⟩ := H
      replace H : ((laws_eqProg.f k t684 t685 t692 t693).bind fun t696 => (if t696 = true then (some true) else (some false))) = some r := H
      have A38 := Aside0.mk A380
      clear A380
      replace H := Option.bind_eq_some_iff.mp H
      obtain ⟨t696, A390, H⟩ := H
      replace H : (if t696 = true then (some true) else (some false)) = some r := H
      have A39 := Aside0.mk A390
      clear A390
      by_cases c40 : t696 = true
      · subst c40
        have H1 : (some true) = some r := by rw [if_pos rfl] at H; exact H
        clear H
        have H := H1
        clear H1
        obtain rfl := Option.some.inj H
        go_enter Try.func11, Try.ntmps11
        try go_wp2_with (first | ((with_reducible refine gate_dst (N := 2) rfl ?_); refine box_event ?hg (N := 2) ?hd (cs := #[.int .i64 a0_0, .int .i64 a0_1]) (t := 86) ?hr ?_; (case hd => rfl); (case hg => rfl); (case hr => first | (go_simp; done) | (go_simp; rfl)); intro gb674 hg w41 hbox hb; have n0_ := Aside0.mk (below_step (by repeat (first | (with_reducible first | exact HB.out | apply below_alloc | apply pw_below_drewN | apply below_drew1) | exact HB.out)) hb); have n1_ := Aside0.mk (hbox); have n2_ := Aside0.mk ((by rw [hg]; exact (below_size (by repeat (first | (with_reducible first | exact HB.out | apply below_alloc | apply pw_below_drewN | apply below_drew1) | exact HB.out))) : w.heap.size ≤ gb674)); have n3_ := Aside0.mk ((by rw [hg]; exact (below_size (by repeat (first | (with_reducible first | exact HB.out | apply below_alloc | apply pw_below_drewN | apply below_drew1) | exact HB.out))) : w.heap.size ≤ gb674)); clear HB; have HB := n0_; have BK674 := n1_; have GW674 := n2_; have GE674 := n3_; clear n0_ n1_ n2_ n3_; clear hb hbox hg) | ((with_reducible refine gate_dst (N := 3) rfl ?_); refine box_event ?hg (N := 3) ?hd (cs := #[.int .i64 a1_0, .slice A1_1 l1_1.length c1_1]) (t := 76) ?hr ?_; (case hd => rfl); (case hg => rfl); (case hr => first | (go_simp; done) | (go_simp; rfl)); intro gb675 hg w42 hbox hb; have n0_ := Aside0.mk (blk_below (g := gb674) (o := .cells #[.int .i64 a0_0, .int .i64 a0_1] 86 (0, 0)) (by (with_reducible repeat (first | refine blk_drewN ?_ _ | refine blk_drew ?_ | refine blk_alloc ?_ _)); exact BK674.out) hb); have n1_ := Aside0.mk (below_step (by repeat (first | (with_reducible first | exact HB.out | apply below_alloc | apply pw_below_drewN | apply below_drew1 | refine below_set ?_ GE674.out) | exact HB.out)) hb); have n2_ := Aside0.mk (hbox); have n3_ := Aside0.mk ((by rw [hg]; exact (below_size (by repeat (first | (with_reducible first | exact HB.out | apply below_alloc | apply pw_below_drewN | apply below_drew1 | refine below_set ?_ GE674.out) | exact HB.out))) : w.heap.size ≤ gb675)); have n4_ := Aside0.mk ((by rw [hg]; exact (below_size (by repeat (first | (with_reducible first | exact HB.out | apply below_alloc | apply pw_below_drewN | apply below_drew1 | refine below_set ?_ GE674.out) | exact HB.out))) : w.heap.size ≤ gb675)); have n5_ := Aside0.mk ((by rw [hg]; exact Nat.ne_of_lt (blk_lt (g := gb674) (o := .cells #[.int .i64 a0_0, .int .i64 a0_1] 86 (0, 0)) (by (with_reducible repeat (first | refine blk_drewN ?_ _ | refine blk_drew ?_ | refine blk_alloc ?_ _)); exact BK674.out)) : gb674 ≠ gb675)); have n6_ := Aside0.mk ((by rw [hg]; exact Nat.ne_of_gt (blk_lt (g := gb674) (o := .cells #[.int .i64 a0_0, .int .i64 a0_1] 86 (0, 0)) (by (with_reducible repeat (first | refine blk_drewN ?_ _ | refine blk_drew ?_ | refine blk_alloc ?_ _)); exact BK674.out)) : gb675 ≠ gb674)); clear BK674; clear HB; have BK674 := n0_; have HB := n1_; have BK675 := n2_; have GW675 := n3_; have GE675 := n4_; have NB674_675 := n5_; have NB675_674 := n6_; clear n0_ n1_ n2_ n3_ n4_ n5_ n6_; clear hb hbox hg; have hnb43 := NB675_674.out; have hnc43 := NB674_675.out; have hcz44_0 : w42.cell? ⟨gb675, 0, none⟩ = some (.int .i64 a1_0) := (blk_cell BK675.out 0).trans rfl; have hcz44_1 : w42.cell? ⟨gb675, 1, none⟩ = some (.slice A1_1 l1_1.length c1_1) := (blk_cell BK675.out 1).trans rfl; have hfz44_0 := blk_frozen BK675.out 0; have hfz44_1 := blk_frozen BK675.out 1) | ((with_reducible refine gate_callee (f := 68) rfl ?_); refine goesL_ (some 11) rfl rfl Try.func68 (by kernel_rfl) rfl #[.agg #[.int .i64 a1_0, .slice A1_1 l1_1.length c1_1], .int .i64 1048576] rfl (by (try simp only [List.map_toArray, List.map_cons, List.map_nil]); first | done | rfl | (simp only [List.length_drop, List.length_take]; rfl)) ?_; (with_reducible refine (laws_szProg.calls k a1_0 _ _ l1_1 1048576 t676 _ ?side1 ?side2 A3.out).mono ?_); (case side1 => repeat (first | exact (Kd.C_below HR1_1.out HB.out) | (with_reducible refine Kd.C_alloc ?_ _) | (with_reducible refine Kd.C_drewN ?_ _) | (with_reducible refine Kd.C_drew ?_))); (case side2 => exact HC1_1.out); rintro e w45 ⟨rfl, hb⟩; refine ⟨_, rfl, ?_⟩; have n0_ := Aside0.mk (blk_below (g := gb674) (o := .cells #[.int .i64 a0_0, .int .i64 a0_1] 86 (0, 0)) (by (with_reducible repeat (first | refine blk_drewN ?_ _ | refine blk_drew ?_ | refine blk_alloc ?_ _)); exact BK674.out) hb); have n1_ := Aside0.mk (blk_below (g := gb675) (o := .cells #[.int .i64 a1_0, .slice A1_1 l1_1.length c1_1] 76 (0, 0)) (by (with_reducible repeat (first | refine blk_drewN ?_ _ | refine blk_drew ?_ | refine blk_alloc ?_ _)); exact BK675.out) hb); have n2_ := Aside0.mk (below_step (by repeat (first | (with_reducible first | exact HB.out | apply below_alloc | apply pw_below_drewN | apply below_drew1 | refine below_set ?_ GE674.out | refine below_set ?_ GE675.out) | exact HB.out)) hb); clear BK674; clear BK675; clear HB; have BK674 := n0_; have BK675 := n1_; have HB := n2_; clear n0_ n1_ n2_; (try clear hb); (try clear hb2); (try clear hk); (try clear hi)))
        have n0_ := Aside0.mk (blk_drew BK674.out)
        have n1_ := Aside0.mk (blk_drew BK675.out)
        have n2_ := Aside0.mk (below_drew1 HB.out)
        clear BK674
        clear BK675
        clear HB
        have BK674 := n0_
        have BK675 := n1_
        have HB := n2_
        clear n0_ n1_ n2_
        refine start_ (n := 6) (S := fun w' => w'.cell? ⟨gb674, 0, none⟩ = some (.int .i64 a0_0) ∧ w'.cell? ⟨gb674, 1, none⟩ = some (.int .i64 a0_1) ∧ w'.cell? ⟨gb675, 0, none⟩ = some (.int .i64 a1_0) ∧ w'.cell? ⟨gb675, 1, none⟩ = some (.slice A1_1 l1_1.length c1_1)) (ds := []) #[false, false, false, false, false, false] (by kernel_rfl) rfl rfl ⟨(blk_cell BK674.out 0).trans rfl, (blk_cell BK674.out 1).trans rfl, (blk_cell BK675.out 0).trans rfl, (blk_cell BK675.out 1).trans rfl⟩ (fun hHeld => ?_)
        generalize w45.drew = w46 at BK674 BK675 HB hHeld ⊢
        refine take_ (i := 0) (N := some 14) (v := ?_) (a' := ?_) #[true, false, false, false, false, false] rfl rfl (by kernel_rfl) (fun _ _ _ h => h) (Or.inl ⟨by rfl, ?_⟩) hHeld ?_ ?_
        rotate_left
        · rintro w' ⟨s0, s1, s2, s3⟩
          go_simp
          with_reducible rfl
        rotate_left
        · simp only [Act.put, List.setIfInBounds_toArray, List.set_cons_zero, List.set_cons_succ, i64_w, i32_w]
          rfl
        refine take_ (i := 2) (N := some 16) (v := ?_) (a' := ?_) #[true, false, true, false, false, false] rfl rfl (by kernel_rfl) (fun _ _ _ h => h) (Or.inl ⟨by rfl, ?_⟩) hHeld ?_ ?_
        rotate_left
        · rintro w' ⟨s0, s1, s2, s3⟩
          go_simp
          with_reducible rfl
        rotate_left
        · simp only [Act.put, List.setIfInBounds_toArray, List.set_cons_zero, List.set_cons_succ, i64_w, i32_w]
          rfl
        refine one_ (i := 1) (N := some 15) #[true, true, true, false, false, false] rfl rfl (by kernel_rfl) (by decide) (fun K hK => ?_)
        refine goes_ Try.func74 (by kernel_rfl) rfl #[.agg #[.int .i64 a0_0, .int .i64 a0_1]] (by rfl) rfl rfl (by (try simp only [List.map_toArray, List.map_cons, List.map_nil]); first | done | rfl | (simp only [List.length_drop, List.length_take]; rfl)) ?_
        with_reducible refine (laws_toSpot.calls a0_0 a0_1 t677 t678 _ A10.out).mono ?_
        rintro e w47 ⟨rfl, hb⟩
        refine ⟨_, rfl, ?_⟩
        have n0_ := Aside0.mk (blk_below (g := gb674) (o := .cells #[.int .i64 a0_0, .int .i64 a0_1] 86 (0, 0)) (by (with_reducible repeat (first | refine blk_drewN ?_ _ | refine blk_drew ?_ | refine blk_alloc ?_ _)); exact BK674.out) hb)
        have n1_ := Aside0.mk (blk_below (g := gb675) (o := .cells #[.int .i64 a1_0, .slice A1_1 l1_1.length c1_1] 76 (0, 0)) (by (with_reducible repeat (first | refine blk_drewN ?_ _ | refine blk_drew ?_ | refine blk_alloc ?_ _)); exact BK675.out) hb)
        have n2_ := Aside0.mk (below_step (by repeat (first | (with_reducible first | exact HB.out | apply below_alloc | apply pw_below_drewN | apply below_drew1 | refine below_set ?_ GE674.out | refine below_set ?_ GE675.out) | exact HB.out)) hb)
        clear BK674
        clear BK675
        clear HB
        have BK674 := n0_
        have BK675 := n1_
        have HB := n2_
        clear n0_ n1_ n2_
        (try clear hb)
        (try clear hb2)
        (try clear hk)
        (try clear hi)
        refine hK.out _ _ ⟨(blk_cell BK674.out 0).trans rfl, (blk_cell BK674.out 1).trans rfl, (blk_cell BK675.out 0).trans rfl, (blk_cell BK675.out 1).trans rfl⟩ (fun hHeld => ?_)
        clear hK K
        refine norm_ (a' := ?_) ?_ ?_
        rotate_left
        · show Act.put _ (some 15) _ = _
          simp only [Act.put, List.setIfInBounds_toArray, List.set_cons_zero, List.set_cons_succ, i64_w, i32_w]
          rfl
        refine one_ (i := 3) (N := some 17) #[true, true, true, true, false, false] rfl rfl (by kernel_rfl) (by decide) (fun K hK => ?_)
        refine goes_ Try.func70 (by kernel_rfl) rfl #[.agg #[.int .i64 a1_0, .slice A1_1 l1_1.length c1_1]] (by rfl) rfl rfl (by (try simp only [List.map_toArray, List.map_cons, List.map_nil]); first | done | rfl | (simp only [List.length_drop, List.length_take]; rfl)) ?_
        with_reducible refine (laws_toProg.calls k a1_0 _ _ l1_1 t679 t680 _ ?side1 ?side2 A11.out).mono ?_
        (case side1 => repeat (first | exact (Kd.C_below HR1_1.out HB.out) | (with_reducible refine Kd.C_alloc ?_ _) | (with_reducible refine Kd.C_drewN ?_ _) | (with_reducible refine Kd.C_drew ?_)))
        (case side2 => exact HC1_1.out)
        rintro e w48 ⟨v681, rfl, ho0, hb⟩
        refine ⟨_, rfl, ?_⟩
        have n0_ := Aside0.mk (Kd.S_lower ho0 (below_size (by repeat (first | (with_reducible first | exact HB.out | apply below_alloc | apply pw_below_drewN | apply below_drew1 | refine below_set ?_ GE674.out | refine below_set ?_ GE675.out) | exact HB.out))))
        have n1_ := Aside0.mk (blk_below (g := gb674) (o := .cells #[.int .i64 a0_0, .int .i64 a0_1] 86 (0, 0)) (by (with_reducible repeat (first | refine blk_drewN ?_ _ | refine blk_drew ?_ | refine blk_alloc ?_ _)); exact BK674.out) hb)
        have n2_ := Aside0.mk (blk_below (g := gb675) (o := .cells #[.int .i64 a1_0, .slice A1_1 l1_1.length c1_1] 76 (0, 0)) (by (with_reducible repeat (first | refine blk_drewN ?_ _ | refine blk_drew ?_ | refine blk_alloc ?_ _)); exact BK675.out) hb)
        have n3_ := Aside0.mk (below_step (by repeat (first | (with_reducible first | exact HB.out | apply below_alloc | apply pw_below_drewN | apply below_drew1 | refine below_set ?_ GE674.out | refine below_set ?_ GE675.out) | exact HB.out)) hb)
        clear BK674
        clear BK675
        clear HB
        have HO682 := n0_
        have BK674 := n1_
        have BK675 := n2_
        have HB := n3_
        clear n0_ n1_ n2_ n3_
        (try clear hb)
        (try clear hb2)
        (try clear hk)
        (try clear hi)
        (try clear ho0)
        obtain ⟨Ao49, co49, eo49⟩ := Kd.S_slice HO682.out
        (first | subst eo49 | (injection eo49 with f1_ f2_ f3_; have f4_ := f1_.symm; have f5_ := f3_.symm; clear f1_ f2_ f3_; subst f4_; subst f5_))
        refine hK.out _ _ ⟨(blk_cell BK674.out 0).trans rfl, (blk_cell BK674.out 1).trans rfl, (blk_cell BK675.out 0).trans rfl, (blk_cell BK675.out 1).trans rfl⟩ (fun hHeld => ?_)
        clear hK K
        refine norm_ (a' := ?_) ?_ ?_
        rotate_left
        · show Act.put _ (some 17) _ = _
          simp only [Act.put, List.setIfInBounds_toArray, List.set_cons_zero, List.set_cons_succ, i64_w, i32_w]
          rfl
        refine one_ (i := 4) (N := some 18) #[true, true, true, true, true, false] rfl rfl (by kernel_rfl) (by decide) (fun K hK => ?_)
        refine goes_ Try.func73 (by kernel_rfl) rfl #[.agg #[.int .i64 t677, .int .i64 t678], .agg #[.int .i64 t679, .slice Ao49 t680.length co49]] (by rfl) rfl rfl (by (try simp only [List.map_toArray, List.map_cons, List.map_nil]); first | done | rfl | (simp only [List.length_drop, List.length_take]; rfl)) ?_
        with_reducible refine (spec_SpotOk.calls k t677 t678 t679 _ _ t680 t683 _ ?side1 ?side2 A12.out).mono ?_
        (case side1 => repeat (first | exact (Kd.S_reads' HO682.out).2.2 | (with_reducible refine Kd.C_alloc ?_ _) | (with_reducible refine Kd.C_drewN ?_ _) | (with_reducible refine Kd.C_drew ?_)))
        (case side2 => exact (Kd.S_reads' HO682.out).2.1)
        rintro e w50 ⟨rfl, hb⟩
        refine ⟨_, rfl, ?_⟩
        have n0_ := Aside0.mk (Kd.S_below (by (with_reducible repeat (first | apply Kd.S_alloc | apply Kd.S_drewN | apply Kd.S_drew)); exact HO682.out) hb)
        have n1_ := Aside0.mk (blk_below (g := gb674) (o := .cells #[.int .i64 a0_0, .int .i64 a0_1] 86 (0, 0)) (by (with_reducible repeat (first | refine blk_drewN ?_ _ | refine blk_drew ?_ | refine blk_alloc ?_ _)); exact BK674.out) hb)
        have n2_ := Aside0.mk (blk_below (g := gb675) (o := .cells #[.int .i64 a1_0, .slice A1_1 l1_1.length c1_1] 76 (0, 0)) (by (with_reducible repeat (first | refine blk_drewN ?_ _ | refine blk_drew ?_ | refine blk_alloc ?_ _)); exact BK675.out) hb)
        have n3_ := Aside0.mk (below_step (by repeat (first | (with_reducible first | exact HB.out | apply below_alloc | apply pw_below_drewN | apply below_drew1 | refine below_set ?_ GE674.out | refine below_set ?_ GE675.out) | exact HB.out)) hb)
        clear HO682
        clear BK674
        clear BK675
        clear HB
        have HO682 := n0_
        have BK674 := n1_
        have BK675 := n2_
        have HB := n3_
        clear n0_ n1_ n2_ n3_
        (try clear hb)
        (try clear hb2)
        (try clear hk)
        (try clear hi)
        refine hK.out _ _ ⟨(blk_cell BK674.out 0).trans rfl, (blk_cell BK674.out 1).trans rfl, (blk_cell BK675.out 0).trans rfl, (blk_cell BK675.out 1).trans rfl⟩ (fun hHeld => ?_)
        clear hK K
        refine norm_ (a' := ?_) ?_ ?_
        rotate_left
        · show Act.put _ (some 18) _ = _
          simp only [Act.put, List.setIfInBounds_toArray, List.set_cons_zero, List.set_cons_succ, i64_w, i32_w]
          rfl
        refine pure_ (i := 5) (N := some 6) (v := ?_) (a' := ?_) #[true, true, true, true, true, true] rfl rfl (by kernel_rfl) (fun _ _ _ h => h) (Or.inl ⟨by rfl, ?_⟩) ?_ ?_
        rotate_left
        · intro w'
          go_simp
          with_reducible rfl
        rotate_left
        · simp only [Act.put, List.setIfInBounds_toArray, List.set_cons_zero, List.set_cons_succ, i64_w, i32_w]
          rfl
        refine done_ (by kernel_rfl) ?_
        have hcz51_0 : w50.cell? ⟨gb675, 0, none⟩ = some (.int .i64 a1_0) := (blk_cell BK675.out 0).trans rfl
        have hcz51_1 : w50.cell? ⟨gb675, 1, none⟩ = some (.slice A1_1 l1_1.length c1_1) := (blk_cell BK675.out 1).trans rfl
        have hfz51_0 := blk_frozen BK675.out 0
        have hfz51_1 := blk_frozen BK675.out 1
        try go_wp2_with (first | ((with_reducible refine gate_callee (f := 70) rfl ?_); refine goesL_ (some 20) rfl rfl Try.func70 (by kernel_rfl) rfl #[.agg #[.int .i64 a1_0, .slice A1_1 l1_1.length c1_1]] rfl (by (try simp only [List.map_toArray, List.map_cons, List.map_nil]); first | done | rfl | (simp only [List.length_drop, List.length_take]; rfl)) ?_; (with_reducible refine (laws_toProg.calls k a1_0 _ _ l1_1 t684 t685 _ ?side1 ?side2 A13.out).mono ?_); (case side1 => repeat (first | exact (Kd.C_below HR1_1.out HB.out) | (with_reducible refine Kd.C_alloc ?_ _) | (with_reducible refine Kd.C_drewN ?_ _) | (with_reducible refine Kd.C_drew ?_))); (case side2 => exact HC1_1.out); rintro e w52 ⟨v686, rfl, ho0, hb⟩; refine ⟨_, rfl, ?_⟩; have n0_ := Aside0.mk (Kd.S_elder' (by (with_reducible repeat (first | apply Kd.S_alloc | apply Kd.S_drewN | apply Kd.S_drew)); exact HO682.out) (Kd.S_base ho0) hb); have n1_ := Aside0.mk (Kd.S_lower (Kd.S_new' ho0 (Kd.S_lt (by (with_reducible repeat (first | apply Kd.S_alloc | apply Kd.S_drewN | apply Kd.S_drew)); exact HO682.out))) (below_size (by repeat (first | (with_reducible first | exact HB.out | apply below_alloc | apply pw_below_drewN | apply below_drew1 | refine below_set ?_ GE674.out | refine below_set ?_ GE675.out) | exact HB.out)))); have n2_ := Aside0.mk (blk_below (g := gb674) (o := .cells #[.int .i64 a0_0, .int .i64 a0_1] 86 (0, 0)) (by (with_reducible repeat (first | refine blk_drewN ?_ _ | refine blk_drew ?_ | refine blk_alloc ?_ _)); exact BK674.out) hb); have n3_ := Aside0.mk (blk_below (g := gb675) (o := .cells #[.int .i64 a1_0, .slice A1_1 l1_1.length c1_1] 76 (0, 0)) (by (with_reducible repeat (first | refine blk_drewN ?_ _ | refine blk_drew ?_ | refine blk_alloc ?_ _)); exact BK675.out) hb); have n4_ := Aside0.mk (below_step (by repeat (first | (with_reducible first | exact HB.out | apply below_alloc | apply pw_below_drewN | apply below_drew1 | refine below_set ?_ GE674.out | refine below_set ?_ GE675.out) | exact HB.out)) hb); clear HO682; clear BK674; clear BK675; clear HB; have HO682 := n0_; have HO687 := n1_; have BK674 := n2_; have BK675 := n3_; have HB := n4_; clear n0_ n1_ n2_ n3_ n4_; (try clear hb); (try clear hb2); (try clear hk); (try clear hi); (try clear ho0)) | ((with_reducible refine gate_dst (N := 7) rfl ?_); refine box_event ?hg (N := 7) ?hd (cs := #[.int .i64 0, .slice none 0 0]) (t := 81) ?hr ?_; (case hd => rfl); (case hg => rfl); (case hr => first | (go_simp; done) | (go_simp; rfl)); intro gb688 hg w53 hbox hb; have n0_ := Aside0.mk (Kd.S_below (by (with_reducible repeat (first | apply Kd.S_alloc | apply Kd.S_drewN | apply Kd.S_drew)); exact HO682.out) hb); have n1_ := Aside0.mk (Kd.S_below (by (with_reducible repeat (first | apply Kd.S_alloc | apply Kd.S_drewN | apply Kd.S_drew)); exact HO687.out) hb); have n2_ := Aside0.mk (blk_below (g := gb674) (o := .cells #[.int .i64 a0_0, .int .i64 a0_1] 86 (0, 0)) (by (with_reducible repeat (first | refine blk_drewN ?_ _ | refine blk_drew ?_ | refine blk_alloc ?_ _)); exact BK674.out) hb); have n3_ := Aside0.mk (blk_below (g := gb675) (o := .cells #[.int .i64 a1_0, .slice A1_1 l1_1.length c1_1] 76 (0, 0)) (by (with_reducible repeat (first | refine blk_drewN ?_ _ | refine blk_drew ?_ | refine blk_alloc ?_ _)); exact BK675.out) hb); have n4_ := Aside0.mk (below_step (by repeat (first | (with_reducible first | exact HB.out | apply below_alloc | apply pw_below_drewN | apply below_drew1 | refine below_set ?_ GE674.out | refine below_set ?_ GE675.out) | exact HB.out)) hb); have n5_ := Aside0.mk (hbox); have n6_ := Aside0.mk ((by rw [hg]; exact (below_size (by repeat (first | (with_reducible first | exact HB.out | apply below_alloc | apply pw_below_drewN | apply below_drew1 | refine below_set ?_ GE674.out | refine below_set ?_ GE675.out) | exact HB.out))) : w.heap.size ≤ gb688)); have n7_ := Aside0.mk ((by rw [hg]; exact (below_size (by repeat (first | (with_reducible first | exact HB.out | apply below_alloc | apply pw_below_drewN | apply below_drew1 | refine below_set ?_ GE674.out | refine below_set ?_ GE675.out) | exact HB.out))) : w.heap.size ≤ gb688)); have n8_ := Aside0.mk ((by rw [hg]; exact Nat.ne_of_lt (blk_lt (g := gb674) (o := .cells #[.int .i64 a0_0, .int .i64 a0_1] 86 (0, 0)) (by (with_reducible repeat (first | refine blk_drewN ?_ _ | refine blk_drew ?_ | refine blk_alloc ?_ _)); exact BK674.out)) : gb674 ≠ gb688)); have n9_ := Aside0.mk ((by rw [hg]; exact Nat.ne_of_gt (blk_lt (g := gb674) (o := .cells #[.int .i64 a0_0, .int .i64 a0_1] 86 (0, 0)) (by (with_reducible repeat (first | refine blk_drewN ?_ _ | refine blk_drew ?_ | refine blk_alloc ?_ _)); exact BK674.out)) : gb688 ≠ gb674)); have n10_ := Aside0.mk ((by rw [hg]; exact Nat.ne_of_lt (blk_lt (g := gb675) (o := .cells #[.int .i64 a1_0, .slice A1_1 l1_1.length c1_1] 76 (0, 0)) (by (with_reducible repeat (first | refine blk_drewN ?_ _ | refine blk_drew ?_ | refine blk_alloc ?_ _)); exact BK675.out)) : gb675 ≠ gb688)); have n11_ := Aside0.mk ((by rw [hg]; exact Nat.ne_of_gt (blk_lt (g := gb675) (o := .cells #[.int .i64 a1_0, .slice A1_1 l1_1.length c1_1] 76 (0, 0)) (by (with_reducible repeat (first | refine blk_drewN ?_ _ | refine blk_drew ?_ | refine blk_alloc ?_ _)); exact BK675.out)) : gb688 ≠ gb675)); clear HO682; clear HO687; clear BK674; clear BK675; clear HB; have HO682 := n0_; have HO687 := n1_; have BK674 := n2_; have BK675 := n3_; have HB := n4_; have BK688 := n5_; have GW688 := n6_; have GE688 := n7_; have NB674_688 := n8_; have NB688_674 := n9_; have NB675_688 := n10_; have NB688_675 := n11_; clear n0_ n1_ n2_ n3_ n4_ n5_ n6_ n7_ n8_ n9_ n10_ n11_; clear hb hbox hg; have hnb54 := NB688_674.out; have hnc54 := NB674_688.out; have hnb55 := NB688_675.out; have hnc55 := NB675_688.out; have hcz56_0 : w53.cell? ⟨gb688, 0, none⟩ = some (.int .i64 0) := (blk_cell BK688.out 0).trans rfl; have hcz56_1 : w53.cell? ⟨gb688, 1, none⟩ = some (.slice none 0 0) := (blk_cell BK688.out 1).trans rfl; have hfz56_0 := blk_frozen BK688.out 0; have hfz56_1 := blk_frozen BK688.out 1; obtain ⟨Ao57, co57, eo57⟩ := Kd.S_slice HO687.out; subst eo57))
        have n0_ : Aside0 (Kd.S (Kd.slice 176 k176) 60 ((w53.setCell ⟨gb688, 0, none⟩ (.int .i64 t684)).setCell ⟨gb688, 1, none⟩ (.slice Ao57 t685.length co57)) w.heap.size (fun k_ => some k_ ≠ (.slice Ao57 t685.length co57 : Value).ownBlock) (.slice Ao49 t680.length co49) t680) := ⟨by (with_reducible repeat (first | apply Kd.S_alloc | apply Kd.S_drewN | apply Kd.S_drew)); exact Kd.S_mono (Kd.S_far (p := ⟨gb688, 1, none⟩) (Kd.S_far (p := ⟨gb688, 0, none⟩) (Kd.S_types HO682.out BK688.out (by decide)) (fun _ hk => hk.2) (.int .i64 t684)) (fun _ hk => hk.2) (.slice Ao57 t685.length co57)) (fun _ hk => hk.1.2)⟩
        have n1_ : Aside0 (Kd.S (Kd.slice 176 k176) 60 ((w53.setCell ⟨gb688, 0, none⟩ (.int .i64 t684)).setCell ⟨gb688, 1, none⟩ (.slice Ao57 t685.length co57)) w.heap.size (fun k_ => some k_ ≠ (.slice Ao49 t680.length co49 : Value).ownBlock) (.slice Ao57 t685.length co57) t685) := ⟨by (with_reducible repeat (first | apply Kd.S_alloc | apply Kd.S_drewN | apply Kd.S_drew)); exact Kd.S_mono (Kd.S_far (p := ⟨gb688, 1, none⟩) (Kd.S_far (p := ⟨gb688, 0, none⟩) (Kd.S_types HO687.out BK688.out (by decide)) (fun _ hk => hk.2) (.int .i64 t684)) (fun _ hk => hk.2) (.slice Ao57 t685.length co57)) (fun _ hk => hk.1.2)⟩
        have n2_ : Aside0 (((w53.setCell ⟨gb688, 0, none⟩ (.int .i64 t684)).setCell ⟨gb688, 1, none⟩ (.slice Ao57 t685.length co57)).heap[gb674]? = some (.cells #[.int .i64 a0_0, .int .i64 a0_1] 86 (0, 0))) := ⟨by (with_reducible repeat (first | refine blk_drewN ?_ _ | refine blk_drew ?_ | refine blk_alloc ?_ _)); refine blk_far ?_ NB674_688.out _; (with_reducible repeat (first | refine blk_drewN ?_ _ | refine blk_drew ?_ | refine blk_alloc ?_ _)); refine blk_far ?_ NB674_688.out _; (with_reducible repeat (first | refine blk_drewN ?_ _ | refine blk_drew ?_ | refine blk_alloc ?_ _)); exact BK674.out⟩
        have n3_ : Aside0 (((w53.setCell ⟨gb688, 0, none⟩ (.int .i64 t684)).setCell ⟨gb688, 1, none⟩ (.slice Ao57 t685.length co57)).heap[gb675]? = some (.cells #[.int .i64 a1_0, .slice A1_1 l1_1.length c1_1] 76 (0, 0))) := ⟨by (with_reducible repeat (first | refine blk_drewN ?_ _ | refine blk_drew ?_ | refine blk_alloc ?_ _)); refine blk_far ?_ NB675_688.out _; (with_reducible repeat (first | refine blk_drewN ?_ _ | refine blk_drew ?_ | refine blk_alloc ?_ _)); refine blk_far ?_ NB675_688.out _; (with_reducible repeat (first | refine blk_drewN ?_ _ | refine blk_drew ?_ | refine blk_alloc ?_ _)); exact BK675.out⟩
        have n4_ : Aside0 (((w53.setCell ⟨gb688, 0, none⟩ (.int .i64 t684)).setCell ⟨gb688, 1, none⟩ (.slice Ao57 t685.length co57)).heap[gb688]? = some (.cells #[.int .i64 t684, .slice Ao57 t685.length co57] 81 (0, 0))) := ⟨by (with_reducible repeat (first | refine blk_drewN ?_ _ | refine blk_drew ?_ | refine blk_alloc ?_ _)); refine blk_put (cs := #[.int .i64 t684, .slice none 0 0]) ?_ 1 _ rfl; (with_reducible repeat (first | refine blk_drewN ?_ _ | refine blk_drew ?_ | refine blk_alloc ?_ _)); refine blk_put (cs := #[.int .i64 0, .slice none 0 0]) ?_ 0 _ rfl; (with_reducible repeat (first | refine blk_drewN ?_ _ | refine blk_drew ?_ | refine blk_alloc ?_ _)); exact BK688.out⟩
        have n5_ : Aside0 (Below w.heap.size w ((w53.setCell ⟨gb688, 0, none⟩ (.int .i64 t684)).setCell ⟨gb688, 1, none⟩ (.slice Ao57 t685.length co57))) := ⟨by repeat (first | (with_reducible first | exact HB.out | apply below_alloc | apply pw_below_drewN | apply below_drew1 | refine below_set ?_ GE674.out | refine below_set ?_ GE675.out | refine below_set ?_ GE688.out) | exact HB.out)⟩
        (try clear HO682)
        (try clear HO687)
        (try clear BK674)
        (try clear BK675)
        (try clear BK688)
        (try clear HB)
        generalize ((w53.setCell ⟨gb688, 0, none⟩ (.int .i64 t684)).setCell ⟨gb688, 1, none⟩ (.slice Ao57 t685.length co57)) = w58 at n0_ n1_ n2_ n3_ n4_ n5_ ⊢
        have HO682 := n0_
        have HO687 := n1_
        have BK674 := n2_
        have BK675 := n3_
        have BK688 := n4_
        have HB := n5_
        clear n0_ n1_ n2_ n3_ n4_ n5_
        have n0_ := Aside0.mk (Kd.S_drew HO682.out)
        have n1_ := Aside0.mk (Kd.S_drew HO687.out)
        have n2_ := Aside0.mk (blk_drew BK674.out)
        have n3_ := Aside0.mk (blk_drew BK675.out)
        have n4_ := Aside0.mk (blk_drew BK688.out)
        have n5_ := Aside0.mk (below_drew1 HB.out)
        clear HO682
        clear HO687
        clear BK674
        clear BK675
        clear BK688
        clear HB
        have HO682 := n0_
        have HO687 := n1_
        have BK674 := n2_
        have BK675 := n3_
        have BK688 := n4_
        have HB := n5_
        clear n0_ n1_ n2_ n3_ n4_ n5_
        refine start_ (n := 5) (S := fun w' => w'.cell? ⟨gb674, 0, none⟩ = some (.int .i64 a0_0) ∧ w'.cell? ⟨gb674, 1, none⟩ = some (.int .i64 a0_1) ∧ w'.cell? ⟨gb688, 0, none⟩ = some (.int .i64 t684) ∧ w'.cell? ⟨gb688, 1, none⟩ = some (.slice Ao57 t685.length co57)) (ds := []) #[false, false, false, false, false] (by kernel_rfl) rfl rfl ⟨(blk_cell BK674.out 0).trans rfl, (blk_cell BK674.out 1).trans rfl, (blk_cell BK688.out 0).trans rfl, (blk_cell BK688.out 1).trans rfl⟩ (fun hHeld => ?_)
        generalize w58.drew = w59 at HO682 HO687 BK674 BK675 BK688 HB hHeld ⊢
        refine take_ (i := 0) (N := some 21) (v := ?_) (a' := ?_) #[true, false, false, false, false] rfl rfl (by kernel_rfl) (fun _ _ _ h => h) (Or.inl ⟨by rfl, ?_⟩) hHeld ?_ ?_
        rotate_left
        · rintro w' ⟨s0, s1, s2, s3⟩
          go_simp
          with_reducible rfl
        rotate_left
        · simp only [Act.put, List.setIfInBounds_toArray, List.set_cons_zero, List.set_cons_succ, i64_w, i32_w]
          rfl
        refine take_ (i := 2) (N := some 23) (v := ?_) (a' := ?_) #[true, false, true, false, false] rfl rfl (by kernel_rfl) (fun _ _ _ h => h) (Or.inl ⟨by rfl, ?_⟩) hHeld ?_ ?_
        rotate_left
        · rintro w' ⟨s0, s1, s2, s3⟩
          go_simp
          with_reducible rfl
        rotate_left
        · simp only [Act.put, List.setIfInBounds_toArray, List.set_cons_zero, List.set_cons_succ, i64_w, i32_w]
          rfl
        refine one_ (i := 1) (N := some 22) #[true, true, true, false, false] rfl rfl (by kernel_rfl) (by decide) (fun K hK => ?_)
        refine goes_ Try.func74 (by kernel_rfl) rfl #[.agg #[.int .i64 a0_0, .int .i64 a0_1]] (by rfl) rfl rfl (by (try simp only [List.map_toArray, List.map_cons, List.map_nil]); first | done | rfl | (simp only [List.length_drop, List.length_take]; rfl)) ?_
        with_reducible refine (laws_toSpot.calls a0_0 a0_1 t689 t690 _ A14.out).mono ?_
        rintro e w60 ⟨rfl, hb⟩
        refine ⟨_, rfl, ?_⟩
        have n0_ := Aside0.mk (Kd.S_below (by (with_reducible repeat (first | apply Kd.S_alloc | apply Kd.S_drewN | apply Kd.S_drew)); exact HO682.out) hb)
        have n1_ := Aside0.mk (Kd.S_below (by (with_reducible repeat (first | apply Kd.S_alloc | apply Kd.S_drewN | apply Kd.S_drew)); exact HO687.out) hb)
        have n2_ := Aside0.mk (blk_below (g := gb674) (o := .cells #[.int .i64 a0_0, .int .i64 a0_1] 86 (0, 0)) (by (with_reducible repeat (first | refine blk_drewN ?_ _ | refine blk_drew ?_ | refine blk_alloc ?_ _)); exact BK674.out) hb)
        have n3_ := Aside0.mk (blk_below (g := gb675) (o := .cells #[.int .i64 a1_0, .slice A1_1 l1_1.length c1_1] 76 (0, 0)) (by (with_reducible repeat (first | refine blk_drewN ?_ _ | refine blk_drew ?_ | refine blk_alloc ?_ _)); exact BK675.out) hb)
        have n4_ := Aside0.mk (blk_below (g := gb688) (o := .cells #[.int .i64 t684, .slice Ao57 t685.length co57] 81 (0, 0)) (by (with_reducible repeat (first | refine blk_drewN ?_ _ | refine blk_drew ?_ | refine blk_alloc ?_ _)); exact BK688.out) hb)
        have n5_ := Aside0.mk (below_step (by repeat (first | (with_reducible first | exact HB.out | apply below_alloc | apply pw_below_drewN | apply below_drew1 | refine below_set ?_ GE674.out | refine below_set ?_ GE675.out | refine below_set ?_ GE688.out) | exact HB.out)) hb)
        clear HO682
        clear HO687
        clear BK674
        clear BK675
        clear BK688
        clear HB
        have HO682 := n0_
        have HO687 := n1_
        have BK674 := n2_
        have BK675 := n3_
        have BK688 := n4_
        have HB := n5_
        clear n0_ n1_ n2_ n3_ n4_ n5_
        (try clear hb)
        (try clear hb2)
        (try clear hk)
        (try clear hi)
        refine hK.out _ _ ⟨(blk_cell BK674.out 0).trans rfl, (blk_cell BK674.out 1).trans rfl, (blk_cell BK688.out 0).trans rfl, (blk_cell BK688.out 1).trans rfl⟩ (fun hHeld => ?_)
        clear hK K
        refine norm_ (a' := ?_) ?_ ?_
        rotate_left
        · show Act.put _ (some 22) _ = _
          simp only [Act.put, List.setIfInBounds_toArray, List.set_cons_zero, List.set_cons_succ, i64_w, i32_w]
          rfl
        refine one_ (i := 3) (N := some 24) #[true, true, true, true, false] rfl rfl (by kernel_rfl) (by decide) (fun K hK => ?_)
        refine goes_ Try.func75 (by kernel_rfl) rfl #[.agg #[.int .i64 t689, .int .i64 t690], .agg #[.int .i64 t684, .slice Ao57 t685.length co57]] (by rfl) rfl rfl (by (try simp only [List.map_toArray, List.map_cons, List.map_nil]); first | done | rfl | (simp only [List.length_drop, List.length_take]; rfl)) ?_
        with_reducible refine (impl_SpotOk.calls t689 t690 t684 _ _ t685 t691 _ ?side1 ?side2 A15.out).mono ?_
        (case side1 => repeat (first | exact (Kd.S_reads' HO687.out).2.2 | (with_reducible refine Kd.C_alloc ?_ _) | (with_reducible refine Kd.C_drewN ?_ _) | (with_reducible refine Kd.C_drew ?_)))
        (case side2 => exact (Kd.S_reads' HO687.out).2.1)
        rintro e w61 ⟨rfl, hb⟩
        refine ⟨_, rfl, ?_⟩
        have n0_ := Aside0.mk (Kd.S_below (by (with_reducible repeat (first | apply Kd.S_alloc | apply Kd.S_drewN | apply Kd.S_drew)); exact HO682.out) hb)
        have n1_ := Aside0.mk (Kd.S_below (by (with_reducible repeat (first | apply Kd.S_alloc | apply Kd.S_drewN | apply Kd.S_drew)); exact HO687.out) hb)
        have n2_ := Aside0.mk (blk_below (g := gb674) (o := .cells #[.int .i64 a0_0, .int .i64 a0_1] 86 (0, 0)) (by (with_reducible repeat (first | refine blk_drewN ?_ _ | refine blk_drew ?_ | refine blk_alloc ?_ _)); exact BK674.out) hb)
        have n3_ := Aside0.mk (blk_below (g := gb675) (o := .cells #[.int .i64 a1_0, .slice A1_1 l1_1.length c1_1] 76 (0, 0)) (by (with_reducible repeat (first | refine blk_drewN ?_ _ | refine blk_drew ?_ | refine blk_alloc ?_ _)); exact BK675.out) hb)
        have n4_ := Aside0.mk (blk_below (g := gb688) (o := .cells #[.int .i64 t684, .slice Ao57 t685.length co57] 81 (0, 0)) (by (with_reducible repeat (first | refine blk_drewN ?_ _ | refine blk_drew ?_ | refine blk_alloc ?_ _)); exact BK688.out) hb)
        have n5_ := Aside0.mk (below_step (by repeat (first | (with_reducible first | exact HB.out | apply below_alloc | apply pw_below_drewN | apply below_drew1 | refine below_set ?_ GE674.out | refine below_set ?_ GE675.out | refine below_set ?_ GE688.out) | exact HB.out)) hb)
        clear HO682
        clear HO687
        clear BK674
        clear BK675
        clear BK688
        clear HB
        have HO682 := n0_
        have HO687 := n1_
        have BK674 := n2_
        have BK675 := n3_
        have BK688 := n4_
        have HB := n5_
        clear n0_ n1_ n2_ n3_ n4_ n5_
        (try clear hb)
        (try clear hb2)
        (try clear hk)
        (try clear hi)
        refine hK.out _ _ ⟨(blk_cell BK674.out 0).trans rfl, (blk_cell BK674.out 1).trans rfl, (blk_cell BK688.out 0).trans rfl, (blk_cell BK688.out 1).trans rfl⟩ (fun hHeld => ?_)
        clear hK K
        refine norm_ (a' := ?_) ?_ ?_
        rotate_left
        · show Act.put _ (some 24) _ = _
          simp only [Act.put, List.setIfInBounds_toArray, List.set_cons_zero, List.set_cons_succ, i64_w, i32_w]
          rfl
        refine pure_ (i := 4) (N := some 8) (v := ?_) (a' := ?_) #[true, true, true, true, true] rfl rfl (by kernel_rfl) (fun _ _ _ h => h) (Or.inl ⟨by rfl, ?_⟩) ?_ ?_
        rotate_left
        · intro w'
          go_simp
          with_reducible rfl
        rotate_left
        · simp only [Act.put, List.setIfInBounds_toArray, List.set_cons_zero, List.set_cons_succ, i64_w, i32_w]
          rfl
        refine done_ (by kernel_rfl) ?_
        try go_wp2
        have n0_ := Aside0.mk (Kd.S_drew HO682.out)
        have n1_ := Aside0.mk (Kd.S_drew HO687.out)
        have n2_ := Aside0.mk (blk_drew BK674.out)
        have n3_ := Aside0.mk (blk_drew BK675.out)
        have n4_ := Aside0.mk (blk_drew BK688.out)
        have n5_ := Aside0.mk (below_drew1 HB.out)
        clear HO682
        clear HO687
        clear BK674
        clear BK675
        clear BK688
        clear HB
        have HO682 := n0_
        have HO687 := n1_
        have BK674 := n2_
        have BK675 := n3_
        have BK688 := n4_
        have HB := n5_
        clear n0_ n1_ n2_ n3_ n4_ n5_
        refine start_ (n := 5) (S := fun w' => w'.cell? ⟨gb688, 0, none⟩ = some (.int .i64 t684) ∧ w'.cell? ⟨gb688, 1, none⟩ = some (.slice Ao57 t685.length co57) ∧ w'.cell? ⟨gb675, 0, none⟩ = some (.int .i64 a1_0) ∧ w'.cell? ⟨gb675, 1, none⟩ = some (.slice A1_1 l1_1.length c1_1)) (ds := []) #[false, false, false, false, false] (by kernel_rfl) rfl rfl ⟨(blk_cell BK688.out 0).trans rfl, (blk_cell BK688.out 1).trans rfl, (blk_cell BK675.out 0).trans rfl, (blk_cell BK675.out 1).trans rfl⟩ (fun hHeld => ?_)
        generalize w61.drew = w62 at HO682 HO687 BK674 BK675 BK688 HB hHeld ⊢
        refine take_ (i := 0) (N := some 28) (v := ?_) (a' := ?_) #[true, false, false, false, false] rfl rfl (by kernel_rfl) (fun _ _ _ h => h) (Or.inl ⟨by rfl, ?_⟩) hHeld ?_ ?_
        rotate_left
        · rintro w' ⟨s0, s1, s2, s3⟩
          go_simp
          with_reducible rfl
        rotate_left
        · simp only [Act.put, List.setIfInBounds_toArray, List.set_cons_zero, List.set_cons_succ, i64_w, i32_w]
          rfl
        refine take_ (i := 1) (N := some 29) (v := ?_) (a' := ?_) #[true, true, false, false, false] rfl rfl (by kernel_rfl) (fun _ _ _ h => h) (Or.inl ⟨by rfl, ?_⟩) hHeld ?_ ?_
        rotate_left
        · rintro w' ⟨s0, s1, s2, s3⟩
          go_simp
          with_reducible rfl
        rotate_left
        · simp only [Act.put, List.setIfInBounds_toArray, List.set_cons_zero, List.set_cons_succ, i64_w, i32_w]
          rfl
        refine one_ (i := 2) (N := some 30) #[true, true, true, false, false] rfl rfl (by kernel_rfl) (by decide) (fun K hK => ?_)
        refine goes_ Try.func70 (by kernel_rfl) rfl #[.agg #[.int .i64 a1_0, .slice A1_1 l1_1.length c1_1]] (by rfl) rfl rfl (by (try simp only [List.map_toArray, List.map_cons, List.map_nil]); first | done | rfl | (simp only [List.length_drop, List.length_take]; rfl)) ?_
        with_reducible refine (laws_toProg.calls k a1_0 _ _ l1_1 t692 t693 _ ?side1 ?side2 A38.out).mono ?_
        (case side1 => repeat (first | exact (Kd.C_below HR1_1.out HB.out) | (with_reducible refine Kd.C_alloc ?_ _) | (with_reducible refine Kd.C_drewN ?_ _) | (with_reducible refine Kd.C_drew ?_)))
        (case side2 => exact HC1_1.out)
        rintro e w63 ⟨v694, rfl, ho0, hb⟩
        refine ⟨_, rfl, ?_⟩
        have n0_ := Aside0.mk (Kd.S_elder' (by (with_reducible repeat (first | apply Kd.S_alloc | apply Kd.S_drewN | apply Kd.S_drew)); exact HO682.out) (Kd.S_base ho0) hb)
        have n1_ := Aside0.mk (Kd.S_elder' (by (with_reducible repeat (first | apply Kd.S_alloc | apply Kd.S_drewN | apply Kd.S_drew)); exact HO687.out) (Kd.S_base ho0) hb)
        have n2_ := Aside0.mk (Kd.S_lower (Kd.S_new' (Kd.S_new' ho0 (Kd.S_lt (by (with_reducible repeat (first | apply Kd.S_alloc | apply Kd.S_drewN | apply Kd.S_drew)); exact HO682.out))) (Kd.S_lt (by (with_reducible repeat (first | apply Kd.S_alloc | apply Kd.S_drewN | apply Kd.S_drew)); exact HO687.out))) (below_size (by repeat (first | (with_reducible first | exact HB.out | apply below_alloc | apply pw_below_drewN | apply below_drew1 | refine below_set ?_ GE674.out | refine below_set ?_ GE675.out | refine below_set ?_ GE688.out) | exact HB.out))))
        have n3_ := Aside0.mk (blk_below (g := gb674) (o := .cells #[.int .i64 a0_0, .int .i64 a0_1] 86 (0, 0)) (by (with_reducible repeat (first | refine blk_drewN ?_ _ | refine blk_drew ?_ | refine blk_alloc ?_ _)); exact BK674.out) hb)
        have n4_ := Aside0.mk (blk_below (g := gb675) (o := .cells #[.int .i64 a1_0, .slice A1_1 l1_1.length c1_1] 76 (0, 0)) (by (with_reducible repeat (first | refine blk_drewN ?_ _ | refine blk_drew ?_ | refine blk_alloc ?_ _)); exact BK675.out) hb)
        have n5_ := Aside0.mk (blk_below (g := gb688) (o := .cells #[.int .i64 t684, .slice Ao57 t685.length co57] 81 (0, 0)) (by (with_reducible repeat (first | refine blk_drewN ?_ _ | refine blk_drew ?_ | refine blk_alloc ?_ _)); exact BK688.out) hb)
        have n6_ := Aside0.mk (below_step (by repeat (first | (with_reducible first | exact HB.out | apply below_alloc | apply pw_below_drewN | apply below_drew1 | refine below_set ?_ GE674.out | refine below_set ?_ GE675.out | refine below_set ?_ GE688.out) | exact HB.out)) hb)
        clear HO682
        clear HO687
        clear BK674
        clear BK675
        clear BK688
        clear HB
        have HO682 := n0_
        have HO687 := n1_
        have HO695 := n2_
        have BK674 := n3_
        have BK675 := n4_
        have BK688 := n5_
        have HB := n6_
        clear n0_ n1_ n2_ n3_ n4_ n5_ n6_
        (try clear hb)
        (try clear hb2)
        (try clear hk)
        (try clear hi)
        (try clear ho0)
        obtain ⟨Ao64, co64, eo64⟩ := Kd.S_slice HO695.out
        (first | subst eo64 | (injection eo64 with f1_ f2_ f3_; have f4_ := f1_.symm; have f5_ := f3_.symm; clear f1_ f2_ f3_; subst f4_; subst f5_))
        refine hK.out _ _ ⟨(blk_cell BK688.out 0).trans rfl, (blk_cell BK688.out 1).trans rfl, (blk_cell BK675.out 0).trans rfl, (blk_cell BK675.out 1).trans rfl⟩ (fun hHeld => ?_)
        clear hK K
        refine norm_ (a' := ?_) ?_ ?_
        rotate_left
        · show Act.put _ (some 30) _ = _
          simp only [Act.put, List.setIfInBounds_toArray, List.set_cons_zero, List.set_cons_succ, i64_w, i32_w]
          rfl
        refine one_ (i := 3) (N := some 31) #[true, true, true, true, false] rfl rfl (by kernel_rfl) (by decide) (fun K hK => ?_)
        refine goes_ Try.func72 (by kernel_rfl) rfl #[.agg #[.int .i64 t684, .slice Ao57 t685.length co57], .agg #[.int .i64 t692, .slice Ao64 t693.length co64]] (by rfl) rfl rfl (by (try simp only [List.map_toArray, List.map_cons, List.map_nil]); first | done | rfl | (simp only [List.length_drop, List.length_take]; rfl)) ?_
        with_reducible refine (laws_eqProg.calls k t684 _ _ t685 t692 _ _ t693 true _ ?side1 ?side2 ?side3 ?side4 A39.out).mono ?_
        (case side1 => repeat (first | exact (Kd.S_reads' HO687.out).2.2 | (with_reducible refine Kd.C_alloc ?_ _) | (with_reducible refine Kd.C_drewN ?_ _) | (with_reducible refine Kd.C_drew ?_)))
        (case side2 => exact (Kd.S_reads' HO687.out).2.1)
        (case side3 => repeat (first | exact (Kd.S_reads' HO695.out).2.2 | (with_reducible refine Kd.C_alloc ?_ _) | (with_reducible refine Kd.C_drewN ?_ _) | (with_reducible refine Kd.C_drew ?_)))
        (case side4 => exact (Kd.S_reads' HO695.out).2.1)
        rintro e w65 ⟨rfl, hb⟩
        refine ⟨_, rfl, ?_⟩
        have n0_ := Aside0.mk (Kd.S_below (by (with_reducible repeat (first | apply Kd.S_alloc | apply Kd.S_drewN | apply Kd.S_drew)); exact HO682.out) hb)
        have n1_ := Aside0.mk (Kd.S_below (by (with_reducible repeat (first | apply Kd.S_alloc | apply Kd.S_drewN | apply Kd.S_drew)); exact HO687.out) hb)
        have n2_ := Aside0.mk (Kd.S_below (by (with_reducible repeat (first | apply Kd.S_alloc | apply Kd.S_drewN | apply Kd.S_drew)); exact HO695.out) hb)
        have n3_ := Aside0.mk (blk_below (g := gb674) (o := .cells #[.int .i64 a0_0, .int .i64 a0_1] 86 (0, 0)) (by (with_reducible repeat (first | refine blk_drewN ?_ _ | refine blk_drew ?_ | refine blk_alloc ?_ _)); exact BK674.out) hb)
        have n4_ := Aside0.mk (blk_below (g := gb675) (o := .cells #[.int .i64 a1_0, .slice A1_1 l1_1.length c1_1] 76 (0, 0)) (by (with_reducible repeat (first | refine blk_drewN ?_ _ | refine blk_drew ?_ | refine blk_alloc ?_ _)); exact BK675.out) hb)
        have n5_ := Aside0.mk (blk_below (g := gb688) (o := .cells #[.int .i64 t684, .slice Ao57 t685.length co57] 81 (0, 0)) (by (with_reducible repeat (first | refine blk_drewN ?_ _ | refine blk_drew ?_ | refine blk_alloc ?_ _)); exact BK688.out) hb)
        have n6_ := Aside0.mk (below_step (by repeat (first | (with_reducible first | exact HB.out | apply below_alloc | apply pw_below_drewN | apply below_drew1 | refine below_set ?_ GE674.out | refine below_set ?_ GE675.out | refine below_set ?_ GE688.out) | exact HB.out)) hb)
        clear HO682
        clear HO687
        clear HO695
        clear BK674
        clear BK675
        clear BK688
        clear HB
        have HO682 := n0_
        have HO687 := n1_
        have HO695 := n2_
        have BK674 := n3_
        have BK675 := n4_
        have BK688 := n5_
        have HB := n6_
        clear n0_ n1_ n2_ n3_ n4_ n5_ n6_
        (try clear hb)
        (try clear hb2)
        (try clear hk)
        (try clear hi)
        refine hK.out _ _ ⟨(blk_cell BK688.out 0).trans rfl, (blk_cell BK688.out 1).trans rfl, (blk_cell BK675.out 0).trans rfl, (blk_cell BK675.out 1).trans rfl⟩ (fun hHeld => ?_)
        clear hK K
        refine norm_ (a' := ?_) ?_ ?_
        rotate_left
        · show Act.put _ (some 31) _ = _
          simp only [Act.put, List.setIfInBounds_toArray, List.set_cons_zero, List.set_cons_succ, i64_w, i32_w]
          rfl
        refine pure_ (i := 4) (N := some 32) (v := ?_) (a' := ?_) #[true, true, true, true, true] rfl rfl (by kernel_rfl) (fun _ _ _ h => h) (Or.inl ⟨by rfl, ?_⟩) ?_ ?_
        rotate_left
        · intro w'
          go_simp
          with_reducible rfl
        rotate_left
        · simp only [Act.put, List.setIfInBounds_toArray, List.set_cons_zero, List.set_cons_succ, i64_w, i32_w]
          rfl
        refine done_ (by kernel_rfl) ?_
        try go_wp2
        go_ret
        exact ⟨by first | rfl | (simp [errW_none, errW_some] <;> rfl) | (simp [*, errW_none, errW_some] <;> rfl), by repeat (first | (with_reducible first | exact HB.out | apply below_alloc | apply pw_below_drewN | apply below_drew1 | refine below_set ?_ GE674.out | refine below_set ?_ GE675.out | refine below_set ?_ GE688.out) | exact HB.out)⟩
      · replace c40 := Bool.eq_false_iff.mpr c40
        subst c40
        have H1 : (some false) = some r := by rw [if_neg (show ¬ (false = true) by decide)] at H; exact H
        clear H
        have H := H1
        clear H1
        obtain rfl := Option.some.inj H
        go_enter Try.func11, Try.ntmps11
        try go_wp2_with (first | ((with_reducible refine gate_dst (N := 2) rfl ?_); refine box_event ?hg (N := 2) ?hd (cs := #[.int .i64 a0_0, .int .i64 a0_1]) (t := 86) ?hr ?_; (case hd => rfl); (case hg => rfl); (case hr => first | (go_simp; done) | (go_simp; rfl)); intro gb674 hg w66 hbox hb; have n0_ := Aside0.mk (below_step (by repeat (first | (with_reducible first | exact HB.out | apply below_alloc | apply pw_below_drewN | apply below_drew1) | exact HB.out)) hb); have n1_ := Aside0.mk (hbox); have n2_ := Aside0.mk ((by rw [hg]; exact (below_size (by repeat (first | (with_reducible first | exact HB.out | apply below_alloc | apply pw_below_drewN | apply below_drew1) | exact HB.out))) : w.heap.size ≤ gb674)); have n3_ := Aside0.mk ((by rw [hg]; exact (below_size (by repeat (first | (with_reducible first | exact HB.out | apply below_alloc | apply pw_below_drewN | apply below_drew1) | exact HB.out))) : w.heap.size ≤ gb674)); clear HB; have HB := n0_; have BK674 := n1_; have GW674 := n2_; have GE674 := n3_; clear n0_ n1_ n2_ n3_; clear hb hbox hg) | ((with_reducible refine gate_dst (N := 3) rfl ?_); refine box_event ?hg (N := 3) ?hd (cs := #[.int .i64 a1_0, .slice A1_1 l1_1.length c1_1]) (t := 76) ?hr ?_; (case hd => rfl); (case hg => rfl); (case hr => first | (go_simp; done) | (go_simp; rfl)); intro gb675 hg w67 hbox hb; have n0_ := Aside0.mk (blk_below (g := gb674) (o := .cells #[.int .i64 a0_0, .int .i64 a0_1] 86 (0, 0)) (by (with_reducible repeat (first | refine blk_drewN ?_ _ | refine blk_drew ?_ | refine blk_alloc ?_ _)); exact BK674.out) hb); have n1_ := Aside0.mk (below_step (by repeat (first | (with_reducible first | exact HB.out | apply below_alloc | apply pw_below_drewN | apply below_drew1 | refine below_set ?_ GE674.out) | exact HB.out)) hb); have n2_ := Aside0.mk (hbox); have n3_ := Aside0.mk ((by rw [hg]; exact (below_size (by repeat (first | (with_reducible first | exact HB.out | apply below_alloc | apply pw_below_drewN | apply below_drew1 | refine below_set ?_ GE674.out) | exact HB.out))) : w.heap.size ≤ gb675)); have n4_ := Aside0.mk ((by rw [hg]; exact (below_size (by repeat (first | (with_reducible first | exact HB.out | apply below_alloc | apply pw_below_drewN | apply below_drew1 | refine below_set ?_ GE674.out) | exact HB.out))) : w.heap.size ≤ gb675)); have n5_ := Aside0.mk ((by rw [hg]; exact Nat.ne_of_lt (blk_lt (g := gb674) (o := .cells #[.int .i64 a0_0, .int .i64 a0_1] 86 (0, 0)) (by (with_reducible repeat (first | refine blk_drewN ?_ _ | refine blk_drew ?_ | refine blk_alloc ?_ _)); exact BK674.out)) : gb674 ≠ gb675)); have n6_ := Aside0.mk ((by rw [hg]; exact Nat.ne_of_gt (blk_lt (g := gb674) (o := .cells #[.int .i64 a0_0, .int .i64 a0_1] 86 (0, 0)) (by (with_reducible repeat (first | refine blk_drewN ?_ _ | refine blk_drew ?_ | refine blk_alloc ?_ _)); exact BK674.out)) : gb675 ≠ gb674)); clear BK674; clear HB; have BK674 := n0_; have HB := n1_; have BK675 := n2_; have GW675 := n3_; have GE675 := n4_; have NB674_675 := n5_; have NB675_674 := n6_; clear n0_ n1_ n2_ n3_ n4_ n5_ n6_; clear hb hbox hg; have hnb68 := NB675_674.out; have hnc68 := NB674_675.out; have hcz69_0 : w67.cell? ⟨gb675, 0, none⟩ = some (.int .i64 a1_0) := (blk_cell BK675.out 0).trans rfl; have hcz69_1 : w67.cell? ⟨gb675, 1, none⟩ = some (.slice A1_1 l1_1.length c1_1) := (blk_cell BK675.out 1).trans rfl; have hfz69_0 := blk_frozen BK675.out 0; have hfz69_1 := blk_frozen BK675.out 1) | ((with_reducible refine gate_callee (f := 68) rfl ?_); refine goesL_ (some 11) rfl rfl Try.func68 (by kernel_rfl) rfl #[.agg #[.int .i64 a1_0, .slice A1_1 l1_1.length c1_1], .int .i64 1048576] rfl (by (try simp only [List.map_toArray, List.map_cons, List.map_nil]); first | done | rfl | (simp only [List.length_drop, List.length_take]; rfl)) ?_; (with_reducible refine (laws_szProg.calls k a1_0 _ _ l1_1 1048576 t676 _ ?side1 ?side2 A3.out).mono ?_); (case side1 => repeat (first | exact (Kd.C_below HR1_1.out HB.out) | (with_reducible refine Kd.C_alloc ?_ _) | (with_reducible refine Kd.C_drewN ?_ _) | (with_reducible refine Kd.C_drew ?_))); (case side2 => exact HC1_1.out); rintro e w70 ⟨rfl, hb⟩; refine ⟨_, rfl, ?_⟩; have n0_ := Aside0.mk (blk_below (g := gb674) (o := .cells #[.int .i64 a0_0, .int .i64 a0_1] 86 (0, 0)) (by (with_reducible repeat (first | refine blk_drewN ?_ _ | refine blk_drew ?_ | refine blk_alloc ?_ _)); exact BK674.out) hb); have n1_ := Aside0.mk (blk_below (g := gb675) (o := .cells #[.int .i64 a1_0, .slice A1_1 l1_1.length c1_1] 76 (0, 0)) (by (with_reducible repeat (first | refine blk_drewN ?_ _ | refine blk_drew ?_ | refine blk_alloc ?_ _)); exact BK675.out) hb); have n2_ := Aside0.mk (below_step (by repeat (first | (with_reducible first | exact HB.out | apply below_alloc | apply pw_below_drewN | apply below_drew1 | refine below_set ?_ GE674.out | refine below_set ?_ GE675.out) | exact HB.out)) hb); clear BK674; clear BK675; clear HB; have BK674 := n0_; have BK675 := n1_; have HB := n2_; clear n0_ n1_ n2_; (try clear hb); (try clear hb2); (try clear hk); (try clear hi)))
        have n0_ := Aside0.mk (blk_drew BK674.out)
        have n1_ := Aside0.mk (blk_drew BK675.out)
        have n2_ := Aside0.mk (below_drew1 HB.out)
        clear BK674
        clear BK675
        clear HB
        have BK674 := n0_
        have BK675 := n1_
        have HB := n2_
        clear n0_ n1_ n2_
        refine start_ (n := 6) (S := fun w' => w'.cell? ⟨gb674, 0, none⟩ = some (.int .i64 a0_0) ∧ w'.cell? ⟨gb674, 1, none⟩ = some (.int .i64 a0_1) ∧ w'.cell? ⟨gb675, 0, none⟩ = some (.int .i64 a1_0) ∧ w'.cell? ⟨gb675, 1, none⟩ = some (.slice A1_1 l1_1.length c1_1)) (ds := []) #[false, false, false, false, false, false] (by kernel_rfl) rfl rfl ⟨(blk_cell BK674.out 0).trans rfl, (blk_cell BK674.out 1).trans rfl, (blk_cell BK675.out 0).trans rfl, (blk_cell BK675.out 1).trans rfl⟩ (fun hHeld => ?_)
        generalize w70.drew = w71 at BK674 BK675 HB hHeld ⊢
        refine take_ (i := 0) (N := some 14) (v := ?_) (a' := ?_) #[true, false, false, false, false, false] rfl rfl (by kernel_rfl) (fun _ _ _ h => h) (Or.inl ⟨by rfl, ?_⟩) hHeld ?_ ?_
        rotate_left
        · rintro w' ⟨s0, s1, s2, s3⟩
          go_simp
          with_reducible rfl
        rotate_left
        · simp only [Act.put, List.setIfInBounds_toArray, List.set_cons_zero, List.set_cons_succ, i64_w, i32_w]
          rfl
        refine take_ (i := 2) (N := some 16) (v := ?_) (a' := ?_) #[true, false, true, false, false, false] rfl rfl (by kernel_rfl) (fun _ _ _ h => h) (Or.inl ⟨by rfl, ?_⟩) hHeld ?_ ?_
        rotate_left
        · rintro w' ⟨s0, s1, s2, s3⟩
          go_simp
          with_reducible rfl
        rotate_left
        · simp only [Act.put, List.setIfInBounds_toArray, List.set_cons_zero, List.set_cons_succ, i64_w, i32_w]
          rfl
        refine one_ (i := 1) (N := some 15) #[true, true, true, false, false, false] rfl rfl (by kernel_rfl) (by decide) (fun K hK => ?_)
        refine goes_ Try.func74 (by kernel_rfl) rfl #[.agg #[.int .i64 a0_0, .int .i64 a0_1]] (by rfl) rfl rfl (by (try simp only [List.map_toArray, List.map_cons, List.map_nil]); first | done | rfl | (simp only [List.length_drop, List.length_take]; rfl)) ?_
        with_reducible refine (laws_toSpot.calls a0_0 a0_1 t677 t678 _ A10.out).mono ?_
        rintro e w72 ⟨rfl, hb⟩
        refine ⟨_, rfl, ?_⟩
        have n0_ := Aside0.mk (blk_below (g := gb674) (o := .cells #[.int .i64 a0_0, .int .i64 a0_1] 86 (0, 0)) (by (with_reducible repeat (first | refine blk_drewN ?_ _ | refine blk_drew ?_ | refine blk_alloc ?_ _)); exact BK674.out) hb)
        have n1_ := Aside0.mk (blk_below (g := gb675) (o := .cells #[.int .i64 a1_0, .slice A1_1 l1_1.length c1_1] 76 (0, 0)) (by (with_reducible repeat (first | refine blk_drewN ?_ _ | refine blk_drew ?_ | refine blk_alloc ?_ _)); exact BK675.out) hb)
        have n2_ := Aside0.mk (below_step (by repeat (first | (with_reducible first | exact HB.out | apply below_alloc | apply pw_below_drewN | apply below_drew1 | refine below_set ?_ GE674.out | refine below_set ?_ GE675.out) | exact HB.out)) hb)
        clear BK674
        clear BK675
        clear HB
        have BK674 := n0_
        have BK675 := n1_
        have HB := n2_
        clear n0_ n1_ n2_
        (try clear hb)
        (try clear hb2)
        (try clear hk)
        (try clear hi)
        refine hK.out _ _ ⟨(blk_cell BK674.out 0).trans rfl, (blk_cell BK674.out 1).trans rfl, (blk_cell BK675.out 0).trans rfl, (blk_cell BK675.out 1).trans rfl⟩ (fun hHeld => ?_)
        clear hK K
        refine norm_ (a' := ?_) ?_ ?_
        rotate_left
        · show Act.put _ (some 15) _ = _
          simp only [Act.put, List.setIfInBounds_toArray, List.set_cons_zero, List.set_cons_succ, i64_w, i32_w]
          rfl
        refine one_ (i := 3) (N := some 17) #[true, true, true, true, false, false] rfl rfl (by kernel_rfl) (by decide) (fun K hK => ?_)
        refine goes_ Try.func70 (by kernel_rfl) rfl #[.agg #[.int .i64 a1_0, .slice A1_1 l1_1.length c1_1]] (by rfl) rfl rfl (by (try simp only [List.map_toArray, List.map_cons, List.map_nil]); first | done | rfl | (simp only [List.length_drop, List.length_take]; rfl)) ?_
        with_reducible refine (laws_toProg.calls k a1_0 _ _ l1_1 t679 t680 _ ?side1 ?side2 A11.out).mono ?_
        (case side1 => repeat (first | exact (Kd.C_below HR1_1.out HB.out) | (with_reducible refine Kd.C_alloc ?_ _) | (with_reducible refine Kd.C_drewN ?_ _) | (with_reducible refine Kd.C_drew ?_)))
        (case side2 => exact HC1_1.out)
        rintro e w73 ⟨v681, rfl, ho0, hb⟩
        refine ⟨_, rfl, ?_⟩
        have n0_ := Aside0.mk (Kd.S_lower ho0 (below_size (by repeat (first | (with_reducible first | exact HB.out | apply below_alloc | apply pw_below_drewN | apply below_drew1 | refine below_set ?_ GE674.out | refine below_set ?_ GE675.out) | exact HB.out))))
        have n1_ := Aside0.mk (blk_below (g := gb674) (o := .cells #[.int .i64 a0_0, .int .i64 a0_1] 86 (0, 0)) (by (with_reducible repeat (first | refine blk_drewN ?_ _ | refine blk_drew ?_ | refine blk_alloc ?_ _)); exact BK674.out) hb)
        have n2_ := Aside0.mk (blk_below (g := gb675) (o := .cells #[.int .i64 a1_0, .slice A1_1 l1_1.length c1_1] 76 (0, 0)) (by (with_reducible repeat (first | refine blk_drewN ?_ _ | refine blk_drew ?_ | refine blk_alloc ?_ _)); exact BK675.out) hb)
        have n3_ := Aside0.mk (below_step (by repeat (first | (with_reducible first | exact HB.out | apply below_alloc | apply pw_below_drewN | apply below_drew1 | refine below_set ?_ GE674.out | refine below_set ?_ GE675.out) | exact HB.out)) hb)
        clear BK674
        clear BK675
        clear HB
        have HO682 := n0_
        have BK674 := n1_
        have BK675 := n2_
        have HB := n3_
        clear n0_ n1_ n2_ n3_
        (try clear hb)
        (try clear hb2)
        (try clear hk)
        (try clear hi)
        (try clear ho0)
        obtain ⟨Ao74, co74, eo74⟩ := Kd.S_slice HO682.out
        (first | subst eo74 | (injection eo74 with f1_ f2_ f3_; have f4_ := f1_.symm; have f5_ := f3_.symm; clear f1_ f2_ f3_; subst f4_; subst f5_))
        refine hK.out _ _ ⟨(blk_cell BK674.out 0).trans rfl, (blk_cell BK674.out 1).trans rfl, (blk_cell BK675.out 0).trans rfl, (blk_cell BK675.out 1).trans rfl⟩ (fun hHeld => ?_)
        clear hK K
        refine norm_ (a' := ?_) ?_ ?_
        rotate_left
        · show Act.put _ (some 17) _ = _
          simp only [Act.put, List.setIfInBounds_toArray, List.set_cons_zero, List.set_cons_succ, i64_w, i32_w]
          rfl
        refine one_ (i := 4) (N := some 18) #[true, true, true, true, true, false] rfl rfl (by kernel_rfl) (by decide) (fun K hK => ?_)
        refine goes_ Try.func73 (by kernel_rfl) rfl #[.agg #[.int .i64 t677, .int .i64 t678], .agg #[.int .i64 t679, .slice Ao74 t680.length co74]] (by rfl) rfl rfl (by (try simp only [List.map_toArray, List.map_cons, List.map_nil]); first | done | rfl | (simp only [List.length_drop, List.length_take]; rfl)) ?_
        with_reducible refine (spec_SpotOk.calls k t677 t678 t679 _ _ t680 t683 _ ?side1 ?side2 A12.out).mono ?_
        (case side1 => repeat (first | exact (Kd.S_reads' HO682.out).2.2 | (with_reducible refine Kd.C_alloc ?_ _) | (with_reducible refine Kd.C_drewN ?_ _) | (with_reducible refine Kd.C_drew ?_)))
        (case side2 => exact (Kd.S_reads' HO682.out).2.1)
        rintro e w75 ⟨rfl, hb⟩
        refine ⟨_, rfl, ?_⟩
        have n0_ := Aside0.mk (Kd.S_below (by (with_reducible repeat (first | apply Kd.S_alloc | apply Kd.S_drewN | apply Kd.S_drew)); exact HO682.out) hb)
        have n1_ := Aside0.mk (blk_below (g := gb674) (o := .cells #[.int .i64 a0_0, .int .i64 a0_1] 86 (0, 0)) (by (with_reducible repeat (first | refine blk_drewN ?_ _ | refine blk_drew ?_ | refine blk_alloc ?_ _)); exact BK674.out) hb)
        have n2_ := Aside0.mk (blk_below (g := gb675) (o := .cells #[.int .i64 a1_0, .slice A1_1 l1_1.length c1_1] 76 (0, 0)) (by (with_reducible repeat (first | refine blk_drewN ?_ _ | refine blk_drew ?_ | refine blk_alloc ?_ _)); exact BK675.out) hb)
        have n3_ := Aside0.mk (below_step (by repeat (first | (with_reducible first | exact HB.out | apply below_alloc | apply pw_below_drewN | apply below_drew1 | refine below_set ?_ GE674.out | refine below_set ?_ GE675.out) | exact HB.out)) hb)
        clear HO682
        clear BK674
        clear BK675
        clear HB
        have HO682 := n0_
        have BK674 := n1_
        have BK675 := n2_
        have HB := n3_
        clear n0_ n1_ n2_ n3_
        (try clear hb)
        (try clear hb2)
        (try clear hk)
        (try clear hi)
        refine hK.out _ _ ⟨(blk_cell BK674.out 0).trans rfl, (blk_cell BK674.out 1).trans rfl, (blk_cell BK675.out 0).trans rfl, (blk_cell BK675.out 1).trans rfl⟩ (fun hHeld => ?_)
        clear hK K
        refine norm_ (a' := ?_) ?_ ?_
        rotate_left
        · show Act.put _ (some 18) _ = _
          simp only [Act.put, List.setIfInBounds_toArray, List.set_cons_zero, List.set_cons_succ, i64_w, i32_w]
          rfl
        refine pure_ (i := 5) (N := some 6) (v := ?_) (a' := ?_) #[true, true, true, true, true, true] rfl rfl (by kernel_rfl) (fun _ _ _ h => h) (Or.inl ⟨by rfl, ?_⟩) ?_ ?_
        rotate_left
        · intro w'
          go_simp
          with_reducible rfl
        rotate_left
        · simp only [Act.put, List.setIfInBounds_toArray, List.set_cons_zero, List.set_cons_succ, i64_w, i32_w]
          rfl
        refine done_ (by kernel_rfl) ?_
        have hcz76_0 : w75.cell? ⟨gb675, 0, none⟩ = some (.int .i64 a1_0) := (blk_cell BK675.out 0).trans rfl
        have hcz76_1 : w75.cell? ⟨gb675, 1, none⟩ = some (.slice A1_1 l1_1.length c1_1) := (blk_cell BK675.out 1).trans rfl
        have hfz76_0 := blk_frozen BK675.out 0
        have hfz76_1 := blk_frozen BK675.out 1
        try go_wp2_with (first | ((with_reducible refine gate_callee (f := 70) rfl ?_); refine goesL_ (some 20) rfl rfl Try.func70 (by kernel_rfl) rfl #[.agg #[.int .i64 a1_0, .slice A1_1 l1_1.length c1_1]] rfl (by (try simp only [List.map_toArray, List.map_cons, List.map_nil]); first | done | rfl | (simp only [List.length_drop, List.length_take]; rfl)) ?_; (with_reducible refine (laws_toProg.calls k a1_0 _ _ l1_1 t684 t685 _ ?side1 ?side2 A13.out).mono ?_); (case side1 => repeat (first | exact (Kd.C_below HR1_1.out HB.out) | (with_reducible refine Kd.C_alloc ?_ _) | (with_reducible refine Kd.C_drewN ?_ _) | (with_reducible refine Kd.C_drew ?_))); (case side2 => exact HC1_1.out); rintro e w77 ⟨v686, rfl, ho0, hb⟩; refine ⟨_, rfl, ?_⟩; have n0_ := Aside0.mk (Kd.S_elder' (by (with_reducible repeat (first | apply Kd.S_alloc | apply Kd.S_drewN | apply Kd.S_drew)); exact HO682.out) (Kd.S_base ho0) hb); have n1_ := Aside0.mk (Kd.S_lower (Kd.S_new' ho0 (Kd.S_lt (by (with_reducible repeat (first | apply Kd.S_alloc | apply Kd.S_drewN | apply Kd.S_drew)); exact HO682.out))) (below_size (by repeat (first | (with_reducible first | exact HB.out | apply below_alloc | apply pw_below_drewN | apply below_drew1 | refine below_set ?_ GE674.out | refine below_set ?_ GE675.out) | exact HB.out)))); have n2_ := Aside0.mk (blk_below (g := gb674) (o := .cells #[.int .i64 a0_0, .int .i64 a0_1] 86 (0, 0)) (by (with_reducible repeat (first | refine blk_drewN ?_ _ | refine blk_drew ?_ | refine blk_alloc ?_ _)); exact BK674.out) hb); have n3_ := Aside0.mk (blk_below (g := gb675) (o := .cells #[.int .i64 a1_0, .slice A1_1 l1_1.length c1_1] 76 (0, 0)) (by (with_reducible repeat (first | refine blk_drewN ?_ _ | refine blk_drew ?_ | refine blk_alloc ?_ _)); exact BK675.out) hb); have n4_ := Aside0.mk (below_step (by repeat (first | (with_reducible first | exact HB.out | apply below_alloc | apply pw_below_drewN | apply below_drew1 | refine below_set ?_ GE674.out | refine below_set ?_ GE675.out) | exact HB.out)) hb); clear HO682; clear BK674; clear BK675; clear HB; have HO682 := n0_; have HO687 := n1_; have BK674 := n2_; have BK675 := n3_; have HB := n4_; clear n0_ n1_ n2_ n3_ n4_; (try clear hb); (try clear hb2); (try clear hk); (try clear hi); (try clear ho0)) | ((with_reducible refine gate_dst (N := 7) rfl ?_); refine box_event ?hg (N := 7) ?hd (cs := #[.int .i64 0, .slice none 0 0]) (t := 81) ?hr ?_; (case hd => rfl); (case hg => rfl); (case hr => first | (go_simp; done) | (go_simp; rfl)); intro gb688 hg w78 hbox hb; have n0_ := Aside0.mk (Kd.S_below (by (with_reducible repeat (first | apply Kd.S_alloc | apply Kd.S_drewN | apply Kd.S_drew)); exact HO682.out) hb); have n1_ := Aside0.mk (Kd.S_below (by (with_reducible repeat (first | apply Kd.S_alloc | apply Kd.S_drewN | apply Kd.S_drew)); exact HO687.out) hb); have n2_ := Aside0.mk (blk_below (g := gb674) (o := .cells #[.int .i64 a0_0, .int .i64 a0_1] 86 (0, 0)) (by (with_reducible repeat (first | refine blk_drewN ?_ _ | refine blk_drew ?_ | refine blk_alloc ?_ _)); exact BK674.out) hb); have n3_ := Aside0.mk (blk_below (g := gb675) (o := .cells #[.int .i64 a1_0, .slice A1_1 l1_1.length c1_1] 76 (0, 0)) (by (with_reducible repeat (first | refine blk_drewN ?_ _ | refine blk_drew ?_ | refine blk_alloc ?_ _)); exact BK675.out) hb); have n4_ := Aside0.mk (below_step (by repeat (first | (with_reducible first | exact HB.out | apply below_alloc | apply pw_below_drewN | apply below_drew1 | refine below_set ?_ GE674.out | refine below_set ?_ GE675.out) | exact HB.out)) hb); have n5_ := Aside0.mk (hbox); have n6_ := Aside0.mk ((by rw [hg]; exact (below_size (by repeat (first | (with_reducible first | exact HB.out | apply below_alloc | apply pw_below_drewN | apply below_drew1 | refine below_set ?_ GE674.out | refine below_set ?_ GE675.out) | exact HB.out))) : w.heap.size ≤ gb688)); have n7_ := Aside0.mk ((by rw [hg]; exact (below_size (by repeat (first | (with_reducible first | exact HB.out | apply below_alloc | apply pw_below_drewN | apply below_drew1 | refine below_set ?_ GE674.out | refine below_set ?_ GE675.out) | exact HB.out))) : w.heap.size ≤ gb688)); have n8_ := Aside0.mk ((by rw [hg]; exact Nat.ne_of_lt (blk_lt (g := gb674) (o := .cells #[.int .i64 a0_0, .int .i64 a0_1] 86 (0, 0)) (by (with_reducible repeat (first | refine blk_drewN ?_ _ | refine blk_drew ?_ | refine blk_alloc ?_ _)); exact BK674.out)) : gb674 ≠ gb688)); have n9_ := Aside0.mk ((by rw [hg]; exact Nat.ne_of_gt (blk_lt (g := gb674) (o := .cells #[.int .i64 a0_0, .int .i64 a0_1] 86 (0, 0)) (by (with_reducible repeat (first | refine blk_drewN ?_ _ | refine blk_drew ?_ | refine blk_alloc ?_ _)); exact BK674.out)) : gb688 ≠ gb674)); have n10_ := Aside0.mk ((by rw [hg]; exact Nat.ne_of_lt (blk_lt (g := gb675) (o := .cells #[.int .i64 a1_0, .slice A1_1 l1_1.length c1_1] 76 (0, 0)) (by (with_reducible repeat (first | refine blk_drewN ?_ _ | refine blk_drew ?_ | refine blk_alloc ?_ _)); exact BK675.out)) : gb675 ≠ gb688)); have n11_ := Aside0.mk ((by rw [hg]; exact Nat.ne_of_gt (blk_lt (g := gb675) (o := .cells #[.int .i64 a1_0, .slice A1_1 l1_1.length c1_1] 76 (0, 0)) (by (with_reducible repeat (first | refine blk_drewN ?_ _ | refine blk_drew ?_ | refine blk_alloc ?_ _)); exact BK675.out)) : gb688 ≠ gb675)); clear HO682; clear HO687; clear BK674; clear BK675; clear HB; have HO682 := n0_; have HO687 := n1_; have BK674 := n2_; have BK675 := n3_; have HB := n4_; have BK688 := n5_; have GW688 := n6_; have GE688 := n7_; have NB674_688 := n8_; have NB688_674 := n9_; have NB675_688 := n10_; have NB688_675 := n11_; clear n0_ n1_ n2_ n3_ n4_ n5_ n6_ n7_ n8_ n9_ n10_ n11_; clear hb hbox hg; have hnb79 := NB688_674.out; have hnc79 := NB674_688.out; have hnb80 := NB688_675.out; have hnc80 := NB675_688.out; have hcz81_0 : w78.cell? ⟨gb688, 0, none⟩ = some (.int .i64 0) := (blk_cell BK688.out 0).trans rfl; have hcz81_1 : w78.cell? ⟨gb688, 1, none⟩ = some (.slice none 0 0) := (blk_cell BK688.out 1).trans rfl; have hfz81_0 := blk_frozen BK688.out 0; have hfz81_1 := blk_frozen BK688.out 1; obtain ⟨Ao82, co82, eo82⟩ := Kd.S_slice HO687.out; subst eo82))
        have n0_ : Aside0 (Kd.S (Kd.slice 176 k176) 60 ((w78.setCell ⟨gb688, 0, none⟩ (.int .i64 t684)).setCell ⟨gb688, 1, none⟩ (.slice Ao82 t685.length co82)) w.heap.size (fun k_ => some k_ ≠ (.slice Ao82 t685.length co82 : Value).ownBlock) (.slice Ao74 t680.length co74) t680) := ⟨by (with_reducible repeat (first | apply Kd.S_alloc | apply Kd.S_drewN | apply Kd.S_drew)); exact Kd.S_mono (Kd.S_far (p := ⟨gb688, 1, none⟩) (Kd.S_far (p := ⟨gb688, 0, none⟩) (Kd.S_types HO682.out BK688.out (by decide)) (fun _ hk => hk.2) (.int .i64 t684)) (fun _ hk => hk.2) (.slice Ao82 t685.length co82)) (fun _ hk => hk.1.2)⟩
        have n1_ : Aside0 (Kd.S (Kd.slice 176 k176) 60 ((w78.setCell ⟨gb688, 0, none⟩ (.int .i64 t684)).setCell ⟨gb688, 1, none⟩ (.slice Ao82 t685.length co82)) w.heap.size (fun k_ => some k_ ≠ (.slice Ao74 t680.length co74 : Value).ownBlock) (.slice Ao82 t685.length co82) t685) := ⟨by (with_reducible repeat (first | apply Kd.S_alloc | apply Kd.S_drewN | apply Kd.S_drew)); exact Kd.S_mono (Kd.S_far (p := ⟨gb688, 1, none⟩) (Kd.S_far (p := ⟨gb688, 0, none⟩) (Kd.S_types HO687.out BK688.out (by decide)) (fun _ hk => hk.2) (.int .i64 t684)) (fun _ hk => hk.2) (.slice Ao82 t685.length co82)) (fun _ hk => hk.1.2)⟩
        have n2_ : Aside0 (((w78.setCell ⟨gb688, 0, none⟩ (.int .i64 t684)).setCell ⟨gb688, 1, none⟩ (.slice Ao82 t685.length co82)).heap[gb674]? = some (.cells #[.int .i64 a0_0, .int .i64 a0_1] 86 (0, 0))) := ⟨by (with_reducible repeat (first | refine blk_drewN ?_ _ | refine blk_drew ?_ | refine blk_alloc ?_ _)); refine blk_far ?_ NB674_688.out _; (with_reducible repeat (first | refine blk_drewN ?_ _ | refine blk_drew ?_ | refine blk_alloc ?_ _)); refine blk_far ?_ NB674_688.out _; (with_reducible repeat (first | refine blk_drewN ?_ _ | refine blk_drew ?_ | refine blk_alloc ?_ _)); exact BK674.out⟩
        have n3_ : Aside0 (((w78.setCell ⟨gb688, 0, none⟩ (.int .i64 t684)).setCell ⟨gb688, 1, none⟩ (.slice Ao82 t685.length co82)).heap[gb675]? = some (.cells #[.int .i64 a1_0, .slice A1_1 l1_1.length c1_1] 76 (0, 0))) := ⟨by (with_reducible repeat (first | refine blk_drewN ?_ _ | refine blk_drew ?_ | refine blk_alloc ?_ _)); refine blk_far ?_ NB675_688.out _; (with_reducible repeat (first | refine blk_drewN ?_ _ | refine blk_drew ?_ | refine blk_alloc ?_ _)); refine blk_far ?_ NB675_688.out _; (with_reducible repeat (first | refine blk_drewN ?_ _ | refine blk_drew ?_ | refine blk_alloc ?_ _)); exact BK675.out⟩
        have n4_ : Aside0 (((w78.setCell ⟨gb688, 0, none⟩ (.int .i64 t684)).setCell ⟨gb688, 1, none⟩ (.slice Ao82 t685.length co82)).heap[gb688]? = some (.cells #[.int .i64 t684, .slice Ao82 t685.length co82] 81 (0, 0))) := ⟨by (with_reducible repeat (first | refine blk_drewN ?_ _ | refine blk_drew ?_ | refine blk_alloc ?_ _)); refine blk_put (cs := #[.int .i64 t684, .slice none 0 0]) ?_ 1 _ rfl; (with_reducible repeat (first | refine blk_drewN ?_ _ | refine blk_drew ?_ | refine blk_alloc ?_ _)); refine blk_put (cs := #[.int .i64 0, .slice none 0 0]) ?_ 0 _ rfl; (with_reducible repeat (first | refine blk_drewN ?_ _ | refine blk_drew ?_ | refine blk_alloc ?_ _)); exact BK688.out⟩
        have n5_ : Aside0 (Below w.heap.size w ((w78.setCell ⟨gb688, 0, none⟩ (.int .i64 t684)).setCell ⟨gb688, 1, none⟩ (.slice Ao82 t685.length co82))) := ⟨by repeat (first | (with_reducible first | exact HB.out | apply below_alloc | apply pw_below_drewN | apply below_drew1 | refine below_set ?_ GE674.out | refine below_set ?_ GE675.out | refine below_set ?_ GE688.out) | exact HB.out)⟩
        (try clear HO682)
        (try clear HO687)
        (try clear BK674)
        (try clear BK675)
        (try clear BK688)
        (try clear HB)
        generalize ((w78.setCell ⟨gb688, 0, none⟩ (.int .i64 t684)).setCell ⟨gb688, 1, none⟩ (.slice Ao82 t685.length co82)) = w83 at n0_ n1_ n2_ n3_ n4_ n5_ ⊢
        have HO682 := n0_
        have HO687 := n1_
        have BK674 := n2_
        have BK675 := n3_
        have BK688 := n4_
        have HB := n5_
        clear n0_ n1_ n2_ n3_ n4_ n5_
        have n0_ := Aside0.mk (Kd.S_drew HO682.out)
        have n1_ := Aside0.mk (Kd.S_drew HO687.out)
        have n2_ := Aside0.mk (blk_drew BK674.out)
        have n3_ := Aside0.mk (blk_drew BK675.out)
        have n4_ := Aside0.mk (blk_drew BK688.out)
        have n5_ := Aside0.mk (below_drew1 HB.out)
        clear HO682
        clear HO687
        clear BK674
        clear BK675
        clear BK688
        clear HB
        have HO682 := n0_
        have HO687 := n1_
        have BK674 := n2_
        have BK675 := n3_
        have BK688 := n4_
        have HB := n5_
        clear n0_ n1_ n2_ n3_ n4_ n5_
        refine start_ (n := 5) (S := fun w' => w'.cell? ⟨gb674, 0, none⟩ = some (.int .i64 a0_0) ∧ w'.cell? ⟨gb674, 1, none⟩ = some (.int .i64 a0_1) ∧ w'.cell? ⟨gb688, 0, none⟩ = some (.int .i64 t684) ∧ w'.cell? ⟨gb688, 1, none⟩ = some (.slice Ao82 t685.length co82)) (ds := []) #[false, false, false, false, false] (by kernel_rfl) rfl rfl ⟨(blk_cell BK674.out 0).trans rfl, (blk_cell BK674.out 1).trans rfl, (blk_cell BK688.out 0).trans rfl, (blk_cell BK688.out 1).trans rfl⟩ (fun hHeld => ?_)
        generalize w83.drew = w84 at HO682 HO687 BK674 BK675 BK688 HB hHeld ⊢
        refine take_ (i := 0) (N := some 21) (v := ?_) (a' := ?_) #[true, false, false, false, false] rfl rfl (by kernel_rfl) (fun _ _ _ h => h) (Or.inl ⟨by rfl, ?_⟩) hHeld ?_ ?_
        rotate_left
        · rintro w' ⟨s0, s1, s2, s3⟩
          go_simp
          with_reducible rfl
        rotate_left
        · simp only [Act.put, List.setIfInBounds_toArray, List.set_cons_zero, List.set_cons_succ, i64_w, i32_w]
          rfl
        refine take_ (i := 2) (N := some 23) (v := ?_) (a' := ?_) #[true, false, true, false, false] rfl rfl (by kernel_rfl) (fun _ _ _ h => h) (Or.inl ⟨by rfl, ?_⟩) hHeld ?_ ?_
        rotate_left
        · rintro w' ⟨s0, s1, s2, s3⟩
          go_simp
          with_reducible rfl
        rotate_left
        · simp only [Act.put, List.setIfInBounds_toArray, List.set_cons_zero, List.set_cons_succ, i64_w, i32_w]
          rfl
        refine one_ (i := 1) (N := some 22) #[true, true, true, false, false] rfl rfl (by kernel_rfl) (by decide) (fun K hK => ?_)
        refine goes_ Try.func74 (by kernel_rfl) rfl #[.agg #[.int .i64 a0_0, .int .i64 a0_1]] (by rfl) rfl rfl (by (try simp only [List.map_toArray, List.map_cons, List.map_nil]); first | done | rfl | (simp only [List.length_drop, List.length_take]; rfl)) ?_
        with_reducible refine (laws_toSpot.calls a0_0 a0_1 t689 t690 _ A14.out).mono ?_
        rintro e w85 ⟨rfl, hb⟩
        refine ⟨_, rfl, ?_⟩
        have n0_ := Aside0.mk (Kd.S_below (by (with_reducible repeat (first | apply Kd.S_alloc | apply Kd.S_drewN | apply Kd.S_drew)); exact HO682.out) hb)
        have n1_ := Aside0.mk (Kd.S_below (by (with_reducible repeat (first | apply Kd.S_alloc | apply Kd.S_drewN | apply Kd.S_drew)); exact HO687.out) hb)
        have n2_ := Aside0.mk (blk_below (g := gb674) (o := .cells #[.int .i64 a0_0, .int .i64 a0_1] 86 (0, 0)) (by (with_reducible repeat (first | refine blk_drewN ?_ _ | refine blk_drew ?_ | refine blk_alloc ?_ _)); exact BK674.out) hb)
        have n3_ := Aside0.mk (blk_below (g := gb675) (o := .cells #[.int .i64 a1_0, .slice A1_1 l1_1.length c1_1] 76 (0, 0)) (by (with_reducible repeat (first | refine blk_drewN ?_ _ | refine blk_drew ?_ | refine blk_alloc ?_ _)); exact BK675.out) hb)
        have n4_ := Aside0.mk (blk_below (g := gb688) (o := .cells #[.int .i64 t684, .slice Ao82 t685.length co82] 81 (0, 0)) (by (with_reducible repeat (first | refine blk_drewN ?_ _ | refine blk_drew ?_ | refine blk_alloc ?_ _)); exact BK688.out) hb)
        have n5_ := Aside0.mk (below_step (by repeat (first | (with_reducible first | exact HB.out | apply below_alloc | apply pw_below_drewN | apply below_drew1 | refine below_set ?_ GE674.out | refine below_set ?_ GE675.out | refine below_set ?_ GE688.out) | exact HB.out)) hb)
        clear HO682
        clear HO687
        clear BK674
        clear BK675
        clear BK688
        clear HB
        have HO682 := n0_
        have HO687 := n1_
        have BK674 := n2_
        have BK675 := n3_
        have BK688 := n4_
        have HB := n5_
        clear n0_ n1_ n2_ n3_ n4_ n5_
        (try clear hb)
        (try clear hb2)
        (try clear hk)
        (try clear hi)
        refine hK.out _ _ ⟨(blk_cell BK674.out 0).trans rfl, (blk_cell BK674.out 1).trans rfl, (blk_cell BK688.out 0).trans rfl, (blk_cell BK688.out 1).trans rfl⟩ (fun hHeld => ?_)
        clear hK K
        refine norm_ (a' := ?_) ?_ ?_
        rotate_left
        · show Act.put _ (some 22) _ = _
          simp only [Act.put, List.setIfInBounds_toArray, List.set_cons_zero, List.set_cons_succ, i64_w, i32_w]
          rfl
        refine one_ (i := 3) (N := some 24) #[true, true, true, true, false] rfl rfl (by kernel_rfl) (by decide) (fun K hK => ?_)
        refine goes_ Try.func75 (by kernel_rfl) rfl #[.agg #[.int .i64 t689, .int .i64 t690], .agg #[.int .i64 t684, .slice Ao82 t685.length co82]] (by rfl) rfl rfl (by (try simp only [List.map_toArray, List.map_cons, List.map_nil]); first | done | rfl | (simp only [List.length_drop, List.length_take]; rfl)) ?_
        with_reducible refine (impl_SpotOk.calls t689 t690 t684 _ _ t685 t691 _ ?side1 ?side2 A15.out).mono ?_
        (case side1 => repeat (first | exact (Kd.S_reads' HO687.out).2.2 | (with_reducible refine Kd.C_alloc ?_ _) | (with_reducible refine Kd.C_drewN ?_ _) | (with_reducible refine Kd.C_drew ?_)))
        (case side2 => exact (Kd.S_reads' HO687.out).2.1)
        rintro e w86 ⟨rfl, hb⟩
        refine ⟨_, rfl, ?_⟩
        have n0_ := Aside0.mk (Kd.S_below (by (with_reducible repeat (first | apply Kd.S_alloc | apply Kd.S_drewN | apply Kd.S_drew)); exact HO682.out) hb)
        have n1_ := Aside0.mk (Kd.S_below (by (with_reducible repeat (first | apply Kd.S_alloc | apply Kd.S_drewN | apply Kd.S_drew)); exact HO687.out) hb)
        have n2_ := Aside0.mk (blk_below (g := gb674) (o := .cells #[.int .i64 a0_0, .int .i64 a0_1] 86 (0, 0)) (by (with_reducible repeat (first | refine blk_drewN ?_ _ | refine blk_drew ?_ | refine blk_alloc ?_ _)); exact BK674.out) hb)
        have n3_ := Aside0.mk (blk_below (g := gb675) (o := .cells #[.int .i64 a1_0, .slice A1_1 l1_1.length c1_1] 76 (0, 0)) (by (with_reducible repeat (first | refine blk_drewN ?_ _ | refine blk_drew ?_ | refine blk_alloc ?_ _)); exact BK675.out) hb)
        have n4_ := Aside0.mk (blk_below (g := gb688) (o := .cells #[.int .i64 t684, .slice Ao82 t685.length co82] 81 (0, 0)) (by (with_reducible repeat (first | refine blk_drewN ?_ _ | refine blk_drew ?_ | refine blk_alloc ?_ _)); exact BK688.out) hb)
        have n5_ := Aside0.mk (below_step (by repeat (first | (with_reducible first | exact HB.out | apply below_alloc | apply pw_below_drewN | apply below_drew1 | refine below_set ?_ GE674.out | refine below_set ?_ GE675.out | refine below_set ?_ GE688.out) | exact HB.out)) hb)
        clear HO682
        clear HO687
        clear BK674
        clear BK675
        clear BK688
        clear HB
        have HO682 := n0_
        have HO687 := n1_
        have BK674 := n2_
        have BK675 := n3_
        have BK688 := n4_
        have HB := n5_
        clear n0_ n1_ n2_ n3_ n4_ n5_
        (try clear hb)
        (try clear hb2)
        (try clear hk)
        (try clear hi)
        refine hK.out _ _ ⟨(blk_cell BK674.out 0).trans rfl, (blk_cell BK674.out 1).trans rfl, (blk_cell BK688.out 0).trans rfl, (blk_cell BK688.out 1).trans rfl⟩ (fun hHeld => ?_)
        clear hK K
        refine norm_ (a' := ?_) ?_ ?_
        rotate_left
        · show Act.put _ (some 24) _ = _
          simp only [Act.put, List.setIfInBounds_toArray, List.set_cons_zero, List.set_cons_succ, i64_w, i32_w]
          rfl
        refine pure_ (i := 4) (N := some 8) (v := ?_) (a' := ?_) #[true, true, true, true, true] rfl rfl (by kernel_rfl) (fun _ _ _ h => h) (Or.inl ⟨by rfl, ?_⟩) ?_ ?_
        rotate_left
        · intro w'
          go_simp
          with_reducible rfl
        rotate_left
        · simp only [Act.put, List.setIfInBounds_toArray, List.set_cons_zero, List.set_cons_succ, i64_w, i32_w]
          rfl
        refine done_ (by kernel_rfl) ?_
        try go_wp2
        have n0_ := Aside0.mk (Kd.S_drew HO682.out)
        have n1_ := Aside0.mk (Kd.S_drew HO687.out)
        have n2_ := Aside0.mk (blk_drew BK674.out)
        have n3_ := Aside0.mk (blk_drew BK675.out)
        have n4_ := Aside0.mk (blk_drew BK688.out)
        have n5_ := Aside0.mk (below_drew1 HB.out)
        clear HO682
        clear HO687
        clear BK674
        clear BK675
        clear BK688
        clear HB
        have HO682 := n0_
        have HO687 := n1_
        have BK674 := n2_
        have BK675 := n3_
        have BK688 := n4_
        have HB := n5_
        clear n0_ n1_ n2_ n3_ n4_ n5_
        refine start_ (n := 5) (S := fun w' => w'.cell? ⟨gb688, 0, none⟩ = some (.int .i64 t684) ∧ w'.cell? ⟨gb688, 1, none⟩ = some (.slice Ao82 t685.length co82) ∧ w'.cell? ⟨gb675, 0, none⟩ = some (.int .i64 a1_0) ∧ w'.cell? ⟨gb675, 1, none⟩ = some (.slice A1_1 l1_1.length c1_1)) (ds := []) #[false, false, false, false, false] (by kernel_rfl) rfl rfl ⟨(blk_cell BK688.out 0).trans rfl, (blk_cell BK688.out 1).trans rfl, (blk_cell BK675.out 0).trans rfl, (blk_cell BK675.out 1).trans rfl⟩ (fun hHeld => ?_)
        generalize w86.drew = w87 at HO682 HO687 BK674 BK675 BK688 HB hHeld ⊢
        refine take_ (i := 0) (N := some 28) (v := ?_) (a' := ?_) #[true, false, false, false, false] rfl rfl (by kernel_rfl) (fun _ _ _ h => h) (Or.inl ⟨by rfl, ?_⟩) hHeld ?_ ?_
        rotate_left
        · rintro w' ⟨s0, s1, s2, s3⟩
          go_simp
          with_reducible rfl
        rotate_left
        · simp only [Act.put, List.setIfInBounds_toArray, List.set_cons_zero, List.set_cons_succ, i64_w, i32_w]
          rfl
        refine take_ (i := 1) (N := some 29) (v := ?_) (a' := ?_) #[true, true, false, false, false] rfl rfl (by kernel_rfl) (fun _ _ _ h => h) (Or.inl ⟨by rfl, ?_⟩) hHeld ?_ ?_
        rotate_left
        · rintro w' ⟨s0, s1, s2, s3⟩
          go_simp
          with_reducible rfl
        rotate_left
        · simp only [Act.put, List.setIfInBounds_toArray, List.set_cons_zero, List.set_cons_succ, i64_w, i32_w]
          rfl
        refine one_ (i := 2) (N := some 30) #[true, true, true, false, false] rfl rfl (by kernel_rfl) (by decide) (fun K hK => ?_)
        refine goes_ Try.func70 (by kernel_rfl) rfl #[.agg #[.int .i64 a1_0, .slice A1_1 l1_1.length c1_1]] (by rfl) rfl rfl (by (try simp only [List.map_toArray, List.map_cons, List.map_nil]); first | done | rfl | (simp only [List.length_drop, List.length_take]; rfl)) ?_
        with_reducible refine (laws_toProg.calls k a1_0 _ _ l1_1 t692 t693 _ ?side1 ?side2 A38.out).mono ?_
        (case side1 => repeat (first | exact (Kd.C_below HR1_1.out HB.out) | (with_reducible refine Kd.C_alloc ?_ _) | (with_reducible refine Kd.C_drewN ?_ _) | (with_reducible refine Kd.C_drew ?_)))
        (case side2 => exact HC1_1.out)
        rintro e w88 ⟨v694, rfl, ho0, hb⟩
        refine ⟨_, rfl, ?_⟩
        have n0_ := Aside0.mk (Kd.S_elder' (by (with_reducible repeat (first | apply Kd.S_alloc | apply Kd.S_drewN | apply Kd.S_drew)); exact HO682.out) (Kd.S_base ho0) hb)
        have n1_ := Aside0.mk (Kd.S_elder' (by (with_reducible repeat (first | apply Kd.S_alloc | apply Kd.S_drewN | apply Kd.S_drew)); exact HO687.out) (Kd.S_base ho0) hb)
        have n2_ := Aside0.mk (Kd.S_lower (Kd.S_new' (Kd.S_new' ho0 (Kd.S_lt (by (with_reducible repeat (first | apply Kd.S_alloc | apply Kd.S_drewN | apply Kd.S_drew)); exact HO682.out))) (Kd.S_lt (by (with_reducible repeat (first | apply Kd.S_alloc | apply Kd.S_drewN | apply Kd.S_drew)); exact HO687.out))) (below_size (by repeat (first | (with_reducible first | exact HB.out | apply below_alloc | apply pw_below_drewN | apply below_drew1 | refine below_set ?_ GE674.out | refine below_set ?_ GE675.out | refine below_set ?_ GE688.out) | exact HB.out))))
        have n3_ := Aside0.mk (blk_below (g := gb674) (o := .cells #[.int .i64 a0_0, .int .i64 a0_1] 86 (0, 0)) (by (with_reducible repeat (first | refine blk_drewN ?_ _ | refine blk_drew ?_ | refine blk_alloc ?_ _)); exact BK674.out) hb)
        have n4_ := Aside0.mk (blk_below (g := gb675) (o := .cells #[.int .i64 a1_0, .slice A1_1 l1_1.length c1_1] 76 (0, 0)) (by (with_reducible repeat (first | refine blk_drewN ?_ _ | refine blk_drew ?_ | refine blk_alloc ?_ _)); exact BK675.out) hb)
        have n5_ := Aside0.mk (blk_below (g := gb688) (o := .cells #[.int .i64 t684, .slice Ao82 t685.length co82] 81 (0, 0)) (by (with_reducible repeat (first | refine blk_drewN ?_ _ | refine blk_drew ?_ | refine blk_alloc ?_ _)); exact BK688.out) hb)
        have n6_ := Aside0.mk (below_step (by repeat (first | (with_reducible first | exact HB.out | apply below_alloc | apply pw_below_drewN | apply below_drew1 | refine below_set ?_ GE674.out | refine below_set ?_ GE675.out | refine below_set ?_ GE688.out) | exact HB.out)) hb)
        clear HO682
        clear HO687
        clear BK674
        clear BK675
        clear BK688
        clear HB
        have HO682 := n0_
        have HO687 := n1_
        have HO695 := n2_
        have BK674 := n3_
        have BK675 := n4_
        have BK688 := n5_
        have HB := n6_
        clear n0_ n1_ n2_ n3_ n4_ n5_ n6_
        (try clear hb)
        (try clear hb2)
        (try clear hk)
        (try clear hi)
        (try clear ho0)
        obtain ⟨Ao89, co89, eo89⟩ := Kd.S_slice HO695.out
        (first | subst eo89 | (injection eo89 with f1_ f2_ f3_; have f4_ := f1_.symm; have f5_ := f3_.symm; clear f1_ f2_ f3_; subst f4_; subst f5_))
        refine hK.out _ _ ⟨(blk_cell BK688.out 0).trans rfl, (blk_cell BK688.out 1).trans rfl, (blk_cell BK675.out 0).trans rfl, (blk_cell BK675.out 1).trans rfl⟩ (fun hHeld => ?_)
        clear hK K
        refine norm_ (a' := ?_) ?_ ?_
        rotate_left
        · show Act.put _ (some 30) _ = _
          simp only [Act.put, List.setIfInBounds_toArray, List.set_cons_zero, List.set_cons_succ, i64_w, i32_w]
          rfl
        refine one_ (i := 3) (N := some 31) #[true, true, true, true, false] rfl rfl (by kernel_rfl) (by decide) (fun K hK => ?_)
        refine goes_ Try.func72 (by kernel_rfl) rfl #[.agg #[.int .i64 t684, .slice Ao82 t685.length co82], .agg #[.int .i64 t692, .slice Ao89 t693.length co89]] (by rfl) rfl rfl (by (try simp only [List.map_toArray, List.map_cons, List.map_nil]); first | done | rfl | (simp only [List.length_drop, List.length_take]; rfl)) ?_
        with_reducible refine (laws_eqProg.calls k t684 _ _ t685 t692 _ _ t693 false _ ?side1 ?side2 ?side3 ?side4 A39.out).mono ?_
        (case side1 => repeat (first | exact (Kd.S_reads' HO687.out).2.2 | (with_reducible refine Kd.C_alloc ?_ _) | (with_reducible refine Kd.C_drewN ?_ _) | (with_reducible refine Kd.C_drew ?_)))
        (case side2 => exact (Kd.S_reads' HO687.out).2.1)
        (case side3 => repeat (first | exact (Kd.S_reads' HO695.out).2.2 | (with_reducible refine Kd.C_alloc ?_ _) | (with_reducible refine Kd.C_drewN ?_ _) | (with_reducible refine Kd.C_drew ?_)))
        (case side4 => exact (Kd.S_reads' HO695.out).2.1)
        rintro e w90 ⟨rfl, hb⟩
        refine ⟨_, rfl, ?_⟩
        have n0_ := Aside0.mk (Kd.S_below (by (with_reducible repeat (first | apply Kd.S_alloc | apply Kd.S_drewN | apply Kd.S_drew)); exact HO682.out) hb)
        have n1_ := Aside0.mk (Kd.S_below (by (with_reducible repeat (first | apply Kd.S_alloc | apply Kd.S_drewN | apply Kd.S_drew)); exact HO687.out) hb)
        have n2_ := Aside0.mk (Kd.S_below (by (with_reducible repeat (first | apply Kd.S_alloc | apply Kd.S_drewN | apply Kd.S_drew)); exact HO695.out) hb)
        have n3_ := Aside0.mk (blk_below (g := gb674) (o := .cells #[.int .i64 a0_0, .int .i64 a0_1] 86 (0, 0)) (by (with_reducible repeat (first | refine blk_drewN ?_ _ | refine blk_drew ?_ | refine blk_alloc ?_ _)); exact BK674.out) hb)
        have n4_ := Aside0.mk (blk_below (g := gb675) (o := .cells #[.int .i64 a1_0, .slice A1_1 l1_1.length c1_1] 76 (0, 0)) (by (with_reducible repeat (first | refine blk_drewN ?_ _ | refine blk_drew ?_ | refine blk_alloc ?_ _)); exact BK675.out) hb)
        have n5_ := Aside0.mk (blk_below (g := gb688) (o := .cells #[.int .i64 t684, .slice Ao82 t685.length co82] 81 (0, 0)) (by (with_reducible repeat (first | refine blk_drewN ?_ _ | refine blk_drew ?_ | refine blk_alloc ?_ _)); exact BK688.out) hb)
        have n6_ := Aside0.mk (below_step (by repeat (first | (with_reducible first | exact HB.out | apply below_alloc | apply pw_below_drewN | apply below_drew1 | refine below_set ?_ GE674.out | refine below_set ?_ GE675.out | refine below_set ?_ GE688.out) | exact HB.out)) hb)
        clear HO682
        clear HO687
        clear HO695
        clear BK674
        clear BK675
        clear BK688
        clear HB
        have HO682 := n0_
        have HO687 := n1_
        have HO695 := n2_
        have BK674 := n3_
        have BK675 := n4_
        have BK688 := n5_
        have HB := n6_
        clear n0_ n1_ n2_ n3_ n4_ n5_ n6_
        (try clear hb)
        (try clear hb2)
        (try clear hk)
        (try clear hi)
        refine hK.out _ _ ⟨(blk_cell BK688.out 0).trans rfl, (blk_cell BK688.out 1).trans rfl, (blk_cell BK675.out 0).trans rfl, (blk_cell BK675.out 1).trans rfl⟩ (fun hHeld => ?_)
        clear hK K
        refine norm_ (a' := ?_) ?_ ?_
        rotate_left
        · show Act.put _ (some 31) _ = _
          simp only [Act.put, List.setIfInBounds_toArray, List.set_cons_zero, List.set_cons_succ, i64_w, i32_w]
          rfl
        refine pure_ (i := 4) (N := some 32) (v := ?_) (a' := ?_) #[true, true, true, true, true] rfl rfl (by kernel_rfl) (fun _ _ _ h => h) (Or.inl ⟨by rfl, ?_⟩) ?_ ?_
        rotate_left
        · intro w'
          go_simp
          with_reducible rfl
        rotate_left
        · simp only [Act.put, List.setIfInBounds_toArray, List.set_cons_zero, List.set_cons_succ, i64_w, i32_w]
          rfl
        refine done_ (by kernel_rfl) ?_
        try go_wp2
        go_ret
        exact ⟨by first | rfl | (simp [errW_none, errW_some] <;> rfl) | (simp [*, errW_none, errW_some] <;> rfl), by repeat (first | (with_reducible first | exact HB.out | apply below_alloc | apply pw_below_drewN | apply below_drew1 | refine below_set ?_ GE674.out | refine below_set ?_ GE675.out | refine below_set ?_ GE688.out) | exact HB.out)⟩

end Go.Proofs.Ytkjndikkdbfhbaa.P
