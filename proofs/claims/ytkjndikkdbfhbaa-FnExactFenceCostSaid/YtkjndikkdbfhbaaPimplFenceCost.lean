-- Written by mp.py (the session's own driver over the kit's printer) for the seat Ytkjndikkdbfhbaa.
import Derived.Test.YtkjndikkdbfhbaaK
import Derived.Test.YtkjndikkdbfhbaaE
import Derived.Test.YtkjndikkdbfhbaaPimplHasFence
import Derived.Test.YtkjndikkdbfhbaaPimplProgOk
import Derived.Test.YtkjndikkdbfhbaaPimplflag
namespace Go.Proofs.Ytkjndikkdbfhbaa.P
open Go.RowKit Go.Proofs.YtkjndikkdbfhbaaW.PrintWords Go.Proofs.YtkjndikkdbfhbaaW.PrintLast Go.Proofs.YtkjndikkdbfhbaaW.PrintMore
attribute [local go_sem] max2_int min2_int max_two min_two max_three min_three max_four min_four
set_option linter.unusedVariables false
set_option linter.unusedSimpArgs false

/-! ### impl_FenceCost: function 85 -/
mutual
def impl_FenceCost.l0 : Nat → Int → List (List (S176)) → Int → Int → Option (Int)
  | 0, _, _, _, _ => none
  | k + 1, x3, x12, x13, x14 => if x14 < x13 then (if 0 ≤ x14 then (if x14 < (x12.length : Int) then (impl_FenceCost.l1 k x3 x12 x13 x14 (rd_L9 x12 x14) ((rd_L9 x12 x14).length : Int) 0) else (none)) else (none)) else (some x3)
def impl_FenceCost.l1 : Nat → Int → List (List (S176)) → Int → Int → List (S176) → Int → Int → Option (Int)
  | 0, _, _, _, _, _, _, _ => none
  | k + 1, x3, x12, x13, x14, x18, x19, x20 => if x20 < x19 then (if 0 ≤ x20 then (if x20 < (x18.length : Int) then ((impl_HasFence.f ((rd_T176 x18 x20).f0) ((rd_T176 x18 x20).f1) ((rd_T176 x18 x20).f2) ((rd_T176 x18 x20).f3)).bind fun t860 => ((impl_flag.f t860).bind fun t861 => (impl_FenceCost.l1 k (wrap64 (x3 + t861)) x12 x13 x14 x18 x19 (wrap64 (x20 + 1))))) else (none)) else (none)) else (impl_FenceCost.l0 k x3 x12 x13 (wrap64 (x14 + 1)))
end
def impl_FenceCost.f (k : Nat) (a0_0 : Int) (l0_1 : List (List (S176))) : Option (Int) := (impl_ProgOk.f a0_0 l0_1).bind fun t856 => (if t856 = true then (impl_FenceCost.l0 k 0 l0_1 (l0_1.length : Int) 0) else (some (-1)))
theorem impl_FenceCost.mono_l : ∀ k, (∀ y0 y1 y2 y3, LeO (impl_FenceCost.l0 k y0 y1 y2 y3) (impl_FenceCost.l0 (k + 1) y0 y1 y2 y3)) ∧ (∀ y0 y1 y2 y3 y4 y5 y6, LeO (impl_FenceCost.l1 k y0 y1 y2 y3 y4 y5 y6) (impl_FenceCost.l1 (k + 1) y0 y1 y2 y3 y4 y5 y6))
  | 0 => ⟨fun _ _ _ _ r h => by simp [impl_FenceCost.l0] at h, fun _ _ _ _ _ _ _ r h => by simp [impl_FenceCost.l1] at h⟩
  | k + 1 => by
    obtain ⟨ih0, ih1⟩ := impl_FenceCost.mono_l k
    refine ⟨?_, ?_⟩
    · intro y0 y1 y2 y3
      unfold impl_FenceCost.l0
      repeat' first
      | (with_reducible exact ih0 _ _ _ _)
      | (with_reducible exact ih1 _ _ _ _ _ _ _)
      | (with_reducible exact LeO.refl _)
      | (with_reducible exact LeO.none _)
      | (with_reducible refine LeO.ite ?_ ?_)
      | (with_reducible refine LeO.bind ?_ (fun _ => ?_))
      | exact ih0 _ _ _ _
      | exact ih1 _ _ _ _ _ _ _
      | exact LeO.none _
      | refine LeO.ite ?_ ?_
      | refine LeO.bind ?_ (fun _ => ?_)
    · intro y0 y1 y2 y3 y4 y5 y6
      unfold impl_FenceCost.l1
      repeat' first
      | (with_reducible exact ih0 _ _ _ _)
      | (with_reducible exact ih1 _ _ _ _ _ _ _)
      | (with_reducible exact LeO.refl _)
      | (with_reducible exact LeO.none _)
      | (with_reducible refine LeO.ite ?_ ?_)
      | (with_reducible refine LeO.bind ?_ (fun _ => ?_))
      | exact ih0 _ _ _ _
      | exact ih1 _ _ _ _ _ _ _
      | exact LeO.none _
      | refine LeO.ite ?_ ?_
      | refine LeO.bind ?_ (fun _ => ?_)
theorem impl_FenceCost.mono : ∀ a0 a1 k, LeO (impl_FenceCost.f k a0 a1) (impl_FenceCost.f (k + 1) a0 a1) := by
  intro a0 a1 k
  obtain ⟨ih0, ih1⟩ := impl_FenceCost.mono_l k
  unfold impl_FenceCost.f
  repeat' first
      | (with_reducible exact ih0 _ _ _ _)
      | (with_reducible exact ih1 _ _ _ _ _ _ _)
      | (with_reducible exact LeO.refl _)
      | (with_reducible exact LeO.none _)
      | (with_reducible refine LeO.ite ?_ ?_)
      | (with_reducible refine LeO.bind ?_ (fun _ => ?_))
      | exact ih0 _ _ _ _
      | exact ih1 _ _ _ _ _ _ _
      | exact LeO.none _
      | refine LeO.ite ?_ ?_
      | refine LeO.bind ?_ (fun _ => ?_)
set_option maxHeartbeats 8000000 in
set_option maxRecDepth 100000 in
theorem impl_FenceCost.calls (k : Nat) (a0_0 : Int) (A0_1 : Option Addr) (c0_1 : Nat) (l0_1 : List (List (S176))) (r : Int) (w : World) (hr0_1 : Kd.C (Kd.slice 176 k176) w A0_1 l0_1.length l0_1) (hc0_1 : l0_1.length ≤ c0_1) (h : impl_FenceCost.f k a0_0 l0_1 = some r) :
    Calls Try.prog 85 #[.agg #[.int .i64 a0_0, .slice A0_1 l0_1.length c0_1]] w fun e w' => e = .returned (.int .i64 r) ∧ Below w.heap.size w w' := by
  have hu81 := Try.underlying81
  have hu176 := Try.underlying176
  have HR0_1 := Aside0.mk hr0_1
  have HC0_1 := Aside0.mk hc0_1
  clear hr0_1 hc0_1
  have HB := Aside0.mk (Below.refl w.heap.size w)
  have H : ((impl_ProgOk.f a0_0 l0_1).bind fun t856 => (if t856 = true then (impl_FenceCost.l0 k 0 l0_1 (l0_1.length : Int) 0) else (some (-1)))) = some r := h
  clear h
  replace H := Option.bind_eq_some_iff.mp H
  obtain ⟨t856, A20, H⟩ := H
  replace H : (if t856 = true then (impl_FenceCost.l0 k 0 l0_1 (l0_1.length : Int) 0) else (some (-1))) = some r := H
  have A2 := Aside0.mk A20
  clear A20
  by_cases c3 : t856 = true
  · subst c3
    have H1 : (impl_FenceCost.l0 k 0 l0_1 (l0_1.length : Int) 0) = some r := by rw [if_pos rfl] at H; exact H
    clear H
    have H := H1
    clear H1
    have H' := Aside0.mk H
    clear H
    go_enter Try.func85, Try.ntmps85
    go_wp2_with (first | ((with_reducible refine gate_dst (N := 1) rfl ?_); refine box_event ?hg (N := 1) ?hd (cs := #[.int .i64 a0_0, .slice A0_1 l0_1.length c0_1]) (t := 81) ?hr ?_; (case hd => rfl); (case hg => rfl); (case hr => first | (go_simp; done) | (go_simp; rfl)); intro gb855 hg w4 hbox hb; have n0_ := Aside0.mk (below_step (by repeat (first | (with_reducible first | exact HB.out | apply below_alloc | apply pw_below_drewN | apply below_drew1) | exact HB.out)) hb); have n1_ := Aside0.mk (hbox); have n2_ := Aside0.mk ((by rw [hg]; exact (below_size (by repeat (first | (with_reducible first | exact HB.out | apply below_alloc | apply pw_below_drewN | apply below_drew1) | exact HB.out))) : w.heap.size ≤ gb855)); have n3_ := Aside0.mk ((by rw [hg]; exact (below_size (by repeat (first | (with_reducible first | exact HB.out | apply below_alloc | apply pw_below_drewN | apply below_drew1) | exact HB.out))) : w.heap.size ≤ gb855)); clear HB; have HB := n0_; have BK855 := n1_; have GW855 := n2_; have GE855 := n3_; clear n0_ n1_ n2_ n3_; clear hb hbox hg; have hcz5_0 : w4.cell? ⟨gb855, 0, none⟩ = some (.int .i64 a0_0) := (blk_cell BK855.out 0).trans rfl; have hcz5_1 : w4.cell? ⟨gb855, 1, none⟩ = some (.slice A0_1 l0_1.length c0_1) := (blk_cell BK855.out 1).trans rfl; have hfz5_0 := blk_frozen BK855.out 0; have hfz5_1 := blk_frozen BK855.out 1) | ((with_reducible refine gate_callee (f := 71) rfl ?_); refine goesL_ (some 9) rfl rfl Try.func71 (by kernel_rfl) rfl #[.agg #[.int .i64 a0_0, .slice A0_1 l0_1.length c0_1]] rfl (by (try simp only [List.map_toArray, List.map_cons, List.map_nil]); first | done | rfl | (simp only [List.length_drop, List.length_take]; rfl)) ?_; (with_reducible refine (impl_ProgOk.calls a0_0 _ _ l0_1 true _ ?side1 ?side2 A2.out).mono ?_); (case side1 => repeat (first | exact (Kd.C_below HR0_1.out HB.out) | (with_reducible refine Kd.C_alloc ?_ _) | (with_reducible refine Kd.C_drewN ?_ _) | (with_reducible refine Kd.C_drew ?_))); (case side2 => exact HC0_1.out); rintro e w6 ⟨rfl, hb⟩; refine ⟨_, rfl, ?_⟩; have n0_ := Aside0.mk (blk_below (g := gb855) (o := .cells #[.int .i64 a0_0, .slice A0_1 l0_1.length c0_1] 81 (0, 0)) (by (with_reducible repeat (first | refine blk_drewN ?_ _ | refine blk_drew ?_ | refine blk_alloc ?_ _)); exact BK855.out) hb); have n1_ := Aside0.mk (below_step (by repeat (first | (with_reducible first | exact HB.out | apply below_alloc | apply pw_below_drewN | apply below_drew1 | refine below_set ?_ GE855.out) | exact HB.out)) hb); clear BK855; clear HB; have BK855 := n0_; have HB := n1_; clear n0_ n1_; (try clear hb); (try clear hb2); (try clear hk); (try clear hi); have hcz7_0 : w6.cell? ⟨gb855, 0, none⟩ = some (.int .i64 a0_0) := (blk_cell BK855.out 0).trans rfl; have hcz7_1 : w6.cell? ⟨gb855, 1, none⟩ = some (.slice A0_1 l0_1.length c0_1) := (blk_cell BK855.out 1).trans rfl; have hfz7_0 := blk_frozen BK855.out 0; have hfz7_1 := blk_frozen BK855.out 1))
    go_loopg [3, 14] k (fun kq v3 v14 w' => ∃ (x3_1 : Int) (x14_1 : Int), v3 = .int .i64 x3_1 ∧ v14 = .int .i64 x14_1 ∧ Aside0 (impl_FenceCost.l0 kq x3_1 l0_1 (l0_1.length : Int) x14_1 = some r) ∧ Aside0 (kq ≤ k) ∧ Aside0 (w'.heap[gb855]? = some (.cells #[.int .i64 a0_0, (.slice A0_1 l0_1.length c0_1)] 81 (0, 0))) ∧ Aside0 (Below w.heap.size w w'))
    case atStart => exact ⟨(0), (0), (by first | rfl | (simp; done) | (simp [*]; done)), (by first | rfl | (simp; done) | (simp [*]; done)), H', ⟨Nat.le_refl _⟩, ⟨by (with_reducible repeat (first | refine blk_drewN ?_ _ | refine blk_drew ?_ | refine blk_alloc ?_ _)); exact BK855.out⟩, ⟨by repeat (first | (with_reducible first | exact HB.out | apply below_alloc | apply pw_below_drewN | apply below_drew1 | refine below_set ?_ GE855.out) | exact HB.out)⟩⟩
    case round =>
      clear H'
      try clear p2
      try clear c3
      try clear c7
      try clear hcz5_0
      try clear hcz5_1
      try clear hcz7_0
      try clear hcz7_1
      try clear hfz5_0
      try clear hfz5_1
      try clear hfz7_0
      try clear hfz7_1
      obtain ⟨x3_1, x14_1, rfl, rfl, HA, HK1, BK855, HB⟩ := hrel
      cases gk with
      | zero => exact absurd HA.out (by simp [impl_FenceCost.l0])
      | succ k1 =>
        have H := HA.out
        clear HA
        simp only [impl_FenceCost.l0] at H
        by_cases c8 : x14_1 < (l0_1.length : Int)
        · rw [if_pos c8] at H
          have c8b0 : decide (x14_1 < (l0_1.length : Int)) = true := decide_eq_true c8
          clear c8
          by_cases c9 : 0 ≤ x14_1
          · rw [if_pos c9] at H
            have c9b0 : decide (0 ≤ x14_1) = true := decide_eq_true c9
            clear c9
            by_cases c10 : x14_1 < (l0_1.length : Int)
            · rw [if_pos c10] at H
              have c10b0 : decide (x14_1 < (l0_1.length : Int)) = true := decide_eq_true c10
              clear c10
              have H' := Aside0.mk H
              clear H
              have p857 : 0 ≤ (x14_1 : Int) := of_decide_eq_true (by first | (with_reducible assumption) | assumption)
              have q857 : x14_1 < (l0_1.length : Int) := of_decide_eq_true (by first | (with_reducible assumption) | assumption)
              obtain ⟨ad857, A857_0, c857_0, e857, hx857_0, hl857_0, hi857_0⟩ := at_L9 HR0_1.out x14_1 p857 q857
              cases e857
              replace hx857_0 := (HB.out.cell (World.block_lt_of_cell? w _ hx857_0)).trans hx857_0
              have HR857_0 := Aside0.mk hi857_0
              have HC857_0 := Aside0.mk hl857_0
              clear hi857_0 hl857_0
              replace p857 := eq_true p857
              replace q857 := eq_true q857
              go_wp2
              go_loopg [3, 20] k1 (fun kq v3 v20 w' => ∃ (x3_2 : Int) (x20_2 : Int), v3 = .int .i64 x3_2 ∧ v20 = .int .i64 x20_2 ∧ Aside0 (impl_FenceCost.l1 kq x3_2 l0_1 (l0_1.length : Int) x14_1 (rd_L9 l0_1 x14_1) ((rd_L9 l0_1 x14_1).length : Int) x20_2 = some r) ∧ Aside0 (kq ≤ k1) ∧ Aside0 (w'.heap[gb855]? = some (.cells #[.int .i64 a0_0, (.slice (some ad857) l0_1.length c0_1)] 81 (0, 0))) ∧ Aside0 (Below w.heap.size w w'))
              case atStart => exact ⟨(x3_1), (0), (by first | rfl | (simp; done) | (simp [*]; done)), (by first | rfl | (simp; done) | (simp [*]; done)), H', ⟨Nat.le_refl _⟩, ⟨by (with_reducible repeat (first | refine blk_drewN ?_ _ | refine blk_drew ?_ | refine blk_alloc ?_ _)); exact BK855.out⟩, ⟨by repeat (first | (with_reducible first | exact HB.out | apply below_alloc | apply pw_below_drewN | apply below_drew1 | refine below_set ?_ GE855.out) | exact HB.out)⟩⟩
              case round =>
                clear H'
                try clear c1
                try clear p2
                try clear c3
                try clear c7
                try clear c8
                try clear c8b0
                try clear p8
                try clear q8
                try clear hx8
                try clear c9
                try clear c9b0
                try clear c10
                try clear c10b0
                try clear hcz5_0
                try clear hcz5_1
                try clear hcz7_0
                try clear hcz7_1
                try clear hfz5_0
                try clear hfz5_1
                try clear hfz7_0
                try clear hfz7_1
                try clear hx857_0
                try clear p2
                try clear p857
                try clear q857
                obtain ⟨x3_2, x20_2, rfl, rfl, HA, HK2, BK855, HB⟩ := hrel
                cases gk with
                | zero => exact absurd HA.out (by simp [impl_FenceCost.l1])
                | succ k2 =>
                  have H := HA.out
                  clear HA
                  simp only [impl_FenceCost.l1] at H
                  by_cases c11 : x20_2 < ((rd_L9 l0_1 x14_1).length : Int)
                  · rw [if_pos c11] at H
                    have c11b0 : decide (x20_2 < ((rd_L9 l0_1 x14_1).length : Int)) = true := decide_eq_true c11
                    clear c11
                    by_cases c12 : 0 ≤ x20_2
                    · rw [if_pos c12] at H
                      have c12b0 : decide (0 ≤ x20_2) = true := decide_eq_true c12
                      clear c12
                      by_cases c13 : x20_2 < ((rd_L9 l0_1 x14_1).length : Int)
                      · rw [if_pos c13] at H
                        have c13b0 : decide (x20_2 < ((rd_L9 l0_1 x14_1).length : Int)) = true := decide_eq_true c13
                        clear c13
                        replace H := Option.bind_eq_some_iff.mp H
                        obtain ⟨t860, A140, H⟩ := H
                        replace H : ((impl_flag.f t860).bind fun t861 => (impl_FenceCost.l1 k2 (wrap64 (x3_2 + t861)) l0_1 (l0_1.length : Int) x14_1 (rd_L9 l0_1 x14_1) ((rd_L9 l0_1 x14_1).length : Int) (wrap64 (x20_2 + 1)))) = some r := H
                        have A14 := Aside0.mk A140
                        clear A140
                        replace H := Option.bind_eq_some_iff.mp H
                        obtain ⟨t861, A150, H⟩ := H
                        replace H : (impl_FenceCost.l1 k2 (wrap64 (x3_2 + t861)) l0_1 (l0_1.length : Int) x14_1 (rd_L9 l0_1 x14_1) ((rd_L9 l0_1 x14_1).length : Int) (wrap64 (x20_2 + 1))) = some r := H
                        have A15 := Aside0.mk A150
                        clear A150
                        have H' := Aside0.mk H
                        clear H
                        have p858 : 0 ≤ (x20_2 : Int) := of_decide_eq_true (by first | (with_reducible assumption) | assumption)
                        have q858 : x20_2 < ((rd_L9 l0_1 x14_1).length : Int) := of_decide_eq_true (by first | (with_reducible assumption) | assumption)
                        obtain ⟨ad858, e858, hx858_0, hx858_1, hx858_2, hx858_3⟩ := at_T176 HR857_0.out x20_2 p858 q858
                        cases e858
                        replace hx858_0 := (HB.out.cell (World.block_lt_of_cell? w _ hx858_0)).trans hx858_0
                        replace hx858_1 := (HB.out.cell (World.block_lt_of_cell? w _ hx858_1)).trans hx858_1
                        replace hx858_2 := (HB.out.cell (World.block_lt_of_cell? w _ hx858_2)).trans hx858_2
                        replace hx858_3 := (HB.out.cell (World.block_lt_of_cell? w _ hx858_3)).trans hx858_3
                        replace p858 := eq_true p858
                        replace q858 := eq_true q858
                        go_wp2_with (first | ((with_reducible refine gate_dst (N := 7) rfl ?_); refine box_event ?hg (N := 7) ?hd (cs := #[.int .i64 0, .int .i64 0, .int .i64 0, .int .i64 0]) (t := 176) ?hr ?_; (case hd => rfl); (case hg => rfl); (case hr => first | (go_simp; done) | (go_simp; rfl)); intro gb859 hg w16 hbox hb; have n0_ := Aside0.mk (blk_below (g := gb855) (o := .cells #[.int .i64 a0_0, .slice (some ad857) l0_1.length c0_1] 81 (0, 0)) (by (with_reducible repeat (first | refine blk_drewN ?_ _ | refine blk_drew ?_ | refine blk_alloc ?_ _)); exact BK855.out) hb); have n1_ := Aside0.mk (below_step (by repeat (first | (with_reducible first | exact HB.out | apply below_alloc | apply pw_below_drewN | apply below_drew1 | refine below_set ?_ GE855.out) | exact HB.out)) hb); have n2_ := Aside0.mk (hbox); have n3_ := Aside0.mk ((by rw [hg]; exact (below_size (by repeat (first | (with_reducible first | exact HB.out | apply below_alloc | apply pw_below_drewN | apply below_drew1 | refine below_set ?_ GE855.out) | exact HB.out))) : w.heap.size ≤ gb859)); have n4_ := Aside0.mk ((by rw [hg]; exact (below_size (by repeat (first | (with_reducible first | exact HB.out | apply below_alloc | apply pw_below_drewN | apply below_drew1 | refine below_set ?_ GE855.out) | exact HB.out))) : w.heap.size ≤ gb859)); have n5_ := Aside0.mk ((by rw [hg]; exact Nat.ne_of_lt (blk_lt (g := gb855) (o := .cells #[.int .i64 a0_0, .slice (some ad857) l0_1.length c0_1] 81 (0, 0)) (by (with_reducible repeat (first | refine blk_drewN ?_ _ | refine blk_drew ?_ | refine blk_alloc ?_ _)); exact BK855.out)) : gb855 ≠ gb859)); have n6_ := Aside0.mk ((by rw [hg]; exact Nat.ne_of_gt (blk_lt (g := gb855) (o := .cells #[.int .i64 a0_0, .slice (some ad857) l0_1.length c0_1] 81 (0, 0)) (by (with_reducible repeat (first | refine blk_drewN ?_ _ | refine blk_drew ?_ | refine blk_alloc ?_ _)); exact BK855.out)) : gb859 ≠ gb855)); clear BK855; clear HB; have BK855 := n0_; have HB := n1_; have BK859 := n2_; have GW859 := n3_; have GE859 := n4_; have NB855_859 := n5_; have NB859_855 := n6_; clear n0_ n1_ n2_ n3_ n4_ n5_ n6_; clear hb hbox hg; have hnb17 := NB859_855.out; have hnc17 := NB855_859.out; have hcz18_0 : w16.cell? ⟨gb859, 0, none⟩ = some (.int .i64 0) := (blk_cell BK859.out 0).trans rfl; have hcz18_1 : w16.cell? ⟨gb859, 1, none⟩ = some (.int .i64 0) := (blk_cell BK859.out 1).trans rfl; have hcz18_2 : w16.cell? ⟨gb859, 2, none⟩ = some (.int .i64 0) := (blk_cell BK859.out 2).trans rfl; have hcz18_3 : w16.cell? ⟨gb859, 3, none⟩ = some (.int .i64 0) := (blk_cell BK859.out 3).trans rfl; have hfz18_0 := blk_frozen BK859.out 0; have hfz18_1 := blk_frozen BK859.out 1; have hfz18_2 := blk_frozen BK859.out 2; have hfz18_3 := blk_frozen BK859.out 3) | ((with_reducible refine gate_callee (f := 183) rfl ?_); refine goesL_ (some 26) rfl rfl Try.func183 (by kernel_rfl) rfl #[.agg #[.int .i64 ((rd_T176 (rd_L9 l0_1 x14_1) x20_2).f0), .int .i64 ((rd_T176 (rd_L9 l0_1 x14_1) x20_2).f1), .int .i64 ((rd_T176 (rd_L9 l0_1 x14_1) x20_2).f2), .int .i64 ((rd_T176 (rd_L9 l0_1 x14_1) x20_2).f3)]] rfl (by (try simp only [List.map_toArray, List.map_cons, List.map_nil]); first | done | rfl | (simp only [List.length_drop, List.length_take]; rfl)) ?_; (with_reducible refine (impl_HasFence.calls ((rd_T176 (rd_L9 l0_1 x14_1) x20_2).f0) ((rd_T176 (rd_L9 l0_1 x14_1) x20_2).f1) ((rd_T176 (rd_L9 l0_1 x14_1) x20_2).f2) ((rd_T176 (rd_L9 l0_1 x14_1) x20_2).f3) t860 _ A14.out).mono ?_); rintro e w19 ⟨rfl, hb⟩; refine ⟨_, rfl, ?_⟩; have n0_ := Aside0.mk (blk_below (g := gb855) (o := .cells #[.int .i64 a0_0, .slice (some ad857) l0_1.length c0_1] 81 (0, 0)) (by (with_reducible repeat (first | refine blk_drewN ?_ _ | refine blk_drew ?_ | refine blk_alloc ?_ _)); refine blk_far ?_ NB855_859.out _; (with_reducible repeat (first | refine blk_drewN ?_ _ | refine blk_drew ?_ | refine blk_alloc ?_ _)); refine blk_far ?_ NB855_859.out _; (with_reducible repeat (first | refine blk_drewN ?_ _ | refine blk_drew ?_ | refine blk_alloc ?_ _)); refine blk_far ?_ NB855_859.out _; (with_reducible repeat (first | refine blk_drewN ?_ _ | refine blk_drew ?_ | refine blk_alloc ?_ _)); refine blk_far ?_ NB855_859.out _; (with_reducible repeat (first | refine blk_drewN ?_ _ | refine blk_drew ?_ | refine blk_alloc ?_ _)); exact BK855.out) hb); have n1_ := Aside0.mk (blk_below (g := gb859) (o := .cells #[.int .i64 ((rd_T176 (rd_L9 l0_1 x14_1) x20_2).f0), .int .i64 ((rd_T176 (rd_L9 l0_1 x14_1) x20_2).f1), .int .i64 ((rd_T176 (rd_L9 l0_1 x14_1) x20_2).f2), .int .i64 ((rd_T176 (rd_L9 l0_1 x14_1) x20_2).f3)] 176 (0, 0)) (by (with_reducible repeat (first | refine blk_drewN ?_ _ | refine blk_drew ?_ | refine blk_alloc ?_ _)); refine blk_put (cs := #[.int .i64 ((rd_T176 (rd_L9 l0_1 x14_1) x20_2).f0), .int .i64 ((rd_T176 (rd_L9 l0_1 x14_1) x20_2).f1), .int .i64 ((rd_T176 (rd_L9 l0_1 x14_1) x20_2).f2), .int .i64 0]) ?_ 3 _ rfl; (with_reducible repeat (first | refine blk_drewN ?_ _ | refine blk_drew ?_ | refine blk_alloc ?_ _)); refine blk_put (cs := #[.int .i64 ((rd_T176 (rd_L9 l0_1 x14_1) x20_2).f0), .int .i64 ((rd_T176 (rd_L9 l0_1 x14_1) x20_2).f1), .int .i64 0, .int .i64 0]) ?_ 2 _ rfl; (with_reducible repeat (first | refine blk_drewN ?_ _ | refine blk_drew ?_ | refine blk_alloc ?_ _)); refine blk_put (cs := #[.int .i64 ((rd_T176 (rd_L9 l0_1 x14_1) x20_2).f0), .int .i64 0, .int .i64 0, .int .i64 0]) ?_ 1 _ rfl; (with_reducible repeat (first | refine blk_drewN ?_ _ | refine blk_drew ?_ | refine blk_alloc ?_ _)); refine blk_put (cs := #[.int .i64 0, .int .i64 0, .int .i64 0, .int .i64 0]) ?_ 0 _ rfl; (with_reducible repeat (first | refine blk_drewN ?_ _ | refine blk_drew ?_ | refine blk_alloc ?_ _)); exact BK859.out) hb); have n2_ := Aside0.mk (below_step (by repeat (first | (with_reducible first | exact HB.out | apply below_alloc | apply pw_below_drewN | apply below_drew1 | refine below_set ?_ GE855.out | refine below_set ?_ GE859.out) | exact HB.out)) hb); clear BK855; clear BK859; clear HB; have BK855 := n0_; have BK859 := n1_; have HB := n2_; clear n0_ n1_ n2_; (try clear hb); (try clear hb2); (try clear hk); (try clear hi)) | ((with_reducible refine gate_callee (f := 182) rfl ?_); refine goesL_ (some 27) rfl rfl Try.func182 (by kernel_rfl) rfl #[.bool t860] rfl (by (try simp only [List.map_toArray, List.map_cons, List.map_nil]); first | done | rfl | (simp only [List.length_drop, List.length_take]; rfl)) ?_; (with_reducible refine (impl_flag.calls t860 t861 _ A15.out).mono ?_); rintro e w' ⟨rfl, ⟨nd, rfl⟩⟩; refine ⟨_, rfl, ?_⟩))
                        go_roundg k2
                        case measure => have := HK1.out; have := HK2.out; omega
                        case rel => exact ⟨(wrap64 (x3_2 + t861)), (wrap64 (x20_2 + 1)), (by first | rfl | (simp; done) | (simp [*]; done)), (by first | rfl | (simp; done) | (simp [*]; done)), H', ⟨by have := HK1.out; have := HK2.out; omega⟩, ⟨by (with_reducible repeat (first | refine blk_drewN ?_ _ | refine blk_drew ?_ | refine blk_alloc ?_ _)); exact BK855.out⟩, ⟨by repeat (first | (with_reducible first | exact HB.out | apply below_alloc | apply pw_below_drewN | apply below_drew1 | refine below_set ?_ GE855.out | refine below_set ?_ GE859.out) | exact HB.out)⟩⟩
                      · rw [if_neg c13] at H
                        exact absurd H (by simp)
                    · rw [if_neg c12] at H
                      exact absurd H (by simp)
                  · rw [if_neg c11] at H
                    have c11b0 : decide (x20_2 < ((rd_L9 l0_1 x14_1).length : Int)) = false := decide_eq_false c11
                    clear c11
                    have H' := Aside0.mk H
                    clear H
                    go_wp2
                    go_roundg k2
                    case measure => have := HK1.out; have := HK2.out; omega
                    case rel => exact ⟨(x3_2), (wrap64 (x14_1 + 1)), (by first | rfl | (simp; done) | (simp [*]; done)), (by first | rfl | (simp; done) | (simp [*]; done)), H', ⟨by have := HK1.out; have := HK2.out; omega⟩, ⟨by (with_reducible repeat (first | refine blk_drewN ?_ _ | refine blk_drew ?_ | refine blk_alloc ?_ _)); exact BK855.out⟩, ⟨by repeat (first | (with_reducible first | exact HB.out | apply below_alloc | apply pw_below_drewN | apply below_drew1 | refine below_set ?_ GE855.out) | exact HB.out)⟩⟩
            · rw [if_neg c10] at H
              exact absurd H (by simp)
          · rw [if_neg c9] at H
            exact absurd H (by simp)
        · rw [if_neg c8] at H
          have c8b0 : decide (x14_1 < (l0_1.length : Int)) = false := decide_eq_false c8
          clear c8
          obtain rfl := Option.some.inj H
          go_wp2
          go_ret
          exact ⟨by first | rfl | (simp [errW_none, errW_some] <;> rfl) | (simp [*, errW_none, errW_some] <;> rfl), by repeat (first | (with_reducible first | exact HB.out | apply below_alloc | apply pw_below_drewN | apply below_drew1 | refine below_set ?_ GE855.out) | exact HB.out)⟩
  · replace c3 := Bool.eq_false_iff.mpr c3
    subst c3
    have H1 : (some (-1)) = some r := by rw [if_neg (show ¬ (false = true) by decide)] at H; exact H
    clear H
    have H := H1
    clear H1
    obtain rfl := Option.some.inj H
    go_enter Try.func85, Try.ntmps85
    go_wp2_with (first | ((with_reducible refine gate_dst (N := 1) rfl ?_); refine box_event ?hg (N := 1) ?hd (cs := #[.int .i64 a0_0, .slice A0_1 l0_1.length c0_1]) (t := 81) ?hr ?_; (case hd => rfl); (case hg => rfl); (case hr => first | (go_simp; done) | (go_simp; rfl)); intro gb855 hg w20 hbox hb; have n0_ := Aside0.mk (below_step (by repeat (first | (with_reducible first | exact HB.out | apply below_alloc | apply pw_below_drewN | apply below_drew1) | exact HB.out)) hb); have n1_ := Aside0.mk (hbox); have n2_ := Aside0.mk ((by rw [hg]; exact (below_size (by repeat (first | (with_reducible first | exact HB.out | apply below_alloc | apply pw_below_drewN | apply below_drew1) | exact HB.out))) : w.heap.size ≤ gb855)); have n3_ := Aside0.mk ((by rw [hg]; exact (below_size (by repeat (first | (with_reducible first | exact HB.out | apply below_alloc | apply pw_below_drewN | apply below_drew1) | exact HB.out))) : w.heap.size ≤ gb855)); clear HB; have HB := n0_; have BK855 := n1_; have GW855 := n2_; have GE855 := n3_; clear n0_ n1_ n2_ n3_; clear hb hbox hg; have hcz21_0 : w20.cell? ⟨gb855, 0, none⟩ = some (.int .i64 a0_0) := (blk_cell BK855.out 0).trans rfl; have hcz21_1 : w20.cell? ⟨gb855, 1, none⟩ = some (.slice A0_1 l0_1.length c0_1) := (blk_cell BK855.out 1).trans rfl; have hfz21_0 := blk_frozen BK855.out 0; have hfz21_1 := blk_frozen BK855.out 1) | ((with_reducible refine gate_callee (f := 71) rfl ?_); refine goesL_ (some 9) rfl rfl Try.func71 (by kernel_rfl) rfl #[.agg #[.int .i64 a0_0, .slice A0_1 l0_1.length c0_1]] rfl (by (try simp only [List.map_toArray, List.map_cons, List.map_nil]); first | done | rfl | (simp only [List.length_drop, List.length_take]; rfl)) ?_; (with_reducible refine (impl_ProgOk.calls a0_0 _ _ l0_1 false _ ?side1 ?side2 A2.out).mono ?_); (case side1 => repeat (first | exact (Kd.C_below HR0_1.out HB.out) | (with_reducible refine Kd.C_alloc ?_ _) | (with_reducible refine Kd.C_drewN ?_ _) | (with_reducible refine Kd.C_drew ?_))); (case side2 => exact HC0_1.out); rintro e w22 ⟨rfl, hb⟩; refine ⟨_, rfl, ?_⟩; have n0_ := Aside0.mk (blk_below (g := gb855) (o := .cells #[.int .i64 a0_0, .slice A0_1 l0_1.length c0_1] 81 (0, 0)) (by (with_reducible repeat (first | refine blk_drewN ?_ _ | refine blk_drew ?_ | refine blk_alloc ?_ _)); exact BK855.out) hb); have n1_ := Aside0.mk (below_step (by repeat (first | (with_reducible first | exact HB.out | apply below_alloc | apply pw_below_drewN | apply below_drew1 | refine below_set ?_ GE855.out) | exact HB.out)) hb); clear BK855; clear HB; have BK855 := n0_; have HB := n1_; clear n0_ n1_; (try clear hb); (try clear hb2); (try clear hk); (try clear hi)))
    go_ret
    exact ⟨by first | rfl | (simp [errW_none, errW_some] <;> rfl) | (simp [*, errW_none, errW_some] <;> rfl), by repeat (first | (with_reducible first | exact HB.out | apply below_alloc | apply pw_below_drewN | apply below_drew1 | refine below_set ?_ GE855.out) | exact HB.out)⟩

end Go.Proofs.Ytkjndikkdbfhbaa.P
