-- Written by mp.py (the session's own driver over the kit's printer) for the seat Ytpcfcdnmpginhaa.
import Derived.Test.YtpcfcdnmpginhaaK
import Derived.Test.YtpcfcdnmpginhaaE
import Derived.Test.YtpcfcdnmpginhaaPlawsszIntS
import Derived.Test.YtpcfcdnmpginhaaPlawstoHold
namespace Go.Proofs.Ytpcfcdnmpginhaa.P
open Go.RowKit Go.Proofs.YtpcfcdnmpginhaaW.PrintWords Go.Proofs.YtpcfcdnmpginhaaW.PrintLast Go.Proofs.YtpcfcdnmpginhaaW.PrintMore
attribute [local go_sem] max2_int min2_int max_two min_two max_three min_three max_four min_four
set_option linter.unusedVariables false
set_option linter.unusedSimpArgs false

/-! ### laws_toBench: function 22 -/
def laws_toBench.f (k : Nat) (l0_0 : List Int) (l0_1 : List (S194)) (l0_2 : List Int) (l0_3 : List Int) (a0_4 : Int) : Option (List Int × (List (S123)) × List Int × List Int × Int) := (laws_toIntS.f k l0_0).bind fun t4 => ((laws_toHoldS.f k l0_1).bind fun t7 => ((laws_toIntS.f k l0_2).bind fun t10 => ((laws_toIntS.f k l0_3).bind fun t13 => (some (t4, t7, t10, t13, a0_4)))))
theorem laws_toBench.mono : ∀ a0 a1 a2 a3 a4 k, LeO (laws_toBench.f k a0 a1 a2 a3 a4) (laws_toBench.f (k + 1) a0 a1 a2 a3 a4) := by
 intro a0 a1 a2 a3 a4 k
 unfold laws_toBench.f
 repeat' first
   | (with_reducible exact laws_toHoldS.mono _ _)
   | (with_reducible exact laws_toIntS.mono _ _)
   | (with_reducible exact LeO.refl _)
   | (with_reducible exact LeO.none _)
   | (with_reducible refine LeO.ite ?_ ?_)
   | (with_reducible refine LeO.bind ?_ (fun _ => ?_))
   | exact laws_toHoldS.mono _ _
   | exact laws_toIntS.mono _ _
   | exact LeO.none _
   | refine LeO.ite ?_ ?_
   | refine LeO.bind ?_ (fun _ => ?_)
set_option maxHeartbeats 8000000 in
set_option maxRecDepth 100000 in
theorem laws_toBench.calls (k : Nat) (A0_0 : Option Addr) (c0_0 : Nat) (l0_0 : List Int) (A0_1 : Option Addr) (c0_1 : Nat) (l0_1 : List (S194)) (A0_2 : Option Addr) (c0_2 : Nat) (l0_2 : List Int) (A0_3 : Option Addr) (c0_3 : Nat) (l0_3 : List Int) (a0_4 : Int) (r1 : List Int) (r2 : List (S123)) (r3 : List Int) (r4 : List Int) (r5 : Int) (w : World) (hr0_0 : Kd.C (Kd.int .i64) w A0_0 l0_0.length l0_0) (hc0_0 : l0_0.length ≤ c0_0) (hr0_1 : Kd.C k194 w A0_1 l0_1.length l0_1) (hc0_1 : l0_1.length ≤ c0_1) (hr0_2 : Kd.C (Kd.int .i64) w A0_2 l0_2.length l0_2) (hc0_2 : l0_2.length ≤ c0_2) (hr0_3 : Kd.C (Kd.int .i64) w A0_3 l0_3.length l0_3) (hc0_3 : l0_3.length ≤ c0_3) (h : laws_toBench.f k l0_0 l0_1 l0_2 l0_3 a0_4 = some (r1, r2, r3, r4, r5)) :
  Calls Try.prog 22 #[.agg #[.slice A0_0 l0_0.length c0_0, .slice A0_1 l0_1.length c0_1, .slice A0_2 l0_2.length c0_2, .slice A0_3 l0_3.length c0_3, .int .i64 a0_4]] w fun e w' => ∃ v0_ v1_ v2_ v3_ : Value, e = .returned (.agg #[v0_, v1_, v2_, v3_, .int .i64 r5]) ∧ Kd.R (Kd.int .i64) 3 w' w.heap.size (fun k_ => some k_ ≠ (v2_ : Value).ownBlock ∧ some k_ ≠ (v3_ : Value).ownBlock) v0_ r1 ∧ Kd.R k123 123 w' w.heap.size (fun _ => True) v1_ r2 ∧ Kd.R (Kd.int .i64) 3 w' w.heap.size (fun k_ => some k_ ≠ (v0_ : Value).ownBlock ∧ some k_ ≠ (v3_ : Value).ownBlock) v2_ r3 ∧ Kd.R (Kd.int .i64) 3 w' w.heap.size (fun k_ => some k_ ≠ (v0_ : Value).ownBlock ∧ some k_ ≠ (v2_ : Value).ownBlock) v3_ r4 ∧ Below w.heap.size w w' := by
 have hu25 := Try.underlying25
 have hu30 := Try.underlying30
 have HR0_0 := Aside0.mk hr0_0
 have HC0_0 := Aside0.mk hc0_0
 clear hr0_0 hc0_0
 have HR0_1 := Aside0.mk hr0_1
 have HC0_1 := Aside0.mk hc0_1
 clear hr0_1 hc0_1
 have HR0_2 := Aside0.mk hr0_2
 have HC0_2 := Aside0.mk hc0_2
 clear hr0_2 hc0_2
 have HR0_3 := Aside0.mk hr0_3
 have HC0_3 := Aside0.mk hc0_3
 clear hr0_3 hc0_3
 have HB := Aside0.mk (Below.refl w.heap.size w)
 have H : ((laws_toIntS.f k l0_0).bind fun t4 => ((laws_toHoldS.f k l0_1).bind fun t7 => ((laws_toIntS.f k l0_2).bind fun t10 => ((laws_toIntS.f k l0_3).bind fun t13 => (some (t4, t7, t10, t13, a0_4)))))) = some (r1, r2, r3, r4, r5) := h
 clear h
 replace H := Option.bind_eq_some_iff.mp H
 obtain ⟨t4, A20, H⟩ := H
 replace H : ((laws_toHoldS.f k l0_1).bind fun t7 => ((laws_toIntS.f k l0_2).bind fun t10 => ((laws_toIntS.f k l0_3).bind fun t13 => (some (t4, t7, t10, t13, a0_4))))) = some (r1, r2, r3, r4, r5) := H
 have A2 := Aside0.mk A20
 clear A20
 replace H := Option.bind_eq_some_iff.mp H
 obtain ⟨t7, A30, H⟩ := H
 replace H : ((laws_toIntS.f k l0_2).bind fun t10 => ((laws_toIntS.f k l0_3).bind fun t13 => (some (t4, t7, t10, t13, a0_4)))) = some (r1, r2, r3, r4, r5) := H
 have A3 := Aside0.mk A30
 clear A30
 replace H := Option.bind_eq_some_iff.mp H
 obtain ⟨t10, A40, H⟩ := H
 replace H : ((laws_toIntS.f k l0_3).bind fun t13 => (some (t4, t7, t10, t13, a0_4))) = some (r1, r2, r3, r4, r5) := H
 have A4 := Aside0.mk A40
 clear A40
 replace H := Option.bind_eq_some_iff.mp H
 obtain ⟨t13, A50, H⟩ := H
 replace H : (some (t4, t7, t10, t13, a0_4)) = some (r1, r2, r3, r4, r5) := H
 have A5 := Aside0.mk A50
 clear A50
 simp only [Option.some.injEq, Prod.mk.injEq] at H
 obtain ⟨rfl, rfl, rfl, rfl, rfl⟩ := H
 go_enter Try.func22, Try.ntmps22
 go_wp2_with (first | ((with_reducible refine gate_dst (N := 1) rfl ?_); refine box_event ?hg (N := 1) ?hd (cs := #[.slice A0_0 l0_0.length c0_0, .slice A0_1 l0_1.length c0_1, .slice A0_2 l0_2.length c0_2, .slice A0_3 l0_3.length c0_3, .int .i64 a0_4]) (t := 25) ?hr ?_; (case hd => rfl); (case hg => rfl); (case hr => first | (go_simp; done) | (go_simp; rfl)); intro gb1 hg w6 hbox hb; have n0_ := Aside0.mk (below_step bw_ hb); have n1_ := Aside0.mk (hbox); have n2_ := Aside0.mk ((by rw [hg]; exact (below_size bw_) : w.heap.size ≤ gb1)); have n3_ := Aside0.mk ((by rw [hg]; exact (below_size bw_) : w.heap.size ≤ gb1)); clear HB; have HB := n0_; have BK1 := n1_; have GW1 := n2_; have GE1 := n3_; clear n0_ n1_ n2_ n3_; clear hb hbox hg) | ((with_reducible refine gate_dst (N := 2) rfl ?_); refine box_event ?hg (N := 2) ?hd (cs := #[.slice none 0 0, .slice none 0 0, .slice none 0 0, .slice none 0 0, .int .i64 0]) (t := 30) ?hr ?_; (case hd => rfl); (case hg => rfl); (case hr => first | (go_simp; done) | (go_simp; rfl)); intro gb2 hg w7 hbox hb; have n0_ := Aside0.mk (blk_below (g := gb1) (o := .cells #[.slice A0_0 l0_0.length c0_0, .slice A0_1 l0_1.length c0_1, .slice A0_2 l0_2.length c0_2, .slice A0_3 l0_3.length c0_3, .int .i64 a0_4] 25 (0, 0)) bk_ hb); have n1_ := Aside0.mk (below_step bw_ hb); have n2_ := Aside0.mk (hbox); have n3_ := Aside0.mk ((by rw [hg]; exact (below_size bw_) : w.heap.size ≤ gb2)); have n4_ := Aside0.mk ((by rw [hg]; exact (below_size bw_) : w.heap.size ≤ gb2)); have n5_ := Aside0.mk ((by rw [hg]; exact Nat.ne_of_lt (blk_lt (g := gb1) (o := .cells #[.slice A0_0 l0_0.length c0_0, .slice A0_1 l0_1.length c0_1, .slice A0_2 l0_2.length c0_2, .slice A0_3 l0_3.length c0_3, .int .i64 a0_4] 25 (0, 0)) bk_) : gb1 ≠ gb2)); have n6_ := Aside0.mk ((by rw [hg]; exact Nat.ne_of_gt (blk_lt (g := gb1) (o := .cells #[.slice A0_0 l0_0.length c0_0, .slice A0_1 l0_1.length c0_1, .slice A0_2 l0_2.length c0_2, .slice A0_3 l0_3.length c0_3, .int .i64 a0_4] 25 (0, 0)) bk_) : gb2 ≠ gb1)); clear BK1; clear HB; have BK1 := n0_; have HB := n1_; have BK2 := n2_; have GW2 := n3_; have GE2 := n4_; have NB1_2 := n5_; have NB2_1 := n6_; clear n0_ n1_ n2_ n3_ n4_ n5_ n6_; clear hb hbox hg) | ((with_reducible refine gate_dst (N := 3) rfl ?_); refine box_event ?hg (N := 3) ?hd (cs := #[.slice none 0 0, .slice none 0 0, .slice none 0 0, .slice none 0 0, .int .i64 0]) (t := 30) ?hr ?_; (case hd => rfl); (case hg => rfl); (case hr => first | (go_simp; done) | (go_simp; rfl)); intro gb3 hg w8 hbox hb; have n0_ := Aside0.mk (blk_below (g := gb1) (o := .cells #[.slice A0_0 l0_0.length c0_0, .slice A0_1 l0_1.length c0_1, .slice A0_2 l0_2.length c0_2, .slice A0_3 l0_3.length c0_3, .int .i64 a0_4] 25 (0, 0)) bk_ hb); have n1_ := Aside0.mk (blk_below (g := gb2) (o := .cells #[.slice none 0 0, .slice none 0 0, .slice none 0 0, .slice none 0 0, .int .i64 0] 30 (0, 0)) bk_ hb); have n2_ := Aside0.mk (below_step bw_ hb); have n3_ := Aside0.mk (hbox); have n4_ := Aside0.mk ((by rw [hg]; exact (below_size bw_) : w.heap.size ≤ gb3)); have n5_ := Aside0.mk ((by rw [hg]; exact (below_size bw_) : w.heap.size ≤ gb3)); have n6_ := Aside0.mk ((by rw [hg]; exact Nat.ne_of_lt (blk_lt (g := gb1) (o := .cells #[.slice A0_0 l0_0.length c0_0, .slice A0_1 l0_1.length c0_1, .slice A0_2 l0_2.length c0_2, .slice A0_3 l0_3.length c0_3, .int .i64 a0_4] 25 (0, 0)) bk_) : gb1 ≠ gb3)); have n7_ := Aside0.mk ((by rw [hg]; exact Nat.ne_of_gt (blk_lt (g := gb1) (o := .cells #[.slice A0_0 l0_0.length c0_0, .slice A0_1 l0_1.length c0_1, .slice A0_2 l0_2.length c0_2, .slice A0_3 l0_3.length c0_3, .int .i64 a0_4] 25 (0, 0)) bk_) : gb3 ≠ gb1)); have n8_ := Aside0.mk ((by rw [hg]; exact Nat.ne_of_lt (blk_lt (g := gb2) (o := .cells #[.slice none 0 0, .slice none 0 0, .slice none 0 0, .slice none 0 0, .int .i64 0] 30 (0, 0)) bk_) : gb2 ≠ gb3)); have n9_ := Aside0.mk ((by rw [hg]; exact Nat.ne_of_gt (blk_lt (g := gb2) (o := .cells #[.slice none 0 0, .slice none 0 0, .slice none 0 0, .slice none 0 0, .int .i64 0] 30 (0, 0)) bk_) : gb3 ≠ gb2)); clear BK1; clear BK2; clear HB; have BK1 := n0_; have BK2 := n1_; have HB := n2_; have BK3 := n3_; have GW3 := n4_; have GE3 := n5_; have NB1_3 := n6_; have NB3_1 := n7_; have NB2_3 := n8_; have NB3_2 := n9_; clear n0_ n1_ n2_ n3_ n4_ n5_ n6_ n7_ n8_ n9_; clear hb hbox hg; have hnb9 := NB1_2.out; have hnc9 := NB2_1.out; have hnb10 := NB1_3.out; have hnc10 := NB3_1.out; have hcz11_0 := (blk_cell BK1.out 0).trans rfl; have hcz11_1 := (blk_cell BK1.out 1).trans rfl; have hcz11_2 := (blk_cell BK1.out 2).trans rfl; have hcz11_3 := (blk_cell BK1.out 3).trans rfl; have hcz11_4 := (blk_cell BK1.out 4).trans rfl; have hfz11_0 := blk_frozen BK1.out 0; have hfz11_1 := blk_frozen BK1.out 1; have hfz11_2 := blk_frozen BK1.out 2; have hfz11_3 := blk_frozen BK1.out 3; have hfz11_4 := blk_frozen BK1.out 4) | ((with_reducible refine gate_callee (f := 99) rfl ?_); refine goesL_ (some 6) rfl rfl Try.func99 (by kernel_rfl) rfl #[.slice A0_0 l0_0.length c0_0] rfl ar_ ?_; (with_reducible refine (laws_toIntS.calls k _ _ l0_0 t4 _ ?side1 ?side2 A2.out).mono ?_); (case side1 => exact cb_); (case side2 => exact HC0_0.out); rintro e w12 ⟨v5, rfl, ho0, hb⟩; refine ⟨_, rfl, ?_⟩; have n0_ := Aside0.mk (Kd.R_lower ho0 (below_size bw_)); have n1_ := Aside0.mk (blk_below (g := gb1) (o := .cells #[.slice A0_0 l0_0.length c0_0, .slice A0_1 l0_1.length c0_1, .slice A0_2 l0_2.length c0_2, .slice A0_3 l0_3.length c0_3, .int .i64 a0_4] 25 (0, 0)) bk_ hb); have n2_ := Aside0.mk (blk_below (g := gb2) (o := .cells #[.slice none 0 0, .slice none 0 0, .slice none 0 0, .slice none 0 0, .int .i64 0] 30 (0, 0)) bk_ hb); have n3_ := Aside0.mk (blk_below (g := gb3) (o := .cells #[.slice none 0 0, .slice none 0 0, .slice none 0 0, .slice none 0 0, .int .i64 0] 30 (0, 0)) bk_ hb); have n4_ := Aside0.mk (below_step bw_ hb); clear BK1; clear BK2; clear BK3; clear HB; have HO6 := n0_; have BK1 := n1_; have BK2 := n2_; have BK3 := n3_; have HB := n4_; clear n0_ n1_ n2_ n3_ n4_; (try clear hb); (try clear hb2); (try clear hk); (try clear hi); (try clear ho0); obtain ⟨Ao13, co13, eo13⟩ := Kd.R_slice HO6.out; subst eo13; have hnb14 := NB3_2.out; have hnc14 := NB2_3.out; have hcz15_0 := (blk_cell BK3.out 0).trans rfl; have hcz15_1 := (blk_cell BK3.out 1).trans rfl; have hcz15_2 := (blk_cell BK3.out 2).trans rfl; have hcz15_3 := (blk_cell BK3.out 3).trans rfl; have hcz15_4 := (blk_cell BK3.out 4).trans rfl; have hfz15_0 := blk_frozen BK3.out 0; have hfz15_1 := blk_frozen BK3.out 1; have hfz15_2 := blk_frozen BK3.out 2; have hfz15_3 := blk_frozen BK3.out 3; have hfz15_4 := blk_frozen BK3.out 4; have hcz16_0 := (blk_cell BK1.out 0).trans rfl; have hcz16_1 := (blk_cell BK1.out 1).trans rfl; have hcz16_2 := (blk_cell BK1.out 2).trans rfl; have hcz16_3 := (blk_cell BK1.out 3).trans rfl; have hcz16_4 := (blk_cell BK1.out 4).trans rfl; have hfz16_0 := blk_frozen BK1.out 0; have hfz16_1 := blk_frozen BK1.out 1; have hfz16_2 := blk_frozen BK1.out 2; have hfz16_3 := blk_frozen BK1.out 3; have hfz16_4 := blk_frozen BK1.out 4) | ((with_reducible refine gate_callee (f := 100) rfl ?_); refine goesL_ (some 10) rfl rfl Try.func100 (by kernel_rfl) rfl #[.slice A0_1 l0_1.length c0_1] rfl ar_ ?_; (with_reducible refine (laws_toHoldS.calls k _ _ l0_1 t7 _ ?side1 ?side2 A3.out).mono ?_); (case side1 => exact Kd.C_below HR0_1.out bw_); (case side2 => exact HC0_1.out); rintro e w17 ⟨v8, rfl, ho0, hb⟩; refine ⟨_, rfl, ?_⟩; have n0_ := Aside0.mk (Kd.R_below (by (with_reducible repeat (first | apply Kd.R_alloc | apply Kd.R_drewN | apply Kd.R_drew)); exact (Kd.R_mono (Kd.R_far (p := ⟨gb3, 0, none⟩) (Kd.R_types HO6.out BK3.out (by decide)) (fun _ hk => hk.2) (.slice Ao13 t4.length co13)) (fun _ h_ => h_.1))) hb); have n1_ := Aside0.mk (Kd.R_lower ho0 (below_size bw_)); have n2_ := Aside0.mk (blk_below (g := gb1) (o := .cells #[.slice A0_0 l0_0.length c0_0, .slice A0_1 l0_1.length c0_1, .slice A0_2 l0_2.length c0_2, .slice A0_3 l0_3.length c0_3, .int .i64 a0_4] 25 (0, 0)) (by (with_reducible repeat (first | refine blk_drewN ?_ _ | refine blk_drew ?_ | refine blk_alloc ?_ _)); refine blk_far ?_ NB1_3.out _; (with_reducible repeat (first | refine blk_drewN ?_ _ | refine blk_drew ?_ | refine blk_alloc ?_ _)); exact BK1.out) hb); have n3_ := Aside0.mk (blk_below (g := gb2) (o := .cells #[.slice none 0 0, .slice none 0 0, .slice none 0 0, .slice none 0 0, .int .i64 0] 30 (0, 0)) (by (with_reducible repeat (first | refine blk_drewN ?_ _ | refine blk_drew ?_ | refine blk_alloc ?_ _)); refine blk_far ?_ NB2_3.out _; (with_reducible repeat (first | refine blk_drewN ?_ _ | refine blk_drew ?_ | refine blk_alloc ?_ _)); exact BK2.out) hb); have n4_ := Aside0.mk (blk_below (g := gb3) (o := .cells #[.slice Ao13 t4.length co13, .slice none 0 0, .slice none 0 0, .slice none 0 0, .int .i64 0] 30 (0, 0)) (by (with_reducible repeat (first | refine blk_drewN ?_ _ | refine blk_drew ?_ | refine blk_alloc ?_ _)); refine blk_put (cs := #[.slice none 0 0, .slice none 0 0, .slice none 0 0, .slice none 0 0, .int .i64 0]) ?_ 0 _ rfl; (with_reducible repeat (first | refine blk_drewN ?_ _ | refine blk_drew ?_ | refine blk_alloc ?_ _)); exact BK3.out) hb); have n5_ := Aside0.mk (below_step bw_ hb); clear HO6; clear BK1; clear BK2; clear BK3; clear HB; have HO6 := n0_; have HO9 := n1_; have BK1 := n2_; have BK2 := n3_; have BK3 := n4_; have HB := n5_; clear n0_ n1_ n2_ n3_ n4_ n5_; (try clear hb); (try clear hb2); (try clear hk); (try clear hi); (try clear ho0); obtain ⟨Ao18, co18, eo18⟩ := Kd.R_slice HO9.out; subst eo18; have hcz19_0 := (blk_cell BK3.out 0).trans rfl; have hcz19_1 := (blk_cell BK3.out 1).trans rfl; have hcz19_2 := (blk_cell BK3.out 2).trans rfl; have hcz19_3 := (blk_cell BK3.out 3).trans rfl; have hcz19_4 := (blk_cell BK3.out 4).trans rfl; have hfz19_0 := blk_frozen BK3.out 0; have hfz19_1 := blk_frozen BK3.out 1; have hfz19_2 := blk_frozen BK3.out 2; have hfz19_3 := blk_frozen BK3.out 3; have hfz19_4 := blk_frozen BK3.out 4; have hcz20_0 := (blk_cell BK1.out 0).trans rfl; have hcz20_1 := (blk_cell BK1.out 1).trans rfl; have hcz20_2 := (blk_cell BK1.out 2).trans rfl; have hcz20_3 := (blk_cell BK1.out 3).trans rfl; have hcz20_4 := (blk_cell BK1.out 4).trans rfl; have hfz20_0 := blk_frozen BK1.out 0; have hfz20_1 := blk_frozen BK1.out 1; have hfz20_2 := blk_frozen BK1.out 2; have hfz20_3 := blk_frozen BK1.out 3; have hfz20_4 := blk_frozen BK1.out 4) | ((with_reducible refine gate_callee (f := 99) rfl ?_); refine goesL_ (some 14) rfl rfl Try.func99 (by kernel_rfl) rfl #[.slice A0_2 l0_2.length c0_2] rfl ar_ ?_; (with_reducible refine (laws_toIntS.calls k _ _ l0_2 t10 _ ?side1 ?side2 A4.out).mono ?_); (case side1 => exact Kd.C_below HR0_2.out bw_); (case side2 => exact HC0_2.out); rintro e w21 ⟨v11, rfl, ho0, hb⟩; refine ⟨_, rfl, ?_⟩; have n0_ := Aside0.mk (Kd.R_elder' (by (with_reducible repeat (first | apply Kd.R_alloc | apply Kd.R_drewN | apply Kd.R_drew)); exact (Kd.R_mono (Kd.R_far (p := ⟨gb3, 1, none⟩) (Kd.R_types HO6.out BK3.out (by decide)) (fun _ hk => hk.2) (.slice Ao18 t7.length co18)) (fun _ h_ => h_.1))) (Kd.R_base ho0) hb); have n1_ := Aside0.mk (Kd.R_below (by (with_reducible repeat (first | apply Kd.R_alloc | apply Kd.R_drewN | apply Kd.R_drew)); exact (Kd.R_mono (Kd.R_far (p := ⟨gb3, 1, none⟩) (Kd.R_types HO9.out BK3.out (by decide)) (fun _ hk => hk.2) (.slice Ao18 t7.length co18)) (fun _ h_ => h_.1))) hb); have n2_ := Aside0.mk (Kd.R_lower (Kd.R_new' ho0 (Kd.R_lt (by (with_reducible repeat (first | apply Kd.R_alloc | apply Kd.R_drewN | apply Kd.R_drew)); exact (Kd.R_mono (Kd.R_far (p := ⟨gb3, 1, none⟩) (Kd.R_types HO6.out BK3.out (by decide)) (fun _ hk => hk.2) (.slice Ao18 t7.length co18)) (fun _ h_ => h_.1))))) (below_size bw_)); have n3_ := Aside0.mk (blk_below (g := gb1) (o := .cells #[.slice A0_0 l0_0.length c0_0, .slice A0_1 l0_1.length c0_1, .slice A0_2 l0_2.length c0_2, .slice A0_3 l0_3.length c0_3, .int .i64 a0_4] 25 (0, 0)) (by (with_reducible repeat (first | refine blk_drewN ?_ _ | refine blk_drew ?_ | refine blk_alloc ?_ _)); refine blk_far ?_ NB1_3.out _; (with_reducible repeat (first | refine blk_drewN ?_ _ | refine blk_drew ?_ | refine blk_alloc ?_ _)); exact BK1.out) hb); have n4_ := Aside0.mk (blk_below (g := gb2) (o := .cells #[.slice none 0 0, .slice none 0 0, .slice none 0 0, .slice none 0 0, .int .i64 0] 30 (0, 0)) (by (with_reducible repeat (first | refine blk_drewN ?_ _ | refine blk_drew ?_ | refine blk_alloc ?_ _)); refine blk_far ?_ NB2_3.out _; (with_reducible repeat (first | refine blk_drewN ?_ _ | refine blk_drew ?_ | refine blk_alloc ?_ _)); exact BK2.out) hb); have n5_ := Aside0.mk (blk_below (g := gb3) (o := .cells #[.slice Ao13 t4.length co13, .slice Ao18 t7.length co18, .slice none 0 0, .slice none 0 0, .int .i64 0] 30 (0, 0)) (by (with_reducible repeat (first | refine blk_drewN ?_ _ | refine blk_drew ?_ | refine blk_alloc ?_ _)); refine blk_put (cs := #[.slice Ao13 t4.length co13, .slice none 0 0, .slice none 0 0, .slice none 0 0, .int .i64 0]) ?_ 1 _ rfl; (with_reducible repeat (first | refine blk_drewN ?_ _ | refine blk_drew ?_ | refine blk_alloc ?_ _)); exact BK3.out) hb); have n6_ := Aside0.mk (below_step bw_ hb); clear HO6; clear HO9; clear BK1; clear BK2; clear BK3; clear HB; have HO6 := n0_; have HO9 := n1_; have HO12 := n2_; have BK1 := n3_; have BK2 := n4_; have BK3 := n5_; have HB := n6_; clear n0_ n1_ n2_ n3_ n4_ n5_ n6_; (try clear hb); (try clear hb2); (try clear hk); (try clear hi); (try clear ho0); obtain ⟨Ao22, co22, eo22⟩ := Kd.R_slice HO12.out; subst eo22; have hcz23_0 := (blk_cell BK3.out 0).trans rfl; have hcz23_1 := (blk_cell BK3.out 1).trans rfl; have hcz23_2 := (blk_cell BK3.out 2).trans rfl; have hcz23_3 := (blk_cell BK3.out 3).trans rfl; have hcz23_4 := (blk_cell BK3.out 4).trans rfl; have hfz23_0 := blk_frozen BK3.out 0; have hfz23_1 := blk_frozen BK3.out 1; have hfz23_2 := blk_frozen BK3.out 2; have hfz23_3 := blk_frozen BK3.out 3; have hfz23_4 := blk_frozen BK3.out 4; have hcz24_0 := (blk_cell BK1.out 0).trans rfl; have hcz24_1 := (blk_cell BK1.out 1).trans rfl; have hcz24_2 := (blk_cell BK1.out 2).trans rfl; have hcz24_3 := (blk_cell BK1.out 3).trans rfl; have hcz24_4 := (blk_cell BK1.out 4).trans rfl; have hfz24_0 := blk_frozen BK1.out 0; have hfz24_1 := blk_frozen BK1.out 1; have hfz24_2 := blk_frozen BK1.out 2; have hfz24_3 := blk_frozen BK1.out 3; have hfz24_4 := blk_frozen BK1.out 4) | ((with_reducible refine gate_callee (f := 99) rfl ?_); refine goesL_ (some 18) rfl rfl Try.func99 (by kernel_rfl) rfl #[.slice A0_3 l0_3.length c0_3] rfl ar_ ?_; (with_reducible refine (laws_toIntS.calls k _ _ l0_3 t13 _ ?side1 ?side2 A5.out).mono ?_); (case side1 => exact Kd.C_below HR0_3.out bw_); (case side2 => exact HC0_3.out); rintro e w25 ⟨v14, rfl, ho0, hb⟩; refine ⟨_, rfl, ?_⟩; have n0_ := Aside0.mk (Kd.R_elder' (by (with_reducible repeat (first | apply Kd.R_alloc | apply Kd.R_drewN | apply Kd.R_drew)); exact (Kd.R_mono (Kd.R_far (p := ⟨gb3, 2, none⟩) (Kd.R_types HO6.out BK3.out (by decide)) (fun _ hk => hk.2) (.slice Ao22 t10.length co22)) (fun _ h_ => h_.1))) (Kd.R_base ho0) hb); have n1_ := Aside0.mk (Kd.R_below (by (with_reducible repeat (first | apply Kd.R_alloc | apply Kd.R_drewN | apply Kd.R_drew)); exact (Kd.R_mono (Kd.R_far (p := ⟨gb3, 2, none⟩) (Kd.R_types HO9.out BK3.out (by decide)) (fun _ hk => hk.2) (.slice Ao22 t10.length co22)) (fun _ h_ => h_.1))) hb); have n2_ := Aside0.mk (Kd.R_elder' (by (with_reducible repeat (first | apply Kd.R_alloc | apply Kd.R_drewN | apply Kd.R_drew)); exact (Kd.R_mono (Kd.R_far (p := ⟨gb3, 2, none⟩) (Kd.R_types HO12.out BK3.out (by decide)) (fun _ hk => hk.2) (.slice Ao22 t10.length co22)) (fun _ h_ => h_.1))) (Kd.R_base ho0) hb); have n3_ := Aside0.mk (Kd.R_lower (Kd.R_new' (Kd.R_new' ho0 (Kd.R_lt (by (with_reducible repeat (first | apply Kd.R_alloc | apply Kd.R_drewN | apply Kd.R_drew)); exact (Kd.R_mono (Kd.R_far (p := ⟨gb3, 2, none⟩) (Kd.R_types HO6.out BK3.out (by decide)) (fun _ hk => hk.2) (.slice Ao22 t10.length co22)) (fun _ h_ => h_.1))))) (Kd.R_lt (by (with_reducible repeat (first | apply Kd.R_alloc | apply Kd.R_drewN | apply Kd.R_drew)); exact (Kd.R_mono (Kd.R_far (p := ⟨gb3, 2, none⟩) (Kd.R_types HO12.out BK3.out (by decide)) (fun _ hk => hk.2) (.slice Ao22 t10.length co22)) (fun _ h_ => h_.1))))) (below_size bw_)); have n4_ := Aside0.mk (blk_below (g := gb1) (o := .cells #[.slice A0_0 l0_0.length c0_0, .slice A0_1 l0_1.length c0_1, .slice A0_2 l0_2.length c0_2, .slice A0_3 l0_3.length c0_3, .int .i64 a0_4] 25 (0, 0)) (by (with_reducible repeat (first | refine blk_drewN ?_ _ | refine blk_drew ?_ | refine blk_alloc ?_ _)); refine blk_far ?_ NB1_3.out _; (with_reducible repeat (first | refine blk_drewN ?_ _ | refine blk_drew ?_ | refine blk_alloc ?_ _)); exact BK1.out) hb); have n5_ := Aside0.mk (blk_below (g := gb2) (o := .cells #[.slice none 0 0, .slice none 0 0, .slice none 0 0, .slice none 0 0, .int .i64 0] 30 (0, 0)) (by (with_reducible repeat (first | refine blk_drewN ?_ _ | refine blk_drew ?_ | refine blk_alloc ?_ _)); refine blk_far ?_ NB2_3.out _; (with_reducible repeat (first | refine blk_drewN ?_ _ | refine blk_drew ?_ | refine blk_alloc ?_ _)); exact BK2.out) hb); have n6_ := Aside0.mk (blk_below (g := gb3) (o := .cells #[.slice Ao13 t4.length co13, .slice Ao18 t7.length co18, .slice Ao22 t10.length co22, .slice none 0 0, .int .i64 0] 30 (0, 0)) (by (with_reducible repeat (first | refine blk_drewN ?_ _ | refine blk_drew ?_ | refine blk_alloc ?_ _)); refine blk_put (cs := #[.slice Ao13 t4.length co13, .slice Ao18 t7.length co18, .slice none 0 0, .slice none 0 0, .int .i64 0]) ?_ 2 _ rfl; (with_reducible repeat (first | refine blk_drewN ?_ _ | refine blk_drew ?_ | refine blk_alloc ?_ _)); exact BK3.out) hb); have n7_ := Aside0.mk (below_step bw_ hb); clear HO6; clear HO9; clear HO12; clear BK1; clear BK2; clear BK3; clear HB; have HO6 := n0_; have HO9 := n1_; have HO12 := n2_; have HO15 := n3_; have BK1 := n4_; have BK2 := n5_; have BK3 := n6_; have HB := n7_; clear n0_ n1_ n2_ n3_ n4_ n5_ n6_ n7_; (try clear hb); (try clear hb2); (try clear hk); (try clear hi); (try clear ho0); obtain ⟨Ao26, co26, eo26⟩ := Kd.R_slice HO15.out; subst eo26; have hcz27_0 := (blk_cell BK3.out 0).trans rfl; have hcz27_1 := (blk_cell BK3.out 1).trans rfl; have hcz27_2 := (blk_cell BK3.out 2).trans rfl; have hcz27_3 := (blk_cell BK3.out 3).trans rfl; have hcz27_4 := (blk_cell BK3.out 4).trans rfl; have hfz27_0 := blk_frozen BK3.out 0; have hfz27_1 := blk_frozen BK3.out 1; have hfz27_2 := blk_frozen BK3.out 2; have hfz27_3 := blk_frozen BK3.out 3; have hfz27_4 := blk_frozen BK3.out 4; have hcz28_0 := (blk_cell BK1.out 0).trans rfl; have hcz28_1 := (blk_cell BK1.out 1).trans rfl; have hcz28_2 := (blk_cell BK1.out 2).trans rfl; have hcz28_3 := (blk_cell BK1.out 3).trans rfl; have hcz28_4 := (blk_cell BK1.out 4).trans rfl; have hfz28_0 := blk_frozen BK1.out 0; have hfz28_1 := blk_frozen BK1.out 1; have hfz28_2 := blk_frozen BK1.out 2; have hfz28_3 := blk_frozen BK1.out 3; have hfz28_4 := blk_frozen BK1.out 4; have hcz29_0 := (blk_cell BK2.out 0).trans rfl; have hcz29_1 := (blk_cell BK2.out 1).trans rfl; have hcz29_2 := (blk_cell BK2.out 2).trans rfl; have hcz29_3 := (blk_cell BK2.out 3).trans rfl; have hcz29_4 := (blk_cell BK2.out 4).trans rfl; have hfz29_0 := blk_frozen BK2.out 0; have hfz29_1 := blk_frozen BK2.out 1; have hfz29_2 := blk_frozen BK2.out 2; have hfz29_3 := blk_frozen BK2.out 3; have hfz29_4 := blk_frozen BK2.out 4))
 refine bodyPost_ret (results_cell_row rfl _ _ gb2 30 #[.slice Ao13 t4.length co13, .slice Ao18 t7.length co18, .slice Ao22 t10.length co22, .slice Ao26 t13.length co26, .int .i64 a0_4] (0, 0) _ rfl (by (with_reducible repeat (first | refine blk_drewN ?_ _ | refine blk_drew ?_ | refine blk_alloc ?_ _)); refine blk_put (cs := #[.slice Ao13 t4.length co13, .slice Ao18 t7.length co18, .slice Ao22 t10.length co22, .slice Ao26 t13.length co26, .int .i64 0]) ?_ 4 _ rfl; (with_reducible repeat (first | refine blk_drewN ?_ _ | refine blk_drew ?_ | refine blk_alloc ?_ _)); refine blk_put (cs := #[.slice Ao13 t4.length co13, .slice Ao18 t7.length co18, .slice Ao22 t10.length co22, .slice none 0 0, .int .i64 0]) ?_ 3 _ rfl; (with_reducible repeat (first | refine blk_drewN ?_ _ | refine blk_drew ?_ | refine blk_alloc ?_ _)); refine blk_put (cs := #[.slice Ao13 t4.length co13, .slice Ao18 t7.length co18, .slice none 0 0, .slice none 0 0, .int .i64 0]) ?_ 2 _ rfl; (with_reducible repeat (first | refine blk_drewN ?_ _ | refine blk_drew ?_ | refine blk_alloc ?_ _)); refine blk_put (cs := #[.slice Ao13 t4.length co13, .slice none 0 0, .slice none 0 0, .slice none 0 0, .int .i64 0]) ?_ 1 _ rfl; (with_reducible repeat (first | refine blk_drewN ?_ _ | refine blk_drew ?_ | refine blk_alloc ?_ _)); refine blk_put (cs := #[.slice none 0 0, .slice none 0 0, .slice none 0 0, .slice none 0 0, .int .i64 0]) ?_ 0 _ rfl; (with_reducible repeat (first | refine blk_drewN ?_ _ | refine blk_drew ?_ | refine blk_alloc ?_ _)); refine blk_far ?_ NB2_3.out _; (with_reducible repeat (first | refine blk_drewN ?_ _ | refine blk_drew ?_ | refine blk_alloc ?_ _)); refine blk_far ?_ NB2_3.out _; (with_reducible repeat (first | refine blk_drewN ?_ _ | refine blk_drew ?_ | refine blk_alloc ?_ _)); exact BK2.out) Try.underlying30 rfl (by kernel_rfl)) rfl ?_
 exact ⟨_, _, _, _, rr_, by (with_reducible repeat (first | apply Kd.R_alloc | apply Kd.R_drewN | apply Kd.R_drew)); exact Kd.R_mono (Kd.R_far (p := ⟨gb2, 4, none⟩) (Kd.R_far (p := ⟨gb2, 3, none⟩) (Kd.R_far (p := ⟨gb2, 2, none⟩) (Kd.R_far (p := ⟨gb2, 1, none⟩) (Kd.R_far (p := ⟨gb2, 0, none⟩) (Kd.R_far (p := ⟨gb3, 4, none⟩) (Kd.R_far (p := ⟨gb3, 3, none⟩) (Kd.R_types (Kd.R_types HO6.out BK3.out (by decide)) BK2.out (by decide)) (fun _ hk => hk.1.2) (.slice Ao26 t13.length co26)) (fun _ hk => hk.1.2) (.int .i64 a0_4)) (fun _ hk => hk.2) (.slice Ao13 t4.length co13)) (fun _ hk => hk.2) (.slice Ao18 t7.length co18)) (fun _ hk => hk.2) (.slice Ao22 t10.length co22)) (fun _ hk => hk.2) (.slice Ao26 t13.length co26)) (fun _ hk => hk.2) (.int .i64 a0_4)) (fun _ hk => ⟨hk.1.1.1.2, hk.1.1.2⟩), by (with_reducible repeat (first | apply Kd.R_alloc | apply Kd.R_drewN | apply Kd.R_drew)); exact Kd.R_mono (Kd.R_far (p := ⟨gb2, 4, none⟩) (Kd.R_far (p := ⟨gb2, 3, none⟩) (Kd.R_far (p := ⟨gb2, 2, none⟩) (Kd.R_far (p := ⟨gb2, 1, none⟩) (Kd.R_far (p := ⟨gb2, 0, none⟩) (Kd.R_far (p := ⟨gb3, 4, none⟩) (Kd.R_far (p := ⟨gb3, 3, none⟩) (Kd.R_types (Kd.R_types HO9.out BK3.out (by decide)) BK2.out (by decide)) (fun _ hk => hk.1.2) (.slice Ao26 t13.length co26)) (fun _ hk => hk.1.2) (.int .i64 a0_4)) (fun _ hk => hk.2) (.slice Ao13 t4.length co13)) (fun _ hk => hk.2) (.slice Ao18 t7.length co18)) (fun _ hk => hk.2) (.slice Ao22 t10.length co22)) (fun _ hk => hk.2) (.slice Ao26 t13.length co26)) (fun _ hk => hk.2) (.int .i64 a0_4)) (fun _ hk => trivial), by (with_reducible repeat (first | apply Kd.R_alloc | apply Kd.R_drewN | apply Kd.R_drew)); exact Kd.R_mono (Kd.R_far (p := ⟨gb2, 4, none⟩) (Kd.R_far (p := ⟨gb2, 3, none⟩) (Kd.R_far (p := ⟨gb2, 2, none⟩) (Kd.R_far (p := ⟨gb2, 1, none⟩) (Kd.R_far (p := ⟨gb2, 0, none⟩) (Kd.R_far (p := ⟨gb3, 4, none⟩) (Kd.R_far (p := ⟨gb3, 3, none⟩) (Kd.R_types (Kd.R_types HO12.out BK3.out (by decide)) BK2.out (by decide)) (fun _ hk => hk.1.2) (.slice Ao26 t13.length co26)) (fun _ hk => hk.1.2) (.int .i64 a0_4)) (fun _ hk => hk.2) (.slice Ao13 t4.length co13)) (fun _ hk => hk.2) (.slice Ao18 t7.length co18)) (fun _ hk => hk.2) (.slice Ao22 t10.length co22)) (fun _ hk => hk.2) (.slice Ao26 t13.length co26)) (fun _ hk => hk.2) (.int .i64 a0_4)) (fun _ hk => ⟨hk.1.1.1.2, hk.1.1.2⟩), by (with_reducible repeat (first | apply Kd.R_alloc | apply Kd.R_drewN | apply Kd.R_drew)); exact Kd.R_mono (Kd.R_far (p := ⟨gb2, 4, none⟩) (Kd.R_far (p := ⟨gb2, 3, none⟩) (Kd.R_far (p := ⟨gb2, 2, none⟩) (Kd.R_far (p := ⟨gb2, 1, none⟩) (Kd.R_far (p := ⟨gb2, 0, none⟩) (Kd.R_far (p := ⟨gb3, 4, none⟩) (Kd.R_far (p := ⟨gb3, 3, none⟩) (Kd.R_types (Kd.R_types HO15.out BK3.out (by decide)) BK2.out (by decide)) (fun _ hk => hk.1.2) (.slice Ao26 t13.length co26)) (fun _ hk => hk.1.2) (.int .i64 a0_4)) (fun _ hk => hk.2) (.slice Ao13 t4.length co13)) (fun _ hk => hk.2) (.slice Ao18 t7.length co18)) (fun _ hk => hk.2) (.slice Ao22 t10.length co22)) (fun _ hk => hk.2) (.slice Ao26 t13.length co26)) (fun _ hk => hk.2) (.int .i64 a0_4)) (fun _ hk => ⟨hk.1.1.1.2, hk.1.1.2⟩), bw_⟩

/-! ### impl_isAscending: function 102 -/
def impl_isAscending.l0 : Nat → List Int → Int → Option (Bool)
 | 0, _, _ => none
 | k + 1, x0, x3 => if x3 < (x0.length : Int) then (if 0 ≤ (wrap64 (x3 - 1)) then (if (wrap64 (x3 - 1)) < (x0.length : Int) then (if 0 ≤ x3 then (if (rd x0 (wrap64 (x3 - 1))) ≥ (rd x0 x3) then (some false) else (impl_isAscending.l0 k x0 (wrap64 (x3 + 1)))) else (none)) else (none)) else (none)) else (some true)
def impl_isAscending.f (k : Nat) (l0 : List Int) : Option (Bool) := impl_isAscending.l0 k l0 1
theorem impl_isAscending.mono_l : ∀ k, (∀ y0 y1, LeO (impl_isAscending.l0 k y0 y1) (impl_isAscending.l0 (k + 1) y0 y1))
 | 0 => fun _ _ r h => by simp [impl_isAscending.l0] at h
 | k + 1 => by
  have ih0 := impl_isAscending.mono_l k
  ·intro y0 y1
   unfold impl_isAscending.l0
   repeat' first
   | (with_reducible exact ih0 _ _)
   | (with_reducible exact LeO.refl _)
   | (with_reducible exact LeO.none _)
   | (with_reducible refine LeO.ite ?_ ?_)
   | (with_reducible refine LeO.bind ?_ (fun _ => ?_))
   | exact ih0 _ _
   | exact LeO.none _
   | refine LeO.ite ?_ ?_
   | refine LeO.bind ?_ (fun _ => ?_)
theorem impl_isAscending.mono : ∀ a0 k, LeO (impl_isAscending.f k a0) (impl_isAscending.f (k + 1) a0) := by
 intro a0 k
 have ih0 := impl_isAscending.mono_l k
 unfold impl_isAscending.f
 repeat' first
   | (with_reducible exact ih0 _ _)
   | (with_reducible exact LeO.refl _)
   | (with_reducible exact LeO.none _)
   | (with_reducible refine LeO.ite ?_ ?_)
   | (with_reducible refine LeO.bind ?_ (fun _ => ?_))
   | exact ih0 _ _
   | exact LeO.none _
   | refine LeO.ite ?_ ?_
   | refine LeO.bind ?_ (fun _ => ?_)
set_option maxHeartbeats 8000000 in
set_option maxRecDepth 100000 in
theorem impl_isAscending.calls (k : Nat) (A0 : Option Addr) (c0 : Nat) (l0 : List Int) (r : Bool) (w : World) (hr0 : Kd.C (Kd.int .i64) w A0 l0.length l0) (hc0 : l0.length ≤ c0) (h : impl_isAscending.f k l0 = some r) :
  Calls Try.prog 102 #[.slice A0 l0.length c0] w fun e w' => e = .returned (.bool r) ∧ Drawn0 w w' := by
 have HR0 := Aside0.mk hr0
 have HC0 := Aside0.mk hc0
 clear hr0 hc0
 have H : (impl_isAscending.l0 k l0 1) = some r := h
 clear h
 have H' := Aside0.mk H
 clear H
 go_enter Try.func102, Try.ntmps102
 go_wp2
 repeat (go_quiet (fail); try go_wp2)
 go_loopg [3] k (fun kq v3 w' => ∃ (x3_1 : Int), v3 = .int .i64 x3_1 ∧ Aside0 (impl_isAscending.l0 kq l0 x3_1 = some r) ∧ Aside0 (kq ≤ k) ∧ Drawn0 w w')
 case atStart => exact ⟨(1), sd_, H', ⟨Nat.le_refl _⟩, by repeat (first | exact Drawn0.refl _ | apply Drawn0.step)⟩
 case round =>
  clear H'
  try clear c1
  obtain ⟨x3_1, rfl, HA, HK1, ⟨m1, rfl⟩⟩ := hrel
  cases gk with
  | zero => exact absurd HA.out (by simp [impl_isAscending.l0])
  | succ k1 =>
   have H := HA.out
   clear HA
   simp only [impl_isAscending.l0] at H
   by_cases c2 : x3_1 < (l0.length : Int)
   ·rw [if_pos c2] at H
    have c2b0 : decide (x3_1 < (l0.length : Int)) = true := decide_eq_true c2
    clear c2
    obtain ⟨ji3, hji3⟩ : ∃ j_ : Int, (wrap64 (x3_1 - 1)) = j_ := ⟨_, rfl⟩
    replace H : (if 0 ≤ (ji3) then (if (ji3) < (l0.length : Int) then (if 0 ≤ x3_1 then (if (rd l0 (ji3)) ≥ (rd l0 x3_1) then (some false) else (impl_isAscending.l0 k1 l0 (wrap64 (x3_1 + 1)))) else (none)) else (none)) else (none)) = some r := by first | (rw [hji3] at H; exact H) | (simp only [hji3] at H ⊢; exact H)
    have hji3w : (IntKind.i64.wrap (x3_1 - 1)) = ji3 := (i64_w _).trans hji3
    by_cases c4 : 0 ≤ (ji3)
    ·rw [if_pos c4] at H
     have c4b0 : decide (0 ≤ (ji3)) = true := decide_eq_true c4
     clear c4
     by_cases c5 : (ji3) < (l0.length : Int)
     ·rw [if_pos c5] at H
      have c5b0 : decide ((ji3) < (l0.length : Int)) = true := decide_eq_true c5
      clear c5
      by_cases c6 : 0 ≤ x3_1
      ·rw [if_pos c6] at H
       have c6b0 : decide (0 ≤ x3_1) = true := decide_eq_true c6
       clear c6
       by_cases c7 : (rd l0 (ji3)) ≥ (rd l0 x3_1)
       ·rw [if_pos c7] at H
        have c7b0 : decide ((rd l0 x3_1) ≤ (rd l0 (ji3))) = true := decide_eq_true c7
        clear c7
        obtain rfl := Option.some.inj H
        have p1 : 0 ≤ ((ji3) : Int) := od_
        have q1 : (ji3) < (l0.length : Int) := od_
        obtain ⟨ad1, e1, hx1_0⟩ := Kd.at_int HR0.out (ji3) p1 q1
        cases e1
        replace p1 := eq_true p1
        replace q1 := eq_true q1
        have p2 : 0 ≤ (x3_1 : Int) := od_
        have q2 : x3_1 < (l0.length : Int) := od_
        obtain ⟨ad2, e2, hx2_0⟩ := Kd.at_int HR0.out x3_1 p2 q2
        obtain rfl : ad1 = ad2 := (by injection e2)
        replace p2 := eq_true p2
        replace q2 := eq_true q2
        go_wp2
        repeat (go_quiet (fail); try go_wp2)
        go_ret
        exact ⟨by first | rfl | (simp; done) | (simp only [← hji3] <;> (first | rfl | simp)) | (simp [*]; done), by repeat (first | exact Drawn0.refl _ | apply Drawn0.step)⟩
       ·rw [if_neg c7] at H
        have c7b0 : decide ((rd l0 x3_1) ≤ (rd l0 (ji3))) = false := decide_eq_false c7
        clear c7
        have H' := Aside0.mk H
        clear H
        have p1 : 0 ≤ ((ji3) : Int) := od_
        have q1 : (ji3) < (l0.length : Int) := od_
        obtain ⟨ad1, e1, hx1_0⟩ := Kd.at_int HR0.out (ji3) p1 q1
        cases e1
        replace p1 := eq_true p1
        replace q1 := eq_true q1
        have p2 : 0 ≤ (x3_1 : Int) := od_
        have q2 : x3_1 < (l0.length : Int) := od_
        obtain ⟨ad2, e2, hx2_0⟩ := Kd.at_int HR0.out x3_1 p2 q2
        obtain rfl : ad1 = ad2 := (by injection e2)
        replace p2 := eq_true p2
        replace q2 := eq_true q2
        go_wp2
        repeat (go_quiet (fail); try go_wp2)
        go_roundg k1
        case measure => have := HK1.out; omega
        case rel => exact ⟨(wrap64 (x3_1 + 1)), sd_, H', ⟨by have := HK1.out; omega⟩, by repeat (first | exact Drawn0.refl _ | apply Drawn0.step)⟩
      ·rw [if_neg c6] at H
       exact absurd H (by simp)
     ·rw [if_neg c5] at H
      exact absurd H (by simp)
    ·rw [if_neg c4] at H
     exact absurd H (by simp)
   ·rw [if_neg c2] at H
    have c2b0 : decide (x3_1 < (l0.length : Int)) = false := decide_eq_false c2
    clear c2
    obtain rfl := Option.some.inj H
    go_wp2
    repeat (go_quiet (fail); try go_wp2)
    go_ret
    exact ⟨sd_, by repeat (first | exact Drawn0.refl _ | apply Drawn0.step)⟩

end Go.Proofs.Ytpcfcdnmpginhaa.P
