-- Written by mp.py (the session's own driver over the kit's printer) for the seat Ytpcfcdnmpginhaa.
import Derived.Test.YtpcfcdnmpginhaaK
import Derived.Test.YtpcfcdnmpginhaaE
import Derived.Test.YtpcfcdnmpginhaaPimplAtEnd
import Derived.Test.YtpcfcdnmpginhaaPlawseqInstrSS
import Derived.Test.YtpcfcdnmpginhaaPlawseqThreadS
import Derived.Test.YtpcfcdnmpginhaaPlawsszInstrSS
import Derived.Test.YtpcfcdnmpginhaaPlawsszMem
import Derived.Test.YtpcfcdnmpginhaaPlawstoThread
import Derived.Test.YtpcfcdnmpginhaaPspecl04End
namespace Go.Proofs.Ytpcfcdnmpginhaa.P
open Go.RowKit Go.Proofs.YtpcfcdnmpginhaaW.PrintWords Go.Proofs.YtpcfcdnmpginhaaW.PrintLast Go.Proofs.YtpcfcdnmpginhaaW.PrintMore
attribute [local go_sem] max2_int min2_int max_two min_two max_three min_three max_four min_four
set_option linter.unusedVariables false
set_option linter.unusedSimpArgs false

/-! ### laws_FnExactAtEnd: function 13 -/
def laws_FnExactAtEnd.f (k : Nat) (a0_0 : Int) (l0_1 : List (List (S176))) (l1_0 : List Int) (l1_1 : List (S205)) : Option (Bool) := (laws_szProg.f k a0_0 l0_1 1048576).bind fun t3 => (if t3 < 0 then (some true) else ((laws_szMachine.f k l1_0 l1_1 t3).bind fun t4 => (if t4 < 0 then (some true) else ((laws_toProg.f k a0_0 l0_1).bind fun bt5 => ((laws_toMachine.f k l1_0 l1_1).bind fun bt9 => ((spec_AtEnd.f k bt5.1 bt5.2 bt9.1 bt9.2).bind fun t15 => ((laws_toProg.f k a0_0 l0_1).bind fun bt16 => ((laws_toMachine.f k l1_0 l1_1).bind fun bt21 => ((impl_AtEnd.f k bt16.1 bt16.2 bt21.1 bt21.2).bind fun t28 => (if (t28 != t15) = true then (some false) else ((laws_toProg.f k a0_0 l0_1).bind fun bt29 => ((laws_eqProg.f k bt16.1 bt16.2 bt29.1 bt29.2).bind fun t33 => (if t33 = true then ((laws_toMachine.f k l1_0 l1_1).bind fun bt34 => ((laws_eqMachine.f k bt21.1 bt21.2 bt34.1 bt34.2).bind fun t40 => (if t40 = true then (some true) else (some false)))) else (some false))))))))))))))
theorem laws_FnExactAtEnd.mono : ∀ a0 a1 a2 a3 k, LeO (laws_FnExactAtEnd.f k a0 a1 a2 a3) (laws_FnExactAtEnd.f (k + 1) a0 a1 a2 a3) := by
 intro a0 a1 a2 a3 k
 unfold laws_FnExactAtEnd.f
 repeat' first
   | (with_reducible exact impl_AtEnd.mono _ _ _ _ _)
   | (with_reducible exact laws_eqMachine.mono _ _ _ _ _)
   | (with_reducible exact laws_eqProg.mono _ _ _ _ _)
   | (with_reducible exact laws_szMachine.mono _ _ _ _)
   | (with_reducible exact laws_szProg.mono _ _ _ _)
   | (with_reducible exact laws_toMachine.mono _ _ _)
   | (with_reducible exact laws_toProg.mono _ _ _)
   | (with_reducible exact spec_AtEnd.mono _ _ _ _ _)
   | (with_reducible exact LeO.refl _)
   | (with_reducible exact LeO.none _)
   | (with_reducible refine LeO.ite ?_ ?_)
   | (with_reducible refine LeO.bind ?_ (fun _ => ?_))
   | exact impl_AtEnd.mono _ _ _ _ _
   | exact laws_eqMachine.mono _ _ _ _ _
   | exact laws_eqProg.mono _ _ _ _ _
   | exact laws_szMachine.mono _ _ _ _
   | exact laws_szProg.mono _ _ _ _
   | exact laws_toMachine.mono _ _ _
   | exact laws_toProg.mono _ _ _
   | exact spec_AtEnd.mono _ _ _ _ _
   | exact LeO.none _
   | refine LeO.ite ?_ ?_
   | refine LeO.bind ?_ (fun _ => ?_)
set_option maxHeartbeats 8000000 in
set_option maxRecDepth 100000 in
theorem laws_FnExactAtEnd.calls (k : Nat) (a0_0 : Int) (A0_1 : Option Addr) (c0_1 : Nat) (l0_1 : List (List (S176))) (A1_0 : Option Addr) (c1_0 : Nat) (l1_0 : List Int) (A1_1 : Option Addr) (c1_1 : Nat) (l1_1 : List (S205)) (r : Bool) (w : World) (hr0_1 : Kd.C (Kd.slice 176 k176) w A0_1 l0_1.length l0_1) (hc0_1 : l0_1.length ≤ c0_1) (hr1_0 : Kd.C (Kd.int .i64) w A1_0 l1_0.length l1_0) (hc1_0 : l1_0.length ≤ c1_0) (hr1_1 : Kd.C k205 w A1_1 l1_1.length l1_1) (hc1_1 : l1_1.length ≤ c1_1) (h : laws_FnExactAtEnd.f k a0_0 l0_1 l1_0 l1_1 = some r) :
  Calls Try.prog 13 #[.agg #[.int .i64 a0_0, .slice A0_1 l0_1.length c0_1], .agg #[.slice A1_0 l1_0.length c1_0, .slice A1_1 l1_1.length c1_1]] w fun e w' => e = .returned (.bool r) ∧ Below w.heap.size w w' := by
 have hu60 := Try.underlying60
 have hu38 := Try.underlying38
 have hu64 := Try.underlying64
 have hu46 := Try.underlying46
 have HR0_1 := Aside0.mk hr0_1
 have HC0_1 := Aside0.mk hc0_1
 clear hr0_1 hc0_1
 have HR1_0 := Aside0.mk hr1_0
 have HC1_0 := Aside0.mk hc1_0
 clear hr1_0 hc1_0
 have HR1_1 := Aside0.mk hr1_1
 have HC1_1 := Aside0.mk hc1_1
 clear hr1_1 hc1_1
 have HB := Aside0.mk (Below.refl w.heap.size w)
 have H : ((laws_szProg.f k a0_0 l0_1 1048576).bind fun t3 => (if t3 < 0 then (some true) else ((laws_szMachine.f k l1_0 l1_1 t3).bind fun t4 => (if t4 < 0 then (some true) else ((laws_toProg.f k a0_0 l0_1).bind fun bt5 => ((laws_toMachine.f k l1_0 l1_1).bind fun bt9 => ((spec_AtEnd.f k bt5.1 bt5.2 bt9.1 bt9.2).bind fun t15 => ((laws_toProg.f k a0_0 l0_1).bind fun bt16 => ((laws_toMachine.f k l1_0 l1_1).bind fun bt21 => ((impl_AtEnd.f k bt16.1 bt16.2 bt21.1 bt21.2).bind fun t28 => (if (t28 != t15) = true then (some false) else ((laws_toProg.f k a0_0 l0_1).bind fun bt29 => ((laws_eqProg.f k bt16.1 bt16.2 bt29.1 bt29.2).bind fun t33 => (if t33 = true then ((laws_toMachine.f k l1_0 l1_1).bind fun bt34 => ((laws_eqMachine.f k bt21.1 bt21.2 bt34.1 bt34.2).bind fun t40 => (if t40 = true then (some true) else (some false)))) else (some false))))))))))))))) = some r := h
 clear h
 replace H := Option.bind_eq_some_iff.mp H
 obtain ⟨t3, A30, H⟩ := H
 replace H : (if t3 < 0 then (some true) else ((laws_szMachine.f k l1_0 l1_1 t3).bind fun t4 => (if t4 < 0 then (some true) else ((laws_toProg.f k a0_0 l0_1).bind fun bt5 => ((laws_toMachine.f k l1_0 l1_1).bind fun bt9 => ((spec_AtEnd.f k bt5.1 bt5.2 bt9.1 bt9.2).bind fun t15 => ((laws_toProg.f k a0_0 l0_1).bind fun bt16 => ((laws_toMachine.f k l1_0 l1_1).bind fun bt21 => ((impl_AtEnd.f k bt16.1 bt16.2 bt21.1 bt21.2).bind fun t28 => (if (t28 != t15) = true then (some false) else ((laws_toProg.f k a0_0 l0_1).bind fun bt29 => ((laws_eqProg.f k bt16.1 bt16.2 bt29.1 bt29.2).bind fun t33 => (if t33 = true then ((laws_toMachine.f k l1_0 l1_1).bind fun bt34 => ((laws_eqMachine.f k bt21.1 bt21.2 bt34.1 bt34.2).bind fun t40 => (if t40 = true then (some true) else (some false)))) else (some false)))))))))))))) = some r := H
 have A3 := Aside0.mk A30
 clear A30
 by_cases c4 : t3 < 0
 ·rw [if_pos c4] at H
  have c4b0 : decide (t3 < 0) = true := decide_eq_true c4
  clear c4
  obtain rfl := Option.some.inj H
  go_enter Try.func13, Try.ntmps13
  go_wp2_with (first | ((with_reducible refine gate_dst (N := 2) rfl ?_); refine box_event ?hg (N := 2) ?hd (cs := #[.int .i64 a0_0, .slice A0_1 l0_1.length c0_1]) (t := 60) ?hr ?_; (case hd => rfl); (case hg => rfl); (case hr => first | (go_simp; done) | (go_simp; rfl)); intro gb1 hg w5 hbox hb; have n0_ := Aside0.mk (below_step bw_ hb); have n1_ := Aside0.mk (hbox); have n2_ := Aside0.mk ((by rw [hg]; exact (below_size bw_) : w.heap.size ≤ gb1)); have n3_ := Aside0.mk ((by rw [hg]; exact (below_size bw_) : w.heap.size ≤ gb1)); clear HB; have HB := n0_; have BK1 := n1_; have GW1 := n2_; have GE1 := n3_; clear n0_ n1_ n2_ n3_; clear hb hbox hg) | ((with_reducible refine gate_dst (N := 3) rfl ?_); refine box_event ?hg (N := 3) ?hd (cs := #[.slice A1_0 l1_0.length c1_0, .slice A1_1 l1_1.length c1_1]) (t := 38) ?hr ?_; (case hd => rfl); (case hg => rfl); (case hr => first | (go_simp; done) | (go_simp; rfl)); intro gb2 hg w6 hbox hb; have n0_ := Aside0.mk (blk_below (g := gb1) (o := .cells #[.int .i64 a0_0, .slice A0_1 l0_1.length c0_1] 60 (0, 0)) bk_ hb); have n1_ := Aside0.mk (below_step bw_ hb); have n2_ := Aside0.mk (hbox); have n3_ := Aside0.mk ((by rw [hg]; exact (below_size bw_) : w.heap.size ≤ gb2)); have n4_ := Aside0.mk ((by rw [hg]; exact (below_size bw_) : w.heap.size ≤ gb2)); have n5_ := Aside0.mk ((by rw [hg]; exact Nat.ne_of_lt (blk_lt (g := gb1) (o := .cells #[.int .i64 a0_0, .slice A0_1 l0_1.length c0_1] 60 (0, 0)) bk_) : gb1 ≠ gb2)); have n6_ := Aside0.mk ((by rw [hg]; exact Nat.ne_of_gt (blk_lt (g := gb1) (o := .cells #[.int .i64 a0_0, .slice A0_1 l0_1.length c0_1] 60 (0, 0)) bk_) : gb2 ≠ gb1)); clear BK1; clear HB; have BK1 := n0_; have HB := n1_; have BK2 := n2_; have GW2 := n3_; have GE2 := n4_; have NB1_2 := n5_; have NB2_1 := n6_; clear n0_ n1_ n2_ n3_ n4_ n5_ n6_; clear hb hbox hg; have hnb7 := NB1_2.out; have hnc7 := NB2_1.out; have hcz8_0 := (blk_cell BK1.out 0).trans rfl; have hcz8_1 := (blk_cell BK1.out 1).trans rfl; have hfz8_0 := blk_frozen BK1.out 0; have hfz8_1 := blk_frozen BK1.out 1) | ((with_reducible refine gate_callee (f := 43) rfl ?_); refine goesL_ (some 12) rfl rfl Try.func43 (by kernel_rfl) rfl #[.agg #[.int .i64 a0_0, .slice A0_1 l0_1.length c0_1], .int .i64 1048576] rfl ar_ ?_; (with_reducible refine (laws_szProg.calls k a0_0 _ _ l0_1 1048576 t3 _ ?side1 ?side2 A3.out).mono ?_); (case side1 => exact cb_); (case side2 => exact HC0_1.out); rintro e w9 ⟨rfl, hb⟩; refine ⟨_, rfl, ?_⟩; have n0_ := Aside0.mk (blk_below (g := gb1) (o := .cells #[.int .i64 a0_0, .slice A0_1 l0_1.length c0_1] 60 (0, 0)) bk_ hb); have n1_ := Aside0.mk (blk_below (g := gb2) (o := .cells #[.slice A1_0 l1_0.length c1_0, .slice A1_1 l1_1.length c1_1] 38 (0, 0)) bk_ hb); have n2_ := Aside0.mk (below_step bw_ hb); clear BK1; clear BK2; clear HB; have BK1 := n0_; have BK2 := n1_; have HB := n2_; clear n0_ n1_ n2_; (try clear hb); (try clear hb2); (try clear hk); (try clear hi)))
  go_ret
  exact ⟨rr_, bw_⟩
 rw [if_neg c4] at H
 have c4b0 : decide (t3 < 0) = false := decide_eq_false c4
 clear c4
 replace H := Option.bind_eq_some_iff.mp H
 obtain ⟨t4, A100, H⟩ := H
 replace H : (if t4 < 0 then (some true) else ((laws_toProg.f k a0_0 l0_1).bind fun bt5 => ((laws_toMachine.f k l1_0 l1_1).bind fun bt9 => ((spec_AtEnd.f k bt5.1 bt5.2 bt9.1 bt9.2).bind fun t15 => ((laws_toProg.f k a0_0 l0_1).bind fun bt16 => ((laws_toMachine.f k l1_0 l1_1).bind fun bt21 => ((impl_AtEnd.f k bt16.1 bt16.2 bt21.1 bt21.2).bind fun t28 => (if (t28 != t15) = true then (some false) else ((laws_toProg.f k a0_0 l0_1).bind fun bt29 => ((laws_eqProg.f k bt16.1 bt16.2 bt29.1 bt29.2).bind fun t33 => (if t33 = true then ((laws_toMachine.f k l1_0 l1_1).bind fun bt34 => ((laws_eqMachine.f k bt21.1 bt21.2 bt34.1 bt34.2).bind fun t40 => (if t40 = true then (some true) else (some false)))) else (some false)))))))))))) = some r := H
 have A10 := Aside0.mk A100
 clear A100
 by_cases c11 : t4 < 0
 ·rw [if_pos c11] at H
  have c11b0 : decide (t4 < 0) = true := decide_eq_true c11
  clear c11
  obtain rfl := Option.some.inj H
  go_enter Try.func13, Try.ntmps13
  go_wp2_with (first | ((with_reducible refine gate_dst (N := 2) rfl ?_); refine box_event ?hg (N := 2) ?hd (cs := #[.int .i64 a0_0, .slice A0_1 l0_1.length c0_1]) (t := 60) ?hr ?_; (case hd => rfl); (case hg => rfl); (case hr => first | (go_simp; done) | (go_simp; rfl)); intro gb1 hg w12 hbox hb; have n0_ := Aside0.mk (below_step bw_ hb); have n1_ := Aside0.mk (hbox); have n2_ := Aside0.mk ((by rw [hg]; exact (below_size bw_) : w.heap.size ≤ gb1)); have n3_ := Aside0.mk ((by rw [hg]; exact (below_size bw_) : w.heap.size ≤ gb1)); clear HB; have HB := n0_; have BK1 := n1_; have GW1 := n2_; have GE1 := n3_; clear n0_ n1_ n2_ n3_; clear hb hbox hg) | ((with_reducible refine gate_dst (N := 3) rfl ?_); refine box_event ?hg (N := 3) ?hd (cs := #[.slice A1_0 l1_0.length c1_0, .slice A1_1 l1_1.length c1_1]) (t := 38) ?hr ?_; (case hd => rfl); (case hg => rfl); (case hr => first | (go_simp; done) | (go_simp; rfl)); intro gb2 hg w13 hbox hb; have n0_ := Aside0.mk (blk_below (g := gb1) (o := .cells #[.int .i64 a0_0, .slice A0_1 l0_1.length c0_1] 60 (0, 0)) bk_ hb); have n1_ := Aside0.mk (below_step bw_ hb); have n2_ := Aside0.mk (hbox); have n3_ := Aside0.mk ((by rw [hg]; exact (below_size bw_) : w.heap.size ≤ gb2)); have n4_ := Aside0.mk ((by rw [hg]; exact (below_size bw_) : w.heap.size ≤ gb2)); have n5_ := Aside0.mk ((by rw [hg]; exact Nat.ne_of_lt (blk_lt (g := gb1) (o := .cells #[.int .i64 a0_0, .slice A0_1 l0_1.length c0_1] 60 (0, 0)) bk_) : gb1 ≠ gb2)); have n6_ := Aside0.mk ((by rw [hg]; exact Nat.ne_of_gt (blk_lt (g := gb1) (o := .cells #[.int .i64 a0_0, .slice A0_1 l0_1.length c0_1] 60 (0, 0)) bk_) : gb2 ≠ gb1)); clear BK1; clear HB; have BK1 := n0_; have HB := n1_; have BK2 := n2_; have GW2 := n3_; have GE2 := n4_; have NB1_2 := n5_; have NB2_1 := n6_; clear n0_ n1_ n2_ n3_ n4_ n5_ n6_; clear hb hbox hg; have hnb14 := NB1_2.out; have hnc14 := NB2_1.out; have hcz15_0 := (blk_cell BK1.out 0).trans rfl; have hcz15_1 := (blk_cell BK1.out 1).trans rfl; have hfz15_0 := blk_frozen BK1.out 0; have hfz15_1 := blk_frozen BK1.out 1) | ((with_reducible refine gate_callee (f := 43) rfl ?_); refine goesL_ (some 12) rfl rfl Try.func43 (by kernel_rfl) rfl #[.agg #[.int .i64 a0_0, .slice A0_1 l0_1.length c0_1], .int .i64 1048576] rfl ar_ ?_; (with_reducible refine (laws_szProg.calls k a0_0 _ _ l0_1 1048576 t3 _ ?side1 ?side2 A3.out).mono ?_); (case side1 => exact cb_); (case side2 => exact HC0_1.out); rintro e w16 ⟨rfl, hb⟩; refine ⟨_, rfl, ?_⟩; have n0_ := Aside0.mk (blk_below (g := gb1) (o := .cells #[.int .i64 a0_0, .slice A0_1 l0_1.length c0_1] 60 (0, 0)) bk_ hb); have n1_ := Aside0.mk (blk_below (g := gb2) (o := .cells #[.slice A1_0 l1_0.length c1_0, .slice A1_1 l1_1.length c1_1] 38 (0, 0)) bk_ hb); have n2_ := Aside0.mk (below_step bw_ hb); clear BK1; clear BK2; clear HB; have BK1 := n0_; have BK2 := n1_; have HB := n2_; clear n0_ n1_ n2_; (try clear hb); (try clear hb2); (try clear hk); (try clear hi); have hcz17_0 := (blk_cell BK2.out 0).trans rfl; have hcz17_1 := (blk_cell BK2.out 1).trans rfl; have hfz17_0 := blk_frozen BK2.out 0; have hfz17_1 := blk_frozen BK2.out 1) | ((with_reducible refine gate_callee (f := 27) rfl ?_); refine goesL_ (some 17) rfl rfl Try.func27 (by kernel_rfl) rfl #[.agg #[.slice A1_0 l1_0.length c1_0, .slice A1_1 l1_1.length c1_1], .int .i64 t3] rfl ar_ ?_; (with_reducible refine (laws_szMachine.calls k _ _ l1_0 _ _ l1_1 t3 t4 _ ?side1 ?side2 ?side3 ?side4 A10.out).mono ?_); (case side1 => exact cb_); (case side2 => exact HC1_0.out); (case side3 => exact cb_); (case side4 => exact HC1_1.out); rintro e w18 ⟨rfl, hb⟩; refine ⟨_, rfl, ?_⟩; have n0_ := Aside0.mk (blk_below (g := gb1) (o := .cells #[.int .i64 a0_0, .slice A0_1 l0_1.length c0_1] 60 (0, 0)) bk_ hb); have n1_ := Aside0.mk (blk_below (g := gb2) (o := .cells #[.slice A1_0 l1_0.length c1_0, .slice A1_1 l1_1.length c1_1] 38 (0, 0)) bk_ hb); have n2_ := Aside0.mk (below_step bw_ hb); clear BK1; clear BK2; clear HB; have BK1 := n0_; have BK2 := n1_; have HB := n2_; clear n0_ n1_ n2_; (try clear hb); (try clear hb2); (try clear hk); (try clear hi)))
  go_ret
  exact ⟨rr_, bw_⟩
 rw [if_neg c11] at H
 have c11b0 : decide (t4 < 0) = false := decide_eq_false c11
 clear c11
 replace H := Option.bind_eq_some_iff.mp H
 obtain ⟨⟨t5, t6⟩, A190, H⟩ := H
 replace H : ((laws_toMachine.f k l1_0 l1_1).bind fun bt9 => ((spec_AtEnd.f k t5 t6 bt9.1 bt9.2).bind fun t15 => ((laws_toProg.f k a0_0 l0_1).bind fun bt16 => ((laws_toMachine.f k l1_0 l1_1).bind fun bt21 => ((impl_AtEnd.f k bt16.1 bt16.2 bt21.1 bt21.2).bind fun t28 => (if (t28 != t15) = true then (some false) else ((laws_toProg.f k a0_0 l0_1).bind fun bt29 => ((laws_eqProg.f k bt16.1 bt16.2 bt29.1 bt29.2).bind fun t33 => (if t33 = true then ((laws_toMachine.f k l1_0 l1_1).bind fun bt34 => ((laws_eqMachine.f k bt21.1 bt21.2 bt34.1 bt34.2).bind fun t40 => (if t40 = true then (some true) else (some false)))) else (some false)))))))))) = some r := H
 have A19 := Aside0.mk A190
 clear A190
 replace H := Option.bind_eq_some_iff.mp H
 obtain ⟨⟨t9, t12⟩, A200, H⟩ := H
 replace H : ((spec_AtEnd.f k t5 t6 t9 t12).bind fun t15 => ((laws_toProg.f k a0_0 l0_1).bind fun bt16 => ((laws_toMachine.f k l1_0 l1_1).bind fun bt21 => ((impl_AtEnd.f k bt16.1 bt16.2 bt21.1 bt21.2).bind fun t28 => (if (t28 != t15) = true then (some false) else ((laws_toProg.f k a0_0 l0_1).bind fun bt29 => ((laws_eqProg.f k bt16.1 bt16.2 bt29.1 bt29.2).bind fun t33 => (if t33 = true then ((laws_toMachine.f k l1_0 l1_1).bind fun bt34 => ((laws_eqMachine.f k bt21.1 bt21.2 bt34.1 bt34.2).bind fun t40 => (if t40 = true then (some true) else (some false)))) else (some false))))))))) = some r := H
 have A20 := Aside0.mk A200
 clear A200
 replace H := Option.bind_eq_some_iff.mp H
 obtain ⟨t15, A210, H⟩ := H
 replace H : ((laws_toProg.f k a0_0 l0_1).bind fun bt16 => ((laws_toMachine.f k l1_0 l1_1).bind fun bt21 => ((impl_AtEnd.f k bt16.1 bt16.2 bt21.1 bt21.2).bind fun t28 => (if (t28 != t15) = true then (some false) else ((laws_toProg.f k a0_0 l0_1).bind fun bt29 => ((laws_eqProg.f k bt16.1 bt16.2 bt29.1 bt29.2).bind fun t33 => (if t33 = true then ((laws_toMachine.f k l1_0 l1_1).bind fun bt34 => ((laws_eqMachine.f k bt21.1 bt21.2 bt34.1 bt34.2).bind fun t40 => (if t40 = true then (some true) else (some false)))) else (some false)))))))) = some r := H
 have A21 := Aside0.mk A210
 clear A210
 replace H := Option.bind_eq_some_iff.mp H
 obtain ⟨⟨t16, t17⟩, A220, H⟩ := H
 replace H : ((laws_toMachine.f k l1_0 l1_1).bind fun bt21 => ((impl_AtEnd.f k t16 t17 bt21.1 bt21.2).bind fun t28 => (if (t28 != t15) = true then (some false) else ((laws_toProg.f k a0_0 l0_1).bind fun bt29 => ((laws_eqProg.f k t16 t17 bt29.1 bt29.2).bind fun t33 => (if t33 = true then ((laws_toMachine.f k l1_0 l1_1).bind fun bt34 => ((laws_eqMachine.f k bt21.1 bt21.2 bt34.1 bt34.2).bind fun t40 => (if t40 = true then (some true) else (some false)))) else (some false))))))) = some r := H
 have A22 := Aside0.mk A220
 clear A220
 replace H := Option.bind_eq_some_iff.mp H
 obtain ⟨⟨t21, t24⟩, A230, H⟩ := H
 replace H : ((impl_AtEnd.f k t16 t17 t21 t24).bind fun t28 => (if (t28 != t15) = true then (some false) else ((laws_toProg.f k a0_0 l0_1).bind fun bt29 => ((laws_eqProg.f k t16 t17 bt29.1 bt29.2).bind fun t33 => (if t33 = true then ((laws_toMachine.f k l1_0 l1_1).bind fun bt34 => ((laws_eqMachine.f k t21 t24 bt34.1 bt34.2).bind fun t40 => (if t40 = true then (some true) else (some false)))) else (some false)))))) = some r := H
 have A23 := Aside0.mk A230
 clear A230
 replace H := Option.bind_eq_some_iff.mp H
 obtain ⟨t28, A240, H⟩ := H
 replace H : (if (t28 != t15) = true then (some false) else ((laws_toProg.f k a0_0 l0_1).bind fun bt29 => ((laws_eqProg.f k t16 t17 bt29.1 bt29.2).bind fun t33 => (if t33 = true then ((laws_toMachine.f k l1_0 l1_1).bind fun bt34 => ((laws_eqMachine.f k t21 t24 bt34.1 bt34.2).bind fun t40 => (if t40 = true then (some true) else (some false)))) else (some false))))) = some r := H
 have A24 := Aside0.mk A240
 clear A240
 by_cases c25 : (t28 != t15) = true
 ·rw [if_pos c25] at H
  have c25b0 : (t28 != t15) = true := c25
  (try (have c25b1 : decide (t28 = t15) = false := by simpa using c25))
  (try (have c25b2 : (t28 == t15) = false := by simpa using c25))
  (try (have c25b3 : ¬ (t28 = t15) := by simpa using c25))
  clear c25
  obtain rfl := Option.some.inj H
  go_enter Try.func13, Try.ntmps13
  try go_wp2_with (first | ((with_reducible refine gate_dst (N := 2) rfl ?_); refine box_event ?hg (N := 2) ?hd (cs := #[.int .i64 a0_0, .slice A0_1 l0_1.length c0_1]) (t := 60) ?hr ?_; (case hd => rfl); (case hg => rfl); (case hr => first | (go_simp; done) | (go_simp; rfl)); intro gb1 hg w26 hbox hb; have n0_ := Aside0.mk (below_step bw_ hb); have n1_ := Aside0.mk (hbox); have n2_ := Aside0.mk ((by rw [hg]; exact (below_size bw_) : w.heap.size ≤ gb1)); have n3_ := Aside0.mk ((by rw [hg]; exact (below_size bw_) : w.heap.size ≤ gb1)); clear HB; have HB := n0_; have BK1 := n1_; have GW1 := n2_; have GE1 := n3_; clear n0_ n1_ n2_ n3_; clear hb hbox hg) | ((with_reducible refine gate_dst (N := 3) rfl ?_); refine box_event ?hg (N := 3) ?hd (cs := #[.slice A1_0 l1_0.length c1_0, .slice A1_1 l1_1.length c1_1]) (t := 38) ?hr ?_; (case hd => rfl); (case hg => rfl); (case hr => first | (go_simp; done) | (go_simp; rfl)); intro gb2 hg w27 hbox hb; have n0_ := Aside0.mk (blk_below (g := gb1) (o := .cells #[.int .i64 a0_0, .slice A0_1 l0_1.length c0_1] 60 (0, 0)) bk_ hb); have n1_ := Aside0.mk (below_step bw_ hb); have n2_ := Aside0.mk (hbox); have n3_ := Aside0.mk ((by rw [hg]; exact (below_size bw_) : w.heap.size ≤ gb2)); have n4_ := Aside0.mk ((by rw [hg]; exact (below_size bw_) : w.heap.size ≤ gb2)); have n5_ := Aside0.mk ((by rw [hg]; exact Nat.ne_of_lt (blk_lt (g := gb1) (o := .cells #[.int .i64 a0_0, .slice A0_1 l0_1.length c0_1] 60 (0, 0)) bk_) : gb1 ≠ gb2)); have n6_ := Aside0.mk ((by rw [hg]; exact Nat.ne_of_gt (blk_lt (g := gb1) (o := .cells #[.int .i64 a0_0, .slice A0_1 l0_1.length c0_1] 60 (0, 0)) bk_) : gb2 ≠ gb1)); clear BK1; clear HB; have BK1 := n0_; have HB := n1_; have BK2 := n2_; have GW2 := n3_; have GE2 := n4_; have NB1_2 := n5_; have NB2_1 := n6_; clear n0_ n1_ n2_ n3_ n4_ n5_ n6_; clear hb hbox hg; have hnb28 := NB1_2.out; have hnc28 := NB2_1.out; have hcz29_0 := (blk_cell BK1.out 0).trans rfl; have hcz29_1 := (blk_cell BK1.out 1).trans rfl; have hfz29_0 := blk_frozen BK1.out 0; have hfz29_1 := blk_frozen BK1.out 1) | ((with_reducible refine gate_callee (f := 43) rfl ?_); refine goesL_ (some 12) rfl rfl Try.func43 (by kernel_rfl) rfl #[.agg #[.int .i64 a0_0, .slice A0_1 l0_1.length c0_1], .int .i64 1048576] rfl ar_ ?_; (with_reducible refine (laws_szProg.calls k a0_0 _ _ l0_1 1048576 t3 _ ?side1 ?side2 A3.out).mono ?_); (case side1 => exact cb_); (case side2 => exact HC0_1.out); rintro e w30 ⟨rfl, hb⟩; refine ⟨_, rfl, ?_⟩; have n0_ := Aside0.mk (blk_below (g := gb1) (o := .cells #[.int .i64 a0_0, .slice A0_1 l0_1.length c0_1] 60 (0, 0)) bk_ hb); have n1_ := Aside0.mk (blk_below (g := gb2) (o := .cells #[.slice A1_0 l1_0.length c1_0, .slice A1_1 l1_1.length c1_1] 38 (0, 0)) bk_ hb); have n2_ := Aside0.mk (below_step bw_ hb); clear BK1; clear BK2; clear HB; have BK1 := n0_; have BK2 := n1_; have HB := n2_; clear n0_ n1_ n2_; (try clear hb); (try clear hb2); (try clear hk); (try clear hi); have hcz31_0 := (blk_cell BK2.out 0).trans rfl; have hcz31_1 := (blk_cell BK2.out 1).trans rfl; have hfz31_0 := blk_frozen BK2.out 0; have hfz31_1 := blk_frozen BK2.out 1) | ((with_reducible refine gate_callee (f := 27) rfl ?_); refine goesL_ (some 17) rfl rfl Try.func27 (by kernel_rfl) rfl #[.agg #[.slice A1_0 l1_0.length c1_0, .slice A1_1 l1_1.length c1_1], .int .i64 t3] rfl ar_ ?_; (with_reducible refine (laws_szMachine.calls k _ _ l1_0 _ _ l1_1 t3 t4 _ ?side1 ?side2 ?side3 ?side4 A10.out).mono ?_); (case side1 => exact cb_); (case side2 => exact HC1_0.out); (case side3 => exact cb_); (case side4 => exact HC1_1.out); rintro e w32 ⟨rfl, hb⟩; refine ⟨_, rfl, ?_⟩; have n0_ := Aside0.mk (blk_below (g := gb1) (o := .cells #[.int .i64 a0_0, .slice A0_1 l0_1.length c0_1] 60 (0, 0)) bk_ hb); have n1_ := Aside0.mk (blk_below (g := gb2) (o := .cells #[.slice A1_0 l1_0.length c1_0, .slice A1_1 l1_1.length c1_1] 38 (0, 0)) bk_ hb); have n2_ := Aside0.mk (below_step bw_ hb); clear BK1; clear BK2; clear HB; have BK1 := n0_; have BK2 := n1_; have HB := n2_; clear n0_ n1_ n2_; (try clear hb); (try clear hb2); (try clear hk); (try clear hi)))
  have n0_ := Aside0.mk (blk_drew BK1.out)
  have n1_ := Aside0.mk (blk_drew BK2.out)
  have n2_ := Aside0.mk (below_drew1 HB.out)
  clear BK1
  clear BK2
  clear HB
  have BK1 := n0_
  have BK2 := n1_
  have HB := n2_
  clear n0_ n1_ n2_
  refine start_ (n := 6) (S := fun w' => w'.cell? ⟨gb1, 0, none⟩ = some (.int .i64 a0_0) ∧ w'.cell? ⟨gb1, 1, none⟩ = some (.slice A0_1 l0_1.length c0_1) ∧ w'.cell? ⟨gb2, 0, none⟩ = some (.slice A1_0 l1_0.length c1_0) ∧ w'.cell? ⟨gb2, 1, none⟩ = some (.slice A1_1 l1_1.length c1_1)) (ds := []) #[false, false, false, false, false, false] (by kernel_rfl) rfl rfl ⟨(blk_cell BK1.out 0).trans rfl, (blk_cell BK1.out 1).trans rfl, (blk_cell BK2.out 0).trans rfl, (blk_cell BK2.out 1).trans rfl⟩ (fun hHeld => ?_)
  generalize w32.drew = w33 at BK1 BK2 HB hHeld ⊢
  refine take_ (i := 0) (N := some 20) (v := ?_) (a' := ?_) #[true, false, false, false, false, false] rfl rfl (by kernel_rfl) (fun _ _ _ h => h) (Or.inl ⟨by rfl, ?_⟩) hHeld ?_ ?_
  rotate_left
  ·rintro w' ⟨s0, s1, s2, s3⟩
   go_simp
   with_reducible rfl
  rotate_left
  ·simp only [Act.put, List.setIfInBounds_toArray, List.set_cons_zero, List.set_cons_succ, i64_w, i32_w]
   rfl
  refine take_ (i := 2) (N := some 22) (v := ?_) (a' := ?_) #[true, false, true, false, false, false] rfl rfl (by kernel_rfl) (fun _ _ _ h => h) (Or.inl ⟨by rfl, ?_⟩) hHeld ?_ ?_
  rotate_left
  ·rintro w' ⟨s0, s1, s2, s3⟩
   go_simp
   with_reducible rfl
  rotate_left
  ·simp only [Act.put, List.setIfInBounds_toArray, List.set_cons_zero, List.set_cons_succ, i64_w, i32_w]
   rfl
  refine one_ (i := 1) (N := some 21) #[true, true, true, false, false, false] rfl rfl (by kernel_rfl) (by decide) (fun K hK => ?_)
  refine goes_ Try.func45 (by kernel_rfl) rfl #[.agg #[.int .i64 a0_0, .slice A0_1 l0_1.length c0_1]] (by rfl) rfl rfl ar_ ?_
  with_reducible refine (laws_toProg.calls k a0_0 _ _ l0_1 t5 t6 _ ?side1 ?side2 A19.out).mono ?_
  (case side1 => exact cb_)
  (case side2 => exact HC0_1.out)
  rintro e w34 ⟨v7, rfl, ho0, hb⟩
  refine ⟨_, rfl, ?_⟩
  have n0_ := Aside0.mk (Kd.S_lower ho0 (below_size bw_))
  have n1_ := Aside0.mk (blk_below (g := gb1) (o := .cells #[.int .i64 a0_0, .slice A0_1 l0_1.length c0_1] 60 (0, 0)) bk_ hb)
  have n2_ := Aside0.mk (blk_below (g := gb2) (o := .cells #[.slice A1_0 l1_0.length c1_0, .slice A1_1 l1_1.length c1_1] 38 (0, 0)) bk_ hb)
  have n3_ := Aside0.mk (below_step bw_ hb)
  clear BK1
  clear BK2
  clear HB
  have HO8 := n0_
  have BK1 := n1_
  have BK2 := n2_
  have HB := n3_
  clear n0_ n1_ n2_ n3_
  (try clear hb)
  (try clear hb2)
  (try clear hk)
  (try clear hi)
  (try clear ho0)
  refine hK.out _ _ ⟨(blk_cell BK1.out 0).trans rfl, (blk_cell BK1.out 1).trans rfl, (blk_cell BK2.out 0).trans rfl, (blk_cell BK2.out 1).trans rfl⟩ (fun hHeld => ?_)
  clear hK K
  refine norm_ (a' := ?_) ?_ ?_
  rotate_left
  ·show Act.put _ (some 21) _ = _
   simp only [Act.put, List.setIfInBounds_toArray, List.set_cons_zero, List.set_cons_succ, i64_w, i32_w]
   rfl
  refine one_ (i := 3) (N := some 23) #[true, true, true, true, false, false] rfl rfl (by kernel_rfl) (by decide) (fun K hK => ?_)
  refine goes_ Try.func30 (by kernel_rfl) rfl #[.agg #[.slice A1_0 l1_0.length c1_0, .slice A1_1 l1_1.length c1_1]] (by rfl) rfl rfl ar_ ?_
  with_reducible refine (laws_toMachine.calls k _ _ l1_0 _ _ l1_1 t9 t12 _ ?side1 ?side2 ?side3 ?side4 A20.out).mono ?_
  (case side1 => exact cb_)
  (case side2 => exact HC1_0.out)
  (case side3 => exact cb_)
  (case side4 => exact HC1_1.out)
  rintro e w35 ⟨v10, v13, rfl, ho0, ho1, hb⟩
  refine ⟨_, rfl, ?_⟩
  have n0_ := Aside0.mk (Kd.S_below (by (with_reducible repeat (first | apply Kd.S_alloc | apply Kd.S_drewN | apply Kd.S_drew)); exact HO8.out) hb)
  have n1_ := Aside0.mk (Kd.R_lower ho0 (below_size bw_))
  have n2_ := Aside0.mk (Kd.S_lower ho1 (below_size bw_))
  have n3_ := Aside0.mk (blk_below (g := gb1) (o := .cells #[.int .i64 a0_0, .slice A0_1 l0_1.length c0_1] 60 (0, 0)) bk_ hb)
  have n4_ := Aside0.mk (blk_below (g := gb2) (o := .cells #[.slice A1_0 l1_0.length c1_0, .slice A1_1 l1_1.length c1_1] 38 (0, 0)) bk_ hb)
  have n5_ := Aside0.mk (below_step bw_ hb)
  clear HO8
  clear BK1
  clear BK2
  clear HB
  have HO8 := n0_
  have HO11 := n1_
  have HO14 := n2_
  have BK1 := n3_
  have BK2 := n4_
  have HB := n5_
  clear n0_ n1_ n2_ n3_ n4_ n5_
  (try clear hb)
  (try clear hb2)
  (try clear hk)
  (try clear hi)
  (try clear ho0)
  (try clear ho1)
  obtain ⟨Ao36, co36, eo36⟩ := Kd.S_slice HO8.out
  (first | subst eo36 | (injection eo36 with f1_ f2_ f3_; have f4_ := f1_.symm; have f5_ := f3_.symm; clear f1_ f2_ f3_; subst f4_; subst f5_))
  obtain ⟨Ao37, co37, eo37⟩ := Kd.R_slice HO11.out
  (first | subst eo37 | (injection eo37 with f1_ f2_ f3_; have f4_ := f1_.symm; have f5_ := f3_.symm; clear f1_ f2_ f3_; subst f4_; subst f5_))
  obtain ⟨Ao38, co38, eo38⟩ := Kd.S_slice HO14.out
  (first | subst eo38 | (injection eo38 with f1_ f2_ f3_; have f4_ := f1_.symm; have f5_ := f3_.symm; clear f1_ f2_ f3_; subst f4_; subst f5_))
  refine hK.out _ _ ⟨(blk_cell BK1.out 0).trans rfl, (blk_cell BK1.out 1).trans rfl, (blk_cell BK2.out 0).trans rfl, (blk_cell BK2.out 1).trans rfl⟩ (fun hHeld => ?_)
  clear hK K
  refine norm_ (a' := ?_) ?_ ?_
  rotate_left
  ·show Act.put _ (some 23) _ = _
   simp only [Act.put, List.setIfInBounds_toArray, List.set_cons_zero, List.set_cons_succ, i64_w, i32_w]
   rfl
  refine one_ (i := 4) (N := some 24) #[true, true, true, true, true, false] rfl rfl (by kernel_rfl) (by decide) (fun K hK => ?_)
  refine goes_ Try.func65 (by kernel_rfl) rfl #[.agg #[.int .i64 t5, .slice Ao36 t6.length co36], .agg #[.slice Ao37 t9.length co37, .slice Ao38 t12.length co38]] (by rfl) rfl rfl ar_ ?_
  with_reducible refine (spec_AtEnd.calls k t5 _ _ t6 _ _ t9 _ _ t12 t15 _ ?side1 ?side2 ?side3 ?side4 ?side5 ?side6 A21.out).mono ?_
  (case side1 => repeat (first | exact (Kd.S_reads' HO8.out).2.2 | (with_reducible refine Kd.C_alloc ?_ _) | (with_reducible refine Kd.C_drewN ?_ _) | (with_reducible refine Kd.C_drew ?_)))
  (case side2 => exact (Kd.S_reads' HO8.out).2.1)
  (case side3 => repeat (first | exact (Kd.R_reads' HO11.out).2.2 | (with_reducible refine Kd.C_alloc ?_ _) | (with_reducible refine Kd.C_drewN ?_ _) | (with_reducible refine Kd.C_drew ?_)))
  (case side4 => exact (Kd.R_reads' HO11.out).2.1)
  (case side5 => repeat (first | exact (Kd.S_reads' HO14.out).2.2 | (with_reducible refine Kd.C_alloc ?_ _) | (with_reducible refine Kd.C_drewN ?_ _) | (with_reducible refine Kd.C_drew ?_)))
  (case side6 => exact (Kd.S_reads' HO14.out).2.1)
  rintro e w39 ⟨rfl, hb⟩
  refine ⟨_, rfl, ?_⟩
  have n0_ := Aside0.mk (Kd.S_below (by (with_reducible repeat (first | apply Kd.S_alloc | apply Kd.S_drewN | apply Kd.S_drew)); exact HO8.out) hb)
  have n1_ := Aside0.mk (Kd.R_below (by (with_reducible repeat (first | apply Kd.R_alloc | apply Kd.R_drewN | apply Kd.R_drew)); exact HO11.out) hb)
  have n2_ := Aside0.mk (Kd.S_below (by (with_reducible repeat (first | apply Kd.S_alloc | apply Kd.S_drewN | apply Kd.S_drew)); exact HO14.out) hb)
  have n3_ := Aside0.mk (blk_below (g := gb1) (o := .cells #[.int .i64 a0_0, .slice A0_1 l0_1.length c0_1] 60 (0, 0)) bk_ hb)
  have n4_ := Aside0.mk (blk_below (g := gb2) (o := .cells #[.slice A1_0 l1_0.length c1_0, .slice A1_1 l1_1.length c1_1] 38 (0, 0)) bk_ hb)
  have n5_ := Aside0.mk (below_step bw_ hb)
  clear HO8
  clear HO11
  clear HO14
  clear BK1
  clear BK2
  clear HB
  have HO8 := n0_
  have HO11 := n1_
  have HO14 := n2_
  have BK1 := n3_
  have BK2 := n4_
  have HB := n5_
  clear n0_ n1_ n2_ n3_ n4_ n5_
  (try clear hb)
  (try clear hb2)
  (try clear hk)
  (try clear hi)
  refine hK.out _ _ ⟨(blk_cell BK1.out 0).trans rfl, (blk_cell BK1.out 1).trans rfl, (blk_cell BK2.out 0).trans rfl, (blk_cell BK2.out 1).trans rfl⟩ (fun hHeld => ?_)
  clear hK K
  refine norm_ (a' := ?_) ?_ ?_
  rotate_left
  ·show Act.put _ (some 24) _ = _
   simp only [Act.put, List.setIfInBounds_toArray, List.set_cons_zero, List.set_cons_succ, i64_w, i32_w]
   rfl
  refine pure_ (i := 5) (N := some 6) (v := ?_) (a' := ?_) #[true, true, true, true, true, true] rfl rfl (by kernel_rfl) (fun _ _ _ h => h) (Or.inl ⟨by rfl, ?_⟩) ?_ ?_
  rotate_left
  ·intro w'
   go_simp
   with_reducible rfl
  rotate_left
  ·simp only [Act.put, List.setIfInBounds_toArray, List.set_cons_zero, List.set_cons_succ, i64_w, i32_w]
   rfl
  refine done_ (by kernel_rfl) ?_
  have hcz40_0 := (blk_cell BK1.out 0).trans rfl
  have hcz40_1 := (blk_cell BK1.out 1).trans rfl
  have hfz40_0 := blk_frozen BK1.out 0
  have hfz40_1 := blk_frozen BK1.out 1
  try go_wp2_with (first | ((with_reducible refine gate_callee (f := 45) rfl ?_); refine goesL_ (some 26) rfl rfl Try.func45 (by kernel_rfl) rfl #[.agg #[.int .i64 a0_0, .slice A0_1 l0_1.length c0_1]] rfl ar_ ?_; (with_reducible refine (laws_toProg.calls k a0_0 _ _ l0_1 t16 t17 _ ?side1 ?side2 A22.out).mono ?_); (case side1 => exact cb_); (case side2 => exact HC0_1.out); rintro e w41 ⟨v18, rfl, ho0, hb⟩; refine ⟨_, rfl, ?_⟩; have n0_ := Aside0.mk (Kd.S_elder' (by (with_reducible repeat (first | apply Kd.S_alloc | apply Kd.S_drewN | apply Kd.S_drew)); exact HO8.out) (Kd.S_base ho0) hb); have n1_ := Aside0.mk (Kd.R_below (by (with_reducible repeat (first | apply Kd.R_alloc | apply Kd.R_drewN | apply Kd.R_drew)); exact HO11.out) hb); have n2_ := Aside0.mk (Kd.S_below (by (with_reducible repeat (first | apply Kd.S_alloc | apply Kd.S_drewN | apply Kd.S_drew)); exact HO14.out) hb); have n3_ := Aside0.mk (Kd.S_lower (Kd.S_new' ho0 (Kd.S_lt (by (with_reducible repeat (first | apply Kd.S_alloc | apply Kd.S_drewN | apply Kd.S_drew)); exact HO8.out))) (below_size bw_)); have n4_ := Aside0.mk (blk_below (g := gb1) (o := .cells #[.int .i64 a0_0, .slice A0_1 l0_1.length c0_1] 60 (0, 0)) bk_ hb); have n5_ := Aside0.mk (blk_below (g := gb2) (o := .cells #[.slice A1_0 l1_0.length c1_0, .slice A1_1 l1_1.length c1_1] 38 (0, 0)) bk_ hb); have n6_ := Aside0.mk (below_step bw_ hb); clear HO8; clear HO11; clear HO14; clear BK1; clear BK2; clear HB; have HO8 := n0_; have HO11 := n1_; have HO14 := n2_; have HO19 := n3_; have BK1 := n4_; have BK2 := n5_; have HB := n6_; clear n0_ n1_ n2_ n3_ n4_ n5_ n6_; (try clear hb); (try clear hb2); (try clear hk); (try clear hi); (try clear ho0)) | ((with_reducible refine gate_dst (N := 7) rfl ?_); refine box_event ?hg (N := 7) ?hd (cs := #[.int .i64 0, .slice none 0 0]) (t := 64) ?hr ?_; (case hd => rfl); (case hg => rfl); (case hr => first | (go_simp; done) | (go_simp; rfl)); intro gb20 hg w42 hbox hb; have n0_ := Aside0.mk (Kd.S_below (by (with_reducible repeat (first | apply Kd.S_alloc | apply Kd.S_drewN | apply Kd.S_drew)); exact HO8.out) hb); have n1_ := Aside0.mk (Kd.R_below (by (with_reducible repeat (first | apply Kd.R_alloc | apply Kd.R_drewN | apply Kd.R_drew)); exact HO11.out) hb); have n2_ := Aside0.mk (Kd.S_below (by (with_reducible repeat (first | apply Kd.S_alloc | apply Kd.S_drewN | apply Kd.S_drew)); exact HO14.out) hb); have n3_ := Aside0.mk (Kd.S_below (by (with_reducible repeat (first | apply Kd.S_alloc | apply Kd.S_drewN | apply Kd.S_drew)); exact HO19.out) hb); have n4_ := Aside0.mk (blk_below (g := gb1) (o := .cells #[.int .i64 a0_0, .slice A0_1 l0_1.length c0_1] 60 (0, 0)) bk_ hb); have n5_ := Aside0.mk (blk_below (g := gb2) (o := .cells #[.slice A1_0 l1_0.length c1_0, .slice A1_1 l1_1.length c1_1] 38 (0, 0)) bk_ hb); have n6_ := Aside0.mk (below_step bw_ hb); have n7_ := Aside0.mk (hbox); have n8_ := Aside0.mk ((by rw [hg]; exact (below_size bw_) : w.heap.size ≤ gb20)); have n9_ := Aside0.mk ((by rw [hg]; exact (below_size bw_) : w.heap.size ≤ gb20)); have n10_ := Aside0.mk ((by rw [hg]; exact Nat.ne_of_lt (blk_lt (g := gb1) (o := .cells #[.int .i64 a0_0, .slice A0_1 l0_1.length c0_1] 60 (0, 0)) bk_) : gb1 ≠ gb20)); have n11_ := Aside0.mk ((by rw [hg]; exact Nat.ne_of_gt (blk_lt (g := gb1) (o := .cells #[.int .i64 a0_0, .slice A0_1 l0_1.length c0_1] 60 (0, 0)) bk_) : gb20 ≠ gb1)); have n12_ := Aside0.mk ((by rw [hg]; exact Nat.ne_of_lt (blk_lt (g := gb2) (o := .cells #[.slice A1_0 l1_0.length c1_0, .slice A1_1 l1_1.length c1_1] 38 (0, 0)) bk_) : gb2 ≠ gb20)); have n13_ := Aside0.mk ((by rw [hg]; exact Nat.ne_of_gt (blk_lt (g := gb2) (o := .cells #[.slice A1_0 l1_0.length c1_0, .slice A1_1 l1_1.length c1_1] 38 (0, 0)) bk_) : gb20 ≠ gb2)); clear HO8; clear HO11; clear HO14; clear HO19; clear BK1; clear BK2; clear HB; have HO8 := n0_; have HO11 := n1_; have HO14 := n2_; have HO19 := n3_; have BK1 := n4_; have BK2 := n5_; have HB := n6_; have BK20 := n7_; have GW20 := n8_; have GE20 := n9_; have NB1_20 := n10_; have NB20_1 := n11_; have NB2_20 := n12_; have NB20_2 := n13_; clear n0_ n1_ n2_ n3_ n4_ n5_ n6_ n7_ n8_ n9_ n10_ n11_ n12_ n13_; clear hb hbox hg; have hnb43 := NB20_1.out; have hnc43 := NB1_20.out; have hnb44 := NB20_2.out; have hnc44 := NB2_20.out; have hcz45_0 := (blk_cell BK20.out 0).trans rfl; have hcz45_1 := (blk_cell BK20.out 1).trans rfl; have hfz45_0 := blk_frozen BK20.out 0; have hfz45_1 := blk_frozen BK20.out 1; obtain ⟨Ao46, co46, eo46⟩ := Kd.S_slice HO19.out; subst eo46; have hcz47_0 := (blk_cell BK2.out 0).trans rfl; have hcz47_1 := (blk_cell BK2.out 1).trans rfl; have hfz47_0 := blk_frozen BK2.out 0; have hfz47_1 := blk_frozen BK2.out 1) | ((with_reducible refine gate_callee (f := 30) rfl ?_); refine goesL_ (some 28) rfl rfl Try.func30 (by kernel_rfl) rfl #[.agg #[.slice A1_0 l1_0.length c1_0, .slice A1_1 l1_1.length c1_1]] rfl ar_ ?_; (with_reducible refine (laws_toMachine.calls k _ _ l1_0 _ _ l1_1 t21 t24 _ ?side1 ?side2 ?side3 ?side4 A23.out).mono ?_); (case side1 => exact Kd.C_below HR1_0.out bw_); (case side2 => exact HC1_0.out); (case side3 => exact Kd.C_below HR1_1.out bw_); (case side4 => exact HC1_1.out); rintro e w48 ⟨v22, v25, rfl, ho0, ho1, hb⟩; refine ⟨_, rfl, ?_⟩; have n0_ := Aside0.mk (Kd.S_below (by (with_reducible repeat (first | apply Kd.S_alloc | apply Kd.S_drewN | apply Kd.S_drew)); exact (Kd.S_mono (Kd.S_far (p := ⟨gb20, 1, none⟩) (Kd.S_far (p := ⟨gb20, 0, none⟩) (Kd.S_types HO8.out BK20.out (by decide)) (fun _ hk => hk.2) (.int .i64 t16)) (fun _ hk => hk.2) (.slice Ao46 t17.length co46)) (fun _ h_ => h_.1))) hb); have n1_ := Aside0.mk (Kd.R_elder' (by (with_reducible repeat (first | apply Kd.R_alloc | apply Kd.R_drewN | apply Kd.R_drew)); exact (Kd.R_mono (Kd.R_far (p := ⟨gb20, 1, none⟩) (Kd.R_far (p := ⟨gb20, 0, none⟩) (Kd.R_types HO11.out BK20.out (by decide)) (fun _ hk => hk.2) (.int .i64 t16)) (fun _ hk => hk.2) (.slice Ao46 t17.length co46)) (fun _ h_ => h_.1))) (Kd.R_base ho0) hb); have n2_ := Aside0.mk (Kd.S_mono (Kd.S_told (Kd.S_told (Kd.S_old (by (with_reducible repeat (first | apply Kd.S_alloc | apply Kd.S_drewN | apply Kd.S_drew)); exact (Kd.S_mono (Kd.S_far (p := ⟨gb20, 1, none⟩) (Kd.S_far (p := ⟨gb20, 0, none⟩) (Kd.S_types HO14.out BK20.out (by decide)) (fun _ hk => hk.2) (.int .i64 t16)) (fun _ hk => hk.2) (.slice Ao46 t17.length co46)) (fun _ h_ => h_.1))) hb) (Kd.R_base ho0)) (Kd.S_base ho1)) (fun _ h_ => h_.1)); have n3_ := Aside0.mk (Kd.S_below (by (with_reducible repeat (first | apply Kd.S_alloc | apply Kd.S_drewN | apply Kd.S_drew)); exact (Kd.S_mono (Kd.S_far (p := ⟨gb20, 1, none⟩) (Kd.S_far (p := ⟨gb20, 0, none⟩) (Kd.S_types HO19.out BK20.out (by decide)) (fun _ hk => hk.2) (.int .i64 t16)) (fun _ hk => hk.2) (.slice Ao46 t17.length co46)) (fun _ h_ => h_.1))) hb); have n4_ := Aside0.mk (Kd.R_lower (Kd.R_new' ho0 (Kd.R_lt (by (with_reducible repeat (first | apply Kd.R_alloc | apply Kd.R_drewN | apply Kd.R_drew)); exact (Kd.R_mono (Kd.R_far (p := ⟨gb20, 1, none⟩) (Kd.R_far (p := ⟨gb20, 0, none⟩) (Kd.R_types HO11.out BK20.out (by decide)) (fun _ hk => hk.2) (.int .i64 t16)) (fun _ hk => hk.2) (.slice Ao46 t17.length co46)) (fun _ h_ => h_.1))))) (below_size bw_)); have n5_ := Aside0.mk (Kd.S_lower (Kd.S_new' (Kd.S_new' ho1 (Kd.R_lt (by (with_reducible repeat (first | apply Kd.R_alloc | apply Kd.R_drewN | apply Kd.R_drew)); exact (Kd.R_mono (Kd.R_far (p := ⟨gb20, 1, none⟩) (Kd.R_far (p := ⟨gb20, 0, none⟩) (Kd.R_types HO11.out BK20.out (by decide)) (fun _ hk => hk.2) (.int .i64 t16)) (fun _ hk => hk.2) (.slice Ao46 t17.length co46)) (fun _ h_ => h_.1))))) (Kd.S_lt (by (with_reducible repeat (first | apply Kd.S_alloc | apply Kd.S_drewN | apply Kd.S_drew)); exact (Kd.S_mono (Kd.S_far (p := ⟨gb20, 1, none⟩) (Kd.S_far (p := ⟨gb20, 0, none⟩) (Kd.S_types HO14.out BK20.out (by decide)) (fun _ hk => hk.2) (.int .i64 t16)) (fun _ hk => hk.2) (.slice Ao46 t17.length co46)) (fun _ h_ => h_.1))))) (below_size bw_)); have n6_ := Aside0.mk (blk_below (g := gb1) (o := .cells #[.int .i64 a0_0, .slice A0_1 l0_1.length c0_1] 60 (0, 0)) (by (with_reducible repeat (first | refine blk_drewN ?_ _ | refine blk_drew ?_ | refine blk_alloc ?_ _)); refine blk_far ?_ NB1_20.out _; (with_reducible repeat (first | refine blk_drewN ?_ _ | refine blk_drew ?_ | refine blk_alloc ?_ _)); refine blk_far ?_ NB1_20.out _; (with_reducible repeat (first | refine blk_drewN ?_ _ | refine blk_drew ?_ | refine blk_alloc ?_ _)); exact BK1.out) hb); have n7_ := Aside0.mk (blk_below (g := gb2) (o := .cells #[.slice A1_0 l1_0.length c1_0, .slice A1_1 l1_1.length c1_1] 38 (0, 0)) (by (with_reducible repeat (first | refine blk_drewN ?_ _ | refine blk_drew ?_ | refine blk_alloc ?_ _)); refine blk_far ?_ NB2_20.out _; (with_reducible repeat (first | refine blk_drewN ?_ _ | refine blk_drew ?_ | refine blk_alloc ?_ _)); refine blk_far ?_ NB2_20.out _; (with_reducible repeat (first | refine blk_drewN ?_ _ | refine blk_drew ?_ | refine blk_alloc ?_ _)); exact BK2.out) hb); have n8_ := Aside0.mk (blk_below (g := gb20) (o := .cells #[.int .i64 t16, .slice Ao46 t17.length co46] 64 (0, 0)) (by (with_reducible repeat (first | refine blk_drewN ?_ _ | refine blk_drew ?_ | refine blk_alloc ?_ _)); refine blk_put (cs := #[.int .i64 t16, .slice none 0 0]) ?_ 1 _ rfl; (with_reducible repeat (first | refine blk_drewN ?_ _ | refine blk_drew ?_ | refine blk_alloc ?_ _)); refine blk_put (cs := #[.int .i64 0, .slice none 0 0]) ?_ 0 _ rfl; (with_reducible repeat (first | refine blk_drewN ?_ _ | refine blk_drew ?_ | refine blk_alloc ?_ _)); exact BK20.out) hb); have n9_ := Aside0.mk (below_step bw_ hb); clear HO8; clear HO11; clear HO14; clear HO19; clear BK1; clear BK2; clear BK20; clear HB; have HO8 := n0_; have HO11 := n1_; have HO14 := n2_; have HO19 := n3_; have HO23 := n4_; have HO26 := n5_; have BK1 := n6_; have BK2 := n7_; have BK20 := n8_; have HB := n9_; clear n0_ n1_ n2_ n3_ n4_ n5_ n6_ n7_ n8_ n9_; (try clear hb); (try clear hb2); (try clear hk); (try clear hi); (try clear ho0); (try clear ho1)) | ((with_reducible refine gate_dst (N := 8) rfl ?_); refine box_event ?hg (N := 8) ?hd (cs := #[.slice none 0 0, .slice none 0 0]) (t := 46) ?hr ?_; (case hd => rfl); (case hg => rfl); (case hr => first | (go_simp; done) | (go_simp; rfl)); intro gb27 hg w49 hbox hb; have n0_ := Aside0.mk (Kd.S_below (by (with_reducible repeat (first | apply Kd.S_alloc | apply Kd.S_drewN | apply Kd.S_drew)); exact HO8.out) hb); have n1_ := Aside0.mk (Kd.R_below (by (with_reducible repeat (first | apply Kd.R_alloc | apply Kd.R_drewN | apply Kd.R_drew)); exact HO11.out) hb); have n2_ := Aside0.mk (Kd.S_below (by (with_reducible repeat (first | apply Kd.S_alloc | apply Kd.S_drewN | apply Kd.S_drew)); exact HO14.out) hb); have n3_ := Aside0.mk (Kd.S_below (by (with_reducible repeat (first | apply Kd.S_alloc | apply Kd.S_drewN | apply Kd.S_drew)); exact HO19.out) hb); have n4_ := Aside0.mk (Kd.R_below (by (with_reducible repeat (first | apply Kd.R_alloc | apply Kd.R_drewN | apply Kd.R_drew)); exact HO23.out) hb); have n5_ := Aside0.mk (Kd.S_below (by (with_reducible repeat (first | apply Kd.S_alloc | apply Kd.S_drewN | apply Kd.S_drew)); exact HO26.out) hb); have n6_ := Aside0.mk (blk_below (g := gb1) (o := .cells #[.int .i64 a0_0, .slice A0_1 l0_1.length c0_1] 60 (0, 0)) bk_ hb); have n7_ := Aside0.mk (blk_below (g := gb2) (o := .cells #[.slice A1_0 l1_0.length c1_0, .slice A1_1 l1_1.length c1_1] 38 (0, 0)) bk_ hb); have n8_ := Aside0.mk (blk_below (g := gb20) (o := .cells #[.int .i64 t16, .slice Ao46 t17.length co46] 64 (0, 0)) bk_ hb); have n9_ := Aside0.mk (below_step bw_ hb); have n10_ := Aside0.mk (hbox); have n11_ := Aside0.mk ((by rw [hg]; exact (below_size bw_) : w.heap.size ≤ gb27)); have n12_ := Aside0.mk ((by rw [hg]; exact (below_size bw_) : w.heap.size ≤ gb27)); have n13_ := Aside0.mk ((by rw [hg]; exact Nat.ne_of_lt (blk_lt (g := gb1) (o := .cells #[.int .i64 a0_0, .slice A0_1 l0_1.length c0_1] 60 (0, 0)) bk_) : gb1 ≠ gb27)); have n14_ := Aside0.mk ((by rw [hg]; exact Nat.ne_of_gt (blk_lt (g := gb1) (o := .cells #[.int .i64 a0_0, .slice A0_1 l0_1.length c0_1] 60 (0, 0)) bk_) : gb27 ≠ gb1)); have n15_ := Aside0.mk ((by rw [hg]; exact Nat.ne_of_lt (blk_lt (g := gb2) (o := .cells #[.slice A1_0 l1_0.length c1_0, .slice A1_1 l1_1.length c1_1] 38 (0, 0)) bk_) : gb2 ≠ gb27)); have n16_ := Aside0.mk ((by rw [hg]; exact Nat.ne_of_gt (blk_lt (g := gb2) (o := .cells #[.slice A1_0 l1_0.length c1_0, .slice A1_1 l1_1.length c1_1] 38 (0, 0)) bk_) : gb27 ≠ gb2)); have n17_ := Aside0.mk ((by rw [hg]; exact Nat.ne_of_lt (blk_lt (g := gb20) (o := .cells #[.int .i64 t16, .slice Ao46 t17.length co46] 64 (0, 0)) bk_) : gb20 ≠ gb27)); have n18_ := Aside0.mk ((by rw [hg]; exact Nat.ne_of_gt (blk_lt (g := gb20) (o := .cells #[.int .i64 t16, .slice Ao46 t17.length co46] 64 (0, 0)) bk_) : gb27 ≠ gb20)); clear HO8; clear HO11; clear HO14; clear HO19; clear HO23; clear HO26; clear BK1; clear BK2; clear BK20; clear HB; have HO8 := n0_; have HO11 := n1_; have HO14 := n2_; have HO19 := n3_; have HO23 := n4_; have HO26 := n5_; have BK1 := n6_; have BK2 := n7_; have BK20 := n8_; have HB := n9_; have BK27 := n10_; have GW27 := n11_; have GE27 := n12_; have NB1_27 := n13_; have NB27_1 := n14_; have NB2_27 := n15_; have NB27_2 := n16_; have NB20_27 := n17_; have NB27_20 := n18_; clear n0_ n1_ n2_ n3_ n4_ n5_ n6_ n7_ n8_ n9_ n10_ n11_ n12_ n13_ n14_ n15_ n16_ n17_ n18_; clear hb hbox hg; obtain ⟨Ao50, co50, eo50⟩ := Kd.R_slice HO23.out; subst eo50; have hnb51 := NB27_1.out; have hnc51 := NB1_27.out; have hnb52 := NB27_2.out; have hnc52 := NB2_27.out; have hnb53 := NB27_20.out; have hnc53 := NB20_27.out; have hcz54_0 := (blk_cell BK27.out 0).trans rfl; have hcz54_1 := (blk_cell BK27.out 1).trans rfl; have hfz54_0 := blk_frozen BK27.out 0; have hfz54_1 := blk_frozen BK27.out 1; obtain ⟨Ao55, co55, eo55⟩ := Kd.S_slice HO26.out; subst eo55; have hcz56_0 := (blk_cell BK20.out 0).trans rfl; have hcz56_1 := (blk_cell BK20.out 1).trans rfl; have hfz56_0 := blk_frozen BK20.out 0; have hfz56_1 := blk_frozen BK20.out 1) | ((with_reducible refine gate_callee (f := 66) rfl ?_); refine goesL_ (some 31) rfl rfl Try.func66 (by kernel_rfl) rfl #[.agg #[.int .i64 t16, .slice Ao46 t17.length co46], .agg #[.slice Ao50 t21.length co50, .slice Ao55 t24.length co55]] rfl ar_ ?_; (with_reducible refine (impl_AtEnd.calls k t16 _ _ t17 _ _ t21 _ _ t24 t28 _ ?side1 ?side2 ?side3 ?side4 ?side5 ?side6 A24.out).mono ?_); (case side1 => refine (Kd.S_reads' (e := 94) (base := w.heap.size) (ok := fun k_ => (True ∧ some k_ ≠ (.slice Ao36 t6.length co36 : Value).ownBlock)) (n := t17.length) (c := co46) ?_).2.2; exact (by (with_reducible repeat (first | apply Kd.S_alloc | apply Kd.S_drewN | apply Kd.S_drew)); exact (Kd.S_mono (Kd.S_far (p := ⟨gb27, 1, none⟩) (Kd.S_far (p := ⟨gb27, 0, none⟩) (Kd.S_types HO19.out BK27.out (by decide)) (fun _ hk => hk.2) (.slice Ao50 t21.length co50)) (fun _ hk => hk.2) (.slice Ao55 t24.length co55)) (fun _ h_ => h_.1)))); (case side2 => exact (Kd.S_reads' HO19.out).2.1); (case side3 => refine (Kd.R_reads' (e := 3) (base := w.heap.size) (ok := fun k_ => (True ∧ some k_ ≠ (.slice Ao37 t9.length co37 : Value).ownBlock)) (n := t21.length) (c := co50) ?_).2.2; exact (by (with_reducible repeat (first | apply Kd.R_alloc | apply Kd.R_drewN | apply Kd.R_drew)); exact (Kd.R_mono (Kd.R_far (p := ⟨gb27, 1, none⟩) (Kd.R_far (p := ⟨gb27, 0, none⟩) (Kd.R_types HO23.out BK27.out (by decide)) (fun _ hk => hk.2) (.slice Ao50 t21.length co50)) (fun _ hk => hk.2) (.slice Ao55 t24.length co55)) (fun _ h_ => h_.1)))); (case side4 => exact (Kd.R_reads' HO23.out).2.1); (case side5 => refine (Kd.S_reads' (e := 137) (base := w.heap.size) (ok := fun k_ => ((some k_ ≠ (.slice Ao50 t21.length co50 : Value).ownBlock ∧ some k_ ≠ (.slice Ao37 t9.length co37 : Value).ownBlock) ∧ some k_ ≠ (.slice Ao38 t12.length co38 : Value).ownBlock)) (n := t24.length) (c := co55) ?_).2.2; exact (by (with_reducible repeat (first | apply Kd.S_alloc | apply Kd.S_drewN | apply Kd.S_drew)); exact (Kd.S_mono (Kd.S_far (p := ⟨gb27, 1, none⟩) (Kd.S_far (p := ⟨gb27, 0, none⟩) (Kd.S_types HO26.out BK27.out (by decide)) (fun _ hk => hk.2) (.slice Ao50 t21.length co50)) (fun _ hk => hk.2) (.slice Ao55 t24.length co55)) (fun _ h_ => h_.1)))); (case side6 => exact (Kd.S_reads' HO26.out).2.1); rintro e w57 ⟨rfl, hb⟩; refine ⟨_, rfl, ?_⟩; have n0_ := Aside0.mk (Kd.S_below (by (with_reducible repeat (first | apply Kd.S_alloc | apply Kd.S_drewN | apply Kd.S_drew)); exact (Kd.S_mono (Kd.S_far (p := ⟨gb27, 1, none⟩) (Kd.S_far (p := ⟨gb27, 0, none⟩) (Kd.S_types HO8.out BK27.out (by decide)) (fun _ hk => hk.2) (.slice Ao50 t21.length co50)) (fun _ hk => hk.2) (.slice Ao55 t24.length co55)) (fun _ h_ => h_.1))) hb); have n1_ := Aside0.mk (Kd.R_below (by (with_reducible repeat (first | apply Kd.R_alloc | apply Kd.R_drewN | apply Kd.R_drew)); exact (Kd.R_mono (Kd.R_far (p := ⟨gb27, 1, none⟩) (Kd.R_far (p := ⟨gb27, 0, none⟩) (Kd.R_types HO11.out BK27.out (by decide)) (fun _ hk => hk.2) (.slice Ao50 t21.length co50)) (fun _ hk => hk.2) (.slice Ao55 t24.length co55)) (fun _ h_ => h_.1))) hb); have n2_ := Aside0.mk (Kd.S_below (by (with_reducible repeat (first | apply Kd.S_alloc | apply Kd.S_drewN | apply Kd.S_drew)); exact (Kd.S_mono (Kd.S_far (p := ⟨gb27, 1, none⟩) (Kd.S_far (p := ⟨gb27, 0, none⟩) (Kd.S_types HO14.out BK27.out (by decide)) (fun _ hk => hk.2) (.slice Ao50 t21.length co50)) (fun _ hk => hk.2) (.slice Ao55 t24.length co55)) (fun _ h_ => h_.1))) hb); have n3_ := Aside0.mk (Kd.S_below (by (with_reducible repeat (first | apply Kd.S_alloc | apply Kd.S_drewN | apply Kd.S_drew)); exact (Kd.S_mono (Kd.S_far (p := ⟨gb27, 1, none⟩) (Kd.S_far (p := ⟨gb27, 0, none⟩) (Kd.S_types HO19.out BK27.out (by decide)) (fun _ hk => hk.2) (.slice Ao50 t21.length co50)) (fun _ hk => hk.2) (.slice Ao55 t24.length co55)) (fun _ h_ => h_.1))) hb); have n4_ := Aside0.mk (Kd.R_below (by (with_reducible repeat (first | apply Kd.R_alloc | apply Kd.R_drewN | apply Kd.R_drew)); exact (Kd.R_mono (Kd.R_far (p := ⟨gb27, 1, none⟩) (Kd.R_far (p := ⟨gb27, 0, none⟩) (Kd.R_types HO23.out BK27.out (by decide)) (fun _ hk => hk.2) (.slice Ao50 t21.length co50)) (fun _ hk => hk.2) (.slice Ao55 t24.length co55)) (fun _ h_ => h_.1))) hb); have n5_ := Aside0.mk (Kd.S_below (by (with_reducible repeat (first | apply Kd.S_alloc | apply Kd.S_drewN | apply Kd.S_drew)); exact (Kd.S_mono (Kd.S_far (p := ⟨gb27, 1, none⟩) (Kd.S_far (p := ⟨gb27, 0, none⟩) (Kd.S_types HO26.out BK27.out (by decide)) (fun _ hk => hk.2) (.slice Ao50 t21.length co50)) (fun _ hk => hk.2) (.slice Ao55 t24.length co55)) (fun _ h_ => h_.1))) hb); have n6_ := Aside0.mk (blk_below (g := gb1) (o := .cells #[.int .i64 a0_0, .slice A0_1 l0_1.length c0_1] 60 (0, 0)) (by (with_reducible repeat (first | refine blk_drewN ?_ _ | refine blk_drew ?_ | refine blk_alloc ?_ _)); refine blk_far ?_ NB1_27.out _; (with_reducible repeat (first | refine blk_drewN ?_ _ | refine blk_drew ?_ | refine blk_alloc ?_ _)); refine blk_far ?_ NB1_27.out _; (with_reducible repeat (first | refine blk_drewN ?_ _ | refine blk_drew ?_ | refine blk_alloc ?_ _)); exact BK1.out) hb); have n7_ := Aside0.mk (blk_below (g := gb2) (o := .cells #[.slice A1_0 l1_0.length c1_0, .slice A1_1 l1_1.length c1_1] 38 (0, 0)) (by (with_reducible repeat (first | refine blk_drewN ?_ _ | refine blk_drew ?_ | refine blk_alloc ?_ _)); refine blk_far ?_ NB2_27.out _; (with_reducible repeat (first | refine blk_drewN ?_ _ | refine blk_drew ?_ | refine blk_alloc ?_ _)); refine blk_far ?_ NB2_27.out _; (with_reducible repeat (first | refine blk_drewN ?_ _ | refine blk_drew ?_ | refine blk_alloc ?_ _)); exact BK2.out) hb); have n8_ := Aside0.mk (blk_below (g := gb20) (o := .cells #[.int .i64 t16, .slice Ao46 t17.length co46] 64 (0, 0)) (by (with_reducible repeat (first | refine blk_drewN ?_ _ | refine blk_drew ?_ | refine blk_alloc ?_ _)); refine blk_far ?_ NB20_27.out _; (with_reducible repeat (first | refine blk_drewN ?_ _ | refine blk_drew ?_ | refine blk_alloc ?_ _)); refine blk_far ?_ NB20_27.out _; (with_reducible repeat (first | refine blk_drewN ?_ _ | refine blk_drew ?_ | refine blk_alloc ?_ _)); exact BK20.out) hb); have n9_ := Aside0.mk (blk_below (g := gb27) (o := .cells #[.slice Ao50 t21.length co50, .slice Ao55 t24.length co55] 46 (0, 0)) (by (with_reducible repeat (first | refine blk_drewN ?_ _ | refine blk_drew ?_ | refine blk_alloc ?_ _)); refine blk_put (cs := #[.slice Ao50 t21.length co50, .slice none 0 0]) ?_ 1 _ rfl; (with_reducible repeat (first | refine blk_drewN ?_ _ | refine blk_drew ?_ | refine blk_alloc ?_ _)); refine blk_put (cs := #[.slice none 0 0, .slice none 0 0]) ?_ 0 _ rfl; (with_reducible repeat (first | refine blk_drewN ?_ _ | refine blk_drew ?_ | refine blk_alloc ?_ _)); exact BK27.out) hb); have n10_ := Aside0.mk (below_step bw_ hb); clear HO8; clear HO11; clear HO14; clear HO19; clear HO23; clear HO26; clear BK1; clear BK2; clear BK20; clear BK27; clear HB; have HO8 := n0_; have HO11 := n1_; have HO14 := n2_; have HO19 := n3_; have HO23 := n4_; have HO26 := n5_; have BK1 := n6_; have BK2 := n7_; have BK20 := n8_; have BK27 := n9_; have HB := n10_; clear n0_ n1_ n2_ n3_ n4_ n5_ n6_ n7_ n8_ n9_ n10_; (try clear hb); (try clear hb2); (try clear hk); (try clear hi)))
  go_ret
  exact ⟨rr_, bw_⟩
 rw [if_neg c25] at H
 have c25b0 : (t28 != t15) = false := by simpa using c25
 (try (have c25b1 : decide (t28 = t15) = true := by simpa using c25))
 (try (have c25b2 : (t28 == t15) = true := by simpa using c25))
 clear c25
 replace H := Option.bind_eq_some_iff.mp H
 obtain ⟨⟨t29, t30⟩, A580, H⟩ := H
 replace H : ((laws_eqProg.f k t16 t17 t29 t30).bind fun t33 => (if t33 = true then ((laws_toMachine.f k l1_0 l1_1).bind fun bt34 => ((laws_eqMachine.f k t21 t24 bt34.1 bt34.2).bind fun t40 => (if t40 = true then (some true) else (some false)))) else (some false))) = some r := H
 have A58 := Aside0.mk A580
 clear A580
 replace H := Option.bind_eq_some_iff.mp H
 obtain ⟨t33, A590, H⟩ := H
 replace H : (if t33 = true then ((laws_toMachine.f k l1_0 l1_1).bind fun bt34 => ((laws_eqMachine.f k t21 t24 bt34.1 bt34.2).bind fun t40 => (if t40 = true then (some true) else (some false)))) else (some false)) = some r := H
 have A59 := Aside0.mk A590
 clear A590
 by_cases c60 : t33 = true
 rotate_left
 ·replace c60 := Bool.eq_false_iff.mpr c60
  subst c60
  have H1 : (some false) = some r := by rw [if_neg (show ¬ (false = true) by decide)] at H; exact H
  clear H
  have H := H1
  clear H1
  obtain rfl := Option.some.inj H
  go_enter Try.func13, Try.ntmps13
  try go_wp2_with (first | ((with_reducible refine gate_dst (N := 2) rfl ?_); refine box_event ?hg (N := 2) ?hd (cs := #[.int .i64 a0_0, .slice A0_1 l0_1.length c0_1]) (t := 60) ?hr ?_; (case hd => rfl); (case hg => rfl); (case hr => first | (go_simp; done) | (go_simp; rfl)); intro gb1 hg w146 hbox hb; have n0_ := Aside0.mk (below_step bw_ hb); have n1_ := Aside0.mk (hbox); have n2_ := Aside0.mk ((by rw [hg]; exact (below_size bw_) : w.heap.size ≤ gb1)); have n3_ := Aside0.mk ((by rw [hg]; exact (below_size bw_) : w.heap.size ≤ gb1)); clear HB; have HB := n0_; have BK1 := n1_; have GW1 := n2_; have GE1 := n3_; clear n0_ n1_ n2_ n3_; clear hb hbox hg) | ((with_reducible refine gate_dst (N := 3) rfl ?_); refine box_event ?hg (N := 3) ?hd (cs := #[.slice A1_0 l1_0.length c1_0, .slice A1_1 l1_1.length c1_1]) (t := 38) ?hr ?_; (case hd => rfl); (case hg => rfl); (case hr => first | (go_simp; done) | (go_simp; rfl)); intro gb2 hg w147 hbox hb; have n0_ := Aside0.mk (blk_below (g := gb1) (o := .cells #[.int .i64 a0_0, .slice A0_1 l0_1.length c0_1] 60 (0, 0)) bk_ hb); have n1_ := Aside0.mk (below_step bw_ hb); have n2_ := Aside0.mk (hbox); have n3_ := Aside0.mk ((by rw [hg]; exact (below_size bw_) : w.heap.size ≤ gb2)); have n4_ := Aside0.mk ((by rw [hg]; exact (below_size bw_) : w.heap.size ≤ gb2)); have n5_ := Aside0.mk ((by rw [hg]; exact Nat.ne_of_lt (blk_lt (g := gb1) (o := .cells #[.int .i64 a0_0, .slice A0_1 l0_1.length c0_1] 60 (0, 0)) bk_) : gb1 ≠ gb2)); have n6_ := Aside0.mk ((by rw [hg]; exact Nat.ne_of_gt (blk_lt (g := gb1) (o := .cells #[.int .i64 a0_0, .slice A0_1 l0_1.length c0_1] 60 (0, 0)) bk_) : gb2 ≠ gb1)); clear BK1; clear HB; have BK1 := n0_; have HB := n1_; have BK2 := n2_; have GW2 := n3_; have GE2 := n4_; have NB1_2 := n5_; have NB2_1 := n6_; clear n0_ n1_ n2_ n3_ n4_ n5_ n6_; clear hb hbox hg; have hnb148 := NB1_2.out; have hnc148 := NB2_1.out; have hcz149_0 := (blk_cell BK1.out 0).trans rfl; have hcz149_1 := (blk_cell BK1.out 1).trans rfl; have hfz149_0 := blk_frozen BK1.out 0; have hfz149_1 := blk_frozen BK1.out 1) | ((with_reducible refine gate_callee (f := 43) rfl ?_); refine goesL_ (some 12) rfl rfl Try.func43 (by kernel_rfl) rfl #[.agg #[.int .i64 a0_0, .slice A0_1 l0_1.length c0_1], .int .i64 1048576] rfl ar_ ?_; (with_reducible refine (laws_szProg.calls k a0_0 _ _ l0_1 1048576 t3 _ ?side1 ?side2 A3.out).mono ?_); (case side1 => exact cb_); (case side2 => exact HC0_1.out); rintro e w150 ⟨rfl, hb⟩; refine ⟨_, rfl, ?_⟩; have n0_ := Aside0.mk (blk_below (g := gb1) (o := .cells #[.int .i64 a0_0, .slice A0_1 l0_1.length c0_1] 60 (0, 0)) bk_ hb); have n1_ := Aside0.mk (blk_below (g := gb2) (o := .cells #[.slice A1_0 l1_0.length c1_0, .slice A1_1 l1_1.length c1_1] 38 (0, 0)) bk_ hb); have n2_ := Aside0.mk (below_step bw_ hb); clear BK1; clear BK2; clear HB; have BK1 := n0_; have BK2 := n1_; have HB := n2_; clear n0_ n1_ n2_; (try clear hb); (try clear hb2); (try clear hk); (try clear hi); have hcz151_0 := (blk_cell BK2.out 0).trans rfl; have hcz151_1 := (blk_cell BK2.out 1).trans rfl; have hfz151_0 := blk_frozen BK2.out 0; have hfz151_1 := blk_frozen BK2.out 1) | ((with_reducible refine gate_callee (f := 27) rfl ?_); refine goesL_ (some 17) rfl rfl Try.func27 (by kernel_rfl) rfl #[.agg #[.slice A1_0 l1_0.length c1_0, .slice A1_1 l1_1.length c1_1], .int .i64 t3] rfl ar_ ?_; (with_reducible refine (laws_szMachine.calls k _ _ l1_0 _ _ l1_1 t3 t4 _ ?side1 ?side2 ?side3 ?side4 A10.out).mono ?_); (case side1 => exact cb_); (case side2 => exact HC1_0.out); (case side3 => exact cb_); (case side4 => exact HC1_1.out); rintro e w152 ⟨rfl, hb⟩; refine ⟨_, rfl, ?_⟩; have n0_ := Aside0.mk (blk_below (g := gb1) (o := .cells #[.int .i64 a0_0, .slice A0_1 l0_1.length c0_1] 60 (0, 0)) bk_ hb); have n1_ := Aside0.mk (blk_below (g := gb2) (o := .cells #[.slice A1_0 l1_0.length c1_0, .slice A1_1 l1_1.length c1_1] 38 (0, 0)) bk_ hb); have n2_ := Aside0.mk (below_step bw_ hb); clear BK1; clear BK2; clear HB; have BK1 := n0_; have BK2 := n1_; have HB := n2_; clear n0_ n1_ n2_; (try clear hb); (try clear hb2); (try clear hk); (try clear hi)))
  have n0_ := Aside0.mk (blk_drew BK1.out)
  have n1_ := Aside0.mk (blk_drew BK2.out)
  have n2_ := Aside0.mk (below_drew1 HB.out)
  clear BK1
  clear BK2
  clear HB
  have BK1 := n0_
  have BK2 := n1_
  have HB := n2_
  clear n0_ n1_ n2_
  refine start_ (n := 6) (S := fun w' => w'.cell? ⟨gb1, 0, none⟩ = some (.int .i64 a0_0) ∧ w'.cell? ⟨gb1, 1, none⟩ = some (.slice A0_1 l0_1.length c0_1) ∧ w'.cell? ⟨gb2, 0, none⟩ = some (.slice A1_0 l1_0.length c1_0) ∧ w'.cell? ⟨gb2, 1, none⟩ = some (.slice A1_1 l1_1.length c1_1)) (ds := []) #[false, false, false, false, false, false] (by kernel_rfl) rfl rfl ⟨(blk_cell BK1.out 0).trans rfl, (blk_cell BK1.out 1).trans rfl, (blk_cell BK2.out 0).trans rfl, (blk_cell BK2.out 1).trans rfl⟩ (fun hHeld => ?_)
  generalize w152.drew = w153 at BK1 BK2 HB hHeld ⊢
  refine take_ (i := 0) (N := some 20) (v := ?_) (a' := ?_) #[true, false, false, false, false, false] rfl rfl (by kernel_rfl) (fun _ _ _ h => h) (Or.inl ⟨by rfl, ?_⟩) hHeld ?_ ?_
  rotate_left
  ·rintro w' ⟨s0, s1, s2, s3⟩
   go_simp
   with_reducible rfl
  rotate_left
  ·simp only [Act.put, List.setIfInBounds_toArray, List.set_cons_zero, List.set_cons_succ, i64_w, i32_w]
   rfl
  refine take_ (i := 2) (N := some 22) (v := ?_) (a' := ?_) #[true, false, true, false, false, false] rfl rfl (by kernel_rfl) (fun _ _ _ h => h) (Or.inl ⟨by rfl, ?_⟩) hHeld ?_ ?_
  rotate_left
  ·rintro w' ⟨s0, s1, s2, s3⟩
   go_simp
   with_reducible rfl
  rotate_left
  ·simp only [Act.put, List.setIfInBounds_toArray, List.set_cons_zero, List.set_cons_succ, i64_w, i32_w]
   rfl
  refine one_ (i := 1) (N := some 21) #[true, true, true, false, false, false] rfl rfl (by kernel_rfl) (by decide) (fun K hK => ?_)
  refine goes_ Try.func45 (by kernel_rfl) rfl #[.agg #[.int .i64 a0_0, .slice A0_1 l0_1.length c0_1]] (by rfl) rfl rfl ar_ ?_
  with_reducible refine (laws_toProg.calls k a0_0 _ _ l0_1 t5 t6 _ ?side1 ?side2 A19.out).mono ?_
  (case side1 => exact cb_)
  (case side2 => exact HC0_1.out)
  rintro e w154 ⟨v7, rfl, ho0, hb⟩
  refine ⟨_, rfl, ?_⟩
  have n0_ := Aside0.mk (Kd.S_lower ho0 (below_size bw_))
  have n1_ := Aside0.mk (blk_below (g := gb1) (o := .cells #[.int .i64 a0_0, .slice A0_1 l0_1.length c0_1] 60 (0, 0)) bk_ hb)
  have n2_ := Aside0.mk (blk_below (g := gb2) (o := .cells #[.slice A1_0 l1_0.length c1_0, .slice A1_1 l1_1.length c1_1] 38 (0, 0)) bk_ hb)
  have n3_ := Aside0.mk (below_step bw_ hb)
  clear BK1
  clear BK2
  clear HB
  have HO8 := n0_
  have BK1 := n1_
  have BK2 := n2_
  have HB := n3_
  clear n0_ n1_ n2_ n3_
  (try clear hb)
  (try clear hb2)
  (try clear hk)
  (try clear hi)
  (try clear ho0)
  refine hK.out _ _ ⟨(blk_cell BK1.out 0).trans rfl, (blk_cell BK1.out 1).trans rfl, (blk_cell BK2.out 0).trans rfl, (blk_cell BK2.out 1).trans rfl⟩ (fun hHeld => ?_)
  clear hK K
  refine norm_ (a' := ?_) ?_ ?_
  rotate_left
  ·show Act.put _ (some 21) _ = _
   simp only [Act.put, List.setIfInBounds_toArray, List.set_cons_zero, List.set_cons_succ, i64_w, i32_w]
   rfl
  refine one_ (i := 3) (N := some 23) #[true, true, true, true, false, false] rfl rfl (by kernel_rfl) (by decide) (fun K hK => ?_)
  refine goes_ Try.func30 (by kernel_rfl) rfl #[.agg #[.slice A1_0 l1_0.length c1_0, .slice A1_1 l1_1.length c1_1]] (by rfl) rfl rfl ar_ ?_
  with_reducible refine (laws_toMachine.calls k _ _ l1_0 _ _ l1_1 t9 t12 _ ?side1 ?side2 ?side3 ?side4 A20.out).mono ?_
  (case side1 => exact cb_)
  (case side2 => exact HC1_0.out)
  (case side3 => exact cb_)
  (case side4 => exact HC1_1.out)
  rintro e w155 ⟨v10, v13, rfl, ho0, ho1, hb⟩
  refine ⟨_, rfl, ?_⟩
  have n0_ := Aside0.mk (Kd.S_below (by (with_reducible repeat (first | apply Kd.S_alloc | apply Kd.S_drewN | apply Kd.S_drew)); exact HO8.out) hb)
  have n1_ := Aside0.mk (Kd.R_lower ho0 (below_size bw_))
  have n2_ := Aside0.mk (Kd.S_lower ho1 (below_size bw_))
  have n3_ := Aside0.mk (blk_below (g := gb1) (o := .cells #[.int .i64 a0_0, .slice A0_1 l0_1.length c0_1] 60 (0, 0)) bk_ hb)
  have n4_ := Aside0.mk (blk_below (g := gb2) (o := .cells #[.slice A1_0 l1_0.length c1_0, .slice A1_1 l1_1.length c1_1] 38 (0, 0)) bk_ hb)
  have n5_ := Aside0.mk (below_step bw_ hb)
  clear HO8
  clear BK1
  clear BK2
  clear HB
  have HO8 := n0_
  have HO11 := n1_
  have HO14 := n2_
  have BK1 := n3_
  have BK2 := n4_
  have HB := n5_
  clear n0_ n1_ n2_ n3_ n4_ n5_
  (try clear hb)
  (try clear hb2)
  (try clear hk)
  (try clear hi)
  (try clear ho0)
  (try clear ho1)
  obtain ⟨Ao156, co156, eo156⟩ := Kd.S_slice HO8.out
  (first | subst eo156 | (injection eo156 with f1_ f2_ f3_; have f4_ := f1_.symm; have f5_ := f3_.symm; clear f1_ f2_ f3_; subst f4_; subst f5_))
  obtain ⟨Ao157, co157, eo157⟩ := Kd.R_slice HO11.out
  (first | subst eo157 | (injection eo157 with f1_ f2_ f3_; have f4_ := f1_.symm; have f5_ := f3_.symm; clear f1_ f2_ f3_; subst f4_; subst f5_))
  obtain ⟨Ao158, co158, eo158⟩ := Kd.S_slice HO14.out
  (first | subst eo158 | (injection eo158 with f1_ f2_ f3_; have f4_ := f1_.symm; have f5_ := f3_.symm; clear f1_ f2_ f3_; subst f4_; subst f5_))
  refine hK.out _ _ ⟨(blk_cell BK1.out 0).trans rfl, (blk_cell BK1.out 1).trans rfl, (blk_cell BK2.out 0).trans rfl, (blk_cell BK2.out 1).trans rfl⟩ (fun hHeld => ?_)
  clear hK K
  refine norm_ (a' := ?_) ?_ ?_
  rotate_left
  ·show Act.put _ (some 23) _ = _
   simp only [Act.put, List.setIfInBounds_toArray, List.set_cons_zero, List.set_cons_succ, i64_w, i32_w]
   rfl
  refine one_ (i := 4) (N := some 24) #[true, true, true, true, true, false] rfl rfl (by kernel_rfl) (by decide) (fun K hK => ?_)
  refine goes_ Try.func65 (by kernel_rfl) rfl #[.agg #[.int .i64 t5, .slice Ao156 t6.length co156], .agg #[.slice Ao157 t9.length co157, .slice Ao158 t12.length co158]] (by rfl) rfl rfl ar_ ?_
  with_reducible refine (spec_AtEnd.calls k t5 _ _ t6 _ _ t9 _ _ t12 t15 _ ?side1 ?side2 ?side3 ?side4 ?side5 ?side6 A21.out).mono ?_
  (case side1 => repeat (first | exact (Kd.S_reads' HO8.out).2.2 | (with_reducible refine Kd.C_alloc ?_ _) | (with_reducible refine Kd.C_drewN ?_ _) | (with_reducible refine Kd.C_drew ?_)))
  (case side2 => exact (Kd.S_reads' HO8.out).2.1)
  (case side3 => repeat (first | exact (Kd.R_reads' HO11.out).2.2 | (with_reducible refine Kd.C_alloc ?_ _) | (with_reducible refine Kd.C_drewN ?_ _) | (with_reducible refine Kd.C_drew ?_)))
  (case side4 => exact (Kd.R_reads' HO11.out).2.1)
  (case side5 => repeat (first | exact (Kd.S_reads' HO14.out).2.2 | (with_reducible refine Kd.C_alloc ?_ _) | (with_reducible refine Kd.C_drewN ?_ _) | (with_reducible refine Kd.C_drew ?_)))
  (case side6 => exact (Kd.S_reads' HO14.out).2.1)
  rintro e w159 ⟨rfl, hb⟩
  refine ⟨_, rfl, ?_⟩
  have n0_ := Aside0.mk (Kd.S_below (by (with_reducible repeat (first | apply Kd.S_alloc | apply Kd.S_drewN | apply Kd.S_drew)); exact HO8.out) hb)
  have n1_ := Aside0.mk (Kd.R_below (by (with_reducible repeat (first | apply Kd.R_alloc | apply Kd.R_drewN | apply Kd.R_drew)); exact HO11.out) hb)
  have n2_ := Aside0.mk (Kd.S_below (by (with_reducible repeat (first | apply Kd.S_alloc | apply Kd.S_drewN | apply Kd.S_drew)); exact HO14.out) hb)
  have n3_ := Aside0.mk (blk_below (g := gb1) (o := .cells #[.int .i64 a0_0, .slice A0_1 l0_1.length c0_1] 60 (0, 0)) bk_ hb)
  have n4_ := Aside0.mk (blk_below (g := gb2) (o := .cells #[.slice A1_0 l1_0.length c1_0, .slice A1_1 l1_1.length c1_1] 38 (0, 0)) bk_ hb)
  have n5_ := Aside0.mk (below_step bw_ hb)
  clear HO8
  clear HO11
  clear HO14
  clear BK1
  clear BK2
  clear HB
  have HO8 := n0_
  have HO11 := n1_
  have HO14 := n2_
  have BK1 := n3_
  have BK2 := n4_
  have HB := n5_
  clear n0_ n1_ n2_ n3_ n4_ n5_
  (try clear hb)
  (try clear hb2)
  (try clear hk)
  (try clear hi)
  refine hK.out _ _ ⟨(blk_cell BK1.out 0).trans rfl, (blk_cell BK1.out 1).trans rfl, (blk_cell BK2.out 0).trans rfl, (blk_cell BK2.out 1).trans rfl⟩ (fun hHeld => ?_)
  clear hK K
  refine norm_ (a' := ?_) ?_ ?_
  rotate_left
  ·show Act.put _ (some 24) _ = _
   simp only [Act.put, List.setIfInBounds_toArray, List.set_cons_zero, List.set_cons_succ, i64_w, i32_w]
   rfl
  refine pure_ (i := 5) (N := some 6) (v := ?_) (a' := ?_) #[true, true, true, true, true, true] rfl rfl (by kernel_rfl) (fun _ _ _ h => h) (Or.inl ⟨by rfl, ?_⟩) ?_ ?_
  rotate_left
  ·intro w'
   go_simp
   with_reducible rfl
  rotate_left
  ·simp only [Act.put, List.setIfInBounds_toArray, List.set_cons_zero, List.set_cons_succ, i64_w, i32_w]
   rfl
  refine done_ (by kernel_rfl) ?_
  have hcz160_0 := (blk_cell BK1.out 0).trans rfl
  have hcz160_1 := (blk_cell BK1.out 1).trans rfl
  have hfz160_0 := blk_frozen BK1.out 0
  have hfz160_1 := blk_frozen BK1.out 1
  try go_wp2_with (first | ((with_reducible refine gate_callee (f := 45) rfl ?_); refine goesL_ (some 26) rfl rfl Try.func45 (by kernel_rfl) rfl #[.agg #[.int .i64 a0_0, .slice A0_1 l0_1.length c0_1]] rfl ar_ ?_; (with_reducible refine (laws_toProg.calls k a0_0 _ _ l0_1 t16 t17 _ ?side1 ?side2 A22.out).mono ?_); (case side1 => exact cb_); (case side2 => exact HC0_1.out); rintro e w161 ⟨v18, rfl, ho0, hb⟩; refine ⟨_, rfl, ?_⟩; have n0_ := Aside0.mk (Kd.S_elder' (by (with_reducible repeat (first | apply Kd.S_alloc | apply Kd.S_drewN | apply Kd.S_drew)); exact HO8.out) (Kd.S_base ho0) hb); have n1_ := Aside0.mk (Kd.R_below (by (with_reducible repeat (first | apply Kd.R_alloc | apply Kd.R_drewN | apply Kd.R_drew)); exact HO11.out) hb); have n2_ := Aside0.mk (Kd.S_below (by (with_reducible repeat (first | apply Kd.S_alloc | apply Kd.S_drewN | apply Kd.S_drew)); exact HO14.out) hb); have n3_ := Aside0.mk (Kd.S_lower (Kd.S_new' ho0 (Kd.S_lt (by (with_reducible repeat (first | apply Kd.S_alloc | apply Kd.S_drewN | apply Kd.S_drew)); exact HO8.out))) (below_size bw_)); have n4_ := Aside0.mk (blk_below (g := gb1) (o := .cells #[.int .i64 a0_0, .slice A0_1 l0_1.length c0_1] 60 (0, 0)) bk_ hb); have n5_ := Aside0.mk (blk_below (g := gb2) (o := .cells #[.slice A1_0 l1_0.length c1_0, .slice A1_1 l1_1.length c1_1] 38 (0, 0)) bk_ hb); have n6_ := Aside0.mk (below_step bw_ hb); clear HO8; clear HO11; clear HO14; clear BK1; clear BK2; clear HB; have HO8 := n0_; have HO11 := n1_; have HO14 := n2_; have HO19 := n3_; have BK1 := n4_; have BK2 := n5_; have HB := n6_; clear n0_ n1_ n2_ n3_ n4_ n5_ n6_; (try clear hb); (try clear hb2); (try clear hk); (try clear hi); (try clear ho0)) | ((with_reducible refine gate_dst (N := 7) rfl ?_); refine box_event ?hg (N := 7) ?hd (cs := #[.int .i64 0, .slice none 0 0]) (t := 64) ?hr ?_; (case hd => rfl); (case hg => rfl); (case hr => first | (go_simp; done) | (go_simp; rfl)); intro gb20 hg w162 hbox hb; have n0_ := Aside0.mk (Kd.S_below (by (with_reducible repeat (first | apply Kd.S_alloc | apply Kd.S_drewN | apply Kd.S_drew)); exact HO8.out) hb); have n1_ := Aside0.mk (Kd.R_below (by (with_reducible repeat (first | apply Kd.R_alloc | apply Kd.R_drewN | apply Kd.R_drew)); exact HO11.out) hb); have n2_ := Aside0.mk (Kd.S_below (by (with_reducible repeat (first | apply Kd.S_alloc | apply Kd.S_drewN | apply Kd.S_drew)); exact HO14.out) hb); have n3_ := Aside0.mk (Kd.S_below (by (with_reducible repeat (first | apply Kd.S_alloc | apply Kd.S_drewN | apply Kd.S_drew)); exact HO19.out) hb); have n4_ := Aside0.mk (blk_below (g := gb1) (o := .cells #[.int .i64 a0_0, .slice A0_1 l0_1.length c0_1] 60 (0, 0)) bk_ hb); have n5_ := Aside0.mk (blk_below (g := gb2) (o := .cells #[.slice A1_0 l1_0.length c1_0, .slice A1_1 l1_1.length c1_1] 38 (0, 0)) bk_ hb); have n6_ := Aside0.mk (below_step bw_ hb); have n7_ := Aside0.mk (hbox); have n8_ := Aside0.mk ((by rw [hg]; exact (below_size bw_) : w.heap.size ≤ gb20)); have n9_ := Aside0.mk ((by rw [hg]; exact (below_size bw_) : w.heap.size ≤ gb20)); have n10_ := Aside0.mk ((by rw [hg]; exact Nat.ne_of_lt (blk_lt (g := gb1) (o := .cells #[.int .i64 a0_0, .slice A0_1 l0_1.length c0_1] 60 (0, 0)) bk_) : gb1 ≠ gb20)); have n11_ := Aside0.mk ((by rw [hg]; exact Nat.ne_of_gt (blk_lt (g := gb1) (o := .cells #[.int .i64 a0_0, .slice A0_1 l0_1.length c0_1] 60 (0, 0)) bk_) : gb20 ≠ gb1)); have n12_ := Aside0.mk ((by rw [hg]; exact Nat.ne_of_lt (blk_lt (g := gb2) (o := .cells #[.slice A1_0 l1_0.length c1_0, .slice A1_1 l1_1.length c1_1] 38 (0, 0)) bk_) : gb2 ≠ gb20)); have n13_ := Aside0.mk ((by rw [hg]; exact Nat.ne_of_gt (blk_lt (g := gb2) (o := .cells #[.slice A1_0 l1_0.length c1_0, .slice A1_1 l1_1.length c1_1] 38 (0, 0)) bk_) : gb20 ≠ gb2)); clear HO8; clear HO11; clear HO14; clear HO19; clear BK1; clear BK2; clear HB; have HO8 := n0_; have HO11 := n1_; have HO14 := n2_; have HO19 := n3_; have BK1 := n4_; have BK2 := n5_; have HB := n6_; have BK20 := n7_; have GW20 := n8_; have GE20 := n9_; have NB1_20 := n10_; have NB20_1 := n11_; have NB2_20 := n12_; have NB20_2 := n13_; clear n0_ n1_ n2_ n3_ n4_ n5_ n6_ n7_ n8_ n9_ n10_ n11_ n12_ n13_; clear hb hbox hg; have hnb163 := NB20_1.out; have hnc163 := NB1_20.out; have hnb164 := NB20_2.out; have hnc164 := NB2_20.out; have hcz165_0 := (blk_cell BK20.out 0).trans rfl; have hcz165_1 := (blk_cell BK20.out 1).trans rfl; have hfz165_0 := blk_frozen BK20.out 0; have hfz165_1 := blk_frozen BK20.out 1; obtain ⟨Ao166, co166, eo166⟩ := Kd.S_slice HO19.out; subst eo166; have hcz167_0 := (blk_cell BK2.out 0).trans rfl; have hcz167_1 := (blk_cell BK2.out 1).trans rfl; have hfz167_0 := blk_frozen BK2.out 0; have hfz167_1 := blk_frozen BK2.out 1) | ((with_reducible refine gate_callee (f := 30) rfl ?_); refine goesL_ (some 28) rfl rfl Try.func30 (by kernel_rfl) rfl #[.agg #[.slice A1_0 l1_0.length c1_0, .slice A1_1 l1_1.length c1_1]] rfl ar_ ?_; (with_reducible refine (laws_toMachine.calls k _ _ l1_0 _ _ l1_1 t21 t24 _ ?side1 ?side2 ?side3 ?side4 A23.out).mono ?_); (case side1 => exact Kd.C_below HR1_0.out bw_); (case side2 => exact HC1_0.out); (case side3 => exact Kd.C_below HR1_1.out bw_); (case side4 => exact HC1_1.out); rintro e w168 ⟨v22, v25, rfl, ho0, ho1, hb⟩; refine ⟨_, rfl, ?_⟩; have n0_ := Aside0.mk (Kd.S_below (by (with_reducible repeat (first | apply Kd.S_alloc | apply Kd.S_drewN | apply Kd.S_drew)); exact (Kd.S_mono (Kd.S_far (p := ⟨gb20, 1, none⟩) (Kd.S_far (p := ⟨gb20, 0, none⟩) (Kd.S_types HO8.out BK20.out (by decide)) (fun _ hk => hk.2) (.int .i64 t16)) (fun _ hk => hk.2) (.slice Ao166 t17.length co166)) (fun _ h_ => h_.1))) hb); have n1_ := Aside0.mk (Kd.R_elder' (by (with_reducible repeat (first | apply Kd.R_alloc | apply Kd.R_drewN | apply Kd.R_drew)); exact (Kd.R_mono (Kd.R_far (p := ⟨gb20, 1, none⟩) (Kd.R_far (p := ⟨gb20, 0, none⟩) (Kd.R_types HO11.out BK20.out (by decide)) (fun _ hk => hk.2) (.int .i64 t16)) (fun _ hk => hk.2) (.slice Ao166 t17.length co166)) (fun _ h_ => h_.1))) (Kd.R_base ho0) hb); have n2_ := Aside0.mk (Kd.S_mono (Kd.S_told (Kd.S_told (Kd.S_old (by (with_reducible repeat (first | apply Kd.S_alloc | apply Kd.S_drewN | apply Kd.S_drew)); exact (Kd.S_mono (Kd.S_far (p := ⟨gb20, 1, none⟩) (Kd.S_far (p := ⟨gb20, 0, none⟩) (Kd.S_types HO14.out BK20.out (by decide)) (fun _ hk => hk.2) (.int .i64 t16)) (fun _ hk => hk.2) (.slice Ao166 t17.length co166)) (fun _ h_ => h_.1))) hb) (Kd.R_base ho0)) (Kd.S_base ho1)) (fun _ h_ => h_.1)); have n3_ := Aside0.mk (Kd.S_below (by (with_reducible repeat (first | apply Kd.S_alloc | apply Kd.S_drewN | apply Kd.S_drew)); exact (Kd.S_mono (Kd.S_far (p := ⟨gb20, 1, none⟩) (Kd.S_far (p := ⟨gb20, 0, none⟩) (Kd.S_types HO19.out BK20.out (by decide)) (fun _ hk => hk.2) (.int .i64 t16)) (fun _ hk => hk.2) (.slice Ao166 t17.length co166)) (fun _ h_ => h_.1))) hb); have n4_ := Aside0.mk (Kd.R_lower (Kd.R_new' ho0 (Kd.R_lt (by (with_reducible repeat (first | apply Kd.R_alloc | apply Kd.R_drewN | apply Kd.R_drew)); exact (Kd.R_mono (Kd.R_far (p := ⟨gb20, 1, none⟩) (Kd.R_far (p := ⟨gb20, 0, none⟩) (Kd.R_types HO11.out BK20.out (by decide)) (fun _ hk => hk.2) (.int .i64 t16)) (fun _ hk => hk.2) (.slice Ao166 t17.length co166)) (fun _ h_ => h_.1))))) (below_size bw_)); have n5_ := Aside0.mk (Kd.S_lower (Kd.S_new' (Kd.S_new' ho1 (Kd.R_lt (by (with_reducible repeat (first | apply Kd.R_alloc | apply Kd.R_drewN | apply Kd.R_drew)); exact (Kd.R_mono (Kd.R_far (p := ⟨gb20, 1, none⟩) (Kd.R_far (p := ⟨gb20, 0, none⟩) (Kd.R_types HO11.out BK20.out (by decide)) (fun _ hk => hk.2) (.int .i64 t16)) (fun _ hk => hk.2) (.slice Ao166 t17.length co166)) (fun _ h_ => h_.1))))) (Kd.S_lt (by (with_reducible repeat (first | apply Kd.S_alloc | apply Kd.S_drewN | apply Kd.S_drew)); exact (Kd.S_mono (Kd.S_far (p := ⟨gb20, 1, none⟩) (Kd.S_far (p := ⟨gb20, 0, none⟩) (Kd.S_types HO14.out BK20.out (by decide)) (fun _ hk => hk.2) (.int .i64 t16)) (fun _ hk => hk.2) (.slice Ao166 t17.length co166)) (fun _ h_ => h_.1))))) (below_size bw_)); have n6_ := Aside0.mk (blk_below (g := gb1) (o := .cells #[.int .i64 a0_0, .slice A0_1 l0_1.length c0_1] 60 (0, 0)) (by (with_reducible repeat (first | refine blk_drewN ?_ _ | refine blk_drew ?_ | refine blk_alloc ?_ _)); refine blk_far ?_ NB1_20.out _; (with_reducible repeat (first | refine blk_drewN ?_ _ | refine blk_drew ?_ | refine blk_alloc ?_ _)); refine blk_far ?_ NB1_20.out _; (with_reducible repeat (first | refine blk_drewN ?_ _ | refine blk_drew ?_ | refine blk_alloc ?_ _)); exact BK1.out) hb); have n7_ := Aside0.mk (blk_below (g := gb2) (o := .cells #[.slice A1_0 l1_0.length c1_0, .slice A1_1 l1_1.length c1_1] 38 (0, 0)) (by (with_reducible repeat (first | refine blk_drewN ?_ _ | refine blk_drew ?_ | refine blk_alloc ?_ _)); refine blk_far ?_ NB2_20.out _; (with_reducible repeat (first | refine blk_drewN ?_ _ | refine blk_drew ?_ | refine blk_alloc ?_ _)); refine blk_far ?_ NB2_20.out _; (with_reducible repeat (first | refine blk_drewN ?_ _ | refine blk_drew ?_ | refine blk_alloc ?_ _)); exact BK2.out) hb); have n8_ := Aside0.mk (blk_below (g := gb20) (o := .cells #[.int .i64 t16, .slice Ao166 t17.length co166] 64 (0, 0)) (by (with_reducible repeat (first | refine blk_drewN ?_ _ | refine blk_drew ?_ | refine blk_alloc ?_ _)); refine blk_put (cs := #[.int .i64 t16, .slice none 0 0]) ?_ 1 _ rfl; (with_reducible repeat (first | refine blk_drewN ?_ _ | refine blk_drew ?_ | refine blk_alloc ?_ _)); refine blk_put (cs := #[.int .i64 0, .slice none 0 0]) ?_ 0 _ rfl; (with_reducible repeat (first | refine blk_drewN ?_ _ | refine blk_drew ?_ | refine blk_alloc ?_ _)); exact BK20.out) hb); have n9_ := Aside0.mk (below_step bw_ hb); clear HO8; clear HO11; clear HO14; clear HO19; clear BK1; clear BK2; clear BK20; clear HB; have HO8 := n0_; have HO11 := n1_; have HO14 := n2_; have HO19 := n3_; have HO23 := n4_; have HO26 := n5_; have BK1 := n6_; have BK2 := n7_; have BK20 := n8_; have HB := n9_; clear n0_ n1_ n2_ n3_ n4_ n5_ n6_ n7_ n8_ n9_; (try clear hb); (try clear hb2); (try clear hk); (try clear hi); (try clear ho0); (try clear ho1)) | ((with_reducible refine gate_dst (N := 8) rfl ?_); refine box_event ?hg (N := 8) ?hd (cs := #[.slice none 0 0, .slice none 0 0]) (t := 46) ?hr ?_; (case hd => rfl); (case hg => rfl); (case hr => first | (go_simp; done) | (go_simp; rfl)); intro gb27 hg w169 hbox hb; have n0_ := Aside0.mk (Kd.S_below (by (with_reducible repeat (first | apply Kd.S_alloc | apply Kd.S_drewN | apply Kd.S_drew)); exact HO8.out) hb); have n1_ := Aside0.mk (Kd.R_below (by (with_reducible repeat (first | apply Kd.R_alloc | apply Kd.R_drewN | apply Kd.R_drew)); exact HO11.out) hb); have n2_ := Aside0.mk (Kd.S_below (by (with_reducible repeat (first | apply Kd.S_alloc | apply Kd.S_drewN | apply Kd.S_drew)); exact HO14.out) hb); have n3_ := Aside0.mk (Kd.S_below (by (with_reducible repeat (first | apply Kd.S_alloc | apply Kd.S_drewN | apply Kd.S_drew)); exact HO19.out) hb); have n4_ := Aside0.mk (Kd.R_below (by (with_reducible repeat (first | apply Kd.R_alloc | apply Kd.R_drewN | apply Kd.R_drew)); exact HO23.out) hb); have n5_ := Aside0.mk (Kd.S_below (by (with_reducible repeat (first | apply Kd.S_alloc | apply Kd.S_drewN | apply Kd.S_drew)); exact HO26.out) hb); have n6_ := Aside0.mk (blk_below (g := gb1) (o := .cells #[.int .i64 a0_0, .slice A0_1 l0_1.length c0_1] 60 (0, 0)) bk_ hb); have n7_ := Aside0.mk (blk_below (g := gb2) (o := .cells #[.slice A1_0 l1_0.length c1_0, .slice A1_1 l1_1.length c1_1] 38 (0, 0)) bk_ hb); have n8_ := Aside0.mk (blk_below (g := gb20) (o := .cells #[.int .i64 t16, .slice Ao166 t17.length co166] 64 (0, 0)) bk_ hb); have n9_ := Aside0.mk (below_step bw_ hb); have n10_ := Aside0.mk (hbox); have n11_ := Aside0.mk ((by rw [hg]; exact (below_size bw_) : w.heap.size ≤ gb27)); have n12_ := Aside0.mk ((by rw [hg]; exact (below_size bw_) : w.heap.size ≤ gb27)); have n13_ := Aside0.mk ((by rw [hg]; exact Nat.ne_of_lt (blk_lt (g := gb1) (o := .cells #[.int .i64 a0_0, .slice A0_1 l0_1.length c0_1] 60 (0, 0)) bk_) : gb1 ≠ gb27)); have n14_ := Aside0.mk ((by rw [hg]; exact Nat.ne_of_gt (blk_lt (g := gb1) (o := .cells #[.int .i64 a0_0, .slice A0_1 l0_1.length c0_1] 60 (0, 0)) bk_) : gb27 ≠ gb1)); have n15_ := Aside0.mk ((by rw [hg]; exact Nat.ne_of_lt (blk_lt (g := gb2) (o := .cells #[.slice A1_0 l1_0.length c1_0, .slice A1_1 l1_1.length c1_1] 38 (0, 0)) bk_) : gb2 ≠ gb27)); have n16_ := Aside0.mk ((by rw [hg]; exact Nat.ne_of_gt (blk_lt (g := gb2) (o := .cells #[.slice A1_0 l1_0.length c1_0, .slice A1_1 l1_1.length c1_1] 38 (0, 0)) bk_) : gb27 ≠ gb2)); have n17_ := Aside0.mk ((by rw [hg]; exact Nat.ne_of_lt (blk_lt (g := gb20) (o := .cells #[.int .i64 t16, .slice Ao166 t17.length co166] 64 (0, 0)) bk_) : gb20 ≠ gb27)); have n18_ := Aside0.mk ((by rw [hg]; exact Nat.ne_of_gt (blk_lt (g := gb20) (o := .cells #[.int .i64 t16, .slice Ao166 t17.length co166] 64 (0, 0)) bk_) : gb27 ≠ gb20)); clear HO8; clear HO11; clear HO14; clear HO19; clear HO23; clear HO26; clear BK1; clear BK2; clear BK20; clear HB; have HO8 := n0_; have HO11 := n1_; have HO14 := n2_; have HO19 := n3_; have HO23 := n4_; have HO26 := n5_; have BK1 := n6_; have BK2 := n7_; have BK20 := n8_; have HB := n9_; have BK27 := n10_; have GW27 := n11_; have GE27 := n12_; have NB1_27 := n13_; have NB27_1 := n14_; have NB2_27 := n15_; have NB27_2 := n16_; have NB20_27 := n17_; have NB27_20 := n18_; clear n0_ n1_ n2_ n3_ n4_ n5_ n6_ n7_ n8_ n9_ n10_ n11_ n12_ n13_ n14_ n15_ n16_ n17_ n18_; clear hb hbox hg; obtain ⟨Ao170, co170, eo170⟩ := Kd.R_slice HO23.out; subst eo170; have hnb171 := NB27_1.out; have hnc171 := NB1_27.out; have hnb172 := NB27_2.out; have hnc172 := NB2_27.out; have hnb173 := NB27_20.out; have hnc173 := NB20_27.out; have hcz174_0 := (blk_cell BK27.out 0).trans rfl; have hcz174_1 := (blk_cell BK27.out 1).trans rfl; have hfz174_0 := blk_frozen BK27.out 0; have hfz174_1 := blk_frozen BK27.out 1; obtain ⟨Ao175, co175, eo175⟩ := Kd.S_slice HO26.out; subst eo175; have hcz176_0 := (blk_cell BK20.out 0).trans rfl; have hcz176_1 := (blk_cell BK20.out 1).trans rfl; have hfz176_0 := blk_frozen BK20.out 0; have hfz176_1 := blk_frozen BK20.out 1) | ((with_reducible refine gate_callee (f := 66) rfl ?_); refine goesL_ (some 31) rfl rfl Try.func66 (by kernel_rfl) rfl #[.agg #[.int .i64 t16, .slice Ao166 t17.length co166], .agg #[.slice Ao170 t21.length co170, .slice Ao175 t24.length co175]] rfl ar_ ?_; (with_reducible refine (impl_AtEnd.calls k t16 _ _ t17 _ _ t21 _ _ t24 t28 _ ?side1 ?side2 ?side3 ?side4 ?side5 ?side6 A24.out).mono ?_); (case side1 => refine (Kd.S_reads' (e := 94) (base := w.heap.size) (ok := fun k_ => (True ∧ some k_ ≠ (.slice Ao156 t6.length co156 : Value).ownBlock)) (n := t17.length) (c := co166) ?_).2.2; exact (by (with_reducible repeat (first | apply Kd.S_alloc | apply Kd.S_drewN | apply Kd.S_drew)); exact (Kd.S_mono (Kd.S_far (p := ⟨gb27, 1, none⟩) (Kd.S_far (p := ⟨gb27, 0, none⟩) (Kd.S_types HO19.out BK27.out (by decide)) (fun _ hk => hk.2) (.slice Ao170 t21.length co170)) (fun _ hk => hk.2) (.slice Ao175 t24.length co175)) (fun _ h_ => h_.1)))); (case side2 => exact (Kd.S_reads' HO19.out).2.1); (case side3 => refine (Kd.R_reads' (e := 3) (base := w.heap.size) (ok := fun k_ => (True ∧ some k_ ≠ (.slice Ao157 t9.length co157 : Value).ownBlock)) (n := t21.length) (c := co170) ?_).2.2; exact (by (with_reducible repeat (first | apply Kd.R_alloc | apply Kd.R_drewN | apply Kd.R_drew)); exact (Kd.R_mono (Kd.R_far (p := ⟨gb27, 1, none⟩) (Kd.R_far (p := ⟨gb27, 0, none⟩) (Kd.R_types HO23.out BK27.out (by decide)) (fun _ hk => hk.2) (.slice Ao170 t21.length co170)) (fun _ hk => hk.2) (.slice Ao175 t24.length co175)) (fun _ h_ => h_.1)))); (case side4 => exact (Kd.R_reads' HO23.out).2.1); (case side5 => refine (Kd.S_reads' (e := 137) (base := w.heap.size) (ok := fun k_ => ((some k_ ≠ (.slice Ao170 t21.length co170 : Value).ownBlock ∧ some k_ ≠ (.slice Ao157 t9.length co157 : Value).ownBlock) ∧ some k_ ≠ (.slice Ao158 t12.length co158 : Value).ownBlock)) (n := t24.length) (c := co175) ?_).2.2; exact (by (with_reducible repeat (first | apply Kd.S_alloc | apply Kd.S_drewN | apply Kd.S_drew)); exact (Kd.S_mono (Kd.S_far (p := ⟨gb27, 1, none⟩) (Kd.S_far (p := ⟨gb27, 0, none⟩) (Kd.S_types HO26.out BK27.out (by decide)) (fun _ hk => hk.2) (.slice Ao170 t21.length co170)) (fun _ hk => hk.2) (.slice Ao175 t24.length co175)) (fun _ h_ => h_.1)))); (case side6 => exact (Kd.S_reads' HO26.out).2.1); rintro e w177 ⟨rfl, hb⟩; refine ⟨_, rfl, ?_⟩; have n0_ := Aside0.mk (Kd.S_below (by (with_reducible repeat (first | apply Kd.S_alloc | apply Kd.S_drewN | apply Kd.S_drew)); exact (Kd.S_mono (Kd.S_far (p := ⟨gb27, 1, none⟩) (Kd.S_far (p := ⟨gb27, 0, none⟩) (Kd.S_types HO8.out BK27.out (by decide)) (fun _ hk => hk.2) (.slice Ao170 t21.length co170)) (fun _ hk => hk.2) (.slice Ao175 t24.length co175)) (fun _ h_ => h_.1))) hb); have n1_ := Aside0.mk (Kd.R_below (by (with_reducible repeat (first | apply Kd.R_alloc | apply Kd.R_drewN | apply Kd.R_drew)); exact (Kd.R_mono (Kd.R_far (p := ⟨gb27, 1, none⟩) (Kd.R_far (p := ⟨gb27, 0, none⟩) (Kd.R_types HO11.out BK27.out (by decide)) (fun _ hk => hk.2) (.slice Ao170 t21.length co170)) (fun _ hk => hk.2) (.slice Ao175 t24.length co175)) (fun _ h_ => h_.1))) hb); have n2_ := Aside0.mk (Kd.S_below (by (with_reducible repeat (first | apply Kd.S_alloc | apply Kd.S_drewN | apply Kd.S_drew)); exact (Kd.S_mono (Kd.S_far (p := ⟨gb27, 1, none⟩) (Kd.S_far (p := ⟨gb27, 0, none⟩) (Kd.S_types HO14.out BK27.out (by decide)) (fun _ hk => hk.2) (.slice Ao170 t21.length co170)) (fun _ hk => hk.2) (.slice Ao175 t24.length co175)) (fun _ h_ => h_.1))) hb); have n3_ := Aside0.mk (Kd.S_below (by (with_reducible repeat (first | apply Kd.S_alloc | apply Kd.S_drewN | apply Kd.S_drew)); exact (Kd.S_mono (Kd.S_far (p := ⟨gb27, 1, none⟩) (Kd.S_far (p := ⟨gb27, 0, none⟩) (Kd.S_types HO19.out BK27.out (by decide)) (fun _ hk => hk.2) (.slice Ao170 t21.length co170)) (fun _ hk => hk.2) (.slice Ao175 t24.length co175)) (fun _ h_ => h_.1))) hb); have n4_ := Aside0.mk (Kd.R_below (by (with_reducible repeat (first | apply Kd.R_alloc | apply Kd.R_drewN | apply Kd.R_drew)); exact (Kd.R_mono (Kd.R_far (p := ⟨gb27, 1, none⟩) (Kd.R_far (p := ⟨gb27, 0, none⟩) (Kd.R_types HO23.out BK27.out (by decide)) (fun _ hk => hk.2) (.slice Ao170 t21.length co170)) (fun _ hk => hk.2) (.slice Ao175 t24.length co175)) (fun _ h_ => h_.1))) hb); have n5_ := Aside0.mk (Kd.S_below (by (with_reducible repeat (first | apply Kd.S_alloc | apply Kd.S_drewN | apply Kd.S_drew)); exact (Kd.S_mono (Kd.S_far (p := ⟨gb27, 1, none⟩) (Kd.S_far (p := ⟨gb27, 0, none⟩) (Kd.S_types HO26.out BK27.out (by decide)) (fun _ hk => hk.2) (.slice Ao170 t21.length co170)) (fun _ hk => hk.2) (.slice Ao175 t24.length co175)) (fun _ h_ => h_.1))) hb); have n6_ := Aside0.mk (blk_below (g := gb1) (o := .cells #[.int .i64 a0_0, .slice A0_1 l0_1.length c0_1] 60 (0, 0)) (by (with_reducible repeat (first | refine blk_drewN ?_ _ | refine blk_drew ?_ | refine blk_alloc ?_ _)); refine blk_far ?_ NB1_27.out _; (with_reducible repeat (first | refine blk_drewN ?_ _ | refine blk_drew ?_ | refine blk_alloc ?_ _)); refine blk_far ?_ NB1_27.out _; (with_reducible repeat (first | refine blk_drewN ?_ _ | refine blk_drew ?_ | refine blk_alloc ?_ _)); exact BK1.out) hb); have n7_ := Aside0.mk (blk_below (g := gb2) (o := .cells #[.slice A1_0 l1_0.length c1_0, .slice A1_1 l1_1.length c1_1] 38 (0, 0)) (by (with_reducible repeat (first | refine blk_drewN ?_ _ | refine blk_drew ?_ | refine blk_alloc ?_ _)); refine blk_far ?_ NB2_27.out _; (with_reducible repeat (first | refine blk_drewN ?_ _ | refine blk_drew ?_ | refine blk_alloc ?_ _)); refine blk_far ?_ NB2_27.out _; (with_reducible repeat (first | refine blk_drewN ?_ _ | refine blk_drew ?_ | refine blk_alloc ?_ _)); exact BK2.out) hb); have n8_ := Aside0.mk (blk_below (g := gb20) (o := .cells #[.int .i64 t16, .slice Ao166 t17.length co166] 64 (0, 0)) (by (with_reducible repeat (first | refine blk_drewN ?_ _ | refine blk_drew ?_ | refine blk_alloc ?_ _)); refine blk_far ?_ NB20_27.out _; (with_reducible repeat (first | refine blk_drewN ?_ _ | refine blk_drew ?_ | refine blk_alloc ?_ _)); refine blk_far ?_ NB20_27.out _; (with_reducible repeat (first | refine blk_drewN ?_ _ | refine blk_drew ?_ | refine blk_alloc ?_ _)); exact BK20.out) hb); have n9_ := Aside0.mk (blk_below (g := gb27) (o := .cells #[.slice Ao170 t21.length co170, .slice Ao175 t24.length co175] 46 (0, 0)) (by (with_reducible repeat (first | refine blk_drewN ?_ _ | refine blk_drew ?_ | refine blk_alloc ?_ _)); refine blk_put (cs := #[.slice Ao170 t21.length co170, .slice none 0 0]) ?_ 1 _ rfl; (with_reducible repeat (first | refine blk_drewN ?_ _ | refine blk_drew ?_ | refine blk_alloc ?_ _)); refine blk_put (cs := #[.slice none 0 0, .slice none 0 0]) ?_ 0 _ rfl; (with_reducible repeat (first | refine blk_drewN ?_ _ | refine blk_drew ?_ | refine blk_alloc ?_ _)); exact BK27.out) hb); have n10_ := Aside0.mk (below_step bw_ hb); clear HO8; clear HO11; clear HO14; clear HO19; clear HO23; clear HO26; clear BK1; clear BK2; clear BK20; clear BK27; clear HB; have HO8 := n0_; have HO11 := n1_; have HO14 := n2_; have HO19 := n3_; have HO23 := n4_; have HO26 := n5_; have BK1 := n6_; have BK2 := n7_; have BK20 := n8_; have BK27 := n9_; have HB := n10_; clear n0_ n1_ n2_ n3_ n4_ n5_ n6_ n7_ n8_ n9_ n10_; (try clear hb); (try clear hb2); (try clear hk); (try clear hi)))
  have n0_ := Aside0.mk (Kd.S_drew HO8.out)
  have n1_ := Aside0.mk (Kd.R_drew HO11.out)
  have n2_ := Aside0.mk (Kd.S_drew HO14.out)
  have n3_ := Aside0.mk (Kd.S_drew HO19.out)
  have n4_ := Aside0.mk (Kd.R_drew HO23.out)
  have n5_ := Aside0.mk (Kd.S_drew HO26.out)
  have n6_ := Aside0.mk (blk_drew BK1.out)
  have n7_ := Aside0.mk (blk_drew BK2.out)
  have n8_ := Aside0.mk (blk_drew BK20.out)
  have n9_ := Aside0.mk (blk_drew BK27.out)
  have n10_ := Aside0.mk (below_drew1 HB.out)
  clear HO8
  clear HO11
  clear HO14
  clear HO19
  clear HO23
  clear HO26
  clear BK1
  clear BK2
  clear BK20
  clear BK27
  clear HB
  have HO8 := n0_
  have HO11 := n1_
  have HO14 := n2_
  have HO19 := n3_
  have HO23 := n4_
  have HO26 := n5_
  have BK1 := n6_
  have BK2 := n7_
  have BK20 := n8_
  have BK27 := n9_
  have HB := n10_
  clear n0_ n1_ n2_ n3_ n4_ n5_ n6_ n7_ n8_ n9_ n10_
  refine start_ (n := 5) (S := fun w' => w'.cell? ⟨gb20, 0, none⟩ = some (.int .i64 t16) ∧ w'.cell? ⟨gb20, 1, none⟩ = some (.slice Ao166 t17.length co166) ∧ w'.cell? ⟨gb1, 0, none⟩ = some (.int .i64 a0_0) ∧ w'.cell? ⟨gb1, 1, none⟩ = some (.slice A0_1 l0_1.length c0_1)) (ds := []) #[false, false, false, false, false] (by kernel_rfl) rfl rfl ⟨(blk_cell BK20.out 0).trans rfl, (blk_cell BK20.out 1).trans rfl, (blk_cell BK1.out 0).trans rfl, (blk_cell BK1.out 1).trans rfl⟩ (fun hHeld => ?_)
  generalize w177.drew = w178 at HO8 HO11 HO14 HO19 HO23 HO26 BK1 BK2 BK20 BK27 HB hHeld ⊢
  refine take_ (i := 0) (N := some 35) (v := ?_) (a' := ?_) #[true, false, false, false, false] rfl rfl (by kernel_rfl) (fun _ _ _ h => h) (Or.inl ⟨by rfl, ?_⟩) hHeld ?_ ?_
  rotate_left
  ·rintro w' ⟨s0, s1, s2, s3⟩
   go_simp
   with_reducible rfl
  rotate_left
  ·simp only [Act.put, List.setIfInBounds_toArray, List.set_cons_zero, List.set_cons_succ, i64_w, i32_w]
   rfl
  refine take_ (i := 1) (N := some 36) (v := ?_) (a' := ?_) #[true, true, false, false, false] rfl rfl (by kernel_rfl) (fun _ _ _ h => h) (Or.inl ⟨by rfl, ?_⟩) hHeld ?_ ?_
  rotate_left
  ·rintro w' ⟨s0, s1, s2, s3⟩
   go_simp
   with_reducible rfl
  rotate_left
  ·simp only [Act.put, List.setIfInBounds_toArray, List.set_cons_zero, List.set_cons_succ, i64_w, i32_w]
   rfl
  refine one_ (i := 2) (N := some 37) #[true, true, true, false, false] rfl rfl (by kernel_rfl) (by decide) (fun K hK => ?_)
  refine goes_ Try.func45 (by kernel_rfl) rfl #[.agg #[.int .i64 a0_0, .slice A0_1 l0_1.length c0_1]] (by rfl) rfl rfl ar_ ?_
  with_reducible refine (laws_toProg.calls k a0_0 _ _ l0_1 t29 t30 _ ?side1 ?side2 A58.out).mono ?_
  (case side1 => exact cb_)
  (case side2 => exact HC0_1.out)
  rintro e w179 ⟨v31, rfl, ho0, hb⟩
  refine ⟨_, rfl, ?_⟩
  have n0_ := Aside0.mk (Kd.S_elder' (by (with_reducible repeat (first | apply Kd.S_alloc | apply Kd.S_drewN | apply Kd.S_drew)); exact HO8.out) (Kd.S_base ho0) hb)
  have n1_ := Aside0.mk (Kd.R_below (by (with_reducible repeat (first | apply Kd.R_alloc | apply Kd.R_drewN | apply Kd.R_drew)); exact HO11.out) hb)
  have n2_ := Aside0.mk (Kd.S_below (by (with_reducible repeat (first | apply Kd.S_alloc | apply Kd.S_drewN | apply Kd.S_drew)); exact HO14.out) hb)
  have n3_ := Aside0.mk (Kd.S_elder' (by (with_reducible repeat (first | apply Kd.S_alloc | apply Kd.S_drewN | apply Kd.S_drew)); exact HO19.out) (Kd.S_base ho0) hb)
  have n4_ := Aside0.mk (Kd.R_below (by (with_reducible repeat (first | apply Kd.R_alloc | apply Kd.R_drewN | apply Kd.R_drew)); exact HO23.out) hb)
  have n5_ := Aside0.mk (Kd.S_below (by (with_reducible repeat (first | apply Kd.S_alloc | apply Kd.S_drewN | apply Kd.S_drew)); exact HO26.out) hb)
  have n6_ := Aside0.mk (Kd.S_lower (Kd.S_new' (Kd.S_new' ho0 (Kd.S_lt (by (with_reducible repeat (first | apply Kd.S_alloc | apply Kd.S_drewN | apply Kd.S_drew)); exact HO8.out))) (Kd.S_lt (by (with_reducible repeat (first | apply Kd.S_alloc | apply Kd.S_drewN | apply Kd.S_drew)); exact HO19.out))) (below_size bw_))
  have n7_ := Aside0.mk (blk_below (g := gb1) (o := .cells #[.int .i64 a0_0, .slice A0_1 l0_1.length c0_1] 60 (0, 0)) bk_ hb)
  have n8_ := Aside0.mk (blk_below (g := gb2) (o := .cells #[.slice A1_0 l1_0.length c1_0, .slice A1_1 l1_1.length c1_1] 38 (0, 0)) bk_ hb)
  have n9_ := Aside0.mk (blk_below (g := gb20) (o := .cells #[.int .i64 t16, .slice Ao166 t17.length co166] 64 (0, 0)) bk_ hb)
  have n10_ := Aside0.mk (blk_below (g := gb27) (o := .cells #[.slice Ao170 t21.length co170, .slice Ao175 t24.length co175] 46 (0, 0)) bk_ hb)
  have n11_ := Aside0.mk (below_step bw_ hb)
  clear HO8
  clear HO11
  clear HO14
  clear HO19
  clear HO23
  clear HO26
  clear BK1
  clear BK2
  clear BK20
  clear BK27
  clear HB
  have HO8 := n0_
  have HO11 := n1_
  have HO14 := n2_
  have HO19 := n3_
  have HO23 := n4_
  have HO26 := n5_
  have HO32 := n6_
  have BK1 := n7_
  have BK2 := n8_
  have BK20 := n9_
  have BK27 := n10_
  have HB := n11_
  clear n0_ n1_ n2_ n3_ n4_ n5_ n6_ n7_ n8_ n9_ n10_ n11_
  (try clear hb)
  (try clear hb2)
  (try clear hk)
  (try clear hi)
  (try clear ho0)
  obtain ⟨Ao180, co180, eo180⟩ := Kd.S_slice HO32.out
  (first | subst eo180 | (injection eo180 with f1_ f2_ f3_; have f4_ := f1_.symm; have f5_ := f3_.symm; clear f1_ f2_ f3_; subst f4_; subst f5_))
  refine hK.out _ _ ⟨(blk_cell BK20.out 0).trans rfl, (blk_cell BK20.out 1).trans rfl, (blk_cell BK1.out 0).trans rfl, (blk_cell BK1.out 1).trans rfl⟩ (fun hHeld => ?_)
  clear hK K
  refine norm_ (a' := ?_) ?_ ?_
  rotate_left
  ·show Act.put _ (some 37) _ = _
   simp only [Act.put, List.setIfInBounds_toArray, List.set_cons_zero, List.set_cons_succ, i64_w, i32_w]
   rfl
  refine one_ (i := 3) (N := some 38) #[true, true, true, true, false] rfl rfl (by kernel_rfl) (by decide) (fun K hK => ?_)
  refine goes_ Try.func47 (by kernel_rfl) rfl #[.agg #[.int .i64 t16, .slice Ao166 t17.length co166], .agg #[.int .i64 t29, .slice Ao180 t30.length co180]] (by rfl) rfl rfl ar_ ?_
  with_reducible refine (laws_eqProg.calls k t16 _ _ t17 t29 _ _ t30 false _ ?side1 ?side2 ?side3 ?side4 A59.out).mono ?_
  (case side1 => repeat (first | exact (Kd.S_reads' HO19.out).2.2 | (with_reducible refine Kd.C_alloc ?_ _) | (with_reducible refine Kd.C_drewN ?_ _) | (with_reducible refine Kd.C_drew ?_)))
  (case side2 => exact (Kd.S_reads' HO19.out).2.1)
  (case side3 => repeat (first | exact (Kd.S_reads' HO32.out).2.2 | (with_reducible refine Kd.C_alloc ?_ _) | (with_reducible refine Kd.C_drewN ?_ _) | (with_reducible refine Kd.C_drew ?_)))
  (case side4 => exact (Kd.S_reads' HO32.out).2.1)
  rintro e w181 ⟨rfl, hb⟩
  refine ⟨_, rfl, ?_⟩
  have n0_ := Aside0.mk (Kd.S_below (by (with_reducible repeat (first | apply Kd.S_alloc | apply Kd.S_drewN | apply Kd.S_drew)); exact HO8.out) hb)
  have n1_ := Aside0.mk (Kd.R_below (by (with_reducible repeat (first | apply Kd.R_alloc | apply Kd.R_drewN | apply Kd.R_drew)); exact HO11.out) hb)
  have n2_ := Aside0.mk (Kd.S_below (by (with_reducible repeat (first | apply Kd.S_alloc | apply Kd.S_drewN | apply Kd.S_drew)); exact HO14.out) hb)
  have n3_ := Aside0.mk (Kd.S_below (by (with_reducible repeat (first | apply Kd.S_alloc | apply Kd.S_drewN | apply Kd.S_drew)); exact HO19.out) hb)
  have n4_ := Aside0.mk (Kd.R_below (by (with_reducible repeat (first | apply Kd.R_alloc | apply Kd.R_drewN | apply Kd.R_drew)); exact HO23.out) hb)
  have n5_ := Aside0.mk (Kd.S_below (by (with_reducible repeat (first | apply Kd.S_alloc | apply Kd.S_drewN | apply Kd.S_drew)); exact HO26.out) hb)
  have n6_ := Aside0.mk (Kd.S_below (by (with_reducible repeat (first | apply Kd.S_alloc | apply Kd.S_drewN | apply Kd.S_drew)); exact HO32.out) hb)
  have n7_ := Aside0.mk (blk_below (g := gb1) (o := .cells #[.int .i64 a0_0, .slice A0_1 l0_1.length c0_1] 60 (0, 0)) bk_ hb)
  have n8_ := Aside0.mk (blk_below (g := gb2) (o := .cells #[.slice A1_0 l1_0.length c1_0, .slice A1_1 l1_1.length c1_1] 38 (0, 0)) bk_ hb)
  have n9_ := Aside0.mk (blk_below (g := gb20) (o := .cells #[.int .i64 t16, .slice Ao166 t17.length co166] 64 (0, 0)) bk_ hb)
  have n10_ := Aside0.mk (blk_below (g := gb27) (o := .cells #[.slice Ao170 t21.length co170, .slice Ao175 t24.length co175] 46 (0, 0)) bk_ hb)
  have n11_ := Aside0.mk (below_step bw_ hb)
  clear HO8
  clear HO11
  clear HO14
  clear HO19
  clear HO23
  clear HO26
  clear HO32
  clear BK1
  clear BK2
  clear BK20
  clear BK27
  clear HB
  have HO8 := n0_
  have HO11 := n1_
  have HO14 := n2_
  have HO19 := n3_
  have HO23 := n4_
  have HO26 := n5_
  have HO32 := n6_
  have BK1 := n7_
  have BK2 := n8_
  have BK20 := n9_
  have BK27 := n10_
  have HB := n11_
  clear n0_ n1_ n2_ n3_ n4_ n5_ n6_ n7_ n8_ n9_ n10_ n11_
  (try clear hb)
  (try clear hb2)
  (try clear hk)
  (try clear hi)
  refine hK.out _ _ ⟨(blk_cell BK20.out 0).trans rfl, (blk_cell BK20.out 1).trans rfl, (blk_cell BK1.out 0).trans rfl, (blk_cell BK1.out 1).trans rfl⟩ (fun hHeld => ?_)
  clear hK K
  refine norm_ (a' := ?_) ?_ ?_
  rotate_left
  ·show Act.put _ (some 38) _ = _
   simp only [Act.put, List.setIfInBounds_toArray, List.set_cons_zero, List.set_cons_succ, i64_w, i32_w]
   rfl
  refine pure_ (i := 4) (N := some 39) (v := ?_) (a' := ?_) #[true, true, true, true, true] rfl rfl (by kernel_rfl) (fun _ _ _ h => h) (Or.inl ⟨by rfl, ?_⟩) ?_ ?_
  rotate_left
  ·intro w'
   go_simp
   with_reducible rfl
  rotate_left
  ·simp only [Act.put, List.setIfInBounds_toArray, List.set_cons_zero, List.set_cons_succ, i64_w, i32_w]
   rfl
  refine done_ (by kernel_rfl) ?_
  try go_wp2
  go_ret
  exact ⟨rr_, bw_⟩
 subst c60
 have H1 : ((laws_toMachine.f k l1_0 l1_1).bind fun bt34 => ((laws_eqMachine.f k t21 t24 bt34.1 bt34.2).bind fun t40 => (if t40 = true then (some true) else (some false)))) = some r := by rw [if_pos rfl] at H; exact H
 clear H
 have H := H1
 clear H1
 replace H := Option.bind_eq_some_iff.mp H
 obtain ⟨⟨t34, t37⟩, A610, H⟩ := H
 replace H : ((laws_eqMachine.f k t21 t24 t34 t37).bind fun t40 => (if t40 = true then (some true) else (some false))) = some r := H
 have A61 := Aside0.mk A610
 clear A610
 replace H := Option.bind_eq_some_iff.mp H
 obtain ⟨t40, A620, H⟩ := H
 replace H : (if t40 = true then (some true) else (some false)) = some r := H
 have A62 := Aside0.mk A620
 clear A620
 by_cases c63 : t40 = true
 ·subst c63
  have H1 : (some true) = some r := by rw [if_pos rfl] at H; exact H
  clear H
  have H := H1
  clear H1
  obtain rfl := Option.some.inj H
  go_enter Try.func13, Try.ntmps13
  try go_wp2_with (first | ((with_reducible refine gate_dst (N := 2) rfl ?_); refine box_event ?hg (N := 2) ?hd (cs := #[.int .i64 a0_0, .slice A0_1 l0_1.length c0_1]) (t := 60) ?hr ?_; (case hd => rfl); (case hg => rfl); (case hr => first | (go_simp; done) | (go_simp; rfl)); intro gb1 hg w64 hbox hb; have n0_ := Aside0.mk (below_step bw_ hb); have n1_ := Aside0.mk (hbox); have n2_ := Aside0.mk ((by rw [hg]; exact (below_size bw_) : w.heap.size ≤ gb1)); have n3_ := Aside0.mk ((by rw [hg]; exact (below_size bw_) : w.heap.size ≤ gb1)); clear HB; have HB := n0_; have BK1 := n1_; have GW1 := n2_; have GE1 := n3_; clear n0_ n1_ n2_ n3_; clear hb hbox hg) | ((with_reducible refine gate_dst (N := 3) rfl ?_); refine box_event ?hg (N := 3) ?hd (cs := #[.slice A1_0 l1_0.length c1_0, .slice A1_1 l1_1.length c1_1]) (t := 38) ?hr ?_; (case hd => rfl); (case hg => rfl); (case hr => first | (go_simp; done) | (go_simp; rfl)); intro gb2 hg w65 hbox hb; have n0_ := Aside0.mk (blk_below (g := gb1) (o := .cells #[.int .i64 a0_0, .slice A0_1 l0_1.length c0_1] 60 (0, 0)) bk_ hb); have n1_ := Aside0.mk (below_step bw_ hb); have n2_ := Aside0.mk (hbox); have n3_ := Aside0.mk ((by rw [hg]; exact (below_size bw_) : w.heap.size ≤ gb2)); have n4_ := Aside0.mk ((by rw [hg]; exact (below_size bw_) : w.heap.size ≤ gb2)); have n5_ := Aside0.mk ((by rw [hg]; exact Nat.ne_of_lt (blk_lt (g := gb1) (o := .cells #[.int .i64 a0_0, .slice A0_1 l0_1.length c0_1] 60 (0, 0)) bk_) : gb1 ≠ gb2)); have n6_ := Aside0.mk ((by rw [hg]; exact Nat.ne_of_gt (blk_lt (g := gb1) (o := .cells #[.int .i64 a0_0, .slice A0_1 l0_1.length c0_1] 60 (0, 0)) bk_) : gb2 ≠ gb1)); clear BK1; clear HB; have BK1 := n0_; have HB := n1_; have BK2 := n2_; have GW2 := n3_; have GE2 := n4_; have NB1_2 := n5_; have NB2_1 := n6_; clear n0_ n1_ n2_ n3_ n4_ n5_ n6_; clear hb hbox hg; have hnb66 := NB1_2.out; have hnc66 := NB2_1.out; have hcz67_0 := (blk_cell BK1.out 0).trans rfl; have hcz67_1 := (blk_cell BK1.out 1).trans rfl; have hfz67_0 := blk_frozen BK1.out 0; have hfz67_1 := blk_frozen BK1.out 1) | ((with_reducible refine gate_callee (f := 43) rfl ?_); refine goesL_ (some 12) rfl rfl Try.func43 (by kernel_rfl) rfl #[.agg #[.int .i64 a0_0, .slice A0_1 l0_1.length c0_1], .int .i64 1048576] rfl ar_ ?_; (with_reducible refine (laws_szProg.calls k a0_0 _ _ l0_1 1048576 t3 _ ?side1 ?side2 A3.out).mono ?_); (case side1 => exact cb_); (case side2 => exact HC0_1.out); rintro e w68 ⟨rfl, hb⟩; refine ⟨_, rfl, ?_⟩; have n0_ := Aside0.mk (blk_below (g := gb1) (o := .cells #[.int .i64 a0_0, .slice A0_1 l0_1.length c0_1] 60 (0, 0)) bk_ hb); have n1_ := Aside0.mk (blk_below (g := gb2) (o := .cells #[.slice A1_0 l1_0.length c1_0, .slice A1_1 l1_1.length c1_1] 38 (0, 0)) bk_ hb); have n2_ := Aside0.mk (below_step bw_ hb); clear BK1; clear BK2; clear HB; have BK1 := n0_; have BK2 := n1_; have HB := n2_; clear n0_ n1_ n2_; (try clear hb); (try clear hb2); (try clear hk); (try clear hi); have hcz69_0 := (blk_cell BK2.out 0).trans rfl; have hcz69_1 := (blk_cell BK2.out 1).trans rfl; have hfz69_0 := blk_frozen BK2.out 0; have hfz69_1 := blk_frozen BK2.out 1) | ((with_reducible refine gate_callee (f := 27) rfl ?_); refine goesL_ (some 17) rfl rfl Try.func27 (by kernel_rfl) rfl #[.agg #[.slice A1_0 l1_0.length c1_0, .slice A1_1 l1_1.length c1_1], .int .i64 t3] rfl ar_ ?_; (with_reducible refine (laws_szMachine.calls k _ _ l1_0 _ _ l1_1 t3 t4 _ ?side1 ?side2 ?side3 ?side4 A10.out).mono ?_); (case side1 => exact cb_); (case side2 => exact HC1_0.out); (case side3 => exact cb_); (case side4 => exact HC1_1.out); rintro e w70 ⟨rfl, hb⟩; refine ⟨_, rfl, ?_⟩; have n0_ := Aside0.mk (blk_below (g := gb1) (o := .cells #[.int .i64 a0_0, .slice A0_1 l0_1.length c0_1] 60 (0, 0)) bk_ hb); have n1_ := Aside0.mk (blk_below (g := gb2) (o := .cells #[.slice A1_0 l1_0.length c1_0, .slice A1_1 l1_1.length c1_1] 38 (0, 0)) bk_ hb); have n2_ := Aside0.mk (below_step bw_ hb); clear BK1; clear BK2; clear HB; have BK1 := n0_; have BK2 := n1_; have HB := n2_; clear n0_ n1_ n2_; (try clear hb); (try clear hb2); (try clear hk); (try clear hi)))
  have n0_ := Aside0.mk (blk_drew BK1.out)
  have n1_ := Aside0.mk (blk_drew BK2.out)
  have n2_ := Aside0.mk (below_drew1 HB.out)
  clear BK1
  clear BK2
  clear HB
  have BK1 := n0_
  have BK2 := n1_
  have HB := n2_
  clear n0_ n1_ n2_
  refine start_ (n := 6) (S := fun w' => w'.cell? ⟨gb1, 0, none⟩ = some (.int .i64 a0_0) ∧ w'.cell? ⟨gb1, 1, none⟩ = some (.slice A0_1 l0_1.length c0_1) ∧ w'.cell? ⟨gb2, 0, none⟩ = some (.slice A1_0 l1_0.length c1_0) ∧ w'.cell? ⟨gb2, 1, none⟩ = some (.slice A1_1 l1_1.length c1_1)) (ds := []) #[false, false, false, false, false, false] (by kernel_rfl) rfl rfl ⟨(blk_cell BK1.out 0).trans rfl, (blk_cell BK1.out 1).trans rfl, (blk_cell BK2.out 0).trans rfl, (blk_cell BK2.out 1).trans rfl⟩ (fun hHeld => ?_)
  generalize w70.drew = w71 at BK1 BK2 HB hHeld ⊢
  refine take_ (i := 0) (N := some 20) (v := ?_) (a' := ?_) #[true, false, false, false, false, false] rfl rfl (by kernel_rfl) (fun _ _ _ h => h) (Or.inl ⟨by rfl, ?_⟩) hHeld ?_ ?_
  rotate_left
  ·rintro w' ⟨s0, s1, s2, s3⟩
   go_simp
   with_reducible rfl
  rotate_left
  ·simp only [Act.put, List.setIfInBounds_toArray, List.set_cons_zero, List.set_cons_succ, i64_w, i32_w]
   rfl
  refine take_ (i := 2) (N := some 22) (v := ?_) (a' := ?_) #[true, false, true, false, false, false] rfl rfl (by kernel_rfl) (fun _ _ _ h => h) (Or.inl ⟨by rfl, ?_⟩) hHeld ?_ ?_
  rotate_left
  ·rintro w' ⟨s0, s1, s2, s3⟩
   go_simp
   with_reducible rfl
  rotate_left
  ·simp only [Act.put, List.setIfInBounds_toArray, List.set_cons_zero, List.set_cons_succ, i64_w, i32_w]
   rfl
  refine one_ (i := 1) (N := some 21) #[true, true, true, false, false, false] rfl rfl (by kernel_rfl) (by decide) (fun K hK => ?_)
  refine goes_ Try.func45 (by kernel_rfl) rfl #[.agg #[.int .i64 a0_0, .slice A0_1 l0_1.length c0_1]] (by rfl) rfl rfl ar_ ?_
  with_reducible refine (laws_toProg.calls k a0_0 _ _ l0_1 t5 t6 _ ?side1 ?side2 A19.out).mono ?_
  (case side1 => exact cb_)
  (case side2 => exact HC0_1.out)
  rintro e w72 ⟨v7, rfl, ho0, hb⟩
  refine ⟨_, rfl, ?_⟩
  have n0_ := Aside0.mk (Kd.S_lower ho0 (below_size bw_))
  have n1_ := Aside0.mk (blk_below (g := gb1) (o := .cells #[.int .i64 a0_0, .slice A0_1 l0_1.length c0_1] 60 (0, 0)) bk_ hb)
  have n2_ := Aside0.mk (blk_below (g := gb2) (o := .cells #[.slice A1_0 l1_0.length c1_0, .slice A1_1 l1_1.length c1_1] 38 (0, 0)) bk_ hb)
  have n3_ := Aside0.mk (below_step bw_ hb)
  clear BK1
  clear BK2
  clear HB
  have HO8 := n0_
  have BK1 := n1_
  have BK2 := n2_
  have HB := n3_
  clear n0_ n1_ n2_ n3_
  (try clear hb)
  (try clear hb2)
  (try clear hk)
  (try clear hi)
  (try clear ho0)
  refine hK.out _ _ ⟨(blk_cell BK1.out 0).trans rfl, (blk_cell BK1.out 1).trans rfl, (blk_cell BK2.out 0).trans rfl, (blk_cell BK2.out 1).trans rfl⟩ (fun hHeld => ?_)
  clear hK K
  refine norm_ (a' := ?_) ?_ ?_
  rotate_left
  ·show Act.put _ (some 21) _ = _
   simp only [Act.put, List.setIfInBounds_toArray, List.set_cons_zero, List.set_cons_succ, i64_w, i32_w]
   rfl
  refine one_ (i := 3) (N := some 23) #[true, true, true, true, false, false] rfl rfl (by kernel_rfl) (by decide) (fun K hK => ?_)
  refine goes_ Try.func30 (by kernel_rfl) rfl #[.agg #[.slice A1_0 l1_0.length c1_0, .slice A1_1 l1_1.length c1_1]] (by rfl) rfl rfl ar_ ?_
  with_reducible refine (laws_toMachine.calls k _ _ l1_0 _ _ l1_1 t9 t12 _ ?side1 ?side2 ?side3 ?side4 A20.out).mono ?_
  (case side1 => exact cb_)
  (case side2 => exact HC1_0.out)
  (case side3 => exact cb_)
  (case side4 => exact HC1_1.out)
  rintro e w73 ⟨v10, v13, rfl, ho0, ho1, hb⟩
  refine ⟨_, rfl, ?_⟩
  have n0_ := Aside0.mk (Kd.S_below (by (with_reducible repeat (first | apply Kd.S_alloc | apply Kd.S_drewN | apply Kd.S_drew)); exact HO8.out) hb)
  have n1_ := Aside0.mk (Kd.R_lower ho0 (below_size bw_))
  have n2_ := Aside0.mk (Kd.S_lower ho1 (below_size bw_))
  have n3_ := Aside0.mk (blk_below (g := gb1) (o := .cells #[.int .i64 a0_0, .slice A0_1 l0_1.length c0_1] 60 (0, 0)) bk_ hb)
  have n4_ := Aside0.mk (blk_below (g := gb2) (o := .cells #[.slice A1_0 l1_0.length c1_0, .slice A1_1 l1_1.length c1_1] 38 (0, 0)) bk_ hb)
  have n5_ := Aside0.mk (below_step bw_ hb)
  clear HO8
  clear BK1
  clear BK2
  clear HB
  have HO8 := n0_
  have HO11 := n1_
  have HO14 := n2_
  have BK1 := n3_
  have BK2 := n4_
  have HB := n5_
  clear n0_ n1_ n2_ n3_ n4_ n5_
  (try clear hb)
  (try clear hb2)
  (try clear hk)
  (try clear hi)
  (try clear ho0)
  (try clear ho1)
  obtain ⟨Ao74, co74, eo74⟩ := Kd.S_slice HO8.out
  (first | subst eo74 | (injection eo74 with f1_ f2_ f3_; have f4_ := f1_.symm; have f5_ := f3_.symm; clear f1_ f2_ f3_; subst f4_; subst f5_))
  obtain ⟨Ao75, co75, eo75⟩ := Kd.R_slice HO11.out
  (first | subst eo75 | (injection eo75 with f1_ f2_ f3_; have f4_ := f1_.symm; have f5_ := f3_.symm; clear f1_ f2_ f3_; subst f4_; subst f5_))
  obtain ⟨Ao76, co76, eo76⟩ := Kd.S_slice HO14.out
  (first | subst eo76 | (injection eo76 with f1_ f2_ f3_; have f4_ := f1_.symm; have f5_ := f3_.symm; clear f1_ f2_ f3_; subst f4_; subst f5_))
  refine hK.out _ _ ⟨(blk_cell BK1.out 0).trans rfl, (blk_cell BK1.out 1).trans rfl, (blk_cell BK2.out 0).trans rfl, (blk_cell BK2.out 1).trans rfl⟩ (fun hHeld => ?_)
  clear hK K
  refine norm_ (a' := ?_) ?_ ?_
  rotate_left
  ·show Act.put _ (some 23) _ = _
   simp only [Act.put, List.setIfInBounds_toArray, List.set_cons_zero, List.set_cons_succ, i64_w, i32_w]
   rfl
  refine one_ (i := 4) (N := some 24) #[true, true, true, true, true, false] rfl rfl (by kernel_rfl) (by decide) (fun K hK => ?_)
  refine goes_ Try.func65 (by kernel_rfl) rfl #[.agg #[.int .i64 t5, .slice Ao74 t6.length co74], .agg #[.slice Ao75 t9.length co75, .slice Ao76 t12.length co76]] (by rfl) rfl rfl ar_ ?_
  with_reducible refine (spec_AtEnd.calls k t5 _ _ t6 _ _ t9 _ _ t12 t15 _ ?side1 ?side2 ?side3 ?side4 ?side5 ?side6 A21.out).mono ?_
  (case side1 => repeat (first | exact (Kd.S_reads' HO8.out).2.2 | (with_reducible refine Kd.C_alloc ?_ _) | (with_reducible refine Kd.C_drewN ?_ _) | (with_reducible refine Kd.C_drew ?_)))
  (case side2 => exact (Kd.S_reads' HO8.out).2.1)
  (case side3 => repeat (first | exact (Kd.R_reads' HO11.out).2.2 | (with_reducible refine Kd.C_alloc ?_ _) | (with_reducible refine Kd.C_drewN ?_ _) | (with_reducible refine Kd.C_drew ?_)))
  (case side4 => exact (Kd.R_reads' HO11.out).2.1)
  (case side5 => repeat (first | exact (Kd.S_reads' HO14.out).2.2 | (with_reducible refine Kd.C_alloc ?_ _) | (with_reducible refine Kd.C_drewN ?_ _) | (with_reducible refine Kd.C_drew ?_)))
  (case side6 => exact (Kd.S_reads' HO14.out).2.1)
  rintro e w77 ⟨rfl, hb⟩
  refine ⟨_, rfl, ?_⟩
  have n0_ := Aside0.mk (Kd.S_below (by (with_reducible repeat (first | apply Kd.S_alloc | apply Kd.S_drewN | apply Kd.S_drew)); exact HO8.out) hb)
  have n1_ := Aside0.mk (Kd.R_below (by (with_reducible repeat (first | apply Kd.R_alloc | apply Kd.R_drewN | apply Kd.R_drew)); exact HO11.out) hb)
  have n2_ := Aside0.mk (Kd.S_below (by (with_reducible repeat (first | apply Kd.S_alloc | apply Kd.S_drewN | apply Kd.S_drew)); exact HO14.out) hb)
  have n3_ := Aside0.mk (blk_below (g := gb1) (o := .cells #[.int .i64 a0_0, .slice A0_1 l0_1.length c0_1] 60 (0, 0)) bk_ hb)
  have n4_ := Aside0.mk (blk_below (g := gb2) (o := .cells #[.slice A1_0 l1_0.length c1_0, .slice A1_1 l1_1.length c1_1] 38 (0, 0)) bk_ hb)
  have n5_ := Aside0.mk (below_step bw_ hb)
  clear HO8
  clear HO11
  clear HO14
  clear BK1
  clear BK2
  clear HB
  have HO8 := n0_
  have HO11 := n1_
  have HO14 := n2_
  have BK1 := n3_
  have BK2 := n4_
  have HB := n5_
  clear n0_ n1_ n2_ n3_ n4_ n5_
  (try clear hb)
  (try clear hb2)
  (try clear hk)
  (try clear hi)
  refine hK.out _ _ ⟨(blk_cell BK1.out 0).trans rfl, (blk_cell BK1.out 1).trans rfl, (blk_cell BK2.out 0).trans rfl, (blk_cell BK2.out 1).trans rfl⟩ (fun hHeld => ?_)
  clear hK K
  refine norm_ (a' := ?_) ?_ ?_
  rotate_left
  ·show Act.put _ (some 24) _ = _
   simp only [Act.put, List.setIfInBounds_toArray, List.set_cons_zero, List.set_cons_succ, i64_w, i32_w]
   rfl
  refine pure_ (i := 5) (N := some 6) (v := ?_) (a' := ?_) #[true, true, true, true, true, true] rfl rfl (by kernel_rfl) (fun _ _ _ h => h) (Or.inl ⟨by rfl, ?_⟩) ?_ ?_
  rotate_left
  ·intro w'
   go_simp
   with_reducible rfl
  rotate_left
  ·simp only [Act.put, List.setIfInBounds_toArray, List.set_cons_zero, List.set_cons_succ, i64_w, i32_w]
   rfl
  refine done_ (by kernel_rfl) ?_
  have hcz78_0 := (blk_cell BK1.out 0).trans rfl
  have hcz78_1 := (blk_cell BK1.out 1).trans rfl
  have hfz78_0 := blk_frozen BK1.out 0
  have hfz78_1 := blk_frozen BK1.out 1
  try go_wp2_with (first | ((with_reducible refine gate_callee (f := 45) rfl ?_); refine goesL_ (some 26) rfl rfl Try.func45 (by kernel_rfl) rfl #[.agg #[.int .i64 a0_0, .slice A0_1 l0_1.length c0_1]] rfl ar_ ?_; (with_reducible refine (laws_toProg.calls k a0_0 _ _ l0_1 t16 t17 _ ?side1 ?side2 A22.out).mono ?_); (case side1 => exact cb_); (case side2 => exact HC0_1.out); rintro e w79 ⟨v18, rfl, ho0, hb⟩; refine ⟨_, rfl, ?_⟩; have n0_ := Aside0.mk (Kd.S_elder' (by (with_reducible repeat (first | apply Kd.S_alloc | apply Kd.S_drewN | apply Kd.S_drew)); exact HO8.out) (Kd.S_base ho0) hb); have n1_ := Aside0.mk (Kd.R_below (by (with_reducible repeat (first | apply Kd.R_alloc | apply Kd.R_drewN | apply Kd.R_drew)); exact HO11.out) hb); have n2_ := Aside0.mk (Kd.S_below (by (with_reducible repeat (first | apply Kd.S_alloc | apply Kd.S_drewN | apply Kd.S_drew)); exact HO14.out) hb); have n3_ := Aside0.mk (Kd.S_lower (Kd.S_new' ho0 (Kd.S_lt (by (with_reducible repeat (first | apply Kd.S_alloc | apply Kd.S_drewN | apply Kd.S_drew)); exact HO8.out))) (below_size bw_)); have n4_ := Aside0.mk (blk_below (g := gb1) (o := .cells #[.int .i64 a0_0, .slice A0_1 l0_1.length c0_1] 60 (0, 0)) bk_ hb); have n5_ := Aside0.mk (blk_below (g := gb2) (o := .cells #[.slice A1_0 l1_0.length c1_0, .slice A1_1 l1_1.length c1_1] 38 (0, 0)) bk_ hb); have n6_ := Aside0.mk (below_step bw_ hb); clear HO8; clear HO11; clear HO14; clear BK1; clear BK2; clear HB; have HO8 := n0_; have HO11 := n1_; have HO14 := n2_; have HO19 := n3_; have BK1 := n4_; have BK2 := n5_; have HB := n6_; clear n0_ n1_ n2_ n3_ n4_ n5_ n6_; (try clear hb); (try clear hb2); (try clear hk); (try clear hi); (try clear ho0)) | ((with_reducible refine gate_dst (N := 7) rfl ?_); refine box_event ?hg (N := 7) ?hd (cs := #[.int .i64 0, .slice none 0 0]) (t := 64) ?hr ?_; (case hd => rfl); (case hg => rfl); (case hr => first | (go_simp; done) | (go_simp; rfl)); intro gb20 hg w80 hbox hb; have n0_ := Aside0.mk (Kd.S_below (by (with_reducible repeat (first | apply Kd.S_alloc | apply Kd.S_drewN | apply Kd.S_drew)); exact HO8.out) hb); have n1_ := Aside0.mk (Kd.R_below (by (with_reducible repeat (first | apply Kd.R_alloc | apply Kd.R_drewN | apply Kd.R_drew)); exact HO11.out) hb); have n2_ := Aside0.mk (Kd.S_below (by (with_reducible repeat (first | apply Kd.S_alloc | apply Kd.S_drewN | apply Kd.S_drew)); exact HO14.out) hb); have n3_ := Aside0.mk (Kd.S_below (by (with_reducible repeat (first | apply Kd.S_alloc | apply Kd.S_drewN | apply Kd.S_drew)); exact HO19.out) hb); have n4_ := Aside0.mk (blk_below (g := gb1) (o := .cells #[.int .i64 a0_0, .slice A0_1 l0_1.length c0_1] 60 (0, 0)) bk_ hb); have n5_ := Aside0.mk (blk_below (g := gb2) (o := .cells #[.slice A1_0 l1_0.length c1_0, .slice A1_1 l1_1.length c1_1] 38 (0, 0)) bk_ hb); have n6_ := Aside0.mk (below_step bw_ hb); have n7_ := Aside0.mk (hbox); have n8_ := Aside0.mk ((by rw [hg]; exact (below_size bw_) : w.heap.size ≤ gb20)); have n9_ := Aside0.mk ((by rw [hg]; exact (below_size bw_) : w.heap.size ≤ gb20)); have n10_ := Aside0.mk ((by rw [hg]; exact Nat.ne_of_lt (blk_lt (g := gb1) (o := .cells #[.int .i64 a0_0, .slice A0_1 l0_1.length c0_1] 60 (0, 0)) bk_) : gb1 ≠ gb20)); have n11_ := Aside0.mk ((by rw [hg]; exact Nat.ne_of_gt (blk_lt (g := gb1) (o := .cells #[.int .i64 a0_0, .slice A0_1 l0_1.length c0_1] 60 (0, 0)) bk_) : gb20 ≠ gb1)); have n12_ := Aside0.mk ((by rw [hg]; exact Nat.ne_of_lt (blk_lt (g := gb2) (o := .cells #[.slice A1_0 l1_0.length c1_0, .slice A1_1 l1_1.length c1_1] 38 (0, 0)) bk_) : gb2 ≠ gb20)); have n13_ := Aside0.mk ((by rw [hg]; exact Nat.ne_of_gt (blk_lt (g := gb2) (o := .cells #[.slice A1_0 l1_0.length c1_0, .slice A1_1 l1_1.length c1_1] 38 (0, 0)) bk_) : gb20 ≠ gb2)); clear HO8; clear HO11; clear HO14; clear HO19; clear BK1; clear BK2; clear HB; have HO8 := n0_; have HO11 := n1_; have HO14 := n2_; have HO19 := n3_; have BK1 := n4_; have BK2 := n5_; have HB := n6_; have BK20 := n7_; have GW20 := n8_; have GE20 := n9_; have NB1_20 := n10_; have NB20_1 := n11_; have NB2_20 := n12_; have NB20_2 := n13_; clear n0_ n1_ n2_ n3_ n4_ n5_ n6_ n7_ n8_ n9_ n10_ n11_ n12_ n13_; clear hb hbox hg; have hnb81 := NB20_1.out; have hnc81 := NB1_20.out; have hnb82 := NB20_2.out; have hnc82 := NB2_20.out; have hcz83_0 := (blk_cell BK20.out 0).trans rfl; have hcz83_1 := (blk_cell BK20.out 1).trans rfl; have hfz83_0 := blk_frozen BK20.out 0; have hfz83_1 := blk_frozen BK20.out 1; obtain ⟨Ao84, co84, eo84⟩ := Kd.S_slice HO19.out; subst eo84; have hcz85_0 := (blk_cell BK2.out 0).trans rfl; have hcz85_1 := (blk_cell BK2.out 1).trans rfl; have hfz85_0 := blk_frozen BK2.out 0; have hfz85_1 := blk_frozen BK2.out 1) | ((with_reducible refine gate_callee (f := 30) rfl ?_); refine goesL_ (some 28) rfl rfl Try.func30 (by kernel_rfl) rfl #[.agg #[.slice A1_0 l1_0.length c1_0, .slice A1_1 l1_1.length c1_1]] rfl ar_ ?_; (with_reducible refine (laws_toMachine.calls k _ _ l1_0 _ _ l1_1 t21 t24 _ ?side1 ?side2 ?side3 ?side4 A23.out).mono ?_); (case side1 => exact Kd.C_below HR1_0.out bw_); (case side2 => exact HC1_0.out); (case side3 => exact Kd.C_below HR1_1.out bw_); (case side4 => exact HC1_1.out); rintro e w86 ⟨v22, v25, rfl, ho0, ho1, hb⟩; refine ⟨_, rfl, ?_⟩; have n0_ := Aside0.mk (Kd.S_below (by (with_reducible repeat (first | apply Kd.S_alloc | apply Kd.S_drewN | apply Kd.S_drew)); exact (Kd.S_mono (Kd.S_far (p := ⟨gb20, 1, none⟩) (Kd.S_far (p := ⟨gb20, 0, none⟩) (Kd.S_types HO8.out BK20.out (by decide)) (fun _ hk => hk.2) (.int .i64 t16)) (fun _ hk => hk.2) (.slice Ao84 t17.length co84)) (fun _ h_ => h_.1))) hb); have n1_ := Aside0.mk (Kd.R_elder' (by (with_reducible repeat (first | apply Kd.R_alloc | apply Kd.R_drewN | apply Kd.R_drew)); exact (Kd.R_mono (Kd.R_far (p := ⟨gb20, 1, none⟩) (Kd.R_far (p := ⟨gb20, 0, none⟩) (Kd.R_types HO11.out BK20.out (by decide)) (fun _ hk => hk.2) (.int .i64 t16)) (fun _ hk => hk.2) (.slice Ao84 t17.length co84)) (fun _ h_ => h_.1))) (Kd.R_base ho0) hb); have n2_ := Aside0.mk (Kd.S_mono (Kd.S_told (Kd.S_told (Kd.S_old (by (with_reducible repeat (first | apply Kd.S_alloc | apply Kd.S_drewN | apply Kd.S_drew)); exact (Kd.S_mono (Kd.S_far (p := ⟨gb20, 1, none⟩) (Kd.S_far (p := ⟨gb20, 0, none⟩) (Kd.S_types HO14.out BK20.out (by decide)) (fun _ hk => hk.2) (.int .i64 t16)) (fun _ hk => hk.2) (.slice Ao84 t17.length co84)) (fun _ h_ => h_.1))) hb) (Kd.R_base ho0)) (Kd.S_base ho1)) (fun _ h_ => h_.1)); have n3_ := Aside0.mk (Kd.S_below (by (with_reducible repeat (first | apply Kd.S_alloc | apply Kd.S_drewN | apply Kd.S_drew)); exact (Kd.S_mono (Kd.S_far (p := ⟨gb20, 1, none⟩) (Kd.S_far (p := ⟨gb20, 0, none⟩) (Kd.S_types HO19.out BK20.out (by decide)) (fun _ hk => hk.2) (.int .i64 t16)) (fun _ hk => hk.2) (.slice Ao84 t17.length co84)) (fun _ h_ => h_.1))) hb); have n4_ := Aside0.mk (Kd.R_lower (Kd.R_new' ho0 (Kd.R_lt (by (with_reducible repeat (first | apply Kd.R_alloc | apply Kd.R_drewN | apply Kd.R_drew)); exact (Kd.R_mono (Kd.R_far (p := ⟨gb20, 1, none⟩) (Kd.R_far (p := ⟨gb20, 0, none⟩) (Kd.R_types HO11.out BK20.out (by decide)) (fun _ hk => hk.2) (.int .i64 t16)) (fun _ hk => hk.2) (.slice Ao84 t17.length co84)) (fun _ h_ => h_.1))))) (below_size bw_)); have n5_ := Aside0.mk (Kd.S_lower (Kd.S_new' (Kd.S_new' ho1 (Kd.R_lt (by (with_reducible repeat (first | apply Kd.R_alloc | apply Kd.R_drewN | apply Kd.R_drew)); exact (Kd.R_mono (Kd.R_far (p := ⟨gb20, 1, none⟩) (Kd.R_far (p := ⟨gb20, 0, none⟩) (Kd.R_types HO11.out BK20.out (by decide)) (fun _ hk => hk.2) (.int .i64 t16)) (fun _ hk => hk.2) (.slice Ao84 t17.length co84)) (fun _ h_ => h_.1))))) (Kd.S_lt (by (with_reducible repeat (first | apply Kd.S_alloc | apply Kd.S_drewN | apply Kd.S_drew)); exact (Kd.S_mono (Kd.S_far (p := ⟨gb20, 1, none⟩) (Kd.S_far (p := ⟨gb20, 0, none⟩) (Kd.S_types HO14.out BK20.out (by decide)) (fun _ hk => hk.2) (.int .i64 t16)) (fun _ hk => hk.2) (.slice Ao84 t17.length co84)) (fun _ h_ => h_.1))))) (below_size bw_)); have n6_ := Aside0.mk (blk_below (g := gb1) (o := .cells #[.int .i64 a0_0, .slice A0_1 l0_1.length c0_1] 60 (0, 0)) (by (with_reducible repeat (first | refine blk_drewN ?_ _ | refine blk_drew ?_ | refine blk_alloc ?_ _)); refine blk_far ?_ NB1_20.out _; (with_reducible repeat (first | refine blk_drewN ?_ _ | refine blk_drew ?_ | refine blk_alloc ?_ _)); refine blk_far ?_ NB1_20.out _; (with_reducible repeat (first | refine blk_drewN ?_ _ | refine blk_drew ?_ | refine blk_alloc ?_ _)); exact BK1.out) hb); have n7_ := Aside0.mk (blk_below (g := gb2) (o := .cells #[.slice A1_0 l1_0.length c1_0, .slice A1_1 l1_1.length c1_1] 38 (0, 0)) (by (with_reducible repeat (first | refine blk_drewN ?_ _ | refine blk_drew ?_ | refine blk_alloc ?_ _)); refine blk_far ?_ NB2_20.out _; (with_reducible repeat (first | refine blk_drewN ?_ _ | refine blk_drew ?_ | refine blk_alloc ?_ _)); refine blk_far ?_ NB2_20.out _; (with_reducible repeat (first | refine blk_drewN ?_ _ | refine blk_drew ?_ | refine blk_alloc ?_ _)); exact BK2.out) hb); have n8_ := Aside0.mk (blk_below (g := gb20) (o := .cells #[.int .i64 t16, .slice Ao84 t17.length co84] 64 (0, 0)) (by (with_reducible repeat (first | refine blk_drewN ?_ _ | refine blk_drew ?_ | refine blk_alloc ?_ _)); refine blk_put (cs := #[.int .i64 t16, .slice none 0 0]) ?_ 1 _ rfl; (with_reducible repeat (first | refine blk_drewN ?_ _ | refine blk_drew ?_ | refine blk_alloc ?_ _)); refine blk_put (cs := #[.int .i64 0, .slice none 0 0]) ?_ 0 _ rfl; (with_reducible repeat (first | refine blk_drewN ?_ _ | refine blk_drew ?_ | refine blk_alloc ?_ _)); exact BK20.out) hb); have n9_ := Aside0.mk (below_step bw_ hb); clear HO8; clear HO11; clear HO14; clear HO19; clear BK1; clear BK2; clear BK20; clear HB; have HO8 := n0_; have HO11 := n1_; have HO14 := n2_; have HO19 := n3_; have HO23 := n4_; have HO26 := n5_; have BK1 := n6_; have BK2 := n7_; have BK20 := n8_; have HB := n9_; clear n0_ n1_ n2_ n3_ n4_ n5_ n6_ n7_ n8_ n9_; (try clear hb); (try clear hb2); (try clear hk); (try clear hi); (try clear ho0); (try clear ho1)) | ((with_reducible refine gate_dst (N := 8) rfl ?_); refine box_event ?hg (N := 8) ?hd (cs := #[.slice none 0 0, .slice none 0 0]) (t := 46) ?hr ?_; (case hd => rfl); (case hg => rfl); (case hr => first | (go_simp; done) | (go_simp; rfl)); intro gb27 hg w87 hbox hb; have n0_ := Aside0.mk (Kd.S_below (by (with_reducible repeat (first | apply Kd.S_alloc | apply Kd.S_drewN | apply Kd.S_drew)); exact HO8.out) hb); have n1_ := Aside0.mk (Kd.R_below (by (with_reducible repeat (first | apply Kd.R_alloc | apply Kd.R_drewN | apply Kd.R_drew)); exact HO11.out) hb); have n2_ := Aside0.mk (Kd.S_below (by (with_reducible repeat (first | apply Kd.S_alloc | apply Kd.S_drewN | apply Kd.S_drew)); exact HO14.out) hb); have n3_ := Aside0.mk (Kd.S_below (by (with_reducible repeat (first | apply Kd.S_alloc | apply Kd.S_drewN | apply Kd.S_drew)); exact HO19.out) hb); have n4_ := Aside0.mk (Kd.R_below (by (with_reducible repeat (first | apply Kd.R_alloc | apply Kd.R_drewN | apply Kd.R_drew)); exact HO23.out) hb); have n5_ := Aside0.mk (Kd.S_below (by (with_reducible repeat (first | apply Kd.S_alloc | apply Kd.S_drewN | apply Kd.S_drew)); exact HO26.out) hb); have n6_ := Aside0.mk (blk_below (g := gb1) (o := .cells #[.int .i64 a0_0, .slice A0_1 l0_1.length c0_1] 60 (0, 0)) bk_ hb); have n7_ := Aside0.mk (blk_below (g := gb2) (o := .cells #[.slice A1_0 l1_0.length c1_0, .slice A1_1 l1_1.length c1_1] 38 (0, 0)) bk_ hb); have n8_ := Aside0.mk (blk_below (g := gb20) (o := .cells #[.int .i64 t16, .slice Ao84 t17.length co84] 64 (0, 0)) bk_ hb); have n9_ := Aside0.mk (below_step bw_ hb); have n10_ := Aside0.mk (hbox); have n11_ := Aside0.mk ((by rw [hg]; exact (below_size bw_) : w.heap.size ≤ gb27)); have n12_ := Aside0.mk ((by rw [hg]; exact (below_size bw_) : w.heap.size ≤ gb27)); have n13_ := Aside0.mk ((by rw [hg]; exact Nat.ne_of_lt (blk_lt (g := gb1) (o := .cells #[.int .i64 a0_0, .slice A0_1 l0_1.length c0_1] 60 (0, 0)) bk_) : gb1 ≠ gb27)); have n14_ := Aside0.mk ((by rw [hg]; exact Nat.ne_of_gt (blk_lt (g := gb1) (o := .cells #[.int .i64 a0_0, .slice A0_1 l0_1.length c0_1] 60 (0, 0)) bk_) : gb27 ≠ gb1)); have n15_ := Aside0.mk ((by rw [hg]; exact Nat.ne_of_lt (blk_lt (g := gb2) (o := .cells #[.slice A1_0 l1_0.length c1_0, .slice A1_1 l1_1.length c1_1] 38 (0, 0)) bk_) : gb2 ≠ gb27)); have n16_ := Aside0.mk ((by rw [hg]; exact Nat.ne_of_gt (blk_lt (g := gb2) (o := .cells #[.slice A1_0 l1_0.length c1_0, .slice A1_1 l1_1.length c1_1] 38 (0, 0)) bk_) : gb27 ≠ gb2)); have n17_ := Aside0.mk ((by rw [hg]; exact Nat.ne_of_lt (blk_lt (g := gb20) (o := .cells #[.int .i64 t16, .slice Ao84 t17.length co84] 64 (0, 0)) bk_) : gb20 ≠ gb27)); have n18_ := Aside0.mk ((by rw [hg]; exact Nat.ne_of_gt (blk_lt (g := gb20) (o := .cells #[.int .i64 t16, .slice Ao84 t17.length co84] 64 (0, 0)) bk_) : gb27 ≠ gb20)); clear HO8; clear HO11; clear HO14; clear HO19; clear HO23; clear HO26; clear BK1; clear BK2; clear BK20; clear HB; have HO8 := n0_; have HO11 := n1_; have HO14 := n2_; have HO19 := n3_; have HO23 := n4_; have HO26 := n5_; have BK1 := n6_; have BK2 := n7_; have BK20 := n8_; have HB := n9_; have BK27 := n10_; have GW27 := n11_; have GE27 := n12_; have NB1_27 := n13_; have NB27_1 := n14_; have NB2_27 := n15_; have NB27_2 := n16_; have NB20_27 := n17_; have NB27_20 := n18_; clear n0_ n1_ n2_ n3_ n4_ n5_ n6_ n7_ n8_ n9_ n10_ n11_ n12_ n13_ n14_ n15_ n16_ n17_ n18_; clear hb hbox hg; obtain ⟨Ao88, co88, eo88⟩ := Kd.R_slice HO23.out; subst eo88; have hnb89 := NB27_1.out; have hnc89 := NB1_27.out; have hnb90 := NB27_2.out; have hnc90 := NB2_27.out; have hnb91 := NB27_20.out; have hnc91 := NB20_27.out; have hcz92_0 := (blk_cell BK27.out 0).trans rfl; have hcz92_1 := (blk_cell BK27.out 1).trans rfl; have hfz92_0 := blk_frozen BK27.out 0; have hfz92_1 := blk_frozen BK27.out 1; obtain ⟨Ao93, co93, eo93⟩ := Kd.S_slice HO26.out; subst eo93; have hcz94_0 := (blk_cell BK20.out 0).trans rfl; have hcz94_1 := (blk_cell BK20.out 1).trans rfl; have hfz94_0 := blk_frozen BK20.out 0; have hfz94_1 := blk_frozen BK20.out 1) | ((with_reducible refine gate_callee (f := 66) rfl ?_); refine goesL_ (some 31) rfl rfl Try.func66 (by kernel_rfl) rfl #[.agg #[.int .i64 t16, .slice Ao84 t17.length co84], .agg #[.slice Ao88 t21.length co88, .slice Ao93 t24.length co93]] rfl ar_ ?_; (with_reducible refine (impl_AtEnd.calls k t16 _ _ t17 _ _ t21 _ _ t24 t28 _ ?side1 ?side2 ?side3 ?side4 ?side5 ?side6 A24.out).mono ?_); (case side1 => refine (Kd.S_reads' (e := 94) (base := w.heap.size) (ok := fun k_ => (True ∧ some k_ ≠ (.slice Ao74 t6.length co74 : Value).ownBlock)) (n := t17.length) (c := co84) ?_).2.2; exact (by (with_reducible repeat (first | apply Kd.S_alloc | apply Kd.S_drewN | apply Kd.S_drew)); exact (Kd.S_mono (Kd.S_far (p := ⟨gb27, 1, none⟩) (Kd.S_far (p := ⟨gb27, 0, none⟩) (Kd.S_types HO19.out BK27.out (by decide)) (fun _ hk => hk.2) (.slice Ao88 t21.length co88)) (fun _ hk => hk.2) (.slice Ao93 t24.length co93)) (fun _ h_ => h_.1)))); (case side2 => exact (Kd.S_reads' HO19.out).2.1); (case side3 => refine (Kd.R_reads' (e := 3) (base := w.heap.size) (ok := fun k_ => (True ∧ some k_ ≠ (.slice Ao75 t9.length co75 : Value).ownBlock)) (n := t21.length) (c := co88) ?_).2.2; exact (by (with_reducible repeat (first | apply Kd.R_alloc | apply Kd.R_drewN | apply Kd.R_drew)); exact (Kd.R_mono (Kd.R_far (p := ⟨gb27, 1, none⟩) (Kd.R_far (p := ⟨gb27, 0, none⟩) (Kd.R_types HO23.out BK27.out (by decide)) (fun _ hk => hk.2) (.slice Ao88 t21.length co88)) (fun _ hk => hk.2) (.slice Ao93 t24.length co93)) (fun _ h_ => h_.1)))); (case side4 => exact (Kd.R_reads' HO23.out).2.1); (case side5 => refine (Kd.S_reads' (e := 137) (base := w.heap.size) (ok := fun k_ => ((some k_ ≠ (.slice Ao88 t21.length co88 : Value).ownBlock ∧ some k_ ≠ (.slice Ao75 t9.length co75 : Value).ownBlock) ∧ some k_ ≠ (.slice Ao76 t12.length co76 : Value).ownBlock)) (n := t24.length) (c := co93) ?_).2.2; exact (by (with_reducible repeat (first | apply Kd.S_alloc | apply Kd.S_drewN | apply Kd.S_drew)); exact (Kd.S_mono (Kd.S_far (p := ⟨gb27, 1, none⟩) (Kd.S_far (p := ⟨gb27, 0, none⟩) (Kd.S_types HO26.out BK27.out (by decide)) (fun _ hk => hk.2) (.slice Ao88 t21.length co88)) (fun _ hk => hk.2) (.slice Ao93 t24.length co93)) (fun _ h_ => h_.1)))); (case side6 => exact (Kd.S_reads' HO26.out).2.1); rintro e w95 ⟨rfl, hb⟩; refine ⟨_, rfl, ?_⟩; have n0_ := Aside0.mk (Kd.S_below (by (with_reducible repeat (first | apply Kd.S_alloc | apply Kd.S_drewN | apply Kd.S_drew)); exact (Kd.S_mono (Kd.S_far (p := ⟨gb27, 1, none⟩) (Kd.S_far (p := ⟨gb27, 0, none⟩) (Kd.S_types HO8.out BK27.out (by decide)) (fun _ hk => hk.2) (.slice Ao88 t21.length co88)) (fun _ hk => hk.2) (.slice Ao93 t24.length co93)) (fun _ h_ => h_.1))) hb); have n1_ := Aside0.mk (Kd.R_below (by (with_reducible repeat (first | apply Kd.R_alloc | apply Kd.R_drewN | apply Kd.R_drew)); exact (Kd.R_mono (Kd.R_far (p := ⟨gb27, 1, none⟩) (Kd.R_far (p := ⟨gb27, 0, none⟩) (Kd.R_types HO11.out BK27.out (by decide)) (fun _ hk => hk.2) (.slice Ao88 t21.length co88)) (fun _ hk => hk.2) (.slice Ao93 t24.length co93)) (fun _ h_ => h_.1))) hb); have n2_ := Aside0.mk (Kd.S_below (by (with_reducible repeat (first | apply Kd.S_alloc | apply Kd.S_drewN | apply Kd.S_drew)); exact (Kd.S_mono (Kd.S_far (p := ⟨gb27, 1, none⟩) (Kd.S_far (p := ⟨gb27, 0, none⟩) (Kd.S_types HO14.out BK27.out (by decide)) (fun _ hk => hk.2) (.slice Ao88 t21.length co88)) (fun _ hk => hk.2) (.slice Ao93 t24.length co93)) (fun _ h_ => h_.1))) hb); have n3_ := Aside0.mk (Kd.S_below (by (with_reducible repeat (first | apply Kd.S_alloc | apply Kd.S_drewN | apply Kd.S_drew)); exact (Kd.S_mono (Kd.S_far (p := ⟨gb27, 1, none⟩) (Kd.S_far (p := ⟨gb27, 0, none⟩) (Kd.S_types HO19.out BK27.out (by decide)) (fun _ hk => hk.2) (.slice Ao88 t21.length co88)) (fun _ hk => hk.2) (.slice Ao93 t24.length co93)) (fun _ h_ => h_.1))) hb); have n4_ := Aside0.mk (Kd.R_below (by (with_reducible repeat (first | apply Kd.R_alloc | apply Kd.R_drewN | apply Kd.R_drew)); exact (Kd.R_mono (Kd.R_far (p := ⟨gb27, 1, none⟩) (Kd.R_far (p := ⟨gb27, 0, none⟩) (Kd.R_types HO23.out BK27.out (by decide)) (fun _ hk => hk.2) (.slice Ao88 t21.length co88)) (fun _ hk => hk.2) (.slice Ao93 t24.length co93)) (fun _ h_ => h_.1))) hb); have n5_ := Aside0.mk (Kd.S_below (by (with_reducible repeat (first | apply Kd.S_alloc | apply Kd.S_drewN | apply Kd.S_drew)); exact (Kd.S_mono (Kd.S_far (p := ⟨gb27, 1, none⟩) (Kd.S_far (p := ⟨gb27, 0, none⟩) (Kd.S_types HO26.out BK27.out (by decide)) (fun _ hk => hk.2) (.slice Ao88 t21.length co88)) (fun _ hk => hk.2) (.slice Ao93 t24.length co93)) (fun _ h_ => h_.1))) hb); have n6_ := Aside0.mk (blk_below (g := gb1) (o := .cells #[.int .i64 a0_0, .slice A0_1 l0_1.length c0_1] 60 (0, 0)) (by (with_reducible repeat (first | refine blk_drewN ?_ _ | refine blk_drew ?_ | refine blk_alloc ?_ _)); refine blk_far ?_ NB1_27.out _; (with_reducible repeat (first | refine blk_drewN ?_ _ | refine blk_drew ?_ | refine blk_alloc ?_ _)); refine blk_far ?_ NB1_27.out _; (with_reducible repeat (first | refine blk_drewN ?_ _ | refine blk_drew ?_ | refine blk_alloc ?_ _)); exact BK1.out) hb); have n7_ := Aside0.mk (blk_below (g := gb2) (o := .cells #[.slice A1_0 l1_0.length c1_0, .slice A1_1 l1_1.length c1_1] 38 (0, 0)) (by (with_reducible repeat (first | refine blk_drewN ?_ _ | refine blk_drew ?_ | refine blk_alloc ?_ _)); refine blk_far ?_ NB2_27.out _; (with_reducible repeat (first | refine blk_drewN ?_ _ | refine blk_drew ?_ | refine blk_alloc ?_ _)); refine blk_far ?_ NB2_27.out _; (with_reducible repeat (first | refine blk_drewN ?_ _ | refine blk_drew ?_ | refine blk_alloc ?_ _)); exact BK2.out) hb); have n8_ := Aside0.mk (blk_below (g := gb20) (o := .cells #[.int .i64 t16, .slice Ao84 t17.length co84] 64 (0, 0)) (by (with_reducible repeat (first | refine blk_drewN ?_ _ | refine blk_drew ?_ | refine blk_alloc ?_ _)); refine blk_far ?_ NB20_27.out _; (with_reducible repeat (first | refine blk_drewN ?_ _ | refine blk_drew ?_ | refine blk_alloc ?_ _)); refine blk_far ?_ NB20_27.out _; (with_reducible repeat (first | refine blk_drewN ?_ _ | refine blk_drew ?_ | refine blk_alloc ?_ _)); exact BK20.out) hb); have n9_ := Aside0.mk (blk_below (g := gb27) (o := .cells #[.slice Ao88 t21.length co88, .slice Ao93 t24.length co93] 46 (0, 0)) (by (with_reducible repeat (first | refine blk_drewN ?_ _ | refine blk_drew ?_ | refine blk_alloc ?_ _)); refine blk_put (cs := #[.slice Ao88 t21.length co88, .slice none 0 0]) ?_ 1 _ rfl; (with_reducible repeat (first | refine blk_drewN ?_ _ | refine blk_drew ?_ | refine blk_alloc ?_ _)); refine blk_put (cs := #[.slice none 0 0, .slice none 0 0]) ?_ 0 _ rfl; (with_reducible repeat (first | refine blk_drewN ?_ _ | refine blk_drew ?_ | refine blk_alloc ?_ _)); exact BK27.out) hb); have n10_ := Aside0.mk (below_step bw_ hb); clear HO8; clear HO11; clear HO14; clear HO19; clear HO23; clear HO26; clear BK1; clear BK2; clear BK20; clear BK27; clear HB; have HO8 := n0_; have HO11 := n1_; have HO14 := n2_; have HO19 := n3_; have HO23 := n4_; have HO26 := n5_; have BK1 := n6_; have BK2 := n7_; have BK20 := n8_; have BK27 := n9_; have HB := n10_; clear n0_ n1_ n2_ n3_ n4_ n5_ n6_ n7_ n8_ n9_ n10_; (try clear hb); (try clear hb2); (try clear hk); (try clear hi)))
  have n0_ := Aside0.mk (Kd.S_drew HO8.out)
  have n1_ := Aside0.mk (Kd.R_drew HO11.out)
  have n2_ := Aside0.mk (Kd.S_drew HO14.out)
  have n3_ := Aside0.mk (Kd.S_drew HO19.out)
  have n4_ := Aside0.mk (Kd.R_drew HO23.out)
  have n5_ := Aside0.mk (Kd.S_drew HO26.out)
  have n6_ := Aside0.mk (blk_drew BK1.out)
  have n7_ := Aside0.mk (blk_drew BK2.out)
  have n8_ := Aside0.mk (blk_drew BK20.out)
  have n9_ := Aside0.mk (blk_drew BK27.out)
  have n10_ := Aside0.mk (below_drew1 HB.out)
  clear HO8
  clear HO11
  clear HO14
  clear HO19
  clear HO23
  clear HO26
  clear BK1
  clear BK2
  clear BK20
  clear BK27
  clear HB
  have HO8 := n0_
  have HO11 := n1_
  have HO14 := n2_
  have HO19 := n3_
  have HO23 := n4_
  have HO26 := n5_
  have BK1 := n6_
  have BK2 := n7_
  have BK20 := n8_
  have BK27 := n9_
  have HB := n10_
  clear n0_ n1_ n2_ n3_ n4_ n5_ n6_ n7_ n8_ n9_ n10_
  refine start_ (n := 5) (S := fun w' => w'.cell? ⟨gb20, 0, none⟩ = some (.int .i64 t16) ∧ w'.cell? ⟨gb20, 1, none⟩ = some (.slice Ao84 t17.length co84) ∧ w'.cell? ⟨gb1, 0, none⟩ = some (.int .i64 a0_0) ∧ w'.cell? ⟨gb1, 1, none⟩ = some (.slice A0_1 l0_1.length c0_1)) (ds := []) #[false, false, false, false, false] (by kernel_rfl) rfl rfl ⟨(blk_cell BK20.out 0).trans rfl, (blk_cell BK20.out 1).trans rfl, (blk_cell BK1.out 0).trans rfl, (blk_cell BK1.out 1).trans rfl⟩ (fun hHeld => ?_)
  generalize w95.drew = w96 at HO8 HO11 HO14 HO19 HO23 HO26 BK1 BK2 BK20 BK27 HB hHeld ⊢
  refine take_ (i := 0) (N := some 35) (v := ?_) (a' := ?_) #[true, false, false, false, false] rfl rfl (by kernel_rfl) (fun _ _ _ h => h) (Or.inl ⟨by rfl, ?_⟩) hHeld ?_ ?_
  rotate_left
  ·rintro w' ⟨s0, s1, s2, s3⟩
   go_simp
   with_reducible rfl
  rotate_left
  ·simp only [Act.put, List.setIfInBounds_toArray, List.set_cons_zero, List.set_cons_succ, i64_w, i32_w]
   rfl
  refine take_ (i := 1) (N := some 36) (v := ?_) (a' := ?_) #[true, true, false, false, false] rfl rfl (by kernel_rfl) (fun _ _ _ h => h) (Or.inl ⟨by rfl, ?_⟩) hHeld ?_ ?_
  rotate_left
  ·rintro w' ⟨s0, s1, s2, s3⟩
   go_simp
   with_reducible rfl
  rotate_left
  ·simp only [Act.put, List.setIfInBounds_toArray, List.set_cons_zero, List.set_cons_succ, i64_w, i32_w]
   rfl
  refine one_ (i := 2) (N := some 37) #[true, true, true, false, false] rfl rfl (by kernel_rfl) (by decide) (fun K hK => ?_)
  refine goes_ Try.func45 (by kernel_rfl) rfl #[.agg #[.int .i64 a0_0, .slice A0_1 l0_1.length c0_1]] (by rfl) rfl rfl ar_ ?_
  with_reducible refine (laws_toProg.calls k a0_0 _ _ l0_1 t29 t30 _ ?side1 ?side2 A58.out).mono ?_
  (case side1 => exact cb_)
  (case side2 => exact HC0_1.out)
  rintro e w97 ⟨v31, rfl, ho0, hb⟩
  refine ⟨_, rfl, ?_⟩
  have n0_ := Aside0.mk (Kd.S_elder' (by (with_reducible repeat (first | apply Kd.S_alloc | apply Kd.S_drewN | apply Kd.S_drew)); exact HO8.out) (Kd.S_base ho0) hb)
  have n1_ := Aside0.mk (Kd.R_below (by (with_reducible repeat (first | apply Kd.R_alloc | apply Kd.R_drewN | apply Kd.R_drew)); exact HO11.out) hb)
  have n2_ := Aside0.mk (Kd.S_below (by (with_reducible repeat (first | apply Kd.S_alloc | apply Kd.S_drewN | apply Kd.S_drew)); exact HO14.out) hb)
  have n3_ := Aside0.mk (Kd.S_elder' (by (with_reducible repeat (first | apply Kd.S_alloc | apply Kd.S_drewN | apply Kd.S_drew)); exact HO19.out) (Kd.S_base ho0) hb)
  have n4_ := Aside0.mk (Kd.R_below (by (with_reducible repeat (first | apply Kd.R_alloc | apply Kd.R_drewN | apply Kd.R_drew)); exact HO23.out) hb)
  have n5_ := Aside0.mk (Kd.S_below (by (with_reducible repeat (first | apply Kd.S_alloc | apply Kd.S_drewN | apply Kd.S_drew)); exact HO26.out) hb)
  have n6_ := Aside0.mk (Kd.S_lower (Kd.S_new' (Kd.S_new' ho0 (Kd.S_lt (by (with_reducible repeat (first | apply Kd.S_alloc | apply Kd.S_drewN | apply Kd.S_drew)); exact HO8.out))) (Kd.S_lt (by (with_reducible repeat (first | apply Kd.S_alloc | apply Kd.S_drewN | apply Kd.S_drew)); exact HO19.out))) (below_size bw_))
  have n7_ := Aside0.mk (blk_below (g := gb1) (o := .cells #[.int .i64 a0_0, .slice A0_1 l0_1.length c0_1] 60 (0, 0)) bk_ hb)
  have n8_ := Aside0.mk (blk_below (g := gb2) (o := .cells #[.slice A1_0 l1_0.length c1_0, .slice A1_1 l1_1.length c1_1] 38 (0, 0)) bk_ hb)
  have n9_ := Aside0.mk (blk_below (g := gb20) (o := .cells #[.int .i64 t16, .slice Ao84 t17.length co84] 64 (0, 0)) bk_ hb)
  have n10_ := Aside0.mk (blk_below (g := gb27) (o := .cells #[.slice Ao88 t21.length co88, .slice Ao93 t24.length co93] 46 (0, 0)) bk_ hb)
  have n11_ := Aside0.mk (below_step bw_ hb)
  clear HO8
  clear HO11
  clear HO14
  clear HO19
  clear HO23
  clear HO26
  clear BK1
  clear BK2
  clear BK20
  clear BK27
  clear HB
  have HO8 := n0_
  have HO11 := n1_
  have HO14 := n2_
  have HO19 := n3_
  have HO23 := n4_
  have HO26 := n5_
  have HO32 := n6_
  have BK1 := n7_
  have BK2 := n8_
  have BK20 := n9_
  have BK27 := n10_
  have HB := n11_
  clear n0_ n1_ n2_ n3_ n4_ n5_ n6_ n7_ n8_ n9_ n10_ n11_
  (try clear hb)
  (try clear hb2)
  (try clear hk)
  (try clear hi)
  (try clear ho0)
  obtain ⟨Ao98, co98, eo98⟩ := Kd.S_slice HO32.out
  (first | subst eo98 | (injection eo98 with f1_ f2_ f3_; have f4_ := f1_.symm; have f5_ := f3_.symm; clear f1_ f2_ f3_; subst f4_; subst f5_))
  refine hK.out _ _ ⟨(blk_cell BK20.out 0).trans rfl, (blk_cell BK20.out 1).trans rfl, (blk_cell BK1.out 0).trans rfl, (blk_cell BK1.out 1).trans rfl⟩ (fun hHeld => ?_)
  clear hK K
  refine norm_ (a' := ?_) ?_ ?_
  rotate_left
  ·show Act.put _ (some 37) _ = _
   simp only [Act.put, List.setIfInBounds_toArray, List.set_cons_zero, List.set_cons_succ, i64_w, i32_w]
   rfl
  refine one_ (i := 3) (N := some 38) #[true, true, true, true, false] rfl rfl (by kernel_rfl) (by decide) (fun K hK => ?_)
  refine goes_ Try.func47 (by kernel_rfl) rfl #[.agg #[.int .i64 t16, .slice Ao84 t17.length co84], .agg #[.int .i64 t29, .slice Ao98 t30.length co98]] (by rfl) rfl rfl ar_ ?_
  with_reducible refine (laws_eqProg.calls k t16 _ _ t17 t29 _ _ t30 true _ ?side1 ?side2 ?side3 ?side4 A59.out).mono ?_
  (case side1 => repeat (first | exact (Kd.S_reads' HO19.out).2.2 | (with_reducible refine Kd.C_alloc ?_ _) | (with_reducible refine Kd.C_drewN ?_ _) | (with_reducible refine Kd.C_drew ?_)))
  (case side2 => exact (Kd.S_reads' HO19.out).2.1)
  (case side3 => repeat (first | exact (Kd.S_reads' HO32.out).2.2 | (with_reducible refine Kd.C_alloc ?_ _) | (with_reducible refine Kd.C_drewN ?_ _) | (with_reducible refine Kd.C_drew ?_)))
  (case side4 => exact (Kd.S_reads' HO32.out).2.1)
  rintro e w99 ⟨rfl, hb⟩
  refine ⟨_, rfl, ?_⟩
  have n0_ := Aside0.mk (Kd.S_below (by (with_reducible repeat (first | apply Kd.S_alloc | apply Kd.S_drewN | apply Kd.S_drew)); exact HO8.out) hb)
  have n1_ := Aside0.mk (Kd.R_below (by (with_reducible repeat (first | apply Kd.R_alloc | apply Kd.R_drewN | apply Kd.R_drew)); exact HO11.out) hb)
  have n2_ := Aside0.mk (Kd.S_below (by (with_reducible repeat (first | apply Kd.S_alloc | apply Kd.S_drewN | apply Kd.S_drew)); exact HO14.out) hb)
  have n3_ := Aside0.mk (Kd.S_below (by (with_reducible repeat (first | apply Kd.S_alloc | apply Kd.S_drewN | apply Kd.S_drew)); exact HO19.out) hb)
  have n4_ := Aside0.mk (Kd.R_below (by (with_reducible repeat (first | apply Kd.R_alloc | apply Kd.R_drewN | apply Kd.R_drew)); exact HO23.out) hb)
  have n5_ := Aside0.mk (Kd.S_below (by (with_reducible repeat (first | apply Kd.S_alloc | apply Kd.S_drewN | apply Kd.S_drew)); exact HO26.out) hb)
  have n6_ := Aside0.mk (Kd.S_below (by (with_reducible repeat (first | apply Kd.S_alloc | apply Kd.S_drewN | apply Kd.S_drew)); exact HO32.out) hb)
  have n7_ := Aside0.mk (blk_below (g := gb1) (o := .cells #[.int .i64 a0_0, .slice A0_1 l0_1.length c0_1] 60 (0, 0)) bk_ hb)
  have n8_ := Aside0.mk (blk_below (g := gb2) (o := .cells #[.slice A1_0 l1_0.length c1_0, .slice A1_1 l1_1.length c1_1] 38 (0, 0)) bk_ hb)
  have n9_ := Aside0.mk (blk_below (g := gb20) (o := .cells #[.int .i64 t16, .slice Ao84 t17.length co84] 64 (0, 0)) bk_ hb)
  have n10_ := Aside0.mk (blk_below (g := gb27) (o := .cells #[.slice Ao88 t21.length co88, .slice Ao93 t24.length co93] 46 (0, 0)) bk_ hb)
  have n11_ := Aside0.mk (below_step bw_ hb)
  clear HO8
  clear HO11
  clear HO14
  clear HO19
  clear HO23
  clear HO26
  clear HO32
  clear BK1
  clear BK2
  clear BK20
  clear BK27
  clear HB
  have HO8 := n0_
  have HO11 := n1_
  have HO14 := n2_
  have HO19 := n3_
  have HO23 := n4_
  have HO26 := n5_
  have HO32 := n6_
  have BK1 := n7_
  have BK2 := n8_
  have BK20 := n9_
  have BK27 := n10_
  have HB := n11_
  clear n0_ n1_ n2_ n3_ n4_ n5_ n6_ n7_ n8_ n9_ n10_ n11_
  (try clear hb)
  (try clear hb2)
  (try clear hk)
  (try clear hi)
  refine hK.out _ _ ⟨(blk_cell BK20.out 0).trans rfl, (blk_cell BK20.out 1).trans rfl, (blk_cell BK1.out 0).trans rfl, (blk_cell BK1.out 1).trans rfl⟩ (fun hHeld => ?_)
  clear hK K
  refine norm_ (a' := ?_) ?_ ?_
  rotate_left
  ·show Act.put _ (some 38) _ = _
   simp only [Act.put, List.setIfInBounds_toArray, List.set_cons_zero, List.set_cons_succ, i64_w, i32_w]
   rfl
  refine pure_ (i := 4) (N := some 39) (v := ?_) (a' := ?_) #[true, true, true, true, true] rfl rfl (by kernel_rfl) (fun _ _ _ h => h) (Or.inl ⟨by rfl, ?_⟩) ?_ ?_
  rotate_left
  ·intro w'
   go_simp
   with_reducible rfl
  rotate_left
  ·simp only [Act.put, List.setIfInBounds_toArray, List.set_cons_zero, List.set_cons_succ, i64_w, i32_w]
   rfl
  refine done_ (by kernel_rfl) ?_
  try go_wp2
  have n0_ := Aside0.mk (Kd.S_drew HO8.out)
  have n1_ := Aside0.mk (Kd.R_drew HO11.out)
  have n2_ := Aside0.mk (Kd.S_drew HO14.out)
  have n3_ := Aside0.mk (Kd.S_drew HO19.out)
  have n4_ := Aside0.mk (Kd.R_drew HO23.out)
  have n5_ := Aside0.mk (Kd.S_drew HO26.out)
  have n6_ := Aside0.mk (Kd.S_drew HO32.out)
  have n7_ := Aside0.mk (blk_drew BK1.out)
  have n8_ := Aside0.mk (blk_drew BK2.out)
  have n9_ := Aside0.mk (blk_drew BK20.out)
  have n10_ := Aside0.mk (blk_drew BK27.out)
  have n11_ := Aside0.mk (below_drew1 HB.out)
  clear HO8
  clear HO11
  clear HO14
  clear HO19
  clear HO23
  clear HO26
  clear HO32
  clear BK1
  clear BK2
  clear BK20
  clear BK27
  clear HB
  have HO8 := n0_
  have HO11 := n1_
  have HO14 := n2_
  have HO19 := n3_
  have HO23 := n4_
  have HO26 := n5_
  have HO32 := n6_
  have BK1 := n7_
  have BK2 := n8_
  have BK20 := n9_
  have BK27 := n10_
  have HB := n11_
  clear n0_ n1_ n2_ n3_ n4_ n5_ n6_ n7_ n8_ n9_ n10_ n11_
  refine start_ (n := 5) (S := fun w' => w'.cell? ⟨gb27, 0, none⟩ = some (.slice Ao88 t21.length co88) ∧ w'.cell? ⟨gb27, 1, none⟩ = some (.slice Ao93 t24.length co93) ∧ w'.cell? ⟨gb2, 0, none⟩ = some (.slice A1_0 l1_0.length c1_0) ∧ w'.cell? ⟨gb2, 1, none⟩ = some (.slice A1_1 l1_1.length c1_1)) (ds := []) #[false, false, false, false, false] (by kernel_rfl) rfl rfl ⟨(blk_cell BK27.out 0).trans rfl, (blk_cell BK27.out 1).trans rfl, (blk_cell BK2.out 0).trans rfl, (blk_cell BK2.out 1).trans rfl⟩ (fun hHeld => ?_)
  generalize w99.drew = w100 at HO8 HO11 HO14 HO19 HO23 HO26 HO32 BK1 BK2 BK20 BK27 HB hHeld ⊢
  refine take_ (i := 0) (N := some 40) (v := ?_) (a' := ?_) #[true, false, false, false, false] rfl rfl (by kernel_rfl) (fun _ _ _ h => h) (Or.inl ⟨by rfl, ?_⟩) hHeld ?_ ?_
  rotate_left
  ·rintro w' ⟨s0, s1, s2, s3⟩
   go_simp
   with_reducible rfl
  rotate_left
  ·simp only [Act.put, List.setIfInBounds_toArray, List.set_cons_zero, List.set_cons_succ, i64_w, i32_w]
   rfl
  refine take_ (i := 1) (N := some 41) (v := ?_) (a' := ?_) #[true, true, false, false, false] rfl rfl (by kernel_rfl) (fun _ _ _ h => h) (Or.inl ⟨by rfl, ?_⟩) hHeld ?_ ?_
  rotate_left
  ·rintro w' ⟨s0, s1, s2, s3⟩
   go_simp
   with_reducible rfl
  rotate_left
  ·simp only [Act.put, List.setIfInBounds_toArray, List.set_cons_zero, List.set_cons_succ, i64_w, i32_w]
   rfl
  refine one_ (i := 2) (N := some 42) #[true, true, true, false, false] rfl rfl (by kernel_rfl) (by decide) (fun K hK => ?_)
  refine goes_ Try.func30 (by kernel_rfl) rfl #[.agg #[.slice A1_0 l1_0.length c1_0, .slice A1_1 l1_1.length c1_1]] (by rfl) rfl rfl ar_ ?_
  with_reducible refine (laws_toMachine.calls k _ _ l1_0 _ _ l1_1 t34 t37 _ ?side1 ?side2 ?side3 ?side4 A61.out).mono ?_
  (case side1 => exact cb_)
  (case side2 => exact HC1_0.out)
  (case side3 => exact cb_)
  (case side4 => exact HC1_1.out)
  rintro e w101 ⟨v35, v38, rfl, ho0, ho1, hb⟩
  refine ⟨_, rfl, ?_⟩
  have n0_ := Aside0.mk (Kd.S_below (by (with_reducible repeat (first | apply Kd.S_alloc | apply Kd.S_drewN | apply Kd.S_drew)); exact HO8.out) hb)
  have n1_ := Aside0.mk (Kd.R_elder' (by (with_reducible repeat (first | apply Kd.R_alloc | apply Kd.R_drewN | apply Kd.R_drew)); exact HO11.out) (Kd.R_base ho0) hb)
  have n2_ := Aside0.mk (Kd.S_mono (Kd.S_told (Kd.S_told (Kd.S_old (by (with_reducible repeat (first | apply Kd.S_alloc | apply Kd.S_drewN | apply Kd.S_drew)); exact HO14.out) hb) (Kd.R_base ho0)) (Kd.S_base ho1)) (fun _ h_ => h_.1))
  have n3_ := Aside0.mk (Kd.S_below (by (with_reducible repeat (first | apply Kd.S_alloc | apply Kd.S_drewN | apply Kd.S_drew)); exact HO19.out) hb)
  have n4_ := Aside0.mk (Kd.R_elder' (by (with_reducible repeat (first | apply Kd.R_alloc | apply Kd.R_drewN | apply Kd.R_drew)); exact HO23.out) (Kd.R_base ho0) hb)
  have n5_ := Aside0.mk (Kd.S_mono (Kd.S_told (Kd.S_told (Kd.S_old (by (with_reducible repeat (first | apply Kd.S_alloc | apply Kd.S_drewN | apply Kd.S_drew)); exact HO26.out) hb) (Kd.R_base ho0)) (Kd.S_base ho1)) (fun _ h_ => h_.1))
  have n6_ := Aside0.mk (Kd.S_below (by (with_reducible repeat (first | apply Kd.S_alloc | apply Kd.S_drewN | apply Kd.S_drew)); exact HO32.out) hb)
  have n7_ := Aside0.mk (Kd.R_lower (Kd.R_new' (Kd.R_new' ho0 (Kd.R_lt (by (with_reducible repeat (first | apply Kd.R_alloc | apply Kd.R_drewN | apply Kd.R_drew)); exact HO11.out))) (Kd.R_lt (by (with_reducible repeat (first | apply Kd.R_alloc | apply Kd.R_drewN | apply Kd.R_drew)); exact HO23.out))) (below_size bw_))
  have n8_ := Aside0.mk (Kd.S_lower (Kd.S_new' (Kd.S_new' (Kd.S_new' (Kd.S_new' ho1 (Kd.R_lt (by (with_reducible repeat (first | apply Kd.R_alloc | apply Kd.R_drewN | apply Kd.R_drew)); exact HO11.out))) (Kd.S_lt (by (with_reducible repeat (first | apply Kd.S_alloc | apply Kd.S_drewN | apply Kd.S_drew)); exact HO14.out))) (Kd.R_lt (by (with_reducible repeat (first | apply Kd.R_alloc | apply Kd.R_drewN | apply Kd.R_drew)); exact HO23.out))) (Kd.S_lt (by (with_reducible repeat (first | apply Kd.S_alloc | apply Kd.S_drewN | apply Kd.S_drew)); exact HO26.out))) (below_size bw_))
  have n9_ := Aside0.mk (blk_below (g := gb1) (o := .cells #[.int .i64 a0_0, .slice A0_1 l0_1.length c0_1] 60 (0, 0)) bk_ hb)
  have n10_ := Aside0.mk (blk_below (g := gb2) (o := .cells #[.slice A1_0 l1_0.length c1_0, .slice A1_1 l1_1.length c1_1] 38 (0, 0)) bk_ hb)
  have n11_ := Aside0.mk (blk_below (g := gb20) (o := .cells #[.int .i64 t16, .slice Ao84 t17.length co84] 64 (0, 0)) bk_ hb)
  have n12_ := Aside0.mk (blk_below (g := gb27) (o := .cells #[.slice Ao88 t21.length co88, .slice Ao93 t24.length co93] 46 (0, 0)) bk_ hb)
  have n13_ := Aside0.mk (below_step bw_ hb)
  clear HO8
  clear HO11
  clear HO14
  clear HO19
  clear HO23
  clear HO26
  clear HO32
  clear BK1
  clear BK2
  clear BK20
  clear BK27
  clear HB
  have HO8 := n0_
  have HO11 := n1_
  have HO14 := n2_
  have HO19 := n3_
  have HO23 := n4_
  have HO26 := n5_
  have HO32 := n6_
  have HO36 := n7_
  have HO39 := n8_
  have BK1 := n9_
  have BK2 := n10_
  have BK20 := n11_
  have BK27 := n12_
  have HB := n13_
  clear n0_ n1_ n2_ n3_ n4_ n5_ n6_ n7_ n8_ n9_ n10_ n11_ n12_ n13_
  (try clear hb)
  (try clear hb2)
  (try clear hk)
  (try clear hi)
  (try clear ho0)
  (try clear ho1)
  obtain ⟨Ao102, co102, eo102⟩ := Kd.R_slice HO36.out
  (first | subst eo102 | (injection eo102 with f1_ f2_ f3_; have f4_ := f1_.symm; have f5_ := f3_.symm; clear f1_ f2_ f3_; subst f4_; subst f5_))
  obtain ⟨Ao103, co103, eo103⟩ := Kd.S_slice HO39.out
  (first | subst eo103 | (injection eo103 with f1_ f2_ f3_; have f4_ := f1_.symm; have f5_ := f3_.symm; clear f1_ f2_ f3_; subst f4_; subst f5_))
  refine hK.out _ _ ⟨(blk_cell BK27.out 0).trans rfl, (blk_cell BK27.out 1).trans rfl, (blk_cell BK2.out 0).trans rfl, (blk_cell BK2.out 1).trans rfl⟩ (fun hHeld => ?_)
  clear hK K
  refine norm_ (a' := ?_) ?_ ?_
  rotate_left
  ·show Act.put _ (some 42) _ = _
   simp only [Act.put, List.setIfInBounds_toArray, List.set_cons_zero, List.set_cons_succ, i64_w, i32_w]
   rfl
  refine one_ (i := 3) (N := some 43) #[true, true, true, true, false] rfl rfl (by kernel_rfl) (by decide) (fun K hK => ?_)
  refine goes_ Try.func33 (by kernel_rfl) rfl #[.agg #[.slice Ao88 t21.length co88, .slice Ao93 t24.length co93], .agg #[.slice Ao102 t34.length co102, .slice Ao103 t37.length co103]] (by rfl) rfl rfl ar_ ?_
  with_reducible refine (laws_eqMachine.calls k _ _ t21 _ _ t24 _ _ t34 _ _ t37 true _ ?side1 ?side2 ?side3 ?side4 ?side5 ?side6 ?side7 ?side8 A62.out).mono ?_
  (case side1 => repeat (first | exact (Kd.R_reads' HO23.out).2.2 | (with_reducible refine Kd.C_alloc ?_ _) | (with_reducible refine Kd.C_drewN ?_ _) | (with_reducible refine Kd.C_drew ?_)))
  (case side2 => exact (Kd.R_reads' HO23.out).2.1)
  (case side3 => repeat (first | exact (Kd.S_reads' HO26.out).2.2 | (with_reducible refine Kd.C_alloc ?_ _) | (with_reducible refine Kd.C_drewN ?_ _) | (with_reducible refine Kd.C_drew ?_)))
  (case side4 => exact (Kd.S_reads' HO26.out).2.1)
  (case side5 => repeat (first | exact (Kd.R_reads' HO36.out).2.2 | (with_reducible refine Kd.C_alloc ?_ _) | (with_reducible refine Kd.C_drewN ?_ _) | (with_reducible refine Kd.C_drew ?_)))
  (case side6 => exact (Kd.R_reads' HO36.out).2.1)
  (case side7 => repeat (first | exact (Kd.S_reads' HO39.out).2.2 | (with_reducible refine Kd.C_alloc ?_ _) | (with_reducible refine Kd.C_drewN ?_ _) | (with_reducible refine Kd.C_drew ?_)))
  (case side8 => exact (Kd.S_reads' HO39.out).2.1)
  rintro e w104 ⟨rfl, hb⟩
  refine ⟨_, rfl, ?_⟩
  have n0_ := Aside0.mk (Kd.S_below (by (with_reducible repeat (first | apply Kd.S_alloc | apply Kd.S_drewN | apply Kd.S_drew)); exact HO8.out) hb)
  have n1_ := Aside0.mk (Kd.R_below (by (with_reducible repeat (first | apply Kd.R_alloc | apply Kd.R_drewN | apply Kd.R_drew)); exact HO11.out) hb)
  have n2_ := Aside0.mk (Kd.S_below (by (with_reducible repeat (first | apply Kd.S_alloc | apply Kd.S_drewN | apply Kd.S_drew)); exact HO14.out) hb)
  have n3_ := Aside0.mk (Kd.S_below (by (with_reducible repeat (first | apply Kd.S_alloc | apply Kd.S_drewN | apply Kd.S_drew)); exact HO19.out) hb)
  have n4_ := Aside0.mk (Kd.R_below (by (with_reducible repeat (first | apply Kd.R_alloc | apply Kd.R_drewN | apply Kd.R_drew)); exact HO23.out) hb)
  have n5_ := Aside0.mk (Kd.S_below (by (with_reducible repeat (first | apply Kd.S_alloc | apply Kd.S_drewN | apply Kd.S_drew)); exact HO26.out) hb)
  have n6_ := Aside0.mk (Kd.S_below (by (with_reducible repeat (first | apply Kd.S_alloc | apply Kd.S_drewN | apply Kd.S_drew)); exact HO32.out) hb)
  have n7_ := Aside0.mk (Kd.R_below (by (with_reducible repeat (first | apply Kd.R_alloc | apply Kd.R_drewN | apply Kd.R_drew)); exact HO36.out) hb)
  have n8_ := Aside0.mk (Kd.S_below (by (with_reducible repeat (first | apply Kd.S_alloc | apply Kd.S_drewN | apply Kd.S_drew)); exact HO39.out) hb)
  have n9_ := Aside0.mk (blk_below (g := gb1) (o := .cells #[.int .i64 a0_0, .slice A0_1 l0_1.length c0_1] 60 (0, 0)) bk_ hb)
  have n10_ := Aside0.mk (blk_below (g := gb2) (o := .cells #[.slice A1_0 l1_0.length c1_0, .slice A1_1 l1_1.length c1_1] 38 (0, 0)) bk_ hb)
  have n11_ := Aside0.mk (blk_below (g := gb20) (o := .cells #[.int .i64 t16, .slice Ao84 t17.length co84] 64 (0, 0)) bk_ hb)
  have n12_ := Aside0.mk (blk_below (g := gb27) (o := .cells #[.slice Ao88 t21.length co88, .slice Ao93 t24.length co93] 46 (0, 0)) bk_ hb)
  have n13_ := Aside0.mk (below_step bw_ hb)
  clear HO8
  clear HO11
  clear HO14
  clear HO19
  clear HO23
  clear HO26
  clear HO32
  clear HO36
  clear HO39
  clear BK1
  clear BK2
  clear BK20
  clear BK27
  clear HB
  have HO8 := n0_
  have HO11 := n1_
  have HO14 := n2_
  have HO19 := n3_
  have HO23 := n4_
  have HO26 := n5_
  have HO32 := n6_
  have HO36 := n7_
  have HO39 := n8_
  have BK1 := n9_
  have BK2 := n10_
  have BK20 := n11_
  have BK27 := n12_
  have HB := n13_
  clear n0_ n1_ n2_ n3_ n4_ n5_ n6_ n7_ n8_ n9_ n10_ n11_ n12_ n13_
  (try clear hb)
  (try clear hb2)
  (try clear hk)
  (try clear hi)
  refine hK.out _ _ ⟨(blk_cell BK27.out 0).trans rfl, (blk_cell BK27.out 1).trans rfl, (blk_cell BK2.out 0).trans rfl, (blk_cell BK2.out 1).trans rfl⟩ (fun hHeld => ?_)
  clear hK K
  refine norm_ (a' := ?_) ?_ ?_
  rotate_left
  ·show Act.put _ (some 43) _ = _
   simp only [Act.put, List.setIfInBounds_toArray, List.set_cons_zero, List.set_cons_succ, i64_w, i32_w]
   rfl
  refine pure_ (i := 4) (N := some 44) (v := ?_) (a' := ?_) #[true, true, true, true, true] rfl rfl (by kernel_rfl) (fun _ _ _ h => h) (Or.inl ⟨by rfl, ?_⟩) ?_ ?_
  rotate_left
  ·intro w'
   go_simp
   with_reducible rfl
  rotate_left
  ·simp only [Act.put, List.setIfInBounds_toArray, List.set_cons_zero, List.set_cons_succ, i64_w, i32_w]
   rfl
  refine done_ (by kernel_rfl) ?_
  try go_wp2
  go_ret
  exact ⟨rr_, bw_⟩
 replace c63 := Bool.eq_false_iff.mpr c63
 subst c63
 have H1 : (some false) = some r := by rw [if_neg (show ¬ (false = true) by decide)] at H; exact H
 clear H
 have H := H1
 clear H1
 obtain rfl := Option.some.inj H
 go_enter Try.func13, Try.ntmps13
 try go_wp2_with (first | ((with_reducible refine gate_dst (N := 2) rfl ?_); refine box_event ?hg (N := 2) ?hd (cs := #[.int .i64 a0_0, .slice A0_1 l0_1.length c0_1]) (t := 60) ?hr ?_; (case hd => rfl); (case hg => rfl); (case hr => first | (go_simp; done) | (go_simp; rfl)); intro gb1 hg w105 hbox hb; have n0_ := Aside0.mk (below_step bw_ hb); have n1_ := Aside0.mk (hbox); have n2_ := Aside0.mk ((by rw [hg]; exact (below_size bw_) : w.heap.size ≤ gb1)); have n3_ := Aside0.mk ((by rw [hg]; exact (below_size bw_) : w.heap.size ≤ gb1)); clear HB; have HB := n0_; have BK1 := n1_; have GW1 := n2_; have GE1 := n3_; clear n0_ n1_ n2_ n3_; clear hb hbox hg) | ((with_reducible refine gate_dst (N := 3) rfl ?_); refine box_event ?hg (N := 3) ?hd (cs := #[.slice A1_0 l1_0.length c1_0, .slice A1_1 l1_1.length c1_1]) (t := 38) ?hr ?_; (case hd => rfl); (case hg => rfl); (case hr => first | (go_simp; done) | (go_simp; rfl)); intro gb2 hg w106 hbox hb; have n0_ := Aside0.mk (blk_below (g := gb1) (o := .cells #[.int .i64 a0_0, .slice A0_1 l0_1.length c0_1] 60 (0, 0)) bk_ hb); have n1_ := Aside0.mk (below_step bw_ hb); have n2_ := Aside0.mk (hbox); have n3_ := Aside0.mk ((by rw [hg]; exact (below_size bw_) : w.heap.size ≤ gb2)); have n4_ := Aside0.mk ((by rw [hg]; exact (below_size bw_) : w.heap.size ≤ gb2)); have n5_ := Aside0.mk ((by rw [hg]; exact Nat.ne_of_lt (blk_lt (g := gb1) (o := .cells #[.int .i64 a0_0, .slice A0_1 l0_1.length c0_1] 60 (0, 0)) bk_) : gb1 ≠ gb2)); have n6_ := Aside0.mk ((by rw [hg]; exact Nat.ne_of_gt (blk_lt (g := gb1) (o := .cells #[.int .i64 a0_0, .slice A0_1 l0_1.length c0_1] 60 (0, 0)) bk_) : gb2 ≠ gb1)); clear BK1; clear HB; have BK1 := n0_; have HB := n1_; have BK2 := n2_; have GW2 := n3_; have GE2 := n4_; have NB1_2 := n5_; have NB2_1 := n6_; clear n0_ n1_ n2_ n3_ n4_ n5_ n6_; clear hb hbox hg; have hnb107 := NB1_2.out; have hnc107 := NB2_1.out; have hcz108_0 := (blk_cell BK1.out 0).trans rfl; have hcz108_1 := (blk_cell BK1.out 1).trans rfl; have hfz108_0 := blk_frozen BK1.out 0; have hfz108_1 := blk_frozen BK1.out 1) | ((with_reducible refine gate_callee (f := 43) rfl ?_); refine goesL_ (some 12) rfl rfl Try.func43 (by kernel_rfl) rfl #[.agg #[.int .i64 a0_0, .slice A0_1 l0_1.length c0_1], .int .i64 1048576] rfl ar_ ?_; (with_reducible refine (laws_szProg.calls k a0_0 _ _ l0_1 1048576 t3 _ ?side1 ?side2 A3.out).mono ?_); (case side1 => exact cb_); (case side2 => exact HC0_1.out); rintro e w109 ⟨rfl, hb⟩; refine ⟨_, rfl, ?_⟩; have n0_ := Aside0.mk (blk_below (g := gb1) (o := .cells #[.int .i64 a0_0, .slice A0_1 l0_1.length c0_1] 60 (0, 0)) bk_ hb); have n1_ := Aside0.mk (blk_below (g := gb2) (o := .cells #[.slice A1_0 l1_0.length c1_0, .slice A1_1 l1_1.length c1_1] 38 (0, 0)) bk_ hb); have n2_ := Aside0.mk (below_step bw_ hb); clear BK1; clear BK2; clear HB; have BK1 := n0_; have BK2 := n1_; have HB := n2_; clear n0_ n1_ n2_; (try clear hb); (try clear hb2); (try clear hk); (try clear hi); have hcz110_0 := (blk_cell BK2.out 0).trans rfl; have hcz110_1 := (blk_cell BK2.out 1).trans rfl; have hfz110_0 := blk_frozen BK2.out 0; have hfz110_1 := blk_frozen BK2.out 1) | ((with_reducible refine gate_callee (f := 27) rfl ?_); refine goesL_ (some 17) rfl rfl Try.func27 (by kernel_rfl) rfl #[.agg #[.slice A1_0 l1_0.length c1_0, .slice A1_1 l1_1.length c1_1], .int .i64 t3] rfl ar_ ?_; (with_reducible refine (laws_szMachine.calls k _ _ l1_0 _ _ l1_1 t3 t4 _ ?side1 ?side2 ?side3 ?side4 A10.out).mono ?_); (case side1 => exact cb_); (case side2 => exact HC1_0.out); (case side3 => exact cb_); (case side4 => exact HC1_1.out); rintro e w111 ⟨rfl, hb⟩; refine ⟨_, rfl, ?_⟩; have n0_ := Aside0.mk (blk_below (g := gb1) (o := .cells #[.int .i64 a0_0, .slice A0_1 l0_1.length c0_1] 60 (0, 0)) bk_ hb); have n1_ := Aside0.mk (blk_below (g := gb2) (o := .cells #[.slice A1_0 l1_0.length c1_0, .slice A1_1 l1_1.length c1_1] 38 (0, 0)) bk_ hb); have n2_ := Aside0.mk (below_step bw_ hb); clear BK1; clear BK2; clear HB; have BK1 := n0_; have BK2 := n1_; have HB := n2_; clear n0_ n1_ n2_; (try clear hb); (try clear hb2); (try clear hk); (try clear hi)))
 have n0_ := Aside0.mk (blk_drew BK1.out)
 have n1_ := Aside0.mk (blk_drew BK2.out)
 have n2_ := Aside0.mk (below_drew1 HB.out)
 clear BK1
 clear BK2
 clear HB
 have BK1 := n0_
 have BK2 := n1_
 have HB := n2_
 clear n0_ n1_ n2_
 refine start_ (n := 6) (S := fun w' => w'.cell? ⟨gb1, 0, none⟩ = some (.int .i64 a0_0) ∧ w'.cell? ⟨gb1, 1, none⟩ = some (.slice A0_1 l0_1.length c0_1) ∧ w'.cell? ⟨gb2, 0, none⟩ = some (.slice A1_0 l1_0.length c1_0) ∧ w'.cell? ⟨gb2, 1, none⟩ = some (.slice A1_1 l1_1.length c1_1)) (ds := []) #[false, false, false, false, false, false] (by kernel_rfl) rfl rfl ⟨(blk_cell BK1.out 0).trans rfl, (blk_cell BK1.out 1).trans rfl, (blk_cell BK2.out 0).trans rfl, (blk_cell BK2.out 1).trans rfl⟩ (fun hHeld => ?_)
 generalize w111.drew = w112 at BK1 BK2 HB hHeld ⊢
 refine take_ (i := 0) (N := some 20) (v := ?_) (a' := ?_) #[true, false, false, false, false, false] rfl rfl (by kernel_rfl) (fun _ _ _ h => h) (Or.inl ⟨by rfl, ?_⟩) hHeld ?_ ?_
 rotate_left
 ·rintro w' ⟨s0, s1, s2, s3⟩
  go_simp
  with_reducible rfl
 rotate_left
 ·simp only [Act.put, List.setIfInBounds_toArray, List.set_cons_zero, List.set_cons_succ, i64_w, i32_w]
  rfl
 refine take_ (i := 2) (N := some 22) (v := ?_) (a' := ?_) #[true, false, true, false, false, false] rfl rfl (by kernel_rfl) (fun _ _ _ h => h) (Or.inl ⟨by rfl, ?_⟩) hHeld ?_ ?_
 rotate_left
 ·rintro w' ⟨s0, s1, s2, s3⟩
  go_simp
  with_reducible rfl
 rotate_left
 ·simp only [Act.put, List.setIfInBounds_toArray, List.set_cons_zero, List.set_cons_succ, i64_w, i32_w]
  rfl
 refine one_ (i := 1) (N := some 21) #[true, true, true, false, false, false] rfl rfl (by kernel_rfl) (by decide) (fun K hK => ?_)
 refine goes_ Try.func45 (by kernel_rfl) rfl #[.agg #[.int .i64 a0_0, .slice A0_1 l0_1.length c0_1]] (by rfl) rfl rfl ar_ ?_
 with_reducible refine (laws_toProg.calls k a0_0 _ _ l0_1 t5 t6 _ ?side1 ?side2 A19.out).mono ?_
 (case side1 => exact cb_)
 (case side2 => exact HC0_1.out)
 rintro e w113 ⟨v7, rfl, ho0, hb⟩
 refine ⟨_, rfl, ?_⟩
 have n0_ := Aside0.mk (Kd.S_lower ho0 (below_size bw_))
 have n1_ := Aside0.mk (blk_below (g := gb1) (o := .cells #[.int .i64 a0_0, .slice A0_1 l0_1.length c0_1] 60 (0, 0)) bk_ hb)
 have n2_ := Aside0.mk (blk_below (g := gb2) (o := .cells #[.slice A1_0 l1_0.length c1_0, .slice A1_1 l1_1.length c1_1] 38 (0, 0)) bk_ hb)
 have n3_ := Aside0.mk (below_step bw_ hb)
 clear BK1
 clear BK2
 clear HB
 have HO8 := n0_
 have BK1 := n1_
 have BK2 := n2_
 have HB := n3_
 clear n0_ n1_ n2_ n3_
 (try clear hb)
 (try clear hb2)
 (try clear hk)
 (try clear hi)
 (try clear ho0)
 refine hK.out _ _ ⟨(blk_cell BK1.out 0).trans rfl, (blk_cell BK1.out 1).trans rfl, (blk_cell BK2.out 0).trans rfl, (blk_cell BK2.out 1).trans rfl⟩ (fun hHeld => ?_)
 clear hK K
 refine norm_ (a' := ?_) ?_ ?_
 rotate_left
 ·show Act.put _ (some 21) _ = _
  simp only [Act.put, List.setIfInBounds_toArray, List.set_cons_zero, List.set_cons_succ, i64_w, i32_w]
  rfl
 refine one_ (i := 3) (N := some 23) #[true, true, true, true, false, false] rfl rfl (by kernel_rfl) (by decide) (fun K hK => ?_)
 refine goes_ Try.func30 (by kernel_rfl) rfl #[.agg #[.slice A1_0 l1_0.length c1_0, .slice A1_1 l1_1.length c1_1]] (by rfl) rfl rfl ar_ ?_
 with_reducible refine (laws_toMachine.calls k _ _ l1_0 _ _ l1_1 t9 t12 _ ?side1 ?side2 ?side3 ?side4 A20.out).mono ?_
 (case side1 => exact cb_)
 (case side2 => exact HC1_0.out)
 (case side3 => exact cb_)
 (case side4 => exact HC1_1.out)
 rintro e w114 ⟨v10, v13, rfl, ho0, ho1, hb⟩
 refine ⟨_, rfl, ?_⟩
 have n0_ := Aside0.mk (Kd.S_below (by (with_reducible repeat (first | apply Kd.S_alloc | apply Kd.S_drewN | apply Kd.S_drew)); exact HO8.out) hb)
 have n1_ := Aside0.mk (Kd.R_lower ho0 (below_size bw_))
 have n2_ := Aside0.mk (Kd.S_lower ho1 (below_size bw_))
 have n3_ := Aside0.mk (blk_below (g := gb1) (o := .cells #[.int .i64 a0_0, .slice A0_1 l0_1.length c0_1] 60 (0, 0)) bk_ hb)
 have n4_ := Aside0.mk (blk_below (g := gb2) (o := .cells #[.slice A1_0 l1_0.length c1_0, .slice A1_1 l1_1.length c1_1] 38 (0, 0)) bk_ hb)
 have n5_ := Aside0.mk (below_step bw_ hb)
 clear HO8
 clear BK1
 clear BK2
 clear HB
 have HO8 := n0_
 have HO11 := n1_
 have HO14 := n2_
 have BK1 := n3_
 have BK2 := n4_
 have HB := n5_
 clear n0_ n1_ n2_ n3_ n4_ n5_
 (try clear hb)
 (try clear hb2)
 (try clear hk)
 (try clear hi)
 (try clear ho0)
 (try clear ho1)
 obtain ⟨Ao115, co115, eo115⟩ := Kd.S_slice HO8.out
 (first | subst eo115 | (injection eo115 with f1_ f2_ f3_; have f4_ := f1_.symm; have f5_ := f3_.symm; clear f1_ f2_ f3_; subst f4_; subst f5_))
 obtain ⟨Ao116, co116, eo116⟩ := Kd.R_slice HO11.out
 (first | subst eo116 | (injection eo116 with f1_ f2_ f3_; have f4_ := f1_.symm; have f5_ := f3_.symm; clear f1_ f2_ f3_; subst f4_; subst f5_))
 obtain ⟨Ao117, co117, eo117⟩ := Kd.S_slice HO14.out
 (first | subst eo117 | (injection eo117 with f1_ f2_ f3_; have f4_ := f1_.symm; have f5_ := f3_.symm; clear f1_ f2_ f3_; subst f4_; subst f5_))
 refine hK.out _ _ ⟨(blk_cell BK1.out 0).trans rfl, (blk_cell BK1.out 1).trans rfl, (blk_cell BK2.out 0).trans rfl, (blk_cell BK2.out 1).trans rfl⟩ (fun hHeld => ?_)
 clear hK K
 refine norm_ (a' := ?_) ?_ ?_
 rotate_left
 ·show Act.put _ (some 23) _ = _
  simp only [Act.put, List.setIfInBounds_toArray, List.set_cons_zero, List.set_cons_succ, i64_w, i32_w]
  rfl
 refine one_ (i := 4) (N := some 24) #[true, true, true, true, true, false] rfl rfl (by kernel_rfl) (by decide) (fun K hK => ?_)
 refine goes_ Try.func65 (by kernel_rfl) rfl #[.agg #[.int .i64 t5, .slice Ao115 t6.length co115], .agg #[.slice Ao116 t9.length co116, .slice Ao117 t12.length co117]] (by rfl) rfl rfl ar_ ?_
 with_reducible refine (spec_AtEnd.calls k t5 _ _ t6 _ _ t9 _ _ t12 t15 _ ?side1 ?side2 ?side3 ?side4 ?side5 ?side6 A21.out).mono ?_
 (case side1 => repeat (first | exact (Kd.S_reads' HO8.out).2.2 | (with_reducible refine Kd.C_alloc ?_ _) | (with_reducible refine Kd.C_drewN ?_ _) | (with_reducible refine Kd.C_drew ?_)))
 (case side2 => exact (Kd.S_reads' HO8.out).2.1)
 (case side3 => repeat (first | exact (Kd.R_reads' HO11.out).2.2 | (with_reducible refine Kd.C_alloc ?_ _) | (with_reducible refine Kd.C_drewN ?_ _) | (with_reducible refine Kd.C_drew ?_)))
 (case side4 => exact (Kd.R_reads' HO11.out).2.1)
 (case side5 => repeat (first | exact (Kd.S_reads' HO14.out).2.2 | (with_reducible refine Kd.C_alloc ?_ _) | (with_reducible refine Kd.C_drewN ?_ _) | (with_reducible refine Kd.C_drew ?_)))
 (case side6 => exact (Kd.S_reads' HO14.out).2.1)
 rintro e w118 ⟨rfl, hb⟩
 refine ⟨_, rfl, ?_⟩
 have n0_ := Aside0.mk (Kd.S_below (by (with_reducible repeat (first | apply Kd.S_alloc | apply Kd.S_drewN | apply Kd.S_drew)); exact HO8.out) hb)
 have n1_ := Aside0.mk (Kd.R_below (by (with_reducible repeat (first | apply Kd.R_alloc | apply Kd.R_drewN | apply Kd.R_drew)); exact HO11.out) hb)
 have n2_ := Aside0.mk (Kd.S_below (by (with_reducible repeat (first | apply Kd.S_alloc | apply Kd.S_drewN | apply Kd.S_drew)); exact HO14.out) hb)
 have n3_ := Aside0.mk (blk_below (g := gb1) (o := .cells #[.int .i64 a0_0, .slice A0_1 l0_1.length c0_1] 60 (0, 0)) bk_ hb)
 have n4_ := Aside0.mk (blk_below (g := gb2) (o := .cells #[.slice A1_0 l1_0.length c1_0, .slice A1_1 l1_1.length c1_1] 38 (0, 0)) bk_ hb)
 have n5_ := Aside0.mk (below_step bw_ hb)
 clear HO8
 clear HO11
 clear HO14
 clear BK1
 clear BK2
 clear HB
 have HO8 := n0_
 have HO11 := n1_
 have HO14 := n2_
 have BK1 := n3_
 have BK2 := n4_
 have HB := n5_
 clear n0_ n1_ n2_ n3_ n4_ n5_
 (try clear hb)
 (try clear hb2)
 (try clear hk)
 (try clear hi)
 refine hK.out _ _ ⟨(blk_cell BK1.out 0).trans rfl, (blk_cell BK1.out 1).trans rfl, (blk_cell BK2.out 0).trans rfl, (blk_cell BK2.out 1).trans rfl⟩ (fun hHeld => ?_)
 clear hK K
 refine norm_ (a' := ?_) ?_ ?_
 rotate_left
 ·show Act.put _ (some 24) _ = _
  simp only [Act.put, List.setIfInBounds_toArray, List.set_cons_zero, List.set_cons_succ, i64_w, i32_w]
  rfl
 refine pure_ (i := 5) (N := some 6) (v := ?_) (a' := ?_) #[true, true, true, true, true, true] rfl rfl (by kernel_rfl) (fun _ _ _ h => h) (Or.inl ⟨by rfl, ?_⟩) ?_ ?_
 rotate_left
 ·intro w'
  go_simp
  with_reducible rfl
 rotate_left
 ·simp only [Act.put, List.setIfInBounds_toArray, List.set_cons_zero, List.set_cons_succ, i64_w, i32_w]
  rfl
 refine done_ (by kernel_rfl) ?_
 have hcz119_0 := (blk_cell BK1.out 0).trans rfl
 have hcz119_1 := (blk_cell BK1.out 1).trans rfl
 have hfz119_0 := blk_frozen BK1.out 0
 have hfz119_1 := blk_frozen BK1.out 1
 try go_wp2_with (first | ((with_reducible refine gate_callee (f := 45) rfl ?_); refine goesL_ (some 26) rfl rfl Try.func45 (by kernel_rfl) rfl #[.agg #[.int .i64 a0_0, .slice A0_1 l0_1.length c0_1]] rfl ar_ ?_; (with_reducible refine (laws_toProg.calls k a0_0 _ _ l0_1 t16 t17 _ ?side1 ?side2 A22.out).mono ?_); (case side1 => exact cb_); (case side2 => exact HC0_1.out); rintro e w120 ⟨v18, rfl, ho0, hb⟩; refine ⟨_, rfl, ?_⟩; have n0_ := Aside0.mk (Kd.S_elder' (by (with_reducible repeat (first | apply Kd.S_alloc | apply Kd.S_drewN | apply Kd.S_drew)); exact HO8.out) (Kd.S_base ho0) hb); have n1_ := Aside0.mk (Kd.R_below (by (with_reducible repeat (first | apply Kd.R_alloc | apply Kd.R_drewN | apply Kd.R_drew)); exact HO11.out) hb); have n2_ := Aside0.mk (Kd.S_below (by (with_reducible repeat (first | apply Kd.S_alloc | apply Kd.S_drewN | apply Kd.S_drew)); exact HO14.out) hb); have n3_ := Aside0.mk (Kd.S_lower (Kd.S_new' ho0 (Kd.S_lt (by (with_reducible repeat (first | apply Kd.S_alloc | apply Kd.S_drewN | apply Kd.S_drew)); exact HO8.out))) (below_size bw_)); have n4_ := Aside0.mk (blk_below (g := gb1) (o := .cells #[.int .i64 a0_0, .slice A0_1 l0_1.length c0_1] 60 (0, 0)) bk_ hb); have n5_ := Aside0.mk (blk_below (g := gb2) (o := .cells #[.slice A1_0 l1_0.length c1_0, .slice A1_1 l1_1.length c1_1] 38 (0, 0)) bk_ hb); have n6_ := Aside0.mk (below_step bw_ hb); clear HO8; clear HO11; clear HO14; clear BK1; clear BK2; clear HB; have HO8 := n0_; have HO11 := n1_; have HO14 := n2_; have HO19 := n3_; have BK1 := n4_; have BK2 := n5_; have HB := n6_; clear n0_ n1_ n2_ n3_ n4_ n5_ n6_; (try clear hb); (try clear hb2); (try clear hk); (try clear hi); (try clear ho0)) | ((with_reducible refine gate_dst (N := 7) rfl ?_); refine box_event ?hg (N := 7) ?hd (cs := #[.int .i64 0, .slice none 0 0]) (t := 64) ?hr ?_; (case hd => rfl); (case hg => rfl); (case hr => first | (go_simp; done) | (go_simp; rfl)); intro gb20 hg w121 hbox hb; have n0_ := Aside0.mk (Kd.S_below (by (with_reducible repeat (first | apply Kd.S_alloc | apply Kd.S_drewN | apply Kd.S_drew)); exact HO8.out) hb); have n1_ := Aside0.mk (Kd.R_below (by (with_reducible repeat (first | apply Kd.R_alloc | apply Kd.R_drewN | apply Kd.R_drew)); exact HO11.out) hb); have n2_ := Aside0.mk (Kd.S_below (by (with_reducible repeat (first | apply Kd.S_alloc | apply Kd.S_drewN | apply Kd.S_drew)); exact HO14.out) hb); have n3_ := Aside0.mk (Kd.S_below (by (with_reducible repeat (first | apply Kd.S_alloc | apply Kd.S_drewN | apply Kd.S_drew)); exact HO19.out) hb); have n4_ := Aside0.mk (blk_below (g := gb1) (o := .cells #[.int .i64 a0_0, .slice A0_1 l0_1.length c0_1] 60 (0, 0)) bk_ hb); have n5_ := Aside0.mk (blk_below (g := gb2) (o := .cells #[.slice A1_0 l1_0.length c1_0, .slice A1_1 l1_1.length c1_1] 38 (0, 0)) bk_ hb); have n6_ := Aside0.mk (below_step bw_ hb); have n7_ := Aside0.mk (hbox); have n8_ := Aside0.mk ((by rw [hg]; exact (below_size bw_) : w.heap.size ≤ gb20)); have n9_ := Aside0.mk ((by rw [hg]; exact (below_size bw_) : w.heap.size ≤ gb20)); have n10_ := Aside0.mk ((by rw [hg]; exact Nat.ne_of_lt (blk_lt (g := gb1) (o := .cells #[.int .i64 a0_0, .slice A0_1 l0_1.length c0_1] 60 (0, 0)) bk_) : gb1 ≠ gb20)); have n11_ := Aside0.mk ((by rw [hg]; exact Nat.ne_of_gt (blk_lt (g := gb1) (o := .cells #[.int .i64 a0_0, .slice A0_1 l0_1.length c0_1] 60 (0, 0)) bk_) : gb20 ≠ gb1)); have n12_ := Aside0.mk ((by rw [hg]; exact Nat.ne_of_lt (blk_lt (g := gb2) (o := .cells #[.slice A1_0 l1_0.length c1_0, .slice A1_1 l1_1.length c1_1] 38 (0, 0)) bk_) : gb2 ≠ gb20)); have n13_ := Aside0.mk ((by rw [hg]; exact Nat.ne_of_gt (blk_lt (g := gb2) (o := .cells #[.slice A1_0 l1_0.length c1_0, .slice A1_1 l1_1.length c1_1] 38 (0, 0)) bk_) : gb20 ≠ gb2)); clear HO8; clear HO11; clear HO14; clear HO19; clear BK1; clear BK2; clear HB; have HO8 := n0_; have HO11 := n1_; have HO14 := n2_; have HO19 := n3_; have BK1 := n4_; have BK2 := n5_; have HB := n6_; have BK20 := n7_; have GW20 := n8_; have GE20 := n9_; have NB1_20 := n10_; have NB20_1 := n11_; have NB2_20 := n12_; have NB20_2 := n13_; clear n0_ n1_ n2_ n3_ n4_ n5_ n6_ n7_ n8_ n9_ n10_ n11_ n12_ n13_; clear hb hbox hg; have hnb122 := NB20_1.out; have hnc122 := NB1_20.out; have hnb123 := NB20_2.out; have hnc123 := NB2_20.out; have hcz124_0 := (blk_cell BK20.out 0).trans rfl; have hcz124_1 := (blk_cell BK20.out 1).trans rfl; have hfz124_0 := blk_frozen BK20.out 0; have hfz124_1 := blk_frozen BK20.out 1; obtain ⟨Ao125, co125, eo125⟩ := Kd.S_slice HO19.out; subst eo125; have hcz126_0 := (blk_cell BK2.out 0).trans rfl; have hcz126_1 := (blk_cell BK2.out 1).trans rfl; have hfz126_0 := blk_frozen BK2.out 0; have hfz126_1 := blk_frozen BK2.out 1) | ((with_reducible refine gate_callee (f := 30) rfl ?_); refine goesL_ (some 28) rfl rfl Try.func30 (by kernel_rfl) rfl #[.agg #[.slice A1_0 l1_0.length c1_0, .slice A1_1 l1_1.length c1_1]] rfl ar_ ?_; (with_reducible refine (laws_toMachine.calls k _ _ l1_0 _ _ l1_1 t21 t24 _ ?side1 ?side2 ?side3 ?side4 A23.out).mono ?_); (case side1 => exact Kd.C_below HR1_0.out bw_); (case side2 => exact HC1_0.out); (case side3 => exact Kd.C_below HR1_1.out bw_); (case side4 => exact HC1_1.out); rintro e w127 ⟨v22, v25, rfl, ho0, ho1, hb⟩; refine ⟨_, rfl, ?_⟩; have n0_ := Aside0.mk (Kd.S_below (by (with_reducible repeat (first | apply Kd.S_alloc | apply Kd.S_drewN | apply Kd.S_drew)); exact (Kd.S_mono (Kd.S_far (p := ⟨gb20, 1, none⟩) (Kd.S_far (p := ⟨gb20, 0, none⟩) (Kd.S_types HO8.out BK20.out (by decide)) (fun _ hk => hk.2) (.int .i64 t16)) (fun _ hk => hk.2) (.slice Ao125 t17.length co125)) (fun _ h_ => h_.1))) hb); have n1_ := Aside0.mk (Kd.R_elder' (by (with_reducible repeat (first | apply Kd.R_alloc | apply Kd.R_drewN | apply Kd.R_drew)); exact (Kd.R_mono (Kd.R_far (p := ⟨gb20, 1, none⟩) (Kd.R_far (p := ⟨gb20, 0, none⟩) (Kd.R_types HO11.out BK20.out (by decide)) (fun _ hk => hk.2) (.int .i64 t16)) (fun _ hk => hk.2) (.slice Ao125 t17.length co125)) (fun _ h_ => h_.1))) (Kd.R_base ho0) hb); have n2_ := Aside0.mk (Kd.S_mono (Kd.S_told (Kd.S_told (Kd.S_old (by (with_reducible repeat (first | apply Kd.S_alloc | apply Kd.S_drewN | apply Kd.S_drew)); exact (Kd.S_mono (Kd.S_far (p := ⟨gb20, 1, none⟩) (Kd.S_far (p := ⟨gb20, 0, none⟩) (Kd.S_types HO14.out BK20.out (by decide)) (fun _ hk => hk.2) (.int .i64 t16)) (fun _ hk => hk.2) (.slice Ao125 t17.length co125)) (fun _ h_ => h_.1))) hb) (Kd.R_base ho0)) (Kd.S_base ho1)) (fun _ h_ => h_.1)); have n3_ := Aside0.mk (Kd.S_below (by (with_reducible repeat (first | apply Kd.S_alloc | apply Kd.S_drewN | apply Kd.S_drew)); exact (Kd.S_mono (Kd.S_far (p := ⟨gb20, 1, none⟩) (Kd.S_far (p := ⟨gb20, 0, none⟩) (Kd.S_types HO19.out BK20.out (by decide)) (fun _ hk => hk.2) (.int .i64 t16)) (fun _ hk => hk.2) (.slice Ao125 t17.length co125)) (fun _ h_ => h_.1))) hb); have n4_ := Aside0.mk (Kd.R_lower (Kd.R_new' ho0 (Kd.R_lt (by (with_reducible repeat (first | apply Kd.R_alloc | apply Kd.R_drewN | apply Kd.R_drew)); exact (Kd.R_mono (Kd.R_far (p := ⟨gb20, 1, none⟩) (Kd.R_far (p := ⟨gb20, 0, none⟩) (Kd.R_types HO11.out BK20.out (by decide)) (fun _ hk => hk.2) (.int .i64 t16)) (fun _ hk => hk.2) (.slice Ao125 t17.length co125)) (fun _ h_ => h_.1))))) (below_size bw_)); have n5_ := Aside0.mk (Kd.S_lower (Kd.S_new' (Kd.S_new' ho1 (Kd.R_lt (by (with_reducible repeat (first | apply Kd.R_alloc | apply Kd.R_drewN | apply Kd.R_drew)); exact (Kd.R_mono (Kd.R_far (p := ⟨gb20, 1, none⟩) (Kd.R_far (p := ⟨gb20, 0, none⟩) (Kd.R_types HO11.out BK20.out (by decide)) (fun _ hk => hk.2) (.int .i64 t16)) (fun _ hk => hk.2) (.slice Ao125 t17.length co125)) (fun _ h_ => h_.1))))) (Kd.S_lt (by (with_reducible repeat (first | apply Kd.S_alloc | apply Kd.S_drewN | apply Kd.S_drew)); exact (Kd.S_mono (Kd.S_far (p := ⟨gb20, 1, none⟩) (Kd.S_far (p := ⟨gb20, 0, none⟩) (Kd.S_types HO14.out BK20.out (by decide)) (fun _ hk => hk.2) (.int .i64 t16)) (fun _ hk => hk.2) (.slice Ao125 t17.length co125)) (fun _ h_ => h_.1))))) (below_size bw_)); have n6_ := Aside0.mk (blk_below (g := gb1) (o := .cells #[.int .i64 a0_0, .slice A0_1 l0_1.length c0_1] 60 (0, 0)) (by (with_reducible repeat (first | refine blk_drewN ?_ _ | refine blk_drew ?_ | refine blk_alloc ?_ _)); refine blk_far ?_ NB1_20.out _; (with_reducible repeat (first | refine blk_drewN ?_ _ | refine blk_drew ?_ | refine blk_alloc ?_ _)); refine blk_far ?_ NB1_20.out _; (with_reducible repeat (first | refine blk_drewN ?_ _ | refine blk_drew ?_ | refine blk_alloc ?_ _)); exact BK1.out) hb); have n7_ := Aside0.mk (blk_below (g := gb2) (o := .cells #[.slice A1_0 l1_0.length c1_0, .slice A1_1 l1_1.length c1_1] 38 (0, 0)) (by (with_reducible repeat (first | refine blk_drewN ?_ _ | refine blk_drew ?_ | refine blk_alloc ?_ _)); refine blk_far ?_ NB2_20.out _; (with_reducible repeat (first | refine blk_drewN ?_ _ | refine blk_drew ?_ | refine blk_alloc ?_ _)); refine blk_far ?_ NB2_20.out _; (with_reducible repeat (first | refine blk_drewN ?_ _ | refine blk_drew ?_ | refine blk_alloc ?_ _)); exact BK2.out) hb); have n8_ := Aside0.mk (blk_below (g := gb20) (o := .cells #[.int .i64 t16, .slice Ao125 t17.length co125] 64 (0, 0)) (by (with_reducible repeat (first | refine blk_drewN ?_ _ | refine blk_drew ?_ | refine blk_alloc ?_ _)); refine blk_put (cs := #[.int .i64 t16, .slice none 0 0]) ?_ 1 _ rfl; (with_reducible repeat (first | refine blk_drewN ?_ _ | refine blk_drew ?_ | refine blk_alloc ?_ _)); refine blk_put (cs := #[.int .i64 0, .slice none 0 0]) ?_ 0 _ rfl; (with_reducible repeat (first | refine blk_drewN ?_ _ | refine blk_drew ?_ | refine blk_alloc ?_ _)); exact BK20.out) hb); have n9_ := Aside0.mk (below_step bw_ hb); clear HO8; clear HO11; clear HO14; clear HO19; clear BK1; clear BK2; clear BK20; clear HB; have HO8 := n0_; have HO11 := n1_; have HO14 := n2_; have HO19 := n3_; have HO23 := n4_; have HO26 := n5_; have BK1 := n6_; have BK2 := n7_; have BK20 := n8_; have HB := n9_; clear n0_ n1_ n2_ n3_ n4_ n5_ n6_ n7_ n8_ n9_; (try clear hb); (try clear hb2); (try clear hk); (try clear hi); (try clear ho0); (try clear ho1)) | ((with_reducible refine gate_dst (N := 8) rfl ?_); refine box_event ?hg (N := 8) ?hd (cs := #[.slice none 0 0, .slice none 0 0]) (t := 46) ?hr ?_; (case hd => rfl); (case hg => rfl); (case hr => first | (go_simp; done) | (go_simp; rfl)); intro gb27 hg w128 hbox hb; have n0_ := Aside0.mk (Kd.S_below (by (with_reducible repeat (first | apply Kd.S_alloc | apply Kd.S_drewN | apply Kd.S_drew)); exact HO8.out) hb); have n1_ := Aside0.mk (Kd.R_below (by (with_reducible repeat (first | apply Kd.R_alloc | apply Kd.R_drewN | apply Kd.R_drew)); exact HO11.out) hb); have n2_ := Aside0.mk (Kd.S_below (by (with_reducible repeat (first | apply Kd.S_alloc | apply Kd.S_drewN | apply Kd.S_drew)); exact HO14.out) hb); have n3_ := Aside0.mk (Kd.S_below (by (with_reducible repeat (first | apply Kd.S_alloc | apply Kd.S_drewN | apply Kd.S_drew)); exact HO19.out) hb); have n4_ := Aside0.mk (Kd.R_below (by (with_reducible repeat (first | apply Kd.R_alloc | apply Kd.R_drewN | apply Kd.R_drew)); exact HO23.out) hb); have n5_ := Aside0.mk (Kd.S_below (by (with_reducible repeat (first | apply Kd.S_alloc | apply Kd.S_drewN | apply Kd.S_drew)); exact HO26.out) hb); have n6_ := Aside0.mk (blk_below (g := gb1) (o := .cells #[.int .i64 a0_0, .slice A0_1 l0_1.length c0_1] 60 (0, 0)) bk_ hb); have n7_ := Aside0.mk (blk_below (g := gb2) (o := .cells #[.slice A1_0 l1_0.length c1_0, .slice A1_1 l1_1.length c1_1] 38 (0, 0)) bk_ hb); have n8_ := Aside0.mk (blk_below (g := gb20) (o := .cells #[.int .i64 t16, .slice Ao125 t17.length co125] 64 (0, 0)) bk_ hb); have n9_ := Aside0.mk (below_step bw_ hb); have n10_ := Aside0.mk (hbox); have n11_ := Aside0.mk ((by rw [hg]; exact (below_size bw_) : w.heap.size ≤ gb27)); have n12_ := Aside0.mk ((by rw [hg]; exact (below_size bw_) : w.heap.size ≤ gb27)); have n13_ := Aside0.mk ((by rw [hg]; exact Nat.ne_of_lt (blk_lt (g := gb1) (o := .cells #[.int .i64 a0_0, .slice A0_1 l0_1.length c0_1] 60 (0, 0)) bk_) : gb1 ≠ gb27)); have n14_ := Aside0.mk ((by rw [hg]; exact Nat.ne_of_gt (blk_lt (g := gb1) (o := .cells #[.int .i64 a0_0, .slice A0_1 l0_1.length c0_1] 60 (0, 0)) bk_) : gb27 ≠ gb1)); have n15_ := Aside0.mk ((by rw [hg]; exact Nat.ne_of_lt (blk_lt (g := gb2) (o := .cells #[.slice A1_0 l1_0.length c1_0, .slice A1_1 l1_1.length c1_1] 38 (0, 0)) bk_) : gb2 ≠ gb27)); have n16_ := Aside0.mk ((by rw [hg]; exact Nat.ne_of_gt (blk_lt (g := gb2) (o := .cells #[.slice A1_0 l1_0.length c1_0, .slice A1_1 l1_1.length c1_1] 38 (0, 0)) bk_) : gb27 ≠ gb2)); have n17_ := Aside0.mk ((by rw [hg]; exact Nat.ne_of_lt (blk_lt (g := gb20) (o := .cells #[.int .i64 t16, .slice Ao125 t17.length co125] 64 (0, 0)) bk_) : gb20 ≠ gb27)); have n18_ := Aside0.mk ((by rw [hg]; exact Nat.ne_of_gt (blk_lt (g := gb20) (o := .cells #[.int .i64 t16, .slice Ao125 t17.length co125] 64 (0, 0)) bk_) : gb27 ≠ gb20)); clear HO8; clear HO11; clear HO14; clear HO19; clear HO23; clear HO26; clear BK1; clear BK2; clear BK20; clear HB; have HO8 := n0_; have HO11 := n1_; have HO14 := n2_; have HO19 := n3_; have HO23 := n4_; have HO26 := n5_; have BK1 := n6_; have BK2 := n7_; have BK20 := n8_; have HB := n9_; have BK27 := n10_; have GW27 := n11_; have GE27 := n12_; have NB1_27 := n13_; have NB27_1 := n14_; have NB2_27 := n15_; have NB27_2 := n16_; have NB20_27 := n17_; have NB27_20 := n18_; clear n0_ n1_ n2_ n3_ n4_ n5_ n6_ n7_ n8_ n9_ n10_ n11_ n12_ n13_ n14_ n15_ n16_ n17_ n18_; clear hb hbox hg; obtain ⟨Ao129, co129, eo129⟩ := Kd.R_slice HO23.out; subst eo129; have hnb130 := NB27_1.out; have hnc130 := NB1_27.out; have hnb131 := NB27_2.out; have hnc131 := NB2_27.out; have hnb132 := NB27_20.out; have hnc132 := NB20_27.out; have hcz133_0 := (blk_cell BK27.out 0).trans rfl; have hcz133_1 := (blk_cell BK27.out 1).trans rfl; have hfz133_0 := blk_frozen BK27.out 0; have hfz133_1 := blk_frozen BK27.out 1; obtain ⟨Ao134, co134, eo134⟩ := Kd.S_slice HO26.out; subst eo134; have hcz135_0 := (blk_cell BK20.out 0).trans rfl; have hcz135_1 := (blk_cell BK20.out 1).trans rfl; have hfz135_0 := blk_frozen BK20.out 0; have hfz135_1 := blk_frozen BK20.out 1) | ((with_reducible refine gate_callee (f := 66) rfl ?_); refine goesL_ (some 31) rfl rfl Try.func66 (by kernel_rfl) rfl #[.agg #[.int .i64 t16, .slice Ao125 t17.length co125], .agg #[.slice Ao129 t21.length co129, .slice Ao134 t24.length co134]] rfl ar_ ?_; (with_reducible refine (impl_AtEnd.calls k t16 _ _ t17 _ _ t21 _ _ t24 t28 _ ?side1 ?side2 ?side3 ?side4 ?side5 ?side6 A24.out).mono ?_); (case side1 => refine (Kd.S_reads' (e := 94) (base := w.heap.size) (ok := fun k_ => (True ∧ some k_ ≠ (.slice Ao115 t6.length co115 : Value).ownBlock)) (n := t17.length) (c := co125) ?_).2.2; exact (by (with_reducible repeat (first | apply Kd.S_alloc | apply Kd.S_drewN | apply Kd.S_drew)); exact (Kd.S_mono (Kd.S_far (p := ⟨gb27, 1, none⟩) (Kd.S_far (p := ⟨gb27, 0, none⟩) (Kd.S_types HO19.out BK27.out (by decide)) (fun _ hk => hk.2) (.slice Ao129 t21.length co129)) (fun _ hk => hk.2) (.slice Ao134 t24.length co134)) (fun _ h_ => h_.1)))); (case side2 => exact (Kd.S_reads' HO19.out).2.1); (case side3 => refine (Kd.R_reads' (e := 3) (base := w.heap.size) (ok := fun k_ => (True ∧ some k_ ≠ (.slice Ao116 t9.length co116 : Value).ownBlock)) (n := t21.length) (c := co129) ?_).2.2; exact (by (with_reducible repeat (first | apply Kd.R_alloc | apply Kd.R_drewN | apply Kd.R_drew)); exact (Kd.R_mono (Kd.R_far (p := ⟨gb27, 1, none⟩) (Kd.R_far (p := ⟨gb27, 0, none⟩) (Kd.R_types HO23.out BK27.out (by decide)) (fun _ hk => hk.2) (.slice Ao129 t21.length co129)) (fun _ hk => hk.2) (.slice Ao134 t24.length co134)) (fun _ h_ => h_.1)))); (case side4 => exact (Kd.R_reads' HO23.out).2.1); (case side5 => refine (Kd.S_reads' (e := 137) (base := w.heap.size) (ok := fun k_ => ((some k_ ≠ (.slice Ao129 t21.length co129 : Value).ownBlock ∧ some k_ ≠ (.slice Ao116 t9.length co116 : Value).ownBlock) ∧ some k_ ≠ (.slice Ao117 t12.length co117 : Value).ownBlock)) (n := t24.length) (c := co134) ?_).2.2; exact (by (with_reducible repeat (first | apply Kd.S_alloc | apply Kd.S_drewN | apply Kd.S_drew)); exact (Kd.S_mono (Kd.S_far (p := ⟨gb27, 1, none⟩) (Kd.S_far (p := ⟨gb27, 0, none⟩) (Kd.S_types HO26.out BK27.out (by decide)) (fun _ hk => hk.2) (.slice Ao129 t21.length co129)) (fun _ hk => hk.2) (.slice Ao134 t24.length co134)) (fun _ h_ => h_.1)))); (case side6 => exact (Kd.S_reads' HO26.out).2.1); rintro e w136 ⟨rfl, hb⟩; refine ⟨_, rfl, ?_⟩; have n0_ := Aside0.mk (Kd.S_below (by (with_reducible repeat (first | apply Kd.S_alloc | apply Kd.S_drewN | apply Kd.S_drew)); exact (Kd.S_mono (Kd.S_far (p := ⟨gb27, 1, none⟩) (Kd.S_far (p := ⟨gb27, 0, none⟩) (Kd.S_types HO8.out BK27.out (by decide)) (fun _ hk => hk.2) (.slice Ao129 t21.length co129)) (fun _ hk => hk.2) (.slice Ao134 t24.length co134)) (fun _ h_ => h_.1))) hb); have n1_ := Aside0.mk (Kd.R_below (by (with_reducible repeat (first | apply Kd.R_alloc | apply Kd.R_drewN | apply Kd.R_drew)); exact (Kd.R_mono (Kd.R_far (p := ⟨gb27, 1, none⟩) (Kd.R_far (p := ⟨gb27, 0, none⟩) (Kd.R_types HO11.out BK27.out (by decide)) (fun _ hk => hk.2) (.slice Ao129 t21.length co129)) (fun _ hk => hk.2) (.slice Ao134 t24.length co134)) (fun _ h_ => h_.1))) hb); have n2_ := Aside0.mk (Kd.S_below (by (with_reducible repeat (first | apply Kd.S_alloc | apply Kd.S_drewN | apply Kd.S_drew)); exact (Kd.S_mono (Kd.S_far (p := ⟨gb27, 1, none⟩) (Kd.S_far (p := ⟨gb27, 0, none⟩) (Kd.S_types HO14.out BK27.out (by decide)) (fun _ hk => hk.2) (.slice Ao129 t21.length co129)) (fun _ hk => hk.2) (.slice Ao134 t24.length co134)) (fun _ h_ => h_.1))) hb); have n3_ := Aside0.mk (Kd.S_below (by (with_reducible repeat (first | apply Kd.S_alloc | apply Kd.S_drewN | apply Kd.S_drew)); exact (Kd.S_mono (Kd.S_far (p := ⟨gb27, 1, none⟩) (Kd.S_far (p := ⟨gb27, 0, none⟩) (Kd.S_types HO19.out BK27.out (by decide)) (fun _ hk => hk.2) (.slice Ao129 t21.length co129)) (fun _ hk => hk.2) (.slice Ao134 t24.length co134)) (fun _ h_ => h_.1))) hb); have n4_ := Aside0.mk (Kd.R_below (by (with_reducible repeat (first | apply Kd.R_alloc | apply Kd.R_drewN | apply Kd.R_drew)); exact (Kd.R_mono (Kd.R_far (p := ⟨gb27, 1, none⟩) (Kd.R_far (p := ⟨gb27, 0, none⟩) (Kd.R_types HO23.out BK27.out (by decide)) (fun _ hk => hk.2) (.slice Ao129 t21.length co129)) (fun _ hk => hk.2) (.slice Ao134 t24.length co134)) (fun _ h_ => h_.1))) hb); have n5_ := Aside0.mk (Kd.S_below (by (with_reducible repeat (first | apply Kd.S_alloc | apply Kd.S_drewN | apply Kd.S_drew)); exact (Kd.S_mono (Kd.S_far (p := ⟨gb27, 1, none⟩) (Kd.S_far (p := ⟨gb27, 0, none⟩) (Kd.S_types HO26.out BK27.out (by decide)) (fun _ hk => hk.2) (.slice Ao129 t21.length co129)) (fun _ hk => hk.2) (.slice Ao134 t24.length co134)) (fun _ h_ => h_.1))) hb); have n6_ := Aside0.mk (blk_below (g := gb1) (o := .cells #[.int .i64 a0_0, .slice A0_1 l0_1.length c0_1] 60 (0, 0)) (by (with_reducible repeat (first | refine blk_drewN ?_ _ | refine blk_drew ?_ | refine blk_alloc ?_ _)); refine blk_far ?_ NB1_27.out _; (with_reducible repeat (first | refine blk_drewN ?_ _ | refine blk_drew ?_ | refine blk_alloc ?_ _)); refine blk_far ?_ NB1_27.out _; (with_reducible repeat (first | refine blk_drewN ?_ _ | refine blk_drew ?_ | refine blk_alloc ?_ _)); exact BK1.out) hb); have n7_ := Aside0.mk (blk_below (g := gb2) (o := .cells #[.slice A1_0 l1_0.length c1_0, .slice A1_1 l1_1.length c1_1] 38 (0, 0)) (by (with_reducible repeat (first | refine blk_drewN ?_ _ | refine blk_drew ?_ | refine blk_alloc ?_ _)); refine blk_far ?_ NB2_27.out _; (with_reducible repeat (first | refine blk_drewN ?_ _ | refine blk_drew ?_ | refine blk_alloc ?_ _)); refine blk_far ?_ NB2_27.out _; (with_reducible repeat (first | refine blk_drewN ?_ _ | refine blk_drew ?_ | refine blk_alloc ?_ _)); exact BK2.out) hb); have n8_ := Aside0.mk (blk_below (g := gb20) (o := .cells #[.int .i64 t16, .slice Ao125 t17.length co125] 64 (0, 0)) (by (with_reducible repeat (first | refine blk_drewN ?_ _ | refine blk_drew ?_ | refine blk_alloc ?_ _)); refine blk_far ?_ NB20_27.out _; (with_reducible repeat (first | refine blk_drewN ?_ _ | refine blk_drew ?_ | refine blk_alloc ?_ _)); refine blk_far ?_ NB20_27.out _; (with_reducible repeat (first | refine blk_drewN ?_ _ | refine blk_drew ?_ | refine blk_alloc ?_ _)); exact BK20.out) hb); have n9_ := Aside0.mk (blk_below (g := gb27) (o := .cells #[.slice Ao129 t21.length co129, .slice Ao134 t24.length co134] 46 (0, 0)) (by (with_reducible repeat (first | refine blk_drewN ?_ _ | refine blk_drew ?_ | refine blk_alloc ?_ _)); refine blk_put (cs := #[.slice Ao129 t21.length co129, .slice none 0 0]) ?_ 1 _ rfl; (with_reducible repeat (first | refine blk_drewN ?_ _ | refine blk_drew ?_ | refine blk_alloc ?_ _)); refine blk_put (cs := #[.slice none 0 0, .slice none 0 0]) ?_ 0 _ rfl; (with_reducible repeat (first | refine blk_drewN ?_ _ | refine blk_drew ?_ | refine blk_alloc ?_ _)); exact BK27.out) hb); have n10_ := Aside0.mk (below_step bw_ hb); clear HO8; clear HO11; clear HO14; clear HO19; clear HO23; clear HO26; clear BK1; clear BK2; clear BK20; clear BK27; clear HB; have HO8 := n0_; have HO11 := n1_; have HO14 := n2_; have HO19 := n3_; have HO23 := n4_; have HO26 := n5_; have BK1 := n6_; have BK2 := n7_; have BK20 := n8_; have BK27 := n9_; have HB := n10_; clear n0_ n1_ n2_ n3_ n4_ n5_ n6_ n7_ n8_ n9_ n10_; (try clear hb); (try clear hb2); (try clear hk); (try clear hi)))
 have n0_ := Aside0.mk (Kd.S_drew HO8.out)
 have n1_ := Aside0.mk (Kd.R_drew HO11.out)
 have n2_ := Aside0.mk (Kd.S_drew HO14.out)
 have n3_ := Aside0.mk (Kd.S_drew HO19.out)
 have n4_ := Aside0.mk (Kd.R_drew HO23.out)
 have n5_ := Aside0.mk (Kd.S_drew HO26.out)
 have n6_ := Aside0.mk (blk_drew BK1.out)
 have n7_ := Aside0.mk (blk_drew BK2.out)
 have n8_ := Aside0.mk (blk_drew BK20.out)
 have n9_ := Aside0.mk (blk_drew BK27.out)
 have n10_ := Aside0.mk (below_drew1 HB.out)
 clear HO8
 clear HO11
 clear HO14
 clear HO19
 clear HO23
 clear HO26
 clear BK1
 clear BK2
 clear BK20
 clear BK27
 clear HB
 have HO8 := n0_
 have HO11 := n1_
 have HO14 := n2_
 have HO19 := n3_
 have HO23 := n4_
 have HO26 := n5_
 have BK1 := n6_
 have BK2 := n7_
 have BK20 := n8_
 have BK27 := n9_
 have HB := n10_
 clear n0_ n1_ n2_ n3_ n4_ n5_ n6_ n7_ n8_ n9_ n10_
 refine start_ (n := 5) (S := fun w' => w'.cell? ⟨gb20, 0, none⟩ = some (.int .i64 t16) ∧ w'.cell? ⟨gb20, 1, none⟩ = some (.slice Ao125 t17.length co125) ∧ w'.cell? ⟨gb1, 0, none⟩ = some (.int .i64 a0_0) ∧ w'.cell? ⟨gb1, 1, none⟩ = some (.slice A0_1 l0_1.length c0_1)) (ds := []) #[false, false, false, false, false] (by kernel_rfl) rfl rfl ⟨(blk_cell BK20.out 0).trans rfl, (blk_cell BK20.out 1).trans rfl, (blk_cell BK1.out 0).trans rfl, (blk_cell BK1.out 1).trans rfl⟩ (fun hHeld => ?_)
 generalize w136.drew = w137 at HO8 HO11 HO14 HO19 HO23 HO26 BK1 BK2 BK20 BK27 HB hHeld ⊢
 refine take_ (i := 0) (N := some 35) (v := ?_) (a' := ?_) #[true, false, false, false, false] rfl rfl (by kernel_rfl) (fun _ _ _ h => h) (Or.inl ⟨by rfl, ?_⟩) hHeld ?_ ?_
 rotate_left
 ·rintro w' ⟨s0, s1, s2, s3⟩
  go_simp
  with_reducible rfl
 rotate_left
 ·simp only [Act.put, List.setIfInBounds_toArray, List.set_cons_zero, List.set_cons_succ, i64_w, i32_w]
  rfl
 refine take_ (i := 1) (N := some 36) (v := ?_) (a' := ?_) #[true, true, false, false, false] rfl rfl (by kernel_rfl) (fun _ _ _ h => h) (Or.inl ⟨by rfl, ?_⟩) hHeld ?_ ?_
 rotate_left
 ·rintro w' ⟨s0, s1, s2, s3⟩
  go_simp
  with_reducible rfl
 rotate_left
 ·simp only [Act.put, List.setIfInBounds_toArray, List.set_cons_zero, List.set_cons_succ, i64_w, i32_w]
  rfl
 refine one_ (i := 2) (N := some 37) #[true, true, true, false, false] rfl rfl (by kernel_rfl) (by decide) (fun K hK => ?_)
 refine goes_ Try.func45 (by kernel_rfl) rfl #[.agg #[.int .i64 a0_0, .slice A0_1 l0_1.length c0_1]] (by rfl) rfl rfl ar_ ?_
 with_reducible refine (laws_toProg.calls k a0_0 _ _ l0_1 t29 t30 _ ?side1 ?side2 A58.out).mono ?_
 (case side1 => exact cb_)
 (case side2 => exact HC0_1.out)
 rintro e w138 ⟨v31, rfl, ho0, hb⟩
 refine ⟨_, rfl, ?_⟩
 have n0_ := Aside0.mk (Kd.S_elder' (by (with_reducible repeat (first | apply Kd.S_alloc | apply Kd.S_drewN | apply Kd.S_drew)); exact HO8.out) (Kd.S_base ho0) hb)
 have n1_ := Aside0.mk (Kd.R_below (by (with_reducible repeat (first | apply Kd.R_alloc | apply Kd.R_drewN | apply Kd.R_drew)); exact HO11.out) hb)
 have n2_ := Aside0.mk (Kd.S_below (by (with_reducible repeat (first | apply Kd.S_alloc | apply Kd.S_drewN | apply Kd.S_drew)); exact HO14.out) hb)
 have n3_ := Aside0.mk (Kd.S_elder' (by (with_reducible repeat (first | apply Kd.S_alloc | apply Kd.S_drewN | apply Kd.S_drew)); exact HO19.out) (Kd.S_base ho0) hb)
 have n4_ := Aside0.mk (Kd.R_below (by (with_reducible repeat (first | apply Kd.R_alloc | apply Kd.R_drewN | apply Kd.R_drew)); exact HO23.out) hb)
 have n5_ := Aside0.mk (Kd.S_below (by (with_reducible repeat (first | apply Kd.S_alloc | apply Kd.S_drewN | apply Kd.S_drew)); exact HO26.out) hb)
 have n6_ := Aside0.mk (Kd.S_lower (Kd.S_new' (Kd.S_new' ho0 (Kd.S_lt (by (with_reducible repeat (first | apply Kd.S_alloc | apply Kd.S_drewN | apply Kd.S_drew)); exact HO8.out))) (Kd.S_lt (by (with_reducible repeat (first | apply Kd.S_alloc | apply Kd.S_drewN | apply Kd.S_drew)); exact HO19.out))) (below_size bw_))
 have n7_ := Aside0.mk (blk_below (g := gb1) (o := .cells #[.int .i64 a0_0, .slice A0_1 l0_1.length c0_1] 60 (0, 0)) bk_ hb)
 have n8_ := Aside0.mk (blk_below (g := gb2) (o := .cells #[.slice A1_0 l1_0.length c1_0, .slice A1_1 l1_1.length c1_1] 38 (0, 0)) bk_ hb)
 have n9_ := Aside0.mk (blk_below (g := gb20) (o := .cells #[.int .i64 t16, .slice Ao125 t17.length co125] 64 (0, 0)) bk_ hb)
 have n10_ := Aside0.mk (blk_below (g := gb27) (o := .cells #[.slice Ao129 t21.length co129, .slice Ao134 t24.length co134] 46 (0, 0)) bk_ hb)
 have n11_ := Aside0.mk (below_step bw_ hb)
 clear HO8
 clear HO11
 clear HO14
 clear HO19
 clear HO23
 clear HO26
 clear BK1
 clear BK2
 clear BK20
 clear BK27
 clear HB
 have HO8 := n0_
 have HO11 := n1_
 have HO14 := n2_
 have HO19 := n3_
 have HO23 := n4_
 have HO26 := n5_
 have HO32 := n6_
 have BK1 := n7_
 have BK2 := n8_
 have BK20 := n9_
 have BK27 := n10_
 have HB := n11_
 clear n0_ n1_ n2_ n3_ n4_ n5_ n6_ n7_ n8_ n9_ n10_ n11_
 (try clear hb)
 (try clear hb2)
 (try clear hk)
 (try clear hi)
 (try clear ho0)
 obtain ⟨Ao139, co139, eo139⟩ := Kd.S_slice HO32.out
 (first | subst eo139 | (injection eo139 with f1_ f2_ f3_; have f4_ := f1_.symm; have f5_ := f3_.symm; clear f1_ f2_ f3_; subst f4_; subst f5_))
 refine hK.out _ _ ⟨(blk_cell BK20.out 0).trans rfl, (blk_cell BK20.out 1).trans rfl, (blk_cell BK1.out 0).trans rfl, (blk_cell BK1.out 1).trans rfl⟩ (fun hHeld => ?_)
 clear hK K
 refine norm_ (a' := ?_) ?_ ?_
 rotate_left
 ·show Act.put _ (some 37) _ = _
  simp only [Act.put, List.setIfInBounds_toArray, List.set_cons_zero, List.set_cons_succ, i64_w, i32_w]
  rfl
 refine one_ (i := 3) (N := some 38) #[true, true, true, true, false] rfl rfl (by kernel_rfl) (by decide) (fun K hK => ?_)
 refine goes_ Try.func47 (by kernel_rfl) rfl #[.agg #[.int .i64 t16, .slice Ao125 t17.length co125], .agg #[.int .i64 t29, .slice Ao139 t30.length co139]] (by rfl) rfl rfl ar_ ?_
 with_reducible refine (laws_eqProg.calls k t16 _ _ t17 t29 _ _ t30 true _ ?side1 ?side2 ?side3 ?side4 A59.out).mono ?_
 (case side1 => repeat (first | exact (Kd.S_reads' HO19.out).2.2 | (with_reducible refine Kd.C_alloc ?_ _) | (with_reducible refine Kd.C_drewN ?_ _) | (with_reducible refine Kd.C_drew ?_)))
 (case side2 => exact (Kd.S_reads' HO19.out).2.1)
 (case side3 => repeat (first | exact (Kd.S_reads' HO32.out).2.2 | (with_reducible refine Kd.C_alloc ?_ _) | (with_reducible refine Kd.C_drewN ?_ _) | (with_reducible refine Kd.C_drew ?_)))
 (case side4 => exact (Kd.S_reads' HO32.out).2.1)
 rintro e w140 ⟨rfl, hb⟩
 refine ⟨_, rfl, ?_⟩
 have n0_ := Aside0.mk (Kd.S_below (by (with_reducible repeat (first | apply Kd.S_alloc | apply Kd.S_drewN | apply Kd.S_drew)); exact HO8.out) hb)
 have n1_ := Aside0.mk (Kd.R_below (by (with_reducible repeat (first | apply Kd.R_alloc | apply Kd.R_drewN | apply Kd.R_drew)); exact HO11.out) hb)
 have n2_ := Aside0.mk (Kd.S_below (by (with_reducible repeat (first | apply Kd.S_alloc | apply Kd.S_drewN | apply Kd.S_drew)); exact HO14.out) hb)
 have n3_ := Aside0.mk (Kd.S_below (by (with_reducible repeat (first | apply Kd.S_alloc | apply Kd.S_drewN | apply Kd.S_drew)); exact HO19.out) hb)
 have n4_ := Aside0.mk (Kd.R_below (by (with_reducible repeat (first | apply Kd.R_alloc | apply Kd.R_drewN | apply Kd.R_drew)); exact HO23.out) hb)
 have n5_ := Aside0.mk (Kd.S_below (by (with_reducible repeat (first | apply Kd.S_alloc | apply Kd.S_drewN | apply Kd.S_drew)); exact HO26.out) hb)
 have n6_ := Aside0.mk (Kd.S_below (by (with_reducible repeat (first | apply Kd.S_alloc | apply Kd.S_drewN | apply Kd.S_drew)); exact HO32.out) hb)
 have n7_ := Aside0.mk (blk_below (g := gb1) (o := .cells #[.int .i64 a0_0, .slice A0_1 l0_1.length c0_1] 60 (0, 0)) bk_ hb)
 have n8_ := Aside0.mk (blk_below (g := gb2) (o := .cells #[.slice A1_0 l1_0.length c1_0, .slice A1_1 l1_1.length c1_1] 38 (0, 0)) bk_ hb)
 have n9_ := Aside0.mk (blk_below (g := gb20) (o := .cells #[.int .i64 t16, .slice Ao125 t17.length co125] 64 (0, 0)) bk_ hb)
 have n10_ := Aside0.mk (blk_below (g := gb27) (o := .cells #[.slice Ao129 t21.length co129, .slice Ao134 t24.length co134] 46 (0, 0)) bk_ hb)
 have n11_ := Aside0.mk (below_step bw_ hb)
 clear HO8
 clear HO11
 clear HO14
 clear HO19
 clear HO23
 clear HO26
 clear HO32
 clear BK1
 clear BK2
 clear BK20
 clear BK27
 clear HB
 have HO8 := n0_
 have HO11 := n1_
 have HO14 := n2_
 have HO19 := n3_
 have HO23 := n4_
 have HO26 := n5_
 have HO32 := n6_
 have BK1 := n7_
 have BK2 := n8_
 have BK20 := n9_
 have BK27 := n10_
 have HB := n11_
 clear n0_ n1_ n2_ n3_ n4_ n5_ n6_ n7_ n8_ n9_ n10_ n11_
 (try clear hb)
 (try clear hb2)
 (try clear hk)
 (try clear hi)
 refine hK.out _ _ ⟨(blk_cell BK20.out 0).trans rfl, (blk_cell BK20.out 1).trans rfl, (blk_cell BK1.out 0).trans rfl, (blk_cell BK1.out 1).trans rfl⟩ (fun hHeld => ?_)
 clear hK K
 refine norm_ (a' := ?_) ?_ ?_
 rotate_left
 ·show Act.put _ (some 38) _ = _
  simp only [Act.put, List.setIfInBounds_toArray, List.set_cons_zero, List.set_cons_succ, i64_w, i32_w]
  rfl
 refine pure_ (i := 4) (N := some 39) (v := ?_) (a' := ?_) #[true, true, true, true, true] rfl rfl (by kernel_rfl) (fun _ _ _ h => h) (Or.inl ⟨by rfl, ?_⟩) ?_ ?_
 rotate_left
 ·intro w'
  go_simp
  with_reducible rfl
 rotate_left
 ·simp only [Act.put, List.setIfInBounds_toArray, List.set_cons_zero, List.set_cons_succ, i64_w, i32_w]
  rfl
 refine done_ (by kernel_rfl) ?_
 try go_wp2
 have n0_ := Aside0.mk (Kd.S_drew HO8.out)
 have n1_ := Aside0.mk (Kd.R_drew HO11.out)
 have n2_ := Aside0.mk (Kd.S_drew HO14.out)
 have n3_ := Aside0.mk (Kd.S_drew HO19.out)
 have n4_ := Aside0.mk (Kd.R_drew HO23.out)
 have n5_ := Aside0.mk (Kd.S_drew HO26.out)
 have n6_ := Aside0.mk (Kd.S_drew HO32.out)
 have n7_ := Aside0.mk (blk_drew BK1.out)
 have n8_ := Aside0.mk (blk_drew BK2.out)
 have n9_ := Aside0.mk (blk_drew BK20.out)
 have n10_ := Aside0.mk (blk_drew BK27.out)
 have n11_ := Aside0.mk (below_drew1 HB.out)
 clear HO8
 clear HO11
 clear HO14
 clear HO19
 clear HO23
 clear HO26
 clear HO32
 clear BK1
 clear BK2
 clear BK20
 clear BK27
 clear HB
 have HO8 := n0_
 have HO11 := n1_
 have HO14 := n2_
 have HO19 := n3_
 have HO23 := n4_
 have HO26 := n5_
 have HO32 := n6_
 have BK1 := n7_
 have BK2 := n8_
 have BK20 := n9_
 have BK27 := n10_
 have HB := n11_
 clear n0_ n1_ n2_ n3_ n4_ n5_ n6_ n7_ n8_ n9_ n10_ n11_
 refine start_ (n := 5) (S := fun w' => w'.cell? ⟨gb27, 0, none⟩ = some (.slice Ao129 t21.length co129) ∧ w'.cell? ⟨gb27, 1, none⟩ = some (.slice Ao134 t24.length co134) ∧ w'.cell? ⟨gb2, 0, none⟩ = some (.slice A1_0 l1_0.length c1_0) ∧ w'.cell? ⟨gb2, 1, none⟩ = some (.slice A1_1 l1_1.length c1_1)) (ds := []) #[false, false, false, false, false] (by kernel_rfl) rfl rfl ⟨(blk_cell BK27.out 0).trans rfl, (blk_cell BK27.out 1).trans rfl, (blk_cell BK2.out 0).trans rfl, (blk_cell BK2.out 1).trans rfl⟩ (fun hHeld => ?_)
 generalize w140.drew = w141 at HO8 HO11 HO14 HO19 HO23 HO26 HO32 BK1 BK2 BK20 BK27 HB hHeld ⊢
 refine take_ (i := 0) (N := some 40) (v := ?_) (a' := ?_) #[true, false, false, false, false] rfl rfl (by kernel_rfl) (fun _ _ _ h => h) (Or.inl ⟨by rfl, ?_⟩) hHeld ?_ ?_
 rotate_left
 ·rintro w' ⟨s0, s1, s2, s3⟩
  go_simp
  with_reducible rfl
 rotate_left
 ·simp only [Act.put, List.setIfInBounds_toArray, List.set_cons_zero, List.set_cons_succ, i64_w, i32_w]
  rfl
 refine take_ (i := 1) (N := some 41) (v := ?_) (a' := ?_) #[true, true, false, false, false] rfl rfl (by kernel_rfl) (fun _ _ _ h => h) (Or.inl ⟨by rfl, ?_⟩) hHeld ?_ ?_
 rotate_left
 ·rintro w' ⟨s0, s1, s2, s3⟩
  go_simp
  with_reducible rfl
 rotate_left
 ·simp only [Act.put, List.setIfInBounds_toArray, List.set_cons_zero, List.set_cons_succ, i64_w, i32_w]
  rfl
 refine one_ (i := 2) (N := some 42) #[true, true, true, false, false] rfl rfl (by kernel_rfl) (by decide) (fun K hK => ?_)
 refine goes_ Try.func30 (by kernel_rfl) rfl #[.agg #[.slice A1_0 l1_0.length c1_0, .slice A1_1 l1_1.length c1_1]] (by rfl) rfl rfl ar_ ?_
 with_reducible refine (laws_toMachine.calls k _ _ l1_0 _ _ l1_1 t34 t37 _ ?side1 ?side2 ?side3 ?side4 A61.out).mono ?_
 (case side1 => exact cb_)
 (case side2 => exact HC1_0.out)
 (case side3 => exact cb_)
 (case side4 => exact HC1_1.out)
 rintro e w142 ⟨v35, v38, rfl, ho0, ho1, hb⟩
 refine ⟨_, rfl, ?_⟩
 have n0_ := Aside0.mk (Kd.S_below (by (with_reducible repeat (first | apply Kd.S_alloc | apply Kd.S_drewN | apply Kd.S_drew)); exact HO8.out) hb)
 have n1_ := Aside0.mk (Kd.R_elder' (by (with_reducible repeat (first | apply Kd.R_alloc | apply Kd.R_drewN | apply Kd.R_drew)); exact HO11.out) (Kd.R_base ho0) hb)
 have n2_ := Aside0.mk (Kd.S_mono (Kd.S_told (Kd.S_told (Kd.S_old (by (with_reducible repeat (first | apply Kd.S_alloc | apply Kd.S_drewN | apply Kd.S_drew)); exact HO14.out) hb) (Kd.R_base ho0)) (Kd.S_base ho1)) (fun _ h_ => h_.1))
 have n3_ := Aside0.mk (Kd.S_below (by (with_reducible repeat (first | apply Kd.S_alloc | apply Kd.S_drewN | apply Kd.S_drew)); exact HO19.out) hb)
 have n4_ := Aside0.mk (Kd.R_elder' (by (with_reducible repeat (first | apply Kd.R_alloc | apply Kd.R_drewN | apply Kd.R_drew)); exact HO23.out) (Kd.R_base ho0) hb)
 have n5_ := Aside0.mk (Kd.S_mono (Kd.S_told (Kd.S_told (Kd.S_old (by (with_reducible repeat (first | apply Kd.S_alloc | apply Kd.S_drewN | apply Kd.S_drew)); exact HO26.out) hb) (Kd.R_base ho0)) (Kd.S_base ho1)) (fun _ h_ => h_.1))
 have n6_ := Aside0.mk (Kd.S_below (by (with_reducible repeat (first | apply Kd.S_alloc | apply Kd.S_drewN | apply Kd.S_drew)); exact HO32.out) hb)
 have n7_ := Aside0.mk (Kd.R_lower (Kd.R_new' (Kd.R_new' ho0 (Kd.R_lt (by (with_reducible repeat (first | apply Kd.R_alloc | apply Kd.R_drewN | apply Kd.R_drew)); exact HO11.out))) (Kd.R_lt (by (with_reducible repeat (first | apply Kd.R_alloc | apply Kd.R_drewN | apply Kd.R_drew)); exact HO23.out))) (below_size bw_))
 have n8_ := Aside0.mk (Kd.S_lower (Kd.S_new' (Kd.S_new' (Kd.S_new' (Kd.S_new' ho1 (Kd.R_lt (by (with_reducible repeat (first | apply Kd.R_alloc | apply Kd.R_drewN | apply Kd.R_drew)); exact HO11.out))) (Kd.S_lt (by (with_reducible repeat (first | apply Kd.S_alloc | apply Kd.S_drewN | apply Kd.S_drew)); exact HO14.out))) (Kd.R_lt (by (with_reducible repeat (first | apply Kd.R_alloc | apply Kd.R_drewN | apply Kd.R_drew)); exact HO23.out))) (Kd.S_lt (by (with_reducible repeat (first | apply Kd.S_alloc | apply Kd.S_drewN | apply Kd.S_drew)); exact HO26.out))) (below_size bw_))
 have n9_ := Aside0.mk (blk_below (g := gb1) (o := .cells #[.int .i64 a0_0, .slice A0_1 l0_1.length c0_1] 60 (0, 0)) bk_ hb)
 have n10_ := Aside0.mk (blk_below (g := gb2) (o := .cells #[.slice A1_0 l1_0.length c1_0, .slice A1_1 l1_1.length c1_1] 38 (0, 0)) bk_ hb)
 have n11_ := Aside0.mk (blk_below (g := gb20) (o := .cells #[.int .i64 t16, .slice Ao125 t17.length co125] 64 (0, 0)) bk_ hb)
 have n12_ := Aside0.mk (blk_below (g := gb27) (o := .cells #[.slice Ao129 t21.length co129, .slice Ao134 t24.length co134] 46 (0, 0)) bk_ hb)
 have n13_ := Aside0.mk (below_step bw_ hb)
 clear HO8
 clear HO11
 clear HO14
 clear HO19
 clear HO23
 clear HO26
 clear HO32
 clear BK1
 clear BK2
 clear BK20
 clear BK27
 clear HB
 have HO8 := n0_
 have HO11 := n1_
 have HO14 := n2_
 have HO19 := n3_
 have HO23 := n4_
 have HO26 := n5_
 have HO32 := n6_
 have HO36 := n7_
 have HO39 := n8_
 have BK1 := n9_
 have BK2 := n10_
 have BK20 := n11_
 have BK27 := n12_
 have HB := n13_
 clear n0_ n1_ n2_ n3_ n4_ n5_ n6_ n7_ n8_ n9_ n10_ n11_ n12_ n13_
 (try clear hb)
 (try clear hb2)
 (try clear hk)
 (try clear hi)
 (try clear ho0)
 (try clear ho1)
 obtain ⟨Ao143, co143, eo143⟩ := Kd.R_slice HO36.out
 (first | subst eo143 | (injection eo143 with f1_ f2_ f3_; have f4_ := f1_.symm; have f5_ := f3_.symm; clear f1_ f2_ f3_; subst f4_; subst f5_))
 obtain ⟨Ao144, co144, eo144⟩ := Kd.S_slice HO39.out
 (first | subst eo144 | (injection eo144 with f1_ f2_ f3_; have f4_ := f1_.symm; have f5_ := f3_.symm; clear f1_ f2_ f3_; subst f4_; subst f5_))
 refine hK.out _ _ ⟨(blk_cell BK27.out 0).trans rfl, (blk_cell BK27.out 1).trans rfl, (blk_cell BK2.out 0).trans rfl, (blk_cell BK2.out 1).trans rfl⟩ (fun hHeld => ?_)
 clear hK K
 refine norm_ (a' := ?_) ?_ ?_
 rotate_left
 ·show Act.put _ (some 42) _ = _
  simp only [Act.put, List.setIfInBounds_toArray, List.set_cons_zero, List.set_cons_succ, i64_w, i32_w]
  rfl
 refine one_ (i := 3) (N := some 43) #[true, true, true, true, false] rfl rfl (by kernel_rfl) (by decide) (fun K hK => ?_)
 refine goes_ Try.func33 (by kernel_rfl) rfl #[.agg #[.slice Ao129 t21.length co129, .slice Ao134 t24.length co134], .agg #[.slice Ao143 t34.length co143, .slice Ao144 t37.length co144]] (by rfl) rfl rfl ar_ ?_
 with_reducible refine (laws_eqMachine.calls k _ _ t21 _ _ t24 _ _ t34 _ _ t37 false _ ?side1 ?side2 ?side3 ?side4 ?side5 ?side6 ?side7 ?side8 A62.out).mono ?_
 (case side1 => repeat (first | exact (Kd.R_reads' HO23.out).2.2 | (with_reducible refine Kd.C_alloc ?_ _) | (with_reducible refine Kd.C_drewN ?_ _) | (with_reducible refine Kd.C_drew ?_)))
 (case side2 => exact (Kd.R_reads' HO23.out).2.1)
 (case side3 => repeat (first | exact (Kd.S_reads' HO26.out).2.2 | (with_reducible refine Kd.C_alloc ?_ _) | (with_reducible refine Kd.C_drewN ?_ _) | (with_reducible refine Kd.C_drew ?_)))
 (case side4 => exact (Kd.S_reads' HO26.out).2.1)
 (case side5 => repeat (first | exact (Kd.R_reads' HO36.out).2.2 | (with_reducible refine Kd.C_alloc ?_ _) | (with_reducible refine Kd.C_drewN ?_ _) | (with_reducible refine Kd.C_drew ?_)))
 (case side6 => exact (Kd.R_reads' HO36.out).2.1)
 (case side7 => repeat (first | exact (Kd.S_reads' HO39.out).2.2 | (with_reducible refine Kd.C_alloc ?_ _) | (with_reducible refine Kd.C_drewN ?_ _) | (with_reducible refine Kd.C_drew ?_)))
 (case side8 => exact (Kd.S_reads' HO39.out).2.1)
 rintro e w145 ⟨rfl, hb⟩
 refine ⟨_, rfl, ?_⟩
 have n0_ := Aside0.mk (Kd.S_below (by (with_reducible repeat (first | apply Kd.S_alloc | apply Kd.S_drewN | apply Kd.S_drew)); exact HO8.out) hb)
 have n1_ := Aside0.mk (Kd.R_below (by (with_reducible repeat (first | apply Kd.R_alloc | apply Kd.R_drewN | apply Kd.R_drew)); exact HO11.out) hb)
 have n2_ := Aside0.mk (Kd.S_below (by (with_reducible repeat (first | apply Kd.S_alloc | apply Kd.S_drewN | apply Kd.S_drew)); exact HO14.out) hb)
 have n3_ := Aside0.mk (Kd.S_below (by (with_reducible repeat (first | apply Kd.S_alloc | apply Kd.S_drewN | apply Kd.S_drew)); exact HO19.out) hb)
 have n4_ := Aside0.mk (Kd.R_below (by (with_reducible repeat (first | apply Kd.R_alloc | apply Kd.R_drewN | apply Kd.R_drew)); exact HO23.out) hb)
 have n5_ := Aside0.mk (Kd.S_below (by (with_reducible repeat (first | apply Kd.S_alloc | apply Kd.S_drewN | apply Kd.S_drew)); exact HO26.out) hb)
 have n6_ := Aside0.mk (Kd.S_below (by (with_reducible repeat (first | apply Kd.S_alloc | apply Kd.S_drewN | apply Kd.S_drew)); exact HO32.out) hb)
 have n7_ := Aside0.mk (Kd.R_below (by (with_reducible repeat (first | apply Kd.R_alloc | apply Kd.R_drewN | apply Kd.R_drew)); exact HO36.out) hb)
 have n8_ := Aside0.mk (Kd.S_below (by (with_reducible repeat (first | apply Kd.S_alloc | apply Kd.S_drewN | apply Kd.S_drew)); exact HO39.out) hb)
 have n9_ := Aside0.mk (blk_below (g := gb1) (o := .cells #[.int .i64 a0_0, .slice A0_1 l0_1.length c0_1] 60 (0, 0)) bk_ hb)
 have n10_ := Aside0.mk (blk_below (g := gb2) (o := .cells #[.slice A1_0 l1_0.length c1_0, .slice A1_1 l1_1.length c1_1] 38 (0, 0)) bk_ hb)
 have n11_ := Aside0.mk (blk_below (g := gb20) (o := .cells #[.int .i64 t16, .slice Ao125 t17.length co125] 64 (0, 0)) bk_ hb)
 have n12_ := Aside0.mk (blk_below (g := gb27) (o := .cells #[.slice Ao129 t21.length co129, .slice Ao134 t24.length co134] 46 (0, 0)) bk_ hb)
 have n13_ := Aside0.mk (below_step bw_ hb)
 clear HO8
 clear HO11
 clear HO14
 clear HO19
 clear HO23
 clear HO26
 clear HO32
 clear HO36
 clear HO39
 clear BK1
 clear BK2
 clear BK20
 clear BK27
 clear HB
 have HO8 := n0_
 have HO11 := n1_
 have HO14 := n2_
 have HO19 := n3_
 have HO23 := n4_
 have HO26 := n5_
 have HO32 := n6_
 have HO36 := n7_
 have HO39 := n8_
 have BK1 := n9_
 have BK2 := n10_
 have BK20 := n11_
 have BK27 := n12_
 have HB := n13_
 clear n0_ n1_ n2_ n3_ n4_ n5_ n6_ n7_ n8_ n9_ n10_ n11_ n12_ n13_
 (try clear hb)
 (try clear hb2)
 (try clear hk)
 (try clear hi)
 refine hK.out _ _ ⟨(blk_cell BK27.out 0).trans rfl, (blk_cell BK27.out 1).trans rfl, (blk_cell BK2.out 0).trans rfl, (blk_cell BK2.out 1).trans rfl⟩ (fun hHeld => ?_)
 clear hK K
 refine norm_ (a' := ?_) ?_ ?_
 rotate_left
 ·show Act.put _ (some 43) _ = _
  simp only [Act.put, List.setIfInBounds_toArray, List.set_cons_zero, List.set_cons_succ, i64_w, i32_w]
  rfl
 refine pure_ (i := 4) (N := some 44) (v := ?_) (a' := ?_) #[true, true, true, true, true] rfl rfl (by kernel_rfl) (fun _ _ _ h => h) (Or.inl ⟨by rfl, ?_⟩) ?_ ?_
 rotate_left
 ·intro w'
  go_simp
  with_reducible rfl
 rotate_left
 ·simp only [Act.put, List.setIfInBounds_toArray, List.set_cons_zero, List.set_cons_succ, i64_w, i32_w]
  rfl
 refine done_ (by kernel_rfl) ?_
 try go_wp2
 go_ret
 exact ⟨rr_, bw_⟩

end Go.Proofs.Ytpcfcdnmpginhaa.P
