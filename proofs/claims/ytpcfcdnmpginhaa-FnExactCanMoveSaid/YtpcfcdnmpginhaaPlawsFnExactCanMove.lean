-- Written by mp.py (the session's own driver over the kit's printer) for the seat Ytpcfcdnmpginhaa.
import Derived.Test.YtpcfcdnmpginhaaK
import Derived.Test.YtpcfcdnmpginhaaE
import Derived.Test.YtpcfcdnmpginhaaPimplCanMove
import Derived.Test.YtpcfcdnmpginhaaPlawseqInstrSS
import Derived.Test.YtpcfcdnmpginhaaPlawseqThreadS
import Derived.Test.YtpcfcdnmpginhaaPlawsszInstrSS
import Derived.Test.YtpcfcdnmpginhaaPlawsszMem
import Derived.Test.YtpcfcdnmpginhaaPlawstoThread
import Derived.Test.YtpcfcdnmpginhaaPspecCanMove
namespace Go.Proofs.Ytpcfcdnmpginhaa.P
open Go.RowKit Go.Proofs.YtpcfcdnmpginhaaW.PrintWords Go.Proofs.YtpcfcdnmpginhaaW.PrintLast Go.Proofs.YtpcfcdnmpginhaaW.PrintMore
attribute [local go_sem] max2_int min2_int max_two min_two max_three min_three max_four min_four
set_option linter.unusedVariables false
set_option linter.unusedSimpArgs false

/-! ### laws_FnExactCanMove: function 14 -/
def laws_FnExactCanMove.f (k : Nat) (a0_0 : Int) (l0_1 : List (List (S176))) (l1_0 : List Int) (l1_1 : List (S205)) (a2_0 : Int) (a2_1 : Bool) : Option (Bool) := (laws_szProg.f k a0_0 l0_1 1048576).bind fun t4 => (if t4 < 0 then (some true) else ((laws_szMachine.f k l1_0 l1_1 t4).bind fun t5 => (if t5 < 0 then (some true) else ((laws_toProg.f k a0_0 l0_1).bind fun bt6 => ((laws_toMachine.f k l1_0 l1_1).bind fun bt10 => ((laws_toMove.f a2_0 a2_1).bind fun bt16 => ((spec_CanMove.f k bt6.1 bt6.2 bt10.1 bt10.2 bt16.1 bt16.2).bind fun t18 => ((laws_toProg.f k a0_0 l0_1).bind fun bt19 => ((laws_toMachine.f k l1_0 l1_1).bind fun bt24 => ((laws_toMove.f a2_0 a2_1).bind fun bt31 => ((impl_CanMove.f k bt19.1 bt19.2 bt24.1 bt24.2 bt31.1 bt31.2).bind fun t33 => (if (t33 != t18) = true then (some false) else ((laws_toProg.f k a0_0 l0_1).bind fun bt34 => ((laws_eqProg.f k bt19.1 bt19.2 bt34.1 bt34.2).bind fun t38 => (if t38 = true then ((laws_toMachine.f k l1_0 l1_1).bind fun bt39 => ((laws_eqMachine.f k bt24.1 bt24.2 bt39.1 bt39.2).bind fun t45 => (if t45 = true then (some true) else (some false)))) else (some false))))))))))))))))
theorem laws_FnExactCanMove.mono : ∀ a0 a1 a2 a3 a4 a5 k, LeO (laws_FnExactCanMove.f k a0 a1 a2 a3 a4 a5) (laws_FnExactCanMove.f (k + 1) a0 a1 a2 a3 a4 a5) := by
 intro a0 a1 a2 a3 a4 a5 k
 unfold laws_FnExactCanMove.f
 repeat' first
   | (with_reducible exact impl_CanMove.mono _ _ _ _ _ _ _)
   | (with_reducible exact laws_eqMachine.mono _ _ _ _ _)
   | (with_reducible exact laws_eqProg.mono _ _ _ _ _)
   | (with_reducible exact laws_szMachine.mono _ _ _ _)
   | (with_reducible exact laws_szProg.mono _ _ _ _)
   | (with_reducible exact laws_toMachine.mono _ _ _)
   | (with_reducible exact laws_toProg.mono _ _ _)
   | (with_reducible exact spec_CanMove.mono _ _ _ _ _ _ _)
   | (with_reducible exact LeO.refl _)
   | (with_reducible exact LeO.none _)
   | (with_reducible refine LeO.ite ?_ ?_)
   | (with_reducible refine LeO.bind ?_ (fun _ => ?_))
   | exact impl_CanMove.mono _ _ _ _ _ _ _
   | exact laws_eqMachine.mono _ _ _ _ _
   | exact laws_eqProg.mono _ _ _ _ _
   | exact laws_szMachine.mono _ _ _ _
   | exact laws_szProg.mono _ _ _ _
   | exact laws_toMachine.mono _ _ _
   | exact laws_toProg.mono _ _ _
   | exact spec_CanMove.mono _ _ _ _ _ _ _
   | exact LeO.none _
   | refine LeO.ite ?_ ?_
   | refine LeO.bind ?_ (fun _ => ?_)
def laws_FnExactCanMove.T8 : Bool × List (List Nat × List Nat) := (true, [([], []), ([0], [0]), ([], []), ([2, 1], [2]), ([], []), ([4, 3], [4]), ([1, 3, 5, 5], [1, 3, 5]), ([6, 6, 0, 1, 2, 3, 4, 5, 6], [6])])
def laws_FnExactCanMove.B8 : List Nat := [0, 1, 0, 7, 0, 31, 63, 127]
theorem laws_FnExactCanMove.tab8 : rtab .any (opsOf Try.f14 8) = laws_FnExactCanMove.T8 := by kernel_rfl
theorem laws_FnExactCanMove.bits8 : waitsOk laws_FnExactCanMove.T8.2 laws_FnExactCanMove.B8 = true := by kernel_rfl
set_option maxHeartbeats 8000000 in
set_option maxRecDepth 100000 in
theorem laws_FnExactCanMove.calls (k : Nat) (a0_0 : Int) (A0_1 : Option Addr) (c0_1 : Nat) (l0_1 : List (List (S176))) (A1_0 : Option Addr) (c1_0 : Nat) (l1_0 : List Int) (A1_1 : Option Addr) (c1_1 : Nat) (l1_1 : List (S205)) (a2_0 : Int) (a2_1 : Bool) (r : Bool) (w : World) (hr0_1 : Kd.C (Kd.slice 176 k176) w A0_1 l0_1.length l0_1) (hc0_1 : l0_1.length ≤ c0_1) (hr1_0 : Kd.C (Kd.int .i64) w A1_0 l1_0.length l1_0) (hc1_0 : l1_0.length ≤ c1_0) (hr1_1 : Kd.C k205 w A1_1 l1_1.length l1_1) (hc1_1 : l1_1.length ≤ c1_1) (h : laws_FnExactCanMove.f k a0_0 l0_1 l1_0 l1_1 a2_0 a2_1 = some r) :
  Calls Try.prog 14 #[.agg #[.int .i64 a0_0, .slice A0_1 l0_1.length c0_1], .agg #[.slice A1_0 l1_0.length c1_0, .slice A1_1 l1_1.length c1_1], .agg #[.int .i64 a2_0, .bool a2_1]] w fun e w' => e = .returned (.bool r) ∧ Below w.heap.size w w' := by
 have hu60 := Try.underlying60
 have hu38 := Try.underlying38
 have hu86 := Try.underlying86
 have hu64 := Try.underlying64
 have hu46 := Try.underlying46
 have HR0_1 := Aside0.mk hr0_1
 have HC0_1 := Aside0.mk hc0_1
 clear hr0_1 hc0_1
 have HR1_0 := Aside0.mk hr1_0
 have HC1_0 := Aside0.mk hc1_0
 clear hr1_0 hc1_0
 have HR1_1 := Aside0.mk hr1_1
 have HC1_1 := Aside0.mk hc1_1
 clear hr1_1 hc1_1
 have HB := Aside0.mk (Below.refl w.heap.size w)
 have H : ((laws_szProg.f k a0_0 l0_1 1048576).bind fun t4 => (if t4 < 0 then (some true) else ((laws_szMachine.f k l1_0 l1_1 t4).bind fun t5 => (if t5 < 0 then (some true) else ((laws_toProg.f k a0_0 l0_1).bind fun bt6 => ((laws_toMachine.f k l1_0 l1_1).bind fun bt10 => ((laws_toMove.f a2_0 a2_1).bind fun bt16 => ((spec_CanMove.f k bt6.1 bt6.2 bt10.1 bt10.2 bt16.1 bt16.2).bind fun t18 => ((laws_toProg.f k a0_0 l0_1).bind fun bt19 => ((laws_toMachine.f k l1_0 l1_1).bind fun bt24 => ((laws_toMove.f a2_0 a2_1).bind fun bt31 => ((impl_CanMove.f k bt19.1 bt19.2 bt24.1 bt24.2 bt31.1 bt31.2).bind fun t33 => (if (t33 != t18) = true then (some false) else ((laws_toProg.f k a0_0 l0_1).bind fun bt34 => ((laws_eqProg.f k bt19.1 bt19.2 bt34.1 bt34.2).bind fun t38 => (if t38 = true then ((laws_toMachine.f k l1_0 l1_1).bind fun bt39 => ((laws_eqMachine.f k bt24.1 bt24.2 bt39.1 bt39.2).bind fun t45 => (if t45 = true then (some true) else (some false)))) else (some false))))))))))))))))) = some r := h
 clear h
 replace H := Option.bind_eq_some_iff.mp H
 obtain ⟨t4, A40, H⟩ := H
 replace H : (if t4 < 0 then (some true) else ((laws_szMachine.f k l1_0 l1_1 t4).bind fun t5 => (if t5 < 0 then (some true) else ((laws_toProg.f k a0_0 l0_1).bind fun bt6 => ((laws_toMachine.f k l1_0 l1_1).bind fun bt10 => ((laws_toMove.f a2_0 a2_1).bind fun bt16 => ((spec_CanMove.f k bt6.1 bt6.2 bt10.1 bt10.2 bt16.1 bt16.2).bind fun t18 => ((laws_toProg.f k a0_0 l0_1).bind fun bt19 => ((laws_toMachine.f k l1_0 l1_1).bind fun bt24 => ((laws_toMove.f a2_0 a2_1).bind fun bt31 => ((impl_CanMove.f k bt19.1 bt19.2 bt24.1 bt24.2 bt31.1 bt31.2).bind fun t33 => (if (t33 != t18) = true then (some false) else ((laws_toProg.f k a0_0 l0_1).bind fun bt34 => ((laws_eqProg.f k bt19.1 bt19.2 bt34.1 bt34.2).bind fun t38 => (if t38 = true then ((laws_toMachine.f k l1_0 l1_1).bind fun bt39 => ((laws_eqMachine.f k bt24.1 bt24.2 bt39.1 bt39.2).bind fun t45 => (if t45 = true then (some true) else (some false)))) else (some false)))))))))))))))) = some r := H
 have A4 := Aside0.mk A40
 clear A40
 by_cases c5 : t4 < 0
 ·rw [if_pos c5] at H
  have c5b0 : decide (t4 < 0) = true := decide_eq_true c5
  clear c5
  obtain rfl := Option.some.inj H
  go_enter Try.func14, Try.ntmps14
  go_wp2_with (first | ((with_reducible refine gate_dst (N := 3) rfl ?_); refine box_event ?hg (N := 3) ?hd (cs := #[.int .i64 a0_0, .slice A0_1 l0_1.length c0_1]) (t := 60) ?hr ?_; (case hd => rfl); (case hg => rfl); (case hr => first | (go_simp; done) | (go_simp; rfl)); intro gb1 hg w6 hbox hb; have n0_ := Aside0.mk (below_step bw_ hb); have n1_ := Aside0.mk (hbox); have n2_ := Aside0.mk ((by rw [hg]; exact (below_size bw_) : w.heap.size ≤ gb1)); have n3_ := Aside0.mk ((by rw [hg]; exact (below_size bw_) : w.heap.size ≤ gb1)); clear HB; have HB := n0_; have BK1 := n1_; have GW1 := n2_; have GE1 := n3_; clear n0_ n1_ n2_ n3_; clear hb hbox hg) | ((with_reducible refine gate_dst (N := 4) rfl ?_); refine box_event ?hg (N := 4) ?hd (cs := #[.slice A1_0 l1_0.length c1_0, .slice A1_1 l1_1.length c1_1]) (t := 38) ?hr ?_; (case hd => rfl); (case hg => rfl); (case hr => first | (go_simp; done) | (go_simp; rfl)); intro gb2 hg w7 hbox hb; have n0_ := Aside0.mk (blk_below (g := gb1) (o := .cells #[.int .i64 a0_0, .slice A0_1 l0_1.length c0_1] 60 (0, 0)) bk_ hb); have n1_ := Aside0.mk (below_step bw_ hb); have n2_ := Aside0.mk (hbox); have n3_ := Aside0.mk ((by rw [hg]; exact (below_size bw_) : w.heap.size ≤ gb2)); have n4_ := Aside0.mk ((by rw [hg]; exact (below_size bw_) : w.heap.size ≤ gb2)); have n5_ := Aside0.mk ((by rw [hg]; exact Nat.ne_of_lt (blk_lt (g := gb1) (o := .cells #[.int .i64 a0_0, .slice A0_1 l0_1.length c0_1] 60 (0, 0)) bk_) : gb1 ≠ gb2)); have n6_ := Aside0.mk ((by rw [hg]; exact Nat.ne_of_gt (blk_lt (g := gb1) (o := .cells #[.int .i64 a0_0, .slice A0_1 l0_1.length c0_1] 60 (0, 0)) bk_) : gb2 ≠ gb1)); clear BK1; clear HB; have BK1 := n0_; have HB := n1_; have BK2 := n2_; have GW2 := n3_; have GE2 := n4_; have NB1_2 := n5_; have NB2_1 := n6_; clear n0_ n1_ n2_ n3_ n4_ n5_ n6_; clear hb hbox hg) | ((with_reducible refine gate_dst (N := 5) rfl ?_); refine box_event ?hg (N := 5) ?hd (cs := #[.int .i64 a2_0, .bool a2_1]) (t := 86) ?hr ?_; (case hd => rfl); (case hg => rfl); (case hr => first | (go_simp; done) | (go_simp; rfl)); intro gb3 hg w8 hbox hb; have n0_ := Aside0.mk (blk_below (g := gb1) (o := .cells #[.int .i64 a0_0, .slice A0_1 l0_1.length c0_1] 60 (0, 0)) bk_ hb); have n1_ := Aside0.mk (blk_below (g := gb2) (o := .cells #[.slice A1_0 l1_0.length c1_0, .slice A1_1 l1_1.length c1_1] 38 (0, 0)) bk_ hb); have n2_ := Aside0.mk (below_step bw_ hb); have n3_ := Aside0.mk (hbox); have n4_ := Aside0.mk ((by rw [hg]; exact (below_size bw_) : w.heap.size ≤ gb3)); have n5_ := Aside0.mk ((by rw [hg]; exact (below_size bw_) : w.heap.size ≤ gb3)); have n6_ := Aside0.mk ((by rw [hg]; exact Nat.ne_of_lt (blk_lt (g := gb1) (o := .cells #[.int .i64 a0_0, .slice A0_1 l0_1.length c0_1] 60 (0, 0)) bk_) : gb1 ≠ gb3)); have n7_ := Aside0.mk ((by rw [hg]; exact Nat.ne_of_gt (blk_lt (g := gb1) (o := .cells #[.int .i64 a0_0, .slice A0_1 l0_1.length c0_1] 60 (0, 0)) bk_) : gb3 ≠ gb1)); have n8_ := Aside0.mk ((by rw [hg]; exact Nat.ne_of_lt (blk_lt (g := gb2) (o := .cells #[.slice A1_0 l1_0.length c1_0, .slice A1_1 l1_1.length c1_1] 38 (0, 0)) bk_) : gb2 ≠ gb3)); have n9_ := Aside0.mk ((by rw [hg]; exact Nat.ne_of_gt (blk_lt (g := gb2) (o := .cells #[.slice A1_0 l1_0.length c1_0, .slice A1_1 l1_1.length c1_1] 38 (0, 0)) bk_) : gb3 ≠ gb2)); clear BK1; clear BK2; clear HB; have BK1 := n0_; have BK2 := n1_; have HB := n2_; have BK3 := n3_; have GW3 := n4_; have GE3 := n5_; have NB1_3 := n6_; have NB3_1 := n7_; have NB2_3 := n8_; have NB3_2 := n9_; clear n0_ n1_ n2_ n3_ n4_ n5_ n6_ n7_ n8_ n9_; clear hb hbox hg; have hnb9 := NB1_2.out; have hnc9 := NB2_1.out; have hnb10 := NB1_3.out; have hnc10 := NB3_1.out; have hcz11_0 := (blk_cell BK1.out 0).trans rfl; have hcz11_1 := (blk_cell BK1.out 1).trans rfl; have hfz11_0 := blk_frozen BK1.out 0; have hfz11_1 := blk_frozen BK1.out 1) | ((with_reducible refine gate_callee (f := 43) rfl ?_); refine goesL_ (some 14) rfl rfl Try.func43 (by kernel_rfl) rfl #[.agg #[.int .i64 a0_0, .slice A0_1 l0_1.length c0_1], .int .i64 1048576] rfl ar_ ?_; (with_reducible refine (laws_szProg.calls k a0_0 _ _ l0_1 1048576 t4 _ ?side1 ?side2 A4.out).mono ?_); (case side1 => exact cb_); (case side2 => exact HC0_1.out); rintro e w12 ⟨rfl, hb⟩; refine ⟨_, rfl, ?_⟩; have n0_ := Aside0.mk (blk_below (g := gb1) (o := .cells #[.int .i64 a0_0, .slice A0_1 l0_1.length c0_1] 60 (0, 0)) bk_ hb); have n1_ := Aside0.mk (blk_below (g := gb2) (o := .cells #[.slice A1_0 l1_0.length c1_0, .slice A1_1 l1_1.length c1_1] 38 (0, 0)) bk_ hb); have n2_ := Aside0.mk (blk_below (g := gb3) (o := .cells #[.int .i64 a2_0, .bool a2_1] 86 (0, 0)) bk_ hb); have n3_ := Aside0.mk (below_step bw_ hb); clear BK1; clear BK2; clear BK3; clear HB; have BK1 := n0_; have BK2 := n1_; have BK3 := n2_; have HB := n3_; clear n0_ n1_ n2_ n3_; (try clear hb); (try clear hb2); (try clear hk); (try clear hi)))
  go_ret
  exact ⟨rr_, bw_⟩
 rw [if_neg c5] at H
 have c5b0 : decide (t4 < 0) = false := decide_eq_false c5
 clear c5
 replace H := Option.bind_eq_some_iff.mp H
 obtain ⟨t5, A130, H⟩ := H
 replace H : (if t5 < 0 then (some true) else ((laws_toProg.f k a0_0 l0_1).bind fun bt6 => ((laws_toMachine.f k l1_0 l1_1).bind fun bt10 => ((laws_toMove.f a2_0 a2_1).bind fun bt16 => ((spec_CanMove.f k bt6.1 bt6.2 bt10.1 bt10.2 bt16.1 bt16.2).bind fun t18 => ((laws_toProg.f k a0_0 l0_1).bind fun bt19 => ((laws_toMachine.f k l1_0 l1_1).bind fun bt24 => ((laws_toMove.f a2_0 a2_1).bind fun bt31 => ((impl_CanMove.f k bt19.1 bt19.2 bt24.1 bt24.2 bt31.1 bt31.2).bind fun t33 => (if (t33 != t18) = true then (some false) else ((laws_toProg.f k a0_0 l0_1).bind fun bt34 => ((laws_eqProg.f k bt19.1 bt19.2 bt34.1 bt34.2).bind fun t38 => (if t38 = true then ((laws_toMachine.f k l1_0 l1_1).bind fun bt39 => ((laws_eqMachine.f k bt24.1 bt24.2 bt39.1 bt39.2).bind fun t45 => (if t45 = true then (some true) else (some false)))) else (some false)))))))))))))) = some r := H
 have A13 := Aside0.mk A130
 clear A130
 by_cases c14 : t5 < 0
 ·rw [if_pos c14] at H
  have c14b0 : decide (t5 < 0) = true := decide_eq_true c14
  clear c14
  obtain rfl := Option.some.inj H
  go_enter Try.func14, Try.ntmps14
  go_wp2_with (first | ((with_reducible refine gate_dst (N := 3) rfl ?_); refine box_event ?hg (N := 3) ?hd (cs := #[.int .i64 a0_0, .slice A0_1 l0_1.length c0_1]) (t := 60) ?hr ?_; (case hd => rfl); (case hg => rfl); (case hr => first | (go_simp; done) | (go_simp; rfl)); intro gb1 hg w15 hbox hb; have n0_ := Aside0.mk (below_step bw_ hb); have n1_ := Aside0.mk (hbox); have n2_ := Aside0.mk ((by rw [hg]; exact (below_size bw_) : w.heap.size ≤ gb1)); have n3_ := Aside0.mk ((by rw [hg]; exact (below_size bw_) : w.heap.size ≤ gb1)); clear HB; have HB := n0_; have BK1 := n1_; have GW1 := n2_; have GE1 := n3_; clear n0_ n1_ n2_ n3_; clear hb hbox hg) | ((with_reducible refine gate_dst (N := 4) rfl ?_); refine box_event ?hg (N := 4) ?hd (cs := #[.slice A1_0 l1_0.length c1_0, .slice A1_1 l1_1.length c1_1]) (t := 38) ?hr ?_; (case hd => rfl); (case hg => rfl); (case hr => first | (go_simp; done) | (go_simp; rfl)); intro gb2 hg w16 hbox hb; have n0_ := Aside0.mk (blk_below (g := gb1) (o := .cells #[.int .i64 a0_0, .slice A0_1 l0_1.length c0_1] 60 (0, 0)) bk_ hb); have n1_ := Aside0.mk (below_step bw_ hb); have n2_ := Aside0.mk (hbox); have n3_ := Aside0.mk ((by rw [hg]; exact (below_size bw_) : w.heap.size ≤ gb2)); have n4_ := Aside0.mk ((by rw [hg]; exact (below_size bw_) : w.heap.size ≤ gb2)); have n5_ := Aside0.mk ((by rw [hg]; exact Nat.ne_of_lt (blk_lt (g := gb1) (o := .cells #[.int .i64 a0_0, .slice A0_1 l0_1.length c0_1] 60 (0, 0)) bk_) : gb1 ≠ gb2)); have n6_ := Aside0.mk ((by rw [hg]; exact Nat.ne_of_gt (blk_lt (g := gb1) (o := .cells #[.int .i64 a0_0, .slice A0_1 l0_1.length c0_1] 60 (0, 0)) bk_) : gb2 ≠ gb1)); clear BK1; clear HB; have BK1 := n0_; have HB := n1_; have BK2 := n2_; have GW2 := n3_; have GE2 := n4_; have NB1_2 := n5_; have NB2_1 := n6_; clear n0_ n1_ n2_ n3_ n4_ n5_ n6_; clear hb hbox hg) | ((with_reducible refine gate_dst (N := 5) rfl ?_); refine box_event ?hg (N := 5) ?hd (cs := #[.int .i64 a2_0, .bool a2_1]) (t := 86) ?hr ?_; (case hd => rfl); (case hg => rfl); (case hr => first | (go_simp; done) | (go_simp; rfl)); intro gb3 hg w17 hbox hb; have n0_ := Aside0.mk (blk_below (g := gb1) (o := .cells #[.int .i64 a0_0, .slice A0_1 l0_1.length c0_1] 60 (0, 0)) bk_ hb); have n1_ := Aside0.mk (blk_below (g := gb2) (o := .cells #[.slice A1_0 l1_0.length c1_0, .slice A1_1 l1_1.length c1_1] 38 (0, 0)) bk_ hb); have n2_ := Aside0.mk (below_step bw_ hb); have n3_ := Aside0.mk (hbox); have n4_ := Aside0.mk ((by rw [hg]; exact (below_size bw_) : w.heap.size ≤ gb3)); have n5_ := Aside0.mk ((by rw [hg]; exact (below_size bw_) : w.heap.size ≤ gb3)); have n6_ := Aside0.mk ((by rw [hg]; exact Nat.ne_of_lt (blk_lt (g := gb1) (o := .cells #[.int .i64 a0_0, .slice A0_1 l0_1.length c0_1] 60 (0, 0)) bk_) : gb1 ≠ gb3)); have n7_ := Aside0.mk ((by rw [hg]; exact Nat.ne_of_gt (blk_lt (g := gb1) (o := .cells #[.int .i64 a0_0, .slice A0_1 l0_1.length c0_1] 60 (0, 0)) bk_) : gb3 ≠ gb1)); have n8_ := Aside0.mk ((by rw [hg]; exact Nat.ne_of_lt (blk_lt (g := gb2) (o := .cells #[.slice A1_0 l1_0.length c1_0, .slice A1_1 l1_1.length c1_1] 38 (0, 0)) bk_) : gb2 ≠ gb3)); have n9_ := Aside0.mk ((by rw [hg]; exact Nat.ne_of_gt (blk_lt (g := gb2) (o := .cells #[.slice A1_0 l1_0.length c1_0, .slice A1_1 l1_1.length c1_1] 38 (0, 0)) bk_) : gb3 ≠ gb2)); clear BK1; clear BK2; clear HB; have BK1 := n0_; have BK2 := n1_; have HB := n2_; have BK3 := n3_; have GW3 := n4_; have GE3 := n5_; have NB1_3 := n6_; have NB3_1 := n7_; have NB2_3 := n8_; have NB3_2 := n9_; clear n0_ n1_ n2_ n3_ n4_ n5_ n6_ n7_ n8_ n9_; clear hb hbox hg; have hnb18 := NB1_2.out; have hnc18 := NB2_1.out; have hnb19 := NB1_3.out; have hnc19 := NB3_1.out; have hcz20_0 := (blk_cell BK1.out 0).trans rfl; have hcz20_1 := (blk_cell BK1.out 1).trans rfl; have hfz20_0 := blk_frozen BK1.out 0; have hfz20_1 := blk_frozen BK1.out 1) | ((with_reducible refine gate_callee (f := 43) rfl ?_); refine goesL_ (some 14) rfl rfl Try.func43 (by kernel_rfl) rfl #[.agg #[.int .i64 a0_0, .slice A0_1 l0_1.length c0_1], .int .i64 1048576] rfl ar_ ?_; (with_reducible refine (laws_szProg.calls k a0_0 _ _ l0_1 1048576 t4 _ ?side1 ?side2 A4.out).mono ?_); (case side1 => exact cb_); (case side2 => exact HC0_1.out); rintro e w21 ⟨rfl, hb⟩; refine ⟨_, rfl, ?_⟩; have n0_ := Aside0.mk (blk_below (g := gb1) (o := .cells #[.int .i64 a0_0, .slice A0_1 l0_1.length c0_1] 60 (0, 0)) bk_ hb); have n1_ := Aside0.mk (blk_below (g := gb2) (o := .cells #[.slice A1_0 l1_0.length c1_0, .slice A1_1 l1_1.length c1_1] 38 (0, 0)) bk_ hb); have n2_ := Aside0.mk (blk_below (g := gb3) (o := .cells #[.int .i64 a2_0, .bool a2_1] 86 (0, 0)) bk_ hb); have n3_ := Aside0.mk (below_step bw_ hb); clear BK1; clear BK2; clear BK3; clear HB; have BK1 := n0_; have BK2 := n1_; have BK3 := n2_; have HB := n3_; clear n0_ n1_ n2_ n3_; (try clear hb); (try clear hb2); (try clear hk); (try clear hi); have hnb22 := NB2_3.out; have hnc22 := NB3_2.out; have hcz23_0 := (blk_cell BK2.out 0).trans rfl; have hcz23_1 := (blk_cell BK2.out 1).trans rfl; have hfz23_0 := blk_frozen BK2.out 0; have hfz23_1 := blk_frozen BK2.out 1) | ((with_reducible refine gate_callee (f := 27) rfl ?_); refine goesL_ (some 19) rfl rfl Try.func27 (by kernel_rfl) rfl #[.agg #[.slice A1_0 l1_0.length c1_0, .slice A1_1 l1_1.length c1_1], .int .i64 t4] rfl ar_ ?_; (with_reducible refine (laws_szMachine.calls k _ _ l1_0 _ _ l1_1 t4 t5 _ ?side1 ?side2 ?side3 ?side4 A13.out).mono ?_); (case side1 => exact cb_); (case side2 => exact HC1_0.out); (case side3 => exact cb_); (case side4 => exact HC1_1.out); rintro e w24 ⟨rfl, hb⟩; refine ⟨_, rfl, ?_⟩; have n0_ := Aside0.mk (blk_below (g := gb1) (o := .cells #[.int .i64 a0_0, .slice A0_1 l0_1.length c0_1] 60 (0, 0)) bk_ hb); have n1_ := Aside0.mk (blk_below (g := gb2) (o := .cells #[.slice A1_0 l1_0.length c1_0, .slice A1_1 l1_1.length c1_1] 38 (0, 0)) bk_ hb); have n2_ := Aside0.mk (blk_below (g := gb3) (o := .cells #[.int .i64 a2_0, .bool a2_1] 86 (0, 0)) bk_ hb); have n3_ := Aside0.mk (below_step bw_ hb); clear BK1; clear BK2; clear BK3; clear HB; have BK1 := n0_; have BK2 := n1_; have BK3 := n2_; have HB := n3_; clear n0_ n1_ n2_ n3_; (try clear hb); (try clear hb2); (try clear hk); (try clear hi)))
  go_ret
  exact ⟨rr_, bw_⟩
 rw [if_neg c14] at H
 have c14b0 : decide (t5 < 0) = false := decide_eq_false c14
 clear c14
 replace H := Option.bind_eq_some_iff.mp H
 obtain ⟨⟨t6, t7⟩, A250, H⟩ := H
 replace H : ((laws_toMachine.f k l1_0 l1_1).bind fun bt10 => ((laws_toMove.f a2_0 a2_1).bind fun bt16 => ((spec_CanMove.f k t6 t7 bt10.1 bt10.2 bt16.1 bt16.2).bind fun t18 => ((laws_toProg.f k a0_0 l0_1).bind fun bt19 => ((laws_toMachine.f k l1_0 l1_1).bind fun bt24 => ((laws_toMove.f a2_0 a2_1).bind fun bt31 => ((impl_CanMove.f k bt19.1 bt19.2 bt24.1 bt24.2 bt31.1 bt31.2).bind fun t33 => (if (t33 != t18) = true then (some false) else ((laws_toProg.f k a0_0 l0_1).bind fun bt34 => ((laws_eqProg.f k bt19.1 bt19.2 bt34.1 bt34.2).bind fun t38 => (if t38 = true then ((laws_toMachine.f k l1_0 l1_1).bind fun bt39 => ((laws_eqMachine.f k bt24.1 bt24.2 bt39.1 bt39.2).bind fun t45 => (if t45 = true then (some true) else (some false)))) else (some false)))))))))))) = some r := H
 have A25 := Aside0.mk A250
 clear A250
 replace H := Option.bind_eq_some_iff.mp H
 obtain ⟨⟨t10, t13⟩, A260, H⟩ := H
 replace H : ((laws_toMove.f a2_0 a2_1).bind fun bt16 => ((spec_CanMove.f k t6 t7 t10 t13 bt16.1 bt16.2).bind fun t18 => ((laws_toProg.f k a0_0 l0_1).bind fun bt19 => ((laws_toMachine.f k l1_0 l1_1).bind fun bt24 => ((laws_toMove.f a2_0 a2_1).bind fun bt31 => ((impl_CanMove.f k bt19.1 bt19.2 bt24.1 bt24.2 bt31.1 bt31.2).bind fun t33 => (if (t33 != t18) = true then (some false) else ((laws_toProg.f k a0_0 l0_1).bind fun bt34 => ((laws_eqProg.f k bt19.1 bt19.2 bt34.1 bt34.2).bind fun t38 => (if t38 = true then ((laws_toMachine.f k l1_0 l1_1).bind fun bt39 => ((laws_eqMachine.f k bt24.1 bt24.2 bt39.1 bt39.2).bind fun t45 => (if t45 = true then (some true) else (some false)))) else (some false))))))))))) = some r := H
 have A26 := Aside0.mk A260
 clear A260
 replace H := Option.bind_eq_some_iff.mp H
 obtain ⟨⟨t16, t17⟩, A270, H⟩ := H
 replace H : ((spec_CanMove.f k t6 t7 t10 t13 t16 t17).bind fun t18 => ((laws_toProg.f k a0_0 l0_1).bind fun bt19 => ((laws_toMachine.f k l1_0 l1_1).bind fun bt24 => ((laws_toMove.f a2_0 a2_1).bind fun bt31 => ((impl_CanMove.f k bt19.1 bt19.2 bt24.1 bt24.2 bt31.1 bt31.2).bind fun t33 => (if (t33 != t18) = true then (some false) else ((laws_toProg.f k a0_0 l0_1).bind fun bt34 => ((laws_eqProg.f k bt19.1 bt19.2 bt34.1 bt34.2).bind fun t38 => (if t38 = true then ((laws_toMachine.f k l1_0 l1_1).bind fun bt39 => ((laws_eqMachine.f k bt24.1 bt24.2 bt39.1 bt39.2).bind fun t45 => (if t45 = true then (some true) else (some false)))) else (some false)))))))))) = some r := H
 have A27 := Aside0.mk A270
 clear A270
 replace H := Option.bind_eq_some_iff.mp H
 obtain ⟨t18, A280, H⟩ := H
 replace H : ((laws_toProg.f k a0_0 l0_1).bind fun bt19 => ((laws_toMachine.f k l1_0 l1_1).bind fun bt24 => ((laws_toMove.f a2_0 a2_1).bind fun bt31 => ((impl_CanMove.f k bt19.1 bt19.2 bt24.1 bt24.2 bt31.1 bt31.2).bind fun t33 => (if (t33 != t18) = true then (some false) else ((laws_toProg.f k a0_0 l0_1).bind fun bt34 => ((laws_eqProg.f k bt19.1 bt19.2 bt34.1 bt34.2).bind fun t38 => (if t38 = true then ((laws_toMachine.f k l1_0 l1_1).bind fun bt39 => ((laws_eqMachine.f k bt24.1 bt24.2 bt39.1 bt39.2).bind fun t45 => (if t45 = true then (some true) else (some false)))) else (some false))))))))) = some r := H
 have A28 := Aside0.mk A280
 clear A280
 replace H := Option.bind_eq_some_iff.mp H
 obtain ⟨⟨t19, t20⟩, A290, H⟩ := H
 replace H : ((laws_toMachine.f k l1_0 l1_1).bind fun bt24 => ((laws_toMove.f a2_0 a2_1).bind fun bt31 => ((impl_CanMove.f k t19 t20 bt24.1 bt24.2 bt31.1 bt31.2).bind fun t33 => (if (t33 != t18) = true then (some false) else ((laws_toProg.f k a0_0 l0_1).bind fun bt34 => ((laws_eqProg.f k t19 t20 bt34.1 bt34.2).bind fun t38 => (if t38 = true then ((laws_toMachine.f k l1_0 l1_1).bind fun bt39 => ((laws_eqMachine.f k bt24.1 bt24.2 bt39.1 bt39.2).bind fun t45 => (if t45 = true then (some true) else (some false)))) else (some false)))))))) = some r := H
 have A29 := Aside0.mk A290
 clear A290
 replace H := Option.bind_eq_some_iff.mp H
 obtain ⟨⟨t24, t27⟩, A300, H⟩ := H
 replace H : ((laws_toMove.f a2_0 a2_1).bind fun bt31 => ((impl_CanMove.f k t19 t20 t24 t27 bt31.1 bt31.2).bind fun t33 => (if (t33 != t18) = true then (some false) else ((laws_toProg.f k a0_0 l0_1).bind fun bt34 => ((laws_eqProg.f k t19 t20 bt34.1 bt34.2).bind fun t38 => (if t38 = true then ((laws_toMachine.f k l1_0 l1_1).bind fun bt39 => ((laws_eqMachine.f k t24 t27 bt39.1 bt39.2).bind fun t45 => (if t45 = true then (some true) else (some false)))) else (some false))))))) = some r := H
 have A30 := Aside0.mk A300
 clear A300
 replace H := Option.bind_eq_some_iff.mp H
 obtain ⟨⟨t31, t32⟩, A310, H⟩ := H
 replace H : ((impl_CanMove.f k t19 t20 t24 t27 t31 t32).bind fun t33 => (if (t33 != t18) = true then (some false) else ((laws_toProg.f k a0_0 l0_1).bind fun bt34 => ((laws_eqProg.f k t19 t20 bt34.1 bt34.2).bind fun t38 => (if t38 = true then ((laws_toMachine.f k l1_0 l1_1).bind fun bt39 => ((laws_eqMachine.f k t24 t27 bt39.1 bt39.2).bind fun t45 => (if t45 = true then (some true) else (some false)))) else (some false)))))) = some r := H
 have A31 := Aside0.mk A310
 clear A310
 replace H := Option.bind_eq_some_iff.mp H
 obtain ⟨t33, A320, H⟩ := H
 replace H : (if (t33 != t18) = true then (some false) else ((laws_toProg.f k a0_0 l0_1).bind fun bt34 => ((laws_eqProg.f k t19 t20 bt34.1 bt34.2).bind fun t38 => (if t38 = true then ((laws_toMachine.f k l1_0 l1_1).bind fun bt39 => ((laws_eqMachine.f k t24 t27 bt39.1 bt39.2).bind fun t45 => (if t45 = true then (some true) else (some false)))) else (some false))))) = some r := H
 have A32 := Aside0.mk A320
 clear A320
 go_enter Try.func14, Try.ntmps14
 try go_wp2_with (first | ((with_reducible refine gate_dst (N := 3) rfl ?_); refine box_event ?hg (N := 3) ?hd (cs := #[.int .i64 a0_0, .slice A0_1 l0_1.length c0_1]) (t := 60) ?hr ?_; (case hd => rfl); (case hg => rfl); (case hr => first | (go_simp; done) | (go_simp; rfl)); intro gb1 hg w34 hbox hb; have n0_ := Aside0.mk (below_step bw_ hb); have n1_ := Aside0.mk (hbox); have n2_ := Aside0.mk ((by rw [hg]; exact (below_size bw_) : w.heap.size ≤ gb1)); have n3_ := Aside0.mk ((by rw [hg]; exact (below_size bw_) : w.heap.size ≤ gb1)); clear HB; have HB := n0_; have BK1 := n1_; have GW1 := n2_; have GE1 := n3_; clear n0_ n1_ n2_ n3_; clear hb hbox hg) | ((with_reducible refine gate_dst (N := 4) rfl ?_); refine box_event ?hg (N := 4) ?hd (cs := #[.slice A1_0 l1_0.length c1_0, .slice A1_1 l1_1.length c1_1]) (t := 38) ?hr ?_; (case hd => rfl); (case hg => rfl); (case hr => first | (go_simp; done) | (go_simp; rfl)); intro gb2 hg w35 hbox hb; have n0_ := Aside0.mk (blk_below (g := gb1) (o := .cells #[.int .i64 a0_0, .slice A0_1 l0_1.length c0_1] 60 (0, 0)) bk_ hb); have n1_ := Aside0.mk (below_step bw_ hb); have n2_ := Aside0.mk (hbox); have n3_ := Aside0.mk ((by rw [hg]; exact (below_size bw_) : w.heap.size ≤ gb2)); have n4_ := Aside0.mk ((by rw [hg]; exact (below_size bw_) : w.heap.size ≤ gb2)); have n5_ := Aside0.mk ((by rw [hg]; exact Nat.ne_of_lt (blk_lt (g := gb1) (o := .cells #[.int .i64 a0_0, .slice A0_1 l0_1.length c0_1] 60 (0, 0)) bk_) : gb1 ≠ gb2)); have n6_ := Aside0.mk ((by rw [hg]; exact Nat.ne_of_gt (blk_lt (g := gb1) (o := .cells #[.int .i64 a0_0, .slice A0_1 l0_1.length c0_1] 60 (0, 0)) bk_) : gb2 ≠ gb1)); clear BK1; clear HB; have BK1 := n0_; have HB := n1_; have BK2 := n2_; have GW2 := n3_; have GE2 := n4_; have NB1_2 := n5_; have NB2_1 := n6_; clear n0_ n1_ n2_ n3_ n4_ n5_ n6_; clear hb hbox hg) | ((with_reducible refine gate_dst (N := 5) rfl ?_); refine box_event ?hg (N := 5) ?hd (cs := #[.int .i64 a2_0, .bool a2_1]) (t := 86) ?hr ?_; (case hd => rfl); (case hg => rfl); (case hr => first | (go_simp; done) | (go_simp; rfl)); intro gb3 hg w36 hbox hb; have n0_ := Aside0.mk (blk_below (g := gb1) (o := .cells #[.int .i64 a0_0, .slice A0_1 l0_1.length c0_1] 60 (0, 0)) bk_ hb); have n1_ := Aside0.mk (blk_below (g := gb2) (o := .cells #[.slice A1_0 l1_0.length c1_0, .slice A1_1 l1_1.length c1_1] 38 (0, 0)) bk_ hb); have n2_ := Aside0.mk (below_step bw_ hb); have n3_ := Aside0.mk (hbox); have n4_ := Aside0.mk ((by rw [hg]; exact (below_size bw_) : w.heap.size ≤ gb3)); have n5_ := Aside0.mk ((by rw [hg]; exact (below_size bw_) : w.heap.size ≤ gb3)); have n6_ := Aside0.mk ((by rw [hg]; exact Nat.ne_of_lt (blk_lt (g := gb1) (o := .cells #[.int .i64 a0_0, .slice A0_1 l0_1.length c0_1] 60 (0, 0)) bk_) : gb1 ≠ gb3)); have n7_ := Aside0.mk ((by rw [hg]; exact Nat.ne_of_gt (blk_lt (g := gb1) (o := .cells #[.int .i64 a0_0, .slice A0_1 l0_1.length c0_1] 60 (0, 0)) bk_) : gb3 ≠ gb1)); have n8_ := Aside0.mk ((by rw [hg]; exact Nat.ne_of_lt (blk_lt (g := gb2) (o := .cells #[.slice A1_0 l1_0.length c1_0, .slice A1_1 l1_1.length c1_1] 38 (0, 0)) bk_) : gb2 ≠ gb3)); have n9_ := Aside0.mk ((by rw [hg]; exact Nat.ne_of_gt (blk_lt (g := gb2) (o := .cells #[.slice A1_0 l1_0.length c1_0, .slice A1_1 l1_1.length c1_1] 38 (0, 0)) bk_) : gb3 ≠ gb2)); clear BK1; clear BK2; clear HB; have BK1 := n0_; have BK2 := n1_; have HB := n2_; have BK3 := n3_; have GW3 := n4_; have GE3 := n5_; have NB1_3 := n6_; have NB3_1 := n7_; have NB2_3 := n8_; have NB3_2 := n9_; clear n0_ n1_ n2_ n3_ n4_ n5_ n6_ n7_ n8_ n9_; clear hb hbox hg; have hnb37 := NB1_2.out; have hnc37 := NB2_1.out; have hnb38 := NB1_3.out; have hnc38 := NB3_1.out; have hcz39_0 := (blk_cell BK1.out 0).trans rfl; have hcz39_1 := (blk_cell BK1.out 1).trans rfl; have hfz39_0 := blk_frozen BK1.out 0; have hfz39_1 := blk_frozen BK1.out 1) | ((with_reducible refine gate_callee (f := 43) rfl ?_); refine goesL_ (some 14) rfl rfl Try.func43 (by kernel_rfl) rfl #[.agg #[.int .i64 a0_0, .slice A0_1 l0_1.length c0_1], .int .i64 1048576] rfl ar_ ?_; (with_reducible refine (laws_szProg.calls k a0_0 _ _ l0_1 1048576 t4 _ ?side1 ?side2 A4.out).mono ?_); (case side1 => exact cb_); (case side2 => exact HC0_1.out); rintro e w40 ⟨rfl, hb⟩; refine ⟨_, rfl, ?_⟩; have n0_ := Aside0.mk (blk_below (g := gb1) (o := .cells #[.int .i64 a0_0, .slice A0_1 l0_1.length c0_1] 60 (0, 0)) bk_ hb); have n1_ := Aside0.mk (blk_below (g := gb2) (o := .cells #[.slice A1_0 l1_0.length c1_0, .slice A1_1 l1_1.length c1_1] 38 (0, 0)) bk_ hb); have n2_ := Aside0.mk (blk_below (g := gb3) (o := .cells #[.int .i64 a2_0, .bool a2_1] 86 (0, 0)) bk_ hb); have n3_ := Aside0.mk (below_step bw_ hb); clear BK1; clear BK2; clear BK3; clear HB; have BK1 := n0_; have BK2 := n1_; have BK3 := n2_; have HB := n3_; clear n0_ n1_ n2_ n3_; (try clear hb); (try clear hb2); (try clear hk); (try clear hi); have hnb41 := NB2_3.out; have hnc41 := NB3_2.out; have hcz42_0 := (blk_cell BK2.out 0).trans rfl; have hcz42_1 := (blk_cell BK2.out 1).trans rfl; have hfz42_0 := blk_frozen BK2.out 0; have hfz42_1 := blk_frozen BK2.out 1) | ((with_reducible refine gate_callee (f := 27) rfl ?_); refine goesL_ (some 19) rfl rfl Try.func27 (by kernel_rfl) rfl #[.agg #[.slice A1_0 l1_0.length c1_0, .slice A1_1 l1_1.length c1_1], .int .i64 t4] rfl ar_ ?_; (with_reducible refine (laws_szMachine.calls k _ _ l1_0 _ _ l1_1 t4 t5 _ ?side1 ?side2 ?side3 ?side4 A13.out).mono ?_); (case side1 => exact cb_); (case side2 => exact HC1_0.out); (case side3 => exact cb_); (case side4 => exact HC1_1.out); rintro e w43 ⟨rfl, hb⟩; refine ⟨_, rfl, ?_⟩; have n0_ := Aside0.mk (blk_below (g := gb1) (o := .cells #[.int .i64 a0_0, .slice A0_1 l0_1.length c0_1] 60 (0, 0)) bk_ hb); have n1_ := Aside0.mk (blk_below (g := gb2) (o := .cells #[.slice A1_0 l1_0.length c1_0, .slice A1_1 l1_1.length c1_1] 38 (0, 0)) bk_ hb); have n2_ := Aside0.mk (blk_below (g := gb3) (o := .cells #[.int .i64 a2_0, .bool a2_1] 86 (0, 0)) bk_ hb); have n3_ := Aside0.mk (below_step bw_ hb); clear BK1; clear BK2; clear BK3; clear HB; have BK1 := n0_; have BK2 := n1_; have BK3 := n2_; have HB := n3_; clear n0_ n1_ n2_ n3_; (try clear hb); (try clear hb2); (try clear hk); (try clear hi)))
 have n0_ := Aside0.mk (blk_drew BK1.out)
 have n1_ := Aside0.mk (blk_drew BK2.out)
 have n2_ := Aside0.mk (blk_drew BK3.out)
 have n3_ := Aside0.mk (below_drew1 HB.out)
 clear BK1
 clear BK2
 clear BK3
 clear HB
 have BK1 := n0_
 have BK2 := n1_
 have BK3 := n2_
 have HB := n3_
 clear n0_ n1_ n2_ n3_
 refine start_ (n := 8) (S := fun w' => w'.cell? ⟨gb1, 0, none⟩ = some (.int .i64 a0_0) ∧ w'.cell? ⟨gb1, 1, none⟩ = some (.slice A0_1 l0_1.length c0_1) ∧ w'.cell? ⟨gb2, 0, none⟩ = some (.slice A1_0 l1_0.length c1_0) ∧ w'.cell? ⟨gb2, 1, none⟩ = some (.slice A1_1 l1_1.length c1_1) ∧ w'.cell? ⟨gb3, 0, none⟩ = some (.int .i64 a2_0) ∧ w'.cell? ⟨gb3, 1, none⟩ = some (.bool a2_1)) (ds := []) #[false, false, false, false, false, false, false, false] (by kernel_rfl) rfl rfl ⟨(blk_cell BK1.out 0).trans rfl, (blk_cell BK1.out 1).trans rfl, (blk_cell BK2.out 0).trans rfl, (blk_cell BK2.out 1).trans rfl, (blk_cell BK3.out 0).trans rfl, (blk_cell BK3.out 1).trans rfl⟩ (fun hHeld => ?_); refine with_tabW laws_FnExactCanMove.tab8 laws_FnExactCanMove.bits8 (fun HT_ HW_ => ?_)
 generalize w43.drew = w44 at BK1 BK2 BK3 HB hHeld ⊢
 refine take_ (i := 0) (N := some 22) (v := ?_) (a' := ?_) #[true, false, false, false, false, false, false, false] rfl rfl (take_ofW HT_.out HW_.out (by kernel_rfl)) (fun _ _ _ h => h) (Or.inl ⟨by rfl, ?_⟩) hHeld ?_ ?_
 rotate_left
 ·rintro w' ⟨s0, s1, s2, s3, s4, s5⟩
  go_simp
  with_reducible rfl
 rotate_left
 ·simp only [Act.put, List.setIfInBounds_toArray, List.set_cons_zero, List.set_cons_succ, i64_w, i32_w]
  rfl
 refine take_ (i := 2) (N := some 24) (v := ?_) (a' := ?_) #[true, false, true, false, false, false, false, false] rfl rfl (take_ofW HT_.out HW_.out (by kernel_rfl)) (fun _ _ _ h => h) (Or.inl ⟨by rfl, ?_⟩) hHeld ?_ ?_
 rotate_left
 ·rintro w' ⟨s0, s1, s2, s3, s4, s5⟩
  go_simp
  with_reducible rfl
 rotate_left
 ·simp only [Act.put, List.setIfInBounds_toArray, List.set_cons_zero, List.set_cons_succ, i64_w, i32_w]
  rfl
 refine take_ (i := 4) (N := some 26) (v := ?_) (a' := ?_) #[true, false, true, false, true, false, false, false] rfl rfl (take_ofW HT_.out HW_.out (by kernel_rfl)) (fun _ _ _ h => h) (Or.inl ⟨by rfl, ?_⟩) hHeld ?_ ?_
 rotate_left
 ·rintro w' ⟨s0, s1, s2, s3, s4, s5⟩
  go_simp
  with_reducible rfl
 rotate_left
 ·simp only [Act.put, List.setIfInBounds_toArray, List.set_cons_zero, List.set_cons_succ, i64_w, i32_w]
  rfl
 refine one_ (i := 1) (N := some 23) #[true, true, true, false, true, false, false, false] rfl rfl (one_of HT_.out (by kernel_rfl)) (by decide) (fun K hK => ?_)
 refine goes_ Try.func45 (by kernel_rfl) rfl #[.agg #[.int .i64 a0_0, .slice A0_1 l0_1.length c0_1]] (by rfl) rfl rfl ar_ ?_
 with_reducible refine (laws_toProg.calls k a0_0 _ _ l0_1 t6 t7 _ ?side1 ?side2 A25.out).mono ?_
 (case side1 => exact cb_)
 (case side2 => exact HC0_1.out)
 rintro e w45 ⟨v8, rfl, ho0, hb⟩
 refine ⟨_, rfl, ?_⟩
 have n0_ := Aside0.mk (Kd.S_lower ho0 (below_size bw_))
 have n1_ := Aside0.mk (blk_below (g := gb1) (o := .cells #[.int .i64 a0_0, .slice A0_1 l0_1.length c0_1] 60 (0, 0)) bk_ hb)
 have n2_ := Aside0.mk (blk_below (g := gb2) (o := .cells #[.slice A1_0 l1_0.length c1_0, .slice A1_1 l1_1.length c1_1] 38 (0, 0)) bk_ hb)
 have n3_ := Aside0.mk (blk_below (g := gb3) (o := .cells #[.int .i64 a2_0, .bool a2_1] 86 (0, 0)) bk_ hb)
 have n4_ := Aside0.mk (below_step bw_ hb)
 clear BK1
 clear BK2
 clear BK3
 clear HB
 have HO9 := n0_
 have BK1 := n1_
 have BK2 := n2_
 have BK3 := n3_
 have HB := n4_
 clear n0_ n1_ n2_ n3_ n4_
 (try clear hb)
 (try clear hb2)
 (try clear hk)
 (try clear hi)
 (try clear ho0)
 refine hK.out _ _ ⟨(blk_cell BK1.out 0).trans rfl, (blk_cell BK1.out 1).trans rfl, (blk_cell BK2.out 0).trans rfl, (blk_cell BK2.out 1).trans rfl, (blk_cell BK3.out 0).trans rfl, (blk_cell BK3.out 1).trans rfl⟩ (fun hHeld => ?_)
 clear hK K
 refine norm_ (a' := ?_) ?_ ?_
 rotate_left
 ·show Act.put _ (some 23) _ = _
  simp only [Act.put, List.setIfInBounds_toArray, List.set_cons_zero, List.set_cons_succ, i64_w, i32_w]
  rfl
 refine one_ (i := 3) (N := some 25) #[true, true, true, true, true, false, false, false] rfl rfl (one_of HT_.out (by kernel_rfl)) (by decide) (fun K hK => ?_)
 refine goes_ Try.func30 (by kernel_rfl) rfl #[.agg #[.slice A1_0 l1_0.length c1_0, .slice A1_1 l1_1.length c1_1]] (by rfl) rfl rfl ar_ ?_
 with_reducible refine (laws_toMachine.calls k _ _ l1_0 _ _ l1_1 t10 t13 _ ?side1 ?side2 ?side3 ?side4 A26.out).mono ?_
 (case side1 => exact cb_)
 (case side2 => exact HC1_0.out)
 (case side3 => exact cb_)
 (case side4 => exact HC1_1.out)
 rintro e w46 ⟨v11, v14, rfl, ho0, ho1, hb⟩
 refine ⟨_, rfl, ?_⟩
 have n0_ := Aside0.mk (Kd.S_below (by (with_reducible repeat (first | apply Kd.S_alloc | apply Kd.S_drewN | apply Kd.S_drew)); exact HO9.out) hb)
 have n1_ := Aside0.mk (Kd.R_lower ho0 (below_size bw_))
 have n2_ := Aside0.mk (Kd.S_lower ho1 (below_size bw_))
 have n3_ := Aside0.mk (blk_below (g := gb1) (o := .cells #[.int .i64 a0_0, .slice A0_1 l0_1.length c0_1] 60 (0, 0)) bk_ hb)
 have n4_ := Aside0.mk (blk_below (g := gb2) (o := .cells #[.slice A1_0 l1_0.length c1_0, .slice A1_1 l1_1.length c1_1] 38 (0, 0)) bk_ hb)
 have n5_ := Aside0.mk (blk_below (g := gb3) (o := .cells #[.int .i64 a2_0, .bool a2_1] 86 (0, 0)) bk_ hb)
 have n6_ := Aside0.mk (below_step bw_ hb)
 clear HO9
 clear BK1
 clear BK2
 clear BK3
 clear HB
 have HO9 := n0_
 have HO12 := n1_
 have HO15 := n2_
 have BK1 := n3_
 have BK2 := n4_
 have BK3 := n5_
 have HB := n6_
 clear n0_ n1_ n2_ n3_ n4_ n5_ n6_
 (try clear hb)
 (try clear hb2)
 (try clear hk)
 (try clear hi)
 (try clear ho0)
 (try clear ho1)
 refine hK.out _ _ ⟨(blk_cell BK1.out 0).trans rfl, (blk_cell BK1.out 1).trans rfl, (blk_cell BK2.out 0).trans rfl, (blk_cell BK2.out 1).trans rfl, (blk_cell BK3.out 0).trans rfl, (blk_cell BK3.out 1).trans rfl⟩ (fun hHeld => ?_)
 clear hK K
 refine norm_ (a' := ?_) ?_ ?_
 rotate_left
 ·show Act.put _ (some 25) _ = _
  simp only [Act.put, List.setIfInBounds_toArray, List.set_cons_zero, List.set_cons_succ, i64_w, i32_w]
  rfl
 refine one_ (i := 5) (N := some 27) #[true, true, true, true, true, true, false, false] rfl rfl (one_of HT_.out (by kernel_rfl)) (by decide) (fun K hK => ?_)
 refine goes_ Try.func68 (by kernel_rfl) rfl #[.agg #[.int .i64 a2_0, .bool a2_1]] (by rfl) rfl rfl ar_ ?_
 with_reducible refine (laws_toMove.calls a2_0 a2_1 t16 t17 _ A27.out).mono ?_
 rintro e w47 ⟨rfl, hb⟩
 refine ⟨_, rfl, ?_⟩
 have n0_ := Aside0.mk (Kd.S_below (by (with_reducible repeat (first | apply Kd.S_alloc | apply Kd.S_drewN | apply Kd.S_drew)); exact HO9.out) hb)
 have n1_ := Aside0.mk (Kd.R_below (by (with_reducible repeat (first | apply Kd.R_alloc | apply Kd.R_drewN | apply Kd.R_drew)); exact HO12.out) hb)
 have n2_ := Aside0.mk (Kd.S_below (by (with_reducible repeat (first | apply Kd.S_alloc | apply Kd.S_drewN | apply Kd.S_drew)); exact HO15.out) hb)
 have n3_ := Aside0.mk (blk_below (g := gb1) (o := .cells #[.int .i64 a0_0, .slice A0_1 l0_1.length c0_1] 60 (0, 0)) bk_ hb)
 have n4_ := Aside0.mk (blk_below (g := gb2) (o := .cells #[.slice A1_0 l1_0.length c1_0, .slice A1_1 l1_1.length c1_1] 38 (0, 0)) bk_ hb)
 have n5_ := Aside0.mk (blk_below (g := gb3) (o := .cells #[.int .i64 a2_0, .bool a2_1] 86 (0, 0)) bk_ hb)
 have n6_ := Aside0.mk (below_step bw_ hb)
 clear HO9
 clear HO12
 clear HO15
 clear BK1
 clear BK2
 clear BK3
 clear HB
 have HO9 := n0_
 have HO12 := n1_
 have HO15 := n2_
 have BK1 := n3_
 have BK2 := n4_
 have BK3 := n5_
 have HB := n6_
 clear n0_ n1_ n2_ n3_ n4_ n5_ n6_
 (try clear hb)
 (try clear hb2)
 (try clear hk)
 (try clear hi)
 obtain ⟨Ao48, co48, eo48⟩ := Kd.S_slice HO9.out
 (first | subst eo48 | (injection eo48 with f1_ f2_ f3_; have f4_ := f1_.symm; have f5_ := f3_.symm; clear f1_ f2_ f3_; subst f4_; subst f5_))
 obtain ⟨Ao49, co49, eo49⟩ := Kd.R_slice HO12.out
 (first | subst eo49 | (injection eo49 with f1_ f2_ f3_; have f4_ := f1_.symm; have f5_ := f3_.symm; clear f1_ f2_ f3_; subst f4_; subst f5_))
 obtain ⟨Ao50, co50, eo50⟩ := Kd.S_slice HO15.out
 (first | subst eo50 | (injection eo50 with f1_ f2_ f3_; have f4_ := f1_.symm; have f5_ := f3_.symm; clear f1_ f2_ f3_; subst f4_; subst f5_))
 refine hK.out _ _ ⟨(blk_cell BK1.out 0).trans rfl, (blk_cell BK1.out 1).trans rfl, (blk_cell BK2.out 0).trans rfl, (blk_cell BK2.out 1).trans rfl, (blk_cell BK3.out 0).trans rfl, (blk_cell BK3.out 1).trans rfl⟩ (fun hHeld => ?_)
 clear hK K
 refine norm_ (a' := ?_) ?_ ?_
 rotate_left
 ·show Act.put _ (some 27) _ = _
  simp only [Act.put, List.setIfInBounds_toArray, List.set_cons_zero, List.set_cons_succ, i64_w, i32_w]
  rfl
 refine one_ (i := 6) (N := some 28) #[true, true, true, true, true, true, true, false] rfl rfl (one_of HT_.out (by kernel_rfl)) (by decide) (fun K hK => ?_)
 refine goes_ Try.func67 (by kernel_rfl) rfl #[.agg #[.int .i64 t6, .slice Ao48 t7.length co48], .agg #[.slice Ao49 t10.length co49, .slice Ao50 t13.length co50], .agg #[.int .i64 t16, .bool t17]] (by rfl) rfl rfl ar_ ?_
 with_reducible refine (spec_CanMove.calls k t6 _ _ t7 _ _ t10 _ _ t13 t16 t17 t18 _ ?side1 ?side2 ?side3 ?side4 ?side5 ?side6 A28.out).mono ?_
 (case side1 => repeat (first | exact (Kd.S_reads' HO9.out).2.2 | (with_reducible refine Kd.C_alloc ?_ _) | (with_reducible refine Kd.C_drewN ?_ _) | (with_reducible refine Kd.C_drew ?_)))
 (case side2 => exact (Kd.S_reads' HO9.out).2.1)
 (case side3 => repeat (first | exact (Kd.R_reads' HO12.out).2.2 | (with_reducible refine Kd.C_alloc ?_ _) | (with_reducible refine Kd.C_drewN ?_ _) | (with_reducible refine Kd.C_drew ?_)))
 (case side4 => exact (Kd.R_reads' HO12.out).2.1)
 (case side5 => repeat (first | exact (Kd.S_reads' HO15.out).2.2 | (with_reducible refine Kd.C_alloc ?_ _) | (with_reducible refine Kd.C_drewN ?_ _) | (with_reducible refine Kd.C_drew ?_)))
 (case side6 => exact (Kd.S_reads' HO15.out).2.1)
 rintro e w51 ⟨rfl, hb⟩
 refine ⟨_, rfl, ?_⟩
 have n0_ := Aside0.mk (Kd.S_below (by (with_reducible repeat (first | apply Kd.S_alloc | apply Kd.S_drewN | apply Kd.S_drew)); exact HO9.out) hb)
 have n1_ := Aside0.mk (Kd.R_below (by (with_reducible repeat (first | apply Kd.R_alloc | apply Kd.R_drewN | apply Kd.R_drew)); exact HO12.out) hb)
 have n2_ := Aside0.mk (Kd.S_below (by (with_reducible repeat (first | apply Kd.S_alloc | apply Kd.S_drewN | apply Kd.S_drew)); exact HO15.out) hb)
 have n3_ := Aside0.mk (blk_below (g := gb1) (o := .cells #[.int .i64 a0_0, .slice A0_1 l0_1.length c0_1] 60 (0, 0)) bk_ hb)
 have n4_ := Aside0.mk (blk_below (g := gb2) (o := .cells #[.slice A1_0 l1_0.length c1_0, .slice A1_1 l1_1.length c1_1] 38 (0, 0)) bk_ hb)
 have n5_ := Aside0.mk (blk_below (g := gb3) (o := .cells #[.int .i64 a2_0, .bool a2_1] 86 (0, 0)) bk_ hb)
 have n6_ := Aside0.mk (below_step bw_ hb)
 clear HO9
 clear HO12
 clear HO15
 clear BK1
 clear BK2
 clear BK3
 clear HB
 have HO9 := n0_
 have HO12 := n1_
 have HO15 := n2_
 have BK1 := n3_
 have BK2 := n4_
 have BK3 := n5_
 have HB := n6_
 clear n0_ n1_ n2_ n3_ n4_ n5_ n6_
 (try clear hb)
 (try clear hb2)
 (try clear hk)
 (try clear hi)
 refine hK.out _ _ ⟨(blk_cell BK1.out 0).trans rfl, (blk_cell BK1.out 1).trans rfl, (blk_cell BK2.out 0).trans rfl, (blk_cell BK2.out 1).trans rfl, (blk_cell BK3.out 0).trans rfl, (blk_cell BK3.out 1).trans rfl⟩ (fun hHeld => ?_)
 clear hK K
 refine norm_ (a' := ?_) ?_ ?_
 rotate_left
 ·show Act.put _ (some 28) _ = _
  simp only [Act.put, List.setIfInBounds_toArray, List.set_cons_zero, List.set_cons_succ, i64_w, i32_w]
  rfl
 refine pure_ (i := 7) (N := some 8) (v := ?_) (a' := ?_) #[true, true, true, true, true, true, true, true] rfl rfl (any_of HT_.out (by kernel_rfl)) (fun _ _ _ h => h) (Or.inl ⟨by rfl, ?_⟩) ?_ ?_
 rotate_left
 ·intro w'
  go_simp
  with_reducible rfl
 rotate_left
 ·simp only [Act.put, List.setIfInBounds_toArray, List.set_cons_zero, List.set_cons_succ, i64_w, i32_w]
  rfl
 refine done_ (done_of HT_.out (by kernel_rfl)) ?_
 have hcz52_0 := (blk_cell BK1.out 0).trans rfl
 have hcz52_1 := (blk_cell BK1.out 1).trans rfl
 have hfz52_0 := blk_frozen BK1.out 0
 have hfz52_1 := blk_frozen BK1.out 1
 try go_wp2_with (first | ((with_reducible refine gate_callee (f := 45) rfl ?_); refine goesL_ (some 30) rfl rfl Try.func45 (by kernel_rfl) rfl #[.agg #[.int .i64 a0_0, .slice A0_1 l0_1.length c0_1]] rfl ar_ ?_; (with_reducible refine (laws_toProg.calls k a0_0 _ _ l0_1 t19 t20 _ ?side1 ?side2 A29.out).mono ?_); (case side1 => exact cb_); (case side2 => exact HC0_1.out); rintro e w53 ⟨v21, rfl, ho0, hb⟩; refine ⟨_, rfl, ?_⟩; have n0_ := Aside0.mk (Kd.S_elder' (by (with_reducible repeat (first | apply Kd.S_alloc | apply Kd.S_drewN | apply Kd.S_drew)); exact HO9.out) (Kd.S_base ho0) hb); have n1_ := Aside0.mk (Kd.R_below (by (with_reducible repeat (first | apply Kd.R_alloc | apply Kd.R_drewN | apply Kd.R_drew)); exact HO12.out) hb); have n2_ := Aside0.mk (Kd.S_below (by (with_reducible repeat (first | apply Kd.S_alloc | apply Kd.S_drewN | apply Kd.S_drew)); exact HO15.out) hb); have n3_ := Aside0.mk (Kd.S_lower (Kd.S_new' ho0 (Kd.S_lt (by (with_reducible repeat (first | apply Kd.S_alloc | apply Kd.S_drewN | apply Kd.S_drew)); exact HO9.out))) (below_size bw_)); have n4_ := Aside0.mk (blk_below (g := gb1) (o := .cells #[.int .i64 a0_0, .slice A0_1 l0_1.length c0_1] 60 (0, 0)) bk_ hb); have n5_ := Aside0.mk (blk_below (g := gb2) (o := .cells #[.slice A1_0 l1_0.length c1_0, .slice A1_1 l1_1.length c1_1] 38 (0, 0)) bk_ hb); have n6_ := Aside0.mk (blk_below (g := gb3) (o := .cells #[.int .i64 a2_0, .bool a2_1] 86 (0, 0)) bk_ hb); have n7_ := Aside0.mk (below_step bw_ hb); clear HO9; clear HO12; clear HO15; clear BK1; clear BK2; clear BK3; clear HB; have HO9 := n0_; have HO12 := n1_; have HO15 := n2_; have HO22 := n3_; have BK1 := n4_; have BK2 := n5_; have BK3 := n6_; have HB := n7_; clear n0_ n1_ n2_ n3_ n4_ n5_ n6_ n7_; (try clear hb); (try clear hb2); (try clear hk); (try clear hi); (try clear ho0)) | ((with_reducible refine gate_dst (N := 9) rfl ?_); refine box_event ?hg (N := 9) ?hd (cs := #[.int .i64 0, .slice none 0 0]) (t := 64) ?hr ?_; (case hd => rfl); (case hg => rfl); (case hr => first | (go_simp; done) | (go_simp; rfl)); intro gb23 hg w54 hbox hb; have n0_ := Aside0.mk (Kd.S_below (by (with_reducible repeat (first | apply Kd.S_alloc | apply Kd.S_drewN | apply Kd.S_drew)); exact HO9.out) hb); have n1_ := Aside0.mk (Kd.R_below (by (with_reducible repeat (first | apply Kd.R_alloc | apply Kd.R_drewN | apply Kd.R_drew)); exact HO12.out) hb); have n2_ := Aside0.mk (Kd.S_below (by (with_reducible repeat (first | apply Kd.S_alloc | apply Kd.S_drewN | apply Kd.S_drew)); exact HO15.out) hb); have n3_ := Aside0.mk (Kd.S_below (by (with_reducible repeat (first | apply Kd.S_alloc | apply Kd.S_drewN | apply Kd.S_drew)); exact HO22.out) hb); have n4_ := Aside0.mk (blk_below (g := gb1) (o := .cells #[.int .i64 a0_0, .slice A0_1 l0_1.length c0_1] 60 (0, 0)) bk_ hb); have n5_ := Aside0.mk (blk_below (g := gb2) (o := .cells #[.slice A1_0 l1_0.length c1_0, .slice A1_1 l1_1.length c1_1] 38 (0, 0)) bk_ hb); have n6_ := Aside0.mk (blk_below (g := gb3) (o := .cells #[.int .i64 a2_0, .bool a2_1] 86 (0, 0)) bk_ hb); have n7_ := Aside0.mk (below_step bw_ hb); have n8_ := Aside0.mk (hbox); have n9_ := Aside0.mk ((by rw [hg]; exact (below_size bw_) : w.heap.size ≤ gb23)); have n10_ := Aside0.mk ((by rw [hg]; exact (below_size bw_) : w.heap.size ≤ gb23)); have n11_ := Aside0.mk ((by rw [hg]; exact Nat.ne_of_lt (blk_lt (g := gb1) (o := .cells #[.int .i64 a0_0, .slice A0_1 l0_1.length c0_1] 60 (0, 0)) bk_) : gb1 ≠ gb23)); have n12_ := Aside0.mk ((by rw [hg]; exact Nat.ne_of_gt (blk_lt (g := gb1) (o := .cells #[.int .i64 a0_0, .slice A0_1 l0_1.length c0_1] 60 (0, 0)) bk_) : gb23 ≠ gb1)); have n13_ := Aside0.mk ((by rw [hg]; exact Nat.ne_of_lt (blk_lt (g := gb2) (o := .cells #[.slice A1_0 l1_0.length c1_0, .slice A1_1 l1_1.length c1_1] 38 (0, 0)) bk_) : gb2 ≠ gb23)); have n14_ := Aside0.mk ((by rw [hg]; exact Nat.ne_of_gt (blk_lt (g := gb2) (o := .cells #[.slice A1_0 l1_0.length c1_0, .slice A1_1 l1_1.length c1_1] 38 (0, 0)) bk_) : gb23 ≠ gb2)); have n15_ := Aside0.mk ((by rw [hg]; exact Nat.ne_of_lt (blk_lt (g := gb3) (o := .cells #[.int .i64 a2_0, .bool a2_1] 86 (0, 0)) bk_) : gb3 ≠ gb23)); have n16_ := Aside0.mk ((by rw [hg]; exact Nat.ne_of_gt (blk_lt (g := gb3) (o := .cells #[.int .i64 a2_0, .bool a2_1] 86 (0, 0)) bk_) : gb23 ≠ gb3)); clear HO9; clear HO12; clear HO15; clear HO22; clear BK1; clear BK2; clear BK3; clear HB; have HO9 := n0_; have HO12 := n1_; have HO15 := n2_; have HO22 := n3_; have BK1 := n4_; have BK2 := n5_; have BK3 := n6_; have HB := n7_; have BK23 := n8_; have GW23 := n9_; have GE23 := n10_; have NB1_23 := n11_; have NB23_1 := n12_; have NB2_23 := n13_; have NB23_2 := n14_; have NB3_23 := n15_; have NB23_3 := n16_; clear n0_ n1_ n2_ n3_ n4_ n5_ n6_ n7_ n8_ n9_ n10_ n11_ n12_ n13_ n14_ n15_ n16_; clear hb hbox hg; have hnb55 := NB23_1.out; have hnc55 := NB1_23.out; have hnb56 := NB23_2.out; have hnc56 := NB2_23.out; have hnb57 := NB23_3.out; have hnc57 := NB3_23.out; have hcz58_0 := (blk_cell BK23.out 0).trans rfl; have hcz58_1 := (blk_cell BK23.out 1).trans rfl; have hfz58_0 := blk_frozen BK23.out 0; have hfz58_1 := blk_frozen BK23.out 1; obtain ⟨Ao59, co59, eo59⟩ := Kd.S_slice HO22.out; subst eo59; have hcz60_0 := (blk_cell BK2.out 0).trans rfl; have hcz60_1 := (blk_cell BK2.out 1).trans rfl; have hfz60_0 := blk_frozen BK2.out 0; have hfz60_1 := blk_frozen BK2.out 1) | ((with_reducible refine gate_callee (f := 30) rfl ?_); refine goesL_ (some 32) rfl rfl Try.func30 (by kernel_rfl) rfl #[.agg #[.slice A1_0 l1_0.length c1_0, .slice A1_1 l1_1.length c1_1]] rfl ar_ ?_; (with_reducible refine (laws_toMachine.calls k _ _ l1_0 _ _ l1_1 t24 t27 _ ?side1 ?side2 ?side3 ?side4 A30.out).mono ?_); (case side1 => exact Kd.C_below HR1_0.out bw_); (case side2 => exact HC1_0.out); (case side3 => exact Kd.C_below HR1_1.out bw_); (case side4 => exact HC1_1.out); rintro e w61 ⟨v25, v28, rfl, ho0, ho1, hb⟩; refine ⟨_, rfl, ?_⟩; have n0_ := Aside0.mk (Kd.S_below (by (with_reducible repeat (first | apply Kd.S_alloc | apply Kd.S_drewN | apply Kd.S_drew)); exact (Kd.S_mono (Kd.S_far (p := ⟨gb23, 1, none⟩) (Kd.S_far (p := ⟨gb23, 0, none⟩) (Kd.S_types HO9.out BK23.out (by decide)) (fun _ hk => hk.2) (.int .i64 t19)) (fun _ hk => hk.2) (.slice Ao59 t20.length co59)) (fun _ h_ => h_.1))) hb); have n1_ := Aside0.mk (Kd.R_elder' (by (with_reducible repeat (first | apply Kd.R_alloc | apply Kd.R_drewN | apply Kd.R_drew)); exact (Kd.R_mono (Kd.R_far (p := ⟨gb23, 1, none⟩) (Kd.R_far (p := ⟨gb23, 0, none⟩) (Kd.R_types HO12.out BK23.out (by decide)) (fun _ hk => hk.2) (.int .i64 t19)) (fun _ hk => hk.2) (.slice Ao59 t20.length co59)) (fun _ h_ => h_.1))) (Kd.R_base ho0) hb); have n2_ := Aside0.mk (Kd.S_mono (Kd.S_told (Kd.S_told (Kd.S_old (by (with_reducible repeat (first | apply Kd.S_alloc | apply Kd.S_drewN | apply Kd.S_drew)); exact (Kd.S_mono (Kd.S_far (p := ⟨gb23, 1, none⟩) (Kd.S_far (p := ⟨gb23, 0, none⟩) (Kd.S_types HO15.out BK23.out (by decide)) (fun _ hk => hk.2) (.int .i64 t19)) (fun _ hk => hk.2) (.slice Ao59 t20.length co59)) (fun _ h_ => h_.1))) hb) (Kd.R_base ho0)) (Kd.S_base ho1)) (fun _ h_ => h_.1)); have n3_ := Aside0.mk (Kd.S_below (by (with_reducible repeat (first | apply Kd.S_alloc | apply Kd.S_drewN | apply Kd.S_drew)); exact (Kd.S_mono (Kd.S_far (p := ⟨gb23, 1, none⟩) (Kd.S_far (p := ⟨gb23, 0, none⟩) (Kd.S_types HO22.out BK23.out (by decide)) (fun _ hk => hk.2) (.int .i64 t19)) (fun _ hk => hk.2) (.slice Ao59 t20.length co59)) (fun _ h_ => h_.1))) hb); have n4_ := Aside0.mk (Kd.R_lower (Kd.R_new' ho0 (Kd.R_lt (by (with_reducible repeat (first | apply Kd.R_alloc | apply Kd.R_drewN | apply Kd.R_drew)); exact (Kd.R_mono (Kd.R_far (p := ⟨gb23, 1, none⟩) (Kd.R_far (p := ⟨gb23, 0, none⟩) (Kd.R_types HO12.out BK23.out (by decide)) (fun _ hk => hk.2) (.int .i64 t19)) (fun _ hk => hk.2) (.slice Ao59 t20.length co59)) (fun _ h_ => h_.1))))) (below_size bw_)); have n5_ := Aside0.mk (Kd.S_lower (Kd.S_new' (Kd.S_new' ho1 (Kd.R_lt (by (with_reducible repeat (first | apply Kd.R_alloc | apply Kd.R_drewN | apply Kd.R_drew)); exact (Kd.R_mono (Kd.R_far (p := ⟨gb23, 1, none⟩) (Kd.R_far (p := ⟨gb23, 0, none⟩) (Kd.R_types HO12.out BK23.out (by decide)) (fun _ hk => hk.2) (.int .i64 t19)) (fun _ hk => hk.2) (.slice Ao59 t20.length co59)) (fun _ h_ => h_.1))))) (Kd.S_lt (by (with_reducible repeat (first | apply Kd.S_alloc | apply Kd.S_drewN | apply Kd.S_drew)); exact (Kd.S_mono (Kd.S_far (p := ⟨gb23, 1, none⟩) (Kd.S_far (p := ⟨gb23, 0, none⟩) (Kd.S_types HO15.out BK23.out (by decide)) (fun _ hk => hk.2) (.int .i64 t19)) (fun _ hk => hk.2) (.slice Ao59 t20.length co59)) (fun _ h_ => h_.1))))) (below_size bw_)); have n6_ := Aside0.mk (blk_below (g := gb1) (o := .cells #[.int .i64 a0_0, .slice A0_1 l0_1.length c0_1] 60 (0, 0)) (by (with_reducible repeat (first | refine blk_drewN ?_ _ | refine blk_drew ?_ | refine blk_alloc ?_ _)); refine blk_far ?_ NB1_23.out _; (with_reducible repeat (first | refine blk_drewN ?_ _ | refine blk_drew ?_ | refine blk_alloc ?_ _)); refine blk_far ?_ NB1_23.out _; (with_reducible repeat (first | refine blk_drewN ?_ _ | refine blk_drew ?_ | refine blk_alloc ?_ _)); exact BK1.out) hb); have n7_ := Aside0.mk (blk_below (g := gb2) (o := .cells #[.slice A1_0 l1_0.length c1_0, .slice A1_1 l1_1.length c1_1] 38 (0, 0)) (by (with_reducible repeat (first | refine blk_drewN ?_ _ | refine blk_drew ?_ | refine blk_alloc ?_ _)); refine blk_far ?_ NB2_23.out _; (with_reducible repeat (first | refine blk_drewN ?_ _ | refine blk_drew ?_ | refine blk_alloc ?_ _)); refine blk_far ?_ NB2_23.out _; (with_reducible repeat (first | refine blk_drewN ?_ _ | refine blk_drew ?_ | refine blk_alloc ?_ _)); exact BK2.out) hb); have n8_ := Aside0.mk (blk_below (g := gb3) (o := .cells #[.int .i64 a2_0, .bool a2_1] 86 (0, 0)) (by (with_reducible repeat (first | refine blk_drewN ?_ _ | refine blk_drew ?_ | refine blk_alloc ?_ _)); refine blk_far ?_ NB3_23.out _; (with_reducible repeat (first | refine blk_drewN ?_ _ | refine blk_drew ?_ | refine blk_alloc ?_ _)); refine blk_far ?_ NB3_23.out _; (with_reducible repeat (first | refine blk_drewN ?_ _ | refine blk_drew ?_ | refine blk_alloc ?_ _)); exact BK3.out) hb); have n9_ := Aside0.mk (blk_below (g := gb23) (o := .cells #[.int .i64 t19, .slice Ao59 t20.length co59] 64 (0, 0)) (by (with_reducible repeat (first | refine blk_drewN ?_ _ | refine blk_drew ?_ | refine blk_alloc ?_ _)); refine blk_put (cs := #[.int .i64 t19, .slice none 0 0]) ?_ 1 _ rfl; (with_reducible repeat (first | refine blk_drewN ?_ _ | refine blk_drew ?_ | refine blk_alloc ?_ _)); refine blk_put (cs := #[.int .i64 0, .slice none 0 0]) ?_ 0 _ rfl; (with_reducible repeat (first | refine blk_drewN ?_ _ | refine blk_drew ?_ | refine blk_alloc ?_ _)); exact BK23.out) hb); have n10_ := Aside0.mk (below_step bw_ hb); clear HO9; clear HO12; clear HO15; clear HO22; clear BK1; clear BK2; clear BK3; clear BK23; clear HB; have HO9 := n0_; have HO12 := n1_; have HO15 := n2_; have HO22 := n3_; have HO26 := n4_; have HO29 := n5_; have BK1 := n6_; have BK2 := n7_; have BK3 := n8_; have BK23 := n9_; have HB := n10_; clear n0_ n1_ n2_ n3_ n4_ n5_ n6_ n7_ n8_ n9_ n10_; (try clear hb); (try clear hb2); (try clear hk); (try clear hi); (try clear ho0); (try clear ho1)) | ((with_reducible refine gate_dst (N := 10) rfl ?_); refine box_event ?hg (N := 10) ?hd (cs := #[.slice none 0 0, .slice none 0 0]) (t := 46) ?hr ?_; (case hd => rfl); (case hg => rfl); (case hr => first | (go_simp; done) | (go_simp; rfl)); intro gb30 hg w62 hbox hb; have n0_ := Aside0.mk (Kd.S_below (by (with_reducible repeat (first | apply Kd.S_alloc | apply Kd.S_drewN | apply Kd.S_drew)); exact HO9.out) hb); have n1_ := Aside0.mk (Kd.R_below (by (with_reducible repeat (first | apply Kd.R_alloc | apply Kd.R_drewN | apply Kd.R_drew)); exact HO12.out) hb); have n2_ := Aside0.mk (Kd.S_below (by (with_reducible repeat (first | apply Kd.S_alloc | apply Kd.S_drewN | apply Kd.S_drew)); exact HO15.out) hb); have n3_ := Aside0.mk (Kd.S_below (by (with_reducible repeat (first | apply Kd.S_alloc | apply Kd.S_drewN | apply Kd.S_drew)); exact HO22.out) hb); have n4_ := Aside0.mk (Kd.R_below (by (with_reducible repeat (first | apply Kd.R_alloc | apply Kd.R_drewN | apply Kd.R_drew)); exact HO26.out) hb); have n5_ := Aside0.mk (Kd.S_below (by (with_reducible repeat (first | apply Kd.S_alloc | apply Kd.S_drewN | apply Kd.S_drew)); exact HO29.out) hb); have n6_ := Aside0.mk (blk_below (g := gb1) (o := .cells #[.int .i64 a0_0, .slice A0_1 l0_1.length c0_1] 60 (0, 0)) bk_ hb); have n7_ := Aside0.mk (blk_below (g := gb2) (o := .cells #[.slice A1_0 l1_0.length c1_0, .slice A1_1 l1_1.length c1_1] 38 (0, 0)) bk_ hb); have n8_ := Aside0.mk (blk_below (g := gb3) (o := .cells #[.int .i64 a2_0, .bool a2_1] 86 (0, 0)) bk_ hb); have n9_ := Aside0.mk (blk_below (g := gb23) (o := .cells #[.int .i64 t19, .slice Ao59 t20.length co59] 64 (0, 0)) bk_ hb); have n10_ := Aside0.mk (below_step bw_ hb); have n11_ := Aside0.mk (hbox); have n12_ := Aside0.mk ((by rw [hg]; exact (below_size bw_) : w.heap.size ≤ gb30)); have n13_ := Aside0.mk ((by rw [hg]; exact (below_size bw_) : w.heap.size ≤ gb30)); have n14_ := Aside0.mk ((by rw [hg]; exact Nat.ne_of_lt (blk_lt (g := gb1) (o := .cells #[.int .i64 a0_0, .slice A0_1 l0_1.length c0_1] 60 (0, 0)) bk_) : gb1 ≠ gb30)); have n15_ := Aside0.mk ((by rw [hg]; exact Nat.ne_of_gt (blk_lt (g := gb1) (o := .cells #[.int .i64 a0_0, .slice A0_1 l0_1.length c0_1] 60 (0, 0)) bk_) : gb30 ≠ gb1)); have n16_ := Aside0.mk ((by rw [hg]; exact Nat.ne_of_lt (blk_lt (g := gb2) (o := .cells #[.slice A1_0 l1_0.length c1_0, .slice A1_1 l1_1.length c1_1] 38 (0, 0)) bk_) : gb2 ≠ gb30)); have n17_ := Aside0.mk ((by rw [hg]; exact Nat.ne_of_gt (blk_lt (g := gb2) (o := .cells #[.slice A1_0 l1_0.length c1_0, .slice A1_1 l1_1.length c1_1] 38 (0, 0)) bk_) : gb30 ≠ gb2)); have n18_ := Aside0.mk ((by rw [hg]; exact Nat.ne_of_lt (blk_lt (g := gb3) (o := .cells #[.int .i64 a2_0, .bool a2_1] 86 (0, 0)) bk_) : gb3 ≠ gb30)); have n19_ := Aside0.mk ((by rw [hg]; exact Nat.ne_of_gt (blk_lt (g := gb3) (o := .cells #[.int .i64 a2_0, .bool a2_1] 86 (0, 0)) bk_) : gb30 ≠ gb3)); have n20_ := Aside0.mk ((by rw [hg]; exact Nat.ne_of_lt (blk_lt (g := gb23) (o := .cells #[.int .i64 t19, .slice Ao59 t20.length co59] 64 (0, 0)) bk_) : gb23 ≠ gb30)); have n21_ := Aside0.mk ((by rw [hg]; exact Nat.ne_of_gt (blk_lt (g := gb23) (o := .cells #[.int .i64 t19, .slice Ao59 t20.length co59] 64 (0, 0)) bk_) : gb30 ≠ gb23)); clear HO9; clear HO12; clear HO15; clear HO22; clear HO26; clear HO29; clear BK1; clear BK2; clear BK3; clear BK23; clear HB; have HO9 := n0_; have HO12 := n1_; have HO15 := n2_; have HO22 := n3_; have HO26 := n4_; have HO29 := n5_; have BK1 := n6_; have BK2 := n7_; have BK3 := n8_; have BK23 := n9_; have HB := n10_; have BK30 := n11_; have GW30 := n12_; have GE30 := n13_; have NB1_30 := n14_; have NB30_1 := n15_; have NB2_30 := n16_; have NB30_2 := n17_; have NB3_30 := n18_; have NB30_3 := n19_; have NB23_30 := n20_; have NB30_23 := n21_; clear n0_ n1_ n2_ n3_ n4_ n5_ n6_ n7_ n8_ n9_ n10_ n11_ n12_ n13_ n14_ n15_ n16_ n17_ n18_ n19_ n20_ n21_; clear hb hbox hg; obtain ⟨Ao63, co63, eo63⟩ := Kd.R_slice HO26.out; subst eo63; have hnb64 := NB30_1.out; have hnc64 := NB1_30.out; have hnb65 := NB30_2.out; have hnc65 := NB2_30.out; have hnb66 := NB30_3.out; have hnc66 := NB3_30.out; have hnb67 := NB30_23.out; have hnc67 := NB23_30.out; have hcz68_0 := (blk_cell BK30.out 0).trans rfl; have hcz68_1 := (blk_cell BK30.out 1).trans rfl; have hfz68_0 := blk_frozen BK30.out 0; have hfz68_1 := blk_frozen BK30.out 1; obtain ⟨Ao69, co69, eo69⟩ := Kd.S_slice HO29.out; subst eo69))
 have n0_ : Aside0 (Kd.S (Kd.slice 153 k153) 94 ((w62.setCell ⟨gb30, 0, none⟩ (.slice Ao63 t24.length co63)).setCell ⟨gb30, 1, none⟩ (.slice Ao69 t27.length co69)) w.heap.size (fun k_ => some k_ ≠ (.slice Ao59 t20.length co59 : Value).ownBlock) (.slice Ao48 t7.length co48) t7) := ⟨by (with_reducible repeat (first | apply Kd.S_alloc | apply Kd.S_drewN | apply Kd.S_drew)); exact Kd.S_mono (Kd.S_far (p := ⟨gb30, 1, none⟩) (Kd.S_far (p := ⟨gb30, 0, none⟩) (Kd.S_types HO9.out BK30.out (by decide)) (fun _ hk => hk.2) (.slice Ao63 t24.length co63)) (fun _ hk => hk.2) (.slice Ao69 t27.length co69)) (fun _ hk => hk.1.2)⟩
 have n1_ : Aside0 (Kd.R (Kd.int .i64) 3 ((w62.setCell ⟨gb30, 0, none⟩ (.slice Ao63 t24.length co63)).setCell ⟨gb30, 1, none⟩ (.slice Ao69 t27.length co69)) w.heap.size (fun k_ => some k_ ≠ (.slice Ao63 t24.length co63 : Value).ownBlock) (.slice Ao49 t10.length co49) t10) := ⟨by (with_reducible repeat (first | apply Kd.R_alloc | apply Kd.R_drewN | apply Kd.R_drew)); exact Kd.R_mono (Kd.R_far (p := ⟨gb30, 1, none⟩) (Kd.R_far (p := ⟨gb30, 0, none⟩) (Kd.R_types HO12.out BK30.out (by decide)) (fun _ hk => hk.2) (.slice Ao63 t24.length co63)) (fun _ hk => hk.2) (.slice Ao69 t27.length co69)) (fun _ hk => hk.1.2)⟩
 have n2_ : Aside0 (Kd.S k137 137 ((w62.setCell ⟨gb30, 0, none⟩ (.slice Ao63 t24.length co63)).setCell ⟨gb30, 1, none⟩ (.slice Ao69 t27.length co69)) w.heap.size (fun k_ => some k_ ≠ (.slice Ao49 t10.length co49 : Value).ownBlock ∧ some k_ ≠ (.slice Ao63 t24.length co63 : Value).ownBlock ∧ some k_ ≠ (.slice Ao69 t27.length co69 : Value).ownBlock) (.slice Ao50 t13.length co50) t13) := ⟨by (with_reducible repeat (first | apply Kd.S_alloc | apply Kd.S_drewN | apply Kd.S_drew)); exact Kd.S_mono (Kd.S_far (p := ⟨gb30, 1, none⟩) (Kd.S_far (p := ⟨gb30, 0, none⟩) (Kd.S_types HO15.out BK30.out (by decide)) (fun _ hk => hk.2) (.slice Ao63 t24.length co63)) (fun _ hk => hk.2) (.slice Ao69 t27.length co69)) (fun _ hk => ⟨hk.1.1.1, ⟨hk.1.1.2, hk.1.2⟩⟩)⟩
 have n3_ : Aside0 (Kd.S (Kd.slice 153 k153) 94 ((w62.setCell ⟨gb30, 0, none⟩ (.slice Ao63 t24.length co63)).setCell ⟨gb30, 1, none⟩ (.slice Ao69 t27.length co69)) w.heap.size (fun k_ => some k_ ≠ (.slice Ao48 t7.length co48 : Value).ownBlock) (.slice Ao59 t20.length co59) t20) := ⟨by (with_reducible repeat (first | apply Kd.S_alloc | apply Kd.S_drewN | apply Kd.S_drew)); exact Kd.S_mono (Kd.S_far (p := ⟨gb30, 1, none⟩) (Kd.S_far (p := ⟨gb30, 0, none⟩) (Kd.S_types HO22.out BK30.out (by decide)) (fun _ hk => hk.2) (.slice Ao63 t24.length co63)) (fun _ hk => hk.2) (.slice Ao69 t27.length co69)) (fun _ hk => hk.1.2)⟩
 have n4_ : Aside0 (Kd.R (Kd.int .i64) 3 ((w62.setCell ⟨gb30, 0, none⟩ (.slice Ao63 t24.length co63)).setCell ⟨gb30, 1, none⟩ (.slice Ao69 t27.length co69)) w.heap.size (fun k_ => some k_ ≠ (.slice Ao49 t10.length co49 : Value).ownBlock) (.slice Ao63 t24.length co63) t24) := ⟨by (with_reducible repeat (first | apply Kd.R_alloc | apply Kd.R_drewN | apply Kd.R_drew)); exact Kd.R_mono (Kd.R_far (p := ⟨gb30, 1, none⟩) (Kd.R_far (p := ⟨gb30, 0, none⟩) (Kd.R_types HO26.out BK30.out (by decide)) (fun _ hk => hk.2) (.slice Ao63 t24.length co63)) (fun _ hk => hk.2) (.slice Ao69 t27.length co69)) (fun _ hk => hk.1.2)⟩
 have n5_ : Aside0 (Kd.S k137 137 ((w62.setCell ⟨gb30, 0, none⟩ (.slice Ao63 t24.length co63)).setCell ⟨gb30, 1, none⟩ (.slice Ao69 t27.length co69)) w.heap.size (fun k_ => some k_ ≠ (.slice Ao49 t10.length co49 : Value).ownBlock ∧ some k_ ≠ (.slice Ao50 t13.length co50 : Value).ownBlock ∧ some k_ ≠ (.slice Ao63 t24.length co63 : Value).ownBlock) (.slice Ao69 t27.length co69) t27) := ⟨by (with_reducible repeat (first | apply Kd.S_alloc | apply Kd.S_drewN | apply Kd.S_drew)); exact Kd.S_mono (Kd.S_far (p := ⟨gb30, 1, none⟩) (Kd.S_far (p := ⟨gb30, 0, none⟩) (Kd.S_types HO29.out BK30.out (by decide)) (fun _ hk => hk.2) (.slice Ao63 t24.length co63)) (fun _ hk => hk.2) (.slice Ao69 t27.length co69)) (fun _ hk => ⟨hk.1.1.2, ⟨hk.1.2, hk.1.1.1⟩⟩)⟩
 have n6_ : Aside0 (((w62.setCell ⟨gb30, 0, none⟩ (.slice Ao63 t24.length co63)).setCell ⟨gb30, 1, none⟩ (.slice Ao69 t27.length co69)).heap[gb1]? = some (.cells #[.int .i64 a0_0, .slice A0_1 l0_1.length c0_1] 60 (0, 0))) := ⟨by (with_reducible repeat (first | refine blk_drewN ?_ _ | refine blk_drew ?_ | refine blk_alloc ?_ _)); refine blk_far ?_ NB1_30.out _; (with_reducible repeat (first | refine blk_drewN ?_ _ | refine blk_drew ?_ | refine blk_alloc ?_ _)); refine blk_far ?_ NB1_30.out _; (with_reducible repeat (first | refine blk_drewN ?_ _ | refine blk_drew ?_ | refine blk_alloc ?_ _)); exact BK1.out⟩
 have n7_ : Aside0 (((w62.setCell ⟨gb30, 0, none⟩ (.slice Ao63 t24.length co63)).setCell ⟨gb30, 1, none⟩ (.slice Ao69 t27.length co69)).heap[gb2]? = some (.cells #[.slice A1_0 l1_0.length c1_0, .slice A1_1 l1_1.length c1_1] 38 (0, 0))) := ⟨by (with_reducible repeat (first | refine blk_drewN ?_ _ | refine blk_drew ?_ | refine blk_alloc ?_ _)); refine blk_far ?_ NB2_30.out _; (with_reducible repeat (first | refine blk_drewN ?_ _ | refine blk_drew ?_ | refine blk_alloc ?_ _)); refine blk_far ?_ NB2_30.out _; (with_reducible repeat (first | refine blk_drewN ?_ _ | refine blk_drew ?_ | refine blk_alloc ?_ _)); exact BK2.out⟩
 have n8_ : Aside0 (((w62.setCell ⟨gb30, 0, none⟩ (.slice Ao63 t24.length co63)).setCell ⟨gb30, 1, none⟩ (.slice Ao69 t27.length co69)).heap[gb3]? = some (.cells #[.int .i64 a2_0, .bool a2_1] 86 (0, 0))) := ⟨by (with_reducible repeat (first | refine blk_drewN ?_ _ | refine blk_drew ?_ | refine blk_alloc ?_ _)); refine blk_far ?_ NB3_30.out _; (with_reducible repeat (first | refine blk_drewN ?_ _ | refine blk_drew ?_ | refine blk_alloc ?_ _)); refine blk_far ?_ NB3_30.out _; (with_reducible repeat (first | refine blk_drewN ?_ _ | refine blk_drew ?_ | refine blk_alloc ?_ _)); exact BK3.out⟩
 have n9_ : Aside0 (((w62.setCell ⟨gb30, 0, none⟩ (.slice Ao63 t24.length co63)).setCell ⟨gb30, 1, none⟩ (.slice Ao69 t27.length co69)).heap[gb23]? = some (.cells #[.int .i64 t19, .slice Ao59 t20.length co59] 64 (0, 0))) := ⟨by (with_reducible repeat (first | refine blk_drewN ?_ _ | refine blk_drew ?_ | refine blk_alloc ?_ _)); refine blk_far ?_ NB23_30.out _; (with_reducible repeat (first | refine blk_drewN ?_ _ | refine blk_drew ?_ | refine blk_alloc ?_ _)); refine blk_far ?_ NB23_30.out _; (with_reducible repeat (first | refine blk_drewN ?_ _ | refine blk_drew ?_ | refine blk_alloc ?_ _)); exact BK23.out⟩
 have n10_ : Aside0 (((w62.setCell ⟨gb30, 0, none⟩ (.slice Ao63 t24.length co63)).setCell ⟨gb30, 1, none⟩ (.slice Ao69 t27.length co69)).heap[gb30]? = some (.cells #[.slice Ao63 t24.length co63, .slice Ao69 t27.length co69] 46 (0, 0))) := ⟨by (with_reducible repeat (first | refine blk_drewN ?_ _ | refine blk_drew ?_ | refine blk_alloc ?_ _)); refine blk_put (cs := #[.slice Ao63 t24.length co63, .slice none 0 0]) ?_ 1 _ rfl; (with_reducible repeat (first | refine blk_drewN ?_ _ | refine blk_drew ?_ | refine blk_alloc ?_ _)); refine blk_put (cs := #[.slice none 0 0, .slice none 0 0]) ?_ 0 _ rfl; (with_reducible repeat (first | refine blk_drewN ?_ _ | refine blk_drew ?_ | refine blk_alloc ?_ _)); exact BK30.out⟩
 have n11_ : Aside0 (Below w.heap.size w ((w62.setCell ⟨gb30, 0, none⟩ (.slice Ao63 t24.length co63)).setCell ⟨gb30, 1, none⟩ (.slice Ao69 t27.length co69))) := ⟨bw_⟩
 (try clear HO9)
 (try clear HO12)
 (try clear HO15)
 (try clear HO22)
 (try clear HO26)
 (try clear HO29)
 (try clear BK1)
 (try clear BK2)
 (try clear BK3)
 (try clear BK23)
 (try clear BK30)
 (try clear HB)
 generalize ((w62.setCell ⟨gb30, 0, none⟩ (.slice Ao63 t24.length co63)).setCell ⟨gb30, 1, none⟩ (.slice Ao69 t27.length co69)) = w70 at n0_ n1_ n2_ n3_ n4_ n5_ n6_ n7_ n8_ n9_ n10_ n11_ ⊢
 have HO9 := n0_
 have HO12 := n1_
 have HO15 := n2_
 have HO22 := n3_
 have HO26 := n4_
 have HO29 := n5_
 have BK1 := n6_
 have BK2 := n7_
 have BK3 := n8_
 have BK23 := n9_
 have BK30 := n10_
 have HB := n11_
 clear n0_ n1_ n2_ n3_ n4_ n5_ n6_ n7_ n8_ n9_ n10_ n11_
 have n0_ := Aside0.mk (Kd.S_drew HO9.out)
 have n1_ := Aside0.mk (Kd.R_drew HO12.out)
 have n2_ := Aside0.mk (Kd.S_drew HO15.out)
 have n3_ := Aside0.mk (Kd.S_drew HO22.out)
 have n4_ := Aside0.mk (Kd.R_drew HO26.out)
 have n5_ := Aside0.mk (Kd.S_drew HO29.out)
 have n6_ := Aside0.mk (blk_drew BK1.out)
 have n7_ := Aside0.mk (blk_drew BK2.out)
 have n8_ := Aside0.mk (blk_drew BK3.out)
 have n9_ := Aside0.mk (blk_drew BK23.out)
 have n10_ := Aside0.mk (blk_drew BK30.out)
 have n11_ := Aside0.mk (below_drew1 HB.out)
 clear HO9
 clear HO12
 clear HO15
 clear HO22
 clear HO26
 clear HO29
 clear BK1
 clear BK2
 clear BK3
 clear BK23
 clear BK30
 clear HB
 have HO9 := n0_
 have HO12 := n1_
 have HO15 := n2_
 have HO22 := n3_
 have HO26 := n4_
 have HO29 := n5_
 have BK1 := n6_
 have BK2 := n7_
 have BK3 := n8_
 have BK23 := n9_
 have BK30 := n10_
 have HB := n11_
 clear n0_ n1_ n2_ n3_ n4_ n5_ n6_ n7_ n8_ n9_ n10_ n11_
 refine start_ (n := 6) (S := fun w' => w'.cell? ⟨gb23, 0, none⟩ = some (.int .i64 t19) ∧ w'.cell? ⟨gb23, 1, none⟩ = some (.slice Ao59 t20.length co59) ∧ w'.cell? ⟨gb30, 0, none⟩ = some (.slice Ao63 t24.length co63) ∧ w'.cell? ⟨gb30, 1, none⟩ = some (.slice Ao69 t27.length co69) ∧ w'.cell? ⟨gb3, 0, none⟩ = some (.int .i64 a2_0) ∧ w'.cell? ⟨gb3, 1, none⟩ = some (.bool a2_1)) (ds := []) #[false, false, false, false, false, false] (by kernel_rfl) rfl rfl ⟨(blk_cell BK23.out 0).trans rfl, (blk_cell BK23.out 1).trans rfl, (blk_cell BK30.out 0).trans rfl, (blk_cell BK30.out 1).trans rfl, (blk_cell BK3.out 0).trans rfl, (blk_cell BK3.out 1).trans rfl⟩ (fun hHeld => ?_)
 generalize w70.drew = w71 at HO9 HO12 HO15 HO22 HO26 HO29 BK1 BK2 BK3 BK23 BK30 HB hHeld ⊢
 refine take_ (i := 0) (N := some 33) (v := ?_) (a' := ?_) #[true, false, false, false, false, false] rfl rfl (by kernel_rfl) (fun _ _ _ h => h) (Or.inl ⟨by rfl, ?_⟩) hHeld ?_ ?_
 rotate_left
 ·rintro w' ⟨s0, s1, s2, s3, s4, s5⟩
  go_simp
  with_reducible rfl
 rotate_left
 ·simp only [Act.put, List.setIfInBounds_toArray, List.set_cons_zero, List.set_cons_succ, i64_w, i32_w]
  rfl
 refine take_ (i := 1) (N := some 34) (v := ?_) (a' := ?_) #[true, true, false, false, false, false] rfl rfl (by kernel_rfl) (fun _ _ _ h => h) (Or.inl ⟨by rfl, ?_⟩) hHeld ?_ ?_
 rotate_left
 ·rintro w' ⟨s0, s1, s2, s3, s4, s5⟩
  go_simp
  with_reducible rfl
 rotate_left
 ·simp only [Act.put, List.setIfInBounds_toArray, List.set_cons_zero, List.set_cons_succ, i64_w, i32_w]
  rfl
 refine take_ (i := 2) (N := some 35) (v := ?_) (a' := ?_) #[true, true, true, false, false, false] rfl rfl (by kernel_rfl) (fun _ _ _ h => h) (Or.inl ⟨by rfl, ?_⟩) hHeld ?_ ?_
 rotate_left
 ·rintro w' ⟨s0, s1, s2, s3, s4, s5⟩
  go_simp
  with_reducible rfl
 rotate_left
 ·simp only [Act.put, List.setIfInBounds_toArray, List.set_cons_zero, List.set_cons_succ, i64_w, i32_w]
  rfl
 refine one_ (i := 3) (N := some 36) #[true, true, true, true, false, false] rfl rfl (by kernel_rfl) (by decide) (fun K hK => ?_)
 refine goes_ Try.func68 (by kernel_rfl) rfl #[.agg #[.int .i64 a2_0, .bool a2_1]] (by rfl) rfl rfl ar_ ?_
 with_reducible refine (laws_toMove.calls a2_0 a2_1 t31 t32 _ A31.out).mono ?_
 rintro e w72 ⟨rfl, hb⟩
 refine ⟨_, rfl, ?_⟩
 have n0_ := Aside0.mk (Kd.S_below (by (with_reducible repeat (first | apply Kd.S_alloc | apply Kd.S_drewN | apply Kd.S_drew)); exact HO9.out) hb)
 have n1_ := Aside0.mk (Kd.R_below (by (with_reducible repeat (first | apply Kd.R_alloc | apply Kd.R_drewN | apply Kd.R_drew)); exact HO12.out) hb)
 have n2_ := Aside0.mk (Kd.S_below (by (with_reducible repeat (first | apply Kd.S_alloc | apply Kd.S_drewN | apply Kd.S_drew)); exact HO15.out) hb)
 have n3_ := Aside0.mk (Kd.S_below (by (with_reducible repeat (first | apply Kd.S_alloc | apply Kd.S_drewN | apply Kd.S_drew)); exact HO22.out) hb)
 have n4_ := Aside0.mk (Kd.R_below (by (with_reducible repeat (first | apply Kd.R_alloc | apply Kd.R_drewN | apply Kd.R_drew)); exact HO26.out) hb)
 have n5_ := Aside0.mk (Kd.S_below (by (with_reducible repeat (first | apply Kd.S_alloc | apply Kd.S_drewN | apply Kd.S_drew)); exact HO29.out) hb)
 have n6_ := Aside0.mk (blk_below (g := gb1) (o := .cells #[.int .i64 a0_0, .slice A0_1 l0_1.length c0_1] 60 (0, 0)) bk_ hb)
 have n7_ := Aside0.mk (blk_below (g := gb2) (o := .cells #[.slice A1_0 l1_0.length c1_0, .slice A1_1 l1_1.length c1_1] 38 (0, 0)) bk_ hb)
 have n8_ := Aside0.mk (blk_below (g := gb3) (o := .cells #[.int .i64 a2_0, .bool a2_1] 86 (0, 0)) bk_ hb)
 have n9_ := Aside0.mk (blk_below (g := gb23) (o := .cells #[.int .i64 t19, .slice Ao59 t20.length co59] 64 (0, 0)) bk_ hb)
 have n10_ := Aside0.mk (blk_below (g := gb30) (o := .cells #[.slice Ao63 t24.length co63, .slice Ao69 t27.length co69] 46 (0, 0)) bk_ hb)
 have n11_ := Aside0.mk (below_step bw_ hb)
 clear HO9
 clear HO12
 clear HO15
 clear HO22
 clear HO26
 clear HO29
 clear BK1
 clear BK2
 clear BK3
 clear BK23
 clear BK30
 clear HB
 have HO9 := n0_
 have HO12 := n1_
 have HO15 := n2_
 have HO22 := n3_
 have HO26 := n4_
 have HO29 := n5_
 have BK1 := n6_
 have BK2 := n7_
 have BK3 := n8_
 have BK23 := n9_
 have BK30 := n10_
 have HB := n11_
 clear n0_ n1_ n2_ n3_ n4_ n5_ n6_ n7_ n8_ n9_ n10_ n11_
 (try clear hb)
 (try clear hb2)
 (try clear hk)
 (try clear hi)
 refine hK.out _ _ ⟨(blk_cell BK23.out 0).trans rfl, (blk_cell BK23.out 1).trans rfl, (blk_cell BK30.out 0).trans rfl, (blk_cell BK30.out 1).trans rfl, (blk_cell BK3.out 0).trans rfl, (blk_cell BK3.out 1).trans rfl⟩ (fun hHeld => ?_)
 clear hK K
 refine norm_ (a' := ?_) ?_ ?_
 rotate_left
 ·show Act.put _ (some 36) _ = _
  simp only [Act.put, List.setIfInBounds_toArray, List.set_cons_zero, List.set_cons_succ, i64_w, i32_w]
  rfl
 refine one_ (i := 4) (N := some 37) #[true, true, true, true, true, false] rfl rfl (by kernel_rfl) (by decide) (fun K hK => ?_)
 refine goes_ Try.func69 (by kernel_rfl) rfl #[.agg #[.int .i64 t19, .slice Ao59 t20.length co59], .agg #[.slice Ao63 t24.length co63, .slice Ao69 t27.length co69], .agg #[.int .i64 t31, .bool t32]] (by rfl) rfl rfl ar_ ?_
 with_reducible refine (impl_CanMove.calls k t19 _ _ t20 _ _ t24 _ _ t27 t31 t32 t33 _ ?side1 ?side2 ?side3 ?side4 ?side5 ?side6 A32.out).mono ?_
 (case side1 => repeat (first | exact (Kd.S_reads' HO22.out).2.2 | (with_reducible refine Kd.C_alloc ?_ _) | (with_reducible refine Kd.C_drewN ?_ _) | (with_reducible refine Kd.C_drew ?_)))
 (case side2 => exact (Kd.S_reads' HO22.out).2.1)
 (case side3 => repeat (first | exact (Kd.R_reads' HO26.out).2.2 | (with_reducible refine Kd.C_alloc ?_ _) | (with_reducible refine Kd.C_drewN ?_ _) | (with_reducible refine Kd.C_drew ?_)))
 (case side4 => exact (Kd.R_reads' HO26.out).2.1)
 (case side5 => repeat (first | exact (Kd.S_reads' HO29.out).2.2 | (with_reducible refine Kd.C_alloc ?_ _) | (with_reducible refine Kd.C_drewN ?_ _) | (with_reducible refine Kd.C_drew ?_)))
 (case side6 => exact (Kd.S_reads' HO29.out).2.1)
 rintro e w73 ⟨rfl, hb⟩
 refine ⟨_, rfl, ?_⟩
 have n0_ := Aside0.mk (Kd.S_below (by (with_reducible repeat (first | apply Kd.S_alloc | apply Kd.S_drewN | apply Kd.S_drew)); exact HO9.out) hb)
 have n1_ := Aside0.mk (Kd.R_below (by (with_reducible repeat (first | apply Kd.R_alloc | apply Kd.R_drewN | apply Kd.R_drew)); exact HO12.out) hb)
 have n2_ := Aside0.mk (Kd.S_below (by (with_reducible repeat (first | apply Kd.S_alloc | apply Kd.S_drewN | apply Kd.S_drew)); exact HO15.out) hb)
 have n3_ := Aside0.mk (Kd.S_below (by (with_reducible repeat (first | apply Kd.S_alloc | apply Kd.S_drewN | apply Kd.S_drew)); exact HO22.out) hb)
 have n4_ := Aside0.mk (Kd.R_below (by (with_reducible repeat (first | apply Kd.R_alloc | apply Kd.R_drewN | apply Kd.R_drew)); exact HO26.out) hb)
 have n5_ := Aside0.mk (Kd.S_below (by (with_reducible repeat (first | apply Kd.S_alloc | apply Kd.S_drewN | apply Kd.S_drew)); exact HO29.out) hb)
 have n6_ := Aside0.mk (blk_below (g := gb1) (o := .cells #[.int .i64 a0_0, .slice A0_1 l0_1.length c0_1] 60 (0, 0)) bk_ hb)
 have n7_ := Aside0.mk (blk_below (g := gb2) (o := .cells #[.slice A1_0 l1_0.length c1_0, .slice A1_1 l1_1.length c1_1] 38 (0, 0)) bk_ hb)
 have n8_ := Aside0.mk (blk_below (g := gb3) (o := .cells #[.int .i64 a2_0, .bool a2_1] 86 (0, 0)) bk_ hb)
 have n9_ := Aside0.mk (blk_below (g := gb23) (o := .cells #[.int .i64 t19, .slice Ao59 t20.length co59] 64 (0, 0)) bk_ hb)
 have n10_ := Aside0.mk (blk_below (g := gb30) (o := .cells #[.slice Ao63 t24.length co63, .slice Ao69 t27.length co69] 46 (0, 0)) bk_ hb)
 have n11_ := Aside0.mk (below_step bw_ hb)
 clear HO9
 clear HO12
 clear HO15
 clear HO22
 clear HO26
 clear HO29
 clear BK1
 clear BK2
 clear BK3
 clear BK23
 clear BK30
 clear HB
 have HO9 := n0_
 have HO12 := n1_
 have HO15 := n2_
 have HO22 := n3_
 have HO26 := n4_
 have HO29 := n5_
 have BK1 := n6_
 have BK2 := n7_
 have BK3 := n8_
 have BK23 := n9_
 have BK30 := n10_
 have HB := n11_
 clear n0_ n1_ n2_ n3_ n4_ n5_ n6_ n7_ n8_ n9_ n10_ n11_
 (try clear hb)
 (try clear hb2)
 (try clear hk)
 (try clear hi)
 refine hK.out _ _ ⟨(blk_cell BK23.out 0).trans rfl, (blk_cell BK23.out 1).trans rfl, (blk_cell BK30.out 0).trans rfl, (blk_cell BK30.out 1).trans rfl, (blk_cell BK3.out 0).trans rfl, (blk_cell BK3.out 1).trans rfl⟩ (fun hHeld => ?_)
 clear hK K
 refine norm_ (a' := ?_) ?_ ?_
 rotate_left
 ·show Act.put _ (some 37) _ = _
  simp only [Act.put, List.setIfInBounds_toArray, List.set_cons_zero, List.set_cons_succ, i64_w, i32_w]
  rfl
 refine pure_ (i := 5) (N := some 11) (v := ?_) (a' := ?_) #[true, true, true, true, true, true] rfl rfl (by kernel_rfl) (fun _ _ _ h => h) (Or.inl ⟨by rfl, ?_⟩) ?_ ?_
 rotate_left
 ·intro w'
  go_simp
  with_reducible rfl
 rotate_left
 ·simp only [Act.put, List.setIfInBounds_toArray, List.set_cons_zero, List.set_cons_succ, i64_w, i32_w]
  rfl
 refine done_ (by kernel_rfl) ?_
 by_cases c33 : (t33 != t18) = true
 ·rw [if_pos c33] at H
  have c33b0 : (t33 != t18) = true := c33
  (try (have c33b1 : decide (t33 = t18) = false := by simpa using c33))
  (try (have c33b2 : (t33 == t18) = false := by simpa using c33))
  (try (have c33b3 : ¬ (t33 = t18) := by simpa using c33))
  clear c33
  obtain rfl := Option.some.inj H
  try go_wp2
  go_ret
  exact ⟨rr_, bw_⟩
 rw [if_neg c33] at H
 have c33b0 : (t33 != t18) = false := by simpa using c33
 (try (have c33b1 : decide (t33 = t18) = true := by simpa using c33))
 (try (have c33b2 : (t33 == t18) = true := by simpa using c33))
 clear c33
 replace H := Option.bind_eq_some_iff.mp H
 obtain ⟨⟨t34, t35⟩, A740, H⟩ := H
 replace H : ((laws_eqProg.f k t19 t20 t34 t35).bind fun t38 => (if t38 = true then ((laws_toMachine.f k l1_0 l1_1).bind fun bt39 => ((laws_eqMachine.f k t24 t27 bt39.1 bt39.2).bind fun t45 => (if t45 = true then (some true) else (some false)))) else (some false))) = some r := H
 have A74 := Aside0.mk A740
 clear A740
 replace H := Option.bind_eq_some_iff.mp H
 obtain ⟨t38, A750, H⟩ := H
 replace H : (if t38 = true then ((laws_toMachine.f k l1_0 l1_1).bind fun bt39 => ((laws_eqMachine.f k t24 t27 bt39.1 bt39.2).bind fun t45 => (if t45 = true then (some true) else (some false)))) else (some false)) = some r := H
 have A75 := Aside0.mk A750
 clear A750
 by_cases c76 : t38 = true
 rotate_left
 ·replace c76 := Bool.eq_false_iff.mpr c76
  subst c76
  have H1 : (some false) = some r := by rw [if_neg (show ¬ (false = true) by decide)] at H; exact H
  clear H
  have H := H1
  clear H1
  obtain rfl := Option.some.inj H
  try go_wp2
  have n0_ := Aside0.mk (Kd.S_drew HO9.out)
  have n1_ := Aside0.mk (Kd.R_drew HO12.out)
  have n2_ := Aside0.mk (Kd.S_drew HO15.out)
  have n3_ := Aside0.mk (Kd.S_drew HO22.out)
  have n4_ := Aside0.mk (Kd.R_drew HO26.out)
  have n5_ := Aside0.mk (Kd.S_drew HO29.out)
  have n6_ := Aside0.mk (blk_drew BK1.out)
  have n7_ := Aside0.mk (blk_drew BK2.out)
  have n8_ := Aside0.mk (blk_drew BK3.out)
  have n9_ := Aside0.mk (blk_drew BK23.out)
  have n10_ := Aside0.mk (blk_drew BK30.out)
  have n11_ := Aside0.mk (below_drew1 HB.out)
  clear HO9
  clear HO12
  clear HO15
  clear HO22
  clear HO26
  clear HO29
  clear BK1
  clear BK2
  clear BK3
  clear BK23
  clear BK30
  clear HB
  have HO9 := n0_
  have HO12 := n1_
  have HO15 := n2_
  have HO22 := n3_
  have HO26 := n4_
  have HO29 := n5_
  have BK1 := n6_
  have BK2 := n7_
  have BK3 := n8_
  have BK23 := n9_
  have BK30 := n10_
  have HB := n11_
  clear n0_ n1_ n2_ n3_ n4_ n5_ n6_ n7_ n8_ n9_ n10_ n11_
  refine start_ (n := 5) (S := fun w' => w'.cell? ⟨gb23, 0, none⟩ = some (.int .i64 t19) ∧ w'.cell? ⟨gb23, 1, none⟩ = some (.slice Ao59 t20.length co59) ∧ w'.cell? ⟨gb1, 0, none⟩ = some (.int .i64 a0_0) ∧ w'.cell? ⟨gb1, 1, none⟩ = some (.slice A0_1 l0_1.length c0_1)) (ds := []) #[false, false, false, false, false] (by kernel_rfl) rfl rfl ⟨(blk_cell BK23.out 0).trans rfl, (blk_cell BK23.out 1).trans rfl, (blk_cell BK1.out 0).trans rfl, (blk_cell BK1.out 1).trans rfl⟩ (fun hHeld => ?_)
  generalize w73.drew = w218 at HO9 HO12 HO15 HO22 HO26 HO29 BK1 BK2 BK3 BK23 BK30 HB hHeld ⊢
  refine take_ (i := 0) (N := some 41) (v := ?_) (a' := ?_) #[true, false, false, false, false] rfl rfl (by kernel_rfl) (fun _ _ _ h => h) (Or.inl ⟨by rfl, ?_⟩) hHeld ?_ ?_
  rotate_left
  ·rintro w' ⟨s0, s1, s2, s3⟩
   go_simp
   with_reducible rfl
  rotate_left
  ·simp only [Act.put, List.setIfInBounds_toArray, List.set_cons_zero, List.set_cons_succ, i64_w, i32_w]
   rfl
  refine take_ (i := 1) (N := some 42) (v := ?_) (a' := ?_) #[true, true, false, false, false] rfl rfl (by kernel_rfl) (fun _ _ _ h => h) (Or.inl ⟨by rfl, ?_⟩) hHeld ?_ ?_
  rotate_left
  ·rintro w' ⟨s0, s1, s2, s3⟩
   go_simp
   with_reducible rfl
  rotate_left
  ·simp only [Act.put, List.setIfInBounds_toArray, List.set_cons_zero, List.set_cons_succ, i64_w, i32_w]
   rfl
  refine one_ (i := 2) (N := some 43) #[true, true, true, false, false] rfl rfl (by kernel_rfl) (by decide) (fun K hK => ?_)
  refine goes_ Try.func45 (by kernel_rfl) rfl #[.agg #[.int .i64 a0_0, .slice A0_1 l0_1.length c0_1]] (by rfl) rfl rfl ar_ ?_
  with_reducible refine (laws_toProg.calls k a0_0 _ _ l0_1 t34 t35 _ ?side1 ?side2 A74.out).mono ?_
  (case side1 => exact cb_)
  (case side2 => exact HC0_1.out)
  rintro e w219 ⟨v36, rfl, ho0, hb⟩
  refine ⟨_, rfl, ?_⟩
  have n0_ := Aside0.mk (Kd.S_elder' (by (with_reducible repeat (first | apply Kd.S_alloc | apply Kd.S_drewN | apply Kd.S_drew)); exact HO9.out) (Kd.S_base ho0) hb)
  have n1_ := Aside0.mk (Kd.R_below (by (with_reducible repeat (first | apply Kd.R_alloc | apply Kd.R_drewN | apply Kd.R_drew)); exact HO12.out) hb)
  have n2_ := Aside0.mk (Kd.S_below (by (with_reducible repeat (first | apply Kd.S_alloc | apply Kd.S_drewN | apply Kd.S_drew)); exact HO15.out) hb)
  have n3_ := Aside0.mk (Kd.S_elder' (by (with_reducible repeat (first | apply Kd.S_alloc | apply Kd.S_drewN | apply Kd.S_drew)); exact HO22.out) (Kd.S_base ho0) hb)
  have n4_ := Aside0.mk (Kd.R_below (by (with_reducible repeat (first | apply Kd.R_alloc | apply Kd.R_drewN | apply Kd.R_drew)); exact HO26.out) hb)
  have n5_ := Aside0.mk (Kd.S_below (by (with_reducible repeat (first | apply Kd.S_alloc | apply Kd.S_drewN | apply Kd.S_drew)); exact HO29.out) hb)
  have n6_ := Aside0.mk (Kd.S_lower (Kd.S_new' (Kd.S_new' ho0 (Kd.S_lt (by (with_reducible repeat (first | apply Kd.S_alloc | apply Kd.S_drewN | apply Kd.S_drew)); exact HO9.out))) (Kd.S_lt (by (with_reducible repeat (first | apply Kd.S_alloc | apply Kd.S_drewN | apply Kd.S_drew)); exact HO22.out))) (below_size bw_))
  have n7_ := Aside0.mk (blk_below (g := gb1) (o := .cells #[.int .i64 a0_0, .slice A0_1 l0_1.length c0_1] 60 (0, 0)) bk_ hb)
  have n8_ := Aside0.mk (blk_below (g := gb2) (o := .cells #[.slice A1_0 l1_0.length c1_0, .slice A1_1 l1_1.length c1_1] 38 (0, 0)) bk_ hb)
  have n9_ := Aside0.mk (blk_below (g := gb3) (o := .cells #[.int .i64 a2_0, .bool a2_1] 86 (0, 0)) bk_ hb)
  have n10_ := Aside0.mk (blk_below (g := gb23) (o := .cells #[.int .i64 t19, .slice Ao59 t20.length co59] 64 (0, 0)) bk_ hb)
  have n11_ := Aside0.mk (blk_below (g := gb30) (o := .cells #[.slice Ao63 t24.length co63, .slice Ao69 t27.length co69] 46 (0, 0)) bk_ hb)
  have n12_ := Aside0.mk (below_step bw_ hb)
  clear HO9
  clear HO12
  clear HO15
  clear HO22
  clear HO26
  clear HO29
  clear BK1
  clear BK2
  clear BK3
  clear BK23
  clear BK30
  clear HB
  have HO9 := n0_
  have HO12 := n1_
  have HO15 := n2_
  have HO22 := n3_
  have HO26 := n4_
  have HO29 := n5_
  have HO37 := n6_
  have BK1 := n7_
  have BK2 := n8_
  have BK3 := n9_
  have BK23 := n10_
  have BK30 := n11_
  have HB := n12_
  clear n0_ n1_ n2_ n3_ n4_ n5_ n6_ n7_ n8_ n9_ n10_ n11_ n12_
  (try clear hb)
  (try clear hb2)
  (try clear hk)
  (try clear hi)
  (try clear ho0)
  obtain ⟨Ao220, co220, eo220⟩ := Kd.S_slice HO37.out
  (first | subst eo220 | (injection eo220 with f1_ f2_ f3_; have f4_ := f1_.symm; have f5_ := f3_.symm; clear f1_ f2_ f3_; subst f4_; subst f5_))
  refine hK.out _ _ ⟨(blk_cell BK23.out 0).trans rfl, (blk_cell BK23.out 1).trans rfl, (blk_cell BK1.out 0).trans rfl, (blk_cell BK1.out 1).trans rfl⟩ (fun hHeld => ?_)
  clear hK K
  refine norm_ (a' := ?_) ?_ ?_
  rotate_left
  ·show Act.put _ (some 43) _ = _
   simp only [Act.put, List.setIfInBounds_toArray, List.set_cons_zero, List.set_cons_succ, i64_w, i32_w]
   rfl
  refine one_ (i := 3) (N := some 44) #[true, true, true, true, false] rfl rfl (by kernel_rfl) (by decide) (fun K hK => ?_)
  refine goes_ Try.func47 (by kernel_rfl) rfl #[.agg #[.int .i64 t19, .slice Ao59 t20.length co59], .agg #[.int .i64 t34, .slice Ao220 t35.length co220]] (by rfl) rfl rfl ar_ ?_
  with_reducible refine (laws_eqProg.calls k t19 _ _ t20 t34 _ _ t35 false _ ?side1 ?side2 ?side3 ?side4 A75.out).mono ?_
  (case side1 => repeat (first | exact (Kd.S_reads' HO22.out).2.2 | (with_reducible refine Kd.C_alloc ?_ _) | (with_reducible refine Kd.C_drewN ?_ _) | (with_reducible refine Kd.C_drew ?_)))
  (case side2 => exact (Kd.S_reads' HO22.out).2.1)
  (case side3 => repeat (first | exact (Kd.S_reads' HO37.out).2.2 | (with_reducible refine Kd.C_alloc ?_ _) | (with_reducible refine Kd.C_drewN ?_ _) | (with_reducible refine Kd.C_drew ?_)))
  (case side4 => exact (Kd.S_reads' HO37.out).2.1)
  rintro e w221 ⟨rfl, hb⟩
  refine ⟨_, rfl, ?_⟩
  have n0_ := Aside0.mk (Kd.S_below (by (with_reducible repeat (first | apply Kd.S_alloc | apply Kd.S_drewN | apply Kd.S_drew)); exact HO9.out) hb)
  have n1_ := Aside0.mk (Kd.R_below (by (with_reducible repeat (first | apply Kd.R_alloc | apply Kd.R_drewN | apply Kd.R_drew)); exact HO12.out) hb)
  have n2_ := Aside0.mk (Kd.S_below (by (with_reducible repeat (first | apply Kd.S_alloc | apply Kd.S_drewN | apply Kd.S_drew)); exact HO15.out) hb)
  have n3_ := Aside0.mk (Kd.S_below (by (with_reducible repeat (first | apply Kd.S_alloc | apply Kd.S_drewN | apply Kd.S_drew)); exact HO22.out) hb)
  have n4_ := Aside0.mk (Kd.R_below (by (with_reducible repeat (first | apply Kd.R_alloc | apply Kd.R_drewN | apply Kd.R_drew)); exact HO26.out) hb)
  have n5_ := Aside0.mk (Kd.S_below (by (with_reducible repeat (first | apply Kd.S_alloc | apply Kd.S_drewN | apply Kd.S_drew)); exact HO29.out) hb)
  have n6_ := Aside0.mk (Kd.S_below (by (with_reducible repeat (first | apply Kd.S_alloc | apply Kd.S_drewN | apply Kd.S_drew)); exact HO37.out) hb)
  have n7_ := Aside0.mk (blk_below (g := gb1) (o := .cells #[.int .i64 a0_0, .slice A0_1 l0_1.length c0_1] 60 (0, 0)) bk_ hb)
  have n8_ := Aside0.mk (blk_below (g := gb2) (o := .cells #[.slice A1_0 l1_0.length c1_0, .slice A1_1 l1_1.length c1_1] 38 (0, 0)) bk_ hb)
  have n9_ := Aside0.mk (blk_below (g := gb3) (o := .cells #[.int .i64 a2_0, .bool a2_1] 86 (0, 0)) bk_ hb)
  have n10_ := Aside0.mk (blk_below (g := gb23) (o := .cells #[.int .i64 t19, .slice Ao59 t20.length co59] 64 (0, 0)) bk_ hb)
  have n11_ := Aside0.mk (blk_below (g := gb30) (o := .cells #[.slice Ao63 t24.length co63, .slice Ao69 t27.length co69] 46 (0, 0)) bk_ hb)
  have n12_ := Aside0.mk (below_step bw_ hb)
  clear HO9
  clear HO12
  clear HO15
  clear HO22
  clear HO26
  clear HO29
  clear HO37
  clear BK1
  clear BK2
  clear BK3
  clear BK23
  clear BK30
  clear HB
  have HO9 := n0_
  have HO12 := n1_
  have HO15 := n2_
  have HO22 := n3_
  have HO26 := n4_
  have HO29 := n5_
  have HO37 := n6_
  have BK1 := n7_
  have BK2 := n8_
  have BK3 := n9_
  have BK23 := n10_
  have BK30 := n11_
  have HB := n12_
  clear n0_ n1_ n2_ n3_ n4_ n5_ n6_ n7_ n8_ n9_ n10_ n11_ n12_
  (try clear hb)
  (try clear hb2)
  (try clear hk)
  (try clear hi)
  refine hK.out _ _ ⟨(blk_cell BK23.out 0).trans rfl, (blk_cell BK23.out 1).trans rfl, (blk_cell BK1.out 0).trans rfl, (blk_cell BK1.out 1).trans rfl⟩ (fun hHeld => ?_)
  clear hK K
  refine norm_ (a' := ?_) ?_ ?_
  rotate_left
  ·show Act.put _ (some 44) _ = _
   simp only [Act.put, List.setIfInBounds_toArray, List.set_cons_zero, List.set_cons_succ, i64_w, i32_w]
   rfl
  refine pure_ (i := 4) (N := some 45) (v := ?_) (a' := ?_) #[true, true, true, true, true] rfl rfl (by kernel_rfl) (fun _ _ _ h => h) (Or.inl ⟨by rfl, ?_⟩) ?_ ?_
  rotate_left
  ·intro w'
   go_simp
   with_reducible rfl
  rotate_left
  ·simp only [Act.put, List.setIfInBounds_toArray, List.set_cons_zero, List.set_cons_succ, i64_w, i32_w]
   rfl
  refine done_ (by kernel_rfl) ?_
  try go_wp2
  go_ret
  exact ⟨rr_, bw_⟩
 subst c76
 have H1 : ((laws_toMachine.f k l1_0 l1_1).bind fun bt39 => ((laws_eqMachine.f k t24 t27 bt39.1 bt39.2).bind fun t45 => (if t45 = true then (some true) else (some false)))) = some r := by rw [if_pos rfl] at H; exact H
 clear H
 have H := H1
 clear H1
 replace H := Option.bind_eq_some_iff.mp H
 obtain ⟨⟨t39, t42⟩, A770, H⟩ := H
 replace H : ((laws_eqMachine.f k t24 t27 t39 t42).bind fun t45 => (if t45 = true then (some true) else (some false))) = some r := H
 have A77 := Aside0.mk A770
 clear A770
 replace H := Option.bind_eq_some_iff.mp H
 obtain ⟨t45, A780, H⟩ := H
 replace H : (if t45 = true then (some true) else (some false)) = some r := H
 have A78 := Aside0.mk A780
 clear A780
 try go_wp2
 have n0_ := Aside0.mk (Kd.S_drew HO9.out)
 have n1_ := Aside0.mk (Kd.R_drew HO12.out)
 have n2_ := Aside0.mk (Kd.S_drew HO15.out)
 have n3_ := Aside0.mk (Kd.S_drew HO22.out)
 have n4_ := Aside0.mk (Kd.R_drew HO26.out)
 have n5_ := Aside0.mk (Kd.S_drew HO29.out)
 have n6_ := Aside0.mk (blk_drew BK1.out)
 have n7_ := Aside0.mk (blk_drew BK2.out)
 have n8_ := Aside0.mk (blk_drew BK3.out)
 have n9_ := Aside0.mk (blk_drew BK23.out)
 have n10_ := Aside0.mk (blk_drew BK30.out)
 have n11_ := Aside0.mk (below_drew1 HB.out)
 clear HO9
 clear HO12
 clear HO15
 clear HO22
 clear HO26
 clear HO29
 clear BK1
 clear BK2
 clear BK3
 clear BK23
 clear BK30
 clear HB
 have HO9 := n0_
 have HO12 := n1_
 have HO15 := n2_
 have HO22 := n3_
 have HO26 := n4_
 have HO29 := n5_
 have BK1 := n6_
 have BK2 := n7_
 have BK3 := n8_
 have BK23 := n9_
 have BK30 := n10_
 have HB := n11_
 clear n0_ n1_ n2_ n3_ n4_ n5_ n6_ n7_ n8_ n9_ n10_ n11_
 refine start_ (n := 5) (S := fun w' => w'.cell? ⟨gb23, 0, none⟩ = some (.int .i64 t19) ∧ w'.cell? ⟨gb23, 1, none⟩ = some (.slice Ao59 t20.length co59) ∧ w'.cell? ⟨gb1, 0, none⟩ = some (.int .i64 a0_0) ∧ w'.cell? ⟨gb1, 1, none⟩ = some (.slice A0_1 l0_1.length c0_1)) (ds := []) #[false, false, false, false, false] (by kernel_rfl) rfl rfl ⟨(blk_cell BK23.out 0).trans rfl, (blk_cell BK23.out 1).trans rfl, (blk_cell BK1.out 0).trans rfl, (blk_cell BK1.out 1).trans rfl⟩ (fun hHeld => ?_)
 generalize w73.drew = w120 at HO9 HO12 HO15 HO22 HO26 HO29 BK1 BK2 BK3 BK23 BK30 HB hHeld ⊢
 refine take_ (i := 0) (N := some 41) (v := ?_) (a' := ?_) #[true, false, false, false, false] rfl rfl (by kernel_rfl) (fun _ _ _ h => h) (Or.inl ⟨by rfl, ?_⟩) hHeld ?_ ?_
 rotate_left
 ·rintro w' ⟨s0, s1, s2, s3⟩
  go_simp
  with_reducible rfl
 rotate_left
 ·simp only [Act.put, List.setIfInBounds_toArray, List.set_cons_zero, List.set_cons_succ, i64_w, i32_w]
  rfl
 refine take_ (i := 1) (N := some 42) (v := ?_) (a' := ?_) #[true, true, false, false, false] rfl rfl (by kernel_rfl) (fun _ _ _ h => h) (Or.inl ⟨by rfl, ?_⟩) hHeld ?_ ?_
 rotate_left
 ·rintro w' ⟨s0, s1, s2, s3⟩
  go_simp
  with_reducible rfl
 rotate_left
 ·simp only [Act.put, List.setIfInBounds_toArray, List.set_cons_zero, List.set_cons_succ, i64_w, i32_w]
  rfl
 refine one_ (i := 2) (N := some 43) #[true, true, true, false, false] rfl rfl (by kernel_rfl) (by decide) (fun K hK => ?_)
 refine goes_ Try.func45 (by kernel_rfl) rfl #[.agg #[.int .i64 a0_0, .slice A0_1 l0_1.length c0_1]] (by rfl) rfl rfl ar_ ?_
 with_reducible refine (laws_toProg.calls k a0_0 _ _ l0_1 t34 t35 _ ?side1 ?side2 A74.out).mono ?_
 (case side1 => exact cb_)
 (case side2 => exact HC0_1.out)
 rintro e w121 ⟨v36, rfl, ho0, hb⟩
 refine ⟨_, rfl, ?_⟩
 have n0_ := Aside0.mk (Kd.S_elder' (by (with_reducible repeat (first | apply Kd.S_alloc | apply Kd.S_drewN | apply Kd.S_drew)); exact HO9.out) (Kd.S_base ho0) hb)
 have n1_ := Aside0.mk (Kd.R_below (by (with_reducible repeat (first | apply Kd.R_alloc | apply Kd.R_drewN | apply Kd.R_drew)); exact HO12.out) hb)
 have n2_ := Aside0.mk (Kd.S_below (by (with_reducible repeat (first | apply Kd.S_alloc | apply Kd.S_drewN | apply Kd.S_drew)); exact HO15.out) hb)
 have n3_ := Aside0.mk (Kd.S_elder' (by (with_reducible repeat (first | apply Kd.S_alloc | apply Kd.S_drewN | apply Kd.S_drew)); exact HO22.out) (Kd.S_base ho0) hb)
 have n4_ := Aside0.mk (Kd.R_below (by (with_reducible repeat (first | apply Kd.R_alloc | apply Kd.R_drewN | apply Kd.R_drew)); exact HO26.out) hb)
 have n5_ := Aside0.mk (Kd.S_below (by (with_reducible repeat (first | apply Kd.S_alloc | apply Kd.S_drewN | apply Kd.S_drew)); exact HO29.out) hb)
 have n6_ := Aside0.mk (Kd.S_lower (Kd.S_new' (Kd.S_new' ho0 (Kd.S_lt (by (with_reducible repeat (first | apply Kd.S_alloc | apply Kd.S_drewN | apply Kd.S_drew)); exact HO9.out))) (Kd.S_lt (by (with_reducible repeat (first | apply Kd.S_alloc | apply Kd.S_drewN | apply Kd.S_drew)); exact HO22.out))) (below_size bw_))
 have n7_ := Aside0.mk (blk_below (g := gb1) (o := .cells #[.int .i64 a0_0, .slice A0_1 l0_1.length c0_1] 60 (0, 0)) bk_ hb)
 have n8_ := Aside0.mk (blk_below (g := gb2) (o := .cells #[.slice A1_0 l1_0.length c1_0, .slice A1_1 l1_1.length c1_1] 38 (0, 0)) bk_ hb)
 have n9_ := Aside0.mk (blk_below (g := gb3) (o := .cells #[.int .i64 a2_0, .bool a2_1] 86 (0, 0)) bk_ hb)
 have n10_ := Aside0.mk (blk_below (g := gb23) (o := .cells #[.int .i64 t19, .slice Ao59 t20.length co59] 64 (0, 0)) bk_ hb)
 have n11_ := Aside0.mk (blk_below (g := gb30) (o := .cells #[.slice Ao63 t24.length co63, .slice Ao69 t27.length co69] 46 (0, 0)) bk_ hb)
 have n12_ := Aside0.mk (below_step bw_ hb)
 clear HO9
 clear HO12
 clear HO15
 clear HO22
 clear HO26
 clear HO29
 clear BK1
 clear BK2
 clear BK3
 clear BK23
 clear BK30
 clear HB
 have HO9 := n0_
 have HO12 := n1_
 have HO15 := n2_
 have HO22 := n3_
 have HO26 := n4_
 have HO29 := n5_
 have HO37 := n6_
 have BK1 := n7_
 have BK2 := n8_
 have BK3 := n9_
 have BK23 := n10_
 have BK30 := n11_
 have HB := n12_
 clear n0_ n1_ n2_ n3_ n4_ n5_ n6_ n7_ n8_ n9_ n10_ n11_ n12_
 (try clear hb)
 (try clear hb2)
 (try clear hk)
 (try clear hi)
 (try clear ho0)
 obtain ⟨Ao122, co122, eo122⟩ := Kd.S_slice HO37.out
 (first | subst eo122 | (injection eo122 with f1_ f2_ f3_; have f4_ := f1_.symm; have f5_ := f3_.symm; clear f1_ f2_ f3_; subst f4_; subst f5_))
 refine hK.out _ _ ⟨(blk_cell BK23.out 0).trans rfl, (blk_cell BK23.out 1).trans rfl, (blk_cell BK1.out 0).trans rfl, (blk_cell BK1.out 1).trans rfl⟩ (fun hHeld => ?_)
 clear hK K
 refine norm_ (a' := ?_) ?_ ?_
 rotate_left
 ·show Act.put _ (some 43) _ = _
  simp only [Act.put, List.setIfInBounds_toArray, List.set_cons_zero, List.set_cons_succ, i64_w, i32_w]
  rfl
 refine one_ (i := 3) (N := some 44) #[true, true, true, true, false] rfl rfl (by kernel_rfl) (by decide) (fun K hK => ?_)
 refine goes_ Try.func47 (by kernel_rfl) rfl #[.agg #[.int .i64 t19, .slice Ao59 t20.length co59], .agg #[.int .i64 t34, .slice Ao122 t35.length co122]] (by rfl) rfl rfl ar_ ?_
 with_reducible refine (laws_eqProg.calls k t19 _ _ t20 t34 _ _ t35 true _ ?side1 ?side2 ?side3 ?side4 A75.out).mono ?_
 (case side1 => repeat (first | exact (Kd.S_reads' HO22.out).2.2 | (with_reducible refine Kd.C_alloc ?_ _) | (with_reducible refine Kd.C_drewN ?_ _) | (with_reducible refine Kd.C_drew ?_)))
 (case side2 => exact (Kd.S_reads' HO22.out).2.1)
 (case side3 => repeat (first | exact (Kd.S_reads' HO37.out).2.2 | (with_reducible refine Kd.C_alloc ?_ _) | (with_reducible refine Kd.C_drewN ?_ _) | (with_reducible refine Kd.C_drew ?_)))
 (case side4 => exact (Kd.S_reads' HO37.out).2.1)
 rintro e w123 ⟨rfl, hb⟩
 refine ⟨_, rfl, ?_⟩
 have n0_ := Aside0.mk (Kd.S_below (by (with_reducible repeat (first | apply Kd.S_alloc | apply Kd.S_drewN | apply Kd.S_drew)); exact HO9.out) hb)
 have n1_ := Aside0.mk (Kd.R_below (by (with_reducible repeat (first | apply Kd.R_alloc | apply Kd.R_drewN | apply Kd.R_drew)); exact HO12.out) hb)
 have n2_ := Aside0.mk (Kd.S_below (by (with_reducible repeat (first | apply Kd.S_alloc | apply Kd.S_drewN | apply Kd.S_drew)); exact HO15.out) hb)
 have n3_ := Aside0.mk (Kd.S_below (by (with_reducible repeat (first | apply Kd.S_alloc | apply Kd.S_drewN | apply Kd.S_drew)); exact HO22.out) hb)
 have n4_ := Aside0.mk (Kd.R_below (by (with_reducible repeat (first | apply Kd.R_alloc | apply Kd.R_drewN | apply Kd.R_drew)); exact HO26.out) hb)
 have n5_ := Aside0.mk (Kd.S_below (by (with_reducible repeat (first | apply Kd.S_alloc | apply Kd.S_drewN | apply Kd.S_drew)); exact HO29.out) hb)
 have n6_ := Aside0.mk (Kd.S_below (by (with_reducible repeat (first | apply Kd.S_alloc | apply Kd.S_drewN | apply Kd.S_drew)); exact HO37.out) hb)
 have n7_ := Aside0.mk (blk_below (g := gb1) (o := .cells #[.int .i64 a0_0, .slice A0_1 l0_1.length c0_1] 60 (0, 0)) bk_ hb)
 have n8_ := Aside0.mk (blk_below (g := gb2) (o := .cells #[.slice A1_0 l1_0.length c1_0, .slice A1_1 l1_1.length c1_1] 38 (0, 0)) bk_ hb)
 have n9_ := Aside0.mk (blk_below (g := gb3) (o := .cells #[.int .i64 a2_0, .bool a2_1] 86 (0, 0)) bk_ hb)
 have n10_ := Aside0.mk (blk_below (g := gb23) (o := .cells #[.int .i64 t19, .slice Ao59 t20.length co59] 64 (0, 0)) bk_ hb)
 have n11_ := Aside0.mk (blk_below (g := gb30) (o := .cells #[.slice Ao63 t24.length co63, .slice Ao69 t27.length co69] 46 (0, 0)) bk_ hb)
 have n12_ := Aside0.mk (below_step bw_ hb)
 clear HO9
 clear HO12
 clear HO15
 clear HO22
 clear HO26
 clear HO29
 clear HO37
 clear BK1
 clear BK2
 clear BK3
 clear BK23
 clear BK30
 clear HB
 have HO9 := n0_
 have HO12 := n1_
 have HO15 := n2_
 have HO22 := n3_
 have HO26 := n4_
 have HO29 := n5_
 have HO37 := n6_
 have BK1 := n7_
 have BK2 := n8_
 have BK3 := n9_
 have BK23 := n10_
 have BK30 := n11_
 have HB := n12_
 clear n0_ n1_ n2_ n3_ n4_ n5_ n6_ n7_ n8_ n9_ n10_ n11_ n12_
 (try clear hb)
 (try clear hb2)
 (try clear hk)
 (try clear hi)
 refine hK.out _ _ ⟨(blk_cell BK23.out 0).trans rfl, (blk_cell BK23.out 1).trans rfl, (blk_cell BK1.out 0).trans rfl, (blk_cell BK1.out 1).trans rfl⟩ (fun hHeld => ?_)
 clear hK K
 refine norm_ (a' := ?_) ?_ ?_
 rotate_left
 ·show Act.put _ (some 44) _ = _
  simp only [Act.put, List.setIfInBounds_toArray, List.set_cons_zero, List.set_cons_succ, i64_w, i32_w]
  rfl
 refine pure_ (i := 4) (N := some 45) (v := ?_) (a' := ?_) #[true, true, true, true, true] rfl rfl (by kernel_rfl) (fun _ _ _ h => h) (Or.inl ⟨by rfl, ?_⟩) ?_ ?_
 rotate_left
 ·intro w'
  go_simp
  with_reducible rfl
 rotate_left
 ·simp only [Act.put, List.setIfInBounds_toArray, List.set_cons_zero, List.set_cons_succ, i64_w, i32_w]
  rfl
 refine done_ (by kernel_rfl) ?_
 by_cases c79 : t45 = true
 ·subst c79
  have H1 : (some true) = some r := by rw [if_pos rfl] at H; exact H
  clear H
  have H := H1
  clear H1
  obtain rfl := Option.some.inj H
  try go_wp2
  have n0_ := Aside0.mk (Kd.S_drew HO9.out)
  have n1_ := Aside0.mk (Kd.R_drew HO12.out)
  have n2_ := Aside0.mk (Kd.S_drew HO15.out)
  have n3_ := Aside0.mk (Kd.S_drew HO22.out)
  have n4_ := Aside0.mk (Kd.R_drew HO26.out)
  have n5_ := Aside0.mk (Kd.S_drew HO29.out)
  have n6_ := Aside0.mk (Kd.S_drew HO37.out)
  have n7_ := Aside0.mk (blk_drew BK1.out)
  have n8_ := Aside0.mk (blk_drew BK2.out)
  have n9_ := Aside0.mk (blk_drew BK3.out)
  have n10_ := Aside0.mk (blk_drew BK23.out)
  have n11_ := Aside0.mk (blk_drew BK30.out)
  have n12_ := Aside0.mk (below_drew1 HB.out)
  clear HO9
  clear HO12
  clear HO15
  clear HO22
  clear HO26
  clear HO29
  clear HO37
  clear BK1
  clear BK2
  clear BK3
  clear BK23
  clear BK30
  clear HB
  have HO9 := n0_
  have HO12 := n1_
  have HO15 := n2_
  have HO22 := n3_
  have HO26 := n4_
  have HO29 := n5_
  have HO37 := n6_
  have BK1 := n7_
  have BK2 := n8_
  have BK3 := n9_
  have BK23 := n10_
  have BK30 := n11_
  have HB := n12_
  clear n0_ n1_ n2_ n3_ n4_ n5_ n6_ n7_ n8_ n9_ n10_ n11_ n12_
  refine start_ (n := 5) (S := fun w' => w'.cell? ⟨gb30, 0, none⟩ = some (.slice Ao63 t24.length co63) ∧ w'.cell? ⟨gb30, 1, none⟩ = some (.slice Ao69 t27.length co69) ∧ w'.cell? ⟨gb2, 0, none⟩ = some (.slice A1_0 l1_0.length c1_0) ∧ w'.cell? ⟨gb2, 1, none⟩ = some (.slice A1_1 l1_1.length c1_1)) (ds := []) #[false, false, false, false, false] (by kernel_rfl) rfl rfl ⟨(blk_cell BK30.out 0).trans rfl, (blk_cell BK30.out 1).trans rfl, (blk_cell BK2.out 0).trans rfl, (blk_cell BK2.out 1).trans rfl⟩ (fun hHeld => ?_)
  generalize w123.drew = w124 at HO9 HO12 HO15 HO22 HO26 HO29 HO37 BK1 BK2 BK3 BK23 BK30 HB hHeld ⊢
  refine take_ (i := 0) (N := some 46) (v := ?_) (a' := ?_) #[true, false, false, false, false] rfl rfl (by kernel_rfl) (fun _ _ _ h => h) (Or.inl ⟨by rfl, ?_⟩) hHeld ?_ ?_
  rotate_left
  ·rintro w' ⟨s0, s1, s2, s3⟩
   go_simp
   with_reducible rfl
  rotate_left
  ·simp only [Act.put, List.setIfInBounds_toArray, List.set_cons_zero, List.set_cons_succ, i64_w, i32_w]
   rfl
  refine take_ (i := 1) (N := some 47) (v := ?_) (a' := ?_) #[true, true, false, false, false] rfl rfl (by kernel_rfl) (fun _ _ _ h => h) (Or.inl ⟨by rfl, ?_⟩) hHeld ?_ ?_
  rotate_left
  ·rintro w' ⟨s0, s1, s2, s3⟩
   go_simp
   with_reducible rfl
  rotate_left
  ·simp only [Act.put, List.setIfInBounds_toArray, List.set_cons_zero, List.set_cons_succ, i64_w, i32_w]
   rfl
  refine one_ (i := 2) (N := some 48) #[true, true, true, false, false] rfl rfl (by kernel_rfl) (by decide) (fun K hK => ?_)
  refine goes_ Try.func30 (by kernel_rfl) rfl #[.agg #[.slice A1_0 l1_0.length c1_0, .slice A1_1 l1_1.length c1_1]] (by rfl) rfl rfl ar_ ?_
  with_reducible refine (laws_toMachine.calls k _ _ l1_0 _ _ l1_1 t39 t42 _ ?side1 ?side2 ?side3 ?side4 A77.out).mono ?_
  (case side1 => exact cb_)
  (case side2 => exact HC1_0.out)
  (case side3 => exact cb_)
  (case side4 => exact HC1_1.out)
  rintro e w125 ⟨v40, v43, rfl, ho0, ho1, hb⟩
  refine ⟨_, rfl, ?_⟩
  have n0_ := Aside0.mk (Kd.S_below (by (with_reducible repeat (first | apply Kd.S_alloc | apply Kd.S_drewN | apply Kd.S_drew)); exact HO9.out) hb)
  have n1_ := Aside0.mk (Kd.R_elder' (by (with_reducible repeat (first | apply Kd.R_alloc | apply Kd.R_drewN | apply Kd.R_drew)); exact HO12.out) (Kd.R_base ho0) hb)
  have n2_ := Aside0.mk (Kd.S_mono (Kd.S_told (Kd.S_told (Kd.S_old (by (with_reducible repeat (first | apply Kd.S_alloc | apply Kd.S_drewN | apply Kd.S_drew)); exact HO15.out) hb) (Kd.R_base ho0)) (Kd.S_base ho1)) (fun _ h_ => h_.1))
  have n3_ := Aside0.mk (Kd.S_below (by (with_reducible repeat (first | apply Kd.S_alloc | apply Kd.S_drewN | apply Kd.S_drew)); exact HO22.out) hb)
  have n4_ := Aside0.mk (Kd.R_elder' (by (with_reducible repeat (first | apply Kd.R_alloc | apply Kd.R_drewN | apply Kd.R_drew)); exact HO26.out) (Kd.R_base ho0) hb)
  have n5_ := Aside0.mk (Kd.S_mono (Kd.S_told (Kd.S_told (Kd.S_old (by (with_reducible repeat (first | apply Kd.S_alloc | apply Kd.S_drewN | apply Kd.S_drew)); exact HO29.out) hb) (Kd.R_base ho0)) (Kd.S_base ho1)) (fun _ h_ => h_.1))
  have n6_ := Aside0.mk (Kd.S_below (by (with_reducible repeat (first | apply Kd.S_alloc | apply Kd.S_drewN | apply Kd.S_drew)); exact HO37.out) hb)
  have n7_ := Aside0.mk (Kd.R_lower (Kd.R_new' (Kd.R_new' ho0 (Kd.R_lt (by (with_reducible repeat (first | apply Kd.R_alloc | apply Kd.R_drewN | apply Kd.R_drew)); exact HO12.out))) (Kd.R_lt (by (with_reducible repeat (first | apply Kd.R_alloc | apply Kd.R_drewN | apply Kd.R_drew)); exact HO26.out))) (below_size bw_))
  have n8_ := Aside0.mk (Kd.S_lower (Kd.S_new' (Kd.S_new' (Kd.S_new' (Kd.S_new' ho1 (Kd.R_lt (by (with_reducible repeat (first | apply Kd.R_alloc | apply Kd.R_drewN | apply Kd.R_drew)); exact HO12.out))) (Kd.S_lt (by (with_reducible repeat (first | apply Kd.S_alloc | apply Kd.S_drewN | apply Kd.S_drew)); exact HO15.out))) (Kd.R_lt (by (with_reducible repeat (first | apply Kd.R_alloc | apply Kd.R_drewN | apply Kd.R_drew)); exact HO26.out))) (Kd.S_lt (by (with_reducible repeat (first | apply Kd.S_alloc | apply Kd.S_drewN | apply Kd.S_drew)); exact HO29.out))) (below_size bw_))
  have n9_ := Aside0.mk (blk_below (g := gb1) (o := .cells #[.int .i64 a0_0, .slice A0_1 l0_1.length c0_1] 60 (0, 0)) bk_ hb)
  have n10_ := Aside0.mk (blk_below (g := gb2) (o := .cells #[.slice A1_0 l1_0.length c1_0, .slice A1_1 l1_1.length c1_1] 38 (0, 0)) bk_ hb)
  have n11_ := Aside0.mk (blk_below (g := gb3) (o := .cells #[.int .i64 a2_0, .bool a2_1] 86 (0, 0)) bk_ hb)
  have n12_ := Aside0.mk (blk_below (g := gb23) (o := .cells #[.int .i64 t19, .slice Ao59 t20.length co59] 64 (0, 0)) bk_ hb)
  have n13_ := Aside0.mk (blk_below (g := gb30) (o := .cells #[.slice Ao63 t24.length co63, .slice Ao69 t27.length co69] 46 (0, 0)) bk_ hb)
  have n14_ := Aside0.mk (below_step bw_ hb)
  clear HO9
  clear HO12
  clear HO15
  clear HO22
  clear HO26
  clear HO29
  clear HO37
  clear BK1
  clear BK2
  clear BK3
  clear BK23
  clear BK30
  clear HB
  have HO9 := n0_
  have HO12 := n1_
  have HO15 := n2_
  have HO22 := n3_
  have HO26 := n4_
  have HO29 := n5_
  have HO37 := n6_
  have HO41 := n7_
  have HO44 := n8_
  have BK1 := n9_
  have BK2 := n10_
  have BK3 := n11_
  have BK23 := n12_
  have BK30 := n13_
  have HB := n14_
  clear n0_ n1_ n2_ n3_ n4_ n5_ n6_ n7_ n8_ n9_ n10_ n11_ n12_ n13_ n14_
  (try clear hb)
  (try clear hb2)
  (try clear hk)
  (try clear hi)
  (try clear ho0)
  (try clear ho1)
  obtain ⟨Ao126, co126, eo126⟩ := Kd.R_slice HO41.out
  (first | subst eo126 | (injection eo126 with f1_ f2_ f3_; have f4_ := f1_.symm; have f5_ := f3_.symm; clear f1_ f2_ f3_; subst f4_; subst f5_))
  obtain ⟨Ao127, co127, eo127⟩ := Kd.S_slice HO44.out
  (first | subst eo127 | (injection eo127 with f1_ f2_ f3_; have f4_ := f1_.symm; have f5_ := f3_.symm; clear f1_ f2_ f3_; subst f4_; subst f5_))
  refine hK.out _ _ ⟨(blk_cell BK30.out 0).trans rfl, (blk_cell BK30.out 1).trans rfl, (blk_cell BK2.out 0).trans rfl, (blk_cell BK2.out 1).trans rfl⟩ (fun hHeld => ?_)
  clear hK K
  refine norm_ (a' := ?_) ?_ ?_
  rotate_left
  ·show Act.put _ (some 48) _ = _
   simp only [Act.put, List.setIfInBounds_toArray, List.set_cons_zero, List.set_cons_succ, i64_w, i32_w]
   rfl
  refine one_ (i := 3) (N := some 49) #[true, true, true, true, false] rfl rfl (by kernel_rfl) (by decide) (fun K hK => ?_)
  refine goes_ Try.func33 (by kernel_rfl) rfl #[.agg #[.slice Ao63 t24.length co63, .slice Ao69 t27.length co69], .agg #[.slice Ao126 t39.length co126, .slice Ao127 t42.length co127]] (by rfl) rfl rfl ar_ ?_
  with_reducible refine (laws_eqMachine.calls k _ _ t24 _ _ t27 _ _ t39 _ _ t42 true _ ?side1 ?side2 ?side3 ?side4 ?side5 ?side6 ?side7 ?side8 A78.out).mono ?_
  (case side1 => repeat (first | exact (Kd.R_reads' HO26.out).2.2 | (with_reducible refine Kd.C_alloc ?_ _) | (with_reducible refine Kd.C_drewN ?_ _) | (with_reducible refine Kd.C_drew ?_)))
  (case side2 => exact (Kd.R_reads' HO26.out).2.1)
  (case side3 => repeat (first | exact (Kd.S_reads' HO29.out).2.2 | (with_reducible refine Kd.C_alloc ?_ _) | (with_reducible refine Kd.C_drewN ?_ _) | (with_reducible refine Kd.C_drew ?_)))
  (case side4 => exact (Kd.S_reads' HO29.out).2.1)
  (case side5 => repeat (first | exact (Kd.R_reads' HO41.out).2.2 | (with_reducible refine Kd.C_alloc ?_ _) | (with_reducible refine Kd.C_drewN ?_ _) | (with_reducible refine Kd.C_drew ?_)))
  (case side6 => exact (Kd.R_reads' HO41.out).2.1)
  (case side7 => repeat (first | exact (Kd.S_reads' HO44.out).2.2 | (with_reducible refine Kd.C_alloc ?_ _) | (with_reducible refine Kd.C_drewN ?_ _) | (with_reducible refine Kd.C_drew ?_)))
  (case side8 => exact (Kd.S_reads' HO44.out).2.1)
  rintro e w128 ⟨rfl, hb⟩
  refine ⟨_, rfl, ?_⟩
  have n0_ := Aside0.mk (Kd.S_below (by (with_reducible repeat (first | apply Kd.S_alloc | apply Kd.S_drewN | apply Kd.S_drew)); exact HO9.out) hb)
  have n1_ := Aside0.mk (Kd.R_below (by (with_reducible repeat (first | apply Kd.R_alloc | apply Kd.R_drewN | apply Kd.R_drew)); exact HO12.out) hb)
  have n2_ := Aside0.mk (Kd.S_below (by (with_reducible repeat (first | apply Kd.S_alloc | apply Kd.S_drewN | apply Kd.S_drew)); exact HO15.out) hb)
  have n3_ := Aside0.mk (Kd.S_below (by (with_reducible repeat (first | apply Kd.S_alloc | apply Kd.S_drewN | apply Kd.S_drew)); exact HO22.out) hb)
  have n4_ := Aside0.mk (Kd.R_below (by (with_reducible repeat (first | apply Kd.R_alloc | apply Kd.R_drewN | apply Kd.R_drew)); exact HO26.out) hb)
  have n5_ := Aside0.mk (Kd.S_below (by (with_reducible repeat (first | apply Kd.S_alloc | apply Kd.S_drewN | apply Kd.S_drew)); exact HO29.out) hb)
  have n6_ := Aside0.mk (Kd.S_below (by (with_reducible repeat (first | apply Kd.S_alloc | apply Kd.S_drewN | apply Kd.S_drew)); exact HO37.out) hb)
  have n7_ := Aside0.mk (Kd.R_below (by (with_reducible repeat (first | apply Kd.R_alloc | apply Kd.R_drewN | apply Kd.R_drew)); exact HO41.out) hb)
  have n8_ := Aside0.mk (Kd.S_below (by (with_reducible repeat (first | apply Kd.S_alloc | apply Kd.S_drewN | apply Kd.S_drew)); exact HO44.out) hb)
  have n9_ := Aside0.mk (blk_below (g := gb1) (o := .cells #[.int .i64 a0_0, .slice A0_1 l0_1.length c0_1] 60 (0, 0)) bk_ hb)
  have n10_ := Aside0.mk (blk_below (g := gb2) (o := .cells #[.slice A1_0 l1_0.length c1_0, .slice A1_1 l1_1.length c1_1] 38 (0, 0)) bk_ hb)
  have n11_ := Aside0.mk (blk_below (g := gb3) (o := .cells #[.int .i64 a2_0, .bool a2_1] 86 (0, 0)) bk_ hb)
  have n12_ := Aside0.mk (blk_below (g := gb23) (o := .cells #[.int .i64 t19, .slice Ao59 t20.length co59] 64 (0, 0)) bk_ hb)
  have n13_ := Aside0.mk (blk_below (g := gb30) (o := .cells #[.slice Ao63 t24.length co63, .slice Ao69 t27.length co69] 46 (0, 0)) bk_ hb)
  have n14_ := Aside0.mk (below_step bw_ hb)
  clear HO9
  clear HO12
  clear HO15
  clear HO22
  clear HO26
  clear HO29
  clear HO37
  clear HO41
  clear HO44
  clear BK1
  clear BK2
  clear BK3
  clear BK23
  clear BK30
  clear HB
  have HO9 := n0_
  have HO12 := n1_
  have HO15 := n2_
  have HO22 := n3_
  have HO26 := n4_
  have HO29 := n5_
  have HO37 := n6_
  have HO41 := n7_
  have HO44 := n8_
  have BK1 := n9_
  have BK2 := n10_
  have BK3 := n11_
  have BK23 := n12_
  have BK30 := n13_
  have HB := n14_
  clear n0_ n1_ n2_ n3_ n4_ n5_ n6_ n7_ n8_ n9_ n10_ n11_ n12_ n13_ n14_
  (try clear hb)
  (try clear hb2)
  (try clear hk)
  (try clear hi)
  refine hK.out _ _ ⟨(blk_cell BK30.out 0).trans rfl, (blk_cell BK30.out 1).trans rfl, (blk_cell BK2.out 0).trans rfl, (blk_cell BK2.out 1).trans rfl⟩ (fun hHeld => ?_)
  clear hK K
  refine norm_ (a' := ?_) ?_ ?_
  rotate_left
  ·show Act.put _ (some 49) _ = _
   simp only [Act.put, List.setIfInBounds_toArray, List.set_cons_zero, List.set_cons_succ, i64_w, i32_w]
   rfl
  refine pure_ (i := 4) (N := some 50) (v := ?_) (a' := ?_) #[true, true, true, true, true] rfl rfl (by kernel_rfl) (fun _ _ _ h => h) (Or.inl ⟨by rfl, ?_⟩) ?_ ?_
  rotate_left
  ·intro w'
   go_simp
   with_reducible rfl
  rotate_left
  ·simp only [Act.put, List.setIfInBounds_toArray, List.set_cons_zero, List.set_cons_succ, i64_w, i32_w]
   rfl
  refine done_ (by kernel_rfl) ?_
  try go_wp2
  go_ret
  exact ⟨rr_, bw_⟩
 replace c79 := Bool.eq_false_iff.mpr c79
 subst c79
 have H1 : (some false) = some r := by rw [if_neg (show ¬ (false = true) by decide)] at H; exact H
 clear H
 have H := H1
 clear H1
 obtain rfl := Option.some.inj H
 try go_wp2
 have n0_ := Aside0.mk (Kd.S_drew HO9.out)
 have n1_ := Aside0.mk (Kd.R_drew HO12.out)
 have n2_ := Aside0.mk (Kd.S_drew HO15.out)
 have n3_ := Aside0.mk (Kd.S_drew HO22.out)
 have n4_ := Aside0.mk (Kd.R_drew HO26.out)
 have n5_ := Aside0.mk (Kd.S_drew HO29.out)
 have n6_ := Aside0.mk (Kd.S_drew HO37.out)
 have n7_ := Aside0.mk (blk_drew BK1.out)
 have n8_ := Aside0.mk (blk_drew BK2.out)
 have n9_ := Aside0.mk (blk_drew BK3.out)
 have n10_ := Aside0.mk (blk_drew BK23.out)
 have n11_ := Aside0.mk (blk_drew BK30.out)
 have n12_ := Aside0.mk (below_drew1 HB.out)
 clear HO9
 clear HO12
 clear HO15
 clear HO22
 clear HO26
 clear HO29
 clear HO37
 clear BK1
 clear BK2
 clear BK3
 clear BK23
 clear BK30
 clear HB
 have HO9 := n0_
 have HO12 := n1_
 have HO15 := n2_
 have HO22 := n3_
 have HO26 := n4_
 have HO29 := n5_
 have HO37 := n6_
 have BK1 := n7_
 have BK2 := n8_
 have BK3 := n9_
 have BK23 := n10_
 have BK30 := n11_
 have HB := n12_
 clear n0_ n1_ n2_ n3_ n4_ n5_ n6_ n7_ n8_ n9_ n10_ n11_ n12_
 refine start_ (n := 5) (S := fun w' => w'.cell? ⟨gb30, 0, none⟩ = some (.slice Ao63 t24.length co63) ∧ w'.cell? ⟨gb30, 1, none⟩ = some (.slice Ao69 t27.length co69) ∧ w'.cell? ⟨gb2, 0, none⟩ = some (.slice A1_0 l1_0.length c1_0) ∧ w'.cell? ⟨gb2, 1, none⟩ = some (.slice A1_1 l1_1.length c1_1)) (ds := []) #[false, false, false, false, false] (by kernel_rfl) rfl rfl ⟨(blk_cell BK30.out 0).trans rfl, (blk_cell BK30.out 1).trans rfl, (blk_cell BK2.out 0).trans rfl, (blk_cell BK2.out 1).trans rfl⟩ (fun hHeld => ?_)
 generalize w123.drew = w173 at HO9 HO12 HO15 HO22 HO26 HO29 HO37 BK1 BK2 BK3 BK23 BK30 HB hHeld ⊢
 refine take_ (i := 0) (N := some 46) (v := ?_) (a' := ?_) #[true, false, false, false, false] rfl rfl (by kernel_rfl) (fun _ _ _ h => h) (Or.inl ⟨by rfl, ?_⟩) hHeld ?_ ?_
 rotate_left
 ·rintro w' ⟨s0, s1, s2, s3⟩
  go_simp
  with_reducible rfl
 rotate_left
 ·simp only [Act.put, List.setIfInBounds_toArray, List.set_cons_zero, List.set_cons_succ, i64_w, i32_w]
  rfl
 refine take_ (i := 1) (N := some 47) (v := ?_) (a' := ?_) #[true, true, false, false, false] rfl rfl (by kernel_rfl) (fun _ _ _ h => h) (Or.inl ⟨by rfl, ?_⟩) hHeld ?_ ?_
 rotate_left
 ·rintro w' ⟨s0, s1, s2, s3⟩
  go_simp
  with_reducible rfl
 rotate_left
 ·simp only [Act.put, List.setIfInBounds_toArray, List.set_cons_zero, List.set_cons_succ, i64_w, i32_w]
  rfl
 refine one_ (i := 2) (N := some 48) #[true, true, true, false, false] rfl rfl (by kernel_rfl) (by decide) (fun K hK => ?_)
 refine goes_ Try.func30 (by kernel_rfl) rfl #[.agg #[.slice A1_0 l1_0.length c1_0, .slice A1_1 l1_1.length c1_1]] (by rfl) rfl rfl ar_ ?_
 with_reducible refine (laws_toMachine.calls k _ _ l1_0 _ _ l1_1 t39 t42 _ ?side1 ?side2 ?side3 ?side4 A77.out).mono ?_
 (case side1 => exact cb_)
 (case side2 => exact HC1_0.out)
 (case side3 => exact cb_)
 (case side4 => exact HC1_1.out)
 rintro e w174 ⟨v40, v43, rfl, ho0, ho1, hb⟩
 refine ⟨_, rfl, ?_⟩
 have n0_ := Aside0.mk (Kd.S_below (by (with_reducible repeat (first | apply Kd.S_alloc | apply Kd.S_drewN | apply Kd.S_drew)); exact HO9.out) hb)
 have n1_ := Aside0.mk (Kd.R_elder' (by (with_reducible repeat (first | apply Kd.R_alloc | apply Kd.R_drewN | apply Kd.R_drew)); exact HO12.out) (Kd.R_base ho0) hb)
 have n2_ := Aside0.mk (Kd.S_mono (Kd.S_told (Kd.S_told (Kd.S_old (by (with_reducible repeat (first | apply Kd.S_alloc | apply Kd.S_drewN | apply Kd.S_drew)); exact HO15.out) hb) (Kd.R_base ho0)) (Kd.S_base ho1)) (fun _ h_ => h_.1))
 have n3_ := Aside0.mk (Kd.S_below (by (with_reducible repeat (first | apply Kd.S_alloc | apply Kd.S_drewN | apply Kd.S_drew)); exact HO22.out) hb)
 have n4_ := Aside0.mk (Kd.R_elder' (by (with_reducible repeat (first | apply Kd.R_alloc | apply Kd.R_drewN | apply Kd.R_drew)); exact HO26.out) (Kd.R_base ho0) hb)
 have n5_ := Aside0.mk (Kd.S_mono (Kd.S_told (Kd.S_told (Kd.S_old (by (with_reducible repeat (first | apply Kd.S_alloc | apply Kd.S_drewN | apply Kd.S_drew)); exact HO29.out) hb) (Kd.R_base ho0)) (Kd.S_base ho1)) (fun _ h_ => h_.1))
 have n6_ := Aside0.mk (Kd.S_below (by (with_reducible repeat (first | apply Kd.S_alloc | apply Kd.S_drewN | apply Kd.S_drew)); exact HO37.out) hb)
 have n7_ := Aside0.mk (Kd.R_lower (Kd.R_new' (Kd.R_new' ho0 (Kd.R_lt (by (with_reducible repeat (first | apply Kd.R_alloc | apply Kd.R_drewN | apply Kd.R_drew)); exact HO12.out))) (Kd.R_lt (by (with_reducible repeat (first | apply Kd.R_alloc | apply Kd.R_drewN | apply Kd.R_drew)); exact HO26.out))) (below_size bw_))
 have n8_ := Aside0.mk (Kd.S_lower (Kd.S_new' (Kd.S_new' (Kd.S_new' (Kd.S_new' ho1 (Kd.R_lt (by (with_reducible repeat (first | apply Kd.R_alloc | apply Kd.R_drewN | apply Kd.R_drew)); exact HO12.out))) (Kd.S_lt (by (with_reducible repeat (first | apply Kd.S_alloc | apply Kd.S_drewN | apply Kd.S_drew)); exact HO15.out))) (Kd.R_lt (by (with_reducible repeat (first | apply Kd.R_alloc | apply Kd.R_drewN | apply Kd.R_drew)); exact HO26.out))) (Kd.S_lt (by (with_reducible repeat (first | apply Kd.S_alloc | apply Kd.S_drewN | apply Kd.S_drew)); exact HO29.out))) (below_size bw_))
 have n9_ := Aside0.mk (blk_below (g := gb1) (o := .cells #[.int .i64 a0_0, .slice A0_1 l0_1.length c0_1] 60 (0, 0)) bk_ hb)
 have n10_ := Aside0.mk (blk_below (g := gb2) (o := .cells #[.slice A1_0 l1_0.length c1_0, .slice A1_1 l1_1.length c1_1] 38 (0, 0)) bk_ hb)
 have n11_ := Aside0.mk (blk_below (g := gb3) (o := .cells #[.int .i64 a2_0, .bool a2_1] 86 (0, 0)) bk_ hb)
 have n12_ := Aside0.mk (blk_below (g := gb23) (o := .cells #[.int .i64 t19, .slice Ao59 t20.length co59] 64 (0, 0)) bk_ hb)
 have n13_ := Aside0.mk (blk_below (g := gb30) (o := .cells #[.slice Ao63 t24.length co63, .slice Ao69 t27.length co69] 46 (0, 0)) bk_ hb)
 have n14_ := Aside0.mk (below_step bw_ hb)
 clear HO9
 clear HO12
 clear HO15
 clear HO22
 clear HO26
 clear HO29
 clear HO37
 clear BK1
 clear BK2
 clear BK3
 clear BK23
 clear BK30
 clear HB
 have HO9 := n0_
 have HO12 := n1_
 have HO15 := n2_
 have HO22 := n3_
 have HO26 := n4_
 have HO29 := n5_
 have HO37 := n6_
 have HO41 := n7_
 have HO44 := n8_
 have BK1 := n9_
 have BK2 := n10_
 have BK3 := n11_
 have BK23 := n12_
 have BK30 := n13_
 have HB := n14_
 clear n0_ n1_ n2_ n3_ n4_ n5_ n6_ n7_ n8_ n9_ n10_ n11_ n12_ n13_ n14_
 (try clear hb)
 (try clear hb2)
 (try clear hk)
 (try clear hi)
 (try clear ho0)
 (try clear ho1)
 obtain ⟨Ao175, co175, eo175⟩ := Kd.R_slice HO41.out
 (first | subst eo175 | (injection eo175 with f1_ f2_ f3_; have f4_ := f1_.symm; have f5_ := f3_.symm; clear f1_ f2_ f3_; subst f4_; subst f5_))
 obtain ⟨Ao176, co176, eo176⟩ := Kd.S_slice HO44.out
 (first | subst eo176 | (injection eo176 with f1_ f2_ f3_; have f4_ := f1_.symm; have f5_ := f3_.symm; clear f1_ f2_ f3_; subst f4_; subst f5_))
 refine hK.out _ _ ⟨(blk_cell BK30.out 0).trans rfl, (blk_cell BK30.out 1).trans rfl, (blk_cell BK2.out 0).trans rfl, (blk_cell BK2.out 1).trans rfl⟩ (fun hHeld => ?_)
 clear hK K
 refine norm_ (a' := ?_) ?_ ?_
 rotate_left
 ·show Act.put _ (some 48) _ = _
  simp only [Act.put, List.setIfInBounds_toArray, List.set_cons_zero, List.set_cons_succ, i64_w, i32_w]
  rfl
 refine one_ (i := 3) (N := some 49) #[true, true, true, true, false] rfl rfl (by kernel_rfl) (by decide) (fun K hK => ?_)
 refine goes_ Try.func33 (by kernel_rfl) rfl #[.agg #[.slice Ao63 t24.length co63, .slice Ao69 t27.length co69], .agg #[.slice Ao175 t39.length co175, .slice Ao176 t42.length co176]] (by rfl) rfl rfl ar_ ?_
 with_reducible refine (laws_eqMachine.calls k _ _ t24 _ _ t27 _ _ t39 _ _ t42 false _ ?side1 ?side2 ?side3 ?side4 ?side5 ?side6 ?side7 ?side8 A78.out).mono ?_
 (case side1 => repeat (first | exact (Kd.R_reads' HO26.out).2.2 | (with_reducible refine Kd.C_alloc ?_ _) | (with_reducible refine Kd.C_drewN ?_ _) | (with_reducible refine Kd.C_drew ?_)))
 (case side2 => exact (Kd.R_reads' HO26.out).2.1)
 (case side3 => repeat (first | exact (Kd.S_reads' HO29.out).2.2 | (with_reducible refine Kd.C_alloc ?_ _) | (with_reducible refine Kd.C_drewN ?_ _) | (with_reducible refine Kd.C_drew ?_)))
 (case side4 => exact (Kd.S_reads' HO29.out).2.1)
 (case side5 => repeat (first | exact (Kd.R_reads' HO41.out).2.2 | (with_reducible refine Kd.C_alloc ?_ _) | (with_reducible refine Kd.C_drewN ?_ _) | (with_reducible refine Kd.C_drew ?_)))
 (case side6 => exact (Kd.R_reads' HO41.out).2.1)
 (case side7 => repeat (first | exact (Kd.S_reads' HO44.out).2.2 | (with_reducible refine Kd.C_alloc ?_ _) | (with_reducible refine Kd.C_drewN ?_ _) | (with_reducible refine Kd.C_drew ?_)))
 (case side8 => exact (Kd.S_reads' HO44.out).2.1)
 rintro e w177 ⟨rfl, hb⟩
 refine ⟨_, rfl, ?_⟩
 have n0_ := Aside0.mk (Kd.S_below (by (with_reducible repeat (first | apply Kd.S_alloc | apply Kd.S_drewN | apply Kd.S_drew)); exact HO9.out) hb)
 have n1_ := Aside0.mk (Kd.R_below (by (with_reducible repeat (first | apply Kd.R_alloc | apply Kd.R_drewN | apply Kd.R_drew)); exact HO12.out) hb)
 have n2_ := Aside0.mk (Kd.S_below (by (with_reducible repeat (first | apply Kd.S_alloc | apply Kd.S_drewN | apply Kd.S_drew)); exact HO15.out) hb)
 have n3_ := Aside0.mk (Kd.S_below (by (with_reducible repeat (first | apply Kd.S_alloc | apply Kd.S_drewN | apply Kd.S_drew)); exact HO22.out) hb)
 have n4_ := Aside0.mk (Kd.R_below (by (with_reducible repeat (first | apply Kd.R_alloc | apply Kd.R_drewN | apply Kd.R_drew)); exact HO26.out) hb)
 have n5_ := Aside0.mk (Kd.S_below (by (with_reducible repeat (first | apply Kd.S_alloc | apply Kd.S_drewN | apply Kd.S_drew)); exact HO29.out) hb)
 have n6_ := Aside0.mk (Kd.S_below (by (with_reducible repeat (first | apply Kd.S_alloc | apply Kd.S_drewN | apply Kd.S_drew)); exact HO37.out) hb)
 have n7_ := Aside0.mk (Kd.R_below (by (with_reducible repeat (first | apply Kd.R_alloc | apply Kd.R_drewN | apply Kd.R_drew)); exact HO41.out) hb)
 have n8_ := Aside0.mk (Kd.S_below (by (with_reducible repeat (first | apply Kd.S_alloc | apply Kd.S_drewN | apply Kd.S_drew)); exact HO44.out) hb)
 have n9_ := Aside0.mk (blk_below (g := gb1) (o := .cells #[.int .i64 a0_0, .slice A0_1 l0_1.length c0_1] 60 (0, 0)) bk_ hb)
 have n10_ := Aside0.mk (blk_below (g := gb2) (o := .cells #[.slice A1_0 l1_0.length c1_0, .slice A1_1 l1_1.length c1_1] 38 (0, 0)) bk_ hb)
 have n11_ := Aside0.mk (blk_below (g := gb3) (o := .cells #[.int .i64 a2_0, .bool a2_1] 86 (0, 0)) bk_ hb)
 have n12_ := Aside0.mk (blk_below (g := gb23) (o := .cells #[.int .i64 t19, .slice Ao59 t20.length co59] 64 (0, 0)) bk_ hb)
 have n13_ := Aside0.mk (blk_below (g := gb30) (o := .cells #[.slice Ao63 t24.length co63, .slice Ao69 t27.length co69] 46 (0, 0)) bk_ hb)
 have n14_ := Aside0.mk (below_step bw_ hb)
 clear HO9
 clear HO12
 clear HO15
 clear HO22
 clear HO26
 clear HO29
 clear HO37
 clear HO41
 clear HO44
 clear BK1
 clear BK2
 clear BK3
 clear BK23
 clear BK30
 clear HB
 have HO9 := n0_
 have HO12 := n1_
 have HO15 := n2_
 have HO22 := n3_
 have HO26 := n4_
 have HO29 := n5_
 have HO37 := n6_
 have HO41 := n7_
 have HO44 := n8_
 have BK1 := n9_
 have BK2 := n10_
 have BK3 := n11_
 have BK23 := n12_
 have BK30 := n13_
 have HB := n14_
 clear n0_ n1_ n2_ n3_ n4_ n5_ n6_ n7_ n8_ n9_ n10_ n11_ n12_ n13_ n14_
 (try clear hb)
 (try clear hb2)
 (try clear hk)
 (try clear hi)
 refine hK.out _ _ ⟨(blk_cell BK30.out 0).trans rfl, (blk_cell BK30.out 1).trans rfl, (blk_cell BK2.out 0).trans rfl, (blk_cell BK2.out 1).trans rfl⟩ (fun hHeld => ?_)
 clear hK K
 refine norm_ (a' := ?_) ?_ ?_
 rotate_left
 ·show Act.put _ (some 49) _ = _
  simp only [Act.put, List.setIfInBounds_toArray, List.set_cons_zero, List.set_cons_succ, i64_w, i32_w]
  rfl
 refine pure_ (i := 4) (N := some 50) (v := ?_) (a' := ?_) #[true, true, true, true, true] rfl rfl (by kernel_rfl) (fun _ _ _ h => h) (Or.inl ⟨by rfl, ?_⟩) ?_ ?_
 rotate_left
 ·intro w'
  go_simp
  with_reducible rfl
 rotate_left
 ·simp only [Act.put, List.setIfInBounds_toArray, List.set_cons_zero, List.set_cons_succ, i64_w, i32_w]
  rfl
 refine done_ (by kernel_rfl) ?_
 try go_wp2
 go_ret
 exact ⟨rr_, bw_⟩

end Go.Proofs.Ytpcfcdnmpginhaa.P
