-- Written by mp.py (the session's own driver over the kit's printer) for the seat Ytpcfcdnmpginhaa.
import Derived.Test.YtpcfcdnmpginhaaK
import Derived.Test.YtpcfcdnmpginhaaE
import Derived.Test.YtpcfcdnmpginhaaPlawsszIntS
namespace Go.Proofs.Ytpcfcdnmpginhaa.P
open Go.RowKit Go.Proofs.YtpcfcdnmpginhaaW.PrintWords Go.Proofs.YtpcfcdnmpginhaaW.PrintLast Go.Proofs.YtpcfcdnmpginhaaW.PrintMore
attribute [local go_sem] max2_int min2_int max_two min_two max_three min_three max_four min_four
set_option linter.unusedVariables false
set_option linter.unusedSimpArgs false

/-! ### laws_szHoldS: function 96 -/
def laws_szHoldS.f (l0 : List (S194)) (a1 : Int) : Option (Int) := if (wrap64 (a1 - (l0.length : Int))) < 0 then (some (-1)) else (some (wrap64 (a1 - (l0.length : Int))))
set_option maxHeartbeats 8000000 in
set_option maxRecDepth 100000 in
theorem laws_szHoldS.calls (A0 : Option Addr) (c0 : Nat) (l0 : List (S194)) (a1 : Int) (r : Int) (w : World) (hr0 : Kd.C k194 w A0 l0.length l0) (hc0 : l0.length ≤ c0) (h : laws_szHoldS.f l0 a1 = some r) :
  Calls Try.prog 96 #[.slice A0 l0.length c0, .int .i64 a1] w fun e w' => e = .returned (.int .i64 r) ∧ Drawn0 w w' := by
 have HR0 := Aside0.mk hr0
 have HC0 := Aside0.mk hc0
 clear hr0 hc0
 have H : (if (wrap64 (a1 - (l0.length : Int))) < 0 then (some (-1)) else (some (wrap64 (a1 - (l0.length : Int))))) = some r := h
 clear h
 by_cases c3 : (wrap64 (a1 - (l0.length : Int))) < 0
 ·rw [if_pos c3] at H
  have c3b0 : decide ((wrap64 (a1 - (l0.length : Int))) < 0) = true := decide_eq_true c3
  clear c3
  obtain rfl := Option.some.inj H
  go_enter Try.func96, Try.ntmps96
  go_wp2
  go_ret
  exact ⟨sd_, by repeat (first | exact Drawn0.refl _ | apply Drawn0.step)⟩
 ·rw [if_neg c3] at H
  have c3b0 : decide ((wrap64 (a1 - (l0.length : Int))) < 0) = false := decide_eq_false c3
  clear c3
  obtain rfl := Option.some.inj H
  go_enter Try.func96, Try.ntmps96
  go_wp2
  go_ret
  exact ⟨sd_, by repeat (first | exact Drawn0.refl _ | apply Drawn0.step)⟩

/-! ### laws_szBench: function 20 -/
def laws_szBench.f (l0_0 : List Int) (l0_1 : List (S194)) (l0_2 : List Int) (l0_3 : List Int) (a0_4 : Int) (a1 : Int) : Option (Int) := (laws_szIntS.f l0_0 a1).bind fun t2 => (if t2 < 0 then (some (-1)) else ((laws_szHoldS.f l0_1 t2).bind fun t3 => (if t3 < 0 then (some (-1)) else ((laws_szIntS.f l0_2 t3).bind fun t4 => (if t4 < 0 then (some (-1)) else ((laws_szIntS.f l0_3 t4).bind fun t5 => (if t5 < 0 then (some (-1)) else (some t5))))))))
set_option maxHeartbeats 8000000 in
set_option maxRecDepth 100000 in
theorem laws_szBench.calls (A0_0 : Option Addr) (c0_0 : Nat) (l0_0 : List Int) (A0_1 : Option Addr) (c0_1 : Nat) (l0_1 : List (S194)) (A0_2 : Option Addr) (c0_2 : Nat) (l0_2 : List Int) (A0_3 : Option Addr) (c0_3 : Nat) (l0_3 : List Int) (a0_4 : Int) (a1 : Int) (r : Int) (w : World) (hr0_0 : Kd.C (Kd.int .i64) w A0_0 l0_0.length l0_0) (hc0_0 : l0_0.length ≤ c0_0) (hr0_1 : Kd.C k194 w A0_1 l0_1.length l0_1) (hc0_1 : l0_1.length ≤ c0_1) (hr0_2 : Kd.C (Kd.int .i64) w A0_2 l0_2.length l0_2) (hc0_2 : l0_2.length ≤ c0_2) (hr0_3 : Kd.C (Kd.int .i64) w A0_3 l0_3.length l0_3) (hc0_3 : l0_3.length ≤ c0_3) (h : laws_szBench.f l0_0 l0_1 l0_2 l0_3 a0_4 a1 = some r) :
  Calls Try.prog 20 #[.agg #[.slice A0_0 l0_0.length c0_0, .slice A0_1 l0_1.length c0_1, .slice A0_2 l0_2.length c0_2, .slice A0_3 l0_3.length c0_3, .int .i64 a0_4], .int .i64 a1] w fun e w' => e = .returned (.int .i64 r) ∧ Below w.heap.size w w' := by
 have hu25 := Try.underlying25
 have HR0_0 := Aside0.mk hr0_0
 have HC0_0 := Aside0.mk hc0_0
 clear hr0_0 hc0_0
 have HR0_1 := Aside0.mk hr0_1
 have HC0_1 := Aside0.mk hc0_1
 clear hr0_1 hc0_1
 have HR0_2 := Aside0.mk hr0_2
 have HC0_2 := Aside0.mk hc0_2
 clear hr0_2 hc0_2
 have HR0_3 := Aside0.mk hr0_3
 have HC0_3 := Aside0.mk hc0_3
 clear hr0_3 hc0_3
 have HB := Aside0.mk (Below.refl w.heap.size w)
 have H : ((laws_szIntS.f l0_0 a1).bind fun t2 => (if t2 < 0 then (some (-1)) else ((laws_szHoldS.f l0_1 t2).bind fun t3 => (if t3 < 0 then (some (-1)) else ((laws_szIntS.f l0_2 t3).bind fun t4 => (if t4 < 0 then (some (-1)) else ((laws_szIntS.f l0_3 t4).bind fun t5 => (if t5 < 0 then (some (-1)) else (some t5))))))))) = some r := h
 clear h
 replace H := Option.bind_eq_some_iff.mp H
 obtain ⟨t2, A30, H⟩ := H
 replace H : (if t2 < 0 then (some (-1)) else ((laws_szHoldS.f l0_1 t2).bind fun t3 => (if t3 < 0 then (some (-1)) else ((laws_szIntS.f l0_2 t3).bind fun t4 => (if t4 < 0 then (some (-1)) else ((laws_szIntS.f l0_3 t4).bind fun t5 => (if t5 < 0 then (some (-1)) else (some t5)))))))) = some r := H
 have A3 := Aside0.mk A30
 clear A30
 by_cases c4 : t2 < 0
 ·rw [if_pos c4] at H
  have c4b0 : decide (t2 < 0) = true := decide_eq_true c4
  clear c4
  obtain rfl := Option.some.inj H
  go_enter Try.func20, Try.ntmps20
  go_wp2_with (first | ((with_reducible refine gate_dst (N := 2) rfl ?_); refine box_event ?hg (N := 2) ?hd (cs := #[.slice A0_0 l0_0.length c0_0, .slice A0_1 l0_1.length c0_1, .slice A0_2 l0_2.length c0_2, .slice A0_3 l0_3.length c0_3, .int .i64 a0_4]) (t := 25) ?hr ?_; (case hd => rfl); (case hg => rfl); (case hr => first | (go_simp; done) | (go_simp; rfl)); intro gb1 hg w5 hbox hb; have n0_ := Aside0.mk (below_step bw_ hb); have n1_ := Aside0.mk (hbox); have n2_ := Aside0.mk ((by rw [hg]; exact (below_size bw_) : w.heap.size ≤ gb1)); have n3_ := Aside0.mk ((by rw [hg]; exact (below_size bw_) : w.heap.size ≤ gb1)); clear HB; have HB := n0_; have BK1 := n1_; have GW1 := n2_; have GE1 := n3_; clear n0_ n1_ n2_ n3_; clear hb hbox hg; have hcz6_0 := (blk_cell BK1.out 0).trans rfl; have hcz6_1 := (blk_cell BK1.out 1).trans rfl; have hcz6_2 := (blk_cell BK1.out 2).trans rfl; have hcz6_3 := (blk_cell BK1.out 3).trans rfl; have hcz6_4 := (blk_cell BK1.out 4).trans rfl; have hfz6_0 := blk_frozen BK1.out 0; have hfz6_1 := blk_frozen BK1.out 1; have hfz6_2 := blk_frozen BK1.out 2; have hfz6_3 := blk_frozen BK1.out 3; have hfz6_4 := blk_frozen BK1.out 4) | ((with_reducible refine gate_callee (f := 95) rfl ?_); refine goesL_ (some 8) rfl rfl Try.func95 (by kernel_rfl) rfl #[.slice A0_0 l0_0.length c0_0, .int .i64 a1] rfl ar_ ?_; (with_reducible refine (laws_szIntS.calls _ _ l0_0 a1 t2 _ ?side1 ?side2 A3.out).mono ?_); (case side1 => exact cb_); (case side2 => exact HC0_0.out); rintro e w' ⟨rfl, ⟨nd, rfl⟩⟩; refine ⟨_, rfl, ?_⟩))
  go_ret
  exact ⟨rr_, bw_⟩
 ·rw [if_neg c4] at H
  have c4b0 : decide (t2 < 0) = false := decide_eq_false c4
  clear c4
  replace H := Option.bind_eq_some_iff.mp H
  obtain ⟨t3, A70, H⟩ := H
  replace H : (if t3 < 0 then (some (-1)) else ((laws_szIntS.f l0_2 t3).bind fun t4 => (if t4 < 0 then (some (-1)) else ((laws_szIntS.f l0_3 t4).bind fun t5 => (if t5 < 0 then (some (-1)) else (some t5)))))) = some r := H
  have A7 := Aside0.mk A70
  clear A70
  by_cases c8 : t3 < 0
  ·rw [if_pos c8] at H
   have c8b0 : decide (t3 < 0) = true := decide_eq_true c8
   clear c8
   obtain rfl := Option.some.inj H
   go_enter Try.func20, Try.ntmps20
   go_wp2_with (first | ((with_reducible refine gate_dst (N := 2) rfl ?_); refine box_event ?hg (N := 2) ?hd (cs := #[.slice A0_0 l0_0.length c0_0, .slice A0_1 l0_1.length c0_1, .slice A0_2 l0_2.length c0_2, .slice A0_3 l0_3.length c0_3, .int .i64 a0_4]) (t := 25) ?hr ?_; (case hd => rfl); (case hg => rfl); (case hr => first | (go_simp; done) | (go_simp; rfl)); intro gb1 hg w9 hbox hb; have n0_ := Aside0.mk (below_step bw_ hb); have n1_ := Aside0.mk (hbox); have n2_ := Aside0.mk ((by rw [hg]; exact (below_size bw_) : w.heap.size ≤ gb1)); have n3_ := Aside0.mk ((by rw [hg]; exact (below_size bw_) : w.heap.size ≤ gb1)); clear HB; have HB := n0_; have BK1 := n1_; have GW1 := n2_; have GE1 := n3_; clear n0_ n1_ n2_ n3_; clear hb hbox hg; have hcz10_0 := (blk_cell BK1.out 0).trans rfl; have hcz10_1 := (blk_cell BK1.out 1).trans rfl; have hcz10_2 := (blk_cell BK1.out 2).trans rfl; have hcz10_3 := (blk_cell BK1.out 3).trans rfl; have hcz10_4 := (blk_cell BK1.out 4).trans rfl; have hfz10_0 := blk_frozen BK1.out 0; have hfz10_1 := blk_frozen BK1.out 1; have hfz10_2 := blk_frozen BK1.out 2; have hfz10_3 := blk_frozen BK1.out 3; have hfz10_4 := blk_frozen BK1.out 4) | ((with_reducible refine gate_callee (f := 95) rfl ?_); refine goesL_ (some 8) rfl rfl Try.func95 (by kernel_rfl) rfl #[.slice A0_0 l0_0.length c0_0, .int .i64 a1] rfl ar_ ?_; (with_reducible refine (laws_szIntS.calls _ _ l0_0 a1 t2 _ ?side1 ?side2 A3.out).mono ?_); (case side1 => exact cb_); (case side2 => exact HC0_0.out); rintro e w' ⟨rfl, ⟨nd, rfl⟩⟩; refine ⟨_, rfl, ?_⟩) | ((with_reducible refine gate_callee (f := 96) rfl ?_); refine goesL_ (some 14) rfl rfl Try.func96 (by kernel_rfl) rfl #[.slice A0_1 l0_1.length c0_1, .int .i64 t2] rfl ar_ ?_; (with_reducible refine (laws_szHoldS.calls _ _ l0_1 t2 t3 _ ?side1 ?side2 A7.out).mono ?_); (case side1 => repeat (first | exact (Kd.C_below HR0_1.out bw_) | (with_reducible refine Kd.C_alloc ?_ _) | (with_reducible refine Kd.C_drewN ?_ _) | (with_reducible refine Kd.C_drew ?_))); (case side2 => exact HC0_1.out); rintro e w' ⟨rfl, ⟨nd, rfl⟩⟩; refine ⟨_, rfl, ?_⟩))
   go_ret
   exact ⟨rr_, bw_⟩
  ·rw [if_neg c8] at H
   have c8b0 : decide (t3 < 0) = false := decide_eq_false c8
   clear c8
   replace H := Option.bind_eq_some_iff.mp H
   obtain ⟨t4, A110, H⟩ := H
   replace H : (if t4 < 0 then (some (-1)) else ((laws_szIntS.f l0_3 t4).bind fun t5 => (if t5 < 0 then (some (-1)) else (some t5)))) = some r := H
   have A11 := Aside0.mk A110
   clear A110
   by_cases c12 : t4 < 0
   ·rw [if_pos c12] at H
    have c12b0 : decide (t4 < 0) = true := decide_eq_true c12
    clear c12
    obtain rfl := Option.some.inj H
    go_enter Try.func20, Try.ntmps20
    go_wp2_with (first | ((with_reducible refine gate_dst (N := 2) rfl ?_); refine box_event ?hg (N := 2) ?hd (cs := #[.slice A0_0 l0_0.length c0_0, .slice A0_1 l0_1.length c0_1, .slice A0_2 l0_2.length c0_2, .slice A0_3 l0_3.length c0_3, .int .i64 a0_4]) (t := 25) ?hr ?_; (case hd => rfl); (case hg => rfl); (case hr => first | (go_simp; done) | (go_simp; rfl)); intro gb1 hg w13 hbox hb; have n0_ := Aside0.mk (below_step bw_ hb); have n1_ := Aside0.mk (hbox); have n2_ := Aside0.mk ((by rw [hg]; exact (below_size bw_) : w.heap.size ≤ gb1)); have n3_ := Aside0.mk ((by rw [hg]; exact (below_size bw_) : w.heap.size ≤ gb1)); clear HB; have HB := n0_; have BK1 := n1_; have GW1 := n2_; have GE1 := n3_; clear n0_ n1_ n2_ n3_; clear hb hbox hg; have hcz14_0 := (blk_cell BK1.out 0).trans rfl; have hcz14_1 := (blk_cell BK1.out 1).trans rfl; have hcz14_2 := (blk_cell BK1.out 2).trans rfl; have hcz14_3 := (blk_cell BK1.out 3).trans rfl; have hcz14_4 := (blk_cell BK1.out 4).trans rfl; have hfz14_0 := blk_frozen BK1.out 0; have hfz14_1 := blk_frozen BK1.out 1; have hfz14_2 := blk_frozen BK1.out 2; have hfz14_3 := blk_frozen BK1.out 3; have hfz14_4 := blk_frozen BK1.out 4) | ((with_reducible refine gate_callee (f := 95) rfl ?_); refine goesL_ (some 8) rfl rfl Try.func95 (by kernel_rfl) rfl #[.slice A0_0 l0_0.length c0_0, .int .i64 a1] rfl ar_ ?_; (with_reducible refine (laws_szIntS.calls _ _ l0_0 a1 t2 _ ?side1 ?side2 A3.out).mono ?_); (case side1 => exact cb_); (case side2 => exact HC0_0.out); rintro e w' ⟨rfl, ⟨nd, rfl⟩⟩; refine ⟨_, rfl, ?_⟩) | ((with_reducible refine gate_callee (f := 96) rfl ?_); refine goesL_ (some 14) rfl rfl Try.func96 (by kernel_rfl) rfl #[.slice A0_1 l0_1.length c0_1, .int .i64 t2] rfl ar_ ?_; (with_reducible refine (laws_szHoldS.calls _ _ l0_1 t2 t3 _ ?side1 ?side2 A7.out).mono ?_); (case side1 => repeat (first | exact (Kd.C_below HR0_1.out bw_) | (with_reducible refine Kd.C_alloc ?_ _) | (with_reducible refine Kd.C_drewN ?_ _) | (with_reducible refine Kd.C_drew ?_))); (case side2 => exact HC0_1.out); rintro e w' ⟨rfl, ⟨nd, rfl⟩⟩; refine ⟨_, rfl, ?_⟩) | ((with_reducible refine gate_callee (f := 95) rfl ?_); refine goesL_ (some 20) rfl rfl Try.func95 (by kernel_rfl) rfl #[.slice A0_2 l0_2.length c0_2, .int .i64 t3] rfl ar_ ?_; (with_reducible refine (laws_szIntS.calls _ _ l0_2 t3 t4 _ ?side1 ?side2 A11.out).mono ?_); (case side1 => repeat (first | exact (Kd.C_below HR0_2.out bw_) | (with_reducible refine Kd.C_alloc ?_ _) | (with_reducible refine Kd.C_drewN ?_ _) | (with_reducible refine Kd.C_drew ?_))); (case side2 => exact HC0_2.out); rintro e w' ⟨rfl, ⟨nd, rfl⟩⟩; refine ⟨_, rfl, ?_⟩))
    go_ret
    exact ⟨rr_, bw_⟩
   ·rw [if_neg c12] at H
    have c12b0 : decide (t4 < 0) = false := decide_eq_false c12
    clear c12
    replace H := Option.bind_eq_some_iff.mp H
    obtain ⟨t5, A150, H⟩ := H
    replace H : (if t5 < 0 then (some (-1)) else (some t5)) = some r := H
    have A15 := Aside0.mk A150
    clear A150
    by_cases c16 : t5 < 0
    ·rw [if_pos c16] at H
     have c16b0 : decide (t5 < 0) = true := decide_eq_true c16
     clear c16
     obtain rfl := Option.some.inj H
     go_enter Try.func20, Try.ntmps20
     go_wp2_with (first | ((with_reducible refine gate_dst (N := 2) rfl ?_); refine box_event ?hg (N := 2) ?hd (cs := #[.slice A0_0 l0_0.length c0_0, .slice A0_1 l0_1.length c0_1, .slice A0_2 l0_2.length c0_2, .slice A0_3 l0_3.length c0_3, .int .i64 a0_4]) (t := 25) ?hr ?_; (case hd => rfl); (case hg => rfl); (case hr => first | (go_simp; done) | (go_simp; rfl)); intro gb1 hg w17 hbox hb; have n0_ := Aside0.mk (below_step bw_ hb); have n1_ := Aside0.mk (hbox); have n2_ := Aside0.mk ((by rw [hg]; exact (below_size bw_) : w.heap.size ≤ gb1)); have n3_ := Aside0.mk ((by rw [hg]; exact (below_size bw_) : w.heap.size ≤ gb1)); clear HB; have HB := n0_; have BK1 := n1_; have GW1 := n2_; have GE1 := n3_; clear n0_ n1_ n2_ n3_; clear hb hbox hg; have hcz18_0 := (blk_cell BK1.out 0).trans rfl; have hcz18_1 := (blk_cell BK1.out 1).trans rfl; have hcz18_2 := (blk_cell BK1.out 2).trans rfl; have hcz18_3 := (blk_cell BK1.out 3).trans rfl; have hcz18_4 := (blk_cell BK1.out 4).trans rfl; have hfz18_0 := blk_frozen BK1.out 0; have hfz18_1 := blk_frozen BK1.out 1; have hfz18_2 := blk_frozen BK1.out 2; have hfz18_3 := blk_frozen BK1.out 3; have hfz18_4 := blk_frozen BK1.out 4) | ((with_reducible refine gate_callee (f := 95) rfl ?_); refine goesL_ (some 8) rfl rfl Try.func95 (by kernel_rfl) rfl #[.slice A0_0 l0_0.length c0_0, .int .i64 a1] rfl ar_ ?_; (with_reducible refine (laws_szIntS.calls _ _ l0_0 a1 t2 _ ?side1 ?side2 A3.out).mono ?_); (case side1 => exact cb_); (case side2 => exact HC0_0.out); rintro e w' ⟨rfl, ⟨nd, rfl⟩⟩; refine ⟨_, rfl, ?_⟩) | ((with_reducible refine gate_callee (f := 96) rfl ?_); refine goesL_ (some 14) rfl rfl Try.func96 (by kernel_rfl) rfl #[.slice A0_1 l0_1.length c0_1, .int .i64 t2] rfl ar_ ?_; (with_reducible refine (laws_szHoldS.calls _ _ l0_1 t2 t3 _ ?side1 ?side2 A7.out).mono ?_); (case side1 => repeat (first | exact (Kd.C_below HR0_1.out bw_) | (with_reducible refine Kd.C_alloc ?_ _) | (with_reducible refine Kd.C_drewN ?_ _) | (with_reducible refine Kd.C_drew ?_))); (case side2 => exact HC0_1.out); rintro e w' ⟨rfl, ⟨nd, rfl⟩⟩; refine ⟨_, rfl, ?_⟩) | ((with_reducible refine gate_callee (f := 95) rfl ?_); refine goesL_ (some 20) rfl rfl Try.func95 (by kernel_rfl) rfl #[.slice A0_2 l0_2.length c0_2, .int .i64 t3] rfl ar_ ?_; (with_reducible refine (laws_szIntS.calls _ _ l0_2 t3 t4 _ ?side1 ?side2 A11.out).mono ?_); (case side1 => repeat (first | exact (Kd.C_below HR0_2.out bw_) | (with_reducible refine Kd.C_alloc ?_ _) | (with_reducible refine Kd.C_drewN ?_ _) | (with_reducible refine Kd.C_drew ?_))); (case side2 => exact HC0_2.out); rintro e w' ⟨rfl, ⟨nd, rfl⟩⟩; refine ⟨_, rfl, ?_⟩) | ((with_reducible refine gate_callee (f := 95) rfl ?_); refine goesL_ (some 26) rfl rfl Try.func95 (by kernel_rfl) rfl #[.slice A0_3 l0_3.length c0_3, .int .i64 t4] rfl ar_ ?_; (with_reducible refine (laws_szIntS.calls _ _ l0_3 t4 t5 _ ?side1 ?side2 A15.out).mono ?_); (case side1 => repeat (first | exact (Kd.C_below HR0_3.out bw_) | (with_reducible refine Kd.C_alloc ?_ _) | (with_reducible refine Kd.C_drewN ?_ _) | (with_reducible refine Kd.C_drew ?_))); (case side2 => exact HC0_3.out); rintro e w' ⟨rfl, ⟨nd, rfl⟩⟩; refine ⟨_, rfl, ?_⟩))
     go_ret
     exact ⟨rr_, bw_⟩
    ·rw [if_neg c16] at H
     have c16b0 : decide (t5 < 0) = false := decide_eq_false c16
     clear c16
     obtain rfl := Option.some.inj H
     go_enter Try.func20, Try.ntmps20
     go_wp2_with (first | ((with_reducible refine gate_dst (N := 2) rfl ?_); refine box_event ?hg (N := 2) ?hd (cs := #[.slice A0_0 l0_0.length c0_0, .slice A0_1 l0_1.length c0_1, .slice A0_2 l0_2.length c0_2, .slice A0_3 l0_3.length c0_3, .int .i64 a0_4]) (t := 25) ?hr ?_; (case hd => rfl); (case hg => rfl); (case hr => first | (go_simp; done) | (go_simp; rfl)); intro gb1 hg w19 hbox hb; have n0_ := Aside0.mk (below_step bw_ hb); have n1_ := Aside0.mk (hbox); have n2_ := Aside0.mk ((by rw [hg]; exact (below_size bw_) : w.heap.size ≤ gb1)); have n3_ := Aside0.mk ((by rw [hg]; exact (below_size bw_) : w.heap.size ≤ gb1)); clear HB; have HB := n0_; have BK1 := n1_; have GW1 := n2_; have GE1 := n3_; clear n0_ n1_ n2_ n3_; clear hb hbox hg; have hcz20_0 := (blk_cell BK1.out 0).trans rfl; have hcz20_1 := (blk_cell BK1.out 1).trans rfl; have hcz20_2 := (blk_cell BK1.out 2).trans rfl; have hcz20_3 := (blk_cell BK1.out 3).trans rfl; have hcz20_4 := (blk_cell BK1.out 4).trans rfl; have hfz20_0 := blk_frozen BK1.out 0; have hfz20_1 := blk_frozen BK1.out 1; have hfz20_2 := blk_frozen BK1.out 2; have hfz20_3 := blk_frozen BK1.out 3; have hfz20_4 := blk_frozen BK1.out 4) | ((with_reducible refine gate_callee (f := 95) rfl ?_); refine goesL_ (some 8) rfl rfl Try.func95 (by kernel_rfl) rfl #[.slice A0_0 l0_0.length c0_0, .int .i64 a1] rfl ar_ ?_; (with_reducible refine (laws_szIntS.calls _ _ l0_0 a1 t2 _ ?side1 ?side2 A3.out).mono ?_); (case side1 => exact cb_); (case side2 => exact HC0_0.out); rintro e w' ⟨rfl, ⟨nd, rfl⟩⟩; refine ⟨_, rfl, ?_⟩) | ((with_reducible refine gate_callee (f := 96) rfl ?_); refine goesL_ (some 14) rfl rfl Try.func96 (by kernel_rfl) rfl #[.slice A0_1 l0_1.length c0_1, .int .i64 t2] rfl ar_ ?_; (with_reducible refine (laws_szHoldS.calls _ _ l0_1 t2 t3 _ ?side1 ?side2 A7.out).mono ?_); (case side1 => repeat (first | exact (Kd.C_below HR0_1.out bw_) | (with_reducible refine Kd.C_alloc ?_ _) | (with_reducible refine Kd.C_drewN ?_ _) | (with_reducible refine Kd.C_drew ?_))); (case side2 => exact HC0_1.out); rintro e w' ⟨rfl, ⟨nd, rfl⟩⟩; refine ⟨_, rfl, ?_⟩) | ((with_reducible refine gate_callee (f := 95) rfl ?_); refine goesL_ (some 20) rfl rfl Try.func95 (by kernel_rfl) rfl #[.slice A0_2 l0_2.length c0_2, .int .i64 t3] rfl ar_ ?_; (with_reducible refine (laws_szIntS.calls _ _ l0_2 t3 t4 _ ?side1 ?side2 A11.out).mono ?_); (case side1 => repeat (first | exact (Kd.C_below HR0_2.out bw_) | (with_reducible refine Kd.C_alloc ?_ _) | (with_reducible refine Kd.C_drewN ?_ _) | (with_reducible refine Kd.C_drew ?_))); (case side2 => exact HC0_2.out); rintro e w' ⟨rfl, ⟨nd, rfl⟩⟩; refine ⟨_, rfl, ?_⟩) | ((with_reducible refine gate_callee (f := 95) rfl ?_); refine goesL_ (some 26) rfl rfl Try.func95 (by kernel_rfl) rfl #[.slice A0_3 l0_3.length c0_3, .int .i64 t4] rfl ar_ ?_; (with_reducible refine (laws_szIntS.calls _ _ l0_3 t4 t5 _ ?side1 ?side2 A15.out).mono ?_); (case side1 => repeat (first | exact (Kd.C_below HR0_3.out bw_) | (with_reducible refine Kd.C_alloc ?_ _) | (with_reducible refine Kd.C_drewN ?_ _) | (with_reducible refine Kd.C_drew ?_))); (case side2 => exact HC0_3.out); rintro e w' ⟨rfl, ⟨nd, rfl⟩⟩; refine ⟨_, rfl, ?_⟩))
     go_ret
     exact ⟨rr_, bw_⟩

end Go.Proofs.Ytpcfcdnmpginhaa.P
