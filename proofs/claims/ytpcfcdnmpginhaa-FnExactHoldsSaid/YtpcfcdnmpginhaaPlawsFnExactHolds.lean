-- Written by mp.py (the session's own driver over the kit's printer) for the seat Ytpcfcdnmpginhaa.
import Derived.Test.YtpcfcdnmpginhaaK
import Derived.Test.YtpcfcdnmpginhaaE
import Derived.Test.YtpcfcdnmpginhaaPimplHolds
import Derived.Test.YtpcfcdnmpginhaaPlawseqAtom
import Derived.Test.YtpcfcdnmpginhaaPlawseqThreadS
import Derived.Test.YtpcfcdnmpginhaaPlawsszAtomS
import Derived.Test.YtpcfcdnmpginhaaPlawsszMem
import Derived.Test.YtpcfcdnmpginhaaPlawstoAtom
import Derived.Test.YtpcfcdnmpginhaaPlawstoThread
import Derived.Test.YtpcfcdnmpginhaaPspecHolds
namespace Go.Proofs.Ytpcfcdnmpginhaa.P
open Go.RowKit Go.Proofs.YtpcfcdnmpginhaaW.PrintWords Go.Proofs.YtpcfcdnmpginhaaW.PrintLast Go.Proofs.YtpcfcdnmpginhaaW.PrintMore
attribute [local go_sem] max2_int min2_int max_two min_two max_three min_three max_four min_four
set_option linter.unusedVariables false
set_option linter.unusedSimpArgs false

/-! ### laws_FnExactHolds: function 5 -/
def laws_FnExactHolds.f (k : Nat) (l0_0 : List Int) (l0_1 : List (S205)) (l1 : List (S141)) : Option (Bool) := (laws_szMachine.f k l0_0 l0_1 1048576).bind fun t2 => (if t2 < 0 then (some true) else ((laws_szAtomS.f l1 t2).bind fun t3 => (if t3 < 0 then (some true) else ((laws_toMachine.f k l0_0 l0_1).bind fun bt4 => ((laws_toAtomS.f k l1).bind fun t10 => ((spec_Holds.f k bt4.1 bt4.2 t10).bind fun t13 => ((laws_toMachine.f k l0_0 l0_1).bind fun bt14 => ((laws_toAtomS.f k l1).bind fun t21 => ((impl_Holds.f bt14.1 bt14.2 t21).bind fun t24 => (if (t24 != t13) = true then (some false) else ((laws_toMachine.f k l0_0 l0_1).bind fun bt25 => ((laws_eqMachine.f k bt14.1 bt14.2 bt25.1 bt25.2).bind fun t31 => (if t31 = true then ((laws_toAtomS.f k l1).bind fun t32 => ((laws_eqAtomS.f k t21 t32).bind fun t35 => (if t35 = true then (some true) else (some false)))) else (some false))))))))))))))
theorem laws_FnExactHolds.mono : ∀ a0 a1 a2 k, LeO (laws_FnExactHolds.f k a0 a1 a2) (laws_FnExactHolds.f (k + 1) a0 a1 a2) := by
 intro a0 a1 a2 k
 unfold laws_FnExactHolds.f
 repeat' first
   | (with_reducible exact laws_eqAtomS.mono _ _ _)
   | (with_reducible exact laws_eqMachine.mono _ _ _ _ _)
   | (with_reducible exact laws_szMachine.mono _ _ _ _)
   | (with_reducible exact laws_toAtomS.mono _ _)
   | (with_reducible exact laws_toMachine.mono _ _ _)
   | (with_reducible exact spec_Holds.mono _ _ _ _)
   | (with_reducible exact LeO.refl _)
   | (with_reducible exact LeO.none _)
   | (with_reducible refine LeO.ite ?_ ?_)
   | (with_reducible refine LeO.bind ?_ (fun _ => ?_))
   | exact laws_eqAtomS.mono _ _ _
   | exact laws_eqMachine.mono _ _ _ _ _
   | exact laws_szMachine.mono _ _ _ _
   | exact laws_toAtomS.mono _ _
   | exact laws_toMachine.mono _ _ _
   | exact spec_Holds.mono _ _ _ _
   | exact LeO.none _
   | refine LeO.ite ?_ ?_
   | refine LeO.bind ?_ (fun _ => ?_)
set_option maxHeartbeats 8000000 in
set_option maxRecDepth 100000 in
theorem laws_FnExactHolds.calls (k : Nat) (A0_0 : Option Addr) (c0_0 : Nat) (l0_0 : List Int) (A0_1 : Option Addr) (c0_1 : Nat) (l0_1 : List (S205)) (A1 : Option Addr) (c1 : Nat) (l1 : List (S141)) (r : Bool) (w : World) (hr0_0 : Kd.C (Kd.int .i64) w A0_0 l0_0.length l0_0) (hc0_0 : l0_0.length ≤ c0_0) (hr0_1 : Kd.C k205 w A0_1 l0_1.length l0_1) (hc0_1 : l0_1.length ≤ c0_1) (hr1 : Kd.C k141 w A1 l1.length l1) (hc1 : l1.length ≤ c1) (h : laws_FnExactHolds.f k l0_0 l0_1 l1 = some r) :
  Calls Try.prog 5 #[.agg #[.slice A0_0 l0_0.length c0_0, .slice A0_1 l0_1.length c0_1], .slice A1 l1.length c1] w fun e w' => e = .returned (.bool r) ∧ Below w.heap.size w w' := by
 have hu38 := Try.underlying38
 have hu46 := Try.underlying46
 have HR0_0 := Aside0.mk hr0_0
 have HC0_0 := Aside0.mk hc0_0
 clear hr0_0 hc0_0
 have HR0_1 := Aside0.mk hr0_1
 have HC0_1 := Aside0.mk hc0_1
 clear hr0_1 hc0_1
 have HR1 := Aside0.mk hr1
 have HC1 := Aside0.mk hc1
 clear hr1 hc1
 have HB := Aside0.mk (Below.refl w.heap.size w)
 have H : ((laws_szMachine.f k l0_0 l0_1 1048576).bind fun t2 => (if t2 < 0 then (some true) else ((laws_szAtomS.f l1 t2).bind fun t3 => (if t3 < 0 then (some true) else ((laws_toMachine.f k l0_0 l0_1).bind fun bt4 => ((laws_toAtomS.f k l1).bind fun t10 => ((spec_Holds.f k bt4.1 bt4.2 t10).bind fun t13 => ((laws_toMachine.f k l0_0 l0_1).bind fun bt14 => ((laws_toAtomS.f k l1).bind fun t21 => ((impl_Holds.f bt14.1 bt14.2 t21).bind fun t24 => (if (t24 != t13) = true then (some false) else ((laws_toMachine.f k l0_0 l0_1).bind fun bt25 => ((laws_eqMachine.f k bt14.1 bt14.2 bt25.1 bt25.2).bind fun t31 => (if t31 = true then ((laws_toAtomS.f k l1).bind fun t32 => ((laws_eqAtomS.f k t21 t32).bind fun t35 => (if t35 = true then (some true) else (some false)))) else (some false))))))))))))))) = some r := h
 clear h
 replace H := Option.bind_eq_some_iff.mp H
 obtain ⟨t2, A30, H⟩ := H
 replace H : (if t2 < 0 then (some true) else ((laws_szAtomS.f l1 t2).bind fun t3 => (if t3 < 0 then (some true) else ((laws_toMachine.f k l0_0 l0_1).bind fun bt4 => ((laws_toAtomS.f k l1).bind fun t10 => ((spec_Holds.f k bt4.1 bt4.2 t10).bind fun t13 => ((laws_toMachine.f k l0_0 l0_1).bind fun bt14 => ((laws_toAtomS.f k l1).bind fun t21 => ((impl_Holds.f bt14.1 bt14.2 t21).bind fun t24 => (if (t24 != t13) = true then (some false) else ((laws_toMachine.f k l0_0 l0_1).bind fun bt25 => ((laws_eqMachine.f k bt14.1 bt14.2 bt25.1 bt25.2).bind fun t31 => (if t31 = true then ((laws_toAtomS.f k l1).bind fun t32 => ((laws_eqAtomS.f k t21 t32).bind fun t35 => (if t35 = true then (some true) else (some false)))) else (some false)))))))))))))) = some r := H
 have A3 := Aside0.mk A30
 clear A30
 by_cases c4 : t2 < 0
 ·rw [if_pos c4] at H
  have c4b0 : decide (t2 < 0) = true := decide_eq_true c4
  clear c4
  obtain rfl := Option.some.inj H
  go_enter Try.func5, Try.ntmps5
  go_wp2_with (first | ((with_reducible refine gate_dst (N := 2) rfl ?_); refine box_event ?hg (N := 2) ?hd (cs := #[.slice A0_0 l0_0.length c0_0, .slice A0_1 l0_1.length c0_1]) (t := 38) ?hr ?_; (case hd => rfl); (case hg => rfl); (case hr => first | (go_simp; done) | (go_simp; rfl)); intro gb1 hg w5 hbox hb; have n0_ := Aside0.mk (below_step bw_ hb); have n1_ := Aside0.mk (hbox); have n2_ := Aside0.mk ((by rw [hg]; exact (below_size bw_) : w.heap.size ≤ gb1)); have n3_ := Aside0.mk ((by rw [hg]; exact (below_size bw_) : w.heap.size ≤ gb1)); clear HB; have HB := n0_; have BK1 := n1_; have GW1 := n2_; have GE1 := n3_; clear n0_ n1_ n2_ n3_; clear hb hbox hg; have hcz6_0 : w5.cell? ⟨gb1, 0, none⟩ = some (.slice A0_0 l0_0.length c0_0) := (blk_cell BK1.out 0).trans rfl; have hcz6_1 : w5.cell? ⟨gb1, 1, none⟩ = some (.slice A0_1 l0_1.length c0_1) := (blk_cell BK1.out 1).trans rfl; have hfz6_0 := blk_frozen BK1.out 0; have hfz6_1 := blk_frozen BK1.out 1) | ((with_reducible refine gate_callee (f := 27) rfl ?_); refine goesL_ (some 12) rfl rfl Try.func27 (by kernel_rfl) rfl #[.agg #[.slice A0_0 l0_0.length c0_0, .slice A0_1 l0_1.length c0_1], .int .i64 1048576] rfl ar_ ?_; (with_reducible refine (laws_szMachine.calls k _ _ l0_0 _ _ l0_1 1048576 t2 _ ?side1 ?side2 ?side3 ?side4 A3.out).mono ?_); (case side1 => exact cb_); (case side2 => exact HC0_0.out); (case side3 => exact cb_); (case side4 => exact HC0_1.out); rintro e w7 ⟨rfl, hb⟩; refine ⟨_, rfl, ?_⟩; have n0_ := Aside0.mk (blk_below (g := gb1) (o := .cells #[.slice A0_0 l0_0.length c0_0, .slice A0_1 l0_1.length c0_1] 38 (0, 0)) bk_ hb); have n1_ := Aside0.mk (below_step bw_ hb); clear BK1; clear HB; have BK1 := n0_; have HB := n1_; clear n0_ n1_; (try clear hb); (try clear hb2); (try clear hk); (try clear hi)))
  go_ret
  exact ⟨by first | rfl | (simp [errW_none, errW_some] <;> rfl) | (simp [*, errW_none, errW_some] <;> rfl), bw_⟩
 ·rw [if_neg c4] at H
  have c4b0 : decide (t2 < 0) = false := decide_eq_false c4
  clear c4
  replace H := Option.bind_eq_some_iff.mp H
  obtain ⟨t3, A80, H⟩ := H
  replace H : (if t3 < 0 then (some true) else ((laws_toMachine.f k l0_0 l0_1).bind fun bt4 => ((laws_toAtomS.f k l1).bind fun t10 => ((spec_Holds.f k bt4.1 bt4.2 t10).bind fun t13 => ((laws_toMachine.f k l0_0 l0_1).bind fun bt14 => ((laws_toAtomS.f k l1).bind fun t21 => ((impl_Holds.f bt14.1 bt14.2 t21).bind fun t24 => (if (t24 != t13) = true then (some false) else ((laws_toMachine.f k l0_0 l0_1).bind fun bt25 => ((laws_eqMachine.f k bt14.1 bt14.2 bt25.1 bt25.2).bind fun t31 => (if t31 = true then ((laws_toAtomS.f k l1).bind fun t32 => ((laws_eqAtomS.f k t21 t32).bind fun t35 => (if t35 = true then (some true) else (some false)))) else (some false)))))))))))) = some r := H
  have A8 := Aside0.mk A80
  clear A80
  by_cases c9 : t3 < 0
  ·rw [if_pos c9] at H
   have c9b0 : decide (t3 < 0) = true := decide_eq_true c9
   clear c9
   obtain rfl := Option.some.inj H
   go_enter Try.func5, Try.ntmps5
   go_wp2_with (first | ((with_reducible refine gate_dst (N := 2) rfl ?_); refine box_event ?hg (N := 2) ?hd (cs := #[.slice A0_0 l0_0.length c0_0, .slice A0_1 l0_1.length c0_1]) (t := 38) ?hr ?_; (case hd => rfl); (case hg => rfl); (case hr => first | (go_simp; done) | (go_simp; rfl)); intro gb1 hg w10 hbox hb; have n0_ := Aside0.mk (below_step bw_ hb); have n1_ := Aside0.mk (hbox); have n2_ := Aside0.mk ((by rw [hg]; exact (below_size bw_) : w.heap.size ≤ gb1)); have n3_ := Aside0.mk ((by rw [hg]; exact (below_size bw_) : w.heap.size ≤ gb1)); clear HB; have HB := n0_; have BK1 := n1_; have GW1 := n2_; have GE1 := n3_; clear n0_ n1_ n2_ n3_; clear hb hbox hg; have hcz11_0 : w10.cell? ⟨gb1, 0, none⟩ = some (.slice A0_0 l0_0.length c0_0) := (blk_cell BK1.out 0).trans rfl; have hcz11_1 : w10.cell? ⟨gb1, 1, none⟩ = some (.slice A0_1 l0_1.length c0_1) := (blk_cell BK1.out 1).trans rfl; have hfz11_0 := blk_frozen BK1.out 0; have hfz11_1 := blk_frozen BK1.out 1) | ((with_reducible refine gate_callee (f := 27) rfl ?_); refine goesL_ (some 12) rfl rfl Try.func27 (by kernel_rfl) rfl #[.agg #[.slice A0_0 l0_0.length c0_0, .slice A0_1 l0_1.length c0_1], .int .i64 1048576] rfl ar_ ?_; (with_reducible refine (laws_szMachine.calls k _ _ l0_0 _ _ l0_1 1048576 t2 _ ?side1 ?side2 ?side3 ?side4 A3.out).mono ?_); (case side1 => exact cb_); (case side2 => exact HC0_0.out); (case side3 => exact cb_); (case side4 => exact HC0_1.out); rintro e w12 ⟨rfl, hb⟩; refine ⟨_, rfl, ?_⟩; have n0_ := Aside0.mk (blk_below (g := gb1) (o := .cells #[.slice A0_0 l0_0.length c0_0, .slice A0_1 l0_1.length c0_1] 38 (0, 0)) bk_ hb); have n1_ := Aside0.mk (below_step bw_ hb); clear BK1; clear HB; have BK1 := n0_; have HB := n1_; clear n0_ n1_; (try clear hb); (try clear hb2); (try clear hk); (try clear hi)) | ((with_reducible refine gate_callee (f := 28) rfl ?_); refine goesL_ (some 17) rfl rfl Try.func28 (by kernel_rfl) rfl #[.slice A1 l1.length c1, .int .i64 t2] rfl ar_ ?_; (with_reducible refine (laws_szAtomS.calls _ _ l1 t2 t3 _ ?side1 ?side2 A8.out).mono ?_); (case side1 => exact cb_); (case side2 => exact HC1.out); rintro e w' ⟨rfl, ⟨nd, rfl⟩⟩; refine ⟨_, rfl, ?_⟩))
   go_ret
   exact ⟨by first | rfl | (simp [errW_none, errW_some] <;> rfl) | (simp [*, errW_none, errW_some] <;> rfl), bw_⟩
  ·rw [if_neg c9] at H
   have c9b0 : decide (t3 < 0) = false := decide_eq_false c9
   clear c9
   replace H := Option.bind_eq_some_iff.mp H
   obtain ⟨⟨t4, t7⟩, A130, H⟩ := H
   replace H : ((laws_toAtomS.f k l1).bind fun t10 => ((spec_Holds.f k t4 t7 t10).bind fun t13 => ((laws_toMachine.f k l0_0 l0_1).bind fun bt14 => ((laws_toAtomS.f k l1).bind fun t21 => ((impl_Holds.f bt14.1 bt14.2 t21).bind fun t24 => (if (t24 != t13) = true then (some false) else ((laws_toMachine.f k l0_0 l0_1).bind fun bt25 => ((laws_eqMachine.f k bt14.1 bt14.2 bt25.1 bt25.2).bind fun t31 => (if t31 = true then ((laws_toAtomS.f k l1).bind fun t32 => ((laws_eqAtomS.f k t21 t32).bind fun t35 => (if t35 = true then (some true) else (some false)))) else (some false)))))))))) = some r := H
   have A13 := Aside0.mk A130
   clear A130
   replace H := Option.bind_eq_some_iff.mp H
   obtain ⟨t10, A140, H⟩ := H
   replace H : ((spec_Holds.f k t4 t7 t10).bind fun t13 => ((laws_toMachine.f k l0_0 l0_1).bind fun bt14 => ((laws_toAtomS.f k l1).bind fun t21 => ((impl_Holds.f bt14.1 bt14.2 t21).bind fun t24 => (if (t24 != t13) = true then (some false) else ((laws_toMachine.f k l0_0 l0_1).bind fun bt25 => ((laws_eqMachine.f k bt14.1 bt14.2 bt25.1 bt25.2).bind fun t31 => (if t31 = true then ((laws_toAtomS.f k l1).bind fun t32 => ((laws_eqAtomS.f k t21 t32).bind fun t35 => (if t35 = true then (some true) else (some false)))) else (some false))))))))) = some r := H
   have A14 := Aside0.mk A140
   clear A140
   replace H := Option.bind_eq_some_iff.mp H
   obtain ⟨t13, A150, H⟩ := H
   replace H : ((laws_toMachine.f k l0_0 l0_1).bind fun bt14 => ((laws_toAtomS.f k l1).bind fun t21 => ((impl_Holds.f bt14.1 bt14.2 t21).bind fun t24 => (if (t24 != t13) = true then (some false) else ((laws_toMachine.f k l0_0 l0_1).bind fun bt25 => ((laws_eqMachine.f k bt14.1 bt14.2 bt25.1 bt25.2).bind fun t31 => (if t31 = true then ((laws_toAtomS.f k l1).bind fun t32 => ((laws_eqAtomS.f k t21 t32).bind fun t35 => (if t35 = true then (some true) else (some false)))) else (some false)))))))) = some r := H
   have A15 := Aside0.mk A150
   clear A150
   replace H := Option.bind_eq_some_iff.mp H
   obtain ⟨⟨t14, t17⟩, A160, H⟩ := H
   replace H : ((laws_toAtomS.f k l1).bind fun t21 => ((impl_Holds.f t14 t17 t21).bind fun t24 => (if (t24 != t13) = true then (some false) else ((laws_toMachine.f k l0_0 l0_1).bind fun bt25 => ((laws_eqMachine.f k t14 t17 bt25.1 bt25.2).bind fun t31 => (if t31 = true then ((laws_toAtomS.f k l1).bind fun t32 => ((laws_eqAtomS.f k t21 t32).bind fun t35 => (if t35 = true then (some true) else (some false)))) else (some false))))))) = some r := H
   have A16 := Aside0.mk A160
   clear A160
   replace H := Option.bind_eq_some_iff.mp H
   obtain ⟨t21, A170, H⟩ := H
   replace H : ((impl_Holds.f t14 t17 t21).bind fun t24 => (if (t24 != t13) = true then (some false) else ((laws_toMachine.f k l0_0 l0_1).bind fun bt25 => ((laws_eqMachine.f k t14 t17 bt25.1 bt25.2).bind fun t31 => (if t31 = true then ((laws_toAtomS.f k l1).bind fun t32 => ((laws_eqAtomS.f k t21 t32).bind fun t35 => (if t35 = true then (some true) else (some false)))) else (some false)))))) = some r := H
   have A17 := Aside0.mk A170
   clear A170
   replace H := Option.bind_eq_some_iff.mp H
   obtain ⟨t24, A180, H⟩ := H
   replace H : (if (t24 != t13) = true then (some false) else ((laws_toMachine.f k l0_0 l0_1).bind fun bt25 => ((laws_eqMachine.f k t14 t17 bt25.1 bt25.2).bind fun t31 => (if t31 = true then ((laws_toAtomS.f k l1).bind fun t32 => ((laws_eqAtomS.f k t21 t32).bind fun t35 => (if t35 = true then (some true) else (some false)))) else (some false))))) = some r := H
   have A18 := Aside0.mk A180
   clear A180
   by_cases c19 : (t24 != t13) = true
   ·rw [if_pos c19] at H
    have c19b0 : (t24 != t13) = true := c19
    (try (have c19b1 : decide (t24 = t13) = false := by simpa using c19))
    (try (have c19b2 : (t24 == t13) = false := by simpa using c19))
    (try (have c19b3 : ¬ (t24 = t13) := by simpa using c19))
    clear c19
    obtain rfl := Option.some.inj H
    go_enter Try.func5, Try.ntmps5
    go_wp2_with (first | ((with_reducible refine gate_dst (N := 2) rfl ?_); refine box_event ?hg (N := 2) ?hd (cs := #[.slice A0_0 l0_0.length c0_0, .slice A0_1 l0_1.length c0_1]) (t := 38) ?hr ?_; (case hd => rfl); (case hg => rfl); (case hr => first | (go_simp; done) | (go_simp; rfl)); intro gb1 hg w20 hbox hb; have n0_ := Aside0.mk (below_step bw_ hb); have n1_ := Aside0.mk (hbox); have n2_ := Aside0.mk ((by rw [hg]; exact (below_size bw_) : w.heap.size ≤ gb1)); have n3_ := Aside0.mk ((by rw [hg]; exact (below_size bw_) : w.heap.size ≤ gb1)); clear HB; have HB := n0_; have BK1 := n1_; have GW1 := n2_; have GE1 := n3_; clear n0_ n1_ n2_ n3_; clear hb hbox hg; have hcz21_0 : w20.cell? ⟨gb1, 0, none⟩ = some (.slice A0_0 l0_0.length c0_0) := (blk_cell BK1.out 0).trans rfl; have hcz21_1 : w20.cell? ⟨gb1, 1, none⟩ = some (.slice A0_1 l0_1.length c0_1) := (blk_cell BK1.out 1).trans rfl; have hfz21_0 := blk_frozen BK1.out 0; have hfz21_1 := blk_frozen BK1.out 1) | ((with_reducible refine gate_callee (f := 27) rfl ?_); refine goesL_ (some 12) rfl rfl Try.func27 (by kernel_rfl) rfl #[.agg #[.slice A0_0 l0_0.length c0_0, .slice A0_1 l0_1.length c0_1], .int .i64 1048576] rfl ar_ ?_; (with_reducible refine (laws_szMachine.calls k _ _ l0_0 _ _ l0_1 1048576 t2 _ ?side1 ?side2 ?side3 ?side4 A3.out).mono ?_); (case side1 => exact cb_); (case side2 => exact HC0_0.out); (case side3 => exact cb_); (case side4 => exact HC0_1.out); rintro e w22 ⟨rfl, hb⟩; refine ⟨_, rfl, ?_⟩; have n0_ := Aside0.mk (blk_below (g := gb1) (o := .cells #[.slice A0_0 l0_0.length c0_0, .slice A0_1 l0_1.length c0_1] 38 (0, 0)) bk_ hb); have n1_ := Aside0.mk (below_step bw_ hb); clear BK1; clear HB; have BK1 := n0_; have HB := n1_; clear n0_ n1_; (try clear hb); (try clear hb2); (try clear hk); (try clear hi)) | ((with_reducible refine gate_callee (f := 28) rfl ?_); refine goesL_ (some 17) rfl rfl Try.func28 (by kernel_rfl) rfl #[.slice A1 l1.length c1, .int .i64 t2] rfl ar_ ?_; (with_reducible refine (laws_szAtomS.calls _ _ l1 t2 t3 _ ?side1 ?side2 A8.out).mono ?_); (case side1 => exact cb_); (case side2 => exact HC1.out); rintro e w' ⟨rfl, ⟨nd, rfl⟩⟩; refine ⟨_, rfl, ?_⟩; (try (rw [drewN_self w22]; generalize hq_ : World.drewN w22 _ = w22; have n0_ : Aside0 (w22.heap[gb1]? = some (.cells #[.slice A0_0 l0_0.length c0_0, .slice A0_1 l0_1.length c0_1] 38 (0, 0))) := ⟨by rw [← hq_]; exact bk_⟩; have n1_ : Aside0 (Below w.heap.size w w22) := ⟨by rw [← hq_]; exact bw_⟩; clear BK1 HB hq_; have BK1 := n0_; have HB := n1_; clear n0_ n1_)); have hcz23_0 : w22.cell? ⟨gb1, 0, none⟩ = some (.slice A0_0 l0_0.length c0_0) := (blk_cell BK1.out 0).trans rfl; have hcz23_1 : w22.cell? ⟨gb1, 1, none⟩ = some (.slice A0_1 l0_1.length c0_1) := (blk_cell BK1.out 1).trans rfl; have hfz23_0 := blk_frozen BK1.out 0; have hfz23_1 := blk_frozen BK1.out 1) | ((with_reducible refine gate_callee (f := 30) rfl ?_); refine goesL_ (some 21) rfl rfl Try.func30 (by kernel_rfl) rfl #[.agg #[.slice A0_0 l0_0.length c0_0, .slice A0_1 l0_1.length c0_1]] rfl ar_ ?_; (with_reducible refine (laws_toMachine.calls k _ _ l0_0 _ _ l0_1 t4 t7 _ ?side1 ?side2 ?side3 ?side4 A13.out).mono ?_); (case side1 => exact cb_); (case side2 => exact HC0_0.out); (case side3 => exact cb_); (case side4 => exact HC0_1.out); rintro e w24 ⟨v5, v8, rfl, ho0, ho1, hb⟩; refine ⟨_, rfl, ?_⟩; have n0_ := Aside0.mk (Kd.R_lower ho0 (below_size bw_)); have n1_ := Aside0.mk (Kd.S_lower ho1 (below_size bw_)); have n2_ := Aside0.mk (blk_below (g := gb1) (o := .cells #[.slice A0_0 l0_0.length c0_0, .slice A0_1 l0_1.length c0_1] 38 (0, 0)) bk_ hb); have n3_ := Aside0.mk (below_step bw_ hb); clear BK1; clear HB; have HO6 := n0_; have HO9 := n1_; have BK1 := n2_; have HB := n3_; clear n0_ n1_ n2_ n3_; (try clear hb); (try clear hb2); (try clear hk); (try clear hi); (try clear ho0); (try clear ho1)) | ((with_reducible refine gate_callee (f := 31) rfl ?_); refine goesL_ (some 23) rfl rfl Try.func31 (by kernel_rfl) rfl #[.slice A1 l1.length c1] rfl ar_ ?_; (with_reducible refine (laws_toAtomS.calls k _ _ l1 t10 _ ?side1 ?side2 A14.out).mono ?_); (case side1 => exact cb_); (case side2 => exact HC1.out); rintro e w25 ⟨v11, rfl, ho0, hb⟩; refine ⟨_, rfl, ?_⟩; have n0_ := Aside0.mk (Kd.R_below (by (with_reducible repeat (first | apply Kd.R_alloc | apply Kd.R_drewN | apply Kd.R_drew)); exact HO6.out) hb); have n1_ := Aside0.mk (Kd.S_below (by (with_reducible repeat (first | apply Kd.S_alloc | apply Kd.S_drewN | apply Kd.S_drew)); exact HO9.out) hb); have n2_ := Aside0.mk (Kd.R_lower ho0 (below_size bw_)); have n3_ := Aside0.mk (blk_below (g := gb1) (o := .cells #[.slice A0_0 l0_0.length c0_0, .slice A0_1 l0_1.length c0_1] 38 (0, 0)) bk_ hb); have n4_ := Aside0.mk (below_step bw_ hb); clear HO6; clear HO9; clear BK1; clear HB; have HO6 := n0_; have HO9 := n1_; have HO12 := n2_; have BK1 := n3_; have HB := n4_; clear n0_ n1_ n2_ n3_ n4_; (try clear hb); (try clear hb2); (try clear hk); (try clear hi); (try clear ho0); obtain ⟨Ao26, co26, eo26⟩ := Kd.R_slice HO6.out; subst eo26; obtain ⟨Ao27, co27, eo27⟩ := Kd.S_slice HO9.out; subst eo27; obtain ⟨Ao28, co28, eo28⟩ := Kd.R_slice HO12.out; subst eo28) | ((with_reducible refine gate_callee (f := 29) rfl ?_); refine goesL_ (some 24) rfl rfl Try.func29 (by kernel_rfl) rfl #[.agg #[.slice Ao26 t4.length co26, .slice Ao27 t7.length co27], .slice Ao28 t10.length co28] rfl ar_ ?_; (with_reducible refine (spec_Holds.calls k _ _ t4 _ _ t7 _ _ t10 t13 _ ?side1 ?side2 ?side3 ?side4 ?side5 ?side6 A15.out).mono ?_); (case side1 => repeat (first | exact (Kd.R_reads' HO6.out).2.2 | (with_reducible refine Kd.C_alloc ?_ _) | (with_reducible refine Kd.C_drewN ?_ _) | (with_reducible refine Kd.C_drew ?_))); (case side2 => exact (Kd.R_reads' HO6.out).2.1); (case side3 => repeat (first | exact (Kd.S_reads' HO9.out).2.2 | (with_reducible refine Kd.C_alloc ?_ _) | (with_reducible refine Kd.C_drewN ?_ _) | (with_reducible refine Kd.C_drew ?_))); (case side4 => exact (Kd.S_reads' HO9.out).2.1); (case side5 => repeat (first | exact (Kd.R_reads' HO12.out).2.2 | (with_reducible refine Kd.C_alloc ?_ _) | (with_reducible refine Kd.C_drewN ?_ _) | (with_reducible refine Kd.C_drew ?_))); (case side6 => exact (Kd.R_reads' HO12.out).2.1); rintro e w29 ⟨rfl, hb⟩; refine ⟨_, rfl, ?_⟩; have n0_ := Aside0.mk (Kd.R_below (by (with_reducible repeat (first | apply Kd.R_alloc | apply Kd.R_drewN | apply Kd.R_drew)); exact HO6.out) hb); have n1_ := Aside0.mk (Kd.S_below (by (with_reducible repeat (first | apply Kd.S_alloc | apply Kd.S_drewN | apply Kd.S_drew)); exact HO9.out) hb); have n2_ := Aside0.mk (Kd.R_below (by (with_reducible repeat (first | apply Kd.R_alloc | apply Kd.R_drewN | apply Kd.R_drew)); exact HO12.out) hb); have n3_ := Aside0.mk (blk_below (g := gb1) (o := .cells #[.slice A0_0 l0_0.length c0_0, .slice A0_1 l0_1.length c0_1] 38 (0, 0)) bk_ hb); have n4_ := Aside0.mk (below_step bw_ hb); clear HO6; clear HO9; clear HO12; clear BK1; clear HB; have HO6 := n0_; have HO9 := n1_; have HO12 := n2_; have BK1 := n3_; have HB := n4_; clear n0_ n1_ n2_ n3_ n4_; (try clear hb); (try clear hb2); (try clear hk); (try clear hi); have hcz30_0 : w29.cell? ⟨gb1, 0, none⟩ = some (.slice A0_0 l0_0.length c0_0) := (blk_cell BK1.out 0).trans rfl; have hcz30_1 : w29.cell? ⟨gb1, 1, none⟩ = some (.slice A0_1 l0_1.length c0_1) := (blk_cell BK1.out 1).trans rfl; have hfz30_0 := blk_frozen BK1.out 0; have hfz30_1 := blk_frozen BK1.out 1) | ((with_reducible refine gate_callee (f := 30) rfl ?_); refine goesL_ (some 26) rfl rfl Try.func30 (by kernel_rfl) rfl #[.agg #[.slice A0_0 l0_0.length c0_0, .slice A0_1 l0_1.length c0_1]] rfl ar_ ?_; (with_reducible refine (laws_toMachine.calls k _ _ l0_0 _ _ l0_1 t14 t17 _ ?side1 ?side2 ?side3 ?side4 A16.out).mono ?_); (case side1 => exact cb_); (case side2 => exact HC0_0.out); (case side3 => exact cb_); (case side4 => exact HC0_1.out); rintro e w31 ⟨v15, v18, rfl, ho0, ho1, hb⟩; refine ⟨_, rfl, ?_⟩; have n0_ := Aside0.mk (Kd.R_elder' (by (with_reducible repeat (first | apply Kd.R_alloc | apply Kd.R_drewN | apply Kd.R_drew)); exact HO6.out) (Kd.R_base ho0) hb); have n1_ := Aside0.mk (Kd.S_mono (Kd.S_told (Kd.S_told (Kd.S_old (by (with_reducible repeat (first | apply Kd.S_alloc | apply Kd.S_drewN | apply Kd.S_drew)); exact HO9.out) hb) (Kd.R_base ho0)) (Kd.S_base ho1)) (fun _ h_ => h_.1)); have n2_ := Aside0.mk (Kd.R_below (by (with_reducible repeat (first | apply Kd.R_alloc | apply Kd.R_drewN | apply Kd.R_drew)); exact HO12.out) hb); have n3_ := Aside0.mk (Kd.R_lower (Kd.R_new' ho0 (Kd.R_lt (by (with_reducible repeat (first | apply Kd.R_alloc | apply Kd.R_drewN | apply Kd.R_drew)); exact HO6.out))) (below_size bw_)); have n4_ := Aside0.mk (Kd.S_lower (Kd.S_new' (Kd.S_new' ho1 (Kd.R_lt (by (with_reducible repeat (first | apply Kd.R_alloc | apply Kd.R_drewN | apply Kd.R_drew)); exact HO6.out))) (Kd.S_lt (by (with_reducible repeat (first | apply Kd.S_alloc | apply Kd.S_drewN | apply Kd.S_drew)); exact HO9.out))) (below_size bw_)); have n5_ := Aside0.mk (blk_below (g := gb1) (o := .cells #[.slice A0_0 l0_0.length c0_0, .slice A0_1 l0_1.length c0_1] 38 (0, 0)) bk_ hb); have n6_ := Aside0.mk (below_step bw_ hb); clear HO6; clear HO9; clear HO12; clear BK1; clear HB; have HO6 := n0_; have HO9 := n1_; have HO12 := n2_; have HO16 := n3_; have HO19 := n4_; have BK1 := n5_; have HB := n6_; clear n0_ n1_ n2_ n3_ n4_ n5_ n6_; (try clear hb); (try clear hb2); (try clear hk); (try clear hi); (try clear ho0); (try clear ho1)) | ((with_reducible refine gate_dst (N := 7) rfl ?_); refine box_event ?hg (N := 7) ?hd (cs := #[.slice none 0 0, .slice none 0 0]) (t := 46) ?hr ?_; (case hd => rfl); (case hg => rfl); (case hr => first | (go_simp; done) | (go_simp; rfl)); intro gb20 hg w32 hbox hb; have n0_ := Aside0.mk (Kd.R_below (by (with_reducible repeat (first | apply Kd.R_alloc | apply Kd.R_drewN | apply Kd.R_drew)); exact HO6.out) hb); have n1_ := Aside0.mk (Kd.S_below (by (with_reducible repeat (first | apply Kd.S_alloc | apply Kd.S_drewN | apply Kd.S_drew)); exact HO9.out) hb); have n2_ := Aside0.mk (Kd.R_below (by (with_reducible repeat (first | apply Kd.R_alloc | apply Kd.R_drewN | apply Kd.R_drew)); exact HO12.out) hb); have n3_ := Aside0.mk (Kd.R_below (by (with_reducible repeat (first | apply Kd.R_alloc | apply Kd.R_drewN | apply Kd.R_drew)); exact HO16.out) hb); have n4_ := Aside0.mk (Kd.S_below (by (with_reducible repeat (first | apply Kd.S_alloc | apply Kd.S_drewN | apply Kd.S_drew)); exact HO19.out) hb); have n5_ := Aside0.mk (blk_below (g := gb1) (o := .cells #[.slice A0_0 l0_0.length c0_0, .slice A0_1 l0_1.length c0_1] 38 (0, 0)) bk_ hb); have n6_ := Aside0.mk (below_step bw_ hb); have n7_ := Aside0.mk (hbox); have n8_ := Aside0.mk ((by rw [hg]; exact (below_size bw_) : w.heap.size ≤ gb20)); have n9_ := Aside0.mk ((by rw [hg]; exact (below_size bw_) : w.heap.size ≤ gb20)); have n10_ := Aside0.mk ((by rw [hg]; exact Nat.ne_of_lt (blk_lt (g := gb1) (o := .cells #[.slice A0_0 l0_0.length c0_0, .slice A0_1 l0_1.length c0_1] 38 (0, 0)) bk_) : gb1 ≠ gb20)); have n11_ := Aside0.mk ((by rw [hg]; exact Nat.ne_of_gt (blk_lt (g := gb1) (o := .cells #[.slice A0_0 l0_0.length c0_0, .slice A0_1 l0_1.length c0_1] 38 (0, 0)) bk_) : gb20 ≠ gb1)); clear HO6; clear HO9; clear HO12; clear HO16; clear HO19; clear BK1; clear HB; have HO6 := n0_; have HO9 := n1_; have HO12 := n2_; have HO16 := n3_; have HO19 := n4_; have BK1 := n5_; have HB := n6_; have BK20 := n7_; have GW20 := n8_; have GE20 := n9_; have NB1_20 := n10_; have NB20_1 := n11_; clear n0_ n1_ n2_ n3_ n4_ n5_ n6_ n7_ n8_ n9_ n10_ n11_; clear hb hbox hg; obtain ⟨Ao33, co33, eo33⟩ := Kd.R_slice HO16.out; subst eo33; have hnb34 := NB20_1.out; have hnc34 := NB1_20.out; have hcz35_0 : w32.cell? ⟨gb20, 0, none⟩ = some (.slice none 0 0) := (blk_cell BK20.out 0).trans rfl; have hcz35_1 : w32.cell? ⟨gb20, 1, none⟩ = some (.slice none 0 0) := (blk_cell BK20.out 1).trans rfl; have hfz35_0 := blk_frozen BK20.out 0; have hfz35_1 := blk_frozen BK20.out 1; obtain ⟨Ao36, co36, eo36⟩ := Kd.S_slice HO19.out; subst eo36) | ((with_reducible refine gate_callee (f := 31) rfl ?_); refine goesL_ (some 28) rfl rfl Try.func31 (by kernel_rfl) rfl #[.slice A1 l1.length c1] rfl ar_ ?_; (with_reducible refine (laws_toAtomS.calls k _ _ l1 t21 _ ?side1 ?side2 A17.out).mono ?_); (case side1 => exact Kd.C_below HR1.out bw_); (case side2 => exact HC1.out); rintro e w37 ⟨v22, rfl, ho0, hb⟩; refine ⟨_, rfl, ?_⟩; have n0_ := Aside0.mk (Kd.R_below (by (with_reducible repeat (first | apply Kd.R_alloc | apply Kd.R_drewN | apply Kd.R_drew)); exact (Kd.R_mono (Kd.R_far (p := ⟨gb20, 1, none⟩) (Kd.R_far (p := ⟨gb20, 0, none⟩) (Kd.R_types HO6.out BK20.out (by decide)) (fun _ hk => hk.2) (.slice Ao33 t14.length co33)) (fun _ hk => hk.2) (.slice Ao36 t17.length co36)) (fun _ h_ => h_.1))) hb); have n1_ := Aside0.mk (Kd.S_below (by (with_reducible repeat (first | apply Kd.S_alloc | apply Kd.S_drewN | apply Kd.S_drew)); exact (Kd.S_mono (Kd.S_far (p := ⟨gb20, 1, none⟩) (Kd.S_far (p := ⟨gb20, 0, none⟩) (Kd.S_types HO9.out BK20.out (by decide)) (fun _ hk => hk.2) (.slice Ao33 t14.length co33)) (fun _ hk => hk.2) (.slice Ao36 t17.length co36)) (fun _ h_ => h_.1))) hb); have n2_ := Aside0.mk (Kd.R_elder' (by (with_reducible repeat (first | apply Kd.R_alloc | apply Kd.R_drewN | apply Kd.R_drew)); exact (Kd.R_mono (Kd.R_far (p := ⟨gb20, 1, none⟩) (Kd.R_far (p := ⟨gb20, 0, none⟩) (Kd.R_types HO12.out BK20.out (by decide)) (fun _ hk => hk.2) (.slice Ao33 t14.length co33)) (fun _ hk => hk.2) (.slice Ao36 t17.length co36)) (fun _ h_ => h_.1))) (Kd.R_base ho0) hb); have n3_ := Aside0.mk (Kd.R_below (by (with_reducible repeat (first | apply Kd.R_alloc | apply Kd.R_drewN | apply Kd.R_drew)); exact (Kd.R_mono (Kd.R_far (p := ⟨gb20, 1, none⟩) (Kd.R_far (p := ⟨gb20, 0, none⟩) (Kd.R_types HO16.out BK20.out (by decide)) (fun _ hk => hk.2) (.slice Ao33 t14.length co33)) (fun _ hk => hk.2) (.slice Ao36 t17.length co36)) (fun _ h_ => h_.1))) hb); have n4_ := Aside0.mk (Kd.S_below (by (with_reducible repeat (first | apply Kd.S_alloc | apply Kd.S_drewN | apply Kd.S_drew)); exact (Kd.S_mono (Kd.S_far (p := ⟨gb20, 1, none⟩) (Kd.S_far (p := ⟨gb20, 0, none⟩) (Kd.S_types HO19.out BK20.out (by decide)) (fun _ hk => hk.2) (.slice Ao33 t14.length co33)) (fun _ hk => hk.2) (.slice Ao36 t17.length co36)) (fun _ h_ => h_.1))) hb); have n5_ := Aside0.mk (Kd.R_lower (Kd.R_new' ho0 (Kd.R_lt (by (with_reducible repeat (first | apply Kd.R_alloc | apply Kd.R_drewN | apply Kd.R_drew)); exact (Kd.R_mono (Kd.R_far (p := ⟨gb20, 1, none⟩) (Kd.R_far (p := ⟨gb20, 0, none⟩) (Kd.R_types HO12.out BK20.out (by decide)) (fun _ hk => hk.2) (.slice Ao33 t14.length co33)) (fun _ hk => hk.2) (.slice Ao36 t17.length co36)) (fun _ h_ => h_.1))))) (below_size bw_)); have n6_ := Aside0.mk (blk_below (g := gb1) (o := .cells #[.slice A0_0 l0_0.length c0_0, .slice A0_1 l0_1.length c0_1] 38 (0, 0)) (by (with_reducible repeat (first | refine blk_drewN ?_ _ | refine blk_drew ?_ | refine blk_alloc ?_ _)); refine blk_far ?_ NB1_20.out _; (with_reducible repeat (first | refine blk_drewN ?_ _ | refine blk_drew ?_ | refine blk_alloc ?_ _)); refine blk_far ?_ NB1_20.out _; (with_reducible repeat (first | refine blk_drewN ?_ _ | refine blk_drew ?_ | refine blk_alloc ?_ _)); exact BK1.out) hb); have n7_ := Aside0.mk (blk_below (g := gb20) (o := .cells #[.slice Ao33 t14.length co33, .slice Ao36 t17.length co36] 46 (0, 0)) (by (with_reducible repeat (first | refine blk_drewN ?_ _ | refine blk_drew ?_ | refine blk_alloc ?_ _)); refine blk_put (cs := #[.slice Ao33 t14.length co33, .slice none 0 0]) ?_ 1 _ rfl; (with_reducible repeat (first | refine blk_drewN ?_ _ | refine blk_drew ?_ | refine blk_alloc ?_ _)); refine blk_put (cs := #[.slice none 0 0, .slice none 0 0]) ?_ 0 _ rfl; (with_reducible repeat (first | refine blk_drewN ?_ _ | refine blk_drew ?_ | refine blk_alloc ?_ _)); exact BK20.out) hb); have n8_ := Aside0.mk (below_step bw_ hb); clear HO6; clear HO9; clear HO12; clear HO16; clear HO19; clear BK1; clear BK20; clear HB; have HO6 := n0_; have HO9 := n1_; have HO12 := n2_; have HO16 := n3_; have HO19 := n4_; have HO23 := n5_; have BK1 := n6_; have BK20 := n7_; have HB := n8_; clear n0_ n1_ n2_ n3_ n4_ n5_ n6_ n7_ n8_; (try clear hb); (try clear hb2); (try clear hk); (try clear hi); (try clear ho0); have hcz38_0 : w37.cell? ⟨gb20, 0, none⟩ = some (.slice Ao33 t14.length co33) := (blk_cell BK20.out 0).trans rfl; have hcz38_1 : w37.cell? ⟨gb20, 1, none⟩ = some (.slice Ao36 t17.length co36) := (blk_cell BK20.out 1).trans rfl; have hfz38_0 := blk_frozen BK20.out 0; have hfz38_1 := blk_frozen BK20.out 1; obtain ⟨Ao39, co39, eo39⟩ := Kd.R_slice HO23.out; subst eo39) | ((with_reducible refine gate_callee (f := 32) rfl ?_); refine goesL_ (some 31) rfl rfl Try.func32 (by kernel_rfl) rfl #[.agg #[.slice Ao33 t14.length co33, .slice Ao36 t17.length co36], .slice Ao39 t21.length co39] rfl ar_ ?_; (with_reducible refine (impl_Holds.calls _ _ t14 _ _ t17 _ _ t21 t24 _ ?side1 ?side2 ?side3 ?side4 ?side5 ?side6 A18.out).mono ?_); (case side1 => repeat (first | exact (Kd.R_reads' HO16.out).2.2 | (with_reducible refine Kd.C_alloc ?_ _) | (with_reducible refine Kd.C_drewN ?_ _) | (with_reducible refine Kd.C_drew ?_))); (case side2 => exact (Kd.R_reads' HO16.out).2.1); (case side3 => repeat (first | exact (Kd.S_reads' HO19.out).2.2 | (with_reducible refine Kd.C_alloc ?_ _) | (with_reducible refine Kd.C_drewN ?_ _) | (with_reducible refine Kd.C_drew ?_))); (case side4 => exact (Kd.S_reads' HO19.out).2.1); (case side5 => repeat (first | exact (Kd.R_reads' HO23.out).2.2 | (with_reducible refine Kd.C_alloc ?_ _) | (with_reducible refine Kd.C_drewN ?_ _) | (with_reducible refine Kd.C_drew ?_))); (case side6 => exact (Kd.R_reads' HO23.out).2.1); rintro e w40 ⟨rfl, hb⟩; refine ⟨_, rfl, ?_⟩; have n0_ := Aside0.mk (Kd.R_below (by (with_reducible repeat (first | apply Kd.R_alloc | apply Kd.R_drewN | apply Kd.R_drew)); exact HO6.out) hb); have n1_ := Aside0.mk (Kd.S_below (by (with_reducible repeat (first | apply Kd.S_alloc | apply Kd.S_drewN | apply Kd.S_drew)); exact HO9.out) hb); have n2_ := Aside0.mk (Kd.R_below (by (with_reducible repeat (first | apply Kd.R_alloc | apply Kd.R_drewN | apply Kd.R_drew)); exact HO12.out) hb); have n3_ := Aside0.mk (Kd.R_below (by (with_reducible repeat (first | apply Kd.R_alloc | apply Kd.R_drewN | apply Kd.R_drew)); exact HO16.out) hb); have n4_ := Aside0.mk (Kd.S_below (by (with_reducible repeat (first | apply Kd.S_alloc | apply Kd.S_drewN | apply Kd.S_drew)); exact HO19.out) hb); have n5_ := Aside0.mk (Kd.R_below (by (with_reducible repeat (first | apply Kd.R_alloc | apply Kd.R_drewN | apply Kd.R_drew)); exact HO23.out) hb); have n6_ := Aside0.mk (blk_below (g := gb1) (o := .cells #[.slice A0_0 l0_0.length c0_0, .slice A0_1 l0_1.length c0_1] 38 (0, 0)) bk_ hb); have n7_ := Aside0.mk (blk_below (g := gb20) (o := .cells #[.slice Ao33 t14.length co33, .slice Ao36 t17.length co36] 46 (0, 0)) bk_ hb); have n8_ := Aside0.mk (below_step bw_ hb); clear HO6; clear HO9; clear HO12; clear HO16; clear HO19; clear HO23; clear BK1; clear BK20; clear HB; have HO6 := n0_; have HO9 := n1_; have HO12 := n2_; have HO16 := n3_; have HO19 := n4_; have HO23 := n5_; have BK1 := n6_; have BK20 := n7_; have HB := n8_; clear n0_ n1_ n2_ n3_ n4_ n5_ n6_ n7_ n8_; (try clear hb); (try clear hb2); (try clear hk); (try clear hi)))
    go_ret
    exact ⟨by first | rfl | (simp [errW_none, errW_some] <;> rfl) | (simp [*, errW_none, errW_some] <;> rfl), bw_⟩
   ·rw [if_neg c19] at H
    have c19b0 : (t24 != t13) = false := by simpa using c19
    (try (have c19b1 : decide (t24 = t13) = true := by simpa using c19))
    (try (have c19b2 : (t24 == t13) = true := by simpa using c19))
    clear c19
    replace H := Option.bind_eq_some_iff.mp H
    obtain ⟨⟨t25, t28⟩, A410, H⟩ := H
    replace H : ((laws_eqMachine.f k t14 t17 t25 t28).bind fun t31 => (if t31 = true then ((laws_toAtomS.f k l1).bind fun t32 => ((laws_eqAtomS.f k t21 t32).bind fun t35 => (if t35 = true then (some true) else (some false)))) else (some false))) = some r := H
    have A41 := Aside0.mk A410
    clear A410
    replace H := Option.bind_eq_some_iff.mp H
    obtain ⟨t31, A420, H⟩ := H
    replace H : (if t31 = true then ((laws_toAtomS.f k l1).bind fun t32 => ((laws_eqAtomS.f k t21 t32).bind fun t35 => (if t35 = true then (some true) else (some false)))) else (some false)) = some r := H
    have A42 := Aside0.mk A420
    clear A420
    by_cases c43 : t31 = true
    ·subst c43
     have H1 : ((laws_toAtomS.f k l1).bind fun t32 => ((laws_eqAtomS.f k t21 t32).bind fun t35 => (if t35 = true then (some true) else (some false)))) = some r := by rw [if_pos rfl] at H; exact H
     clear H
     have H := H1
     clear H1
     replace H := Option.bind_eq_some_iff.mp H
     obtain ⟨t32, A440, H⟩ := H
     replace H : ((laws_eqAtomS.f k t21 t32).bind fun t35 => (if t35 = true then (some true) else (some false))) = some r := H
     have A44 := Aside0.mk A440
     clear A440
     replace H := Option.bind_eq_some_iff.mp H
     obtain ⟨t35, A450, H⟩ := H
     replace H : (if t35 = true then (some true) else (some false)) = some r := H
     have A45 := Aside0.mk A450
     clear A450
     by_cases c46 : t35 = true
     ·subst c46
      have H1 : (some true) = some r := by rw [if_pos rfl] at H; exact H
      clear H
      have H := H1
      clear H1
      obtain rfl := Option.some.inj H
      go_enter Try.func5, Try.ntmps5
      try go_wp2_with (first | ((with_reducible refine gate_dst (N := 2) rfl ?_); refine box_event ?hg (N := 2) ?hd (cs := #[.slice A0_0 l0_0.length c0_0, .slice A0_1 l0_1.length c0_1]) (t := 38) ?hr ?_; (case hd => rfl); (case hg => rfl); (case hr => first | (go_simp; done) | (go_simp; rfl)); intro gb1 hg w47 hbox hb; have n0_ := Aside0.mk (below_step bw_ hb); have n1_ := Aside0.mk (hbox); have n2_ := Aside0.mk ((by rw [hg]; exact (below_size bw_) : w.heap.size ≤ gb1)); have n3_ := Aside0.mk ((by rw [hg]; exact (below_size bw_) : w.heap.size ≤ gb1)); clear HB; have HB := n0_; have BK1 := n1_; have GW1 := n2_; have GE1 := n3_; clear n0_ n1_ n2_ n3_; clear hb hbox hg; have hcz48_0 : w47.cell? ⟨gb1, 0, none⟩ = some (.slice A0_0 l0_0.length c0_0) := (blk_cell BK1.out 0).trans rfl; have hcz48_1 : w47.cell? ⟨gb1, 1, none⟩ = some (.slice A0_1 l0_1.length c0_1) := (blk_cell BK1.out 1).trans rfl; have hfz48_0 := blk_frozen BK1.out 0; have hfz48_1 := blk_frozen BK1.out 1) | ((with_reducible refine gate_callee (f := 27) rfl ?_); refine goesL_ (some 12) rfl rfl Try.func27 (by kernel_rfl) rfl #[.agg #[.slice A0_0 l0_0.length c0_0, .slice A0_1 l0_1.length c0_1], .int .i64 1048576] rfl ar_ ?_; (with_reducible refine (laws_szMachine.calls k _ _ l0_0 _ _ l0_1 1048576 t2 _ ?side1 ?side2 ?side3 ?side4 A3.out).mono ?_); (case side1 => exact cb_); (case side2 => exact HC0_0.out); (case side3 => exact cb_); (case side4 => exact HC0_1.out); rintro e w49 ⟨rfl, hb⟩; refine ⟨_, rfl, ?_⟩; have n0_ := Aside0.mk (blk_below (g := gb1) (o := .cells #[.slice A0_0 l0_0.length c0_0, .slice A0_1 l0_1.length c0_1] 38 (0, 0)) bk_ hb); have n1_ := Aside0.mk (below_step bw_ hb); clear BK1; clear HB; have BK1 := n0_; have HB := n1_; clear n0_ n1_; (try clear hb); (try clear hb2); (try clear hk); (try clear hi)) | ((with_reducible refine gate_callee (f := 28) rfl ?_); refine goesL_ (some 17) rfl rfl Try.func28 (by kernel_rfl) rfl #[.slice A1 l1.length c1, .int .i64 t2] rfl ar_ ?_; (with_reducible refine (laws_szAtomS.calls _ _ l1 t2 t3 _ ?side1 ?side2 A8.out).mono ?_); (case side1 => exact cb_); (case side2 => exact HC1.out); rintro e w' ⟨rfl, ⟨nd, rfl⟩⟩; refine ⟨_, rfl, ?_⟩; (try (rw [drewN_self w49]; generalize hq_ : World.drewN w49 _ = w49; have n0_ : Aside0 (w49.heap[gb1]? = some (.cells #[.slice A0_0 l0_0.length c0_0, .slice A0_1 l0_1.length c0_1] 38 (0, 0))) := ⟨by rw [← hq_]; exact bk_⟩; have n1_ : Aside0 (Below w.heap.size w w49) := ⟨by rw [← hq_]; exact bw_⟩; clear BK1 HB hq_; have BK1 := n0_; have HB := n1_; clear n0_ n1_)); have hcz50_0 : w49.cell? ⟨gb1, 0, none⟩ = some (.slice A0_0 l0_0.length c0_0) := (blk_cell BK1.out 0).trans rfl; have hcz50_1 : w49.cell? ⟨gb1, 1, none⟩ = some (.slice A0_1 l0_1.length c0_1) := (blk_cell BK1.out 1).trans rfl; have hfz50_0 := blk_frozen BK1.out 0; have hfz50_1 := blk_frozen BK1.out 1) | ((with_reducible refine gate_callee (f := 30) rfl ?_); refine goesL_ (some 21) rfl rfl Try.func30 (by kernel_rfl) rfl #[.agg #[.slice A0_0 l0_0.length c0_0, .slice A0_1 l0_1.length c0_1]] rfl ar_ ?_; (with_reducible refine (laws_toMachine.calls k _ _ l0_0 _ _ l0_1 t4 t7 _ ?side1 ?side2 ?side3 ?side4 A13.out).mono ?_); (case side1 => exact cb_); (case side2 => exact HC0_0.out); (case side3 => exact cb_); (case side4 => exact HC0_1.out); rintro e w51 ⟨v5, v8, rfl, ho0, ho1, hb⟩; refine ⟨_, rfl, ?_⟩; have n0_ := Aside0.mk (Kd.R_lower ho0 (below_size bw_)); have n1_ := Aside0.mk (Kd.S_lower ho1 (below_size bw_)); have n2_ := Aside0.mk (blk_below (g := gb1) (o := .cells #[.slice A0_0 l0_0.length c0_0, .slice A0_1 l0_1.length c0_1] 38 (0, 0)) bk_ hb); have n3_ := Aside0.mk (below_step bw_ hb); clear BK1; clear HB; have HO6 := n0_; have HO9 := n1_; have BK1 := n2_; have HB := n3_; clear n0_ n1_ n2_ n3_; (try clear hb); (try clear hb2); (try clear hk); (try clear hi); (try clear ho0); (try clear ho1)) | ((with_reducible refine gate_callee (f := 31) rfl ?_); refine goesL_ (some 23) rfl rfl Try.func31 (by kernel_rfl) rfl #[.slice A1 l1.length c1] rfl ar_ ?_; (with_reducible refine (laws_toAtomS.calls k _ _ l1 t10 _ ?side1 ?side2 A14.out).mono ?_); (case side1 => exact cb_); (case side2 => exact HC1.out); rintro e w52 ⟨v11, rfl, ho0, hb⟩; refine ⟨_, rfl, ?_⟩; have n0_ := Aside0.mk (Kd.R_below (by (with_reducible repeat (first | apply Kd.R_alloc | apply Kd.R_drewN | apply Kd.R_drew)); exact HO6.out) hb); have n1_ := Aside0.mk (Kd.S_below (by (with_reducible repeat (first | apply Kd.S_alloc | apply Kd.S_drewN | apply Kd.S_drew)); exact HO9.out) hb); have n2_ := Aside0.mk (Kd.R_lower ho0 (below_size bw_)); have n3_ := Aside0.mk (blk_below (g := gb1) (o := .cells #[.slice A0_0 l0_0.length c0_0, .slice A0_1 l0_1.length c0_1] 38 (0, 0)) bk_ hb); have n4_ := Aside0.mk (below_step bw_ hb); clear HO6; clear HO9; clear BK1; clear HB; have HO6 := n0_; have HO9 := n1_; have HO12 := n2_; have BK1 := n3_; have HB := n4_; clear n0_ n1_ n2_ n3_ n4_; (try clear hb); (try clear hb2); (try clear hk); (try clear hi); (try clear ho0); obtain ⟨Ao53, co53, eo53⟩ := Kd.R_slice HO6.out; subst eo53; obtain ⟨Ao54, co54, eo54⟩ := Kd.S_slice HO9.out; subst eo54; obtain ⟨Ao55, co55, eo55⟩ := Kd.R_slice HO12.out; subst eo55) | ((with_reducible refine gate_callee (f := 29) rfl ?_); refine goesL_ (some 24) rfl rfl Try.func29 (by kernel_rfl) rfl #[.agg #[.slice Ao53 t4.length co53, .slice Ao54 t7.length co54], .slice Ao55 t10.length co55] rfl ar_ ?_; (with_reducible refine (spec_Holds.calls k _ _ t4 _ _ t7 _ _ t10 t13 _ ?side1 ?side2 ?side3 ?side4 ?side5 ?side6 A15.out).mono ?_); (case side1 => repeat (first | exact (Kd.R_reads' HO6.out).2.2 | (with_reducible refine Kd.C_alloc ?_ _) | (with_reducible refine Kd.C_drewN ?_ _) | (with_reducible refine Kd.C_drew ?_))); (case side2 => exact (Kd.R_reads' HO6.out).2.1); (case side3 => repeat (first | exact (Kd.S_reads' HO9.out).2.2 | (with_reducible refine Kd.C_alloc ?_ _) | (with_reducible refine Kd.C_drewN ?_ _) | (with_reducible refine Kd.C_drew ?_))); (case side4 => exact (Kd.S_reads' HO9.out).2.1); (case side5 => repeat (first | exact (Kd.R_reads' HO12.out).2.2 | (with_reducible refine Kd.C_alloc ?_ _) | (with_reducible refine Kd.C_drewN ?_ _) | (with_reducible refine Kd.C_drew ?_))); (case side6 => exact (Kd.R_reads' HO12.out).2.1); rintro e w56 ⟨rfl, hb⟩; refine ⟨_, rfl, ?_⟩; have n0_ := Aside0.mk (Kd.R_below (by (with_reducible repeat (first | apply Kd.R_alloc | apply Kd.R_drewN | apply Kd.R_drew)); exact HO6.out) hb); have n1_ := Aside0.mk (Kd.S_below (by (with_reducible repeat (first | apply Kd.S_alloc | apply Kd.S_drewN | apply Kd.S_drew)); exact HO9.out) hb); have n2_ := Aside0.mk (Kd.R_below (by (with_reducible repeat (first | apply Kd.R_alloc | apply Kd.R_drewN | apply Kd.R_drew)); exact HO12.out) hb); have n3_ := Aside0.mk (blk_below (g := gb1) (o := .cells #[.slice A0_0 l0_0.length c0_0, .slice A0_1 l0_1.length c0_1] 38 (0, 0)) bk_ hb); have n4_ := Aside0.mk (below_step bw_ hb); clear HO6; clear HO9; clear HO12; clear BK1; clear HB; have HO6 := n0_; have HO9 := n1_; have HO12 := n2_; have BK1 := n3_; have HB := n4_; clear n0_ n1_ n2_ n3_ n4_; (try clear hb); (try clear hb2); (try clear hk); (try clear hi); have hcz57_0 : w56.cell? ⟨gb1, 0, none⟩ = some (.slice A0_0 l0_0.length c0_0) := (blk_cell BK1.out 0).trans rfl; have hcz57_1 : w56.cell? ⟨gb1, 1, none⟩ = some (.slice A0_1 l0_1.length c0_1) := (blk_cell BK1.out 1).trans rfl; have hfz57_0 := blk_frozen BK1.out 0; have hfz57_1 := blk_frozen BK1.out 1) | ((with_reducible refine gate_callee (f := 30) rfl ?_); refine goesL_ (some 26) rfl rfl Try.func30 (by kernel_rfl) rfl #[.agg #[.slice A0_0 l0_0.length c0_0, .slice A0_1 l0_1.length c0_1]] rfl ar_ ?_; (with_reducible refine (laws_toMachine.calls k _ _ l0_0 _ _ l0_1 t14 t17 _ ?side1 ?side2 ?side3 ?side4 A16.out).mono ?_); (case side1 => exact cb_); (case side2 => exact HC0_0.out); (case side3 => exact cb_); (case side4 => exact HC0_1.out); rintro e w58 ⟨v15, v18, rfl, ho0, ho1, hb⟩; refine ⟨_, rfl, ?_⟩; have n0_ := Aside0.mk (Kd.R_elder' (by (with_reducible repeat (first | apply Kd.R_alloc | apply Kd.R_drewN | apply Kd.R_drew)); exact HO6.out) (Kd.R_base ho0) hb); have n1_ := Aside0.mk (Kd.S_mono (Kd.S_told (Kd.S_told (Kd.S_old (by (with_reducible repeat (first | apply Kd.S_alloc | apply Kd.S_drewN | apply Kd.S_drew)); exact HO9.out) hb) (Kd.R_base ho0)) (Kd.S_base ho1)) (fun _ h_ => h_.1)); have n2_ := Aside0.mk (Kd.R_below (by (with_reducible repeat (first | apply Kd.R_alloc | apply Kd.R_drewN | apply Kd.R_drew)); exact HO12.out) hb); have n3_ := Aside0.mk (Kd.R_lower (Kd.R_new' ho0 (Kd.R_lt (by (with_reducible repeat (first | apply Kd.R_alloc | apply Kd.R_drewN | apply Kd.R_drew)); exact HO6.out))) (below_size bw_)); have n4_ := Aside0.mk (Kd.S_lower (Kd.S_new' (Kd.S_new' ho1 (Kd.R_lt (by (with_reducible repeat (first | apply Kd.R_alloc | apply Kd.R_drewN | apply Kd.R_drew)); exact HO6.out))) (Kd.S_lt (by (with_reducible repeat (first | apply Kd.S_alloc | apply Kd.S_drewN | apply Kd.S_drew)); exact HO9.out))) (below_size bw_)); have n5_ := Aside0.mk (blk_below (g := gb1) (o := .cells #[.slice A0_0 l0_0.length c0_0, .slice A0_1 l0_1.length c0_1] 38 (0, 0)) bk_ hb); have n6_ := Aside0.mk (below_step bw_ hb); clear HO6; clear HO9; clear HO12; clear BK1; clear HB; have HO6 := n0_; have HO9 := n1_; have HO12 := n2_; have HO16 := n3_; have HO19 := n4_; have BK1 := n5_; have HB := n6_; clear n0_ n1_ n2_ n3_ n4_ n5_ n6_; (try clear hb); (try clear hb2); (try clear hk); (try clear hi); (try clear ho0); (try clear ho1)) | ((with_reducible refine gate_dst (N := 7) rfl ?_); refine box_event ?hg (N := 7) ?hd (cs := #[.slice none 0 0, .slice none 0 0]) (t := 46) ?hr ?_; (case hd => rfl); (case hg => rfl); (case hr => first | (go_simp; done) | (go_simp; rfl)); intro gb20 hg w59 hbox hb; have n0_ := Aside0.mk (Kd.R_below (by (with_reducible repeat (first | apply Kd.R_alloc | apply Kd.R_drewN | apply Kd.R_drew)); exact HO6.out) hb); have n1_ := Aside0.mk (Kd.S_below (by (with_reducible repeat (first | apply Kd.S_alloc | apply Kd.S_drewN | apply Kd.S_drew)); exact HO9.out) hb); have n2_ := Aside0.mk (Kd.R_below (by (with_reducible repeat (first | apply Kd.R_alloc | apply Kd.R_drewN | apply Kd.R_drew)); exact HO12.out) hb); have n3_ := Aside0.mk (Kd.R_below (by (with_reducible repeat (first | apply Kd.R_alloc | apply Kd.R_drewN | apply Kd.R_drew)); exact HO16.out) hb); have n4_ := Aside0.mk (Kd.S_below (by (with_reducible repeat (first | apply Kd.S_alloc | apply Kd.S_drewN | apply Kd.S_drew)); exact HO19.out) hb); have n5_ := Aside0.mk (blk_below (g := gb1) (o := .cells #[.slice A0_0 l0_0.length c0_0, .slice A0_1 l0_1.length c0_1] 38 (0, 0)) bk_ hb); have n6_ := Aside0.mk (below_step bw_ hb); have n7_ := Aside0.mk (hbox); have n8_ := Aside0.mk ((by rw [hg]; exact (below_size bw_) : w.heap.size ≤ gb20)); have n9_ := Aside0.mk ((by rw [hg]; exact (below_size bw_) : w.heap.size ≤ gb20)); have n10_ := Aside0.mk ((by rw [hg]; exact Nat.ne_of_lt (blk_lt (g := gb1) (o := .cells #[.slice A0_0 l0_0.length c0_0, .slice A0_1 l0_1.length c0_1] 38 (0, 0)) bk_) : gb1 ≠ gb20)); have n11_ := Aside0.mk ((by rw [hg]; exact Nat.ne_of_gt (blk_lt (g := gb1) (o := .cells #[.slice A0_0 l0_0.length c0_0, .slice A0_1 l0_1.length c0_1] 38 (0, 0)) bk_) : gb20 ≠ gb1)); clear HO6; clear HO9; clear HO12; clear HO16; clear HO19; clear BK1; clear HB; have HO6 := n0_; have HO9 := n1_; have HO12 := n2_; have HO16 := n3_; have HO19 := n4_; have BK1 := n5_; have HB := n6_; have BK20 := n7_; have GW20 := n8_; have GE20 := n9_; have NB1_20 := n10_; have NB20_1 := n11_; clear n0_ n1_ n2_ n3_ n4_ n5_ n6_ n7_ n8_ n9_ n10_ n11_; clear hb hbox hg; obtain ⟨Ao60, co60, eo60⟩ := Kd.R_slice HO16.out; subst eo60; have hnb61 := NB20_1.out; have hnc61 := NB1_20.out; have hcz62_0 : w59.cell? ⟨gb20, 0, none⟩ = some (.slice none 0 0) := (blk_cell BK20.out 0).trans rfl; have hcz62_1 : w59.cell? ⟨gb20, 1, none⟩ = some (.slice none 0 0) := (blk_cell BK20.out 1).trans rfl; have hfz62_0 := blk_frozen BK20.out 0; have hfz62_1 := blk_frozen BK20.out 1; obtain ⟨Ao63, co63, eo63⟩ := Kd.S_slice HO19.out; subst eo63) | ((with_reducible refine gate_callee (f := 31) rfl ?_); refine goesL_ (some 28) rfl rfl Try.func31 (by kernel_rfl) rfl #[.slice A1 l1.length c1] rfl ar_ ?_; (with_reducible refine (laws_toAtomS.calls k _ _ l1 t21 _ ?side1 ?side2 A17.out).mono ?_); (case side1 => exact Kd.C_below HR1.out bw_); (case side2 => exact HC1.out); rintro e w64 ⟨v22, rfl, ho0, hb⟩; refine ⟨_, rfl, ?_⟩; have n0_ := Aside0.mk (Kd.R_below (by (with_reducible repeat (first | apply Kd.R_alloc | apply Kd.R_drewN | apply Kd.R_drew)); exact (Kd.R_mono (Kd.R_far (p := ⟨gb20, 1, none⟩) (Kd.R_far (p := ⟨gb20, 0, none⟩) (Kd.R_types HO6.out BK20.out (by decide)) (fun _ hk => hk.2) (.slice Ao60 t14.length co60)) (fun _ hk => hk.2) (.slice Ao63 t17.length co63)) (fun _ h_ => h_.1))) hb); have n1_ := Aside0.mk (Kd.S_below (by (with_reducible repeat (first | apply Kd.S_alloc | apply Kd.S_drewN | apply Kd.S_drew)); exact (Kd.S_mono (Kd.S_far (p := ⟨gb20, 1, none⟩) (Kd.S_far (p := ⟨gb20, 0, none⟩) (Kd.S_types HO9.out BK20.out (by decide)) (fun _ hk => hk.2) (.slice Ao60 t14.length co60)) (fun _ hk => hk.2) (.slice Ao63 t17.length co63)) (fun _ h_ => h_.1))) hb); have n2_ := Aside0.mk (Kd.R_elder' (by (with_reducible repeat (first | apply Kd.R_alloc | apply Kd.R_drewN | apply Kd.R_drew)); exact (Kd.R_mono (Kd.R_far (p := ⟨gb20, 1, none⟩) (Kd.R_far (p := ⟨gb20, 0, none⟩) (Kd.R_types HO12.out BK20.out (by decide)) (fun _ hk => hk.2) (.slice Ao60 t14.length co60)) (fun _ hk => hk.2) (.slice Ao63 t17.length co63)) (fun _ h_ => h_.1))) (Kd.R_base ho0) hb); have n3_ := Aside0.mk (Kd.R_below (by (with_reducible repeat (first | apply Kd.R_alloc | apply Kd.R_drewN | apply Kd.R_drew)); exact (Kd.R_mono (Kd.R_far (p := ⟨gb20, 1, none⟩) (Kd.R_far (p := ⟨gb20, 0, none⟩) (Kd.R_types HO16.out BK20.out (by decide)) (fun _ hk => hk.2) (.slice Ao60 t14.length co60)) (fun _ hk => hk.2) (.slice Ao63 t17.length co63)) (fun _ h_ => h_.1))) hb); have n4_ := Aside0.mk (Kd.S_below (by (with_reducible repeat (first | apply Kd.S_alloc | apply Kd.S_drewN | apply Kd.S_drew)); exact (Kd.S_mono (Kd.S_far (p := ⟨gb20, 1, none⟩) (Kd.S_far (p := ⟨gb20, 0, none⟩) (Kd.S_types HO19.out BK20.out (by decide)) (fun _ hk => hk.2) (.slice Ao60 t14.length co60)) (fun _ hk => hk.2) (.slice Ao63 t17.length co63)) (fun _ h_ => h_.1))) hb); have n5_ := Aside0.mk (Kd.R_lower (Kd.R_new' ho0 (Kd.R_lt (by (with_reducible repeat (first | apply Kd.R_alloc | apply Kd.R_drewN | apply Kd.R_drew)); exact (Kd.R_mono (Kd.R_far (p := ⟨gb20, 1, none⟩) (Kd.R_far (p := ⟨gb20, 0, none⟩) (Kd.R_types HO12.out BK20.out (by decide)) (fun _ hk => hk.2) (.slice Ao60 t14.length co60)) (fun _ hk => hk.2) (.slice Ao63 t17.length co63)) (fun _ h_ => h_.1))))) (below_size bw_)); have n6_ := Aside0.mk (blk_below (g := gb1) (o := .cells #[.slice A0_0 l0_0.length c0_0, .slice A0_1 l0_1.length c0_1] 38 (0, 0)) (by (with_reducible repeat (first | refine blk_drewN ?_ _ | refine blk_drew ?_ | refine blk_alloc ?_ _)); refine blk_far ?_ NB1_20.out _; (with_reducible repeat (first | refine blk_drewN ?_ _ | refine blk_drew ?_ | refine blk_alloc ?_ _)); refine blk_far ?_ NB1_20.out _; (with_reducible repeat (first | refine blk_drewN ?_ _ | refine blk_drew ?_ | refine blk_alloc ?_ _)); exact BK1.out) hb); have n7_ := Aside0.mk (blk_below (g := gb20) (o := .cells #[.slice Ao60 t14.length co60, .slice Ao63 t17.length co63] 46 (0, 0)) (by (with_reducible repeat (first | refine blk_drewN ?_ _ | refine blk_drew ?_ | refine blk_alloc ?_ _)); refine blk_put (cs := #[.slice Ao60 t14.length co60, .slice none 0 0]) ?_ 1 _ rfl; (with_reducible repeat (first | refine blk_drewN ?_ _ | refine blk_drew ?_ | refine blk_alloc ?_ _)); refine blk_put (cs := #[.slice none 0 0, .slice none 0 0]) ?_ 0 _ rfl; (with_reducible repeat (first | refine blk_drewN ?_ _ | refine blk_drew ?_ | refine blk_alloc ?_ _)); exact BK20.out) hb); have n8_ := Aside0.mk (below_step bw_ hb); clear HO6; clear HO9; clear HO12; clear HO16; clear HO19; clear BK1; clear BK20; clear HB; have HO6 := n0_; have HO9 := n1_; have HO12 := n2_; have HO16 := n3_; have HO19 := n4_; have HO23 := n5_; have BK1 := n6_; have BK20 := n7_; have HB := n8_; clear n0_ n1_ n2_ n3_ n4_ n5_ n6_ n7_ n8_; (try clear hb); (try clear hb2); (try clear hk); (try clear hi); (try clear ho0); have hcz65_0 : w64.cell? ⟨gb20, 0, none⟩ = some (.slice Ao60 t14.length co60) := (blk_cell BK20.out 0).trans rfl; have hcz65_1 : w64.cell? ⟨gb20, 1, none⟩ = some (.slice Ao63 t17.length co63) := (blk_cell BK20.out 1).trans rfl; have hfz65_0 := blk_frozen BK20.out 0; have hfz65_1 := blk_frozen BK20.out 1; obtain ⟨Ao66, co66, eo66⟩ := Kd.R_slice HO23.out; subst eo66) | ((with_reducible refine gate_callee (f := 32) rfl ?_); refine goesL_ (some 31) rfl rfl Try.func32 (by kernel_rfl) rfl #[.agg #[.slice Ao60 t14.length co60, .slice Ao63 t17.length co63], .slice Ao66 t21.length co66] rfl ar_ ?_; (with_reducible refine (impl_Holds.calls _ _ t14 _ _ t17 _ _ t21 t24 _ ?side1 ?side2 ?side3 ?side4 ?side5 ?side6 A18.out).mono ?_); (case side1 => repeat (first | exact (Kd.R_reads' HO16.out).2.2 | (with_reducible refine Kd.C_alloc ?_ _) | (with_reducible refine Kd.C_drewN ?_ _) | (with_reducible refine Kd.C_drew ?_))); (case side2 => exact (Kd.R_reads' HO16.out).2.1); (case side3 => repeat (first | exact (Kd.S_reads' HO19.out).2.2 | (with_reducible refine Kd.C_alloc ?_ _) | (with_reducible refine Kd.C_drewN ?_ _) | (with_reducible refine Kd.C_drew ?_))); (case side4 => exact (Kd.S_reads' HO19.out).2.1); (case side5 => repeat (first | exact (Kd.R_reads' HO23.out).2.2 | (with_reducible refine Kd.C_alloc ?_ _) | (with_reducible refine Kd.C_drewN ?_ _) | (with_reducible refine Kd.C_drew ?_))); (case side6 => exact (Kd.R_reads' HO23.out).2.1); rintro e w67 ⟨rfl, hb⟩; refine ⟨_, rfl, ?_⟩; have n0_ := Aside0.mk (Kd.R_below (by (with_reducible repeat (first | apply Kd.R_alloc | apply Kd.R_drewN | apply Kd.R_drew)); exact HO6.out) hb); have n1_ := Aside0.mk (Kd.S_below (by (with_reducible repeat (first | apply Kd.S_alloc | apply Kd.S_drewN | apply Kd.S_drew)); exact HO9.out) hb); have n2_ := Aside0.mk (Kd.R_below (by (with_reducible repeat (first | apply Kd.R_alloc | apply Kd.R_drewN | apply Kd.R_drew)); exact HO12.out) hb); have n3_ := Aside0.mk (Kd.R_below (by (with_reducible repeat (first | apply Kd.R_alloc | apply Kd.R_drewN | apply Kd.R_drew)); exact HO16.out) hb); have n4_ := Aside0.mk (Kd.S_below (by (with_reducible repeat (first | apply Kd.S_alloc | apply Kd.S_drewN | apply Kd.S_drew)); exact HO19.out) hb); have n5_ := Aside0.mk (Kd.R_below (by (with_reducible repeat (first | apply Kd.R_alloc | apply Kd.R_drewN | apply Kd.R_drew)); exact HO23.out) hb); have n6_ := Aside0.mk (blk_below (g := gb1) (o := .cells #[.slice A0_0 l0_0.length c0_0, .slice A0_1 l0_1.length c0_1] 38 (0, 0)) bk_ hb); have n7_ := Aside0.mk (blk_below (g := gb20) (o := .cells #[.slice Ao60 t14.length co60, .slice Ao63 t17.length co63] 46 (0, 0)) bk_ hb); have n8_ := Aside0.mk (below_step bw_ hb); clear HO6; clear HO9; clear HO12; clear HO16; clear HO19; clear HO23; clear BK1; clear BK20; clear HB; have HO6 := n0_; have HO9 := n1_; have HO12 := n2_; have HO16 := n3_; have HO19 := n4_; have HO23 := n5_; have BK1 := n6_; have BK20 := n7_; have HB := n8_; clear n0_ n1_ n2_ n3_ n4_ n5_ n6_ n7_ n8_; (try clear hb); (try clear hb2); (try clear hk); (try clear hi)))
      have n0_ := Aside0.mk (Kd.R_drew HO6.out)
      have n1_ := Aside0.mk (Kd.S_drew HO9.out)
      have n2_ := Aside0.mk (Kd.R_drew HO12.out)
      have n3_ := Aside0.mk (Kd.R_drew HO16.out)
      have n4_ := Aside0.mk (Kd.S_drew HO19.out)
      have n5_ := Aside0.mk (Kd.R_drew HO23.out)
      have n6_ := Aside0.mk (blk_drew BK1.out)
      have n7_ := Aside0.mk (blk_drew BK20.out)
      have n8_ := Aside0.mk (below_drew1 HB.out)
      clear HO6
      clear HO9
      clear HO12
      clear HO16
      clear HO19
      clear HO23
      clear BK1
      clear BK20
      clear HB
      have HO6 := n0_
      have HO9 := n1_
      have HO12 := n2_
      have HO16 := n3_
      have HO19 := n4_
      have HO23 := n5_
      have BK1 := n6_
      have BK20 := n7_
      have HB := n8_
      clear n0_ n1_ n2_ n3_ n4_ n5_ n6_ n7_ n8_
      refine start_ (n := 5) (S := fun w' => w'.cell? ⟨gb20, 0, none⟩ = some (.slice Ao60 t14.length co60) ∧ w'.cell? ⟨gb20, 1, none⟩ = some (.slice Ao63 t17.length co63) ∧ w'.cell? ⟨gb1, 0, none⟩ = some (.slice A0_0 l0_0.length c0_0) ∧ w'.cell? ⟨gb1, 1, none⟩ = some (.slice A0_1 l0_1.length c0_1)) (ds := []) #[false, false, false, false, false] (by kernel_rfl) rfl rfl ⟨(blk_cell BK20.out 0).trans rfl, (blk_cell BK20.out 1).trans rfl, (blk_cell BK1.out 0).trans rfl, (blk_cell BK1.out 1).trans rfl⟩ (fun hHeld => ?_)
      generalize w67.drew = w68 at HO6 HO9 HO12 HO16 HO19 HO23 BK1 BK20 HB hHeld ⊢
      refine take_ (i := 0) (N := some 35) (v := ?_) (a' := ?_) #[true, false, false, false, false] rfl rfl (by kernel_rfl) (fun _ _ _ h => h) (Or.inl ⟨by rfl, ?_⟩) hHeld ?_ ?_
      rotate_left
      ·rintro w' ⟨s0, s1, s2, s3⟩
       go_simp
       with_reducible rfl
      rotate_left
      ·simp only [Act.put, List.setIfInBounds_toArray, List.set_cons_zero, List.set_cons_succ, i64_w, i32_w]
       rfl
      refine take_ (i := 1) (N := some 36) (v := ?_) (a' := ?_) #[true, true, false, false, false] rfl rfl (by kernel_rfl) (fun _ _ _ h => h) (Or.inl ⟨by rfl, ?_⟩) hHeld ?_ ?_
      rotate_left
      ·rintro w' ⟨s0, s1, s2, s3⟩
       go_simp
       with_reducible rfl
      rotate_left
      ·simp only [Act.put, List.setIfInBounds_toArray, List.set_cons_zero, List.set_cons_succ, i64_w, i32_w]
       rfl
      refine one_ (i := 2) (N := some 37) #[true, true, true, false, false] rfl rfl (by kernel_rfl) (by decide) (fun K hK => ?_)
      refine goes_ Try.func30 (by kernel_rfl) rfl #[.agg #[.slice A0_0 l0_0.length c0_0, .slice A0_1 l0_1.length c0_1]] (by rfl) rfl rfl ar_ ?_
      with_reducible refine (laws_toMachine.calls k _ _ l0_0 _ _ l0_1 t25 t28 _ ?side1 ?side2 ?side3 ?side4 A41.out).mono ?_
      (case side1 => exact cb_)
      (case side2 => exact HC0_0.out)
      (case side3 => exact cb_)
      (case side4 => exact HC0_1.out)
      rintro e w69 ⟨v26, v29, rfl, ho0, ho1, hb⟩
      refine ⟨_, rfl, ?_⟩
      have n0_ := Aside0.mk (Kd.R_elder' (by (with_reducible repeat (first | apply Kd.R_alloc | apply Kd.R_drewN | apply Kd.R_drew)); exact HO6.out) (Kd.R_base ho0) hb)
      have n1_ := Aside0.mk (Kd.S_mono (Kd.S_told (Kd.S_told (Kd.S_old (by (with_reducible repeat (first | apply Kd.S_alloc | apply Kd.S_drewN | apply Kd.S_drew)); exact HO9.out) hb) (Kd.R_base ho0)) (Kd.S_base ho1)) (fun _ h_ => h_.1))
      have n2_ := Aside0.mk (Kd.R_below (by (with_reducible repeat (first | apply Kd.R_alloc | apply Kd.R_drewN | apply Kd.R_drew)); exact HO12.out) hb)
      have n3_ := Aside0.mk (Kd.R_elder' (by (with_reducible repeat (first | apply Kd.R_alloc | apply Kd.R_drewN | apply Kd.R_drew)); exact HO16.out) (Kd.R_base ho0) hb)
      have n4_ := Aside0.mk (Kd.S_mono (Kd.S_told (Kd.S_told (Kd.S_old (by (with_reducible repeat (first | apply Kd.S_alloc | apply Kd.S_drewN | apply Kd.S_drew)); exact HO19.out) hb) (Kd.R_base ho0)) (Kd.S_base ho1)) (fun _ h_ => h_.1))
      have n5_ := Aside0.mk (Kd.R_below (by (with_reducible repeat (first | apply Kd.R_alloc | apply Kd.R_drewN | apply Kd.R_drew)); exact HO23.out) hb)
      have n6_ := Aside0.mk (Kd.R_lower (Kd.R_new' (Kd.R_new' ho0 (Kd.R_lt (by (with_reducible repeat (first | apply Kd.R_alloc | apply Kd.R_drewN | apply Kd.R_drew)); exact HO6.out))) (Kd.R_lt (by (with_reducible repeat (first | apply Kd.R_alloc | apply Kd.R_drewN | apply Kd.R_drew)); exact HO16.out))) (below_size bw_))
      have n7_ := Aside0.mk (Kd.S_lower (Kd.S_new' (Kd.S_new' (Kd.S_new' (Kd.S_new' ho1 (Kd.R_lt (by (with_reducible repeat (first | apply Kd.R_alloc | apply Kd.R_drewN | apply Kd.R_drew)); exact HO6.out))) (Kd.S_lt (by (with_reducible repeat (first | apply Kd.S_alloc | apply Kd.S_drewN | apply Kd.S_drew)); exact HO9.out))) (Kd.R_lt (by (with_reducible repeat (first | apply Kd.R_alloc | apply Kd.R_drewN | apply Kd.R_drew)); exact HO16.out))) (Kd.S_lt (by (with_reducible repeat (first | apply Kd.S_alloc | apply Kd.S_drewN | apply Kd.S_drew)); exact HO19.out))) (below_size bw_))
      have n8_ := Aside0.mk (blk_below (g := gb1) (o := .cells #[.slice A0_0 l0_0.length c0_0, .slice A0_1 l0_1.length c0_1] 38 (0, 0)) bk_ hb)
      have n9_ := Aside0.mk (blk_below (g := gb20) (o := .cells #[.slice Ao60 t14.length co60, .slice Ao63 t17.length co63] 46 (0, 0)) bk_ hb)
      have n10_ := Aside0.mk (below_step bw_ hb)
      clear HO6
      clear HO9
      clear HO12
      clear HO16
      clear HO19
      clear HO23
      clear BK1
      clear BK20
      clear HB
      have HO6 := n0_
      have HO9 := n1_
      have HO12 := n2_
      have HO16 := n3_
      have HO19 := n4_
      have HO23 := n5_
      have HO27 := n6_
      have HO30 := n7_
      have BK1 := n8_
      have BK20 := n9_
      have HB := n10_
      clear n0_ n1_ n2_ n3_ n4_ n5_ n6_ n7_ n8_ n9_ n10_
      (try clear hb)
      (try clear hb2)
      (try clear hk)
      (try clear hi)
      (try clear ho0)
      (try clear ho1)
      obtain ⟨Ao70, co70, eo70⟩ := Kd.R_slice HO27.out
      (first | subst eo70 | (injection eo70 with f1_ f2_ f3_; have f4_ := f1_.symm; have f5_ := f3_.symm; clear f1_ f2_ f3_; subst f4_; subst f5_))
      obtain ⟨Ao71, co71, eo71⟩ := Kd.S_slice HO30.out
      (first | subst eo71 | (injection eo71 with f1_ f2_ f3_; have f4_ := f1_.symm; have f5_ := f3_.symm; clear f1_ f2_ f3_; subst f4_; subst f5_))
      refine hK.out _ _ ⟨(blk_cell BK20.out 0).trans rfl, (blk_cell BK20.out 1).trans rfl, (blk_cell BK1.out 0).trans rfl, (blk_cell BK1.out 1).trans rfl⟩ (fun hHeld => ?_)
      clear hK K
      refine norm_ (a' := ?_) ?_ ?_
      rotate_left
      ·show Act.put _ (some 37) _ = _
       simp only [Act.put, List.setIfInBounds_toArray, List.set_cons_zero, List.set_cons_succ, i64_w, i32_w]
       rfl
      refine one_ (i := 3) (N := some 38) #[true, true, true, true, false] rfl rfl (by kernel_rfl) (by decide) (fun K hK => ?_)
      refine goes_ Try.func33 (by kernel_rfl) rfl #[.agg #[.slice Ao60 t14.length co60, .slice Ao63 t17.length co63], .agg #[.slice Ao70 t25.length co70, .slice Ao71 t28.length co71]] (by rfl) rfl rfl ar_ ?_
      with_reducible refine (laws_eqMachine.calls k _ _ t14 _ _ t17 _ _ t25 _ _ t28 true _ ?side1 ?side2 ?side3 ?side4 ?side5 ?side6 ?side7 ?side8 A42.out).mono ?_
      (case side1 => repeat (first | exact (Kd.R_reads' HO16.out).2.2 | (with_reducible refine Kd.C_alloc ?_ _) | (with_reducible refine Kd.C_drewN ?_ _) | (with_reducible refine Kd.C_drew ?_)))
      (case side2 => exact (Kd.R_reads' HO16.out).2.1)
      (case side3 => repeat (first | exact (Kd.S_reads' HO19.out).2.2 | (with_reducible refine Kd.C_alloc ?_ _) | (with_reducible refine Kd.C_drewN ?_ _) | (with_reducible refine Kd.C_drew ?_)))
      (case side4 => exact (Kd.S_reads' HO19.out).2.1)
      (case side5 => repeat (first | exact (Kd.R_reads' HO27.out).2.2 | (with_reducible refine Kd.C_alloc ?_ _) | (with_reducible refine Kd.C_drewN ?_ _) | (with_reducible refine Kd.C_drew ?_)))
      (case side6 => exact (Kd.R_reads' HO27.out).2.1)
      (case side7 => repeat (first | exact (Kd.S_reads' HO30.out).2.2 | (with_reducible refine Kd.C_alloc ?_ _) | (with_reducible refine Kd.C_drewN ?_ _) | (with_reducible refine Kd.C_drew ?_)))
      (case side8 => exact (Kd.S_reads' HO30.out).2.1)
      rintro e w72 ⟨rfl, hb⟩
      refine ⟨_, rfl, ?_⟩
      have n0_ := Aside0.mk (Kd.R_below (by (with_reducible repeat (first | apply Kd.R_alloc | apply Kd.R_drewN | apply Kd.R_drew)); exact HO6.out) hb)
      have n1_ := Aside0.mk (Kd.S_below (by (with_reducible repeat (first | apply Kd.S_alloc | apply Kd.S_drewN | apply Kd.S_drew)); exact HO9.out) hb)
      have n2_ := Aside0.mk (Kd.R_below (by (with_reducible repeat (first | apply Kd.R_alloc | apply Kd.R_drewN | apply Kd.R_drew)); exact HO12.out) hb)
      have n3_ := Aside0.mk (Kd.R_below (by (with_reducible repeat (first | apply Kd.R_alloc | apply Kd.R_drewN | apply Kd.R_drew)); exact HO16.out) hb)
      have n4_ := Aside0.mk (Kd.S_below (by (with_reducible repeat (first | apply Kd.S_alloc | apply Kd.S_drewN | apply Kd.S_drew)); exact HO19.out) hb)
      have n5_ := Aside0.mk (Kd.R_below (by (with_reducible repeat (first | apply Kd.R_alloc | apply Kd.R_drewN | apply Kd.R_drew)); exact HO23.out) hb)
      have n6_ := Aside0.mk (Kd.R_below (by (with_reducible repeat (first | apply Kd.R_alloc | apply Kd.R_drewN | apply Kd.R_drew)); exact HO27.out) hb)
      have n7_ := Aside0.mk (Kd.S_below (by (with_reducible repeat (first | apply Kd.S_alloc | apply Kd.S_drewN | apply Kd.S_drew)); exact HO30.out) hb)
      have n8_ := Aside0.mk (blk_below (g := gb1) (o := .cells #[.slice A0_0 l0_0.length c0_0, .slice A0_1 l0_1.length c0_1] 38 (0, 0)) bk_ hb)
      have n9_ := Aside0.mk (blk_below (g := gb20) (o := .cells #[.slice Ao60 t14.length co60, .slice Ao63 t17.length co63] 46 (0, 0)) bk_ hb)
      have n10_ := Aside0.mk (below_step bw_ hb)
      clear HO6
      clear HO9
      clear HO12
      clear HO16
      clear HO19
      clear HO23
      clear HO27
      clear HO30
      clear BK1
      clear BK20
      clear HB
      have HO6 := n0_
      have HO9 := n1_
      have HO12 := n2_
      have HO16 := n3_
      have HO19 := n4_
      have HO23 := n5_
      have HO27 := n6_
      have HO30 := n7_
      have BK1 := n8_
      have BK20 := n9_
      have HB := n10_
      clear n0_ n1_ n2_ n3_ n4_ n5_ n6_ n7_ n8_ n9_ n10_
      (try clear hb)
      (try clear hb2)
      (try clear hk)
      (try clear hi)
      refine hK.out _ _ ⟨(blk_cell BK20.out 0).trans rfl, (blk_cell BK20.out 1).trans rfl, (blk_cell BK1.out 0).trans rfl, (blk_cell BK1.out 1).trans rfl⟩ (fun hHeld => ?_)
      clear hK K
      refine norm_ (a' := ?_) ?_ ?_
      rotate_left
      ·show Act.put _ (some 38) _ = _
       simp only [Act.put, List.setIfInBounds_toArray, List.set_cons_zero, List.set_cons_succ, i64_w, i32_w]
       rfl
      refine pure_ (i := 4) (N := some 39) (v := ?_) (a' := ?_) #[true, true, true, true, true] rfl rfl (by kernel_rfl) (fun _ _ _ h => h) (Or.inl ⟨by rfl, ?_⟩) ?_ ?_
      rotate_left
      ·intro w'
       go_simp
       with_reducible rfl
      rotate_left
      ·simp only [Act.put, List.setIfInBounds_toArray, List.set_cons_zero, List.set_cons_succ, i64_w, i32_w]
       rfl
      refine done_ (by kernel_rfl) ?_
      try go_wp2_with (first | ((with_reducible refine gate_callee (f := 31) rfl ?_); refine goesL_ (some 42) rfl rfl Try.func31 (by kernel_rfl) rfl #[.slice A1 l1.length c1] rfl ar_ ?_; (with_reducible refine (laws_toAtomS.calls k _ _ l1 t32 _ ?side1 ?side2 A44.out).mono ?_); (case side1 => exact cb_); (case side2 => exact HC1.out); rintro e w73 ⟨v33, rfl, ho0, hb⟩; refine ⟨_, rfl, ?_⟩; have n0_ := Aside0.mk (Kd.R_below (by (with_reducible repeat (first | apply Kd.R_alloc | apply Kd.R_drewN | apply Kd.R_drew)); exact HO6.out) hb); have n1_ := Aside0.mk (Kd.S_below (by (with_reducible repeat (first | apply Kd.S_alloc | apply Kd.S_drewN | apply Kd.S_drew)); exact HO9.out) hb); have n2_ := Aside0.mk (Kd.R_elder' (by (with_reducible repeat (first | apply Kd.R_alloc | apply Kd.R_drewN | apply Kd.R_drew)); exact HO12.out) (Kd.R_base ho0) hb); have n3_ := Aside0.mk (Kd.R_below (by (with_reducible repeat (first | apply Kd.R_alloc | apply Kd.R_drewN | apply Kd.R_drew)); exact HO16.out) hb); have n4_ := Aside0.mk (Kd.S_below (by (with_reducible repeat (first | apply Kd.S_alloc | apply Kd.S_drewN | apply Kd.S_drew)); exact HO19.out) hb); have n5_ := Aside0.mk (Kd.R_elder' (by (with_reducible repeat (first | apply Kd.R_alloc | apply Kd.R_drewN | apply Kd.R_drew)); exact HO23.out) (Kd.R_base ho0) hb); have n6_ := Aside0.mk (Kd.R_below (by (with_reducible repeat (first | apply Kd.R_alloc | apply Kd.R_drewN | apply Kd.R_drew)); exact HO27.out) hb); have n7_ := Aside0.mk (Kd.S_below (by (with_reducible repeat (first | apply Kd.S_alloc | apply Kd.S_drewN | apply Kd.S_drew)); exact HO30.out) hb); have n8_ := Aside0.mk (Kd.R_lower (Kd.R_new' (Kd.R_new' ho0 (Kd.R_lt (by (with_reducible repeat (first | apply Kd.R_alloc | apply Kd.R_drewN | apply Kd.R_drew)); exact HO12.out))) (Kd.R_lt (by (with_reducible repeat (first | apply Kd.R_alloc | apply Kd.R_drewN | apply Kd.R_drew)); exact HO23.out))) (below_size bw_)); have n9_ := Aside0.mk (blk_below (g := gb1) (o := .cells #[.slice A0_0 l0_0.length c0_0, .slice A0_1 l0_1.length c0_1] 38 (0, 0)) bk_ hb); have n10_ := Aside0.mk (blk_below (g := gb20) (o := .cells #[.slice Ao60 t14.length co60, .slice Ao63 t17.length co63] 46 (0, 0)) bk_ hb); have n11_ := Aside0.mk (below_step bw_ hb); clear HO6; clear HO9; clear HO12; clear HO16; clear HO19; clear HO23; clear HO27; clear HO30; clear BK1; clear BK20; clear HB; have HO6 := n0_; have HO9 := n1_; have HO12 := n2_; have HO16 := n3_; have HO19 := n4_; have HO23 := n5_; have HO27 := n6_; have HO30 := n7_; have HO34 := n8_; have BK1 := n9_; have BK20 := n10_; have HB := n11_; clear n0_ n1_ n2_ n3_ n4_ n5_ n6_ n7_ n8_ n9_ n10_ n11_; (try clear hb); (try clear hb2); (try clear hk); (try clear hi); (try clear ho0); obtain ⟨Ao74, co74, eo74⟩ := Kd.R_slice HO34.out; subst eo74) | ((with_reducible refine gate_callee (f := 34) rfl ?_); refine goesL_ (some 43) rfl rfl Try.func34 (by kernel_rfl) rfl #[.slice Ao66 t21.length co66, .slice Ao74 t32.length co74] rfl ar_ ?_; (with_reducible refine (laws_eqAtomS.calls k _ _ t21 _ _ t32 true _ ?side1 ?side2 ?side3 ?side4 A45.out).mono ?_); (case side1 => repeat (first | exact (Kd.R_reads' HO23.out).2.2 | (with_reducible refine Kd.C_alloc ?_ _) | (with_reducible refine Kd.C_drewN ?_ _) | (with_reducible refine Kd.C_drew ?_))); (case side2 => exact (Kd.R_reads' HO23.out).2.1); (case side3 => repeat (first | exact (Kd.R_reads' HO34.out).2.2 | (with_reducible refine Kd.C_alloc ?_ _) | (with_reducible refine Kd.C_drewN ?_ _) | (with_reducible refine Kd.C_drew ?_))); (case side4 => exact (Kd.R_reads' HO34.out).2.1); rintro e w75 ⟨rfl, hb⟩; refine ⟨_, rfl, ?_⟩; have n0_ := Aside0.mk (Kd.R_below (by (with_reducible repeat (first | apply Kd.R_alloc | apply Kd.R_drewN | apply Kd.R_drew)); exact HO6.out) hb); have n1_ := Aside0.mk (Kd.S_below (by (with_reducible repeat (first | apply Kd.S_alloc | apply Kd.S_drewN | apply Kd.S_drew)); exact HO9.out) hb); have n2_ := Aside0.mk (Kd.R_below (by (with_reducible repeat (first | apply Kd.R_alloc | apply Kd.R_drewN | apply Kd.R_drew)); exact HO12.out) hb); have n3_ := Aside0.mk (Kd.R_below (by (with_reducible repeat (first | apply Kd.R_alloc | apply Kd.R_drewN | apply Kd.R_drew)); exact HO16.out) hb); have n4_ := Aside0.mk (Kd.S_below (by (with_reducible repeat (first | apply Kd.S_alloc | apply Kd.S_drewN | apply Kd.S_drew)); exact HO19.out) hb); have n5_ := Aside0.mk (Kd.R_below (by (with_reducible repeat (first | apply Kd.R_alloc | apply Kd.R_drewN | apply Kd.R_drew)); exact HO23.out) hb); have n6_ := Aside0.mk (Kd.R_below (by (with_reducible repeat (first | apply Kd.R_alloc | apply Kd.R_drewN | apply Kd.R_drew)); exact HO27.out) hb); have n7_ := Aside0.mk (Kd.S_below (by (with_reducible repeat (first | apply Kd.S_alloc | apply Kd.S_drewN | apply Kd.S_drew)); exact HO30.out) hb); have n8_ := Aside0.mk (Kd.R_below (by (with_reducible repeat (first | apply Kd.R_alloc | apply Kd.R_drewN | apply Kd.R_drew)); exact HO34.out) hb); have n9_ := Aside0.mk (blk_below (g := gb1) (o := .cells #[.slice A0_0 l0_0.length c0_0, .slice A0_1 l0_1.length c0_1] 38 (0, 0)) bk_ hb); have n10_ := Aside0.mk (blk_below (g := gb20) (o := .cells #[.slice Ao60 t14.length co60, .slice Ao63 t17.length co63] 46 (0, 0)) bk_ hb); have n11_ := Aside0.mk (below_step bw_ hb); clear HO6; clear HO9; clear HO12; clear HO16; clear HO19; clear HO23; clear HO27; clear HO30; clear HO34; clear BK1; clear BK20; clear HB; have HO6 := n0_; have HO9 := n1_; have HO12 := n2_; have HO16 := n3_; have HO19 := n4_; have HO23 := n5_; have HO27 := n6_; have HO30 := n7_; have HO34 := n8_; have BK1 := n9_; have BK20 := n10_; have HB := n11_; clear n0_ n1_ n2_ n3_ n4_ n5_ n6_ n7_ n8_ n9_ n10_ n11_; (try clear hb); (try clear hb2); (try clear hk); (try clear hi)))
      go_ret
      exact ⟨by first | rfl | (simp [errW_none, errW_some] <;> rfl) | (simp [*, errW_none, errW_some] <;> rfl), bw_⟩
     ·replace c46 := Bool.eq_false_iff.mpr c46
      subst c46
      have H1 : (some false) = some r := by rw [if_neg (show ¬ (false = true) by decide)] at H; exact H
      clear H
      have H := H1
      clear H1
      obtain rfl := Option.some.inj H
      go_enter Try.func5, Try.ntmps5
      try go_wp2_with (first | ((with_reducible refine gate_dst (N := 2) rfl ?_); refine box_event ?hg (N := 2) ?hd (cs := #[.slice A0_0 l0_0.length c0_0, .slice A0_1 l0_1.length c0_1]) (t := 38) ?hr ?_; (case hd => rfl); (case hg => rfl); (case hr => first | (go_simp; done) | (go_simp; rfl)); intro gb1 hg w76 hbox hb; have n0_ := Aside0.mk (below_step bw_ hb); have n1_ := Aside0.mk (hbox); have n2_ := Aside0.mk ((by rw [hg]; exact (below_size bw_) : w.heap.size ≤ gb1)); have n3_ := Aside0.mk ((by rw [hg]; exact (below_size bw_) : w.heap.size ≤ gb1)); clear HB; have HB := n0_; have BK1 := n1_; have GW1 := n2_; have GE1 := n3_; clear n0_ n1_ n2_ n3_; clear hb hbox hg; have hcz77_0 : w76.cell? ⟨gb1, 0, none⟩ = some (.slice A0_0 l0_0.length c0_0) := (blk_cell BK1.out 0).trans rfl; have hcz77_1 : w76.cell? ⟨gb1, 1, none⟩ = some (.slice A0_1 l0_1.length c0_1) := (blk_cell BK1.out 1).trans rfl; have hfz77_0 := blk_frozen BK1.out 0; have hfz77_1 := blk_frozen BK1.out 1) | ((with_reducible refine gate_callee (f := 27) rfl ?_); refine goesL_ (some 12) rfl rfl Try.func27 (by kernel_rfl) rfl #[.agg #[.slice A0_0 l0_0.length c0_0, .slice A0_1 l0_1.length c0_1], .int .i64 1048576] rfl ar_ ?_; (with_reducible refine (laws_szMachine.calls k _ _ l0_0 _ _ l0_1 1048576 t2 _ ?side1 ?side2 ?side3 ?side4 A3.out).mono ?_); (case side1 => exact cb_); (case side2 => exact HC0_0.out); (case side3 => exact cb_); (case side4 => exact HC0_1.out); rintro e w78 ⟨rfl, hb⟩; refine ⟨_, rfl, ?_⟩; have n0_ := Aside0.mk (blk_below (g := gb1) (o := .cells #[.slice A0_0 l0_0.length c0_0, .slice A0_1 l0_1.length c0_1] 38 (0, 0)) bk_ hb); have n1_ := Aside0.mk (below_step bw_ hb); clear BK1; clear HB; have BK1 := n0_; have HB := n1_; clear n0_ n1_; (try clear hb); (try clear hb2); (try clear hk); (try clear hi)) | ((with_reducible refine gate_callee (f := 28) rfl ?_); refine goesL_ (some 17) rfl rfl Try.func28 (by kernel_rfl) rfl #[.slice A1 l1.length c1, .int .i64 t2] rfl ar_ ?_; (with_reducible refine (laws_szAtomS.calls _ _ l1 t2 t3 _ ?side1 ?side2 A8.out).mono ?_); (case side1 => exact cb_); (case side2 => exact HC1.out); rintro e w' ⟨rfl, ⟨nd, rfl⟩⟩; refine ⟨_, rfl, ?_⟩; (try (rw [drewN_self w78]; generalize hq_ : World.drewN w78 _ = w78; have n0_ : Aside0 (w78.heap[gb1]? = some (.cells #[.slice A0_0 l0_0.length c0_0, .slice A0_1 l0_1.length c0_1] 38 (0, 0))) := ⟨by rw [← hq_]; exact bk_⟩; have n1_ : Aside0 (Below w.heap.size w w78) := ⟨by rw [← hq_]; exact bw_⟩; clear BK1 HB hq_; have BK1 := n0_; have HB := n1_; clear n0_ n1_)); have hcz79_0 : w78.cell? ⟨gb1, 0, none⟩ = some (.slice A0_0 l0_0.length c0_0) := (blk_cell BK1.out 0).trans rfl; have hcz79_1 : w78.cell? ⟨gb1, 1, none⟩ = some (.slice A0_1 l0_1.length c0_1) := (blk_cell BK1.out 1).trans rfl; have hfz79_0 := blk_frozen BK1.out 0; have hfz79_1 := blk_frozen BK1.out 1) | ((with_reducible refine gate_callee (f := 30) rfl ?_); refine goesL_ (some 21) rfl rfl Try.func30 (by kernel_rfl) rfl #[.agg #[.slice A0_0 l0_0.length c0_0, .slice A0_1 l0_1.length c0_1]] rfl ar_ ?_; (with_reducible refine (laws_toMachine.calls k _ _ l0_0 _ _ l0_1 t4 t7 _ ?side1 ?side2 ?side3 ?side4 A13.out).mono ?_); (case side1 => exact cb_); (case side2 => exact HC0_0.out); (case side3 => exact cb_); (case side4 => exact HC0_1.out); rintro e w80 ⟨v5, v8, rfl, ho0, ho1, hb⟩; refine ⟨_, rfl, ?_⟩; have n0_ := Aside0.mk (Kd.R_lower ho0 (below_size bw_)); have n1_ := Aside0.mk (Kd.S_lower ho1 (below_size bw_)); have n2_ := Aside0.mk (blk_below (g := gb1) (o := .cells #[.slice A0_0 l0_0.length c0_0, .slice A0_1 l0_1.length c0_1] 38 (0, 0)) bk_ hb); have n3_ := Aside0.mk (below_step bw_ hb); clear BK1; clear HB; have HO6 := n0_; have HO9 := n1_; have BK1 := n2_; have HB := n3_; clear n0_ n1_ n2_ n3_; (try clear hb); (try clear hb2); (try clear hk); (try clear hi); (try clear ho0); (try clear ho1)) | ((with_reducible refine gate_callee (f := 31) rfl ?_); refine goesL_ (some 23) rfl rfl Try.func31 (by kernel_rfl) rfl #[.slice A1 l1.length c1] rfl ar_ ?_; (with_reducible refine (laws_toAtomS.calls k _ _ l1 t10 _ ?side1 ?side2 A14.out).mono ?_); (case side1 => exact cb_); (case side2 => exact HC1.out); rintro e w81 ⟨v11, rfl, ho0, hb⟩; refine ⟨_, rfl, ?_⟩; have n0_ := Aside0.mk (Kd.R_below (by (with_reducible repeat (first | apply Kd.R_alloc | apply Kd.R_drewN | apply Kd.R_drew)); exact HO6.out) hb); have n1_ := Aside0.mk (Kd.S_below (by (with_reducible repeat (first | apply Kd.S_alloc | apply Kd.S_drewN | apply Kd.S_drew)); exact HO9.out) hb); have n2_ := Aside0.mk (Kd.R_lower ho0 (below_size bw_)); have n3_ := Aside0.mk (blk_below (g := gb1) (o := .cells #[.slice A0_0 l0_0.length c0_0, .slice A0_1 l0_1.length c0_1] 38 (0, 0)) bk_ hb); have n4_ := Aside0.mk (below_step bw_ hb); clear HO6; clear HO9; clear BK1; clear HB; have HO6 := n0_; have HO9 := n1_; have HO12 := n2_; have BK1 := n3_; have HB := n4_; clear n0_ n1_ n2_ n3_ n4_; (try clear hb); (try clear hb2); (try clear hk); (try clear hi); (try clear ho0); obtain ⟨Ao82, co82, eo82⟩ := Kd.R_slice HO6.out; subst eo82; obtain ⟨Ao83, co83, eo83⟩ := Kd.S_slice HO9.out; subst eo83; obtain ⟨Ao84, co84, eo84⟩ := Kd.R_slice HO12.out; subst eo84) | ((with_reducible refine gate_callee (f := 29) rfl ?_); refine goesL_ (some 24) rfl rfl Try.func29 (by kernel_rfl) rfl #[.agg #[.slice Ao82 t4.length co82, .slice Ao83 t7.length co83], .slice Ao84 t10.length co84] rfl ar_ ?_; (with_reducible refine (spec_Holds.calls k _ _ t4 _ _ t7 _ _ t10 t13 _ ?side1 ?side2 ?side3 ?side4 ?side5 ?side6 A15.out).mono ?_); (case side1 => repeat (first | exact (Kd.R_reads' HO6.out).2.2 | (with_reducible refine Kd.C_alloc ?_ _) | (with_reducible refine Kd.C_drewN ?_ _) | (with_reducible refine Kd.C_drew ?_))); (case side2 => exact (Kd.R_reads' HO6.out).2.1); (case side3 => repeat (first | exact (Kd.S_reads' HO9.out).2.2 | (with_reducible refine Kd.C_alloc ?_ _) | (with_reducible refine Kd.C_drewN ?_ _) | (with_reducible refine Kd.C_drew ?_))); (case side4 => exact (Kd.S_reads' HO9.out).2.1); (case side5 => repeat (first | exact (Kd.R_reads' HO12.out).2.2 | (with_reducible refine Kd.C_alloc ?_ _) | (with_reducible refine Kd.C_drewN ?_ _) | (with_reducible refine Kd.C_drew ?_))); (case side6 => exact (Kd.R_reads' HO12.out).2.1); rintro e w85 ⟨rfl, hb⟩; refine ⟨_, rfl, ?_⟩; have n0_ := Aside0.mk (Kd.R_below (by (with_reducible repeat (first | apply Kd.R_alloc | apply Kd.R_drewN | apply Kd.R_drew)); exact HO6.out) hb); have n1_ := Aside0.mk (Kd.S_below (by (with_reducible repeat (first | apply Kd.S_alloc | apply Kd.S_drewN | apply Kd.S_drew)); exact HO9.out) hb); have n2_ := Aside0.mk (Kd.R_below (by (with_reducible repeat (first | apply Kd.R_alloc | apply Kd.R_drewN | apply Kd.R_drew)); exact HO12.out) hb); have n3_ := Aside0.mk (blk_below (g := gb1) (o := .cells #[.slice A0_0 l0_0.length c0_0, .slice A0_1 l0_1.length c0_1] 38 (0, 0)) bk_ hb); have n4_ := Aside0.mk (below_step bw_ hb); clear HO6; clear HO9; clear HO12; clear BK1; clear HB; have HO6 := n0_; have HO9 := n1_; have HO12 := n2_; have BK1 := n3_; have HB := n4_; clear n0_ n1_ n2_ n3_ n4_; (try clear hb); (try clear hb2); (try clear hk); (try clear hi); have hcz86_0 : w85.cell? ⟨gb1, 0, none⟩ = some (.slice A0_0 l0_0.length c0_0) := (blk_cell BK1.out 0).trans rfl; have hcz86_1 : w85.cell? ⟨gb1, 1, none⟩ = some (.slice A0_1 l0_1.length c0_1) := (blk_cell BK1.out 1).trans rfl; have hfz86_0 := blk_frozen BK1.out 0; have hfz86_1 := blk_frozen BK1.out 1) | ((with_reducible refine gate_callee (f := 30) rfl ?_); refine goesL_ (some 26) rfl rfl Try.func30 (by kernel_rfl) rfl #[.agg #[.slice A0_0 l0_0.length c0_0, .slice A0_1 l0_1.length c0_1]] rfl ar_ ?_; (with_reducible refine (laws_toMachine.calls k _ _ l0_0 _ _ l0_1 t14 t17 _ ?side1 ?side2 ?side3 ?side4 A16.out).mono ?_); (case side1 => exact cb_); (case side2 => exact HC0_0.out); (case side3 => exact cb_); (case side4 => exact HC0_1.out); rintro e w87 ⟨v15, v18, rfl, ho0, ho1, hb⟩; refine ⟨_, rfl, ?_⟩; have n0_ := Aside0.mk (Kd.R_elder' (by (with_reducible repeat (first | apply Kd.R_alloc | apply Kd.R_drewN | apply Kd.R_drew)); exact HO6.out) (Kd.R_base ho0) hb); have n1_ := Aside0.mk (Kd.S_mono (Kd.S_told (Kd.S_told (Kd.S_old (by (with_reducible repeat (first | apply Kd.S_alloc | apply Kd.S_drewN | apply Kd.S_drew)); exact HO9.out) hb) (Kd.R_base ho0)) (Kd.S_base ho1)) (fun _ h_ => h_.1)); have n2_ := Aside0.mk (Kd.R_below (by (with_reducible repeat (first | apply Kd.R_alloc | apply Kd.R_drewN | apply Kd.R_drew)); exact HO12.out) hb); have n3_ := Aside0.mk (Kd.R_lower (Kd.R_new' ho0 (Kd.R_lt (by (with_reducible repeat (first | apply Kd.R_alloc | apply Kd.R_drewN | apply Kd.R_drew)); exact HO6.out))) (below_size bw_)); have n4_ := Aside0.mk (Kd.S_lower (Kd.S_new' (Kd.S_new' ho1 (Kd.R_lt (by (with_reducible repeat (first | apply Kd.R_alloc | apply Kd.R_drewN | apply Kd.R_drew)); exact HO6.out))) (Kd.S_lt (by (with_reducible repeat (first | apply Kd.S_alloc | apply Kd.S_drewN | apply Kd.S_drew)); exact HO9.out))) (below_size bw_)); have n5_ := Aside0.mk (blk_below (g := gb1) (o := .cells #[.slice A0_0 l0_0.length c0_0, .slice A0_1 l0_1.length c0_1] 38 (0, 0)) bk_ hb); have n6_ := Aside0.mk (below_step bw_ hb); clear HO6; clear HO9; clear HO12; clear BK1; clear HB; have HO6 := n0_; have HO9 := n1_; have HO12 := n2_; have HO16 := n3_; have HO19 := n4_; have BK1 := n5_; have HB := n6_; clear n0_ n1_ n2_ n3_ n4_ n5_ n6_; (try clear hb); (try clear hb2); (try clear hk); (try clear hi); (try clear ho0); (try clear ho1)) | ((with_reducible refine gate_dst (N := 7) rfl ?_); refine box_event ?hg (N := 7) ?hd (cs := #[.slice none 0 0, .slice none 0 0]) (t := 46) ?hr ?_; (case hd => rfl); (case hg => rfl); (case hr => first | (go_simp; done) | (go_simp; rfl)); intro gb20 hg w88 hbox hb; have n0_ := Aside0.mk (Kd.R_below (by (with_reducible repeat (first | apply Kd.R_alloc | apply Kd.R_drewN | apply Kd.R_drew)); exact HO6.out) hb); have n1_ := Aside0.mk (Kd.S_below (by (with_reducible repeat (first | apply Kd.S_alloc | apply Kd.S_drewN | apply Kd.S_drew)); exact HO9.out) hb); have n2_ := Aside0.mk (Kd.R_below (by (with_reducible repeat (first | apply Kd.R_alloc | apply Kd.R_drewN | apply Kd.R_drew)); exact HO12.out) hb); have n3_ := Aside0.mk (Kd.R_below (by (with_reducible repeat (first | apply Kd.R_alloc | apply Kd.R_drewN | apply Kd.R_drew)); exact HO16.out) hb); have n4_ := Aside0.mk (Kd.S_below (by (with_reducible repeat (first | apply Kd.S_alloc | apply Kd.S_drewN | apply Kd.S_drew)); exact HO19.out) hb); have n5_ := Aside0.mk (blk_below (g := gb1) (o := .cells #[.slice A0_0 l0_0.length c0_0, .slice A0_1 l0_1.length c0_1] 38 (0, 0)) bk_ hb); have n6_ := Aside0.mk (below_step bw_ hb); have n7_ := Aside0.mk (hbox); have n8_ := Aside0.mk ((by rw [hg]; exact (below_size bw_) : w.heap.size ≤ gb20)); have n9_ := Aside0.mk ((by rw [hg]; exact (below_size bw_) : w.heap.size ≤ gb20)); have n10_ := Aside0.mk ((by rw [hg]; exact Nat.ne_of_lt (blk_lt (g := gb1) (o := .cells #[.slice A0_0 l0_0.length c0_0, .slice A0_1 l0_1.length c0_1] 38 (0, 0)) bk_) : gb1 ≠ gb20)); have n11_ := Aside0.mk ((by rw [hg]; exact Nat.ne_of_gt (blk_lt (g := gb1) (o := .cells #[.slice A0_0 l0_0.length c0_0, .slice A0_1 l0_1.length c0_1] 38 (0, 0)) bk_) : gb20 ≠ gb1)); clear HO6; clear HO9; clear HO12; clear HO16; clear HO19; clear BK1; clear HB; have HO6 := n0_; have HO9 := n1_; have HO12 := n2_; have HO16 := n3_; have HO19 := n4_; have BK1 := n5_; have HB := n6_; have BK20 := n7_; have GW20 := n8_; have GE20 := n9_; have NB1_20 := n10_; have NB20_1 := n11_; clear n0_ n1_ n2_ n3_ n4_ n5_ n6_ n7_ n8_ n9_ n10_ n11_; clear hb hbox hg; obtain ⟨Ao89, co89, eo89⟩ := Kd.R_slice HO16.out; subst eo89; have hnb90 := NB20_1.out; have hnc90 := NB1_20.out; have hcz91_0 : w88.cell? ⟨gb20, 0, none⟩ = some (.slice none 0 0) := (blk_cell BK20.out 0).trans rfl; have hcz91_1 : w88.cell? ⟨gb20, 1, none⟩ = some (.slice none 0 0) := (blk_cell BK20.out 1).trans rfl; have hfz91_0 := blk_frozen BK20.out 0; have hfz91_1 := blk_frozen BK20.out 1; obtain ⟨Ao92, co92, eo92⟩ := Kd.S_slice HO19.out; subst eo92) | ((with_reducible refine gate_callee (f := 31) rfl ?_); refine goesL_ (some 28) rfl rfl Try.func31 (by kernel_rfl) rfl #[.slice A1 l1.length c1] rfl ar_ ?_; (with_reducible refine (laws_toAtomS.calls k _ _ l1 t21 _ ?side1 ?side2 A17.out).mono ?_); (case side1 => exact Kd.C_below HR1.out bw_); (case side2 => exact HC1.out); rintro e w93 ⟨v22, rfl, ho0, hb⟩; refine ⟨_, rfl, ?_⟩; have n0_ := Aside0.mk (Kd.R_below (by (with_reducible repeat (first | apply Kd.R_alloc | apply Kd.R_drewN | apply Kd.R_drew)); exact (Kd.R_mono (Kd.R_far (p := ⟨gb20, 1, none⟩) (Kd.R_far (p := ⟨gb20, 0, none⟩) (Kd.R_types HO6.out BK20.out (by decide)) (fun _ hk => hk.2) (.slice Ao89 t14.length co89)) (fun _ hk => hk.2) (.slice Ao92 t17.length co92)) (fun _ h_ => h_.1))) hb); have n1_ := Aside0.mk (Kd.S_below (by (with_reducible repeat (first | apply Kd.S_alloc | apply Kd.S_drewN | apply Kd.S_drew)); exact (Kd.S_mono (Kd.S_far (p := ⟨gb20, 1, none⟩) (Kd.S_far (p := ⟨gb20, 0, none⟩) (Kd.S_types HO9.out BK20.out (by decide)) (fun _ hk => hk.2) (.slice Ao89 t14.length co89)) (fun _ hk => hk.2) (.slice Ao92 t17.length co92)) (fun _ h_ => h_.1))) hb); have n2_ := Aside0.mk (Kd.R_elder' (by (with_reducible repeat (first | apply Kd.R_alloc | apply Kd.R_drewN | apply Kd.R_drew)); exact (Kd.R_mono (Kd.R_far (p := ⟨gb20, 1, none⟩) (Kd.R_far (p := ⟨gb20, 0, none⟩) (Kd.R_types HO12.out BK20.out (by decide)) (fun _ hk => hk.2) (.slice Ao89 t14.length co89)) (fun _ hk => hk.2) (.slice Ao92 t17.length co92)) (fun _ h_ => h_.1))) (Kd.R_base ho0) hb); have n3_ := Aside0.mk (Kd.R_below (by (with_reducible repeat (first | apply Kd.R_alloc | apply Kd.R_drewN | apply Kd.R_drew)); exact (Kd.R_mono (Kd.R_far (p := ⟨gb20, 1, none⟩) (Kd.R_far (p := ⟨gb20, 0, none⟩) (Kd.R_types HO16.out BK20.out (by decide)) (fun _ hk => hk.2) (.slice Ao89 t14.length co89)) (fun _ hk => hk.2) (.slice Ao92 t17.length co92)) (fun _ h_ => h_.1))) hb); have n4_ := Aside0.mk (Kd.S_below (by (with_reducible repeat (first | apply Kd.S_alloc | apply Kd.S_drewN | apply Kd.S_drew)); exact (Kd.S_mono (Kd.S_far (p := ⟨gb20, 1, none⟩) (Kd.S_far (p := ⟨gb20, 0, none⟩) (Kd.S_types HO19.out BK20.out (by decide)) (fun _ hk => hk.2) (.slice Ao89 t14.length co89)) (fun _ hk => hk.2) (.slice Ao92 t17.length co92)) (fun _ h_ => h_.1))) hb); have n5_ := Aside0.mk (Kd.R_lower (Kd.R_new' ho0 (Kd.R_lt (by (with_reducible repeat (first | apply Kd.R_alloc | apply Kd.R_drewN | apply Kd.R_drew)); exact (Kd.R_mono (Kd.R_far (p := ⟨gb20, 1, none⟩) (Kd.R_far (p := ⟨gb20, 0, none⟩) (Kd.R_types HO12.out BK20.out (by decide)) (fun _ hk => hk.2) (.slice Ao89 t14.length co89)) (fun _ hk => hk.2) (.slice Ao92 t17.length co92)) (fun _ h_ => h_.1))))) (below_size bw_)); have n6_ := Aside0.mk (blk_below (g := gb1) (o := .cells #[.slice A0_0 l0_0.length c0_0, .slice A0_1 l0_1.length c0_1] 38 (0, 0)) (by (with_reducible repeat (first | refine blk_drewN ?_ _ | refine blk_drew ?_ | refine blk_alloc ?_ _)); refine blk_far ?_ NB1_20.out _; (with_reducible repeat (first | refine blk_drewN ?_ _ | refine blk_drew ?_ | refine blk_alloc ?_ _)); refine blk_far ?_ NB1_20.out _; (with_reducible repeat (first | refine blk_drewN ?_ _ | refine blk_drew ?_ | refine blk_alloc ?_ _)); exact BK1.out) hb); have n7_ := Aside0.mk (blk_below (g := gb20) (o := .cells #[.slice Ao89 t14.length co89, .slice Ao92 t17.length co92] 46 (0, 0)) (by (with_reducible repeat (first | refine blk_drewN ?_ _ | refine blk_drew ?_ | refine blk_alloc ?_ _)); refine blk_put (cs := #[.slice Ao89 t14.length co89, .slice none 0 0]) ?_ 1 _ rfl; (with_reducible repeat (first | refine blk_drewN ?_ _ | refine blk_drew ?_ | refine blk_alloc ?_ _)); refine blk_put (cs := #[.slice none 0 0, .slice none 0 0]) ?_ 0 _ rfl; (with_reducible repeat (first | refine blk_drewN ?_ _ | refine blk_drew ?_ | refine blk_alloc ?_ _)); exact BK20.out) hb); have n8_ := Aside0.mk (below_step bw_ hb); clear HO6; clear HO9; clear HO12; clear HO16; clear HO19; clear BK1; clear BK20; clear HB; have HO6 := n0_; have HO9 := n1_; have HO12 := n2_; have HO16 := n3_; have HO19 := n4_; have HO23 := n5_; have BK1 := n6_; have BK20 := n7_; have HB := n8_; clear n0_ n1_ n2_ n3_ n4_ n5_ n6_ n7_ n8_; (try clear hb); (try clear hb2); (try clear hk); (try clear hi); (try clear ho0); have hcz94_0 : w93.cell? ⟨gb20, 0, none⟩ = some (.slice Ao89 t14.length co89) := (blk_cell BK20.out 0).trans rfl; have hcz94_1 : w93.cell? ⟨gb20, 1, none⟩ = some (.slice Ao92 t17.length co92) := (blk_cell BK20.out 1).trans rfl; have hfz94_0 := blk_frozen BK20.out 0; have hfz94_1 := blk_frozen BK20.out 1; obtain ⟨Ao95, co95, eo95⟩ := Kd.R_slice HO23.out; subst eo95) | ((with_reducible refine gate_callee (f := 32) rfl ?_); refine goesL_ (some 31) rfl rfl Try.func32 (by kernel_rfl) rfl #[.agg #[.slice Ao89 t14.length co89, .slice Ao92 t17.length co92], .slice Ao95 t21.length co95] rfl ar_ ?_; (with_reducible refine (impl_Holds.calls _ _ t14 _ _ t17 _ _ t21 t24 _ ?side1 ?side2 ?side3 ?side4 ?side5 ?side6 A18.out).mono ?_); (case side1 => repeat (first | exact (Kd.R_reads' HO16.out).2.2 | (with_reducible refine Kd.C_alloc ?_ _) | (with_reducible refine Kd.C_drewN ?_ _) | (with_reducible refine Kd.C_drew ?_))); (case side2 => exact (Kd.R_reads' HO16.out).2.1); (case side3 => repeat (first | exact (Kd.S_reads' HO19.out).2.2 | (with_reducible refine Kd.C_alloc ?_ _) | (with_reducible refine Kd.C_drewN ?_ _) | (with_reducible refine Kd.C_drew ?_))); (case side4 => exact (Kd.S_reads' HO19.out).2.1); (case side5 => repeat (first | exact (Kd.R_reads' HO23.out).2.2 | (with_reducible refine Kd.C_alloc ?_ _) | (with_reducible refine Kd.C_drewN ?_ _) | (with_reducible refine Kd.C_drew ?_))); (case side6 => exact (Kd.R_reads' HO23.out).2.1); rintro e w96 ⟨rfl, hb⟩; refine ⟨_, rfl, ?_⟩; have n0_ := Aside0.mk (Kd.R_below (by (with_reducible repeat (first | apply Kd.R_alloc | apply Kd.R_drewN | apply Kd.R_drew)); exact HO6.out) hb); have n1_ := Aside0.mk (Kd.S_below (by (with_reducible repeat (first | apply Kd.S_alloc | apply Kd.S_drewN | apply Kd.S_drew)); exact HO9.out) hb); have n2_ := Aside0.mk (Kd.R_below (by (with_reducible repeat (first | apply Kd.R_alloc | apply Kd.R_drewN | apply Kd.R_drew)); exact HO12.out) hb); have n3_ := Aside0.mk (Kd.R_below (by (with_reducible repeat (first | apply Kd.R_alloc | apply Kd.R_drewN | apply Kd.R_drew)); exact HO16.out) hb); have n4_ := Aside0.mk (Kd.S_below (by (with_reducible repeat (first | apply Kd.S_alloc | apply Kd.S_drewN | apply Kd.S_drew)); exact HO19.out) hb); have n5_ := Aside0.mk (Kd.R_below (by (with_reducible repeat (first | apply Kd.R_alloc | apply Kd.R_drewN | apply Kd.R_drew)); exact HO23.out) hb); have n6_ := Aside0.mk (blk_below (g := gb1) (o := .cells #[.slice A0_0 l0_0.length c0_0, .slice A0_1 l0_1.length c0_1] 38 (0, 0)) bk_ hb); have n7_ := Aside0.mk (blk_below (g := gb20) (o := .cells #[.slice Ao89 t14.length co89, .slice Ao92 t17.length co92] 46 (0, 0)) bk_ hb); have n8_ := Aside0.mk (below_step bw_ hb); clear HO6; clear HO9; clear HO12; clear HO16; clear HO19; clear HO23; clear BK1; clear BK20; clear HB; have HO6 := n0_; have HO9 := n1_; have HO12 := n2_; have HO16 := n3_; have HO19 := n4_; have HO23 := n5_; have BK1 := n6_; have BK20 := n7_; have HB := n8_; clear n0_ n1_ n2_ n3_ n4_ n5_ n6_ n7_ n8_; (try clear hb); (try clear hb2); (try clear hk); (try clear hi)))
      have n0_ := Aside0.mk (Kd.R_drew HO6.out)
      have n1_ := Aside0.mk (Kd.S_drew HO9.out)
      have n2_ := Aside0.mk (Kd.R_drew HO12.out)
      have n3_ := Aside0.mk (Kd.R_drew HO16.out)
      have n4_ := Aside0.mk (Kd.S_drew HO19.out)
      have n5_ := Aside0.mk (Kd.R_drew HO23.out)
      have n6_ := Aside0.mk (blk_drew BK1.out)
      have n7_ := Aside0.mk (blk_drew BK20.out)
      have n8_ := Aside0.mk (below_drew1 HB.out)
      clear HO6
      clear HO9
      clear HO12
      clear HO16
      clear HO19
      clear HO23
      clear BK1
      clear BK20
      clear HB
      have HO6 := n0_
      have HO9 := n1_
      have HO12 := n2_
      have HO16 := n3_
      have HO19 := n4_
      have HO23 := n5_
      have BK1 := n6_
      have BK20 := n7_
      have HB := n8_
      clear n0_ n1_ n2_ n3_ n4_ n5_ n6_ n7_ n8_
      refine start_ (n := 5) (S := fun w' => w'.cell? ⟨gb20, 0, none⟩ = some (.slice Ao89 t14.length co89) ∧ w'.cell? ⟨gb20, 1, none⟩ = some (.slice Ao92 t17.length co92) ∧ w'.cell? ⟨gb1, 0, none⟩ = some (.slice A0_0 l0_0.length c0_0) ∧ w'.cell? ⟨gb1, 1, none⟩ = some (.slice A0_1 l0_1.length c0_1)) (ds := []) #[false, false, false, false, false] (by kernel_rfl) rfl rfl ⟨(blk_cell BK20.out 0).trans rfl, (blk_cell BK20.out 1).trans rfl, (blk_cell BK1.out 0).trans rfl, (blk_cell BK1.out 1).trans rfl⟩ (fun hHeld => ?_)
      generalize w96.drew = w97 at HO6 HO9 HO12 HO16 HO19 HO23 BK1 BK20 HB hHeld ⊢
      refine take_ (i := 0) (N := some 35) (v := ?_) (a' := ?_) #[true, false, false, false, false] rfl rfl (by kernel_rfl) (fun _ _ _ h => h) (Or.inl ⟨by rfl, ?_⟩) hHeld ?_ ?_
      rotate_left
      ·rintro w' ⟨s0, s1, s2, s3⟩
       go_simp
       with_reducible rfl
      rotate_left
      ·simp only [Act.put, List.setIfInBounds_toArray, List.set_cons_zero, List.set_cons_succ, i64_w, i32_w]
       rfl
      refine take_ (i := 1) (N := some 36) (v := ?_) (a' := ?_) #[true, true, false, false, false] rfl rfl (by kernel_rfl) (fun _ _ _ h => h) (Or.inl ⟨by rfl, ?_⟩) hHeld ?_ ?_
      rotate_left
      ·rintro w' ⟨s0, s1, s2, s3⟩
       go_simp
       with_reducible rfl
      rotate_left
      ·simp only [Act.put, List.setIfInBounds_toArray, List.set_cons_zero, List.set_cons_succ, i64_w, i32_w]
       rfl
      refine one_ (i := 2) (N := some 37) #[true, true, true, false, false] rfl rfl (by kernel_rfl) (by decide) (fun K hK => ?_)
      refine goes_ Try.func30 (by kernel_rfl) rfl #[.agg #[.slice A0_0 l0_0.length c0_0, .slice A0_1 l0_1.length c0_1]] (by rfl) rfl rfl ar_ ?_
      with_reducible refine (laws_toMachine.calls k _ _ l0_0 _ _ l0_1 t25 t28 _ ?side1 ?side2 ?side3 ?side4 A41.out).mono ?_
      (case side1 => exact cb_)
      (case side2 => exact HC0_0.out)
      (case side3 => exact cb_)
      (case side4 => exact HC0_1.out)
      rintro e w98 ⟨v26, v29, rfl, ho0, ho1, hb⟩
      refine ⟨_, rfl, ?_⟩
      have n0_ := Aside0.mk (Kd.R_elder' (by (with_reducible repeat (first | apply Kd.R_alloc | apply Kd.R_drewN | apply Kd.R_drew)); exact HO6.out) (Kd.R_base ho0) hb)
      have n1_ := Aside0.mk (Kd.S_mono (Kd.S_told (Kd.S_told (Kd.S_old (by (with_reducible repeat (first | apply Kd.S_alloc | apply Kd.S_drewN | apply Kd.S_drew)); exact HO9.out) hb) (Kd.R_base ho0)) (Kd.S_base ho1)) (fun _ h_ => h_.1))
      have n2_ := Aside0.mk (Kd.R_below (by (with_reducible repeat (first | apply Kd.R_alloc | apply Kd.R_drewN | apply Kd.R_drew)); exact HO12.out) hb)
      have n3_ := Aside0.mk (Kd.R_elder' (by (with_reducible repeat (first | apply Kd.R_alloc | apply Kd.R_drewN | apply Kd.R_drew)); exact HO16.out) (Kd.R_base ho0) hb)
      have n4_ := Aside0.mk (Kd.S_mono (Kd.S_told (Kd.S_told (Kd.S_old (by (with_reducible repeat (first | apply Kd.S_alloc | apply Kd.S_drewN | apply Kd.S_drew)); exact HO19.out) hb) (Kd.R_base ho0)) (Kd.S_base ho1)) (fun _ h_ => h_.1))
      have n5_ := Aside0.mk (Kd.R_below (by (with_reducible repeat (first | apply Kd.R_alloc | apply Kd.R_drewN | apply Kd.R_drew)); exact HO23.out) hb)
      have n6_ := Aside0.mk (Kd.R_lower (Kd.R_new' (Kd.R_new' ho0 (Kd.R_lt (by (with_reducible repeat (first | apply Kd.R_alloc | apply Kd.R_drewN | apply Kd.R_drew)); exact HO6.out))) (Kd.R_lt (by (with_reducible repeat (first | apply Kd.R_alloc | apply Kd.R_drewN | apply Kd.R_drew)); exact HO16.out))) (below_size bw_))
      have n7_ := Aside0.mk (Kd.S_lower (Kd.S_new' (Kd.S_new' (Kd.S_new' (Kd.S_new' ho1 (Kd.R_lt (by (with_reducible repeat (first | apply Kd.R_alloc | apply Kd.R_drewN | apply Kd.R_drew)); exact HO6.out))) (Kd.S_lt (by (with_reducible repeat (first | apply Kd.S_alloc | apply Kd.S_drewN | apply Kd.S_drew)); exact HO9.out))) (Kd.R_lt (by (with_reducible repeat (first | apply Kd.R_alloc | apply Kd.R_drewN | apply Kd.R_drew)); exact HO16.out))) (Kd.S_lt (by (with_reducible repeat (first | apply Kd.S_alloc | apply Kd.S_drewN | apply Kd.S_drew)); exact HO19.out))) (below_size bw_))
      have n8_ := Aside0.mk (blk_below (g := gb1) (o := .cells #[.slice A0_0 l0_0.length c0_0, .slice A0_1 l0_1.length c0_1] 38 (0, 0)) bk_ hb)
      have n9_ := Aside0.mk (blk_below (g := gb20) (o := .cells #[.slice Ao89 t14.length co89, .slice Ao92 t17.length co92] 46 (0, 0)) bk_ hb)
      have n10_ := Aside0.mk (below_step bw_ hb)
      clear HO6
      clear HO9
      clear HO12
      clear HO16
      clear HO19
      clear HO23
      clear BK1
      clear BK20
      clear HB
      have HO6 := n0_
      have HO9 := n1_
      have HO12 := n2_
      have HO16 := n3_
      have HO19 := n4_
      have HO23 := n5_
      have HO27 := n6_
      have HO30 := n7_
      have BK1 := n8_
      have BK20 := n9_
      have HB := n10_
      clear n0_ n1_ n2_ n3_ n4_ n5_ n6_ n7_ n8_ n9_ n10_
      (try clear hb)
      (try clear hb2)
      (try clear hk)
      (try clear hi)
      (try clear ho0)
      (try clear ho1)
      obtain ⟨Ao99, co99, eo99⟩ := Kd.R_slice HO27.out
      (first | subst eo99 | (injection eo99 with f1_ f2_ f3_; have f4_ := f1_.symm; have f5_ := f3_.symm; clear f1_ f2_ f3_; subst f4_; subst f5_))
      obtain ⟨Ao100, co100, eo100⟩ := Kd.S_slice HO30.out
      (first | subst eo100 | (injection eo100 with f1_ f2_ f3_; have f4_ := f1_.symm; have f5_ := f3_.symm; clear f1_ f2_ f3_; subst f4_; subst f5_))
      refine hK.out _ _ ⟨(blk_cell BK20.out 0).trans rfl, (blk_cell BK20.out 1).trans rfl, (blk_cell BK1.out 0).trans rfl, (blk_cell BK1.out 1).trans rfl⟩ (fun hHeld => ?_)
      clear hK K
      refine norm_ (a' := ?_) ?_ ?_
      rotate_left
      ·show Act.put _ (some 37) _ = _
       simp only [Act.put, List.setIfInBounds_toArray, List.set_cons_zero, List.set_cons_succ, i64_w, i32_w]
       rfl
      refine one_ (i := 3) (N := some 38) #[true, true, true, true, false] rfl rfl (by kernel_rfl) (by decide) (fun K hK => ?_)
      refine goes_ Try.func33 (by kernel_rfl) rfl #[.agg #[.slice Ao89 t14.length co89, .slice Ao92 t17.length co92], .agg #[.slice Ao99 t25.length co99, .slice Ao100 t28.length co100]] (by rfl) rfl rfl ar_ ?_
      with_reducible refine (laws_eqMachine.calls k _ _ t14 _ _ t17 _ _ t25 _ _ t28 true _ ?side1 ?side2 ?side3 ?side4 ?side5 ?side6 ?side7 ?side8 A42.out).mono ?_
      (case side1 => repeat (first | exact (Kd.R_reads' HO16.out).2.2 | (with_reducible refine Kd.C_alloc ?_ _) | (with_reducible refine Kd.C_drewN ?_ _) | (with_reducible refine Kd.C_drew ?_)))
      (case side2 => exact (Kd.R_reads' HO16.out).2.1)
      (case side3 => repeat (first | exact (Kd.S_reads' HO19.out).2.2 | (with_reducible refine Kd.C_alloc ?_ _) | (with_reducible refine Kd.C_drewN ?_ _) | (with_reducible refine Kd.C_drew ?_)))
      (case side4 => exact (Kd.S_reads' HO19.out).2.1)
      (case side5 => repeat (first | exact (Kd.R_reads' HO27.out).2.2 | (with_reducible refine Kd.C_alloc ?_ _) | (with_reducible refine Kd.C_drewN ?_ _) | (with_reducible refine Kd.C_drew ?_)))
      (case side6 => exact (Kd.R_reads' HO27.out).2.1)
      (case side7 => repeat (first | exact (Kd.S_reads' HO30.out).2.2 | (with_reducible refine Kd.C_alloc ?_ _) | (with_reducible refine Kd.C_drewN ?_ _) | (with_reducible refine Kd.C_drew ?_)))
      (case side8 => exact (Kd.S_reads' HO30.out).2.1)
      rintro e w101 ⟨rfl, hb⟩
      refine ⟨_, rfl, ?_⟩
      have n0_ := Aside0.mk (Kd.R_below (by (with_reducible repeat (first | apply Kd.R_alloc | apply Kd.R_drewN | apply Kd.R_drew)); exact HO6.out) hb)
      have n1_ := Aside0.mk (Kd.S_below (by (with_reducible repeat (first | apply Kd.S_alloc | apply Kd.S_drewN | apply Kd.S_drew)); exact HO9.out) hb)
      have n2_ := Aside0.mk (Kd.R_below (by (with_reducible repeat (first | apply Kd.R_alloc | apply Kd.R_drewN | apply Kd.R_drew)); exact HO12.out) hb)
      have n3_ := Aside0.mk (Kd.R_below (by (with_reducible repeat (first | apply Kd.R_alloc | apply Kd.R_drewN | apply Kd.R_drew)); exact HO16.out) hb)
      have n4_ := Aside0.mk (Kd.S_below (by (with_reducible repeat (first | apply Kd.S_alloc | apply Kd.S_drewN | apply Kd.S_drew)); exact HO19.out) hb)
      have n5_ := Aside0.mk (Kd.R_below (by (with_reducible repeat (first | apply Kd.R_alloc | apply Kd.R_drewN | apply Kd.R_drew)); exact HO23.out) hb)
      have n6_ := Aside0.mk (Kd.R_below (by (with_reducible repeat (first | apply Kd.R_alloc | apply Kd.R_drewN | apply Kd.R_drew)); exact HO27.out) hb)
      have n7_ := Aside0.mk (Kd.S_below (by (with_reducible repeat (first | apply Kd.S_alloc | apply Kd.S_drewN | apply Kd.S_drew)); exact HO30.out) hb)
      have n8_ := Aside0.mk (blk_below (g := gb1) (o := .cells #[.slice A0_0 l0_0.length c0_0, .slice A0_1 l0_1.length c0_1] 38 (0, 0)) bk_ hb)
      have n9_ := Aside0.mk (blk_below (g := gb20) (o := .cells #[.slice Ao89 t14.length co89, .slice Ao92 t17.length co92] 46 (0, 0)) bk_ hb)
      have n10_ := Aside0.mk (below_step bw_ hb)
      clear HO6
      clear HO9
      clear HO12
      clear HO16
      clear HO19
      clear HO23
      clear HO27
      clear HO30
      clear BK1
      clear BK20
      clear HB
      have HO6 := n0_
      have HO9 := n1_
      have HO12 := n2_
      have HO16 := n3_
      have HO19 := n4_
      have HO23 := n5_
      have HO27 := n6_
      have HO30 := n7_
      have BK1 := n8_
      have BK20 := n9_
      have HB := n10_
      clear n0_ n1_ n2_ n3_ n4_ n5_ n6_ n7_ n8_ n9_ n10_
      (try clear hb)
      (try clear hb2)
      (try clear hk)
      (try clear hi)
      refine hK.out _ _ ⟨(blk_cell BK20.out 0).trans rfl, (blk_cell BK20.out 1).trans rfl, (blk_cell BK1.out 0).trans rfl, (blk_cell BK1.out 1).trans rfl⟩ (fun hHeld => ?_)
      clear hK K
      refine norm_ (a' := ?_) ?_ ?_
      rotate_left
      ·show Act.put _ (some 38) _ = _
       simp only [Act.put, List.setIfInBounds_toArray, List.set_cons_zero, List.set_cons_succ, i64_w, i32_w]
       rfl
      refine pure_ (i := 4) (N := some 39) (v := ?_) (a' := ?_) #[true, true, true, true, true] rfl rfl (by kernel_rfl) (fun _ _ _ h => h) (Or.inl ⟨by rfl, ?_⟩) ?_ ?_
      rotate_left
      ·intro w'
       go_simp
       with_reducible rfl
      rotate_left
      ·simp only [Act.put, List.setIfInBounds_toArray, List.set_cons_zero, List.set_cons_succ, i64_w, i32_w]
       rfl
      refine done_ (by kernel_rfl) ?_
      try go_wp2_with (first | ((with_reducible refine gate_callee (f := 31) rfl ?_); refine goesL_ (some 42) rfl rfl Try.func31 (by kernel_rfl) rfl #[.slice A1 l1.length c1] rfl ar_ ?_; (with_reducible refine (laws_toAtomS.calls k _ _ l1 t32 _ ?side1 ?side2 A44.out).mono ?_); (case side1 => exact cb_); (case side2 => exact HC1.out); rintro e w102 ⟨v33, rfl, ho0, hb⟩; refine ⟨_, rfl, ?_⟩; have n0_ := Aside0.mk (Kd.R_below (by (with_reducible repeat (first | apply Kd.R_alloc | apply Kd.R_drewN | apply Kd.R_drew)); exact HO6.out) hb); have n1_ := Aside0.mk (Kd.S_below (by (with_reducible repeat (first | apply Kd.S_alloc | apply Kd.S_drewN | apply Kd.S_drew)); exact HO9.out) hb); have n2_ := Aside0.mk (Kd.R_elder' (by (with_reducible repeat (first | apply Kd.R_alloc | apply Kd.R_drewN | apply Kd.R_drew)); exact HO12.out) (Kd.R_base ho0) hb); have n3_ := Aside0.mk (Kd.R_below (by (with_reducible repeat (first | apply Kd.R_alloc | apply Kd.R_drewN | apply Kd.R_drew)); exact HO16.out) hb); have n4_ := Aside0.mk (Kd.S_below (by (with_reducible repeat (first | apply Kd.S_alloc | apply Kd.S_drewN | apply Kd.S_drew)); exact HO19.out) hb); have n5_ := Aside0.mk (Kd.R_elder' (by (with_reducible repeat (first | apply Kd.R_alloc | apply Kd.R_drewN | apply Kd.R_drew)); exact HO23.out) (Kd.R_base ho0) hb); have n6_ := Aside0.mk (Kd.R_below (by (with_reducible repeat (first | apply Kd.R_alloc | apply Kd.R_drewN | apply Kd.R_drew)); exact HO27.out) hb); have n7_ := Aside0.mk (Kd.S_below (by (with_reducible repeat (first | apply Kd.S_alloc | apply Kd.S_drewN | apply Kd.S_drew)); exact HO30.out) hb); have n8_ := Aside0.mk (Kd.R_lower (Kd.R_new' (Kd.R_new' ho0 (Kd.R_lt (by (with_reducible repeat (first | apply Kd.R_alloc | apply Kd.R_drewN | apply Kd.R_drew)); exact HO12.out))) (Kd.R_lt (by (with_reducible repeat (first | apply Kd.R_alloc | apply Kd.R_drewN | apply Kd.R_drew)); exact HO23.out))) (below_size bw_)); have n9_ := Aside0.mk (blk_below (g := gb1) (o := .cells #[.slice A0_0 l0_0.length c0_0, .slice A0_1 l0_1.length c0_1] 38 (0, 0)) bk_ hb); have n10_ := Aside0.mk (blk_below (g := gb20) (o := .cells #[.slice Ao89 t14.length co89, .slice Ao92 t17.length co92] 46 (0, 0)) bk_ hb); have n11_ := Aside0.mk (below_step bw_ hb); clear HO6; clear HO9; clear HO12; clear HO16; clear HO19; clear HO23; clear HO27; clear HO30; clear BK1; clear BK20; clear HB; have HO6 := n0_; have HO9 := n1_; have HO12 := n2_; have HO16 := n3_; have HO19 := n4_; have HO23 := n5_; have HO27 := n6_; have HO30 := n7_; have HO34 := n8_; have BK1 := n9_; have BK20 := n10_; have HB := n11_; clear n0_ n1_ n2_ n3_ n4_ n5_ n6_ n7_ n8_ n9_ n10_ n11_; (try clear hb); (try clear hb2); (try clear hk); (try clear hi); (try clear ho0); obtain ⟨Ao103, co103, eo103⟩ := Kd.R_slice HO34.out; subst eo103) | ((with_reducible refine gate_callee (f := 34) rfl ?_); refine goesL_ (some 43) rfl rfl Try.func34 (by kernel_rfl) rfl #[.slice Ao95 t21.length co95, .slice Ao103 t32.length co103] rfl ar_ ?_; (with_reducible refine (laws_eqAtomS.calls k _ _ t21 _ _ t32 false _ ?side1 ?side2 ?side3 ?side4 A45.out).mono ?_); (case side1 => repeat (first | exact (Kd.R_reads' HO23.out).2.2 | (with_reducible refine Kd.C_alloc ?_ _) | (with_reducible refine Kd.C_drewN ?_ _) | (with_reducible refine Kd.C_drew ?_))); (case side2 => exact (Kd.R_reads' HO23.out).2.1); (case side3 => repeat (first | exact (Kd.R_reads' HO34.out).2.2 | (with_reducible refine Kd.C_alloc ?_ _) | (with_reducible refine Kd.C_drewN ?_ _) | (with_reducible refine Kd.C_drew ?_))); (case side4 => exact (Kd.R_reads' HO34.out).2.1); rintro e w104 ⟨rfl, hb⟩; refine ⟨_, rfl, ?_⟩; have n0_ := Aside0.mk (Kd.R_below (by (with_reducible repeat (first | apply Kd.R_alloc | apply Kd.R_drewN | apply Kd.R_drew)); exact HO6.out) hb); have n1_ := Aside0.mk (Kd.S_below (by (with_reducible repeat (first | apply Kd.S_alloc | apply Kd.S_drewN | apply Kd.S_drew)); exact HO9.out) hb); have n2_ := Aside0.mk (Kd.R_below (by (with_reducible repeat (first | apply Kd.R_alloc | apply Kd.R_drewN | apply Kd.R_drew)); exact HO12.out) hb); have n3_ := Aside0.mk (Kd.R_below (by (with_reducible repeat (first | apply Kd.R_alloc | apply Kd.R_drewN | apply Kd.R_drew)); exact HO16.out) hb); have n4_ := Aside0.mk (Kd.S_below (by (with_reducible repeat (first | apply Kd.S_alloc | apply Kd.S_drewN | apply Kd.S_drew)); exact HO19.out) hb); have n5_ := Aside0.mk (Kd.R_below (by (with_reducible repeat (first | apply Kd.R_alloc | apply Kd.R_drewN | apply Kd.R_drew)); exact HO23.out) hb); have n6_ := Aside0.mk (Kd.R_below (by (with_reducible repeat (first | apply Kd.R_alloc | apply Kd.R_drewN | apply Kd.R_drew)); exact HO27.out) hb); have n7_ := Aside0.mk (Kd.S_below (by (with_reducible repeat (first | apply Kd.S_alloc | apply Kd.S_drewN | apply Kd.S_drew)); exact HO30.out) hb); have n8_ := Aside0.mk (Kd.R_below (by (with_reducible repeat (first | apply Kd.R_alloc | apply Kd.R_drewN | apply Kd.R_drew)); exact HO34.out) hb); have n9_ := Aside0.mk (blk_below (g := gb1) (o := .cells #[.slice A0_0 l0_0.length c0_0, .slice A0_1 l0_1.length c0_1] 38 (0, 0)) bk_ hb); have n10_ := Aside0.mk (blk_below (g := gb20) (o := .cells #[.slice Ao89 t14.length co89, .slice Ao92 t17.length co92] 46 (0, 0)) bk_ hb); have n11_ := Aside0.mk (below_step bw_ hb); clear HO6; clear HO9; clear HO12; clear HO16; clear HO19; clear HO23; clear HO27; clear HO30; clear HO34; clear BK1; clear BK20; clear HB; have HO6 := n0_; have HO9 := n1_; have HO12 := n2_; have HO16 := n3_; have HO19 := n4_; have HO23 := n5_; have HO27 := n6_; have HO30 := n7_; have HO34 := n8_; have BK1 := n9_; have BK20 := n10_; have HB := n11_; clear n0_ n1_ n2_ n3_ n4_ n5_ n6_ n7_ n8_ n9_ n10_ n11_; (try clear hb); (try clear hb2); (try clear hk); (try clear hi)))
      go_ret
      exact ⟨by first | rfl | (simp [errW_none, errW_some] <;> rfl) | (simp [*, errW_none, errW_some] <;> rfl), bw_⟩
    ·replace c43 := Bool.eq_false_iff.mpr c43
     subst c43
     have H1 : (some false) = some r := by rw [if_neg (show ¬ (false = true) by decide)] at H; exact H
     clear H
     have H := H1
     clear H1
     obtain rfl := Option.some.inj H
     go_enter Try.func5, Try.ntmps5
     try go_wp2_with (first | ((with_reducible refine gate_dst (N := 2) rfl ?_); refine box_event ?hg (N := 2) ?hd (cs := #[.slice A0_0 l0_0.length c0_0, .slice A0_1 l0_1.length c0_1]) (t := 38) ?hr ?_; (case hd => rfl); (case hg => rfl); (case hr => first | (go_simp; done) | (go_simp; rfl)); intro gb1 hg w105 hbox hb; have n0_ := Aside0.mk (below_step bw_ hb); have n1_ := Aside0.mk (hbox); have n2_ := Aside0.mk ((by rw [hg]; exact (below_size bw_) : w.heap.size ≤ gb1)); have n3_ := Aside0.mk ((by rw [hg]; exact (below_size bw_) : w.heap.size ≤ gb1)); clear HB; have HB := n0_; have BK1 := n1_; have GW1 := n2_; have GE1 := n3_; clear n0_ n1_ n2_ n3_; clear hb hbox hg; have hcz106_0 : w105.cell? ⟨gb1, 0, none⟩ = some (.slice A0_0 l0_0.length c0_0) := (blk_cell BK1.out 0).trans rfl; have hcz106_1 : w105.cell? ⟨gb1, 1, none⟩ = some (.slice A0_1 l0_1.length c0_1) := (blk_cell BK1.out 1).trans rfl; have hfz106_0 := blk_frozen BK1.out 0; have hfz106_1 := blk_frozen BK1.out 1) | ((with_reducible refine gate_callee (f := 27) rfl ?_); refine goesL_ (some 12) rfl rfl Try.func27 (by kernel_rfl) rfl #[.agg #[.slice A0_0 l0_0.length c0_0, .slice A0_1 l0_1.length c0_1], .int .i64 1048576] rfl ar_ ?_; (with_reducible refine (laws_szMachine.calls k _ _ l0_0 _ _ l0_1 1048576 t2 _ ?side1 ?side2 ?side3 ?side4 A3.out).mono ?_); (case side1 => exact cb_); (case side2 => exact HC0_0.out); (case side3 => exact cb_); (case side4 => exact HC0_1.out); rintro e w107 ⟨rfl, hb⟩; refine ⟨_, rfl, ?_⟩; have n0_ := Aside0.mk (blk_below (g := gb1) (o := .cells #[.slice A0_0 l0_0.length c0_0, .slice A0_1 l0_1.length c0_1] 38 (0, 0)) bk_ hb); have n1_ := Aside0.mk (below_step bw_ hb); clear BK1; clear HB; have BK1 := n0_; have HB := n1_; clear n0_ n1_; (try clear hb); (try clear hb2); (try clear hk); (try clear hi)) | ((with_reducible refine gate_callee (f := 28) rfl ?_); refine goesL_ (some 17) rfl rfl Try.func28 (by kernel_rfl) rfl #[.slice A1 l1.length c1, .int .i64 t2] rfl ar_ ?_; (with_reducible refine (laws_szAtomS.calls _ _ l1 t2 t3 _ ?side1 ?side2 A8.out).mono ?_); (case side1 => exact cb_); (case side2 => exact HC1.out); rintro e w' ⟨rfl, ⟨nd, rfl⟩⟩; refine ⟨_, rfl, ?_⟩; (try (rw [drewN_self w107]; generalize hq_ : World.drewN w107 _ = w107; have n0_ : Aside0 (w107.heap[gb1]? = some (.cells #[.slice A0_0 l0_0.length c0_0, .slice A0_1 l0_1.length c0_1] 38 (0, 0))) := ⟨by rw [← hq_]; exact bk_⟩; have n1_ : Aside0 (Below w.heap.size w w107) := ⟨by rw [← hq_]; exact bw_⟩; clear BK1 HB hq_; have BK1 := n0_; have HB := n1_; clear n0_ n1_)); have hcz108_0 : w107.cell? ⟨gb1, 0, none⟩ = some (.slice A0_0 l0_0.length c0_0) := (blk_cell BK1.out 0).trans rfl; have hcz108_1 : w107.cell? ⟨gb1, 1, none⟩ = some (.slice A0_1 l0_1.length c0_1) := (blk_cell BK1.out 1).trans rfl; have hfz108_0 := blk_frozen BK1.out 0; have hfz108_1 := blk_frozen BK1.out 1) | ((with_reducible refine gate_callee (f := 30) rfl ?_); refine goesL_ (some 21) rfl rfl Try.func30 (by kernel_rfl) rfl #[.agg #[.slice A0_0 l0_0.length c0_0, .slice A0_1 l0_1.length c0_1]] rfl ar_ ?_; (with_reducible refine (laws_toMachine.calls k _ _ l0_0 _ _ l0_1 t4 t7 _ ?side1 ?side2 ?side3 ?side4 A13.out).mono ?_); (case side1 => exact cb_); (case side2 => exact HC0_0.out); (case side3 => exact cb_); (case side4 => exact HC0_1.out); rintro e w109 ⟨v5, v8, rfl, ho0, ho1, hb⟩; refine ⟨_, rfl, ?_⟩; have n0_ := Aside0.mk (Kd.R_lower ho0 (below_size bw_)); have n1_ := Aside0.mk (Kd.S_lower ho1 (below_size bw_)); have n2_ := Aside0.mk (blk_below (g := gb1) (o := .cells #[.slice A0_0 l0_0.length c0_0, .slice A0_1 l0_1.length c0_1] 38 (0, 0)) bk_ hb); have n3_ := Aside0.mk (below_step bw_ hb); clear BK1; clear HB; have HO6 := n0_; have HO9 := n1_; have BK1 := n2_; have HB := n3_; clear n0_ n1_ n2_ n3_; (try clear hb); (try clear hb2); (try clear hk); (try clear hi); (try clear ho0); (try clear ho1)) | ((with_reducible refine gate_callee (f := 31) rfl ?_); refine goesL_ (some 23) rfl rfl Try.func31 (by kernel_rfl) rfl #[.slice A1 l1.length c1] rfl ar_ ?_; (with_reducible refine (laws_toAtomS.calls k _ _ l1 t10 _ ?side1 ?side2 A14.out).mono ?_); (case side1 => exact cb_); (case side2 => exact HC1.out); rintro e w110 ⟨v11, rfl, ho0, hb⟩; refine ⟨_, rfl, ?_⟩; have n0_ := Aside0.mk (Kd.R_below (by (with_reducible repeat (first | apply Kd.R_alloc | apply Kd.R_drewN | apply Kd.R_drew)); exact HO6.out) hb); have n1_ := Aside0.mk (Kd.S_below (by (with_reducible repeat (first | apply Kd.S_alloc | apply Kd.S_drewN | apply Kd.S_drew)); exact HO9.out) hb); have n2_ := Aside0.mk (Kd.R_lower ho0 (below_size bw_)); have n3_ := Aside0.mk (blk_below (g := gb1) (o := .cells #[.slice A0_0 l0_0.length c0_0, .slice A0_1 l0_1.length c0_1] 38 (0, 0)) bk_ hb); have n4_ := Aside0.mk (below_step bw_ hb); clear HO6; clear HO9; clear BK1; clear HB; have HO6 := n0_; have HO9 := n1_; have HO12 := n2_; have BK1 := n3_; have HB := n4_; clear n0_ n1_ n2_ n3_ n4_; (try clear hb); (try clear hb2); (try clear hk); (try clear hi); (try clear ho0); obtain ⟨Ao111, co111, eo111⟩ := Kd.R_slice HO6.out; subst eo111; obtain ⟨Ao112, co112, eo112⟩ := Kd.S_slice HO9.out; subst eo112; obtain ⟨Ao113, co113, eo113⟩ := Kd.R_slice HO12.out; subst eo113) | ((with_reducible refine gate_callee (f := 29) rfl ?_); refine goesL_ (some 24) rfl rfl Try.func29 (by kernel_rfl) rfl #[.agg #[.slice Ao111 t4.length co111, .slice Ao112 t7.length co112], .slice Ao113 t10.length co113] rfl ar_ ?_; (with_reducible refine (spec_Holds.calls k _ _ t4 _ _ t7 _ _ t10 t13 _ ?side1 ?side2 ?side3 ?side4 ?side5 ?side6 A15.out).mono ?_); (case side1 => repeat (first | exact (Kd.R_reads' HO6.out).2.2 | (with_reducible refine Kd.C_alloc ?_ _) | (with_reducible refine Kd.C_drewN ?_ _) | (with_reducible refine Kd.C_drew ?_))); (case side2 => exact (Kd.R_reads' HO6.out).2.1); (case side3 => repeat (first | exact (Kd.S_reads' HO9.out).2.2 | (with_reducible refine Kd.C_alloc ?_ _) | (with_reducible refine Kd.C_drewN ?_ _) | (with_reducible refine Kd.C_drew ?_))); (case side4 => exact (Kd.S_reads' HO9.out).2.1); (case side5 => repeat (first | exact (Kd.R_reads' HO12.out).2.2 | (with_reducible refine Kd.C_alloc ?_ _) | (with_reducible refine Kd.C_drewN ?_ _) | (with_reducible refine Kd.C_drew ?_))); (case side6 => exact (Kd.R_reads' HO12.out).2.1); rintro e w114 ⟨rfl, hb⟩; refine ⟨_, rfl, ?_⟩; have n0_ := Aside0.mk (Kd.R_below (by (with_reducible repeat (first | apply Kd.R_alloc | apply Kd.R_drewN | apply Kd.R_drew)); exact HO6.out) hb); have n1_ := Aside0.mk (Kd.S_below (by (with_reducible repeat (first | apply Kd.S_alloc | apply Kd.S_drewN | apply Kd.S_drew)); exact HO9.out) hb); have n2_ := Aside0.mk (Kd.R_below (by (with_reducible repeat (first | apply Kd.R_alloc | apply Kd.R_drewN | apply Kd.R_drew)); exact HO12.out) hb); have n3_ := Aside0.mk (blk_below (g := gb1) (o := .cells #[.slice A0_0 l0_0.length c0_0, .slice A0_1 l0_1.length c0_1] 38 (0, 0)) bk_ hb); have n4_ := Aside0.mk (below_step bw_ hb); clear HO6; clear HO9; clear HO12; clear BK1; clear HB; have HO6 := n0_; have HO9 := n1_; have HO12 := n2_; have BK1 := n3_; have HB := n4_; clear n0_ n1_ n2_ n3_ n4_; (try clear hb); (try clear hb2); (try clear hk); (try clear hi); have hcz115_0 : w114.cell? ⟨gb1, 0, none⟩ = some (.slice A0_0 l0_0.length c0_0) := (blk_cell BK1.out 0).trans rfl; have hcz115_1 : w114.cell? ⟨gb1, 1, none⟩ = some (.slice A0_1 l0_1.length c0_1) := (blk_cell BK1.out 1).trans rfl; have hfz115_0 := blk_frozen BK1.out 0; have hfz115_1 := blk_frozen BK1.out 1) | ((with_reducible refine gate_callee (f := 30) rfl ?_); refine goesL_ (some 26) rfl rfl Try.func30 (by kernel_rfl) rfl #[.agg #[.slice A0_0 l0_0.length c0_0, .slice A0_1 l0_1.length c0_1]] rfl ar_ ?_; (with_reducible refine (laws_toMachine.calls k _ _ l0_0 _ _ l0_1 t14 t17 _ ?side1 ?side2 ?side3 ?side4 A16.out).mono ?_); (case side1 => exact cb_); (case side2 => exact HC0_0.out); (case side3 => exact cb_); (case side4 => exact HC0_1.out); rintro e w116 ⟨v15, v18, rfl, ho0, ho1, hb⟩; refine ⟨_, rfl, ?_⟩; have n0_ := Aside0.mk (Kd.R_elder' (by (with_reducible repeat (first | apply Kd.R_alloc | apply Kd.R_drewN | apply Kd.R_drew)); exact HO6.out) (Kd.R_base ho0) hb); have n1_ := Aside0.mk (Kd.S_mono (Kd.S_told (Kd.S_told (Kd.S_old (by (with_reducible repeat (first | apply Kd.S_alloc | apply Kd.S_drewN | apply Kd.S_drew)); exact HO9.out) hb) (Kd.R_base ho0)) (Kd.S_base ho1)) (fun _ h_ => h_.1)); have n2_ := Aside0.mk (Kd.R_below (by (with_reducible repeat (first | apply Kd.R_alloc | apply Kd.R_drewN | apply Kd.R_drew)); exact HO12.out) hb); have n3_ := Aside0.mk (Kd.R_lower (Kd.R_new' ho0 (Kd.R_lt (by (with_reducible repeat (first | apply Kd.R_alloc | apply Kd.R_drewN | apply Kd.R_drew)); exact HO6.out))) (below_size bw_)); have n4_ := Aside0.mk (Kd.S_lower (Kd.S_new' (Kd.S_new' ho1 (Kd.R_lt (by (with_reducible repeat (first | apply Kd.R_alloc | apply Kd.R_drewN | apply Kd.R_drew)); exact HO6.out))) (Kd.S_lt (by (with_reducible repeat (first | apply Kd.S_alloc | apply Kd.S_drewN | apply Kd.S_drew)); exact HO9.out))) (below_size bw_)); have n5_ := Aside0.mk (blk_below (g := gb1) (o := .cells #[.slice A0_0 l0_0.length c0_0, .slice A0_1 l0_1.length c0_1] 38 (0, 0)) bk_ hb); have n6_ := Aside0.mk (below_step bw_ hb); clear HO6; clear HO9; clear HO12; clear BK1; clear HB; have HO6 := n0_; have HO9 := n1_; have HO12 := n2_; have HO16 := n3_; have HO19 := n4_; have BK1 := n5_; have HB := n6_; clear n0_ n1_ n2_ n3_ n4_ n5_ n6_; (try clear hb); (try clear hb2); (try clear hk); (try clear hi); (try clear ho0); (try clear ho1)) | ((with_reducible refine gate_dst (N := 7) rfl ?_); refine box_event ?hg (N := 7) ?hd (cs := #[.slice none 0 0, .slice none 0 0]) (t := 46) ?hr ?_; (case hd => rfl); (case hg => rfl); (case hr => first | (go_simp; done) | (go_simp; rfl)); intro gb20 hg w117 hbox hb; have n0_ := Aside0.mk (Kd.R_below (by (with_reducible repeat (first | apply Kd.R_alloc | apply Kd.R_drewN | apply Kd.R_drew)); exact HO6.out) hb); have n1_ := Aside0.mk (Kd.S_below (by (with_reducible repeat (first | apply Kd.S_alloc | apply Kd.S_drewN | apply Kd.S_drew)); exact HO9.out) hb); have n2_ := Aside0.mk (Kd.R_below (by (with_reducible repeat (first | apply Kd.R_alloc | apply Kd.R_drewN | apply Kd.R_drew)); exact HO12.out) hb); have n3_ := Aside0.mk (Kd.R_below (by (with_reducible repeat (first | apply Kd.R_alloc | apply Kd.R_drewN | apply Kd.R_drew)); exact HO16.out) hb); have n4_ := Aside0.mk (Kd.S_below (by (with_reducible repeat (first | apply Kd.S_alloc | apply Kd.S_drewN | apply Kd.S_drew)); exact HO19.out) hb); have n5_ := Aside0.mk (blk_below (g := gb1) (o := .cells #[.slice A0_0 l0_0.length c0_0, .slice A0_1 l0_1.length c0_1] 38 (0, 0)) bk_ hb); have n6_ := Aside0.mk (below_step bw_ hb); have n7_ := Aside0.mk (hbox); have n8_ := Aside0.mk ((by rw [hg]; exact (below_size bw_) : w.heap.size ≤ gb20)); have n9_ := Aside0.mk ((by rw [hg]; exact (below_size bw_) : w.heap.size ≤ gb20)); have n10_ := Aside0.mk ((by rw [hg]; exact Nat.ne_of_lt (blk_lt (g := gb1) (o := .cells #[.slice A0_0 l0_0.length c0_0, .slice A0_1 l0_1.length c0_1] 38 (0, 0)) bk_) : gb1 ≠ gb20)); have n11_ := Aside0.mk ((by rw [hg]; exact Nat.ne_of_gt (blk_lt (g := gb1) (o := .cells #[.slice A0_0 l0_0.length c0_0, .slice A0_1 l0_1.length c0_1] 38 (0, 0)) bk_) : gb20 ≠ gb1)); clear HO6; clear HO9; clear HO12; clear HO16; clear HO19; clear BK1; clear HB; have HO6 := n0_; have HO9 := n1_; have HO12 := n2_; have HO16 := n3_; have HO19 := n4_; have BK1 := n5_; have HB := n6_; have BK20 := n7_; have GW20 := n8_; have GE20 := n9_; have NB1_20 := n10_; have NB20_1 := n11_; clear n0_ n1_ n2_ n3_ n4_ n5_ n6_ n7_ n8_ n9_ n10_ n11_; clear hb hbox hg; obtain ⟨Ao118, co118, eo118⟩ := Kd.R_slice HO16.out; subst eo118; have hnb119 := NB20_1.out; have hnc119 := NB1_20.out; have hcz120_0 : w117.cell? ⟨gb20, 0, none⟩ = some (.slice none 0 0) := (blk_cell BK20.out 0).trans rfl; have hcz120_1 : w117.cell? ⟨gb20, 1, none⟩ = some (.slice none 0 0) := (blk_cell BK20.out 1).trans rfl; have hfz120_0 := blk_frozen BK20.out 0; have hfz120_1 := blk_frozen BK20.out 1; obtain ⟨Ao121, co121, eo121⟩ := Kd.S_slice HO19.out; subst eo121) | ((with_reducible refine gate_callee (f := 31) rfl ?_); refine goesL_ (some 28) rfl rfl Try.func31 (by kernel_rfl) rfl #[.slice A1 l1.length c1] rfl ar_ ?_; (with_reducible refine (laws_toAtomS.calls k _ _ l1 t21 _ ?side1 ?side2 A17.out).mono ?_); (case side1 => exact Kd.C_below HR1.out bw_); (case side2 => exact HC1.out); rintro e w122 ⟨v22, rfl, ho0, hb⟩; refine ⟨_, rfl, ?_⟩; have n0_ := Aside0.mk (Kd.R_below (by (with_reducible repeat (first | apply Kd.R_alloc | apply Kd.R_drewN | apply Kd.R_drew)); exact (Kd.R_mono (Kd.R_far (p := ⟨gb20, 1, none⟩) (Kd.R_far (p := ⟨gb20, 0, none⟩) (Kd.R_types HO6.out BK20.out (by decide)) (fun _ hk => hk.2) (.slice Ao118 t14.length co118)) (fun _ hk => hk.2) (.slice Ao121 t17.length co121)) (fun _ h_ => h_.1))) hb); have n1_ := Aside0.mk (Kd.S_below (by (with_reducible repeat (first | apply Kd.S_alloc | apply Kd.S_drewN | apply Kd.S_drew)); exact (Kd.S_mono (Kd.S_far (p := ⟨gb20, 1, none⟩) (Kd.S_far (p := ⟨gb20, 0, none⟩) (Kd.S_types HO9.out BK20.out (by decide)) (fun _ hk => hk.2) (.slice Ao118 t14.length co118)) (fun _ hk => hk.2) (.slice Ao121 t17.length co121)) (fun _ h_ => h_.1))) hb); have n2_ := Aside0.mk (Kd.R_elder' (by (with_reducible repeat (first | apply Kd.R_alloc | apply Kd.R_drewN | apply Kd.R_drew)); exact (Kd.R_mono (Kd.R_far (p := ⟨gb20, 1, none⟩) (Kd.R_far (p := ⟨gb20, 0, none⟩) (Kd.R_types HO12.out BK20.out (by decide)) (fun _ hk => hk.2) (.slice Ao118 t14.length co118)) (fun _ hk => hk.2) (.slice Ao121 t17.length co121)) (fun _ h_ => h_.1))) (Kd.R_base ho0) hb); have n3_ := Aside0.mk (Kd.R_below (by (with_reducible repeat (first | apply Kd.R_alloc | apply Kd.R_drewN | apply Kd.R_drew)); exact (Kd.R_mono (Kd.R_far (p := ⟨gb20, 1, none⟩) (Kd.R_far (p := ⟨gb20, 0, none⟩) (Kd.R_types HO16.out BK20.out (by decide)) (fun _ hk => hk.2) (.slice Ao118 t14.length co118)) (fun _ hk => hk.2) (.slice Ao121 t17.length co121)) (fun _ h_ => h_.1))) hb); have n4_ := Aside0.mk (Kd.S_below (by (with_reducible repeat (first | apply Kd.S_alloc | apply Kd.S_drewN | apply Kd.S_drew)); exact (Kd.S_mono (Kd.S_far (p := ⟨gb20, 1, none⟩) (Kd.S_far (p := ⟨gb20, 0, none⟩) (Kd.S_types HO19.out BK20.out (by decide)) (fun _ hk => hk.2) (.slice Ao118 t14.length co118)) (fun _ hk => hk.2) (.slice Ao121 t17.length co121)) (fun _ h_ => h_.1))) hb); have n5_ := Aside0.mk (Kd.R_lower (Kd.R_new' ho0 (Kd.R_lt (by (with_reducible repeat (first | apply Kd.R_alloc | apply Kd.R_drewN | apply Kd.R_drew)); exact (Kd.R_mono (Kd.R_far (p := ⟨gb20, 1, none⟩) (Kd.R_far (p := ⟨gb20, 0, none⟩) (Kd.R_types HO12.out BK20.out (by decide)) (fun _ hk => hk.2) (.slice Ao118 t14.length co118)) (fun _ hk => hk.2) (.slice Ao121 t17.length co121)) (fun _ h_ => h_.1))))) (below_size bw_)); have n6_ := Aside0.mk (blk_below (g := gb1) (o := .cells #[.slice A0_0 l0_0.length c0_0, .slice A0_1 l0_1.length c0_1] 38 (0, 0)) (by (with_reducible repeat (first | refine blk_drewN ?_ _ | refine blk_drew ?_ | refine blk_alloc ?_ _)); refine blk_far ?_ NB1_20.out _; (with_reducible repeat (first | refine blk_drewN ?_ _ | refine blk_drew ?_ | refine blk_alloc ?_ _)); refine blk_far ?_ NB1_20.out _; (with_reducible repeat (first | refine blk_drewN ?_ _ | refine blk_drew ?_ | refine blk_alloc ?_ _)); exact BK1.out) hb); have n7_ := Aside0.mk (blk_below (g := gb20) (o := .cells #[.slice Ao118 t14.length co118, .slice Ao121 t17.length co121] 46 (0, 0)) (by (with_reducible repeat (first | refine blk_drewN ?_ _ | refine blk_drew ?_ | refine blk_alloc ?_ _)); refine blk_put (cs := #[.slice Ao118 t14.length co118, .slice none 0 0]) ?_ 1 _ rfl; (with_reducible repeat (first | refine blk_drewN ?_ _ | refine blk_drew ?_ | refine blk_alloc ?_ _)); refine blk_put (cs := #[.slice none 0 0, .slice none 0 0]) ?_ 0 _ rfl; (with_reducible repeat (first | refine blk_drewN ?_ _ | refine blk_drew ?_ | refine blk_alloc ?_ _)); exact BK20.out) hb); have n8_ := Aside0.mk (below_step bw_ hb); clear HO6; clear HO9; clear HO12; clear HO16; clear HO19; clear BK1; clear BK20; clear HB; have HO6 := n0_; have HO9 := n1_; have HO12 := n2_; have HO16 := n3_; have HO19 := n4_; have HO23 := n5_; have BK1 := n6_; have BK20 := n7_; have HB := n8_; clear n0_ n1_ n2_ n3_ n4_ n5_ n6_ n7_ n8_; (try clear hb); (try clear hb2); (try clear hk); (try clear hi); (try clear ho0); have hcz123_0 : w122.cell? ⟨gb20, 0, none⟩ = some (.slice Ao118 t14.length co118) := (blk_cell BK20.out 0).trans rfl; have hcz123_1 : w122.cell? ⟨gb20, 1, none⟩ = some (.slice Ao121 t17.length co121) := (blk_cell BK20.out 1).trans rfl; have hfz123_0 := blk_frozen BK20.out 0; have hfz123_1 := blk_frozen BK20.out 1; obtain ⟨Ao124, co124, eo124⟩ := Kd.R_slice HO23.out; subst eo124) | ((with_reducible refine gate_callee (f := 32) rfl ?_); refine goesL_ (some 31) rfl rfl Try.func32 (by kernel_rfl) rfl #[.agg #[.slice Ao118 t14.length co118, .slice Ao121 t17.length co121], .slice Ao124 t21.length co124] rfl ar_ ?_; (with_reducible refine (impl_Holds.calls _ _ t14 _ _ t17 _ _ t21 t24 _ ?side1 ?side2 ?side3 ?side4 ?side5 ?side6 A18.out).mono ?_); (case side1 => repeat (first | exact (Kd.R_reads' HO16.out).2.2 | (with_reducible refine Kd.C_alloc ?_ _) | (with_reducible refine Kd.C_drewN ?_ _) | (with_reducible refine Kd.C_drew ?_))); (case side2 => exact (Kd.R_reads' HO16.out).2.1); (case side3 => repeat (first | exact (Kd.S_reads' HO19.out).2.2 | (with_reducible refine Kd.C_alloc ?_ _) | (with_reducible refine Kd.C_drewN ?_ _) | (with_reducible refine Kd.C_drew ?_))); (case side4 => exact (Kd.S_reads' HO19.out).2.1); (case side5 => repeat (first | exact (Kd.R_reads' HO23.out).2.2 | (with_reducible refine Kd.C_alloc ?_ _) | (with_reducible refine Kd.C_drewN ?_ _) | (with_reducible refine Kd.C_drew ?_))); (case side6 => exact (Kd.R_reads' HO23.out).2.1); rintro e w125 ⟨rfl, hb⟩; refine ⟨_, rfl, ?_⟩; have n0_ := Aside0.mk (Kd.R_below (by (with_reducible repeat (first | apply Kd.R_alloc | apply Kd.R_drewN | apply Kd.R_drew)); exact HO6.out) hb); have n1_ := Aside0.mk (Kd.S_below (by (with_reducible repeat (first | apply Kd.S_alloc | apply Kd.S_drewN | apply Kd.S_drew)); exact HO9.out) hb); have n2_ := Aside0.mk (Kd.R_below (by (with_reducible repeat (first | apply Kd.R_alloc | apply Kd.R_drewN | apply Kd.R_drew)); exact HO12.out) hb); have n3_ := Aside0.mk (Kd.R_below (by (with_reducible repeat (first | apply Kd.R_alloc | apply Kd.R_drewN | apply Kd.R_drew)); exact HO16.out) hb); have n4_ := Aside0.mk (Kd.S_below (by (with_reducible repeat (first | apply Kd.S_alloc | apply Kd.S_drewN | apply Kd.S_drew)); exact HO19.out) hb); have n5_ := Aside0.mk (Kd.R_below (by (with_reducible repeat (first | apply Kd.R_alloc | apply Kd.R_drewN | apply Kd.R_drew)); exact HO23.out) hb); have n6_ := Aside0.mk (blk_below (g := gb1) (o := .cells #[.slice A0_0 l0_0.length c0_0, .slice A0_1 l0_1.length c0_1] 38 (0, 0)) bk_ hb); have n7_ := Aside0.mk (blk_below (g := gb20) (o := .cells #[.slice Ao118 t14.length co118, .slice Ao121 t17.length co121] 46 (0, 0)) bk_ hb); have n8_ := Aside0.mk (below_step bw_ hb); clear HO6; clear HO9; clear HO12; clear HO16; clear HO19; clear HO23; clear BK1; clear BK20; clear HB; have HO6 := n0_; have HO9 := n1_; have HO12 := n2_; have HO16 := n3_; have HO19 := n4_; have HO23 := n5_; have BK1 := n6_; have BK20 := n7_; have HB := n8_; clear n0_ n1_ n2_ n3_ n4_ n5_ n6_ n7_ n8_; (try clear hb); (try clear hb2); (try clear hk); (try clear hi)))
     have n0_ := Aside0.mk (Kd.R_drew HO6.out)
     have n1_ := Aside0.mk (Kd.S_drew HO9.out)
     have n2_ := Aside0.mk (Kd.R_drew HO12.out)
     have n3_ := Aside0.mk (Kd.R_drew HO16.out)
     have n4_ := Aside0.mk (Kd.S_drew HO19.out)
     have n5_ := Aside0.mk (Kd.R_drew HO23.out)
     have n6_ := Aside0.mk (blk_drew BK1.out)
     have n7_ := Aside0.mk (blk_drew BK20.out)
     have n8_ := Aside0.mk (below_drew1 HB.out)
     clear HO6
     clear HO9
     clear HO12
     clear HO16
     clear HO19
     clear HO23
     clear BK1
     clear BK20
     clear HB
     have HO6 := n0_
     have HO9 := n1_
     have HO12 := n2_
     have HO16 := n3_
     have HO19 := n4_
     have HO23 := n5_
     have BK1 := n6_
     have BK20 := n7_
     have HB := n8_
     clear n0_ n1_ n2_ n3_ n4_ n5_ n6_ n7_ n8_
     refine start_ (n := 5) (S := fun w' => w'.cell? ⟨gb20, 0, none⟩ = some (.slice Ao118 t14.length co118) ∧ w'.cell? ⟨gb20, 1, none⟩ = some (.slice Ao121 t17.length co121) ∧ w'.cell? ⟨gb1, 0, none⟩ = some (.slice A0_0 l0_0.length c0_0) ∧ w'.cell? ⟨gb1, 1, none⟩ = some (.slice A0_1 l0_1.length c0_1)) (ds := []) #[false, false, false, false, false] (by kernel_rfl) rfl rfl ⟨(blk_cell BK20.out 0).trans rfl, (blk_cell BK20.out 1).trans rfl, (blk_cell BK1.out 0).trans rfl, (blk_cell BK1.out 1).trans rfl⟩ (fun hHeld => ?_)
     generalize w125.drew = w126 at HO6 HO9 HO12 HO16 HO19 HO23 BK1 BK20 HB hHeld ⊢
     refine take_ (i := 0) (N := some 35) (v := ?_) (a' := ?_) #[true, false, false, false, false] rfl rfl (by kernel_rfl) (fun _ _ _ h => h) (Or.inl ⟨by rfl, ?_⟩) hHeld ?_ ?_
     rotate_left
     ·rintro w' ⟨s0, s1, s2, s3⟩
      go_simp
      with_reducible rfl
     rotate_left
     ·simp only [Act.put, List.setIfInBounds_toArray, List.set_cons_zero, List.set_cons_succ, i64_w, i32_w]
      rfl
     refine take_ (i := 1) (N := some 36) (v := ?_) (a' := ?_) #[true, true, false, false, false] rfl rfl (by kernel_rfl) (fun _ _ _ h => h) (Or.inl ⟨by rfl, ?_⟩) hHeld ?_ ?_
     rotate_left
     ·rintro w' ⟨s0, s1, s2, s3⟩
      go_simp
      with_reducible rfl
     rotate_left
     ·simp only [Act.put, List.setIfInBounds_toArray, List.set_cons_zero, List.set_cons_succ, i64_w, i32_w]
      rfl
     refine one_ (i := 2) (N := some 37) #[true, true, true, false, false] rfl rfl (by kernel_rfl) (by decide) (fun K hK => ?_)
     refine goes_ Try.func30 (by kernel_rfl) rfl #[.agg #[.slice A0_0 l0_0.length c0_0, .slice A0_1 l0_1.length c0_1]] (by rfl) rfl rfl ar_ ?_
     with_reducible refine (laws_toMachine.calls k _ _ l0_0 _ _ l0_1 t25 t28 _ ?side1 ?side2 ?side3 ?side4 A41.out).mono ?_
     (case side1 => exact cb_)
     (case side2 => exact HC0_0.out)
     (case side3 => exact cb_)
     (case side4 => exact HC0_1.out)
     rintro e w127 ⟨v26, v29, rfl, ho0, ho1, hb⟩
     refine ⟨_, rfl, ?_⟩
     have n0_ := Aside0.mk (Kd.R_elder' (by (with_reducible repeat (first | apply Kd.R_alloc | apply Kd.R_drewN | apply Kd.R_drew)); exact HO6.out) (Kd.R_base ho0) hb)
     have n1_ := Aside0.mk (Kd.S_mono (Kd.S_told (Kd.S_told (Kd.S_old (by (with_reducible repeat (first | apply Kd.S_alloc | apply Kd.S_drewN | apply Kd.S_drew)); exact HO9.out) hb) (Kd.R_base ho0)) (Kd.S_base ho1)) (fun _ h_ => h_.1))
     have n2_ := Aside0.mk (Kd.R_below (by (with_reducible repeat (first | apply Kd.R_alloc | apply Kd.R_drewN | apply Kd.R_drew)); exact HO12.out) hb)
     have n3_ := Aside0.mk (Kd.R_elder' (by (with_reducible repeat (first | apply Kd.R_alloc | apply Kd.R_drewN | apply Kd.R_drew)); exact HO16.out) (Kd.R_base ho0) hb)
     have n4_ := Aside0.mk (Kd.S_mono (Kd.S_told (Kd.S_told (Kd.S_old (by (with_reducible repeat (first | apply Kd.S_alloc | apply Kd.S_drewN | apply Kd.S_drew)); exact HO19.out) hb) (Kd.R_base ho0)) (Kd.S_base ho1)) (fun _ h_ => h_.1))
     have n5_ := Aside0.mk (Kd.R_below (by (with_reducible repeat (first | apply Kd.R_alloc | apply Kd.R_drewN | apply Kd.R_drew)); exact HO23.out) hb)
     have n6_ := Aside0.mk (Kd.R_lower (Kd.R_new' (Kd.R_new' ho0 (Kd.R_lt (by (with_reducible repeat (first | apply Kd.R_alloc | apply Kd.R_drewN | apply Kd.R_drew)); exact HO6.out))) (Kd.R_lt (by (with_reducible repeat (first | apply Kd.R_alloc | apply Kd.R_drewN | apply Kd.R_drew)); exact HO16.out))) (below_size bw_))
     have n7_ := Aside0.mk (Kd.S_lower (Kd.S_new' (Kd.S_new' (Kd.S_new' (Kd.S_new' ho1 (Kd.R_lt (by (with_reducible repeat (first | apply Kd.R_alloc | apply Kd.R_drewN | apply Kd.R_drew)); exact HO6.out))) (Kd.S_lt (by (with_reducible repeat (first | apply Kd.S_alloc | apply Kd.S_drewN | apply Kd.S_drew)); exact HO9.out))) (Kd.R_lt (by (with_reducible repeat (first | apply Kd.R_alloc | apply Kd.R_drewN | apply Kd.R_drew)); exact HO16.out))) (Kd.S_lt (by (with_reducible repeat (first | apply Kd.S_alloc | apply Kd.S_drewN | apply Kd.S_drew)); exact HO19.out))) (below_size bw_))
     have n8_ := Aside0.mk (blk_below (g := gb1) (o := .cells #[.slice A0_0 l0_0.length c0_0, .slice A0_1 l0_1.length c0_1] 38 (0, 0)) bk_ hb)
     have n9_ := Aside0.mk (blk_below (g := gb20) (o := .cells #[.slice Ao118 t14.length co118, .slice Ao121 t17.length co121] 46 (0, 0)) bk_ hb)
     have n10_ := Aside0.mk (below_step bw_ hb)
     clear HO6
     clear HO9
     clear HO12
     clear HO16
     clear HO19
     clear HO23
     clear BK1
     clear BK20
     clear HB
     have HO6 := n0_
     have HO9 := n1_
     have HO12 := n2_
     have HO16 := n3_
     have HO19 := n4_
     have HO23 := n5_
     have HO27 := n6_
     have HO30 := n7_
     have BK1 := n8_
     have BK20 := n9_
     have HB := n10_
     clear n0_ n1_ n2_ n3_ n4_ n5_ n6_ n7_ n8_ n9_ n10_
     (try clear hb)
     (try clear hb2)
     (try clear hk)
     (try clear hi)
     (try clear ho0)
     (try clear ho1)
     obtain ⟨Ao128, co128, eo128⟩ := Kd.R_slice HO27.out
     (first | subst eo128 | (injection eo128 with f1_ f2_ f3_; have f4_ := f1_.symm; have f5_ := f3_.symm; clear f1_ f2_ f3_; subst f4_; subst f5_))
     obtain ⟨Ao129, co129, eo129⟩ := Kd.S_slice HO30.out
     (first | subst eo129 | (injection eo129 with f1_ f2_ f3_; have f4_ := f1_.symm; have f5_ := f3_.symm; clear f1_ f2_ f3_; subst f4_; subst f5_))
     refine hK.out _ _ ⟨(blk_cell BK20.out 0).trans rfl, (blk_cell BK20.out 1).trans rfl, (blk_cell BK1.out 0).trans rfl, (blk_cell BK1.out 1).trans rfl⟩ (fun hHeld => ?_)
     clear hK K
     refine norm_ (a' := ?_) ?_ ?_
     rotate_left
     ·show Act.put _ (some 37) _ = _
      simp only [Act.put, List.setIfInBounds_toArray, List.set_cons_zero, List.set_cons_succ, i64_w, i32_w]
      rfl
     refine one_ (i := 3) (N := some 38) #[true, true, true, true, false] rfl rfl (by kernel_rfl) (by decide) (fun K hK => ?_)
     refine goes_ Try.func33 (by kernel_rfl) rfl #[.agg #[.slice Ao118 t14.length co118, .slice Ao121 t17.length co121], .agg #[.slice Ao128 t25.length co128, .slice Ao129 t28.length co129]] (by rfl) rfl rfl ar_ ?_
     with_reducible refine (laws_eqMachine.calls k _ _ t14 _ _ t17 _ _ t25 _ _ t28 false _ ?side1 ?side2 ?side3 ?side4 ?side5 ?side6 ?side7 ?side8 A42.out).mono ?_
     (case side1 => repeat (first | exact (Kd.R_reads' HO16.out).2.2 | (with_reducible refine Kd.C_alloc ?_ _) | (with_reducible refine Kd.C_drewN ?_ _) | (with_reducible refine Kd.C_drew ?_)))
     (case side2 => exact (Kd.R_reads' HO16.out).2.1)
     (case side3 => repeat (first | exact (Kd.S_reads' HO19.out).2.2 | (with_reducible refine Kd.C_alloc ?_ _) | (with_reducible refine Kd.C_drewN ?_ _) | (with_reducible refine Kd.C_drew ?_)))
     (case side4 => exact (Kd.S_reads' HO19.out).2.1)
     (case side5 => repeat (first | exact (Kd.R_reads' HO27.out).2.2 | (with_reducible refine Kd.C_alloc ?_ _) | (with_reducible refine Kd.C_drewN ?_ _) | (with_reducible refine Kd.C_drew ?_)))
     (case side6 => exact (Kd.R_reads' HO27.out).2.1)
     (case side7 => repeat (first | exact (Kd.S_reads' HO30.out).2.2 | (with_reducible refine Kd.C_alloc ?_ _) | (with_reducible refine Kd.C_drewN ?_ _) | (with_reducible refine Kd.C_drew ?_)))
     (case side8 => exact (Kd.S_reads' HO30.out).2.1)
     rintro e w130 ⟨rfl, hb⟩
     refine ⟨_, rfl, ?_⟩
     have n0_ := Aside0.mk (Kd.R_below (by (with_reducible repeat (first | apply Kd.R_alloc | apply Kd.R_drewN | apply Kd.R_drew)); exact HO6.out) hb)
     have n1_ := Aside0.mk (Kd.S_below (by (with_reducible repeat (first | apply Kd.S_alloc | apply Kd.S_drewN | apply Kd.S_drew)); exact HO9.out) hb)
     have n2_ := Aside0.mk (Kd.R_below (by (with_reducible repeat (first | apply Kd.R_alloc | apply Kd.R_drewN | apply Kd.R_drew)); exact HO12.out) hb)
     have n3_ := Aside0.mk (Kd.R_below (by (with_reducible repeat (first | apply Kd.R_alloc | apply Kd.R_drewN | apply Kd.R_drew)); exact HO16.out) hb)
     have n4_ := Aside0.mk (Kd.S_below (by (with_reducible repeat (first | apply Kd.S_alloc | apply Kd.S_drewN | apply Kd.S_drew)); exact HO19.out) hb)
     have n5_ := Aside0.mk (Kd.R_below (by (with_reducible repeat (first | apply Kd.R_alloc | apply Kd.R_drewN | apply Kd.R_drew)); exact HO23.out) hb)
     have n6_ := Aside0.mk (Kd.R_below (by (with_reducible repeat (first | apply Kd.R_alloc | apply Kd.R_drewN | apply Kd.R_drew)); exact HO27.out) hb)
     have n7_ := Aside0.mk (Kd.S_below (by (with_reducible repeat (first | apply Kd.S_alloc | apply Kd.S_drewN | apply Kd.S_drew)); exact HO30.out) hb)
     have n8_ := Aside0.mk (blk_below (g := gb1) (o := .cells #[.slice A0_0 l0_0.length c0_0, .slice A0_1 l0_1.length c0_1] 38 (0, 0)) bk_ hb)
     have n9_ := Aside0.mk (blk_below (g := gb20) (o := .cells #[.slice Ao118 t14.length co118, .slice Ao121 t17.length co121] 46 (0, 0)) bk_ hb)
     have n10_ := Aside0.mk (below_step bw_ hb)
     clear HO6
     clear HO9
     clear HO12
     clear HO16
     clear HO19
     clear HO23
     clear HO27
     clear HO30
     clear BK1
     clear BK20
     clear HB
     have HO6 := n0_
     have HO9 := n1_
     have HO12 := n2_
     have HO16 := n3_
     have HO19 := n4_
     have HO23 := n5_
     have HO27 := n6_
     have HO30 := n7_
     have BK1 := n8_
     have BK20 := n9_
     have HB := n10_
     clear n0_ n1_ n2_ n3_ n4_ n5_ n6_ n7_ n8_ n9_ n10_
     (try clear hb)
     (try clear hb2)
     (try clear hk)
     (try clear hi)
     refine hK.out _ _ ⟨(blk_cell BK20.out 0).trans rfl, (blk_cell BK20.out 1).trans rfl, (blk_cell BK1.out 0).trans rfl, (blk_cell BK1.out 1).trans rfl⟩ (fun hHeld => ?_)
     clear hK K
     refine norm_ (a' := ?_) ?_ ?_
     rotate_left
     ·show Act.put _ (some 38) _ = _
      simp only [Act.put, List.setIfInBounds_toArray, List.set_cons_zero, List.set_cons_succ, i64_w, i32_w]
      rfl
     refine pure_ (i := 4) (N := some 39) (v := ?_) (a' := ?_) #[true, true, true, true, true] rfl rfl (by kernel_rfl) (fun _ _ _ h => h) (Or.inl ⟨by rfl, ?_⟩) ?_ ?_
     rotate_left
     ·intro w'
      go_simp
      with_reducible rfl
     rotate_left
     ·simp only [Act.put, List.setIfInBounds_toArray, List.set_cons_zero, List.set_cons_succ, i64_w, i32_w]
      rfl
     refine done_ (by kernel_rfl) ?_
     try go_wp2
     go_ret
     exact ⟨by first | rfl | (simp [errW_none, errW_some] <;> rfl) | (simp [*, errW_none, errW_some] <;> rfl), bw_⟩

end Go.Proofs.Ytpcfcdnmpginhaa.P
