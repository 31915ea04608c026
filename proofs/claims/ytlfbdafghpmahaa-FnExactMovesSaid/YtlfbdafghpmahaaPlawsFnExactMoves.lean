-- Written by mp.py (the session's own driver over the kit's printer) for the seat Ytlfbdafghpmahaa.
import Derived.Test.YtlfbdafghpmahaaK
import Derived.Test.YtlfbdafghpmahaaPimplmoves
import Derived.Test.YtlfbdafghpmahaaPlawseqInstrSS
import Derived.Test.YtlfbdafghpmahaaPlawseqMachine
import Derived.Test.YtlfbdafghpmahaaPlawsmarkMachine
import Derived.Test.YtlfbdafghpmahaaPlawsmarkProg
import Derived.Test.YtlfbdafghpmahaaPlawsszInstrS
import Derived.Test.YtlfbdafghpmahaaPlawsszIntS
import Derived.Test.YtlfbdafghpmahaaPlawstoThread
import Derived.Test.YtlfbdafghpmahaaPspecl04Moves
namespace Go.Proofs.Ytlfbdafghpmahaa.P
open Go.RowKit Go.Proofs.YtlfbdafghpmahaaW.PrintWords Go.Proofs.YtlfbdafghpmahaaW.PrintLast Go.Proofs.YtlfbdafghpmahaaW.PrintMore
attribute [local go_sem] max2_int min2_int max_two min_two max_three min_three max_four min_four
set_option linter.unusedVariables false
set_option linter.unusedSimpArgs false

/-! ### laws_FnExactMoves: function 9 -/
def laws_FnExactMoves.f (k : Nat) (a0_0 : Int) (l0_1 : List (List (S84))) (l1_0 : List Int) (l1_1 : List (S147)) : Option (Bool) := (laws_szProg.f k a0_0 l0_1 1048576).bind fun t3 => (if t3 < 0 then (some true) else ((laws_szMachine.f k l1_0 l1_1 t3).bind fun t4 => (if t4 < 0 then (some true) else ((laws_toProg.f k a0_0 l0_1).bind fun bt5 => ((laws_toMachine.f k l1_0 l1_1).bind fun bt9 => ((spec_Moves.f k bt5.1 bt5.2 bt9.1 bt9.2).bind fun t15 => ((laws_toProg.f k a0_0 l0_1).bind fun bt18 => ((laws_toMachine.f k l1_0 l1_1).bind fun bt23 => ((impl_Moves.f k bt18.1 bt18.2 bt23.1 bt23.2).bind fun t30 => ((laws_eqMoveS.f k t30 t15).bind fun t33 => (if t33 = true then ((laws_toProg.f k a0_0 l0_1).bind fun bt34 => ((laws_eqProg.f k bt18.1 bt18.2 bt34.1 bt34.2).bind fun t38 => (if t38 = true then ((laws_toMachine.f k l1_0 l1_1).bind fun bt39 => ((laws_eqMachine.f k bt23.1 bt23.2 bt39.1 bt39.2).bind fun t45 => (if t45 = true then ((laws_markProg.f k bt18.1 bt18.2 1).bind fun t46 => ((laws_markMachine.f k bt23.1 bt23.2 t46).bind fun t47 => (if t47 < 0 then (some false) else ((laws_eqMoveS.f k t30 t15).bind fun t48 => (if t48 = true then ((laws_markMoveS.f k t30 1).bind fun bt49 => ((laws_heldMoveS.f k bt49.2 1).bind fun t51 => (if t51 < 0 then (some false) else (if t51 = bt49.1 then ((laws_toProg.f k a0_0 l0_1).bind fun bt52 => ((laws_toMachine.f k l1_0 l1_1).bind fun bt56 => ((impl_Moves.f k bt52.1 bt52.2 bt56.1 bt56.2).bind fun t62 => ((laws_eqMoveS.f k t62 t15).bind fun t65 => (if t65 = true then ((laws_heldMoveS.f k bt49.2 1).bind fun t66 => (if t66 < 0 then (some false) else (if t66 = bt49.1 then (some true) else (some false)))) else (some false)))))) else (some false))))) else (some false)))))) else (some false)))) else (some false)))) else (some false))))))))))))
theorem laws_FnExactMoves.mono : ∀ a0 a1 a2 a3 k, LeO (laws_FnExactMoves.f k a0 a1 a2 a3) (laws_FnExactMoves.f (k + 1) a0 a1 a2 a3) := by
 intro a0 a1 a2 a3 k
 unfold laws_FnExactMoves.f
 repeat' first | (with_reducible first | exact impl_Moves.mono _ _ _ _ _ | exact laws_eqMachine.mono _ _ _ _ _ | exact laws_eqMoveS.mono _ _ _ | exact laws_eqProg.mono _ _ _ _ _ | exact laws_heldMoveS.mono _ _ _ | exact laws_markMachine.mono _ _ _ _ | exact laws_markMoveS.mono _ _ _ | exact laws_markProg.mono _ _ _ _ | exact laws_szMachine.mono _ _ _ _ | exact laws_szProg.mono _ _ _ _ | exact laws_toMachine.mono _ _ _ | exact laws_toProg.mono _ _ _ | exact spec_Moves.mono _ _ _ _ _ | exact lr_ | exact ln_ | refine LeO.ite ?_ ?_ | refine LeO.bind ?_ (fun _ => ?_)) | exact impl_Moves.mono _ _ _ _ _ | exact laws_eqMachine.mono _ _ _ _ _ | exact laws_eqMoveS.mono _ _ _ | exact laws_eqProg.mono _ _ _ _ _ | exact laws_heldMoveS.mono _ _ _ | exact laws_markMachine.mono _ _ _ _ | exact laws_markMoveS.mono _ _ _ | exact laws_markProg.mono _ _ _ _ | exact laws_szMachine.mono _ _ _ _ | exact laws_szProg.mono _ _ _ _ | exact laws_toMachine.mono _ _ _ | exact laws_toProg.mono _ _ _ | exact spec_Moves.mono _ _ _ _ _ | exact ln_ | refine LeO.ite ?_ ?_ | refine LeO.bind ?_ (fun _ => ?_)
set_option maxHeartbeats 8000000 in
set_option maxRecDepth 100000 in
theorem laws_FnExactMoves.calls (k : Nat) (a0_0 : Int) (A0_1 : Option Addr) (c0_1 : Nat) (l0_1 : List (List (S84))) (A1_0 : Option Addr) (c1_0 : Nat) (l1_0 : List Int) (A1_1 : Option Addr) (c1_1 : Nat) (l1_1 : List (S147)) (r : Bool) (w : World) (hr0_1 : Kd.C (Kd.slice 84 k84) w A0_1 l0_1.length l0_1) (hc0_1 : l0_1.length ≤ c0_1) (hr1_0 : Kd.C (Kd.int .i64) w A1_0 l1_0.length l1_0) (hc1_0 : l1_0.length ≤ c1_0) (hr1_1 : Kd.C k147 w A1_1 l1_1.length l1_1) (hc1_1 : l1_1.length ≤ c1_1) (h : laws_FnExactMoves.f k a0_0 l0_1 l1_0 l1_1 = some r) (hr_ : r = true) :
  Calls Try.prog 9 #[.agg #[.int .i64 a0_0, .slice A0_1 l0_1.length c0_1], .agg #[.slice A1_0 l1_0.length c1_0, .slice A1_1 l1_1.length c1_1]] w fun e w' => e = .returned (.bool r) ∧ Below w.heap.size w w' := by
 have hu35 := Try.underlying35
 have hu72 := Try.underlying72
 have hu39 := Try.underlying39
 have hu54 := Try.underlying54
 have HR0_1 := Aside0.mk hr0_1
 have HC0_1 := Aside0.mk hc0_1
 clear hr0_1 hc0_1
 have HR1_0 := Aside0.mk hr1_0
 have HC1_0 := Aside0.mk hc1_0
 clear hr1_0 hc1_0
 have HR1_1 := Aside0.mk hr1_1
 have HC1_1 := Aside0.mk hc1_1
 clear hr1_1 hc1_1
 have HB := Aside0.mk (Below.refl w.heap.size w)
 have H : ((laws_szProg.f k a0_0 l0_1 1048576).bind fun t3 => (if t3 < 0 then (some true) else ((laws_szMachine.f k l1_0 l1_1 t3).bind fun t4 => (if t4 < 0 then (some true) else ((laws_toProg.f k a0_0 l0_1).bind fun bt5 => ((laws_toMachine.f k l1_0 l1_1).bind fun bt9 => ((spec_Moves.f k bt5.1 bt5.2 bt9.1 bt9.2).bind fun t15 => ((laws_toProg.f k a0_0 l0_1).bind fun bt18 => ((laws_toMachine.f k l1_0 l1_1).bind fun bt23 => ((impl_Moves.f k bt18.1 bt18.2 bt23.1 bt23.2).bind fun t30 => ((laws_eqMoveS.f k t30 t15).bind fun t33 => (if t33 = true then ((laws_toProg.f k a0_0 l0_1).bind fun bt34 => ((laws_eqProg.f k bt18.1 bt18.2 bt34.1 bt34.2).bind fun t38 => (if t38 = true then ((laws_toMachine.f k l1_0 l1_1).bind fun bt39 => ((laws_eqMachine.f k bt23.1 bt23.2 bt39.1 bt39.2).bind fun t45 => (if t45 = true then ((laws_markProg.f k bt18.1 bt18.2 1).bind fun t46 => ((laws_markMachine.f k bt23.1 bt23.2 t46).bind fun t47 => (if t47 < 0 then (some false) else ((laws_eqMoveS.f k t30 t15).bind fun t48 => (if t48 = true then ((laws_markMoveS.f k t30 1).bind fun bt49 => ((laws_heldMoveS.f k bt49.2 1).bind fun t51 => (if t51 < 0 then (some false) else (if t51 = bt49.1 then ((laws_toProg.f k a0_0 l0_1).bind fun bt52 => ((laws_toMachine.f k l1_0 l1_1).bind fun bt56 => ((impl_Moves.f k bt52.1 bt52.2 bt56.1 bt56.2).bind fun t62 => ((laws_eqMoveS.f k t62 t15).bind fun t65 => (if t65 = true then ((laws_heldMoveS.f k bt49.2 1).bind fun t66 => (if t66 < 0 then (some false) else (if t66 = bt49.1 then (some true) else (some false)))) else (some false)))))) else (some false))))) else (some false)))))) else (some false)))) else (some false)))) else (some false))))))))))))) = some r := h
 clear h
 replace H := Option.bind_eq_some_iff.mp H
 obtain ⟨t3, A30, H⟩ := H
 replace H : (if t3 < 0 then (some true) else ((laws_szMachine.f k l1_0 l1_1 t3).bind fun t4 => (if t4 < 0 then (some true) else ((laws_toProg.f k a0_0 l0_1).bind fun bt5 => ((laws_toMachine.f k l1_0 l1_1).bind fun bt9 => ((spec_Moves.f k bt5.1 bt5.2 bt9.1 bt9.2).bind fun t15 => ((laws_toProg.f k a0_0 l0_1).bind fun bt18 => ((laws_toMachine.f k l1_0 l1_1).bind fun bt23 => ((impl_Moves.f k bt18.1 bt18.2 bt23.1 bt23.2).bind fun t30 => ((laws_eqMoveS.f k t30 t15).bind fun t33 => (if t33 = true then ((laws_toProg.f k a0_0 l0_1).bind fun bt34 => ((laws_eqProg.f k bt18.1 bt18.2 bt34.1 bt34.2).bind fun t38 => (if t38 = true then ((laws_toMachine.f k l1_0 l1_1).bind fun bt39 => ((laws_eqMachine.f k bt23.1 bt23.2 bt39.1 bt39.2).bind fun t45 => (if t45 = true then ((laws_markProg.f k bt18.1 bt18.2 1).bind fun t46 => ((laws_markMachine.f k bt23.1 bt23.2 t46).bind fun t47 => (if t47 < 0 then (some false) else ((laws_eqMoveS.f k t30 t15).bind fun t48 => (if t48 = true then ((laws_markMoveS.f k t30 1).bind fun bt49 => ((laws_heldMoveS.f k bt49.2 1).bind fun t51 => (if t51 < 0 then (some false) else (if t51 = bt49.1 then ((laws_toProg.f k a0_0 l0_1).bind fun bt52 => ((laws_toMachine.f k l1_0 l1_1).bind fun bt56 => ((impl_Moves.f k bt52.1 bt52.2 bt56.1 bt56.2).bind fun t62 => ((laws_eqMoveS.f k t62 t15).bind fun t65 => (if t65 = true then ((laws_heldMoveS.f k bt49.2 1).bind fun t66 => (if t66 < 0 then (some false) else (if t66 = bt49.1 then (some true) else (some false)))) else (some false)))))) else (some false))))) else (some false)))))) else (some false)))) else (some false)))) else (some false)))))))))))) = some r := H
 have A3 := Aside0.mk A30
 clear A30
 by_cases c4 : t3 < 0
 ·rw [if_pos c4] at H
  have c4b0 : decide (t3 < 0) = true := decide_eq_true c4
  clear c4
  obtain rfl := Option.some.inj H
  clear hr_
  go_enter Try.func9, Try.ntmps9
  go_wp2_with (first | ((with_reducible refine gate_dst (N := 2) rfl ?_); refine box_event ?hg (N := 2) ?hd (cs := #[.int .i64 a0_0, .slice A0_1 l0_1.length c0_1]) (t := 35) ?hr ?_; (case hd => rfl); (case hg => rfl); (case hr => exact hr_); intro gb1 hg w5 hbox hb; have n0_ := bs_ hb; have n1_ := Aside0.mk (hbox); have n2_ := ge_ (w := w) hg; have n3_ := ge_ (w := w) hg; clear HB; have HB := n0_; have BK1 := n1_; have GW1 := n2_; have GE1 := n3_; clear n0_ n1_ n2_ n3_; clear hb hbox hg) | ((with_reducible refine gate_dst (N := 3) rfl ?_); refine box_event ?hg (N := 3) ?hd (cs := #[.slice A1_0 l1_0.length c1_0, .slice A1_1 l1_1.length c1_1]) (t := 72) ?hr ?_; (case hd => rfl); (case hg => rfl); (case hr => exact hr_); intro gb2 hg w6 hbox hb; have n0_ := bb_ BK1.out hb; have n1_ := bs_ hb; have n2_ := Aside0.mk (hbox); have n3_ := ge_ (w := w) hg; have n4_ := ge_ (w := w) hg; have n5_ := nl_ BK1.out hg; have n6_ := nr_ BK1.out hg; clear BK1; clear HB; have BK1 := n0_; have HB := n1_; have BK2 := n2_; have GW2 := n3_; have GE2 := n4_; have NB1_2 := n5_; have NB2_1 := n6_; clear n0_ n1_ n2_ n3_ n4_ n5_ n6_; clear hb hbox hg; have hnb7 := NB1_2.out; have hnc7 := NB2_1.out; obtain ⟨hcz8_0, hcz8_1, hfz8_0, hfz8_1⟩ := bc2_ BK1.out) | ((with_reducible refine gate_callee (f := 19) rfl ?_); refine goesL_ (some 16) rfl rfl Try.func19 (by kernel_rfl) rfl #[.agg #[.int .i64 a0_0, .slice A0_1 l0_1.length c0_1], .int .i64 1048576] rfl ar_ ?_; (with_reducible refine (laws_szProg.calls k a0_0 _ _ l0_1 1048576 t3 _ ?side1 ?side2 A3.out).mono ?_); (case side1 => exact cb_); (case side2 => exact HC0_1.out); rintro e w9 ⟨rfl, hb⟩; refine ⟨_, rfl, ?_⟩; have n0_ := bb_ BK1.out hb; have n1_ := bb_ BK2.out hb; have n2_ := bs_ hb; clear BK1; clear BK2; clear HB; have BK1 := n0_; have BK2 := n1_; have HB := n2_; clear n0_ n1_ n2_; (try clear hb); (try clear hb2); (try clear hk); (try clear hi)))
  go_ret
  exact ⟨rr_, bw_⟩
 rw [if_neg c4] at H
 have c4b0 : decide (t3 < 0) = false := decide_eq_false c4
 clear c4
 replace H := Option.bind_eq_some_iff.mp H
 obtain ⟨t4, A100, H⟩ := H
 replace H : (if t4 < 0 then (some true) else ((laws_toProg.f k a0_0 l0_1).bind fun bt5 => ((laws_toMachine.f k l1_0 l1_1).bind fun bt9 => ((spec_Moves.f k bt5.1 bt5.2 bt9.1 bt9.2).bind fun t15 => ((laws_toProg.f k a0_0 l0_1).bind fun bt18 => ((laws_toMachine.f k l1_0 l1_1).bind fun bt23 => ((impl_Moves.f k bt18.1 bt18.2 bt23.1 bt23.2).bind fun t30 => ((laws_eqMoveS.f k t30 t15).bind fun t33 => (if t33 = true then ((laws_toProg.f k a0_0 l0_1).bind fun bt34 => ((laws_eqProg.f k bt18.1 bt18.2 bt34.1 bt34.2).bind fun t38 => (if t38 = true then ((laws_toMachine.f k l1_0 l1_1).bind fun bt39 => ((laws_eqMachine.f k bt23.1 bt23.2 bt39.1 bt39.2).bind fun t45 => (if t45 = true then ((laws_markProg.f k bt18.1 bt18.2 1).bind fun t46 => ((laws_markMachine.f k bt23.1 bt23.2 t46).bind fun t47 => (if t47 < 0 then (some false) else ((laws_eqMoveS.f k t30 t15).bind fun t48 => (if t48 = true then ((laws_markMoveS.f k t30 1).bind fun bt49 => ((laws_heldMoveS.f k bt49.2 1).bind fun t51 => (if t51 < 0 then (some false) else (if t51 = bt49.1 then ((laws_toProg.f k a0_0 l0_1).bind fun bt52 => ((laws_toMachine.f k l1_0 l1_1).bind fun bt56 => ((impl_Moves.f k bt52.1 bt52.2 bt56.1 bt56.2).bind fun t62 => ((laws_eqMoveS.f k t62 t15).bind fun t65 => (if t65 = true then ((laws_heldMoveS.f k bt49.2 1).bind fun t66 => (if t66 < 0 then (some false) else (if t66 = bt49.1 then (some true) else (some false)))) else (some false)))))) else (some false))))) else (some false)))))) else (some false)))) else (some false)))) else (some false)))))))))) = some r := H
 have A10 := Aside0.mk A100
 clear A100
 by_cases c11 : t4 < 0
 ·rw [if_pos c11] at H
  have c11b0 : decide (t4 < 0) = true := decide_eq_true c11
  clear c11
  obtain rfl := Option.some.inj H
  clear hr_
  go_enter Try.func9, Try.ntmps9
  go_wp2_with (first | ((with_reducible refine gate_dst (N := 2) rfl ?_); refine box_event ?hg (N := 2) ?hd (cs := #[.int .i64 a0_0, .slice A0_1 l0_1.length c0_1]) (t := 35) ?hr ?_; (case hd => rfl); (case hg => rfl); (case hr => exact hr_); intro gb1 hg w12 hbox hb; have n0_ := bs_ hb; have n1_ := Aside0.mk (hbox); have n2_ := ge_ (w := w) hg; have n3_ := ge_ (w := w) hg; clear HB; have HB := n0_; have BK1 := n1_; have GW1 := n2_; have GE1 := n3_; clear n0_ n1_ n2_ n3_; clear hb hbox hg) | ((with_reducible refine gate_dst (N := 3) rfl ?_); refine box_event ?hg (N := 3) ?hd (cs := #[.slice A1_0 l1_0.length c1_0, .slice A1_1 l1_1.length c1_1]) (t := 72) ?hr ?_; (case hd => rfl); (case hg => rfl); (case hr => exact hr_); intro gb2 hg w13 hbox hb; have n0_ := bb_ BK1.out hb; have n1_ := bs_ hb; have n2_ := Aside0.mk (hbox); have n3_ := ge_ (w := w) hg; have n4_ := ge_ (w := w) hg; have n5_ := nl_ BK1.out hg; have n6_ := nr_ BK1.out hg; clear BK1; clear HB; have BK1 := n0_; have HB := n1_; have BK2 := n2_; have GW2 := n3_; have GE2 := n4_; have NB1_2 := n5_; have NB2_1 := n6_; clear n0_ n1_ n2_ n3_ n4_ n5_ n6_; clear hb hbox hg; have hnb14 := NB1_2.out; have hnc14 := NB2_1.out; obtain ⟨hcz15_0, hcz15_1, hfz15_0, hfz15_1⟩ := bc2_ BK1.out) | ((with_reducible refine gate_callee (f := 19) rfl ?_); refine goesL_ (some 16) rfl rfl Try.func19 (by kernel_rfl) rfl #[.agg #[.int .i64 a0_0, .slice A0_1 l0_1.length c0_1], .int .i64 1048576] rfl ar_ ?_; (with_reducible refine (laws_szProg.calls k a0_0 _ _ l0_1 1048576 t3 _ ?side1 ?side2 A3.out).mono ?_); (case side1 => exact cb_); (case side2 => exact HC0_1.out); rintro e w16 ⟨rfl, hb⟩; refine ⟨_, rfl, ?_⟩; have n0_ := bb_ BK1.out hb; have n1_ := bb_ BK2.out hb; have n2_ := bs_ hb; clear BK1; clear BK2; clear HB; have BK1 := n0_; have BK2 := n1_; have HB := n2_; clear n0_ n1_ n2_; (try clear hb); (try clear hb2); (try clear hk); (try clear hi); obtain ⟨hcz17_0, hcz17_1, hfz17_0, hfz17_1⟩ := bc2_ BK2.out) | ((with_reducible refine gate_callee (f := 44) rfl ?_); refine goesL_ (some 21) rfl rfl Try.func44 (by kernel_rfl) rfl #[.agg #[.slice A1_0 l1_0.length c1_0, .slice A1_1 l1_1.length c1_1], .int .i64 t3] rfl ar_ ?_; (with_reducible refine (laws_szMachine.calls k _ _ l1_0 _ _ l1_1 t3 t4 _ ?side1 ?side2 ?side3 ?side4 A10.out).mono ?_); (case side1 => exact cb_); (case side2 => exact HC1_0.out); (case side3 => exact cb_); (case side4 => exact HC1_1.out); rintro e w18 ⟨rfl, hb⟩; refine ⟨_, rfl, ?_⟩; have n0_ := bb_ BK1.out hb; have n1_ := bb_ BK2.out hb; have n2_ := bs_ hb; clear BK1; clear BK2; clear HB; have BK1 := n0_; have BK2 := n1_; have HB := n2_; clear n0_ n1_ n2_; (try clear hb); (try clear hb2); (try clear hk); (try clear hi)))
  go_ret
  exact ⟨rr_, bw_⟩
 rw [if_neg c11] at H
 have c11b0 : decide (t4 < 0) = false := decide_eq_false c11
 clear c11
 replace H := Option.bind_eq_some_iff.mp H
 obtain ⟨⟨t5, t6⟩, A190, H⟩ := H
 replace H : ((laws_toMachine.f k l1_0 l1_1).bind fun bt9 => ((spec_Moves.f k t5 t6 bt9.1 bt9.2).bind fun t15 => ((laws_toProg.f k a0_0 l0_1).bind fun bt18 => ((laws_toMachine.f k l1_0 l1_1).bind fun bt23 => ((impl_Moves.f k bt18.1 bt18.2 bt23.1 bt23.2).bind fun t30 => ((laws_eqMoveS.f k t30 t15).bind fun t33 => (if t33 = true then ((laws_toProg.f k a0_0 l0_1).bind fun bt34 => ((laws_eqProg.f k bt18.1 bt18.2 bt34.1 bt34.2).bind fun t38 => (if t38 = true then ((laws_toMachine.f k l1_0 l1_1).bind fun bt39 => ((laws_eqMachine.f k bt23.1 bt23.2 bt39.1 bt39.2).bind fun t45 => (if t45 = true then ((laws_markProg.f k bt18.1 bt18.2 1).bind fun t46 => ((laws_markMachine.f k bt23.1 bt23.2 t46).bind fun t47 => (if t47 < 0 then (some false) else ((laws_eqMoveS.f k t30 t15).bind fun t48 => (if t48 = true then ((laws_markMoveS.f k t30 1).bind fun bt49 => ((laws_heldMoveS.f k bt49.2 1).bind fun t51 => (if t51 < 0 then (some false) else (if t51 = bt49.1 then ((laws_toProg.f k a0_0 l0_1).bind fun bt52 => ((laws_toMachine.f k l1_0 l1_1).bind fun bt56 => ((impl_Moves.f k bt52.1 bt52.2 bt56.1 bt56.2).bind fun t62 => ((laws_eqMoveS.f k t62 t15).bind fun t65 => (if t65 = true then ((laws_heldMoveS.f k bt49.2 1).bind fun t66 => (if t66 < 0 then (some false) else (if t66 = bt49.1 then (some true) else (some false)))) else (some false)))))) else (some false))))) else (some false)))))) else (some false)))) else (some false)))) else (some false)))))))) = some r := H
 have A19 := Aside0.mk A190
 clear A190
 replace H := Option.bind_eq_some_iff.mp H
 obtain ⟨⟨t9, t12⟩, A200, H⟩ := H
 replace H : ((spec_Moves.f k t5 t6 t9 t12).bind fun t15 => ((laws_toProg.f k a0_0 l0_1).bind fun bt18 => ((laws_toMachine.f k l1_0 l1_1).bind fun bt23 => ((impl_Moves.f k bt18.1 bt18.2 bt23.1 bt23.2).bind fun t30 => ((laws_eqMoveS.f k t30 t15).bind fun t33 => (if t33 = true then ((laws_toProg.f k a0_0 l0_1).bind fun bt34 => ((laws_eqProg.f k bt18.1 bt18.2 bt34.1 bt34.2).bind fun t38 => (if t38 = true then ((laws_toMachine.f k l1_0 l1_1).bind fun bt39 => ((laws_eqMachine.f k bt23.1 bt23.2 bt39.1 bt39.2).bind fun t45 => (if t45 = true then ((laws_markProg.f k bt18.1 bt18.2 1).bind fun t46 => ((laws_markMachine.f k bt23.1 bt23.2 t46).bind fun t47 => (if t47 < 0 then (some false) else ((laws_eqMoveS.f k t30 t15).bind fun t48 => (if t48 = true then ((laws_markMoveS.f k t30 1).bind fun bt49 => ((laws_heldMoveS.f k bt49.2 1).bind fun t51 => (if t51 < 0 then (some false) else (if t51 = bt49.1 then ((laws_toProg.f k a0_0 l0_1).bind fun bt52 => ((laws_toMachine.f k l1_0 l1_1).bind fun bt56 => ((impl_Moves.f k bt52.1 bt52.2 bt56.1 bt56.2).bind fun t62 => ((laws_eqMoveS.f k t62 t15).bind fun t65 => (if t65 = true then ((laws_heldMoveS.f k bt49.2 1).bind fun t66 => (if t66 < 0 then (some false) else (if t66 = bt49.1 then (some true) else (some false)))) else (some false)))))) else (some false))))) else (some false)))))) else (some false)))) else (some false)))) else (some false))))))) = some r := H
 have A20 := Aside0.mk A200
 clear A200
 replace H := Option.bind_eq_some_iff.mp H
 obtain ⟨t15, A210, H⟩ := H
 replace H : ((laws_toProg.f k a0_0 l0_1).bind fun bt18 => ((laws_toMachine.f k l1_0 l1_1).bind fun bt23 => ((impl_Moves.f k bt18.1 bt18.2 bt23.1 bt23.2).bind fun t30 => ((laws_eqMoveS.f k t30 t15).bind fun t33 => (if t33 = true then ((laws_toProg.f k a0_0 l0_1).bind fun bt34 => ((laws_eqProg.f k bt18.1 bt18.2 bt34.1 bt34.2).bind fun t38 => (if t38 = true then ((laws_toMachine.f k l1_0 l1_1).bind fun bt39 => ((laws_eqMachine.f k bt23.1 bt23.2 bt39.1 bt39.2).bind fun t45 => (if t45 = true then ((laws_markProg.f k bt18.1 bt18.2 1).bind fun t46 => ((laws_markMachine.f k bt23.1 bt23.2 t46).bind fun t47 => (if t47 < 0 then (some false) else ((laws_eqMoveS.f k t30 t15).bind fun t48 => (if t48 = true then ((laws_markMoveS.f k t30 1).bind fun bt49 => ((laws_heldMoveS.f k bt49.2 1).bind fun t51 => (if t51 < 0 then (some false) else (if t51 = bt49.1 then ((laws_toProg.f k a0_0 l0_1).bind fun bt52 => ((laws_toMachine.f k l1_0 l1_1).bind fun bt56 => ((impl_Moves.f k bt52.1 bt52.2 bt56.1 bt56.2).bind fun t62 => ((laws_eqMoveS.f k t62 t15).bind fun t65 => (if t65 = true then ((laws_heldMoveS.f k bt49.2 1).bind fun t66 => (if t66 < 0 then (some false) else (if t66 = bt49.1 then (some true) else (some false)))) else (some false)))))) else (some false))))) else (some false)))))) else (some false)))) else (some false)))) else (some false)))))) = some r := H
 have A21 := Aside0.mk A210
 clear A210
 replace H := Option.bind_eq_some_iff.mp H
 obtain ⟨⟨t18, t19⟩, A220, H⟩ := H
 replace H : ((laws_toMachine.f k l1_0 l1_1).bind fun bt23 => ((impl_Moves.f k t18 t19 bt23.1 bt23.2).bind fun t30 => ((laws_eqMoveS.f k t30 t15).bind fun t33 => (if t33 = true then ((laws_toProg.f k a0_0 l0_1).bind fun bt34 => ((laws_eqProg.f k t18 t19 bt34.1 bt34.2).bind fun t38 => (if t38 = true then ((laws_toMachine.f k l1_0 l1_1).bind fun bt39 => ((laws_eqMachine.f k bt23.1 bt23.2 bt39.1 bt39.2).bind fun t45 => (if t45 = true then ((laws_markProg.f k t18 t19 1).bind fun t46 => ((laws_markMachine.f k bt23.1 bt23.2 t46).bind fun t47 => (if t47 < 0 then (some false) else ((laws_eqMoveS.f k t30 t15).bind fun t48 => (if t48 = true then ((laws_markMoveS.f k t30 1).bind fun bt49 => ((laws_heldMoveS.f k bt49.2 1).bind fun t51 => (if t51 < 0 then (some false) else (if t51 = bt49.1 then ((laws_toProg.f k a0_0 l0_1).bind fun bt52 => ((laws_toMachine.f k l1_0 l1_1).bind fun bt56 => ((impl_Moves.f k bt52.1 bt52.2 bt56.1 bt56.2).bind fun t62 => ((laws_eqMoveS.f k t62 t15).bind fun t65 => (if t65 = true then ((laws_heldMoveS.f k bt49.2 1).bind fun t66 => (if t66 < 0 then (some false) else (if t66 = bt49.1 then (some true) else (some false)))) else (some false)))))) else (some false))))) else (some false)))))) else (some false)))) else (some false)))) else (some false))))) = some r := H
 have A22 := Aside0.mk A220
 clear A220
 replace H := Option.bind_eq_some_iff.mp H
 obtain ⟨⟨t23, t26⟩, A230, H⟩ := H
 replace H : ((impl_Moves.f k t18 t19 t23 t26).bind fun t30 => ((laws_eqMoveS.f k t30 t15).bind fun t33 => (if t33 = true then ((laws_toProg.f k a0_0 l0_1).bind fun bt34 => ((laws_eqProg.f k t18 t19 bt34.1 bt34.2).bind fun t38 => (if t38 = true then ((laws_toMachine.f k l1_0 l1_1).bind fun bt39 => ((laws_eqMachine.f k t23 t26 bt39.1 bt39.2).bind fun t45 => (if t45 = true then ((laws_markProg.f k t18 t19 1).bind fun t46 => ((laws_markMachine.f k t23 t26 t46).bind fun t47 => (if t47 < 0 then (some false) else ((laws_eqMoveS.f k t30 t15).bind fun t48 => (if t48 = true then ((laws_markMoveS.f k t30 1).bind fun bt49 => ((laws_heldMoveS.f k bt49.2 1).bind fun t51 => (if t51 < 0 then (some false) else (if t51 = bt49.1 then ((laws_toProg.f k a0_0 l0_1).bind fun bt52 => ((laws_toMachine.f k l1_0 l1_1).bind fun bt56 => ((impl_Moves.f k bt52.1 bt52.2 bt56.1 bt56.2).bind fun t62 => ((laws_eqMoveS.f k t62 t15).bind fun t65 => (if t65 = true then ((laws_heldMoveS.f k bt49.2 1).bind fun t66 => (if t66 < 0 then (some false) else (if t66 = bt49.1 then (some true) else (some false)))) else (some false)))))) else (some false))))) else (some false)))))) else (some false)))) else (some false)))) else (some false)))) = some r := H
 have A23 := Aside0.mk A230
 clear A230
 replace H := Option.bind_eq_some_iff.mp H
 obtain ⟨t30, A240, H⟩ := H
 replace H : ((laws_eqMoveS.f k t30 t15).bind fun t33 => (if t33 = true then ((laws_toProg.f k a0_0 l0_1).bind fun bt34 => ((laws_eqProg.f k t18 t19 bt34.1 bt34.2).bind fun t38 => (if t38 = true then ((laws_toMachine.f k l1_0 l1_1).bind fun bt39 => ((laws_eqMachine.f k t23 t26 bt39.1 bt39.2).bind fun t45 => (if t45 = true then ((laws_markProg.f k t18 t19 1).bind fun t46 => ((laws_markMachine.f k t23 t26 t46).bind fun t47 => (if t47 < 0 then (some false) else ((laws_eqMoveS.f k t30 t15).bind fun t48 => (if t48 = true then ((laws_markMoveS.f k t30 1).bind fun bt49 => ((laws_heldMoveS.f k bt49.2 1).bind fun t51 => (if t51 < 0 then (some false) else (if t51 = bt49.1 then ((laws_toProg.f k a0_0 l0_1).bind fun bt52 => ((laws_toMachine.f k l1_0 l1_1).bind fun bt56 => ((impl_Moves.f k bt52.1 bt52.2 bt56.1 bt56.2).bind fun t62 => ((laws_eqMoveS.f k t62 t15).bind fun t65 => (if t65 = true then ((laws_heldMoveS.f k bt49.2 1).bind fun t66 => (if t66 < 0 then (some false) else (if t66 = bt49.1 then (some true) else (some false)))) else (some false)))))) else (some false))))) else (some false)))))) else (some false)))) else (some false)))) else (some false))) = some r := H
 have A24 := Aside0.mk A240
 clear A240
 replace H := Option.bind_eq_some_iff.mp H
 obtain ⟨t33, A250, H⟩ := H
 replace H : (if t33 = true then ((laws_toProg.f k a0_0 l0_1).bind fun bt34 => ((laws_eqProg.f k t18 t19 bt34.1 bt34.2).bind fun t38 => (if t38 = true then ((laws_toMachine.f k l1_0 l1_1).bind fun bt39 => ((laws_eqMachine.f k t23 t26 bt39.1 bt39.2).bind fun t45 => (if t45 = true then ((laws_markProg.f k t18 t19 1).bind fun t46 => ((laws_markMachine.f k t23 t26 t46).bind fun t47 => (if t47 < 0 then (some false) else ((laws_eqMoveS.f k t30 t15).bind fun t48 => (if t48 = true then ((laws_markMoveS.f k t30 1).bind fun bt49 => ((laws_heldMoveS.f k bt49.2 1).bind fun t51 => (if t51 < 0 then (some false) else (if t51 = bt49.1 then ((laws_toProg.f k a0_0 l0_1).bind fun bt52 => ((laws_toMachine.f k l1_0 l1_1).bind fun bt56 => ((impl_Moves.f k bt52.1 bt52.2 bt56.1 bt56.2).bind fun t62 => ((laws_eqMoveS.f k t62 t15).bind fun t65 => (if t65 = true then ((laws_heldMoveS.f k bt49.2 1).bind fun t66 => (if t66 < 0 then (some false) else (if t66 = bt49.1 then (some true) else (some false)))) else (some false)))))) else (some false))))) else (some false)))))) else (some false)))) else (some false)))) else (some false)) = some r := H
 have A25 := Aside0.mk A250
 clear A250
 by_cases c26 : t33 = true
 rotate_left
 ·replace c26 := Bool.eq_false_iff.mpr c26
  subst c26
  have H1 : (some false) = some r := by rw [if_neg (show ¬ (false = true) by decide)] at H; exact H
  clear H
  have H := H1
  clear H1
  obtain rfl := Option.some.inj H
  exact absurd hr_ (by decide)
 subst c26
 have H1 : ((laws_toProg.f k a0_0 l0_1).bind fun bt34 => ((laws_eqProg.f k t18 t19 bt34.1 bt34.2).bind fun t38 => (if t38 = true then ((laws_toMachine.f k l1_0 l1_1).bind fun bt39 => ((laws_eqMachine.f k t23 t26 bt39.1 bt39.2).bind fun t45 => (if t45 = true then ((laws_markProg.f k t18 t19 1).bind fun t46 => ((laws_markMachine.f k t23 t26 t46).bind fun t47 => (if t47 < 0 then (some false) else ((laws_eqMoveS.f k t30 t15).bind fun t48 => (if t48 = true then ((laws_markMoveS.f k t30 1).bind fun bt49 => ((laws_heldMoveS.f k bt49.2 1).bind fun t51 => (if t51 < 0 then (some false) else (if t51 = bt49.1 then ((laws_toProg.f k a0_0 l0_1).bind fun bt52 => ((laws_toMachine.f k l1_0 l1_1).bind fun bt56 => ((impl_Moves.f k bt52.1 bt52.2 bt56.1 bt56.2).bind fun t62 => ((laws_eqMoveS.f k t62 t15).bind fun t65 => (if t65 = true then ((laws_heldMoveS.f k bt49.2 1).bind fun t66 => (if t66 < 0 then (some false) else (if t66 = bt49.1 then (some true) else (some false)))) else (some false)))))) else (some false))))) else (some false)))))) else (some false)))) else (some false)))) = some r := by rw [if_pos rfl] at H; exact H
 clear H
 have H := H1
 clear H1
 replace H := Option.bind_eq_some_iff.mp H
 obtain ⟨⟨t34, t35⟩, A270, H⟩ := H
 replace H : ((laws_eqProg.f k t18 t19 t34 t35).bind fun t38 => (if t38 = true then ((laws_toMachine.f k l1_0 l1_1).bind fun bt39 => ((laws_eqMachine.f k t23 t26 bt39.1 bt39.2).bind fun t45 => (if t45 = true then ((laws_markProg.f k t18 t19 1).bind fun t46 => ((laws_markMachine.f k t23 t26 t46).bind fun t47 => (if t47 < 0 then (some false) else ((laws_eqMoveS.f k t30 t15).bind fun t48 => (if t48 = true then ((laws_markMoveS.f k t30 1).bind fun bt49 => ((laws_heldMoveS.f k bt49.2 1).bind fun t51 => (if t51 < 0 then (some false) else (if t51 = bt49.1 then ((laws_toProg.f k a0_0 l0_1).bind fun bt52 => ((laws_toMachine.f k l1_0 l1_1).bind fun bt56 => ((impl_Moves.f k bt52.1 bt52.2 bt56.1 bt56.2).bind fun t62 => ((laws_eqMoveS.f k t62 t15).bind fun t65 => (if t65 = true then ((laws_heldMoveS.f k bt49.2 1).bind fun t66 => (if t66 < 0 then (some false) else (if t66 = bt49.1 then (some true) else (some false)))) else (some false)))))) else (some false))))) else (some false)))))) else (some false)))) else (some false))) = some r := H
 have A27 := Aside0.mk A270
 clear A270
 replace H := Option.bind_eq_some_iff.mp H
 obtain ⟨t38, A280, H⟩ := H
 replace H : (if t38 = true then ((laws_toMachine.f k l1_0 l1_1).bind fun bt39 => ((laws_eqMachine.f k t23 t26 bt39.1 bt39.2).bind fun t45 => (if t45 = true then ((laws_markProg.f k t18 t19 1).bind fun t46 => ((laws_markMachine.f k t23 t26 t46).bind fun t47 => (if t47 < 0 then (some false) else ((laws_eqMoveS.f k t30 t15).bind fun t48 => (if t48 = true then ((laws_markMoveS.f k t30 1).bind fun bt49 => ((laws_heldMoveS.f k bt49.2 1).bind fun t51 => (if t51 < 0 then (some false) else (if t51 = bt49.1 then ((laws_toProg.f k a0_0 l0_1).bind fun bt52 => ((laws_toMachine.f k l1_0 l1_1).bind fun bt56 => ((impl_Moves.f k bt52.1 bt52.2 bt56.1 bt56.2).bind fun t62 => ((laws_eqMoveS.f k t62 t15).bind fun t65 => (if t65 = true then ((laws_heldMoveS.f k bt49.2 1).bind fun t66 => (if t66 < 0 then (some false) else (if t66 = bt49.1 then (some true) else (some false)))) else (some false)))))) else (some false))))) else (some false)))))) else (some false)))) else (some false)) = some r := H
 have A28 := Aside0.mk A280
 clear A280
 by_cases c29 : t38 = true
 rotate_left
 ·replace c29 := Bool.eq_false_iff.mpr c29
  subst c29
  have H1 : (some false) = some r := by rw [if_neg (show ¬ (false = true) by decide)] at H; exact H
  clear H
  have H := H1
  clear H1
  obtain rfl := Option.some.inj H
  exact absurd hr_ (by decide)
 subst c29
 have H1 : ((laws_toMachine.f k l1_0 l1_1).bind fun bt39 => ((laws_eqMachine.f k t23 t26 bt39.1 bt39.2).bind fun t45 => (if t45 = true then ((laws_markProg.f k t18 t19 1).bind fun t46 => ((laws_markMachine.f k t23 t26 t46).bind fun t47 => (if t47 < 0 then (some false) else ((laws_eqMoveS.f k t30 t15).bind fun t48 => (if t48 = true then ((laws_markMoveS.f k t30 1).bind fun bt49 => ((laws_heldMoveS.f k bt49.2 1).bind fun t51 => (if t51 < 0 then (some false) else (if t51 = bt49.1 then ((laws_toProg.f k a0_0 l0_1).bind fun bt52 => ((laws_toMachine.f k l1_0 l1_1).bind fun bt56 => ((impl_Moves.f k bt52.1 bt52.2 bt56.1 bt56.2).bind fun t62 => ((laws_eqMoveS.f k t62 t15).bind fun t65 => (if t65 = true then ((laws_heldMoveS.f k bt49.2 1).bind fun t66 => (if t66 < 0 then (some false) else (if t66 = bt49.1 then (some true) else (some false)))) else (some false)))))) else (some false))))) else (some false)))))) else (some false)))) = some r := by rw [if_pos rfl] at H; exact H
 clear H
 have H := H1
 clear H1
 replace H := Option.bind_eq_some_iff.mp H
 obtain ⟨⟨t39, t42⟩, A300, H⟩ := H
 replace H : ((laws_eqMachine.f k t23 t26 t39 t42).bind fun t45 => (if t45 = true then ((laws_markProg.f k t18 t19 1).bind fun t46 => ((laws_markMachine.f k t23 t26 t46).bind fun t47 => (if t47 < 0 then (some false) else ((laws_eqMoveS.f k t30 t15).bind fun t48 => (if t48 = true then ((laws_markMoveS.f k t30 1).bind fun bt49 => ((laws_heldMoveS.f k bt49.2 1).bind fun t51 => (if t51 < 0 then (some false) else (if t51 = bt49.1 then ((laws_toProg.f k a0_0 l0_1).bind fun bt52 => ((laws_toMachine.f k l1_0 l1_1).bind fun bt56 => ((impl_Moves.f k bt52.1 bt52.2 bt56.1 bt56.2).bind fun t62 => ((laws_eqMoveS.f k t62 t15).bind fun t65 => (if t65 = true then ((laws_heldMoveS.f k bt49.2 1).bind fun t66 => (if t66 < 0 then (some false) else (if t66 = bt49.1 then (some true) else (some false)))) else (some false)))))) else (some false))))) else (some false)))))) else (some false))) = some r := H
 have A30 := Aside0.mk A300
 clear A300
 replace H := Option.bind_eq_some_iff.mp H
 obtain ⟨t45, A310, H⟩ := H
 replace H : (if t45 = true then ((laws_markProg.f k t18 t19 1).bind fun t46 => ((laws_markMachine.f k t23 t26 t46).bind fun t47 => (if t47 < 0 then (some false) else ((laws_eqMoveS.f k t30 t15).bind fun t48 => (if t48 = true then ((laws_markMoveS.f k t30 1).bind fun bt49 => ((laws_heldMoveS.f k bt49.2 1).bind fun t51 => (if t51 < 0 then (some false) else (if t51 = bt49.1 then ((laws_toProg.f k a0_0 l0_1).bind fun bt52 => ((laws_toMachine.f k l1_0 l1_1).bind fun bt56 => ((impl_Moves.f k bt52.1 bt52.2 bt56.1 bt56.2).bind fun t62 => ((laws_eqMoveS.f k t62 t15).bind fun t65 => (if t65 = true then ((laws_heldMoveS.f k bt49.2 1).bind fun t66 => (if t66 < 0 then (some false) else (if t66 = bt49.1 then (some true) else (some false)))) else (some false)))))) else (some false))))) else (some false)))))) else (some false)) = some r := H
 have A31 := Aside0.mk A310
 clear A310
 by_cases c32 : t45 = true
 rotate_left
 ·replace c32 := Bool.eq_false_iff.mpr c32
  subst c32
  have H1 : (some false) = some r := by rw [if_neg (show ¬ (false = true) by decide)] at H; exact H
  clear H
  have H := H1
  clear H1
  obtain rfl := Option.some.inj H
  exact absurd hr_ (by decide)
 subst c32
 have H1 : ((laws_markProg.f k t18 t19 1).bind fun t46 => ((laws_markMachine.f k t23 t26 t46).bind fun t47 => (if t47 < 0 then (some false) else ((laws_eqMoveS.f k t30 t15).bind fun t48 => (if t48 = true then ((laws_markMoveS.f k t30 1).bind fun bt49 => ((laws_heldMoveS.f k bt49.2 1).bind fun t51 => (if t51 < 0 then (some false) else (if t51 = bt49.1 then ((laws_toProg.f k a0_0 l0_1).bind fun bt52 => ((laws_toMachine.f k l1_0 l1_1).bind fun bt56 => ((impl_Moves.f k bt52.1 bt52.2 bt56.1 bt56.2).bind fun t62 => ((laws_eqMoveS.f k t62 t15).bind fun t65 => (if t65 = true then ((laws_heldMoveS.f k bt49.2 1).bind fun t66 => (if t66 < 0 then (some false) else (if t66 = bt49.1 then (some true) else (some false)))) else (some false)))))) else (some false))))) else (some false)))))) = some r := by rw [if_pos rfl] at H; exact H
 clear H
 have H := H1
 clear H1
 replace H := Option.bind_eq_some_iff.mp H
 obtain ⟨t46, A330, H⟩ := H
 replace H : ((laws_markMachine.f k t23 t26 t46).bind fun t47 => (if t47 < 0 then (some false) else ((laws_eqMoveS.f k t30 t15).bind fun t48 => (if t48 = true then ((laws_markMoveS.f k t30 1).bind fun bt49 => ((laws_heldMoveS.f k bt49.2 1).bind fun t51 => (if t51 < 0 then (some false) else (if t51 = bt49.1 then ((laws_toProg.f k a0_0 l0_1).bind fun bt52 => ((laws_toMachine.f k l1_0 l1_1).bind fun bt56 => ((impl_Moves.f k bt52.1 bt52.2 bt56.1 bt56.2).bind fun t62 => ((laws_eqMoveS.f k t62 t15).bind fun t65 => (if t65 = true then ((laws_heldMoveS.f k bt49.2 1).bind fun t66 => (if t66 < 0 then (some false) else (if t66 = bt49.1 then (some true) else (some false)))) else (some false)))))) else (some false))))) else (some false))))) = some r := H
 have A33 := Aside0.mk A330
 clear A330
 replace H := Option.bind_eq_some_iff.mp H
 obtain ⟨t47, A340, H⟩ := H
 replace H : (if t47 < 0 then (some false) else ((laws_eqMoveS.f k t30 t15).bind fun t48 => (if t48 = true then ((laws_markMoveS.f k t30 1).bind fun bt49 => ((laws_heldMoveS.f k bt49.2 1).bind fun t51 => (if t51 < 0 then (some false) else (if t51 = bt49.1 then ((laws_toProg.f k a0_0 l0_1).bind fun bt52 => ((laws_toMachine.f k l1_0 l1_1).bind fun bt56 => ((impl_Moves.f k bt52.1 bt52.2 bt56.1 bt56.2).bind fun t62 => ((laws_eqMoveS.f k t62 t15).bind fun t65 => (if t65 = true then ((laws_heldMoveS.f k bt49.2 1).bind fun t66 => (if t66 < 0 then (some false) else (if t66 = bt49.1 then (some true) else (some false)))) else (some false)))))) else (some false))))) else (some false)))) = some r := H
 have A34 := Aside0.mk A340
 clear A340
 by_cases c35 : t47 < 0
 ·rw [if_pos c35] at H
  have c35b0 : decide (t47 < 0) = true := decide_eq_true c35
  clear c35
  obtain rfl := Option.some.inj H
  exact absurd hr_ (by decide)
 rw [if_neg c35] at H
 have c35b0 : decide (t47 < 0) = false := decide_eq_false c35
 clear c35
 replace H := Option.bind_eq_some_iff.mp H
 obtain ⟨t48, A840, H⟩ := H
 replace H : (if t48 = true then ((laws_markMoveS.f k t30 1).bind fun bt49 => ((laws_heldMoveS.f k bt49.2 1).bind fun t51 => (if t51 < 0 then (some false) else (if t51 = bt49.1 then ((laws_toProg.f k a0_0 l0_1).bind fun bt52 => ((laws_toMachine.f k l1_0 l1_1).bind fun bt56 => ((impl_Moves.f k bt52.1 bt52.2 bt56.1 bt56.2).bind fun t62 => ((laws_eqMoveS.f k t62 t15).bind fun t65 => (if t65 = true then ((laws_heldMoveS.f k bt49.2 1).bind fun t66 => (if t66 < 0 then (some false) else (if t66 = bt49.1 then (some true) else (some false)))) else (some false)))))) else (some false))))) else (some false)) = some r := H
 have A84 := Aside0.mk A840
 clear A840
 by_cases c85 : t48 = true
 rotate_left
 ·replace c85 := Bool.eq_false_iff.mpr c85
  subst c85
  have H1 : (some false) = some r := by rw [if_neg (show ¬ (false = true) by decide)] at H; exact H
  clear H
  have H := H1
  clear H1
  obtain rfl := Option.some.inj H
  exact absurd hr_ (by decide)
 subst c85
 have H1 : ((laws_markMoveS.f k t30 1).bind fun bt49 => ((laws_heldMoveS.f k bt49.2 1).bind fun t51 => (if t51 < 0 then (some false) else (if t51 = bt49.1 then ((laws_toProg.f k a0_0 l0_1).bind fun bt52 => ((laws_toMachine.f k l1_0 l1_1).bind fun bt56 => ((impl_Moves.f k bt52.1 bt52.2 bt56.1 bt56.2).bind fun t62 => ((laws_eqMoveS.f k t62 t15).bind fun t65 => (if t65 = true then ((laws_heldMoveS.f k bt49.2 1).bind fun t66 => (if t66 < 0 then (some false) else (if t66 = bt49.1 then (some true) else (some false)))) else (some false)))))) else (some false))))) = some r := by rw [if_pos rfl] at H; exact H
 clear H
 have H := H1
 clear H1
 replace H := Option.bind_eq_some_iff.mp H
 obtain ⟨⟨t49, t50⟩, A860, H⟩ := H
 replace H : ((laws_heldMoveS.f k t50 1).bind fun t51 => (if t51 < 0 then (some false) else (if t51 = t49 then ((laws_toProg.f k a0_0 l0_1).bind fun bt52 => ((laws_toMachine.f k l1_0 l1_1).bind fun bt56 => ((impl_Moves.f k bt52.1 bt52.2 bt56.1 bt56.2).bind fun t62 => ((laws_eqMoveS.f k t62 t15).bind fun t65 => (if t65 = true then ((laws_heldMoveS.f k t50 1).bind fun t66 => (if t66 < 0 then (some false) else (if t66 = t49 then (some true) else (some false)))) else (some false)))))) else (some false)))) = some r := H
 have A86 := Aside0.mk A860
 clear A860
 replace H := Option.bind_eq_some_iff.mp H
 obtain ⟨t51, A870, H⟩ := H
 replace H : (if t51 < 0 then (some false) else (if t51 = t49 then ((laws_toProg.f k a0_0 l0_1).bind fun bt52 => ((laws_toMachine.f k l1_0 l1_1).bind fun bt56 => ((impl_Moves.f k bt52.1 bt52.2 bt56.1 bt56.2).bind fun t62 => ((laws_eqMoveS.f k t62 t15).bind fun t65 => (if t65 = true then ((laws_heldMoveS.f k t50 1).bind fun t66 => (if t66 < 0 then (some false) else (if t66 = t49 then (some true) else (some false)))) else (some false)))))) else (some false))) = some r := H
 have A87 := Aside0.mk A870
 clear A870
 by_cases c88 : t51 < 0
 ·rw [if_pos c88] at H
  have c88b0 : decide (t51 < 0) = true := decide_eq_true c88
  clear c88
  obtain rfl := Option.some.inj H
  exact absurd hr_ (by decide)
 rw [if_neg c88] at H
 have c88b0 : decide (t51 < 0) = false := decide_eq_false c88
 clear c88
 by_cases c139 : t51 = t49
 rotate_left
 ·rw [if_neg c139] at H
  have c139b0 : (t51 == t49) = false := beq_eq_false_iff_ne.mpr c139
  have c139b1 : (t51 != t49) = true := bne_iff_ne.mpr c139
  obtain rfl := Option.some.inj H
  exact absurd hr_ (by decide)
 rw [if_pos c139] at H
 have c139b0 : (t51 == t49) = true := beq_iff_eq.mpr c139
 have c139b1 : (t51 != t49) = false := bne_eq_false_iff_eq.mpr c139
 clear c139
 replace H := Option.bind_eq_some_iff.mp H
 obtain ⟨⟨t52, t53⟩, A1400, H⟩ := H
 replace H : ((laws_toMachine.f k l1_0 l1_1).bind fun bt56 => ((impl_Moves.f k t52 t53 bt56.1 bt56.2).bind fun t62 => ((laws_eqMoveS.f k t62 t15).bind fun t65 => (if t65 = true then ((laws_heldMoveS.f k t50 1).bind fun t66 => (if t66 < 0 then (some false) else (if t66 = t49 then (some true) else (some false)))) else (some false))))) = some r := H
 have A140 := Aside0.mk A1400
 clear A1400
 replace H := Option.bind_eq_some_iff.mp H
 obtain ⟨⟨t56, t59⟩, A1410, H⟩ := H
 replace H : ((impl_Moves.f k t52 t53 t56 t59).bind fun t62 => ((laws_eqMoveS.f k t62 t15).bind fun t65 => (if t65 = true then ((laws_heldMoveS.f k t50 1).bind fun t66 => (if t66 < 0 then (some false) else (if t66 = t49 then (some true) else (some false)))) else (some false)))) = some r := H
 have A141 := Aside0.mk A1410
 clear A1410
 replace H := Option.bind_eq_some_iff.mp H
 obtain ⟨t62, A1420, H⟩ := H
 replace H : ((laws_eqMoveS.f k t62 t15).bind fun t65 => (if t65 = true then ((laws_heldMoveS.f k t50 1).bind fun t66 => (if t66 < 0 then (some false) else (if t66 = t49 then (some true) else (some false)))) else (some false))) = some r := H
 have A142 := Aside0.mk A1420
 clear A1420
 replace H := Option.bind_eq_some_iff.mp H
 obtain ⟨t65, A1430, H⟩ := H
 replace H : (if t65 = true then ((laws_heldMoveS.f k t50 1).bind fun t66 => (if t66 < 0 then (some false) else (if t66 = t49 then (some true) else (some false)))) else (some false)) = some r := H
 have A143 := Aside0.mk A1430
 clear A1430
 by_cases c144 : t65 = true
 rotate_left
 ·replace c144 := Bool.eq_false_iff.mpr c144
  subst c144
  have H1 : (some false) = some r := by rw [if_neg (show ¬ (false = true) by decide)] at H; exact H
  clear H
  have H := H1
  clear H1
  obtain rfl := Option.some.inj H
  exact absurd hr_ (by decide)
 subst c144
 have H1 : ((laws_heldMoveS.f k t50 1).bind fun t66 => (if t66 < 0 then (some false) else (if t66 = t49 then (some true) else (some false)))) = some r := by rw [if_pos rfl] at H; exact H
 clear H
 have H := H1
 clear H1
 replace H := Option.bind_eq_some_iff.mp H
 obtain ⟨t66, A1450, H⟩ := H
 replace H : (if t66 < 0 then (some false) else (if t66 = t49 then (some true) else (some false))) = some r := H
 have A145 := Aside0.mk A1450
 clear A1450
 by_cases c146 : t66 < 0
 ·rw [if_pos c146] at H
  have c146b0 : decide (t66 < 0) = true := decide_eq_true c146
  clear c146
  obtain rfl := Option.some.inj H
  exact absurd hr_ (by decide)
 rw [if_neg c146] at H
 have c146b0 : decide (t66 < 0) = false := decide_eq_false c146
 clear c146
 by_cases c206 : t66 = t49
 rotate_left
 ·rw [if_neg c206] at H
  have c206b0 : (t66 == t49) = false := beq_eq_false_iff_ne.mpr c206
  have c206b1 : (t66 != t49) = true := bne_iff_ne.mpr c206
  obtain rfl := Option.some.inj H
  exact absurd hr_ (by decide)
 rw [if_pos c206] at H
 have c206b0 : (t66 == t49) = true := beq_iff_eq.mpr c206
 have c206b1 : (t66 != t49) = false := bne_eq_false_iff_eq.mpr c206
 clear c206
 obtain rfl := Option.some.inj H
 clear hr_
 go_enter Try.func9, Try.ntmps9
 try go_wp2_with (first | ((with_reducible refine gate_dst (N := 2) rfl ?_); refine box_event ?hg (N := 2) ?hd (cs := #[.int .i64 a0_0, .slice A0_1 l0_1.length c0_1]) (t := 35) ?hr ?_; (case hd => rfl); (case hg => rfl); (case hr => exact hr_); intro gb1 hg w207 hbox hb; have n0_ := bs_ hb; have n1_ := Aside0.mk (hbox); have n2_ := ge_ (w := w) hg; have n3_ := ge_ (w := w) hg; clear HB; have HB := n0_; have BK1 := n1_; have GW1 := n2_; have GE1 := n3_; clear n0_ n1_ n2_ n3_; clear hb hbox hg) | ((with_reducible refine gate_dst (N := 3) rfl ?_); refine box_event ?hg (N := 3) ?hd (cs := #[.slice A1_0 l1_0.length c1_0, .slice A1_1 l1_1.length c1_1]) (t := 72) ?hr ?_; (case hd => rfl); (case hg => rfl); (case hr => exact hr_); intro gb2 hg w208 hbox hb; have n0_ := bb_ BK1.out hb; have n1_ := bs_ hb; have n2_ := Aside0.mk (hbox); have n3_ := ge_ (w := w) hg; have n4_ := ge_ (w := w) hg; have n5_ := nl_ BK1.out hg; have n6_ := nr_ BK1.out hg; clear BK1; clear HB; have BK1 := n0_; have HB := n1_; have BK2 := n2_; have GW2 := n3_; have GE2 := n4_; have NB1_2 := n5_; have NB2_1 := n6_; clear n0_ n1_ n2_ n3_ n4_ n5_ n6_; clear hb hbox hg; have hnb209 := NB1_2.out; have hnc209 := NB2_1.out; obtain ⟨hcz210_0, hcz210_1, hfz210_0, hfz210_1⟩ := bc2_ BK1.out) | ((with_reducible refine gate_callee (f := 19) rfl ?_); refine goesL_ (some 16) rfl rfl Try.func19 (by kernel_rfl) rfl #[.agg #[.int .i64 a0_0, .slice A0_1 l0_1.length c0_1], .int .i64 1048576] rfl ar_ ?_; (with_reducible refine (laws_szProg.calls k a0_0 _ _ l0_1 1048576 t3 _ ?side1 ?side2 A3.out).mono ?_); (case side1 => exact cb_); (case side2 => exact HC0_1.out); rintro e w211 ⟨rfl, hb⟩; refine ⟨_, rfl, ?_⟩; have n0_ := bb_ BK1.out hb; have n1_ := bb_ BK2.out hb; have n2_ := bs_ hb; clear BK1; clear BK2; clear HB; have BK1 := n0_; have BK2 := n1_; have HB := n2_; clear n0_ n1_ n2_; (try clear hb); (try clear hb2); (try clear hk); (try clear hi); obtain ⟨hcz212_0, hcz212_1, hfz212_0, hfz212_1⟩ := bc2_ BK2.out) | ((with_reducible refine gate_callee (f := 44) rfl ?_); refine goesL_ (some 21) rfl rfl Try.func44 (by kernel_rfl) rfl #[.agg #[.slice A1_0 l1_0.length c1_0, .slice A1_1 l1_1.length c1_1], .int .i64 t3] rfl ar_ ?_; (with_reducible refine (laws_szMachine.calls k _ _ l1_0 _ _ l1_1 t3 t4 _ ?side1 ?side2 ?side3 ?side4 A10.out).mono ?_); (case side1 => exact cb_); (case side2 => exact HC1_0.out); (case side3 => exact cb_); (case side4 => exact HC1_1.out); rintro e w213 ⟨rfl, hb⟩; refine ⟨_, rfl, ?_⟩; have n0_ := bb_ BK1.out hb; have n1_ := bb_ BK2.out hb; have n2_ := bs_ hb; clear BK1; clear BK2; clear HB; have BK1 := n0_; have BK2 := n1_; have HB := n2_; clear n0_ n1_ n2_; (try clear hb); (try clear hb2); (try clear hk); (try clear hi)))
 have n0_ := Aside0.mk (blk_drew BK1.out)
 have n1_ := Aside0.mk (blk_drew BK2.out)
 have n2_ := Aside0.mk (below_drew1 HB.out)
 clear BK1
 clear BK2
 clear HB
 have BK1 := n0_
 have BK2 := n1_
 have HB := n2_
 clear n0_ n1_ n2_
 refine start_ (n := 6) (S := fun w' => w'.cell? ⟨gb1, 0, none⟩ = some (.int .i64 a0_0) ∧ w'.cell? ⟨gb1, 1, none⟩ = some (.slice A0_1 l0_1.length c0_1) ∧ w'.cell? ⟨gb2, 0, none⟩ = some (.slice A1_0 l1_0.length c1_0) ∧ w'.cell? ⟨gb2, 1, none⟩ = some (.slice A1_1 l1_1.length c1_1)) (ds := []) #[false, false, false, false, false, false] (by kernel_rfl) rfl rfl ⟨(blk_cell BK1.out 0).trans rfl, (blk_cell BK1.out 1).trans rfl, (blk_cell BK2.out 0).trans rfl, (blk_cell BK2.out 1).trans rfl⟩ (fun hHeld => ?_)
 generalize w213.drew = w214 at BK1 BK2 HB hHeld ⊢
 refine take_ (i := 0) (N := some 24) (v := ?_) (a' := ?_) (bm_ 6 1) rfl rfl (by kernel_rfl) (fun _ _ _ h => h) (Or.inl ⟨by rfl, ?_⟩) hHeld ?_ ?_
 rotate_left
 ·rintro w' ⟨s0, s1, s2, s3⟩
  go_simp
  with_reducible rfl
 rotate_left
 ·exact pu_
 refine take_ (i := 2) (N := some 26) (v := ?_) (a' := ?_) (bm_ 6 5) rfl rfl (by kernel_rfl) (fun _ _ _ h => h) (Or.inl ⟨by rfl, ?_⟩) hHeld ?_ ?_
 rotate_left
 ·rintro w' ⟨s0, s1, s2, s3⟩
  go_simp
  with_reducible rfl
 rotate_left
 ·exact pu_
 refine one_ (i := 1) (N := some 25) (bm_ 6 7) rfl rfl (by kernel_rfl) (by decide) (fun K hK => ?_)
 refine goes_ Try.func21 (by kernel_rfl) rfl #[.agg #[.int .i64 a0_0, .slice A0_1 l0_1.length c0_1]] (by rfl) rfl rfl ar_ ?_
 with_reducible refine (laws_toProg.calls k a0_0 _ _ l0_1 t5 t6 _ ?side1 ?side2 A19.out).mono ?_
 (case side1 => exact cb_)
 (case side2 => exact HC0_1.out)
 rintro e w215 ⟨v7, rfl, ho0, hb⟩
 refine ⟨_, rfl, ?_⟩
 have n0_ := Aside0.mk (Kd.S_fresh ho0 (below_size bw_))
 have n1_ := bb_ BK1.out hb
 have n2_ := bb_ BK2.out hb
 have n3_ := bs_ hb
 clear BK1
 clear BK2
 clear HB
 have HO8 := n0_
 have BK1 := n1_
 have BK2 := n2_
 have HB := n3_
 clear n0_ n1_ n2_ n3_
 (try clear hb)
 (try clear hb2)
 (try clear hk)
 (try clear hi)
 (try clear ho0)
 refine hK.out _ _ ⟨(blk_cell BK1.out 0).trans rfl, (blk_cell BK1.out 1).trans rfl, (blk_cell BK2.out 0).trans rfl, (blk_cell BK2.out 1).trans rfl⟩ (fun hHeld => ?_)
 clear hK K
 refine norm_ (a' := ?_) ?_ ?_
 rotate_left
 ·show Act.put _ (some 25) _ = _
  simp only [Act.put, List.setIfInBounds_toArray, List.set_cons_zero, List.set_cons_succ, i64_w, i32_w]
  rfl
 refine one_ (i := 3) (N := some 27) (bm_ 6 15) rfl rfl (by kernel_rfl) (by decide) (fun K hK => ?_)
 refine goes_ Try.func46 (by kernel_rfl) rfl #[.agg #[.slice A1_0 l1_0.length c1_0, .slice A1_1 l1_1.length c1_1]] (by rfl) rfl rfl ar_ ?_
 with_reducible refine (laws_toMachine.calls k _ _ l1_0 _ _ l1_1 t9 t12 _ ?side1 ?side2 ?side3 ?side4 A20.out).mono ?_
 (case side1 => exact cb_)
 (case side2 => exact HC1_0.out)
 (case side3 => exact cb_)
 (case side4 => exact HC1_1.out)
 rintro e w216 ⟨v10, v13, rfl, ho0, ho1, hb⟩
 refine ⟨_, rfl, ?_⟩
 have n0_ := Aside0.mk (Kd.S_young (sx_ HO8.out) hb)
 have n1_ := Aside0.mk (Kd.R_fresh ho0 (below_size bw_))
 have n2_ := Aside0.mk (Kd.S_fresh ho1 (below_size bw_))
 have n3_ := bb_ BK1.out hb
 have n4_ := bb_ BK2.out hb
 have n5_ := bs_ hb
 clear HO8
 clear BK1
 clear BK2
 clear HB
 have HO8 := n0_
 have HO11 := n1_
 have HO14 := n2_
 have BK1 := n3_
 have BK2 := n4_
 have HB := n5_
 clear n0_ n1_ n2_ n3_ n4_ n5_
 (try clear hb)
 (try clear hb2)
 (try clear hk)
 (try clear hi)
 (try clear ho0)
 (try clear ho1)
 obtain ⟨Ao217, co217, eo217⟩ := Kd.S_slice HO8.out
 (first | subst eo217 | (injection eo217 with f1_ f2_ f3_; have f4_ := f1_.symm; have f5_ := f3_.symm; clear f1_ f2_ f3_; subst f4_; subst f5_))
 obtain ⟨Ao218, co218, eo218⟩ := Kd.R_slice HO11.out
 (first | subst eo218 | (injection eo218 with f1_ f2_ f3_; have f4_ := f1_.symm; have f5_ := f3_.symm; clear f1_ f2_ f3_; subst f4_; subst f5_))
 obtain ⟨Ao219, co219, eo219⟩ := Kd.S_slice HO14.out
 (first | subst eo219 | (injection eo219 with f1_ f2_ f3_; have f4_ := f1_.symm; have f5_ := f3_.symm; clear f1_ f2_ f3_; subst f4_; subst f5_))
 refine hK.out _ _ ⟨(blk_cell BK1.out 0).trans rfl, (blk_cell BK1.out 1).trans rfl, (blk_cell BK2.out 0).trans rfl, (blk_cell BK2.out 1).trans rfl⟩ (fun hHeld => ?_)
 clear hK K
 refine norm_ (a' := ?_) ?_ ?_
 rotate_left
 ·show Act.put _ (some 27) _ = _
  simp only [Act.put, List.setIfInBounds_toArray, List.set_cons_zero, List.set_cons_succ, i64_w, i32_w]
  rfl
 refine one_ (i := 4) (N := some 28) (bm_ 6 31) rfl rfl (by kernel_rfl) (by decide) (fun K hK => ?_)
 refine goes_ Try.func45 (by kernel_rfl) rfl #[.agg #[.int .i64 t5, .slice Ao217 t6.length co217], .agg #[.slice Ao218 t9.length co218, .slice Ao219 t12.length co219]] (by rfl) rfl rfl ar_ ?_
 with_reducible refine (spec_Moves.calls k t5 _ _ t6 _ _ t9 _ _ t12 t15 _ ?side1 ?side2 ?side3 ?side4 ?side5 ?side6 A21.out).mono ?_
 (case side1 => repeat (first | exact (Kd.S_reads' HO8.out).2.2 | (with_reducible refine Kd.C_alloc ?_ _) | (with_reducible refine Kd.C_drewN ?_ _) | (with_reducible refine Kd.C_drew ?_)))
 (case side2 => exact (Kd.S_reads' HO8.out).2.1)
 (case side3 => repeat (first | exact (Kd.R_reads' HO11.out).2.2 | (with_reducible refine Kd.C_alloc ?_ _) | (with_reducible refine Kd.C_drewN ?_ _) | (with_reducible refine Kd.C_drew ?_)))
 (case side4 => exact (Kd.R_reads' HO11.out).2.1)
 (case side5 => repeat (first | exact (Kd.S_reads' HO14.out).2.2 | (with_reducible refine Kd.C_alloc ?_ _) | (with_reducible refine Kd.C_drewN ?_ _) | (with_reducible refine Kd.C_drew ?_)))
 (case side6 => exact (Kd.S_reads' HO14.out).2.1)
 rintro e w220 ⟨v16, rfl, ho0, hb⟩
 refine ⟨_, rfl, ?_⟩
 have n0_ := Aside0.mk (Kd.S_young (sx_ HO8.out) hb)
 have n1_ := Aside0.mk (Kd.R_young (rx_ HO11.out) hb)
 have n2_ := Aside0.mk (Kd.S_young (sx_ HO14.out) hb)
 have n3_ := Aside0.mk (Kd.R_fresh ho0 (below_size bw_))
 have n4_ := bb_ BK1.out hb
 have n5_ := bb_ BK2.out hb
 have n6_ := bs_ hb
 clear HO8
 clear HO11
 clear HO14
 clear BK1
 clear BK2
 clear HB
 have HO8 := n0_
 have HO11 := n1_
 have HO14 := n2_
 have HO17 := n3_
 have BK1 := n4_
 have BK2 := n5_
 have HB := n6_
 clear n0_ n1_ n2_ n3_ n4_ n5_ n6_
 (try clear hb)
 (try clear hb2)
 (try clear hk)
 (try clear hi)
 (try clear ho0)
 refine hK.out _ _ ⟨(blk_cell BK1.out 0).trans rfl, (blk_cell BK1.out 1).trans rfl, (blk_cell BK2.out 0).trans rfl, (blk_cell BK2.out 1).trans rfl⟩ (fun hHeld => ?_)
 clear hK K
 refine norm_ (a' := ?_) ?_ ?_
 rotate_left
 ·show Act.put _ (some 28) _ = _
  simp only [Act.put, List.setIfInBounds_toArray, List.set_cons_zero, List.set_cons_succ, i64_w, i32_w]
  rfl
 refine pure_ (i := 5) (N := some 6) (v := ?_) (a' := ?_) (bm_ 6 63) rfl rfl (by kernel_rfl) (fun _ _ _ h => h) (Or.inl ⟨by rfl, ?_⟩) ?_ ?_
 rotate_left
 ·intro w'
  go_simp
  with_reducible rfl
 rotate_left
 ·exact pu_
 refine done_ (by kernel_rfl) ?_
 obtain ⟨hcz221_0, hcz221_1, hfz221_0, hfz221_1⟩ := bc2_ BK1.out
 try go_wp2_with (first | ((with_reducible refine gate_callee (f := 21) rfl ?_); refine goesL_ (some 30) rfl rfl Try.func21 (by kernel_rfl) rfl #[.agg #[.int .i64 a0_0, .slice A0_1 l0_1.length c0_1]] rfl ar_ ?_; (with_reducible refine (laws_toProg.calls k a0_0 _ _ l0_1 t18 t19 _ ?side1 ?side2 A22.out).mono ?_); (case side1 => exact cb_); (case side2 => exact HC0_1.out); rintro e w222 ⟨v20, rfl, ho0, hb⟩; refine ⟨_, rfl, ?_⟩; have n0_ := Aside0.mk (Kd.S_young (sx_ HO8.out) hb); have n1_ := Aside0.mk (Kd.R_young (rx_ HO11.out) hb); have n2_ := Aside0.mk (Kd.S_young (sx_ HO14.out) hb); have n3_ := Aside0.mk (Kd.R_young (rx_ HO17.out) hb); have n4_ := Aside0.mk (Kd.S_fresh ho0 (below_size bw_)); have n5_ := bb_ BK1.out hb; have n6_ := bb_ BK2.out hb; have n7_ := bs_ hb; clear HO8; clear HO11; clear HO14; clear HO17; clear BK1; clear BK2; clear HB; have HO8 := n0_; have HO11 := n1_; have HO14 := n2_; have HO17 := n3_; have HO21 := n4_; have BK1 := n5_; have BK2 := n6_; have HB := n7_; clear n0_ n1_ n2_ n3_ n4_ n5_ n6_ n7_; (try clear hb); (try clear hb2); (try clear hk); (try clear hi); (try clear ho0)) | ((with_reducible refine gate_dst (N := 7) rfl ?_); refine box_event ?hg (N := 7) ?hd (cs := #[.int .i64 0, .slice none 0 0]) (t := 39) ?hr ?_; (case hd => rfl); (case hg => rfl); (case hr => exact hr_); intro gb22 hg w223 hbox hb; have n0_ := Aside0.mk (Kd.S_below (sx_ HO8.out) hb); have n1_ := Aside0.mk (Kd.R_below (rx_ HO11.out) hb); have n2_ := Aside0.mk (Kd.S_below (sx_ HO14.out) hb); have n3_ := Aside0.mk (Kd.R_below (rx_ HO17.out) hb); have n4_ := Aside0.mk (Kd.S_below (sx_ HO21.out) hb); have n5_ := bb_ BK1.out hb; have n6_ := bb_ BK2.out hb; have n7_ := bs_ hb; have n8_ := Aside0.mk (hbox); have n9_ := ge_ (w := w) hg; have n10_ := ge_ (w := w) hg; have n11_ := nl_ BK1.out hg; have n12_ := nr_ BK1.out hg; have n13_ := nl_ BK2.out hg; have n14_ := nr_ BK2.out hg; clear HO8; clear HO11; clear HO14; clear HO17; clear HO21; clear BK1; clear BK2; clear HB; have HO8 := n0_; have HO11 := n1_; have HO14 := n2_; have HO17 := n3_; have HO21 := n4_; have BK1 := n5_; have BK2 := n6_; have HB := n7_; have BK22 := n8_; have GW22 := n9_; have GE22 := n10_; have NB1_22 := n11_; have NB22_1 := n12_; have NB2_22 := n13_; have NB22_2 := n14_; clear n0_ n1_ n2_ n3_ n4_ n5_ n6_ n7_ n8_ n9_ n10_ n11_ n12_ n13_ n14_; clear hb hbox hg; have hnb224 := NB22_1.out; have hnc224 := NB1_22.out; have hnb225 := NB22_2.out; have hnc225 := NB2_22.out; obtain ⟨hcz226_0, hcz226_1, hfz226_0, hfz226_1⟩ := bc2_ BK22.out; obtain ⟨Ao227, co227, eo227⟩ := Kd.S_slice HO21.out; subst eo227; obtain ⟨hcz228_0, hcz228_1, hfz228_0, hfz228_1⟩ := bc2_ BK2.out) | ((with_reducible refine gate_callee (f := 46) rfl ?_); refine goesL_ (some 32) rfl rfl Try.func46 (by kernel_rfl) rfl #[.agg #[.slice A1_0 l1_0.length c1_0, .slice A1_1 l1_1.length c1_1]] rfl ar_ ?_; (with_reducible refine (laws_toMachine.calls k _ _ l1_0 _ _ l1_1 t23 t26 _ ?side1 ?side2 ?side3 ?side4 A23.out).mono ?_); (case side1 => exact Kd.C_below HR1_0.out bw_); (case side2 => exact HC1_0.out); (case side3 => exact Kd.C_below HR1_1.out bw_); (case side4 => exact HC1_1.out); rintro e w229 ⟨v24, v27, rfl, ho0, ho1, hb⟩; refine ⟨_, rfl, ?_⟩; have n0_ := Aside0.mk (Kd.S_young (by (with_reducible repeat (first | apply Kd.S_alloc | apply Kd.S_drewN | apply Kd.S_drew)); exact (Kd.S_mono (Kd.S_far (p := ⟨gb22, 1, none⟩) (Kd.S_far (p := ⟨gb22, 0, none⟩) (Kd.S_types HO8.out BK22.out (by decide)) (fun _ hk => hk.2) (.int .i64 t18)) (fun _ hk => hk.2) (.slice Ao227 t19.length co227)) (fun _ h_ => h_.1))) hb); have n1_ := Aside0.mk (Kd.R_young (by (with_reducible repeat (first | apply Kd.R_alloc | apply Kd.R_drewN | apply Kd.R_drew)); exact (Kd.R_mono (Kd.R_far (p := ⟨gb22, 1, none⟩) (Kd.R_far (p := ⟨gb22, 0, none⟩) (Kd.R_types HO11.out BK22.out (by decide)) (fun _ hk => hk.2) (.int .i64 t18)) (fun _ hk => hk.2) (.slice Ao227 t19.length co227)) (fun _ h_ => h_.1))) hb); have n2_ := Aside0.mk (Kd.S_young (by (with_reducible repeat (first | apply Kd.S_alloc | apply Kd.S_drewN | apply Kd.S_drew)); exact (Kd.S_mono (Kd.S_far (p := ⟨gb22, 1, none⟩) (Kd.S_far (p := ⟨gb22, 0, none⟩) (Kd.S_types HO14.out BK22.out (by decide)) (fun _ hk => hk.2) (.int .i64 t18)) (fun _ hk => hk.2) (.slice Ao227 t19.length co227)) (fun _ h_ => h_.1))) hb); have n3_ := Aside0.mk (Kd.R_young (by (with_reducible repeat (first | apply Kd.R_alloc | apply Kd.R_drewN | apply Kd.R_drew)); exact (Kd.R_mono (Kd.R_far (p := ⟨gb22, 1, none⟩) (Kd.R_far (p := ⟨gb22, 0, none⟩) (Kd.R_types HO17.out BK22.out (by decide)) (fun _ hk => hk.2) (.int .i64 t18)) (fun _ hk => hk.2) (.slice Ao227 t19.length co227)) (fun _ h_ => h_.1))) hb); have n4_ := Aside0.mk (Kd.S_young (by (with_reducible repeat (first | apply Kd.S_alloc | apply Kd.S_drewN | apply Kd.S_drew)); exact (Kd.S_mono (Kd.S_far (p := ⟨gb22, 1, none⟩) (Kd.S_far (p := ⟨gb22, 0, none⟩) (Kd.S_types HO21.out BK22.out (by decide)) (fun _ hk => hk.2) (.int .i64 t18)) (fun _ hk => hk.2) (.slice Ao227 t19.length co227)) (fun _ h_ => h_.1))) hb); have n5_ := Aside0.mk (Kd.R_fresh ho0 (below_size bw_)); have n6_ := Aside0.mk (Kd.S_fresh ho1 (below_size bw_)); have n7_ := Aside0.mk (blk_below (g := gb1) (o := .cells #[.int .i64 a0_0, .slice A0_1 l0_1.length c0_1] 35 (0, 0)) (by (with_reducible repeat (first | refine blk_drewN ?_ _ | refine blk_drew ?_ | refine blk_alloc ?_ _)); refine blk_far ?_ NB1_22.out _; (with_reducible repeat (first | refine blk_drewN ?_ _ | refine blk_drew ?_ | refine blk_alloc ?_ _)); refine blk_far ?_ NB1_22.out _; (with_reducible repeat (first | refine blk_drewN ?_ _ | refine blk_drew ?_ | refine blk_alloc ?_ _)); exact BK1.out) hb); have n8_ := Aside0.mk (blk_below (g := gb2) (o := .cells #[.slice A1_0 l1_0.length c1_0, .slice A1_1 l1_1.length c1_1] 72 (0, 0)) (by (with_reducible repeat (first | refine blk_drewN ?_ _ | refine blk_drew ?_ | refine blk_alloc ?_ _)); refine blk_far ?_ NB2_22.out _; (with_reducible repeat (first | refine blk_drewN ?_ _ | refine blk_drew ?_ | refine blk_alloc ?_ _)); refine blk_far ?_ NB2_22.out _; (with_reducible repeat (first | refine blk_drewN ?_ _ | refine blk_drew ?_ | refine blk_alloc ?_ _)); exact BK2.out) hb); have n9_ := Aside0.mk (blk_below (g := gb22) (o := .cells #[.int .i64 t18, .slice Ao227 t19.length co227] 39 (0, 0)) (by (with_reducible repeat (first | refine blk_drewN ?_ _ | refine blk_drew ?_ | refine blk_alloc ?_ _)); refine blk_put (cs := #[.int .i64 t18, .slice none 0 0]) ?_ 1 _ rfl; (with_reducible repeat (first | refine blk_drewN ?_ _ | refine blk_drew ?_ | refine blk_alloc ?_ _)); refine blk_put (cs := #[.int .i64 0, .slice none 0 0]) ?_ 0 _ rfl; (with_reducible repeat (first | refine blk_drewN ?_ _ | refine blk_drew ?_ | refine blk_alloc ?_ _)); exact BK22.out) hb); have n10_ := bs_ hb; clear HO8; clear HO11; clear HO14; clear HO17; clear HO21; clear BK1; clear BK2; clear BK22; clear HB; have HO8 := n0_; have HO11 := n1_; have HO14 := n2_; have HO17 := n3_; have HO21 := n4_; have HO25 := n5_; have HO28 := n6_; have BK1 := n7_; have BK2 := n8_; have BK22 := n9_; have HB := n10_; clear n0_ n1_ n2_ n3_ n4_ n5_ n6_ n7_ n8_ n9_ n10_; (try clear hb); (try clear hb2); (try clear hk); (try clear hi); (try clear ho0); (try clear ho1)) | ((with_reducible refine gate_dst (N := 8) rfl ?_); refine box_event ?hg (N := 8) ?hd (cs := #[.slice none 0 0, .slice none 0 0]) (t := 54) ?hr ?_; (case hd => rfl); (case hg => rfl); (case hr => exact hr_); intro gb29 hg w230 hbox hb; have n0_ := Aside0.mk (Kd.S_below (sx_ HO8.out) hb); have n1_ := Aside0.mk (Kd.R_below (rx_ HO11.out) hb); have n2_ := Aside0.mk (Kd.S_below (sx_ HO14.out) hb); have n3_ := Aside0.mk (Kd.R_below (rx_ HO17.out) hb); have n4_ := Aside0.mk (Kd.S_below (sx_ HO21.out) hb); have n5_ := Aside0.mk (Kd.R_below (rx_ HO25.out) hb); have n6_ := Aside0.mk (Kd.S_below (sx_ HO28.out) hb); have n7_ := bb_ BK1.out hb; have n8_ := bb_ BK2.out hb; have n9_ := bb_ BK22.out hb; have n10_ := bs_ hb; have n11_ := Aside0.mk (hbox); have n12_ := ge_ (w := w) hg; have n13_ := ge_ (w := w) hg; have n14_ := nl_ BK1.out hg; have n15_ := nr_ BK1.out hg; have n16_ := nl_ BK2.out hg; have n17_ := nr_ BK2.out hg; have n18_ := nl_ BK22.out hg; have n19_ := nr_ BK22.out hg; clear HO8; clear HO11; clear HO14; clear HO17; clear HO21; clear HO25; clear HO28; clear BK1; clear BK2; clear BK22; clear HB; have HO8 := n0_; have HO11 := n1_; have HO14 := n2_; have HO17 := n3_; have HO21 := n4_; have HO25 := n5_; have HO28 := n6_; have BK1 := n7_; have BK2 := n8_; have BK22 := n9_; have HB := n10_; have BK29 := n11_; have GW29 := n12_; have GE29 := n13_; have NB1_29 := n14_; have NB29_1 := n15_; have NB2_29 := n16_; have NB29_2 := n17_; have NB22_29 := n18_; have NB29_22 := n19_; clear n0_ n1_ n2_ n3_ n4_ n5_ n6_ n7_ n8_ n9_ n10_ n11_ n12_ n13_ n14_ n15_ n16_ n17_ n18_ n19_; clear hb hbox hg; obtain ⟨Ao231, co231, eo231⟩ := Kd.R_slice HO25.out; subst eo231; have hnb232 := NB29_1.out; have hnc232 := NB1_29.out; have hnb233 := NB29_2.out; have hnc233 := NB2_29.out; have hnb234 := NB29_22.out; have hnc234 := NB22_29.out; obtain ⟨hcz235_0, hcz235_1, hfz235_0, hfz235_1⟩ := bc2_ BK29.out; obtain ⟨Ao236, co236, eo236⟩ := Kd.S_slice HO28.out; subst eo236; obtain ⟨hcz237_0, hcz237_1, hfz237_0, hfz237_1⟩ := bc2_ BK22.out) | ((with_reducible refine gate_callee (f := 47) rfl ?_); refine goesL_ (some 35) rfl rfl Try.func47 (by kernel_rfl) rfl #[.agg #[.int .i64 t18, .slice Ao227 t19.length co227], .agg #[.slice Ao231 t23.length co231, .slice Ao236 t26.length co236]] rfl ar_ ?_; (with_reducible refine (impl_Moves.calls k t18 _ _ t19 _ _ t23 _ _ t26 t30 _ ?side1 ?side2 ?side3 ?side4 ?side5 ?side6 A24.out).mono ?_); (case side1 => exact (Kd.S_reads' (e := 26) (base := w.heap.size) (n := t19.length) (c := co227) (by (with_reducible repeat (first | apply Kd.S_alloc | apply Kd.S_drewN | apply Kd.S_drew)); exact (Kd.S_mono (Kd.S_far (p := ⟨gb29, 1, none⟩) (Kd.S_far (p := ⟨gb29, 0, none⟩) (Kd.S_types HO21.out BK29.out (by decide)) (fun _ hk => hk.2) (.slice Ao231 t23.length co231)) (fun _ hk => hk.2) (.slice Ao236 t26.length co236)) (fun _ h_ => h_.1)))).2.2); (case side2 => exact (Kd.S_reads' HO21.out).2.1); (case side3 => exact (Kd.R_reads' (e := 3) (base := w.heap.size) (n := t23.length) (c := co231) (by (with_reducible repeat (first | apply Kd.R_alloc | apply Kd.R_drewN | apply Kd.R_drew)); exact (Kd.R_mono (Kd.R_far (p := ⟨gb29, 1, none⟩) (Kd.R_far (p := ⟨gb29, 0, none⟩) (Kd.R_types HO25.out BK29.out (by decide)) (fun _ hk => hk.2) (.slice Ao231 t23.length co231)) (fun _ hk => hk.2) (.slice Ao236 t26.length co236)) (fun _ h_ => h_.1)))).2.2); (case side4 => exact (Kd.R_reads' HO25.out).2.1); (case side5 => exact (Kd.S_reads' (e := 102) (base := w.heap.size) (n := t26.length) (c := co236) (by (with_reducible repeat (first | apply Kd.S_alloc | apply Kd.S_drewN | apply Kd.S_drew)); exact (Kd.S_mono (Kd.S_far (p := ⟨gb29, 1, none⟩) (Kd.S_far (p := ⟨gb29, 0, none⟩) (Kd.S_types HO28.out BK29.out (by decide)) (fun _ hk => hk.2) (.slice Ao231 t23.length co231)) (fun _ hk => hk.2) (.slice Ao236 t26.length co236)) (fun _ h_ => h_.1)))).2.2); (case side6 => exact (Kd.S_reads' HO28.out).2.1); rintro e w238 ⟨v31, rfl, ho0, hb⟩; refine ⟨_, rfl, ?_⟩; have n0_ := Aside0.mk (Kd.S_young (by (with_reducible repeat (first | apply Kd.S_alloc | apply Kd.S_drewN | apply Kd.S_drew)); exact (Kd.S_mono (Kd.S_far (p := ⟨gb29, 1, none⟩) (Kd.S_far (p := ⟨gb29, 0, none⟩) (Kd.S_types HO8.out BK29.out (by decide)) (fun _ hk => hk.2) (.slice Ao231 t23.length co231)) (fun _ hk => hk.2) (.slice Ao236 t26.length co236)) (fun _ h_ => h_.1))) hb); have n1_ := Aside0.mk (Kd.R_young (by (with_reducible repeat (first | apply Kd.R_alloc | apply Kd.R_drewN | apply Kd.R_drew)); exact (Kd.R_mono (Kd.R_far (p := ⟨gb29, 1, none⟩) (Kd.R_far (p := ⟨gb29, 0, none⟩) (Kd.R_types HO11.out BK29.out (by decide)) (fun _ hk => hk.2) (.slice Ao231 t23.length co231)) (fun _ hk => hk.2) (.slice Ao236 t26.length co236)) (fun _ h_ => h_.1))) hb); have n2_ := Aside0.mk (Kd.S_young (by (with_reducible repeat (first | apply Kd.S_alloc | apply Kd.S_drewN | apply Kd.S_drew)); exact (Kd.S_mono (Kd.S_far (p := ⟨gb29, 1, none⟩) (Kd.S_far (p := ⟨gb29, 0, none⟩) (Kd.S_types HO14.out BK29.out (by decide)) (fun _ hk => hk.2) (.slice Ao231 t23.length co231)) (fun _ hk => hk.2) (.slice Ao236 t26.length co236)) (fun _ h_ => h_.1))) hb); have n3_ := Aside0.mk (Kd.R_young (by (with_reducible repeat (first | apply Kd.R_alloc | apply Kd.R_drewN | apply Kd.R_drew)); exact (Kd.R_mono (Kd.R_far (p := ⟨gb29, 1, none⟩) (Kd.R_far (p := ⟨gb29, 0, none⟩) (Kd.R_types HO17.out BK29.out (by decide)) (fun _ hk => hk.2) (.slice Ao231 t23.length co231)) (fun _ hk => hk.2) (.slice Ao236 t26.length co236)) (fun _ h_ => h_.1))) hb); have n4_ := Aside0.mk (Kd.S_young (by (with_reducible repeat (first | apply Kd.S_alloc | apply Kd.S_drewN | apply Kd.S_drew)); exact (Kd.S_mono (Kd.S_far (p := ⟨gb29, 1, none⟩) (Kd.S_far (p := ⟨gb29, 0, none⟩) (Kd.S_types HO21.out BK29.out (by decide)) (fun _ hk => hk.2) (.slice Ao231 t23.length co231)) (fun _ hk => hk.2) (.slice Ao236 t26.length co236)) (fun _ h_ => h_.1))) hb); have n5_ := Aside0.mk (Kd.R_young (by (with_reducible repeat (first | apply Kd.R_alloc | apply Kd.R_drewN | apply Kd.R_drew)); exact (Kd.R_mono (Kd.R_far (p := ⟨gb29, 1, none⟩) (Kd.R_far (p := ⟨gb29, 0, none⟩) (Kd.R_types HO25.out BK29.out (by decide)) (fun _ hk => hk.2) (.slice Ao231 t23.length co231)) (fun _ hk => hk.2) (.slice Ao236 t26.length co236)) (fun _ h_ => h_.1))) hb); have n6_ := Aside0.mk (Kd.S_young (by (with_reducible repeat (first | apply Kd.S_alloc | apply Kd.S_drewN | apply Kd.S_drew)); exact (Kd.S_mono (Kd.S_far (p := ⟨gb29, 1, none⟩) (Kd.S_far (p := ⟨gb29, 0, none⟩) (Kd.S_types HO28.out BK29.out (by decide)) (fun _ hk => hk.2) (.slice Ao231 t23.length co231)) (fun _ hk => hk.2) (.slice Ao236 t26.length co236)) (fun _ h_ => h_.1))) hb); have n7_ := Aside0.mk (Kd.R_fresh ho0 (below_size bw_)); have n8_ := Aside0.mk (blk_below (g := gb1) (o := .cells #[.int .i64 a0_0, .slice A0_1 l0_1.length c0_1] 35 (0, 0)) (by (with_reducible repeat (first | refine blk_drewN ?_ _ | refine blk_drew ?_ | refine blk_alloc ?_ _)); refine blk_far ?_ NB1_29.out _; (with_reducible repeat (first | refine blk_drewN ?_ _ | refine blk_drew ?_ | refine blk_alloc ?_ _)); refine blk_far ?_ NB1_29.out _; (with_reducible repeat (first | refine blk_drewN ?_ _ | refine blk_drew ?_ | refine blk_alloc ?_ _)); exact BK1.out) hb); have n9_ := Aside0.mk (blk_below (g := gb2) (o := .cells #[.slice A1_0 l1_0.length c1_0, .slice A1_1 l1_1.length c1_1] 72 (0, 0)) (by (with_reducible repeat (first | refine blk_drewN ?_ _ | refine blk_drew ?_ | refine blk_alloc ?_ _)); refine blk_far ?_ NB2_29.out _; (with_reducible repeat (first | refine blk_drewN ?_ _ | refine blk_drew ?_ | refine blk_alloc ?_ _)); refine blk_far ?_ NB2_29.out _; (with_reducible repeat (first | refine blk_drewN ?_ _ | refine blk_drew ?_ | refine blk_alloc ?_ _)); exact BK2.out) hb); have n10_ := Aside0.mk (blk_below (g := gb22) (o := .cells #[.int .i64 t18, .slice Ao227 t19.length co227] 39 (0, 0)) (by (with_reducible repeat (first | refine blk_drewN ?_ _ | refine blk_drew ?_ | refine blk_alloc ?_ _)); refine blk_far ?_ NB22_29.out _; (with_reducible repeat (first | refine blk_drewN ?_ _ | refine blk_drew ?_ | refine blk_alloc ?_ _)); refine blk_far ?_ NB22_29.out _; (with_reducible repeat (first | refine blk_drewN ?_ _ | refine blk_drew ?_ | refine blk_alloc ?_ _)); exact BK22.out) hb); have n11_ := Aside0.mk (blk_below (g := gb29) (o := .cells #[.slice Ao231 t23.length co231, .slice Ao236 t26.length co236] 54 (0, 0)) (by (with_reducible repeat (first | refine blk_drewN ?_ _ | refine blk_drew ?_ | refine blk_alloc ?_ _)); refine blk_put (cs := #[.slice Ao231 t23.length co231, .slice none 0 0]) ?_ 1 _ rfl; (with_reducible repeat (first | refine blk_drewN ?_ _ | refine blk_drew ?_ | refine blk_alloc ?_ _)); refine blk_put (cs := #[.slice none 0 0, .slice none 0 0]) ?_ 0 _ rfl; (with_reducible repeat (first | refine blk_drewN ?_ _ | refine blk_drew ?_ | refine blk_alloc ?_ _)); exact BK29.out) hb); have n12_ := bs_ hb; clear HO8; clear HO11; clear HO14; clear HO17; clear HO21; clear HO25; clear HO28; clear BK1; clear BK2; clear BK22; clear BK29; clear HB; have HO8 := n0_; have HO11 := n1_; have HO14 := n2_; have HO17 := n3_; have HO21 := n4_; have HO25 := n5_; have HO28 := n6_; have HO32 := n7_; have BK1 := n8_; have BK2 := n9_; have BK22 := n10_; have BK29 := n11_; have HB := n12_; clear n0_ n1_ n2_ n3_ n4_ n5_ n6_ n7_ n8_ n9_ n10_ n11_ n12_; (try clear hb); (try clear hb2); (try clear hk); (try clear hi); (try clear ho0); obtain ⟨Ao239, co239, eo239⟩ := Kd.R_slice HO32.out; subst eo239; obtain ⟨Ao240, co240, eo240⟩ := Kd.R_slice HO17.out; subst eo240) | ((with_reducible refine gate_callee (f := 48) rfl ?_); refine goesL_ (some 38) rfl rfl Try.func48 (by kernel_rfl) rfl #[.slice Ao239 t30.length co239, .slice Ao240 t15.length co240] rfl ar_ ?_; (with_reducible refine (laws_eqMoveS.calls k _ _ t30 _ _ t15 true _ ?side1 ?side2 ?side3 ?side4 A25.out).mono ?_); (case side1 => repeat (first | exact (Kd.R_reads' HO32.out).2.2 | (with_reducible refine Kd.C_alloc ?_ _) | (with_reducible refine Kd.C_drewN ?_ _) | (with_reducible refine Kd.C_drew ?_))); (case side2 => exact (Kd.R_reads' HO32.out).2.1); (case side3 => repeat (first | exact (Kd.R_reads' HO17.out).2.2 | (with_reducible refine Kd.C_alloc ?_ _) | (with_reducible refine Kd.C_drewN ?_ _) | (with_reducible refine Kd.C_drew ?_))); (case side4 => exact (Kd.R_reads' HO17.out).2.1); rintro e w241 ⟨rfl, hb⟩; refine ⟨_, rfl, ?_⟩; have n0_ := Aside0.mk (Kd.S_below (sx_ HO8.out) hb); have n1_ := Aside0.mk (Kd.R_below (rx_ HO11.out) hb); have n2_ := Aside0.mk (Kd.S_below (sx_ HO14.out) hb); have n3_ := Aside0.mk (Kd.R_below (rx_ HO17.out) hb); have n4_ := Aside0.mk (Kd.S_below (sx_ HO21.out) hb); have n5_ := Aside0.mk (Kd.R_below (rx_ HO25.out) hb); have n6_ := Aside0.mk (Kd.S_below (sx_ HO28.out) hb); have n7_ := Aside0.mk (Kd.R_below (rx_ HO32.out) hb); have n8_ := bb_ BK1.out hb; have n9_ := bb_ BK2.out hb; have n10_ := bb_ BK22.out hb; have n11_ := bb_ BK29.out hb; have n12_ := bs_ hb; clear HO8; clear HO11; clear HO14; clear HO17; clear HO21; clear HO25; clear HO28; clear HO32; clear BK1; clear BK2; clear BK22; clear BK29; clear HB; have HO8 := n0_; have HO11 := n1_; have HO14 := n2_; have HO17 := n3_; have HO21 := n4_; have HO25 := n5_; have HO28 := n6_; have HO32 := n7_; have BK1 := n8_; have BK2 := n9_; have BK22 := n10_; have BK29 := n11_; have HB := n12_; clear n0_ n1_ n2_ n3_ n4_ n5_ n6_ n7_ n8_ n9_ n10_ n11_ n12_; (try clear hb); (try clear hb2); (try clear hk); (try clear hi)))
 have n0_ := Aside0.mk (Kd.S_drew HO8.out)
 have n1_ := Aside0.mk (Kd.R_drew HO11.out)
 have n2_ := Aside0.mk (Kd.S_drew HO14.out)
 have n3_ := Aside0.mk (Kd.R_drew HO17.out)
 have n4_ := Aside0.mk (Kd.S_drew HO21.out)
 have n5_ := Aside0.mk (Kd.R_drew HO25.out)
 have n6_ := Aside0.mk (Kd.S_drew HO28.out)
 have n7_ := Aside0.mk (Kd.R_drew HO32.out)
 have n8_ := Aside0.mk (blk_drew BK1.out)
 have n9_ := Aside0.mk (blk_drew BK2.out)
 have n10_ := Aside0.mk (blk_drew BK22.out)
 have n11_ := Aside0.mk (blk_drew BK29.out)
 have n12_ := Aside0.mk (below_drew1 HB.out)
 clear HO8
 clear HO11
 clear HO14
 clear HO17
 clear HO21
 clear HO25
 clear HO28
 clear HO32
 clear BK1
 clear BK2
 clear BK22
 clear BK29
 clear HB
 have HO8 := n0_
 have HO11 := n1_
 have HO14 := n2_
 have HO17 := n3_
 have HO21 := n4_
 have HO25 := n5_
 have HO28 := n6_
 have HO32 := n7_
 have BK1 := n8_
 have BK2 := n9_
 have BK22 := n10_
 have BK29 := n11_
 have HB := n12_
 clear n0_ n1_ n2_ n3_ n4_ n5_ n6_ n7_ n8_ n9_ n10_ n11_ n12_
 refine start_ (n := 5) (S := fun w' => w'.cell? ⟨gb22, 0, none⟩ = some (.int .i64 t18) ∧ w'.cell? ⟨gb22, 1, none⟩ = some (.slice Ao227 t19.length co227) ∧ w'.cell? ⟨gb1, 0, none⟩ = some (.int .i64 a0_0) ∧ w'.cell? ⟨gb1, 1, none⟩ = some (.slice A0_1 l0_1.length c0_1)) (ds := []) #[false, false, false, false, false] (by kernel_rfl) rfl rfl ⟨(blk_cell BK22.out 0).trans rfl, (blk_cell BK22.out 1).trans rfl, (blk_cell BK1.out 0).trans rfl, (blk_cell BK1.out 1).trans rfl⟩ (fun hHeld => ?_)
 generalize w241.drew = w242 at HO8 HO11 HO14 HO17 HO21 HO25 HO28 HO32 BK1 BK2 BK22 BK29 HB hHeld ⊢
 refine take_ (i := 0) (N := some 40) (v := ?_) (a' := ?_) (bm_ 5 1) rfl rfl (by kernel_rfl) (fun _ _ _ h => h) (Or.inl ⟨by rfl, ?_⟩) hHeld ?_ ?_
 rotate_left
 ·rintro w' ⟨s0, s1, s2, s3⟩
  go_simp
  with_reducible rfl
 rotate_left
 ·exact pu_
 refine take_ (i := 1) (N := some 41) (v := ?_) (a' := ?_) (bm_ 5 3) rfl rfl (by kernel_rfl) (fun _ _ _ h => h) (Or.inl ⟨by rfl, ?_⟩) hHeld ?_ ?_
 rotate_left
 ·rintro w' ⟨s0, s1, s2, s3⟩
  go_simp
  with_reducible rfl
 rotate_left
 ·exact pu_
 refine one_ (i := 2) (N := some 42) (bm_ 5 7) rfl rfl (by kernel_rfl) (by decide) (fun K hK => ?_)
 refine goes_ Try.func21 (by kernel_rfl) rfl #[.agg #[.int .i64 a0_0, .slice A0_1 l0_1.length c0_1]] (by rfl) rfl rfl ar_ ?_
 with_reducible refine (laws_toProg.calls k a0_0 _ _ l0_1 t34 t35 _ ?side1 ?side2 A27.out).mono ?_
 (case side1 => exact cb_)
 (case side2 => exact HC0_1.out)
 rintro e w243 ⟨v36, rfl, ho0, hb⟩
 refine ⟨_, rfl, ?_⟩
 have n0_ := Aside0.mk (Kd.S_young (sx_ HO8.out) hb)
 have n1_ := Aside0.mk (Kd.R_young (rx_ HO11.out) hb)
 have n2_ := Aside0.mk (Kd.S_young (sx_ HO14.out) hb)
 have n3_ := Aside0.mk (Kd.R_young (rx_ HO17.out) hb)
 have n4_ := Aside0.mk (Kd.S_young (sx_ HO21.out) hb)
 have n5_ := Aside0.mk (Kd.R_young (rx_ HO25.out) hb)
 have n6_ := Aside0.mk (Kd.S_young (sx_ HO28.out) hb)
 have n7_ := Aside0.mk (Kd.R_young (rx_ HO32.out) hb)
 have n8_ := Aside0.mk (Kd.S_fresh ho0 (below_size bw_))
 have n9_ := bb_ BK1.out hb
 have n10_ := bb_ BK2.out hb
 have n11_ := bb_ BK22.out hb
 have n12_ := bb_ BK29.out hb
 have n13_ := bs_ hb
 clear HO8
 clear HO11
 clear HO14
 clear HO17
 clear HO21
 clear HO25
 clear HO28
 clear HO32
 clear BK1
 clear BK2
 clear BK22
 clear BK29
 clear HB
 have HO8 := n0_
 have HO11 := n1_
 have HO14 := n2_
 have HO17 := n3_
 have HO21 := n4_
 have HO25 := n5_
 have HO28 := n6_
 have HO32 := n7_
 have HO37 := n8_
 have BK1 := n9_
 have BK2 := n10_
 have BK22 := n11_
 have BK29 := n12_
 have HB := n13_
 clear n0_ n1_ n2_ n3_ n4_ n5_ n6_ n7_ n8_ n9_ n10_ n11_ n12_ n13_
 (try clear hb)
 (try clear hb2)
 (try clear hk)
 (try clear hi)
 (try clear ho0)
 obtain ⟨Ao244, co244, eo244⟩ := Kd.S_slice HO37.out
 (first | subst eo244 | (injection eo244 with f1_ f2_ f3_; have f4_ := f1_.symm; have f5_ := f3_.symm; clear f1_ f2_ f3_; subst f4_; subst f5_))
 refine hK.out _ _ ⟨(blk_cell BK22.out 0).trans rfl, (blk_cell BK22.out 1).trans rfl, (blk_cell BK1.out 0).trans rfl, (blk_cell BK1.out 1).trans rfl⟩ (fun hHeld => ?_)
 clear hK K
 refine norm_ (a' := ?_) ?_ ?_
 rotate_left
 ·show Act.put _ (some 42) _ = _
  simp only [Act.put, List.setIfInBounds_toArray, List.set_cons_zero, List.set_cons_succ, i64_w, i32_w]
  rfl
 refine one_ (i := 3) (N := some 43) (bm_ 5 15) rfl rfl (by kernel_rfl) (by decide) (fun K hK => ?_)
 refine goes_ Try.func23 (by kernel_rfl) rfl #[.agg #[.int .i64 t18, .slice Ao227 t19.length co227], .agg #[.int .i64 t34, .slice Ao244 t35.length co244]] (by rfl) rfl rfl ar_ ?_
 with_reducible refine (laws_eqProg.calls k t18 _ _ t19 t34 _ _ t35 true _ ?side1 ?side2 ?side3 ?side4 A28.out).mono ?_
 (case side1 => repeat (first | exact (Kd.S_reads' HO21.out).2.2 | (with_reducible refine Kd.C_alloc ?_ _) | (with_reducible refine Kd.C_drewN ?_ _) | (with_reducible refine Kd.C_drew ?_)))
 (case side2 => exact (Kd.S_reads' HO21.out).2.1)
 (case side3 => repeat (first | exact (Kd.S_reads' HO37.out).2.2 | (with_reducible refine Kd.C_alloc ?_ _) | (with_reducible refine Kd.C_drewN ?_ _) | (with_reducible refine Kd.C_drew ?_)))
 (case side4 => exact (Kd.S_reads' HO37.out).2.1)
 rintro e w245 ⟨rfl, hb⟩
 refine ⟨_, rfl, ?_⟩
 have n0_ := Aside0.mk (Kd.S_below (sx_ HO8.out) hb)
 have n1_ := Aside0.mk (Kd.R_below (rx_ HO11.out) hb)
 have n2_ := Aside0.mk (Kd.S_below (sx_ HO14.out) hb)
 have n3_ := Aside0.mk (Kd.R_below (rx_ HO17.out) hb)
 have n4_ := Aside0.mk (Kd.S_below (sx_ HO21.out) hb)
 have n5_ := Aside0.mk (Kd.R_below (rx_ HO25.out) hb)
 have n6_ := Aside0.mk (Kd.S_below (sx_ HO28.out) hb)
 have n7_ := Aside0.mk (Kd.R_below (rx_ HO32.out) hb)
 have n8_ := Aside0.mk (Kd.S_below (sx_ HO37.out) hb)
 have n9_ := bb_ BK1.out hb
 have n10_ := bb_ BK2.out hb
 have n11_ := bb_ BK22.out hb
 have n12_ := bb_ BK29.out hb
 have n13_ := bs_ hb
 clear HO8
 clear HO11
 clear HO14
 clear HO17
 clear HO21
 clear HO25
 clear HO28
 clear HO32
 clear HO37
 clear BK1
 clear BK2
 clear BK22
 clear BK29
 clear HB
 have HO8 := n0_
 have HO11 := n1_
 have HO14 := n2_
 have HO17 := n3_
 have HO21 := n4_
 have HO25 := n5_
 have HO28 := n6_
 have HO32 := n7_
 have HO37 := n8_
 have BK1 := n9_
 have BK2 := n10_
 have BK22 := n11_
 have BK29 := n12_
 have HB := n13_
 clear n0_ n1_ n2_ n3_ n4_ n5_ n6_ n7_ n8_ n9_ n10_ n11_ n12_ n13_
 (try clear hb)
 (try clear hb2)
 (try clear hk)
 (try clear hi)
 refine hK.out _ _ ⟨(blk_cell BK22.out 0).trans rfl, (blk_cell BK22.out 1).trans rfl, (blk_cell BK1.out 0).trans rfl, (blk_cell BK1.out 1).trans rfl⟩ (fun hHeld => ?_)
 clear hK K
 refine norm_ (a' := ?_) ?_ ?_
 rotate_left
 ·show Act.put _ (some 43) _ = _
  simp only [Act.put, List.setIfInBounds_toArray, List.set_cons_zero, List.set_cons_succ, i64_w, i32_w]
  rfl
 refine pure_ (i := 4) (N := some 44) (v := ?_) (a' := ?_) (bm_ 5 31) rfl rfl (by kernel_rfl) (fun _ _ _ h => h) (Or.inl ⟨by rfl, ?_⟩) ?_ ?_
 rotate_left
 ·intro w'
  go_simp
  with_reducible rfl
 rotate_left
 ·exact pu_
 refine done_ (by kernel_rfl) ?_
 try go_wp2
 have n0_ := Aside0.mk (Kd.S_drew HO8.out)
 have n1_ := Aside0.mk (Kd.R_drew HO11.out)
 have n2_ := Aside0.mk (Kd.S_drew HO14.out)
 have n3_ := Aside0.mk (Kd.R_drew HO17.out)
 have n4_ := Aside0.mk (Kd.S_drew HO21.out)
 have n5_ := Aside0.mk (Kd.R_drew HO25.out)
 have n6_ := Aside0.mk (Kd.S_drew HO28.out)
 have n7_ := Aside0.mk (Kd.R_drew HO32.out)
 have n8_ := Aside0.mk (Kd.S_drew HO37.out)
 have n9_ := Aside0.mk (blk_drew BK1.out)
 have n10_ := Aside0.mk (blk_drew BK2.out)
 have n11_ := Aside0.mk (blk_drew BK22.out)
 have n12_ := Aside0.mk (blk_drew BK29.out)
 have n13_ := Aside0.mk (below_drew1 HB.out)
 clear HO8
 clear HO11
 clear HO14
 clear HO17
 clear HO21
 clear HO25
 clear HO28
 clear HO32
 clear HO37
 clear BK1
 clear BK2
 clear BK22
 clear BK29
 clear HB
 have HO8 := n0_
 have HO11 := n1_
 have HO14 := n2_
 have HO17 := n3_
 have HO21 := n4_
 have HO25 := n5_
 have HO28 := n6_
 have HO32 := n7_
 have HO37 := n8_
 have BK1 := n9_
 have BK2 := n10_
 have BK22 := n11_
 have BK29 := n12_
 have HB := n13_
 clear n0_ n1_ n2_ n3_ n4_ n5_ n6_ n7_ n8_ n9_ n10_ n11_ n12_ n13_
 refine start_ (n := 5) (S := fun w' => w'.cell? ⟨gb29, 0, none⟩ = some (.slice Ao231 t23.length co231) ∧ w'.cell? ⟨gb29, 1, none⟩ = some (.slice Ao236 t26.length co236) ∧ w'.cell? ⟨gb2, 0, none⟩ = some (.slice A1_0 l1_0.length c1_0) ∧ w'.cell? ⟨gb2, 1, none⟩ = some (.slice A1_1 l1_1.length c1_1)) (ds := []) #[false, false, false, false, false] (by kernel_rfl) rfl rfl ⟨(blk_cell BK29.out 0).trans rfl, (blk_cell BK29.out 1).trans rfl, (blk_cell BK2.out 0).trans rfl, (blk_cell BK2.out 1).trans rfl⟩ (fun hHeld => ?_)
 generalize w245.drew = w246 at HO8 HO11 HO14 HO17 HO21 HO25 HO28 HO32 HO37 BK1 BK2 BK22 BK29 HB hHeld ⊢
 refine take_ (i := 0) (N := some 45) (v := ?_) (a' := ?_) (bm_ 5 1) rfl rfl (by kernel_rfl) (fun _ _ _ h => h) (Or.inl ⟨by rfl, ?_⟩) hHeld ?_ ?_
 rotate_left
 ·rintro w' ⟨s0, s1, s2, s3⟩
  go_simp
  with_reducible rfl
 rotate_left
 ·exact pu_
 refine take_ (i := 1) (N := some 46) (v := ?_) (a' := ?_) (bm_ 5 3) rfl rfl (by kernel_rfl) (fun _ _ _ h => h) (Or.inl ⟨by rfl, ?_⟩) hHeld ?_ ?_
 rotate_left
 ·rintro w' ⟨s0, s1, s2, s3⟩
  go_simp
  with_reducible rfl
 rotate_left
 ·exact pu_
 refine one_ (i := 2) (N := some 47) (bm_ 5 7) rfl rfl (by kernel_rfl) (by decide) (fun K hK => ?_)
 refine goes_ Try.func46 (by kernel_rfl) rfl #[.agg #[.slice A1_0 l1_0.length c1_0, .slice A1_1 l1_1.length c1_1]] (by rfl) rfl rfl ar_ ?_
 with_reducible refine (laws_toMachine.calls k _ _ l1_0 _ _ l1_1 t39 t42 _ ?side1 ?side2 ?side3 ?side4 A30.out).mono ?_
 (case side1 => exact cb_)
 (case side2 => exact HC1_0.out)
 (case side3 => exact cb_)
 (case side4 => exact HC1_1.out)
 rintro e w247 ⟨v40, v43, rfl, ho0, ho1, hb⟩
 refine ⟨_, rfl, ?_⟩
 have n0_ := Aside0.mk (Kd.S_young (sx_ HO8.out) hb)
 have n1_ := Aside0.mk (Kd.R_young (rx_ HO11.out) hb)
 have n2_ := Aside0.mk (Kd.S_young (sx_ HO14.out) hb)
 have n3_ := Aside0.mk (Kd.R_young (rx_ HO17.out) hb)
 have n4_ := Aside0.mk (Kd.S_young (sx_ HO21.out) hb)
 have n5_ := Aside0.mk (Kd.R_young (rx_ HO25.out) hb)
 have n6_ := Aside0.mk (Kd.S_young (sx_ HO28.out) hb)
 have n7_ := Aside0.mk (Kd.R_young (rx_ HO32.out) hb)
 have n8_ := Aside0.mk (Kd.S_young (sx_ HO37.out) hb)
 have n9_ := Aside0.mk (Kd.R_fresh ho0 (below_size bw_))
 have n10_ := Aside0.mk (Kd.S_fresh ho1 (below_size bw_))
 have n11_ := bb_ BK1.out hb
 have n12_ := bb_ BK2.out hb
 have n13_ := bb_ BK22.out hb
 have n14_ := bb_ BK29.out hb
 have n15_ := bs_ hb
 clear HO8
 clear HO11
 clear HO14
 clear HO17
 clear HO21
 clear HO25
 clear HO28
 clear HO32
 clear HO37
 clear BK1
 clear BK2
 clear BK22
 clear BK29
 clear HB
 have HO8 := n0_
 have HO11 := n1_
 have HO14 := n2_
 have HO17 := n3_
 have HO21 := n4_
 have HO25 := n5_
 have HO28 := n6_
 have HO32 := n7_
 have HO37 := n8_
 have HO41 := n9_
 have HO44 := n10_
 have BK1 := n11_
 have BK2 := n12_
 have BK22 := n13_
 have BK29 := n14_
 have HB := n15_
 clear n0_ n1_ n2_ n3_ n4_ n5_ n6_ n7_ n8_ n9_ n10_ n11_ n12_ n13_ n14_ n15_
 (try clear hb)
 (try clear hb2)
 (try clear hk)
 (try clear hi)
 (try clear ho0)
 (try clear ho1)
 obtain ⟨Ao248, co248, eo248⟩ := Kd.R_slice HO41.out
 (first | subst eo248 | (injection eo248 with f1_ f2_ f3_; have f4_ := f1_.symm; have f5_ := f3_.symm; clear f1_ f2_ f3_; subst f4_; subst f5_))
 obtain ⟨Ao249, co249, eo249⟩ := Kd.S_slice HO44.out
 (first | subst eo249 | (injection eo249 with f1_ f2_ f3_; have f4_ := f1_.symm; have f5_ := f3_.symm; clear f1_ f2_ f3_; subst f4_; subst f5_))
 refine hK.out _ _ ⟨(blk_cell BK29.out 0).trans rfl, (blk_cell BK29.out 1).trans rfl, (blk_cell BK2.out 0).trans rfl, (blk_cell BK2.out 1).trans rfl⟩ (fun hHeld => ?_)
 clear hK K
 refine norm_ (a' := ?_) ?_ ?_
 rotate_left
 ·show Act.put _ (some 47) _ = _
  simp only [Act.put, List.setIfInBounds_toArray, List.set_cons_zero, List.set_cons_succ, i64_w, i32_w]
  rfl
 refine one_ (i := 3) (N := some 48) (bm_ 5 15) rfl rfl (by kernel_rfl) (by decide) (fun K hK => ?_)
 refine goes_ Try.func33 (by kernel_rfl) rfl #[.agg #[.slice Ao231 t23.length co231, .slice Ao236 t26.length co236], .agg #[.slice Ao248 t39.length co248, .slice Ao249 t42.length co249]] (by rfl) rfl rfl ar_ ?_
 with_reducible refine (laws_eqMachine.calls k _ _ t23 _ _ t26 _ _ t39 _ _ t42 true _ ?side1 ?side2 ?side3 ?side4 ?side5 ?side6 ?side7 ?side8 A31.out).mono ?_
 (case side1 => repeat (first | exact (Kd.R_reads' HO25.out).2.2 | (with_reducible refine Kd.C_alloc ?_ _) | (with_reducible refine Kd.C_drewN ?_ _) | (with_reducible refine Kd.C_drew ?_)))
 (case side2 => exact (Kd.R_reads' HO25.out).2.1)
 (case side3 => repeat (first | exact (Kd.S_reads' HO28.out).2.2 | (with_reducible refine Kd.C_alloc ?_ _) | (with_reducible refine Kd.C_drewN ?_ _) | (with_reducible refine Kd.C_drew ?_)))
 (case side4 => exact (Kd.S_reads' HO28.out).2.1)
 (case side5 => repeat (first | exact (Kd.R_reads' HO41.out).2.2 | (with_reducible refine Kd.C_alloc ?_ _) | (with_reducible refine Kd.C_drewN ?_ _) | (with_reducible refine Kd.C_drew ?_)))
 (case side6 => exact (Kd.R_reads' HO41.out).2.1)
 (case side7 => repeat (first | exact (Kd.S_reads' HO44.out).2.2 | (with_reducible refine Kd.C_alloc ?_ _) | (with_reducible refine Kd.C_drewN ?_ _) | (with_reducible refine Kd.C_drew ?_)))
 (case side8 => exact (Kd.S_reads' HO44.out).2.1)
 rintro e w250 ⟨rfl, hb⟩
 refine ⟨_, rfl, ?_⟩
 have n0_ := Aside0.mk (Kd.S_below (sx_ HO8.out) hb)
 have n1_ := Aside0.mk (Kd.R_below (rx_ HO11.out) hb)
 have n2_ := Aside0.mk (Kd.S_below (sx_ HO14.out) hb)
 have n3_ := Aside0.mk (Kd.R_below (rx_ HO17.out) hb)
 have n4_ := Aside0.mk (Kd.S_below (sx_ HO21.out) hb)
 have n5_ := Aside0.mk (Kd.R_below (rx_ HO25.out) hb)
 have n6_ := Aside0.mk (Kd.S_below (sx_ HO28.out) hb)
 have n7_ := Aside0.mk (Kd.R_below (rx_ HO32.out) hb)
 have n8_ := Aside0.mk (Kd.S_below (sx_ HO37.out) hb)
 have n9_ := Aside0.mk (Kd.R_below (rx_ HO41.out) hb)
 have n10_ := Aside0.mk (Kd.S_below (sx_ HO44.out) hb)
 have n11_ := bb_ BK1.out hb
 have n12_ := bb_ BK2.out hb
 have n13_ := bb_ BK22.out hb
 have n14_ := bb_ BK29.out hb
 have n15_ := bs_ hb
 clear HO8
 clear HO11
 clear HO14
 clear HO17
 clear HO21
 clear HO25
 clear HO28
 clear HO32
 clear HO37
 clear HO41
 clear HO44
 clear BK1
 clear BK2
 clear BK22
 clear BK29
 clear HB
 have HO8 := n0_
 have HO11 := n1_
 have HO14 := n2_
 have HO17 := n3_
 have HO21 := n4_
 have HO25 := n5_
 have HO28 := n6_
 have HO32 := n7_
 have HO37 := n8_
 have HO41 := n9_
 have HO44 := n10_
 have BK1 := n11_
 have BK2 := n12_
 have BK22 := n13_
 have BK29 := n14_
 have HB := n15_
 clear n0_ n1_ n2_ n3_ n4_ n5_ n6_ n7_ n8_ n9_ n10_ n11_ n12_ n13_ n14_ n15_
 (try clear hb)
 (try clear hb2)
 (try clear hk)
 (try clear hi)
 refine hK.out _ _ ⟨(blk_cell BK29.out 0).trans rfl, (blk_cell BK29.out 1).trans rfl, (blk_cell BK2.out 0).trans rfl, (blk_cell BK2.out 1).trans rfl⟩ (fun hHeld => ?_)
 clear hK K
 refine norm_ (a' := ?_) ?_ ?_
 rotate_left
 ·show Act.put _ (some 48) _ = _
  simp only [Act.put, List.setIfInBounds_toArray, List.set_cons_zero, List.set_cons_succ, i64_w, i32_w]
  rfl
 refine pure_ (i := 4) (N := some 49) (v := ?_) (a' := ?_) (bm_ 5 31) rfl rfl (by kernel_rfl) (fun _ _ _ h => h) (Or.inl ⟨by rfl, ?_⟩) ?_ ?_
 rotate_left
 ·intro w'
  go_simp
  with_reducible rfl
 rotate_left
 ·exact pu_
 refine done_ (by kernel_rfl) ?_
 obtain ⟨hcz251_0, hcz251_1, hfz251_0, hfz251_1⟩ := bc2_ BK22.out
 try go_wp2_with (first | ((with_reducible refine gate_callee (f := 24) rfl ?_); refine goesL_ (some 52) rfl rfl Try.func24 (by kernel_rfl) rfl #[.agg #[.int .i64 t18, .slice Ao227 t19.length co227], .int .i64 1] rfl ar_ ?_; obtain ⟨l_A33, hm_A33, hh_A33⟩ := laws_markProg.told A33.out; have HM_A33 := Aside0.mk hm_A33; clear hm_A33 hh_A33; (with_reducible refine (laws_markProg.writes k t18 t19 1 t46 l_A33 w _ HO21.out ?side1 ?side2 HM_A33.out).mono ?_); (case side1 => exact (by repeat (first | (with_reducible first | exact HB.out | apply below_alloc | apply pw_below_drewN | apply below_drew1 | refine below_set ?_ (Aside0.out (by assumption))) | exact HB.out))); (case side2 => exact (by repeat (first | exact HO21.out | (with_reducible refine Kd.S_alloc ?_ _) | (with_reducible refine Kd.S_drewN ?_ _) | (with_reducible refine Kd.S_drew ?_)))); rintro e w252 ⟨rfl, hy_, hb, hkp⟩; refine ⟨_, rfl, ?_⟩; have n0_ := Aside0.mk (Kd.S_keptX HO8.out (sx_ HO8.out) hkp (fun k_ hk_ hs_ => Nat.not_lt.2 hs_.1.1.1.1.1.1 hk_.1.1.1.1.2)); have n1_ := Aside0.mk (Kd.R_keptX HO11.out (rx_ HO11.out) hkp (fun k_ hk_ hs_ => Nat.not_lt.2 hs_.1.1.1.1.1.1 hk_.1.1.1.1.2)); have n2_ := Aside0.mk (Kd.S_keptX HO14.out (sx_ HO14.out) hkp (fun k_ hk_ hs_ => Nat.not_lt.2 hs_.1.1.1.1.1.1 hk_.1.1.1.1.2)); have n3_ := Aside0.mk (Kd.R_keptX HO17.out (rx_ HO17.out) hkp (fun k_ hk_ hs_ => Nat.not_lt.2 hs_.1.1.1.1.1.1 hk_.1.1.1.1.2)); have n4_ := Aside0.mk (hy_); have n5_ := Aside0.mk (Kd.R_keptX HO25.out (rx_ HO25.out) hkp (fun k_ hk_ hs_ => Nat.not_lt.2 hk_.1.1.1.1 hs_.1.1.1.1.2)); have n6_ := Aside0.mk (Kd.S_keptX HO28.out (sx_ HO28.out) hkp (fun k_ hk_ hs_ => Nat.not_lt.2 hk_.1.1.1.1 hs_.1.1.1.1.2)); have n7_ := Aside0.mk (Kd.R_keptX HO32.out (rx_ HO32.out) hkp (fun k_ hk_ hs_ => Nat.not_lt.2 hk_.1.1.1 hs_.1.1.1.2)); have n8_ := Aside0.mk (Kd.S_keptX HO37.out (sx_ HO37.out) hkp (fun k_ hk_ hs_ => Nat.not_lt.2 hk_.1.1 hs_.1.1.2)); have n9_ := Aside0.mk (Kd.R_keptX HO41.out (rx_ HO41.out) hkp (fun k_ hk_ hs_ => Nat.not_lt.2 hk_.1 hs_.1.2)); have n10_ := Aside0.mk (Kd.S_keptX HO44.out (sx_ HO44.out) hkp (fun k_ hk_ hs_ => Nat.not_lt.2 hk_.1 hs_.1.2)); have n11_ := Aside0.mk (blk_kept (g := gb1) (o := .cells #[.int .i64 a0_0, .slice A0_1 l0_1.length c0_1] 35 (0, 0)) bk_ hkp (fun hs_ => typed_ne (g := gb1) (cs := #[.int .i64 a0_0, .slice A0_1 l0_1.length c0_1]) (T := 35) hs_.2 bk_ (by decide))); have n12_ := Aside0.mk (blk_kept (g := gb2) (o := .cells #[.slice A1_0 l1_0.length c1_0, .slice A1_1 l1_1.length c1_1] 72 (0, 0)) bk_ hkp (fun hs_ => typed_ne (g := gb2) (cs := #[.slice A1_0 l1_0.length c1_0, .slice A1_1 l1_1.length c1_1]) (T := 72) hs_.2 bk_ (by decide))); have n13_ := Aside0.mk (blk_kept (g := gb22) (o := .cells #[.int .i64 t18, .slice Ao227 t19.length co227] 39 (0, 0)) bk_ hkp (fun hs_ => typed_ne (g := gb22) (cs := #[.int .i64 t18, .slice Ao227 t19.length co227]) (T := 39) hs_.2 bk_ (by decide))); have n14_ := Aside0.mk (blk_kept (g := gb29) (o := .cells #[.slice Ao231 t23.length co231, .slice Ao236 t26.length co236] 54 (0, 0)) bk_ hkp (fun hs_ => typed_ne (g := gb29) (cs := #[.slice Ao231 t23.length co231, .slice Ao236 t26.length co236]) (T := 54) hs_.2 bk_ (by decide))); have n15_ := Aside0.mk (hb); clear HO8; clear HO11; clear HO14; clear HO17; clear HO21; clear HO25; clear HO28; clear HO32; clear HO37; clear HO41; clear HO44; clear BK1; clear BK2; clear BK22; clear BK29; clear HB; have HO8 := n0_; have HO11 := n1_; have HO14 := n2_; have HO17 := n3_; have HO21 := n4_; have HO25 := n5_; have HO28 := n6_; have HO32 := n7_; have HO37 := n8_; have HO41 := n9_; have HO44 := n10_; have BK1 := n11_; have BK2 := n12_; have BK22 := n13_; have BK29 := n14_; have HB := n15_; clear n0_ n1_ n2_ n3_ n4_ n5_ n6_ n7_ n8_ n9_ n10_ n11_ n12_ n13_ n14_ n15_; (try clear hb); (try clear hb2); (try clear hk); (try clear hi); obtain ⟨hcz253_0, hcz253_1, hfz253_0, hfz253_1⟩ := bc2_ BK29.out) | ((with_reducible refine gate_callee (f := 34) rfl ?_); refine goesL_ (some 55) rfl rfl Try.func34 (by kernel_rfl) rfl #[.agg #[.slice Ao231 t23.length co231, .slice Ao236 t26.length co236], .int .i64 t46] rfl ar_ ?_; obtain ⟨l_A34, c_A34, k_A34, hm_A34, hh_A34⟩ := laws_markMachine.told A34.out; have HM_A34 := Aside0.mk hm_A34; clear hm_A34 hh_A34; (with_reducible refine (laws_markMachine.writes k t23 t26 t46 c_A34 t47 l_A34 k_A34 w _ HO25.out HO28.out ?side0 ?side1 ?side2 ?side3 HM_A34.out).mono ?_); (case side0 => exact fun k_ hk_ => hk_.1.1.1.2); (case side1 => exact (by repeat (first | (with_reducible first | exact HB.out | apply below_alloc | apply pw_below_drewN | apply below_drew1 | refine below_set ?_ (Aside0.out (by assumption))) | exact HB.out))); (case side2 => exact (by repeat (first | exact HO25.out | (with_reducible refine Kd.R_alloc ?_ _) | (with_reducible refine Kd.R_drewN ?_ _) | (with_reducible refine Kd.R_drew ?_)))); (case side3 => exact (by repeat (first | exact HO28.out | (with_reducible refine Kd.S_alloc ?_ _) | (with_reducible refine Kd.S_drewN ?_ _) | (with_reducible refine Kd.S_drew ?_)))); rintro e w254 ⟨rfl, hy0_, hy1_, hb, hkp⟩; refine ⟨_, rfl, ?_⟩; have n0_ := Aside0.mk (Kd.S_keptX HO8.out (sx_ HO8.out) hkp (fun k_ hk_ hs_ => Or.elim hs_.1 (fun h_ => Nat.not_lt.2 h_.2.1.1.1.1 hk_.1.1.1.2) (fun h_ => Nat.not_lt.2 h_.1.1.1.1 hk_.1.1.1.2))); have n1_ := Aside0.mk (Kd.R_keptX HO11.out (rx_ HO11.out) hkp (fun k_ hk_ hs_ => Or.elim hs_.1 (fun h_ => Nat.not_lt.2 h_.2.1.1.1.1 hk_.1.1.1.2) (fun h_ => Nat.not_lt.2 h_.1.1.1.1 hk_.1.1.1.2))); have n2_ := Aside0.mk (Kd.S_keptX HO14.out (sx_ HO14.out) hkp (fun k_ hk_ hs_ => Or.elim hs_.1 (fun h_ => Nat.not_lt.2 h_.2.1.1.1.1 hk_.1.1.1.2) (fun h_ => Nat.not_lt.2 h_.1.1.1.1 hk_.1.1.1.2))); have n3_ := Aside0.mk (Kd.R_keptX HO17.out (rx_ HO17.out) hkp (fun k_ hk_ hs_ => Or.elim hs_.1 (fun h_ => Nat.not_lt.2 h_.2.1.1.1.1 hk_.1.1.1.2) (fun h_ => Nat.not_lt.2 h_.1.1.1.1 hk_.1.1.1.2))); have n4_ := Aside0.mk (Kd.S_keptX HO21.out (sx_ HO21.out) hkp (fun k_ hk_ hs_ => Or.elim hs_.1 (fun h_ => Nat.not_lt.2 h_.2.1.1.1.1 hk_.1.1.1.2) (fun h_ => Nat.not_lt.2 h_.1.1.1.1 hk_.1.1.1.2))); have n5_ := Aside0.mk (hy0_); have n6_ := Aside0.mk (hy1_); have n7_ := Aside0.mk (Kd.R_keptX HO32.out (rx_ HO32.out) hkp (fun k_ hk_ hs_ => Or.elim hs_.1 (fun h_ => Nat.not_lt.2 hk_.1.1.1 h_.2.1.1.2) (fun h_ => Nat.not_lt.2 hk_.1.1.1 h_.1.1.2))); have n8_ := Aside0.mk (Kd.S_keptX HO37.out (sx_ HO37.out) hkp (fun k_ hk_ hs_ => Or.elim hs_.1 (fun h_ => Nat.not_lt.2 hk_.1.1 h_.2.1.2) (fun h_ => Nat.not_lt.2 hk_.1.1 h_.1.2))); have n9_ := Aside0.mk (Kd.R_keptX HO41.out (rx_ HO41.out) hkp (fun k_ hk_ hs_ => Or.elim hs_.1 (fun h_ => Nat.not_lt.2 hk_.1 h_.2.2) (fun h_ => Nat.not_lt.2 hk_.1 h_.2))); have n10_ := Aside0.mk (Kd.S_keptX HO44.out (sx_ HO44.out) hkp (fun k_ hk_ hs_ => Or.elim hs_.1 (fun h_ => Nat.not_lt.2 hk_.1 h_.2.2) (fun h_ => Nat.not_lt.2 hk_.1 h_.2))); have n11_ := Aside0.mk (blk_kept (g := gb1) (o := .cells #[.int .i64 a0_0, .slice A0_1 l0_1.length c0_1] 35 (0, 0)) bk_ hkp (fun hs_ => typed_ne (g := gb1) (cs := #[.int .i64 a0_0, .slice A0_1 l0_1.length c0_1]) (T := 35) hs_.2 bk_ (by decide))); have n12_ := Aside0.mk (blk_kept (g := gb2) (o := .cells #[.slice A1_0 l1_0.length c1_0, .slice A1_1 l1_1.length c1_1] 72 (0, 0)) bk_ hkp (fun hs_ => typed_ne (g := gb2) (cs := #[.slice A1_0 l1_0.length c1_0, .slice A1_1 l1_1.length c1_1]) (T := 72) hs_.2 bk_ (by decide))); have n13_ := Aside0.mk (blk_kept (g := gb22) (o := .cells #[.int .i64 t18, .slice Ao227 t19.length co227] 39 (0, 0)) bk_ hkp (fun hs_ => typed_ne (g := gb22) (cs := #[.int .i64 t18, .slice Ao227 t19.length co227]) (T := 39) hs_.2 bk_ (by decide))); have n14_ := Aside0.mk (blk_kept (g := gb29) (o := .cells #[.slice Ao231 t23.length co231, .slice Ao236 t26.length co236] 54 (0, 0)) bk_ hkp (fun hs_ => typed_ne (g := gb29) (cs := #[.slice Ao231 t23.length co231, .slice Ao236 t26.length co236]) (T := 54) hs_.2 bk_ (by decide))); have n15_ := Aside0.mk (hb); clear HO8; clear HO11; clear HO14; clear HO17; clear HO21; clear HO25; clear HO28; clear HO32; clear HO37; clear HO41; clear HO44; clear BK1; clear BK2; clear BK22; clear BK29; clear HB; have HO8 := n0_; have HO11 := n1_; have HO14 := n2_; have HO17 := n3_; have HO21 := n4_; have HO25 := n5_; have HO28 := n6_; have HO32 := n7_; have HO37 := n8_; have HO41 := n9_; have HO44 := n10_; have BK1 := n11_; have BK2 := n12_; have BK22 := n13_; have BK29 := n14_; have HB := n15_; clear n0_ n1_ n2_ n3_ n4_ n5_ n6_ n7_ n8_ n9_ n10_ n11_ n12_ n13_ n14_ n15_; (try clear hb); (try clear hb2); (try clear hk); (try clear hi)) | (go_at_call 48; (with_reducible refine (laws_eqMoveS.calls k _ _ t30 _ _ t15 true _ ?side1 ?side2 ?side3 ?side4 A84.out).mono ?_); (case side1 => repeat (first | exact (Kd.R_reads' HO32.out).2.2 | (with_reducible refine Kd.C_alloc ?_ _) | (with_reducible refine Kd.C_drewN ?_ _) | (with_reducible refine Kd.C_drew ?_))); (case side2 => exact (Kd.R_reads' HO32.out).2.1); (case side3 => repeat (first | exact (Kd.R_reads' HO17.out).2.2 | (with_reducible refine Kd.C_alloc ?_ _) | (with_reducible refine Kd.C_drewN ?_ _) | (with_reducible refine Kd.C_drew ?_))); (case side4 => exact (Kd.R_reads' HO17.out).2.1); rintro e w255 ⟨rfl, hb⟩; have n0_ := Aside0.mk (Kd.S_below (sx_ HO8.out) hb); have n1_ := Aside0.mk (Kd.R_below (rx_ HO11.out) hb); have n2_ := Aside0.mk (Kd.S_below (sx_ HO14.out) hb); have n3_ := Aside0.mk (Kd.R_below (rx_ HO17.out) hb); have n4_ := Aside0.mk (Kd.S_below (sx_ HO21.out) hb); have n5_ := Aside0.mk (Kd.R_below (rx_ HO25.out) hb); have n6_ := Aside0.mk (Kd.S_below (sx_ HO28.out) hb); have n7_ := Aside0.mk (Kd.R_below (rx_ HO32.out) hb); have n8_ := Aside0.mk (Kd.S_below (sx_ HO37.out) hb); have n9_ := Aside0.mk (Kd.R_below (rx_ HO41.out) hb); have n10_ := Aside0.mk (Kd.S_below (sx_ HO44.out) hb); have n11_ := bb_ BK1.out hb; have n12_ := bb_ BK2.out hb; have n13_ := bb_ BK22.out hb; have n14_ := bb_ BK29.out hb; have n15_ := bs_ hb; clear HO8; clear HO11; clear HO14; clear HO17; clear HO21; clear HO25; clear HO28; clear HO32; clear HO37; clear HO41; clear HO44; clear BK1; clear BK2; clear BK22; clear BK29; clear HB; have HO8 := n0_; have HO11 := n1_; have HO14 := n2_; have HO17 := n3_; have HO21 := n4_; have HO25 := n5_; have HO28 := n6_; have HO32 := n7_; have HO37 := n8_; have HO41 := n9_; have HO44 := n10_; have BK1 := n11_; have BK2 := n12_; have BK22 := n13_; have BK29 := n14_; have HB := n15_; clear n0_ n1_ n2_ n3_ n4_ n5_ n6_ n7_ n8_ n9_ n10_ n11_ n12_ n13_ n14_ n15_; (try clear hb); (try clear hb2); (try clear hk); (try clear hi)) | ((with_reducible refine gate_callee (f := 49) rfl ?_); refine goesL_ (some 66) rfl rfl Try.func49 (by kernel_rfl) rfl #[.slice Ao239 t30.length co239, .int .i64 1] rfl ar_ ?_; (with_reducible refine (laws_markMoveS.calls k (fun k_ => some k_ = (.slice Ao239 t30.length co239 : Value).ownBlock) (.slice Ao239 t30.length co239) t30 1 t49 t50 w _ ?side1 ?side2 A86.out).mono ?_); (case side1 => repeat (first | (with_reducible first | exact HB.out | apply below_alloc | apply pw_below_drewN | apply below_drew1 | refine below_set ?_ GE1.out | refine below_set ?_ GE2.out | refine below_set ?_ GE22.out | refine below_set ?_ GE29.out) | exact HB.out)); (case side2 => exact Kd.R_tight rfl HO32.out); rintro e w256 ⟨rfl, hy0, hb, hkp⟩; refine ⟨_, rfl, ?_⟩; have n0_ := Aside0.mk (blk_kept bk_ hkp (fun hs_ => (fun e_ => (Kd.R_ne HO32.out BK1.out (by decide)) e_) hs_)); have n1_ := Aside0.mk (blk_kept bk_ hkp (fun hs_ => (fun e_ => (Kd.R_ne HO32.out BK2.out (by decide)) e_) hs_)); have n2_ := Aside0.mk (Kd.S_keptX HO8.out (by repeat (first | exact HO8.out | (with_reducible refine Kd.S_alloc ?_ _) | (with_reducible refine Kd.S_drewN ?_ _) | (with_reducible refine Kd.S_drew ?_))) hkp (fun k_ hk_ hs_ => Nat.not_lt.2 (HO32.out.1 k_ hs_.symm).1.1.1 hk_.1.1.2)); have n3_ := Aside0.mk (Kd.R_keptX HO11.out (by repeat (first | exact HO11.out | (with_reducible refine Kd.R_alloc ?_ _) | (with_reducible refine Kd.R_drewN ?_ _) | (with_reducible refine Kd.R_drew ?_))) hkp (fun k_ hk_ hs_ => Nat.not_lt.2 (HO32.out.1 k_ hs_.symm).1.1.1 hk_.1.1.2)); have n4_ := Aside0.mk (Kd.S_keptX HO14.out (by repeat (first | exact HO14.out | (with_reducible refine Kd.S_alloc ?_ _) | (with_reducible refine Kd.S_drewN ?_ _) | (with_reducible refine Kd.S_drew ?_))) hkp (fun k_ hk_ hs_ => Nat.not_lt.2 (HO32.out.1 k_ hs_.symm).1.1.1 hk_.1.1.2)); have n5_ := Aside0.mk (Kd.R_keptX HO17.out (by repeat (first | exact HO17.out | (with_reducible refine Kd.R_alloc ?_ _) | (with_reducible refine Kd.R_drewN ?_ _) | (with_reducible refine Kd.R_drew ?_))) hkp (fun k_ hk_ hs_ => Nat.not_lt.2 (HO32.out.1 k_ hs_.symm).1.1.1 hk_.1.1.2)); have n6_ := Aside0.mk (Kd.S_keptX HO21.out (by repeat (first | exact HO21.out | (with_reducible refine Kd.S_alloc ?_ _) | (with_reducible refine Kd.S_drewN ?_ _) | (with_reducible refine Kd.S_drew ?_))) hkp (fun k_ hk_ hs_ => Nat.not_lt.2 (HO32.out.1 k_ hs_.symm).1.1.1 hk_.1.1.2)); have n7_ := Aside0.mk (blk_kept bk_ hkp (fun hs_ => (fun e_ => (Kd.R_ne HO32.out BK22.out (by decide)) e_) hs_)); have n8_ := Aside0.mk (Kd.R_keptX HO25.out (by repeat (first | exact HO25.out | (with_reducible refine Kd.R_alloc ?_ _) | (with_reducible refine Kd.R_drewN ?_ _) | (with_reducible refine Kd.R_drew ?_))) hkp (fun k_ hk_ hs_ => Nat.not_lt.2 (HO32.out.1 k_ hs_.symm).1.1.1 hk_.1.1.2)); have n9_ := Aside0.mk (Kd.S_keptX HO28.out (by repeat (first | exact HO28.out | (with_reducible refine Kd.S_alloc ?_ _) | (with_reducible refine Kd.S_drewN ?_ _) | (with_reducible refine Kd.S_drew ?_))) hkp (fun k_ hk_ hs_ => Nat.not_lt.2 (HO32.out.1 k_ hs_.symm).1.1.1 hk_.1.1.2)); have n10_ := Aside0.mk (blk_kept bk_ hkp (fun hs_ => (fun e_ => (Kd.R_ne HO32.out BK29.out (by decide)) e_) hs_)); have n11_ := Aside0.mk (Kd.R_reok rfl hy0 (fun k_ e_ => HO32.out.1 k_ e_)); have n12_ := Aside0.mk (Kd.S_keptX HO37.out (by repeat (first | exact HO37.out | (with_reducible refine Kd.S_alloc ?_ _) | (with_reducible refine Kd.S_drewN ?_ _) | (with_reducible refine Kd.S_drew ?_))) hkp (fun k_ hk_ hs_ => Nat.not_lt.2 hk_.1.1 (HO32.out.1 k_ hs_.symm).1.2)); have n13_ := Aside0.mk (Kd.R_keptX HO41.out (by repeat (first | exact HO41.out | (with_reducible refine Kd.R_alloc ?_ _) | (with_reducible refine Kd.R_drewN ?_ _) | (with_reducible refine Kd.R_drew ?_))) hkp (fun k_ hk_ hs_ => Nat.not_lt.2 hk_.1 (HO32.out.1 k_ hs_.symm).2)); have n14_ := Aside0.mk (Kd.S_keptX HO44.out (by repeat (first | exact HO44.out | (with_reducible refine Kd.S_alloc ?_ _) | (with_reducible refine Kd.S_drewN ?_ _) | (with_reducible refine Kd.S_drew ?_))) hkp (fun k_ hk_ hs_ => Nat.not_lt.2 hk_.1 (HO32.out.1 k_ hs_.symm).2)); have n15_ := Aside0.mk (hb); clear BK1; clear BK2; clear HO8; clear HO11; clear HO14; clear HO17; clear HO21; clear BK22; clear HO25; clear HO28; clear BK29; clear HO32; clear HO37; clear HO41; clear HO44; clear HB; have BK1 := n0_; have BK2 := n1_; have HO8 := n2_; have HO11 := n3_; have HO14 := n4_; have HO17 := n5_; have HO21 := n6_; have BK22 := n7_; have HO25 := n8_; have HO28 := n9_; have BK29 := n10_; have HO32 := n11_; have HO37 := n12_; have HO41 := n13_; have HO44 := n14_; have HB := n15_; clear n0_ n1_ n2_ n3_ n4_ n5_ n6_ n7_ n8_ n9_ n10_ n11_ n12_ n13_ n14_ n15_; (try clear hb); (try clear hkp); (try clear hy0)) | ((with_reducible refine gate_callee (f := 50) rfl ?_); refine goesL_ (some 69) rfl rfl Try.func50 (by kernel_rfl) rfl #[.slice Ao239 t50.length co239, .int .i64 1] rfl (by (try simp only [List.map_toArray, List.map_cons, List.map_nil]); first | done | (rw [show t50.length = t30.length from (Kd.R_reads' HO32.out).1.symm] <;> rfl) | rfl | (simp only [List.length_drop, List.length_take]; rfl)) ?_; (with_reducible refine (laws_heldMoveS.calls k _ _ t50 1 t51 _ ?side1 ?side2 A87.out).mono ?_); (case side1 => repeat (first | exact (Kd.R_reads' HO32.out).2.2 | (with_reducible refine Kd.C_alloc ?_ _) | (with_reducible refine Kd.C_drewN ?_ _) | (with_reducible refine Kd.C_drew ?_))); (case side2 => rw [show t50.length = t30.length from (Kd.R_reads' HO32.out).1.symm]; exact (Kd.R_reads' HO32.out).2.1); rintro e w' ⟨rfl, ⟨nd, rfl⟩⟩; refine ⟨_, rfl, ?_⟩))
 rw [drewN_self w256]
 generalize hq_ : World.drewN w256 _ = w256
 have n0_ := Aside0.mk (Kd.R_drewN HO11.out nd); rw [hq_] at n0_
 have n1_ := Aside0.mk (Kd.S_drewN HO14.out nd); rw [hq_] at n1_
 have n2_ := Aside0.mk (Kd.R_drewN HO17.out nd); rw [hq_] at n2_
 have n3_ := Aside0.mk (Kd.S_drewN HO21.out nd); rw [hq_] at n3_
 have n4_ := Aside0.mk (Kd.R_drewN HO25.out nd); rw [hq_] at n4_
 have n5_ := Aside0.mk (Kd.S_drewN HO28.out nd); rw [hq_] at n5_
 have n6_ := Aside0.mk (Kd.R_drewN HO32.out nd); rw [hq_] at n6_
 have n7_ := Aside0.mk (Kd.S_drewN HO37.out nd); rw [hq_] at n7_
 have n8_ := Aside0.mk (Kd.R_drewN HO41.out nd); rw [hq_] at n8_
 have n9_ := Aside0.mk (Kd.S_drewN HO44.out nd); rw [hq_] at n9_
 have n10_ := Aside0.mk (Kd.S_drewN HO8.out nd); rw [hq_] at n10_
 have n11_ : Aside0 (w256.heap[gb1]? = some (.cells #[.int .i64 a0_0, .slice A0_1 l0_1.length c0_1] 35 (0, 0))) := ⟨by rw [← hq_]; exact bk_⟩
 have n12_ : Aside0 (w256.heap[gb2]? = some (.cells #[.slice A1_0 l1_0.length c1_0, .slice A1_1 l1_1.length c1_1] 72 (0, 0))) := ⟨by rw [← hq_]; exact bk_⟩
 have n13_ : Aside0 (w256.heap[gb22]? = some (.cells #[.int .i64 t18, .slice Ao227 t19.length co227] 39 (0, 0))) := ⟨by rw [← hq_]; exact bk_⟩
 have n14_ : Aside0 (w256.heap[gb29]? = some (.cells #[.slice Ao231 t23.length co231, .slice Ao236 t26.length co236] 54 (0, 0))) := ⟨by rw [← hq_]; exact bk_⟩
 have n15_ : Aside0 (Below w.heap.size w w256) := ⟨by rw [← hq_]; exact bw_⟩
 clear HO11 HO14 HO17 HO21 HO25 HO28 HO32 HO37 HO41 HO44 HO8 BK1 BK2 BK22 BK29 HB hq_
 have HO11 := n0_
 have HO14 := n1_
 have HO17 := n2_
 have HO21 := n3_
 have HO25 := n4_
 have HO28 := n5_
 have HO32 := n6_
 have HO37 := n7_
 have HO41 := n8_
 have HO44 := n9_
 have HO8 := n10_
 have BK1 := n11_
 have BK2 := n12_
 have BK22 := n13_
 have BK29 := n14_
 have HB := n15_
 clear n0_ n1_ n2_ n3_ n4_ n5_ n6_ n7_ n8_ n9_ n10_ n11_ n12_ n13_ n14_ n15_
 have n0_ := Aside0.mk (Kd.S_drew HO8.out)
 have n1_ := Aside0.mk (Kd.R_drew HO11.out)
 have n2_ := Aside0.mk (Kd.S_drew HO14.out)
 have n3_ := Aside0.mk (Kd.R_drew HO17.out)
 have n4_ := Aside0.mk (Kd.S_drew HO21.out)
 have n5_ := Aside0.mk (Kd.R_drew HO25.out)
 have n6_ := Aside0.mk (Kd.S_drew HO28.out)
 have n7_ := Aside0.mk (Kd.R_drew HO32.out)
 have n8_ := Aside0.mk (Kd.S_drew HO37.out)
 have n9_ := Aside0.mk (Kd.R_drew HO41.out)
 have n10_ := Aside0.mk (Kd.S_drew HO44.out)
 have n11_ := Aside0.mk (blk_drew BK1.out)
 have n12_ := Aside0.mk (blk_drew BK2.out)
 have n13_ := Aside0.mk (blk_drew BK22.out)
 have n14_ := Aside0.mk (blk_drew BK29.out)
 have n15_ := Aside0.mk (below_drew1 HB.out)
 clear HO8
 clear HO11
 clear HO14
 clear HO17
 clear HO21
 clear HO25
 clear HO28
 clear HO32
 clear HO37
 clear HO41
 clear HO44
 clear BK1
 clear BK2
 clear BK22
 clear BK29
 clear HB
 have HO8 := n0_
 have HO11 := n1_
 have HO14 := n2_
 have HO17 := n3_
 have HO21 := n4_
 have HO25 := n5_
 have HO28 := n6_
 have HO32 := n7_
 have HO37 := n8_
 have HO41 := n9_
 have HO44 := n10_
 have BK1 := n11_
 have BK2 := n12_
 have BK22 := n13_
 have BK29 := n14_
 have HB := n15_
 clear n0_ n1_ n2_ n3_ n4_ n5_ n6_ n7_ n8_ n9_ n10_ n11_ n12_ n13_ n14_ n15_
 refine start_ (n := 6) (S := fun w' => w'.cell? ⟨gb1, 0, none⟩ = some (.int .i64 a0_0) ∧ w'.cell? ⟨gb1, 1, none⟩ = some (.slice A0_1 l0_1.length c0_1) ∧ w'.cell? ⟨gb2, 0, none⟩ = some (.slice A1_0 l1_0.length c1_0) ∧ w'.cell? ⟨gb2, 1, none⟩ = some (.slice A1_1 l1_1.length c1_1)) (ds := []) #[false, false, false, false, false, false] (by kernel_rfl) rfl rfl ⟨(blk_cell BK1.out 0).trans rfl, (blk_cell BK1.out 1).trans rfl, (blk_cell BK2.out 0).trans rfl, (blk_cell BK2.out 1).trans rfl⟩ (fun hHeld => ?_)
 generalize w256.drew = w257 at HO8 HO11 HO14 HO17 HO21 HO25 HO28 HO32 HO37 HO41 HO44 BK1 BK2 BK22 BK29 HB hHeld ⊢
 refine take_ (i := 0) (N := some 75) (v := ?_) (a' := ?_) (bm_ 6 1) rfl rfl (by kernel_rfl) (fun _ _ _ h => h) (Or.inl ⟨by rfl, ?_⟩) hHeld ?_ ?_
 rotate_left
 ·rintro w' ⟨s0, s1, s2, s3⟩
  go_simp
  with_reducible rfl
 rotate_left
 ·exact pu_
 refine take_ (i := 2) (N := some 77) (v := ?_) (a' := ?_) (bm_ 6 5) rfl rfl (by kernel_rfl) (fun _ _ _ h => h) (Or.inl ⟨by rfl, ?_⟩) hHeld ?_ ?_
 rotate_left
 ·rintro w' ⟨s0, s1, s2, s3⟩
  go_simp
  with_reducible rfl
 rotate_left
 ·exact pu_
 refine one_ (i := 1) (N := some 76) (bm_ 6 7) rfl rfl (by kernel_rfl) (by decide) (fun K hK => ?_)
 refine goes_ Try.func21 (by kernel_rfl) rfl #[.agg #[.int .i64 a0_0, .slice A0_1 l0_1.length c0_1]] (by rfl) rfl rfl ar_ ?_
 with_reducible refine (laws_toProg.calls k a0_0 _ _ l0_1 t52 t53 _ ?side1 ?side2 A140.out).mono ?_
 (case side1 => exact cb_)
 (case side2 => exact HC0_1.out)
 rintro e w258 ⟨v54, rfl, ho0, hb⟩
 refine ⟨_, rfl, ?_⟩
 have n0_ := Aside0.mk (Kd.S_young (sx_ HO8.out) hb)
 have n1_ := Aside0.mk (Kd.R_young (rx_ HO11.out) hb)
 have n2_ := Aside0.mk (Kd.S_young (sx_ HO14.out) hb)
 have n3_ := Aside0.mk (Kd.R_young (rx_ HO17.out) hb)
 have n4_ := Aside0.mk (Kd.S_young (sx_ HO21.out) hb)
 have n5_ := Aside0.mk (Kd.R_young (rx_ HO25.out) hb)
 have n6_ := Aside0.mk (Kd.S_young (sx_ HO28.out) hb)
 have n7_ := Aside0.mk (Kd.R_young (rx_ HO32.out) hb)
 have n8_ := Aside0.mk (Kd.S_young (sx_ HO37.out) hb)
 have n9_ := Aside0.mk (Kd.R_young (rx_ HO41.out) hb)
 have n10_ := Aside0.mk (Kd.S_young (sx_ HO44.out) hb)
 have n11_ := Aside0.mk (Kd.S_fresh ho0 (below_size bw_))
 have n12_ := bb_ BK1.out hb
 have n13_ := bb_ BK2.out hb
 have n14_ := bb_ BK22.out hb
 have n15_ := bb_ BK29.out hb
 have n16_ := bs_ hb
 clear HO8
 clear HO11
 clear HO14
 clear HO17
 clear HO21
 clear HO25
 clear HO28
 clear HO32
 clear HO37
 clear HO41
 clear HO44
 clear BK1
 clear BK2
 clear BK22
 clear BK29
 clear HB
 have HO8 := n0_
 have HO11 := n1_
 have HO14 := n2_
 have HO17 := n3_
 have HO21 := n4_
 have HO25 := n5_
 have HO28 := n6_
 have HO32 := n7_
 have HO37 := n8_
 have HO41 := n9_
 have HO44 := n10_
 have HO55 := n11_
 have BK1 := n12_
 have BK2 := n13_
 have BK22 := n14_
 have BK29 := n15_
 have HB := n16_
 clear n0_ n1_ n2_ n3_ n4_ n5_ n6_ n7_ n8_ n9_ n10_ n11_ n12_ n13_ n14_ n15_ n16_
 (try clear hb)
 (try clear hb2)
 (try clear hk)
 (try clear hi)
 (try clear ho0)
 refine hK.out _ _ ⟨(blk_cell BK1.out 0).trans rfl, (blk_cell BK1.out 1).trans rfl, (blk_cell BK2.out 0).trans rfl, (blk_cell BK2.out 1).trans rfl⟩ (fun hHeld => ?_)
 clear hK K
 refine norm_ (a' := ?_) ?_ ?_
 rotate_left
 ·show Act.put _ (some 76) _ = _
  simp only [Act.put, List.setIfInBounds_toArray, List.set_cons_zero, List.set_cons_succ, i64_w, i32_w]
  rfl
 refine one_ (i := 3) (N := some 78) (bm_ 6 15) rfl rfl (by kernel_rfl) (by decide) (fun K hK => ?_)
 refine goes_ Try.func46 (by kernel_rfl) rfl #[.agg #[.slice A1_0 l1_0.length c1_0, .slice A1_1 l1_1.length c1_1]] (by rfl) rfl rfl ar_ ?_
 with_reducible refine (laws_toMachine.calls k _ _ l1_0 _ _ l1_1 t56 t59 _ ?side1 ?side2 ?side3 ?side4 A141.out).mono ?_
 (case side1 => exact cb_)
 (case side2 => exact HC1_0.out)
 (case side3 => exact cb_)
 (case side4 => exact HC1_1.out)
 rintro e w259 ⟨v57, v60, rfl, ho0, ho1, hb⟩
 refine ⟨_, rfl, ?_⟩
 have n0_ := Aside0.mk (Kd.S_young (sx_ HO8.out) hb)
 have n1_ := Aside0.mk (Kd.R_young (rx_ HO11.out) hb)
 have n2_ := Aside0.mk (Kd.S_young (sx_ HO14.out) hb)
 have n3_ := Aside0.mk (Kd.R_young (rx_ HO17.out) hb)
 have n4_ := Aside0.mk (Kd.S_young (sx_ HO21.out) hb)
 have n5_ := Aside0.mk (Kd.R_young (rx_ HO25.out) hb)
 have n6_ := Aside0.mk (Kd.S_young (sx_ HO28.out) hb)
 have n7_ := Aside0.mk (Kd.R_young (rx_ HO32.out) hb)
 have n8_ := Aside0.mk (Kd.S_young (sx_ HO37.out) hb)
 have n9_ := Aside0.mk (Kd.R_young (rx_ HO41.out) hb)
 have n10_ := Aside0.mk (Kd.S_young (sx_ HO44.out) hb)
 have n11_ := Aside0.mk (Kd.S_young (sx_ HO55.out) hb)
 have n12_ := Aside0.mk (Kd.R_fresh ho0 (below_size bw_))
 have n13_ := Aside0.mk (Kd.S_fresh ho1 (below_size bw_))
 have n14_ := bb_ BK1.out hb
 have n15_ := bb_ BK2.out hb
 have n16_ := bb_ BK22.out hb
 have n17_ := bb_ BK29.out hb
 have n18_ := bs_ hb
 clear HO8
 clear HO11
 clear HO14
 clear HO17
 clear HO21
 clear HO25
 clear HO28
 clear HO32
 clear HO37
 clear HO41
 clear HO44
 clear HO55
 clear BK1
 clear BK2
 clear BK22
 clear BK29
 clear HB
 have HO8 := n0_
 have HO11 := n1_
 have HO14 := n2_
 have HO17 := n3_
 have HO21 := n4_
 have HO25 := n5_
 have HO28 := n6_
 have HO32 := n7_
 have HO37 := n8_
 have HO41 := n9_
 have HO44 := n10_
 have HO55 := n11_
 have HO58 := n12_
 have HO61 := n13_
 have BK1 := n14_
 have BK2 := n15_
 have BK22 := n16_
 have BK29 := n17_
 have HB := n18_
 clear n0_ n1_ n2_ n3_ n4_ n5_ n6_ n7_ n8_ n9_ n10_ n11_ n12_ n13_ n14_ n15_ n16_ n17_ n18_
 (try clear hb)
 (try clear hb2)
 (try clear hk)
 (try clear hi)
 (try clear ho0)
 (try clear ho1)
 obtain ⟨Ao260, co260, eo260⟩ := Kd.S_slice HO55.out
 (first | subst eo260 | (injection eo260 with f1_ f2_ f3_; have f4_ := f1_.symm; have f5_ := f3_.symm; clear f1_ f2_ f3_; subst f4_; subst f5_))
 obtain ⟨Ao261, co261, eo261⟩ := Kd.R_slice HO58.out
 (first | subst eo261 | (injection eo261 with f1_ f2_ f3_; have f4_ := f1_.symm; have f5_ := f3_.symm; clear f1_ f2_ f3_; subst f4_; subst f5_))
 obtain ⟨Ao262, co262, eo262⟩ := Kd.S_slice HO61.out
 (first | subst eo262 | (injection eo262 with f1_ f2_ f3_; have f4_ := f1_.symm; have f5_ := f3_.symm; clear f1_ f2_ f3_; subst f4_; subst f5_))
 refine hK.out _ _ ⟨(blk_cell BK1.out 0).trans rfl, (blk_cell BK1.out 1).trans rfl, (blk_cell BK2.out 0).trans rfl, (blk_cell BK2.out 1).trans rfl⟩ (fun hHeld => ?_)
 clear hK K
 refine norm_ (a' := ?_) ?_ ?_
 rotate_left
 ·show Act.put _ (some 78) _ = _
  simp only [Act.put, List.setIfInBounds_toArray, List.set_cons_zero, List.set_cons_succ, i64_w, i32_w]
  rfl
 refine one_ (i := 4) (N := some 79) (bm_ 6 31) rfl rfl (by kernel_rfl) (by decide) (fun K hK => ?_)
 refine goes_ Try.func47 (by kernel_rfl) rfl #[.agg #[.int .i64 t52, .slice Ao260 t53.length co260], .agg #[.slice Ao261 t56.length co261, .slice Ao262 t59.length co262]] (by rfl) rfl rfl ar_ ?_
 with_reducible refine (impl_Moves.calls k t52 _ _ t53 _ _ t56 _ _ t59 t62 _ ?side1 ?side2 ?side3 ?side4 ?side5 ?side6 A142.out).mono ?_
 (case side1 => repeat (first | exact (Kd.S_reads' HO55.out).2.2 | (with_reducible refine Kd.C_alloc ?_ _) | (with_reducible refine Kd.C_drewN ?_ _) | (with_reducible refine Kd.C_drew ?_)))
 (case side2 => exact (Kd.S_reads' HO55.out).2.1)
 (case side3 => repeat (first | exact (Kd.R_reads' HO58.out).2.2 | (with_reducible refine Kd.C_alloc ?_ _) | (with_reducible refine Kd.C_drewN ?_ _) | (with_reducible refine Kd.C_drew ?_)))
 (case side4 => exact (Kd.R_reads' HO58.out).2.1)
 (case side5 => repeat (first | exact (Kd.S_reads' HO61.out).2.2 | (with_reducible refine Kd.C_alloc ?_ _) | (with_reducible refine Kd.C_drewN ?_ _) | (with_reducible refine Kd.C_drew ?_)))
 (case side6 => exact (Kd.S_reads' HO61.out).2.1)
 rintro e w263 ⟨v63, rfl, ho0, hb⟩
 refine ⟨_, rfl, ?_⟩
 have n0_ := Aside0.mk (Kd.S_young (sx_ HO8.out) hb)
 have n1_ := Aside0.mk (Kd.R_young (rx_ HO11.out) hb)
 have n2_ := Aside0.mk (Kd.S_young (sx_ HO14.out) hb)
 have n3_ := Aside0.mk (Kd.R_young (rx_ HO17.out) hb)
 have n4_ := Aside0.mk (Kd.S_young (sx_ HO21.out) hb)
 have n5_ := Aside0.mk (Kd.R_young (rx_ HO25.out) hb)
 have n6_ := Aside0.mk (Kd.S_young (sx_ HO28.out) hb)
 have n7_ := Aside0.mk (Kd.R_young (rx_ HO32.out) hb)
 have n8_ := Aside0.mk (Kd.S_young (sx_ HO37.out) hb)
 have n9_ := Aside0.mk (Kd.R_young (rx_ HO41.out) hb)
 have n10_ := Aside0.mk (Kd.S_young (sx_ HO44.out) hb)
 have n11_ := Aside0.mk (Kd.S_young (sx_ HO55.out) hb)
 have n12_ := Aside0.mk (Kd.R_young (rx_ HO58.out) hb)
 have n13_ := Aside0.mk (Kd.S_young (sx_ HO61.out) hb)
 have n14_ := Aside0.mk (Kd.R_fresh ho0 (below_size bw_))
 have n15_ := bb_ BK1.out hb
 have n16_ := bb_ BK2.out hb
 have n17_ := bb_ BK22.out hb
 have n18_ := bb_ BK29.out hb
 have n19_ := bs_ hb
 clear HO8
 clear HO11
 clear HO14
 clear HO17
 clear HO21
 clear HO25
 clear HO28
 clear HO32
 clear HO37
 clear HO41
 clear HO44
 clear HO55
 clear HO58
 clear HO61
 clear BK1
 clear BK2
 clear BK22
 clear BK29
 clear HB
 have HO8 := n0_
 have HO11 := n1_
 have HO14 := n2_
 have HO17 := n3_
 have HO21 := n4_
 have HO25 := n5_
 have HO28 := n6_
 have HO32 := n7_
 have HO37 := n8_
 have HO41 := n9_
 have HO44 := n10_
 have HO55 := n11_
 have HO58 := n12_
 have HO61 := n13_
 have HO64 := n14_
 have BK1 := n15_
 have BK2 := n16_
 have BK22 := n17_
 have BK29 := n18_
 have HB := n19_
 clear n0_ n1_ n2_ n3_ n4_ n5_ n6_ n7_ n8_ n9_ n10_ n11_ n12_ n13_ n14_ n15_ n16_ n17_ n18_ n19_
 (try clear hb)
 (try clear hb2)
 (try clear hk)
 (try clear hi)
 (try clear ho0)
 refine hK.out _ _ ⟨(blk_cell BK1.out 0).trans rfl, (blk_cell BK1.out 1).trans rfl, (blk_cell BK2.out 0).trans rfl, (blk_cell BK2.out 1).trans rfl⟩ (fun hHeld => ?_)
 clear hK K
 refine norm_ (a' := ?_) ?_ ?_
 rotate_left
 ·show Act.put _ (some 79) _ = _
  simp only [Act.put, List.setIfInBounds_toArray, List.set_cons_zero, List.set_cons_succ, i64_w, i32_w]
  rfl
 refine pure_ (i := 5) (N := some 13) (v := ?_) (a' := ?_) (bm_ 6 63) rfl rfl (by kernel_rfl) (fun _ _ _ h => h) (Or.inl ⟨by rfl, ?_⟩) ?_ ?_
 rotate_left
 ·intro w'
  go_simp
  with_reducible rfl
 rotate_left
 ·exact pu_
 refine done_ (by kernel_rfl) ?_
 obtain ⟨Ao264, co264, eo264⟩ := Kd.R_slice HO64.out
 subst eo264
 try go_wp2_with (first | ((with_reducible refine gate_callee (f := 48) rfl ?_); refine goesL_ (some 82) rfl rfl Try.func48 (by kernel_rfl) rfl #[.slice Ao264 t62.length co264, .slice Ao240 t15.length co240] rfl ar_ ?_; (with_reducible refine (laws_eqMoveS.calls k _ _ t62 _ _ t15 true _ ?side1 ?side2 ?side3 ?side4 A143.out).mono ?_); (case side1 => repeat (first | exact (Kd.R_reads' HO64.out).2.2 | (with_reducible refine Kd.C_alloc ?_ _) | (with_reducible refine Kd.C_drewN ?_ _) | (with_reducible refine Kd.C_drew ?_))); (case side2 => exact (Kd.R_reads' HO64.out).2.1); (case side3 => repeat (first | exact (Kd.R_reads' HO17.out).2.2 | (with_reducible refine Kd.C_alloc ?_ _) | (with_reducible refine Kd.C_drewN ?_ _) | (with_reducible refine Kd.C_drew ?_))); (case side4 => exact (Kd.R_reads' HO17.out).2.1); rintro e w265 ⟨rfl, hb⟩; refine ⟨_, rfl, ?_⟩; have n0_ := Aside0.mk (Kd.S_below (sx_ HO8.out) hb); have n1_ := Aside0.mk (Kd.R_below (rx_ HO11.out) hb); have n2_ := Aside0.mk (Kd.S_below (sx_ HO14.out) hb); have n3_ := Aside0.mk (Kd.R_below (rx_ HO17.out) hb); have n4_ := Aside0.mk (Kd.S_below (sx_ HO21.out) hb); have n5_ := Aside0.mk (Kd.R_below (rx_ HO25.out) hb); have n6_ := Aside0.mk (Kd.S_below (sx_ HO28.out) hb); have n7_ := Aside0.mk (Kd.R_below (rx_ HO32.out) hb); have n8_ := Aside0.mk (Kd.S_below (sx_ HO37.out) hb); have n9_ := Aside0.mk (Kd.R_below (rx_ HO41.out) hb); have n10_ := Aside0.mk (Kd.S_below (sx_ HO44.out) hb); have n11_ := Aside0.mk (Kd.S_below (sx_ HO55.out) hb); have n12_ := Aside0.mk (Kd.R_below (rx_ HO58.out) hb); have n13_ := Aside0.mk (Kd.S_below (sx_ HO61.out) hb); have n14_ := Aside0.mk (Kd.R_below (rx_ HO64.out) hb); have n15_ := bb_ BK1.out hb; have n16_ := bb_ BK2.out hb; have n17_ := bb_ BK22.out hb; have n18_ := bb_ BK29.out hb; have n19_ := bs_ hb; clear HO8; clear HO11; clear HO14; clear HO17; clear HO21; clear HO25; clear HO28; clear HO32; clear HO37; clear HO41; clear HO44; clear HO55; clear HO58; clear HO61; clear HO64; clear BK1; clear BK2; clear BK22; clear BK29; clear HB; have HO8 := n0_; have HO11 := n1_; have HO14 := n2_; have HO17 := n3_; have HO21 := n4_; have HO25 := n5_; have HO28 := n6_; have HO32 := n7_; have HO37 := n8_; have HO41 := n9_; have HO44 := n10_; have HO55 := n11_; have HO58 := n12_; have HO61 := n13_; have HO64 := n14_; have BK1 := n15_; have BK2 := n16_; have BK22 := n17_; have BK29 := n18_; have HB := n19_; clear n0_ n1_ n2_ n3_ n4_ n5_ n6_ n7_ n8_ n9_ n10_ n11_ n12_ n13_ n14_ n15_ n16_ n17_ n18_ n19_; (try clear hb); (try clear hb2); (try clear hk); (try clear hi)) | ((with_reducible refine gate_callee (f := 50) rfl ?_); refine goesL_ (some 86) rfl rfl Try.func50 (by kernel_rfl) rfl #[.slice Ao239 t50.length co239, .int .i64 1] rfl (by (try simp only [List.map_toArray, List.map_cons, List.map_nil]); first | done | (rw [show t50.length = t30.length from (Kd.R_reads' HO32.out).1.symm] <;> rfl) | rfl | (simp only [List.length_drop, List.length_take]; rfl)) ?_; (with_reducible refine (laws_heldMoveS.calls k _ _ t50 1 t66 _ ?side1 ?side2 A145.out).mono ?_); (case side1 => repeat (first | exact (Kd.R_reads' HO32.out).2.2 | (with_reducible refine Kd.C_alloc ?_ _) | (with_reducible refine Kd.C_drewN ?_ _) | (with_reducible refine Kd.C_drew ?_))); (case side2 => rw [show t50.length = t30.length from (Kd.R_reads' HO32.out).1.symm]; exact (Kd.R_reads' HO32.out).2.1); rintro e w' ⟨rfl, ⟨nd, rfl⟩⟩; refine ⟨_, rfl, ?_⟩))
 go_ret
 exact ⟨rr_, bw_⟩

end Go.Proofs.Ytlfbdafghpmahaa.P
