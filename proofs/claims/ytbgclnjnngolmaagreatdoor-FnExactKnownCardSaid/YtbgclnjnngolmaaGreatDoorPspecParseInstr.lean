-- Written by mp.py (the session's own driver over the kit's printer) for the seat YtbgclnjnngolmaaGreatDoor.
import Derived.Test.YtbgclnjnngolmaaGreatDoorK
import Derived.Test.YtbgclnjnngolmaaGreatDoorPspecParseAsk
import Derived.Test.YtbgclnjnngolmaaGreatDoorPspecl01Parts
import Derived.Test.YtbgclnjnngolmaaGreatDoorPspecl01Value
namespace Go.Proofs.YtbgclnjnngolmaaGreatDoor.P
open Go.RowKit Go.Proofs.YtbgclnjnngolmaaGreatDoorW.PrintWords Go.Proofs.YtbgclnjnngolmaaGreatDoorW.PrintLast Go.Proofs.YtbgclnjnngolmaaGreatDoorW.PrintMore
attribute [local go_sem] max2_int min2_int max_two min_two max_three min_three max_four min_four
set_option linter.unusedVariables false
set_option linter.unusedSimpArgs false

/-! ### spec_ParseInstr: function 35 -/
mutual
def spec_ParseInstr.l0 : Nat → List ByteArray → Int → Int → Int → Int → Int → Option (Int × Int × Int × Int × Bool)
 | 0, _, _, _, _, _, _ => none
 | k + 1, x5, x6, x3000, x3001, x3002, x3003 => if x6 ≤ 8 then ((spec_l02Form.f x6).bind fun t6 => (if 0 < (x5.length : Int) then ((spec_l02Word.f x6).bind fun t8 => (if (rdOf ByteArray.empty x5 0).toList = t8.toList then (spec_ParseInstr.j1 k x5 x6 t6 ((x5.length : Int) != (wrap64 (1 + (t6.size : Int)))) x3000 x3001 x3002 x3003) else (spec_ParseInstr.j1 k x5 x6 t6 true x3000 x3001 x3002 x3003))) else (none))) else (some (x3000, x3001, x3002, x3003, false))
def spec_ParseInstr.j1 : Nat → List ByteArray → Int → ByteArray → Bool → Int → Int → Int → Int → Option (Int × Int × Int × Int × Bool)
 | 0, _, _, _, _, _, _, _, _ => none
 | k + 1, x5, x6, x7, x38, x3000, x3001, x3002, x3003 => if x38 = true then (spec_ParseInstr.l0 k x5 (wrap64 (x6 + 1)) x3000 x3001 x3002 x3003) else (spec_ParseInstr.l1 k x5 x7 0 x3000 x3001 x3002 x3003 x6 0 0 0)
def spec_ParseInstr.l1 : Nat → List ByteArray → ByteArray → Int → Int → Int → Int → Int → Int → Int → Int → Int → Option (Int × Int × Int × Int × Bool)
 | 0, _, _, _, _, _, _, _, _, _, _, _ => none
 | k + 1, x5, x7, x9, x3000, x3001, x3002, x3003, x10000, x10001, x10002, x10003 => if x9 < (x7.size : Int) then (if 0 ≤ (wrap64 (1 + x9)) then (if (wrap64 (1 + x9)) < (x5.length : Int) then ((spec_l01Read.f k (rdOf ByteArray.empty x5 (wrap64 (1 + x9)))).bind fun bt11 => (if bt11.2 = true then ((spec_l01Value.f bt11.1).bind fun t13 => (spec_ParseInstr.j3 k x5 x7 x9 bt11.1 (!t13) x3000 x3001 x3002 x3003 x10000 x10001 x10002 x10003)) else (spec_ParseInstr.j3 k x5 x7 x9 bt11.1 true x3000 x3001 x3002 x3003 x10000 x10001 x10002 x10003))) else (none)) else (none)) else (some (x10000, x10001, x10002, x10003, true))
def spec_ParseInstr.j3 : Nat → List ByteArray → ByteArray → Int → Int → Bool → Int → Int → Int → Int → Int → Int → Int → Int → Option (Int × Int × Int × Int × Bool)
 | 0, _, _, _, _, _, _, _, _, _, _, _, _, _ => none
 | k + 1, x5, x7, x9, x10, x62, x3000, x3001, x3002, x3003, x10000, x10001, x10002, x10003 => if x62 = true then (some (x3000, x3001, x3002, x3003, false)) else (if 0 ≤ x9 then (if x9 < (x7.size : Int) then (if (bt x7 x9) = 114 then (spec_ParseInstr.l1 k x5 x7 (wrap64 (x9 + 1)) x3000 x3001 x3002 x3003 x10000 x10 x10002 x10003) else (if (bt x7 x9) = 115 then (spec_ParseInstr.l1 k x5 x7 (wrap64 (x9 + 1)) x3000 x3001 x3002 x3003 x10000 x10001 x10 x10003) else (if (bt x7 x9) = 110 then (spec_ParseInstr.l1 k x5 x7 (wrap64 (x9 + 1)) x3000 x3001 x3002 x3003 x10000 x10001 x10002 x10) else (spec_ParseInstr.l1 k x5 x7 (wrap64 (x9 + 1)) x3000 x3001 x3002 x3003 x10000 x10001 x10002 x10003)))) else (none)) else (none))
end
def spec_ParseInstr.f (k : Nat) (a0 : ByteArray) : Option (Int × Int × Int × Int × Bool) := if (a0.size : Int) > 60 then (some (0, 0, 0, 0, false)) else ((spec_l01Parts.f k a0 32).bind fun t3 => (spec_ParseInstr.l0 k t3 0 0 0 0 0))
theorem spec_ParseInstr.mono_l : ∀ k, (∀ y0 y1 y2 y3 y4 y5, LeO (spec_ParseInstr.l0 k y0 y1 y2 y3 y4 y5) (spec_ParseInstr.l0 (k + 1) y0 y1 y2 y3 y4 y5)) ∧ (∀ y0 y1 y2 y3 y4 y5 y6 y7, LeO (spec_ParseInstr.j1 k y0 y1 y2 y3 y4 y5 y6 y7) (spec_ParseInstr.j1 (k + 1) y0 y1 y2 y3 y4 y5 y6 y7)) ∧ (∀ y0 y1 y2 y3 y4 y5 y6 y7 y8 y9 y10, LeO (spec_ParseInstr.l1 k y0 y1 y2 y3 y4 y5 y6 y7 y8 y9 y10) (spec_ParseInstr.l1 (k + 1) y0 y1 y2 y3 y4 y5 y6 y7 y8 y9 y10)) ∧ (∀ y0 y1 y2 y3 y4 y5 y6 y7 y8 y9 y10 y11 y12, LeO (spec_ParseInstr.j3 k y0 y1 y2 y3 y4 y5 y6 y7 y8 y9 y10 y11 y12) (spec_ParseInstr.j3 (k + 1) y0 y1 y2 y3 y4 y5 y6 y7 y8 y9 y10 y11 y12))
 | 0 => ⟨fun _ _ _ _ _ _ r h => by simp [spec_ParseInstr.l0] at h, fun _ _ _ _ _ _ _ _ r h => by simp [spec_ParseInstr.j1] at h, fun _ _ _ _ _ _ _ _ _ _ _ r h => by simp [spec_ParseInstr.l1] at h, fun _ _ _ _ _ _ _ _ _ _ _ _ _ r h => by simp [spec_ParseInstr.j3] at h⟩
 | k + 1 => by
  obtain ⟨ih0, ih1, ih2, ih3⟩ := spec_ParseInstr.mono_l k
  refine ⟨?_, ?_, ?_, ?_⟩
  ·intro y0 y1 y2 y3 y4 y5
   unfold spec_ParseInstr.l0
   repeat' first | (with_reducible first | exact ih0 _ _ _ _ _ _ | exact ih1 _ _ _ _ _ _ _ _ | exact ih2 _ _ _ _ _ _ _ _ _ _ _ | exact ih3 _ _ _ _ _ _ _ _ _ _ _ _ _ | exact spec_l01Parts.mono _ _ _ | exact spec_l01Read.mono _ _ | exact lr_ | exact ln_ | refine LeO.ite ?_ ?_ | refine LeO.bind ?_ (fun _ => ?_)) | exact ih0 _ _ _ _ _ _ | exact ih1 _ _ _ _ _ _ _ _ | exact ih2 _ _ _ _ _ _ _ _ _ _ _ | exact ih3 _ _ _ _ _ _ _ _ _ _ _ _ _ | exact spec_l01Parts.mono _ _ _ | exact spec_l01Read.mono _ _ | exact ln_ | refine LeO.ite ?_ ?_ | refine LeO.bind ?_ (fun _ => ?_)
  ·intro y0 y1 y2 y3 y4 y5 y6 y7
   unfold spec_ParseInstr.j1
   repeat' first | (with_reducible first | exact ih0 _ _ _ _ _ _ | exact ih1 _ _ _ _ _ _ _ _ | exact ih2 _ _ _ _ _ _ _ _ _ _ _ | exact ih3 _ _ _ _ _ _ _ _ _ _ _ _ _ | exact spec_l01Parts.mono _ _ _ | exact spec_l01Read.mono _ _ | exact lr_ | exact ln_ | refine LeO.ite ?_ ?_ | refine LeO.bind ?_ (fun _ => ?_)) | exact ih0 _ _ _ _ _ _ | exact ih1 _ _ _ _ _ _ _ _ | exact ih2 _ _ _ _ _ _ _ _ _ _ _ | exact ih3 _ _ _ _ _ _ _ _ _ _ _ _ _ | exact spec_l01Parts.mono _ _ _ | exact spec_l01Read.mono _ _ | exact ln_ | refine LeO.ite ?_ ?_ | refine LeO.bind ?_ (fun _ => ?_)
  ·intro y0 y1 y2 y3 y4 y5 y6 y7 y8 y9 y10
   unfold spec_ParseInstr.l1
   repeat' first | (with_reducible first | exact ih0 _ _ _ _ _ _ | exact ih1 _ _ _ _ _ _ _ _ | exact ih2 _ _ _ _ _ _ _ _ _ _ _ | exact ih3 _ _ _ _ _ _ _ _ _ _ _ _ _ | exact spec_l01Parts.mono _ _ _ | exact spec_l01Read.mono _ _ | exact lr_ | exact ln_ | refine LeO.ite ?_ ?_ | refine LeO.bind ?_ (fun _ => ?_)) | exact ih0 _ _ _ _ _ _ | exact ih1 _ _ _ _ _ _ _ _ | exact ih2 _ _ _ _ _ _ _ _ _ _ _ | exact ih3 _ _ _ _ _ _ _ _ _ _ _ _ _ | exact spec_l01Parts.mono _ _ _ | exact spec_l01Read.mono _ _ | exact ln_ | refine LeO.ite ?_ ?_ | refine LeO.bind ?_ (fun _ => ?_)
  ·intro y0 y1 y2 y3 y4 y5 y6 y7 y8 y9 y10 y11 y12
   unfold spec_ParseInstr.j3
   repeat' first | (with_reducible first | exact ih0 _ _ _ _ _ _ | exact ih1 _ _ _ _ _ _ _ _ | exact ih2 _ _ _ _ _ _ _ _ _ _ _ | exact ih3 _ _ _ _ _ _ _ _ _ _ _ _ _ | exact spec_l01Parts.mono _ _ _ | exact spec_l01Read.mono _ _ | exact lr_ | exact ln_ | refine LeO.ite ?_ ?_ | refine LeO.bind ?_ (fun _ => ?_)) | exact ih0 _ _ _ _ _ _ | exact ih1 _ _ _ _ _ _ _ _ | exact ih2 _ _ _ _ _ _ _ _ _ _ _ | exact ih3 _ _ _ _ _ _ _ _ _ _ _ _ _ | exact spec_l01Parts.mono _ _ _ | exact spec_l01Read.mono _ _ | exact ln_ | refine LeO.ite ?_ ?_ | refine LeO.bind ?_ (fun _ => ?_)
theorem spec_ParseInstr.mono : ∀ a0 k, LeO (spec_ParseInstr.f k a0) (spec_ParseInstr.f (k + 1) a0) := by
 intro a0 k
 obtain ⟨ih0, ih1, ih2, ih3⟩ := spec_ParseInstr.mono_l k
 unfold spec_ParseInstr.f
 repeat' first | (with_reducible first | exact ih0 _ _ _ _ _ _ | exact ih1 _ _ _ _ _ _ _ _ | exact ih2 _ _ _ _ _ _ _ _ _ _ _ | exact ih3 _ _ _ _ _ _ _ _ _ _ _ _ _ | exact spec_l01Parts.mono _ _ _ | exact spec_l01Read.mono _ _ | exact lr_ | exact ln_ | refine LeO.ite ?_ ?_ | refine LeO.bind ?_ (fun _ => ?_)) | exact ih0 _ _ _ _ _ _ | exact ih1 _ _ _ _ _ _ _ _ | exact ih2 _ _ _ _ _ _ _ _ _ _ _ | exact ih3 _ _ _ _ _ _ _ _ _ _ _ _ _ | exact spec_l01Parts.mono _ _ _ | exact spec_l01Read.mono _ _ | exact ln_ | refine LeO.ite ?_ ?_ | refine LeO.bind ?_ (fun _ => ?_)
def spec_ParseInstr.T9 : Bool × List (List Nat × List Nat) := (true, [([], []), ([0], [0]), ([1], [1]), ([], []), ([3], [3]), ([2, 4], [2, 4]), ([5, 4], [5]), ([6], [6]), ([7, 6], [6, 7]), ([6], [6]), ([9, 6], [6, 9]), ([10, 6], [6, 10]), ([8, 11, 6], [6, 8, 11]), ([6, 12], [6, 12])])
def spec_ParseInstr.B9 : List Nat := [0, 1, 3, 0, 8, 31, 63, 127, 255, 127, 639, 1663, 4095, 8191]
theorem spec_ParseInstr.tab9 : rtab .any (opsOf Tryz.f35 9) = spec_ParseInstr.T9 := by kernel_rfl
theorem spec_ParseInstr.bits9 : waitsOk spec_ParseInstr.T9.2 spec_ParseInstr.B9 = true := by kernel_rfl
set_option maxHeartbeats 8000000 in
set_option maxRecDepth 100000 in
theorem spec_ParseInstr.calls (k : Nat) (a0 : ByteArray) (r1 : Int) (r2 : Int) (r3 : Int) (r4 : Int) (r5 : Bool) (w : World) (h : spec_ParseInstr.f k a0 = some (r1, r2, r3, r4, r5)) :
  Calls Tryz.prog 35 #[.string a0] w fun e w' => e = .returned (.tuple #[.agg #[.int .i64 r1, .int .i64 r2, .int .i64 r3, .int .i64 r4], .bool r5]) ∧ Below w.heap.size w w' := by
 have hu55 := Tryz.underlying55
 have HB := Aside0.mk (Below.refl w.heap.size w)
 have H : (if (a0.size : Int) > 60 then (some (0, 0, 0, 0, false)) else ((spec_l01Parts.f k a0 32).bind fun t3 => (spec_ParseInstr.l0 k t3 0 0 0 0 0))) = some (r1, r2, r3, r4, r5) := h
 clear h
 by_cases c2 : (a0.size : Int) > 60
 ·rw [if_pos c2] at H
  have c2b0 : decide (60 < (a0.size : Int)) = true := decide_eq_true c2
  have c2b1 : decide (60 < a0.size) = true := decide_eq_true (by omega)
  clear c2
  simp only [Option.some.injEq, Prod.mk.injEq] at H
  obtain ⟨rfl, rfl, rfl, rfl, rfl⟩ := H
  go_enter Tryz.func35, Tryz.ntmps35
  go_wp2_with (first | ((with_reducible refine gate_dst (N := 2) rfl ?_); (try (refine gate_guard (by rfl) ?_; dsimp only)); refine box_event ?hg (N := 2) ?hd (cs := #[.int .i64 0, .int .i64 0, .int .i64 0, .int .i64 0]) (t := 55) ?hr ?_; (case hd => rfl); (case hg => rfl); (case hr => exact hrr_); intro gb1 hg w3 hbox hb; have n0_ := bs_ hb; have n1_ := Aside0.mk (hbox); have n2_ := ge_ (w := w) hg; have n3_ := ge_ (w := w) hg; clear HB; have HB := n0_; have BK1 := n1_; have GW1 := n2_; have GE1 := n3_; clear n0_ n1_ n2_ n3_; clear hb hbox hg) | ((with_reducible refine gate_dst (N := 4) rfl ?_); (try (refine gate_guard (by rfl) ?_; dsimp only)); refine box_event ?hg (N := 4) ?hd (cs := #[.int .i64 0, .int .i64 0, .int .i64 0, .int .i64 0]) (t := 55) ?hr ?_; (case hd => rfl); (case hg => rfl); (case hr => exact hrr_); intro gb2 hg w4 hbox hb; have n0_ := bb_ BK1.out hb; have n1_ := bs_ hb; have n2_ := Aside0.mk (hbox); have n3_ := ge_ (w := w) hg; have n4_ := ge_ (w := w) hg; have n5_ := nl_ BK1.out hg; have n6_ := nr_ BK1.out hg; clear BK1; clear HB; have BK1 := n0_; have HB := n1_; have BK2 := n2_; have GW2 := n3_; have GE2 := n4_; have NB1_2 := n5_; have NB2_1 := n6_; clear n0_ n1_ n2_ n3_ n4_ n5_ n6_; clear hb hbox hg; have hnb5 := NB2_1.out; have hnc5 := NB1_2.out; obtain ⟨hcz6_0, hcz6_1, hcz6_2, hcz6_3, hfz6_0, hfz6_1, hfz6_2, hfz6_3⟩ := bc4_ BK2.out; obtain ⟨hcz7_0, hcz7_1, hcz7_2, hcz7_3, hfz7_0, hfz7_1, hfz7_2, hfz7_3⟩ := bc4_ BK1.out))
  refine bodyPost_ret (results_ct rfl _ _ gb1 55 #[.int .i64 0, .int .i64 0, .int .i64 0, .int .i64 0] (0, 0) _ rfl (by (with_reducible repeat (first | refine blk_drewN ?_ _ | refine blk_drew ?_ | refine blk_alloc ?_ _)); refine blk_put (cs := #[.int .i64 0, .int .i64 0, .int .i64 0, .int .i64 0]) ?_ 3 _ rfl; (with_reducible repeat (first | refine blk_drewN ?_ _ | refine blk_drew ?_ | refine blk_alloc ?_ _)); refine blk_put (cs := #[.int .i64 0, .int .i64 0, .int .i64 0, .int .i64 0]) ?_ 2 _ rfl; (with_reducible repeat (first | refine blk_drewN ?_ _ | refine blk_drew ?_ | refine blk_alloc ?_ _)); refine blk_put (cs := #[.int .i64 0, .int .i64 0, .int .i64 0, .int .i64 0]) ?_ 1 _ rfl; (with_reducible repeat (first | refine blk_drewN ?_ _ | refine blk_drew ?_ | refine blk_alloc ?_ _)); refine blk_put (cs := #[.int .i64 0, .int .i64 0, .int .i64 0, .int .i64 0]) ?_ 0 _ rfl; (with_reducible repeat (first | refine blk_drewN ?_ _ | refine blk_drew ?_ | refine blk_alloc ?_ _)); refine blk_far ?_ NB1_2.out _; (with_reducible repeat (first | refine blk_drewN ?_ _ | refine blk_drew ?_ | refine blk_alloc ?_ _)); refine blk_far ?_ NB1_2.out _; (with_reducible repeat (first | refine blk_drewN ?_ _ | refine blk_drew ?_ | refine blk_alloc ?_ _)); refine blk_far ?_ NB1_2.out _; (with_reducible repeat (first | refine blk_drewN ?_ _ | refine blk_drew ?_ | refine blk_alloc ?_ _)); refine blk_far ?_ NB1_2.out _; (with_reducible repeat (first | refine blk_drewN ?_ _ | refine blk_drew ?_ | refine blk_alloc ?_ _)); exact BK1.out) Tryz.underlying55 rfl (by kernel_rfl)) rfl ?_
  exact ⟨rr_, bw_⟩
 rw [if_neg c2] at H
 have c2b0 : decide (60 < (a0.size : Int)) = false := decide_eq_false c2
 have c2b1 : decide (60 < a0.size) = false := decide_eq_false (by omega)
 clear c2
 replace H := Option.bind_eq_some_iff.mp H
 obtain ⟨t3, A80, H⟩ := H
 replace H : (spec_ParseInstr.l0 k t3 0 0 0 0 0) = some (r1, r2, r3, r4, r5) := H
 have A8 := Aside0.mk A80
 clear A80
 have H' := Aside0.mk H
 clear H
 go_enter Tryz.func35, Tryz.ntmps35
 go_wp2_with (first | ((with_reducible refine gate_dst (N := 2) rfl ?_); (try (refine gate_guard (by rfl) ?_; dsimp only)); refine box_event ?hg (N := 2) ?hd (cs := #[.int .i64 0, .int .i64 0, .int .i64 0, .int .i64 0]) (t := 55) ?hr ?_; (case hd => rfl); (case hg => rfl); (case hr => exact hrr_); intro gb1 hg w9 hbox hb; have n0_ := bs_ hb; have n1_ := Aside0.mk (hbox); have n2_ := ge_ (w := w) hg; have n3_ := ge_ (w := w) hg; clear HB; have HB := n0_; have BK1 := n1_; have GW1 := n2_; have GE1 := n3_; clear n0_ n1_ n2_ n3_; clear hb hbox hg) | ((with_reducible refine gate_dst (N := 4) rfl ?_); (try (refine gate_guard (by rfl) ?_; dsimp only)); refine box_event ?hg (N := 4) ?hd (cs := #[.int .i64 0, .int .i64 0, .int .i64 0, .int .i64 0]) (t := 55) ?hr ?_; (case hd => rfl); (case hg => rfl); (case hr => exact hrr_); intro gb2 hg w10 hbox hb; have n0_ := bb_ BK1.out hb; have n1_ := bs_ hb; have n2_ := Aside0.mk (hbox); have n3_ := ge_ (w := w) hg; have n4_ := ge_ (w := w) hg; have n5_ := nl_ BK1.out hg; have n6_ := nr_ BK1.out hg; clear BK1; clear HB; have BK1 := n0_; have HB := n1_; have BK2 := n2_; have GW2 := n3_; have GE2 := n4_; have NB1_2 := n5_; have NB2_1 := n6_; clear n0_ n1_ n2_ n3_ n4_ n5_ n6_; clear hb hbox hg; have hnb11 := NB2_1.out; have hnc11 := NB1_2.out; obtain ⟨hcz12_0, hcz12_1, hcz12_2, hcz12_3, hfz12_0, hfz12_1, hfz12_2, hfz12_3⟩ := bc4_ BK2.out) | ((with_reducible refine gate_callee (f := 21) rfl ?_); refine goesL_ (some 18) rfl rfl Tryz.func21 (by kernel_rfl) rfl #[.string a0, .int .u8 32] rfl ar_ ?_; (with_reducible refine (spec_l01Parts.calls k a0 32 t3 _ A8.out).mono ?_); rintro e w13 ⟨v4, rfl, ho0, hb⟩; refine ⟨_, rfl, ?_⟩; have n0_ := Aside0.mk (Kd.R_lower ho0 (below_size bw_)); have n1_ := Aside0.mk (blk_below (g := gb1) (o := .cells #[.int .i64 0, .int .i64 0, .int .i64 0, .int .i64 0] 55 (0, 0)) (by (with_reducible repeat (first | refine blk_drewN ?_ _ | refine blk_drew ?_ | refine blk_alloc ?_ _)); refine blk_far ?_ NB1_2.out _; (with_reducible repeat (first | refine blk_drewN ?_ _ | refine blk_drew ?_ | refine blk_alloc ?_ _)); refine blk_far ?_ NB1_2.out _; (with_reducible repeat (first | refine blk_drewN ?_ _ | refine blk_drew ?_ | refine blk_alloc ?_ _)); refine blk_far ?_ NB1_2.out _; (with_reducible repeat (first | refine blk_drewN ?_ _ | refine blk_drew ?_ | refine blk_alloc ?_ _)); refine blk_far ?_ NB1_2.out _; (with_reducible repeat (first | refine blk_drewN ?_ _ | refine blk_drew ?_ | refine blk_alloc ?_ _)); exact BK1.out) hb); have n2_ := Aside0.mk (blk_below (g := gb2) (o := .cells #[.int .i64 0, .int .i64 0, .int .i64 0, .int .i64 0] 55 (0, 0)) (by (with_reducible repeat (first | refine blk_drewN ?_ _ | refine blk_drew ?_ | refine blk_alloc ?_ _)); refine blk_put (cs := #[.int .i64 0, .int .i64 0, .int .i64 0, .int .i64 0]) ?_ 3 _ rfl; (with_reducible repeat (first | refine blk_drewN ?_ _ | refine blk_drew ?_ | refine blk_alloc ?_ _)); refine blk_put (cs := #[.int .i64 0, .int .i64 0, .int .i64 0, .int .i64 0]) ?_ 2 _ rfl; (with_reducible repeat (first | refine blk_drewN ?_ _ | refine blk_drew ?_ | refine blk_alloc ?_ _)); refine blk_put (cs := #[.int .i64 0, .int .i64 0, .int .i64 0, .int .i64 0]) ?_ 1 _ rfl; (with_reducible repeat (first | refine blk_drewN ?_ _ | refine blk_drew ?_ | refine blk_alloc ?_ _)); refine blk_put (cs := #[.int .i64 0, .int .i64 0, .int .i64 0, .int .i64 0]) ?_ 0 _ rfl; (with_reducible repeat (first | refine blk_drewN ?_ _ | refine blk_drew ?_ | refine blk_alloc ?_ _)); exact BK2.out) hb); have n3_ := bs_ hb; clear BK1; clear BK2; clear HB; have HO5 := n0_; have BK1 := n1_; have BK2 := n2_; have HB := n3_; clear n0_ n1_ n2_ n3_; (try clear hb); (try clear hb2); (try clear hk); (try clear hi); (try clear ho0)))
 go_loopg [6] k (fun kq v6 w' => ∃ (x6_1 : Int) (x2000_1 : Int) (x2001_1 : Int) (x2002_1 : Int) (x2003_1 : Int), v6 = .int .i64 x6_1 ∧ Aside0 (spec_ParseInstr.l0 kq t3 x6_1 0 0 0 0 = some (r1, r2, r3, r4, r5)) ∧ Aside0 (kq ≤ k) ∧ Aside0 (Kd.R Kd.string 9 w' w.heap.size (fun _ => True) v4 t3) ∧ Aside0 (w'.heap[gb1]? = some (.cells #[.int .i64 x2000_1, .int .i64 x2001_1, .int .i64 x2002_1, .int .i64 x2003_1] 55 (0, 0))) ∧ Aside0 (w'.heap[gb2]? = some (.cells #[.int .i64 0, .int .i64 0, .int .i64 0, .int .i64 0] 55 (0, 0))) ∧ Aside0 (Below w.heap.size w w'))
 case atStart => exact ⟨(0), (0), (0), (0), (0), sd_, H', ⟨Nat.le_refl _⟩, ⟨by (with_reducible repeat (first | apply Kd.R_alloc | apply Kd.R_drewN | apply Kd.R_drew)); exact HO5.out⟩, ⟨bk_⟩, ⟨bk_⟩, ⟨bw_⟩⟩
 case round =>
  clear H'
  try clear c1
  try clear c2
  try clear c2b0
  try clear c2b1
  try clear p2
  try clear c3
  try clear c5
  try clear c11
  try clear hcz12_0 hcz12_1 hcz12_2 hcz12_3
  try clear hcz6_0 hcz6_1 hcz6_2 hcz6_3
  try clear hcz7_0 hcz7_1 hcz7_2 hcz7_3
  try clear hfz12_0 hfz12_1 hfz12_2 hfz12_3
  try clear hfz6_0 hfz6_1 hfz6_2 hfz6_3
  try clear hfz7_0 hfz7_1 hfz7_2 hfz7_3
  obtain ⟨x6_1, x2000_1, x2001_1, x2002_1, x2003_1, rfl, HA, HK1, HO_5, BK1, BK2, HB⟩ := hrel
  cases gk with
  | zero => exact absurd HA.out (by simp [spec_ParseInstr.l0])
  | succ k1 =>
   have H := HA.out
   clear HA
   simp only [spec_ParseInstr.l0] at H
   by_cases c14 : x6_1 ≤ 8
   rotate_left
   ·rw [if_neg c14] at H
    have c14b0 : decide (x6_1 ≤ 8) = false := decide_eq_false c14
    clear c14
    simp only [Option.some.injEq, Prod.mk.injEq] at H
    obtain ⟨rfl, rfl, rfl, rfl, rfl⟩ := H
    have hnb68 := NB2_1.out
    have hnc68 := NB1_2.out
    obtain ⟨hcz69_0, hcz69_1, hcz69_2, hcz69_3, hfz69_0, hfz69_1, hfz69_2, hfz69_3⟩ := bc4_ BK2.out
    obtain ⟨hcz70_0, hcz70_1, hcz70_2, hcz70_3, hfz70_0, hfz70_1, hfz70_2, hfz70_3⟩ := bc4_ BK1.out
    go_wp2
    refine bodyPost_ret (results_ct rfl _ _ gb1 55 #[.int .i64 0, .int .i64 0, .int .i64 0, .int .i64 0] (0, 0) _ rfl (by (with_reducible repeat (first | refine blk_drewN ?_ _ | refine blk_drew ?_ | refine blk_alloc ?_ _)); refine blk_put (cs := #[.int .i64 0, .int .i64 0, .int .i64 0, .int .i64 x2003_1]) ?_ 3 _ rfl; (with_reducible repeat (first | refine blk_drewN ?_ _ | refine blk_drew ?_ | refine blk_alloc ?_ _)); refine blk_put (cs := #[.int .i64 0, .int .i64 0, .int .i64 x2002_1, .int .i64 x2003_1]) ?_ 2 _ rfl; (with_reducible repeat (first | refine blk_drewN ?_ _ | refine blk_drew ?_ | refine blk_alloc ?_ _)); refine blk_put (cs := #[.int .i64 0, .int .i64 x2001_1, .int .i64 x2002_1, .int .i64 x2003_1]) ?_ 1 _ rfl; (with_reducible repeat (first | refine blk_drewN ?_ _ | refine blk_drew ?_ | refine blk_alloc ?_ _)); refine blk_put (cs := #[.int .i64 x2000_1, .int .i64 x2001_1, .int .i64 x2002_1, .int .i64 x2003_1]) ?_ 0 _ rfl; (with_reducible repeat (first | refine blk_drewN ?_ _ | refine blk_drew ?_ | refine blk_alloc ?_ _)); exact BK1.out) Tryz.underlying55 rfl (by kernel_rfl)) rfl ?_
    exact ⟨rr_, bw_⟩
   rw [if_pos c14] at H
   have c14b0 : decide (x6_1 ≤ 8) = true := decide_eq_true c14
   clear c14
   replace H := Option.bind_eq_some_iff.mp H
   obtain ⟨t6, A150, H⟩ := H
   replace H : (if 0 < (t3.length : Int) then ((spec_l02Word.f x6_1).bind fun t8 => (if (rdOf ByteArray.empty t3 0).toList = t8.toList then (spec_ParseInstr.j1 k1 t3 x6_1 t6 ((t3.length : Int) != (wrap64 (1 + (t6.size : Int)))) 0 0 0 0) else (spec_ParseInstr.j1 k1 t3 x6_1 t6 true 0 0 0 0))) else (none)) = some (r1, r2, r3, r4, r5) := H
   have A15 := Aside0.mk A150
   clear A150
   have HC16 := Aside0.mk H
   clear H
   go_upto_region 9 with (first | ((with_reducible refine gate_callee (f := 50) rfl ?_); refine goesL_ (some 24) rfl rfl Tryz.func50 (by kernel_rfl) rfl #[.int .i64 x6_1] rfl ar_ ?_; (with_reducible refine (spec_l02Form.calls x6_1 t6 _ A15.out).mono ?_); rintro e w17 ⟨rfl, hb⟩; refine ⟨_, rfl, ?_⟩; have n0_ := Aside0.mk (Kd.R_below (rx_ HO_5.out) hb); have n1_ := bb_ BK1.out hb; have n2_ := bb_ BK2.out hb; have n3_ := bs_ hb; clear HO_5; clear BK1; clear BK2; clear HB; have HO_5 := n0_; have BK1 := n1_; have BK2 := n2_; have HB := n3_; clear n0_ n1_ n2_ n3_; (try clear hb); (try clear hb2); (try clear hk); (try clear hi)))
   (try simp only [Act.put, List.setIfInBounds_toArray, List.set_cons_zero, List.set_cons_succ])
   go_cut [38] (fun v38 wc => ∃ (kq : Nat) (x38_15 : Bool), v38 = .bool x38_15 ∧ Aside0 (spec_ParseInstr.j1 kq t3 x6_1 t6 x38_15 0 0 0 0 = some (r1, r2, r3, r4, r5)) ∧ Aside0 (kq ≤ k1) ∧ Aside0 (Kd.R Kd.string 9 wc w.heap.size (fun _ => True) v4 t3) ∧ Aside0 (wc.heap[gb1]? = some (.cells #[.int .i64 x2000_1, .int .i64 x2001_1, .int .i64 x2002_1, .int .i64 x2003_1] 55 (0, 0))) ∧ Aside0 (wc.heap[gb2]? = some (.cells #[.int .i64 0, .int .i64 0, .int .i64 0, .int .i64 0] 55 (0, 0))) ∧ Aside0 (Below w.heap.size w wc))
   case first =>
    have H := HC16.out
    clear HC16
    by_cases c18 : 0 < (t3.length : Int)
    rotate_left
    ·rw [if_neg c18] at H
     exact absurd H (by simp)
    rw [if_pos c18] at H
    have c18b0 : decide (0 < (t3.length : Int)) = true := decide_eq_true c18
    have c18b1 : decide (0 < t3.length) = true := decide_eq_true (by omega)
    clear c18
    (first | rw [c18b0] | (simp only [i64_w, i32_w]; rw [c18b0]) | skip)
    replace H := Option.bind_eq_some_iff.mp H
    obtain ⟨t8, A190, H⟩ := H
    replace H : (if (rdOf ByteArray.empty t3 0).toList = t8.toList then (spec_ParseInstr.j1 k1 t3 x6_1 t6 ((t3.length : Int) != (wrap64 (1 + (t6.size : Int)))) 0 0 0 0) else (spec_ParseInstr.j1 k1 t3 x6_1 t6 true 0 0 0 0)) = some (r1, r2, r3, r4, r5) := H
    have A19 := Aside0.mk A190
    clear A190
    by_cases c20 : (rdOf ByteArray.empty t3 0).toList = t8.toList
    rotate_left
    ·rw [if_neg c20] at H
     have c20b0 : ((rdOf ByteArray.empty t3 0).toList == t8.toList) = false := beq_eq_false_iff_ne.mpr c20
     have c20b1 : ((rdOf ByteArray.empty t3 0).toList != t8.toList) = true := bne_iff_ne.mpr c20
     have H' := Aside0.mk H
     clear H
     try go_wp2
     have n0_ := Aside0.mk (Kd.R_drew HO_5.out)
     have n1_ := Aside0.mk (blk_drew BK1.out)
     have n2_ := Aside0.mk (blk_drew BK2.out)
     have n3_ := Aside0.mk (below_drew1 HB.out)
     clear HO_5
     clear BK1
     clear BK2
     clear HB
     have HO_5 := n0_
     have BK1 := n1_
     have BK2 := n2_
     have HB := n3_
     clear n0_ n1_ n2_ n3_
     obtain ⟨Ao25, co25, eo25⟩ := Kd.R_slice HO_5.out
     (first | subst eo25 | (injection eo25 with f1_ f2_ f3_; have f4_ := f1_.symm; have f5_ := f3_.symm; clear f1_ f2_ f3_; subst f4_; subst f5_))
     have p7 : 0 ≤ (0 : Int) := (by omega)
     have q7 : 0 < (t3.length : Int) := od_
     obtain ⟨ad7, e7, hx7_0⟩ := Kd.at_string (Kd.R_reads' HO_5.out).2.2 0 p7 q7
     cases e7
     have qi7 : (0 < t3.length) = True := eq_true (by omega)
     (try rw [show ((0 : Int)).toNat = 0 from rfl] at hx7_0)
     (try rw [Addr.add_zero'] at hx7_0)
     replace p7 := eq_true p7
     replace q7 := eq_true q7
     refine start_ (n := 14) (S := fun w' => w'.cell? ad7 = some (.string (rdOf ByteArray.empty t3 0))) (ds := []) #[false, false, false, false, false, false, false, false, false, false, false, false, false, false] (by kernel_rfl) rfl rfl (hx7_0) (fun hHeld => ?_); refine with_tabW spec_ParseInstr.tab9 spec_ParseInstr.bits9 (fun HT_ HW_ => ?_)
     generalize w17.drew = w24 at HO_5 BK1 BK2 HB hx7_0 hHeld ⊢
     refine pure_ (i := 0) (N := some 25) (bm_ 14 1) rfl rfl (any_of HT_.out kr_) (fun _ _ _ h => h) (Or.inl ⟨rfl, yi_⟩) pu_ ?_
     refine pure_ (i := 1) (N := some 26) (bm_ 14 3) rfl rfl (any_of HT_.out kr_) (fun _ _ _ h => h) (Or.inl ⟨rfl, yi_⟩) pu_ ?_
     refine pure_ (i := 3) (N := some 28) (bm_ 14 11) rfl rfl (any_of HT_.out kr_) (fun _ _ _ h => h) (Or.inl ⟨rfl, yi_⟩) pu_ ?_
     refine take_ (i := 2) (N := some 27) (v := ?_) (a' := ?_) (bm_ 14 15) rfl rfl (take_ofW HT_.out HW_.out (by kernel_rfl)) (fun _ _ _ h => h) (Or.inl ⟨by rfl, ?_⟩) hHeld ?_ ?_
     rotate_left
     ·intro w' s0
      go_simp
      with_reducible rfl
     rotate_left
     ·exact pu_
     refine one_ (i := 4) (N := some 29) (bm_ 14 31) rfl rfl (one_of HT_.out (by kernel_rfl)) (by decide) (fun K hK => ?_)
     refine goes_ Tryz.func51 (by kernel_rfl) rfl #[.int .i64 x6_1] (by rfl) rfl rfl ar_ ?_
     with_reducible refine (spec_l02Word.calls x6_1 t8 _ A19.out).mono ?_
     rintro e w26 ⟨rfl, hb⟩
     have HS0_ := (hb.cell (World.block_lt_of_cell? _ _ (hHeld))).trans (hHeld)
     refine ⟨_, rfl, ?_⟩
     have n0_ := Aside0.mk (Kd.R_below (rx_ HO_5.out) hb)
     have n1_ := bb_ BK1.out hb
     have n2_ := bb_ BK2.out hb
     have n3_ := bs_ hb
     clear HO_5
     clear BK1
     clear BK2
     clear HB
     have HO_5 := n0_
     have BK1 := n1_
     have BK2 := n2_
     have HB := n3_
     clear n0_ n1_ n2_ n3_
     (try clear hb)
     (try clear hb2)
     (try clear hk)
     (try clear hi)
     refine hK.out _ _ (HS0_) (fun hHeld => ?_)
     clear hK K
     refine norm_ (a' := ?_) ?_ ?_
     rotate_left
     ·show Act.put _ (some 29) _ = _
      simp only [Act.put, List.setIfInBounds_toArray, List.set_cons_zero, List.set_cons_succ, i64_w, i32_w]
      rfl
     refine pure_ (i := 5) (N := some 30) (bm_ 14 63) rfl rfl (any_of HT_.out kr_) (fun _ _ _ h => h) (Or.inl ⟨rfl, yi_⟩) pu_ ?_
     refine pure_ (i := 6) (N := some 31) (bm_ 14 127) rfl rfl (any_of HT_.out kr_) (fun _ _ _ h => h) (Or.inl ⟨rfl, yi_⟩) pu_ ?_
     refine pure_ (i := 7) (N := some 32) (v := undef) (a' := ?_) #[true, true, true, true, true, true, true, true, false, false, false, false, false, false] rfl rfl (any_of HT_.out (by kernel_rfl)) (fun _ _ _ h => h) (Or.inr ⟨by rfl, rfl⟩) ?_ ?_
     rotate_left
     ·exact pu_
     refine pure_ (i := 8) (N := some 33) (v := undef) (a' := ?_) #[true, true, true, true, true, true, true, true, true, false, false, false, false, false] rfl rfl (any_of HT_.out (by kernel_rfl)) (fun _ _ _ h => h) (Or.inr ⟨by rfl, rfl⟩) ?_ ?_
     rotate_left
     ·exact pu_
     refine pure_ (i := 9) (N := some 34) (v := undef) (a' := ?_) #[true, true, true, true, true, true, true, true, true, true, false, false, false, false] rfl rfl (any_of HT_.out (by kernel_rfl)) (fun _ _ _ h => h) (Or.inr ⟨by rfl, rfl⟩) ?_ ?_
     rotate_left
     ·exact pu_
     refine pure_ (i := 10) (N := some 35) (v := undef) (a' := ?_) #[true, true, true, true, true, true, true, true, true, true, true, false, false, false] rfl rfl (any_of HT_.out (by kernel_rfl)) (fun _ _ _ h => h) (Or.inr ⟨by rfl, rfl⟩) ?_ ?_
     rotate_left
     ·exact pu_
     refine pure_ (i := 11) (N := some 36) (v := undef) (a' := ?_) #[true, true, true, true, true, true, true, true, true, true, true, true, false, false] rfl rfl (any_of HT_.out (by kernel_rfl)) (fun _ _ _ h => h) (Or.inr ⟨by rfl, rfl⟩) ?_ ?_
     rotate_left
     ·exact pu_
     refine pure_ (i := 12) (N := some 37) (v := undef) (a' := ?_) #[true, true, true, true, true, true, true, true, true, true, true, true, true, false] rfl rfl (any_of HT_.out (by kernel_rfl)) (fun _ _ _ h => h) (Or.inr ⟨by rfl, rfl⟩) ?_ ?_
     rotate_left
     ·exact pu_
     refine pure_ (i := 13) (N := some 38) (bm_ 14 16383) rfl rfl (any_of HT_.out kr_) (fun _ _ _ h => h) (Or.inl ⟨rfl, yi_⟩) pu_ ?_
     refine done_ (done_of HT_.out (by kernel_rfl)) ?_
     try go_wp2
     go_meet
     case rel => exact ⟨_, (true), sd_, H', ⟨by have := HK1.out; first | omega | exact Nat.le_refl _⟩, ⟨by (with_reducible repeat (first | apply Kd.R_alloc | apply Kd.R_drewN | apply Kd.R_drew)); exact HO_5.out⟩, ⟨bk_⟩, ⟨bk_⟩, ⟨bw_⟩⟩
    rw [if_pos c20] at H
    have c20b0 : ((rdOf ByteArray.empty t3 0).toList == t8.toList) = true := beq_iff_eq.mpr c20
    have c20b1 : ((rdOf ByteArray.empty t3 0).toList != t8.toList) = false := bne_eq_false_iff_eq.mpr c20
    clear c20
    have H' := Aside0.mk H
    clear H
    try go_wp2
    have n0_ := Aside0.mk (Kd.R_drew HO_5.out)
    have n1_ := Aside0.mk (blk_drew BK1.out)
    have n2_ := Aside0.mk (blk_drew BK2.out)
    have n3_ := Aside0.mk (below_drew1 HB.out)
    clear HO_5
    clear BK1
    clear BK2
    clear HB
    have HO_5 := n0_
    have BK1 := n1_
    have BK2 := n2_
    have HB := n3_
    clear n0_ n1_ n2_ n3_
    obtain ⟨Ao22, co22, eo22⟩ := Kd.R_slice HO_5.out
    (first | subst eo22 | (injection eo22 with f1_ f2_ f3_; have f4_ := f1_.symm; have f5_ := f3_.symm; clear f1_ f2_ f3_; subst f4_; subst f5_))
    have p7 : 0 ≤ (0 : Int) := (by omega)
    have q7 : 0 < (t3.length : Int) := od_
    obtain ⟨ad7, e7, hx7_0⟩ := Kd.at_string (Kd.R_reads' HO_5.out).2.2 0 p7 q7
    cases e7
    have qi7 : (0 < t3.length) = True := eq_true (by omega)
    (try rw [show ((0 : Int)).toNat = 0 from rfl] at hx7_0)
    (try rw [Addr.add_zero'] at hx7_0)
    replace p7 := eq_true p7
    replace q7 := eq_true q7
    refine start_ (n := 14) (S := fun w' => w'.cell? ad7 = some (.string (rdOf ByteArray.empty t3 0))) (ds := []) #[false, false, false, false, false, false, false, false, false, false, false, false, false, false] (by kernel_rfl) rfl rfl (hx7_0) (fun hHeld => ?_); refine with_tabW spec_ParseInstr.tab9 spec_ParseInstr.bits9 (fun HT_ HW_ => ?_)
    generalize w17.drew = w21 at HO_5 BK1 BK2 HB hx7_0 hHeld ⊢
    refine pure_ (i := 0) (N := some 25) (bm_ 14 1) rfl rfl (any_of HT_.out kr_) (fun _ _ _ h => h) (Or.inl ⟨rfl, yi_⟩) pu_ ?_
    refine pure_ (i := 1) (N := some 26) (bm_ 14 3) rfl rfl (any_of HT_.out kr_) (fun _ _ _ h => h) (Or.inl ⟨rfl, yi_⟩) pu_ ?_
    refine pure_ (i := 3) (N := some 28) (bm_ 14 11) rfl rfl (any_of HT_.out kr_) (fun _ _ _ h => h) (Or.inl ⟨rfl, yi_⟩) pu_ ?_
    refine take_ (i := 2) (N := some 27) (v := ?_) (a' := ?_) (bm_ 14 15) rfl rfl (take_ofW HT_.out HW_.out (by kernel_rfl)) (fun _ _ _ h => h) (Or.inl ⟨by rfl, ?_⟩) hHeld ?_ ?_
    rotate_left
    ·intro w' s0
     go_simp
     with_reducible rfl
    rotate_left
    ·exact pu_
    refine one_ (i := 4) (N := some 29) (bm_ 14 31) rfl rfl (one_of HT_.out (by kernel_rfl)) (by decide) (fun K hK => ?_)
    refine goes_ Tryz.func51 (by kernel_rfl) rfl #[.int .i64 x6_1] (by rfl) rfl rfl ar_ ?_
    with_reducible refine (spec_l02Word.calls x6_1 t8 _ A19.out).mono ?_
    rintro e w23 ⟨rfl, hb⟩
    have HS0_ := (hb.cell (World.block_lt_of_cell? _ _ (hHeld))).trans (hHeld)
    refine ⟨_, rfl, ?_⟩
    have n0_ := Aside0.mk (Kd.R_below (rx_ HO_5.out) hb)
    have n1_ := bb_ BK1.out hb
    have n2_ := bb_ BK2.out hb
    have n3_ := bs_ hb
    clear HO_5
    clear BK1
    clear BK2
    clear HB
    have HO_5 := n0_
    have BK1 := n1_
    have BK2 := n2_
    have HB := n3_
    clear n0_ n1_ n2_ n3_
    (try clear hb)
    (try clear hb2)
    (try clear hk)
    (try clear hi)
    refine hK.out _ _ (HS0_) (fun hHeld => ?_)
    clear hK K
    refine norm_ (a' := ?_) ?_ ?_
    rotate_left
    ·show Act.put _ (some 29) _ = _
     simp only [Act.put, List.setIfInBounds_toArray, List.set_cons_zero, List.set_cons_succ, i64_w, i32_w]
     rfl
    refine pure_ (i := 5) (N := some 30) (bm_ 14 63) rfl rfl (any_of HT_.out kr_) (fun _ _ _ h => h) (Or.inl ⟨rfl, yi_⟩) pu_ ?_
    refine pure_ (i := 6) (N := some 31) (bm_ 14 127) rfl rfl (any_of HT_.out kr_) (fun _ _ _ h => h) (Or.inl ⟨rfl, yi_⟩) pu_ ?_
    refine pure_ (i := 7) (N := some 32) (bm_ 14 255) rfl rfl (any_of HT_.out kr_) (fun _ _ _ h => h) (Or.inl ⟨rfl, yi_⟩) pu_ ?_
    refine pure_ (i := 8) (N := some 33) (bm_ 14 511) rfl rfl (any_of HT_.out kr_) (fun _ _ _ h => h) (Or.inl ⟨rfl, yi_⟩) pu_ ?_
    refine pure_ (i := 9) (N := some 34) (bm_ 14 1023) rfl rfl (any_of HT_.out kr_) (fun _ _ _ h => h) (Or.inl ⟨rfl, yi_⟩) pu_ ?_
    refine pure_ (i := 10) (N := some 35) (bm_ 14 2047) rfl rfl (any_of HT_.out kr_) (fun _ _ _ h => h) (Or.inl ⟨rfl, yi_⟩) pu_ ?_
    refine pure_ (i := 11) (N := some 36) (bm_ 14 4095) rfl rfl (any_of HT_.out kr_) (fun _ _ _ h => h) (Or.inl ⟨rfl, yi_⟩) pu_ ?_
    refine pure_ (i := 12) (N := some 37) (bm_ 14 8191) rfl rfl (any_of HT_.out kr_) (fun _ _ _ h => h) (Or.inl ⟨rfl, yi_⟩) pu_ ?_
    refine pure_ (i := 13) (N := some 38) (bm_ 14 16383) rfl rfl (any_of HT_.out kr_) (fun _ _ _ h => h) (Or.inl ⟨rfl, yi_⟩) pu_ ?_
    refine done_ (done_of HT_.out (by kernel_rfl)) ?_
    try go_wp2
    go_meet
    case rel => exact ⟨_, (((t3.length : Int) != (wrap64 (1 + (t6.size : Int))))), sd_, H', ⟨by have := HK1.out; first | omega | exact Nat.le_refl _⟩, ⟨by (with_reducible repeat (first | apply Kd.R_alloc | apply Kd.R_drewN | apply Kd.R_drew)); exact HO_5.out⟩, ⟨bk_⟩, ⟨bk_⟩, ⟨bw_⟩⟩
   case rest =>
    clear HC16
    try clear c1
    try clear c2
    try clear c2b0
    try clear c2b1
    try clear p2
    try clear c3
    try clear c5
    try clear p6
    try clear p7
    try clear q7
    try clear hx7
    try clear qi7
    try clear c11
    try clear c14
    try clear c14b0
    try clear c18
    try clear c18b0
    try clear c18b1
    try clear c20
    try clear c20b0
    try clear c20b1
    try clear c21
    try clear hcz12_0 hcz12_1 hcz12_2 hcz12_3
    try clear hcz6_0 hcz6_1 hcz6_2 hcz6_3
    try clear hcz7_0 hcz7_1 hcz7_2 hcz7_3
    try clear hfz12_0 hfz12_1 hfz12_2 hfz12_3
    try clear hfz6_0 hfz6_1 hfz6_2 hfz6_3
    try clear hfz7_0 hfz7_1 hfz7_2 hfz7_3
    try clear hx7_0
    try clear p2
    try clear p7
    try clear q7
    obtain ⟨kq, x38_15, rfl, HA, HJ15, HO_5, BK1, BK2, HB⟩ := hcut
    cases kq with
    | zero => exact absurd HA.out (by simp [spec_ParseInstr.j1])
    | succ kj15 =>
     have H := HA.out
     clear HA
     simp only [spec_ParseInstr.j1] at H
     by_cases c27 : x38_15 = true
     ·subst c27
      have H1 : (spec_ParseInstr.l0 kj15 t3 (wrap64 (x6_1 + 1)) 0 0 0 0) = some (r1, r2, r3, r4, r5) := by rw [if_pos rfl] at H; exact H
      clear H
      have H := H1
      clear H1
      have H' := Aside0.mk H
      clear H
      go_wp2
      go_roundg kj15
      case measure => have := HK1.out; have := HJ15.out; omega
      case rel => exact ⟨(wrap64 (x6_1 + 1)), (x2000_1), (x2001_1), (x2002_1), (x2003_1), sd_, H', ⟨by have := HK1.out; have := HJ15.out; omega⟩, ⟨by (with_reducible repeat (first | apply Kd.R_alloc | apply Kd.R_drewN | apply Kd.R_drew)); exact HO_5.out⟩, ⟨bk_⟩, ⟨bk_⟩, ⟨bw_⟩⟩
     replace c27 := Bool.eq_false_iff.mpr c27
     subst c27
     have H1 : (spec_ParseInstr.l1 kj15 t3 t6 0 0 0 0 0 x6_1 0 0 0) = some (r1, r2, r3, r4, r5) := by rw [if_neg (show ¬ (false = true) by decide)] at H; exact H
     clear H
     have H := H1
     clear H1
     have H' := Aside0.mk H
     clear H
     go_wp2_with (first | ((with_reducible refine gate_dst (N := 8) rfl ?_); (try (refine gate_guard (by rfl) ?_; dsimp only)); refine box_event ?hg (N := 8) ?hd (cs := #[.int .i64 0, .int .i64 0, .int .i64 0, .int .i64 0]) (t := 55) ?hr ?_; (case hd => rfl); (case hg => rfl); (case hr => exact hrr_); intro gb9 hg w28 hbox hb; have n0_ := Aside0.mk (Kd.R_below (rx_ HO_5.out) hb); have n1_ := bb_ BK1.out hb; have n2_ := bb_ BK2.out hb; have n3_ := bs_ hb; have n4_ := Aside0.mk (hbox); have n5_ := ge_ (w := w) hg; have n6_ := ge_ (w := w) hg; have n7_ := nl_ BK1.out hg; have n8_ := nr_ BK1.out hg; have n9_ := nl_ BK2.out hg; have n10_ := nr_ BK2.out hg; clear HO_5; clear BK1; clear BK2; clear HB; have HO_5 := n0_; have BK1 := n1_; have BK2 := n2_; have HB := n3_; have BK9 := n4_; have GW9 := n5_; have GE9 := n6_; have NB1_9 := n7_; have NB9_1 := n8_; have NB2_9 := n9_; have NB9_2 := n10_; clear n0_ n1_ n2_ n3_ n4_ n5_ n6_ n7_ n8_ n9_ n10_; clear hb hbox hg; have hnb29 := NB9_1.out; have hnc29 := NB1_9.out; have hnb30 := NB9_2.out; have hnc30 := NB2_9.out; obtain ⟨hcz31_0, hcz31_1, hcz31_2, hcz31_3, hfz31_0, hfz31_1, hfz31_2, hfz31_3⟩ := bc4_ BK9.out))
     go_loopg [9] kj15 (fun kq v9 w' => ∃ (x9_3 : Int) (x2000_3 : Int) (x2001_3 : Int) (x2002_3 : Int) (x2003_3 : Int) (x10001_3 : Int) (x10002_3 : Int) (x10003_3 : Int), v9 = .int .i64 x9_3 ∧ Aside0 (spec_ParseInstr.l1 kq t3 t6 x9_3 0 0 0 0 x6_1 x10001_3 x10002_3 x10003_3 = some (r1, r2, r3, r4, r5)) ∧ Aside0 (kq ≤ kj15) ∧ Aside0 (Kd.R Kd.string 9 w' w.heap.size (fun _ => True) v4 t3) ∧ Aside0 (w'.heap[gb1]? = some (.cells #[.int .i64 x2000_3, .int .i64 x2001_3, .int .i64 x2002_3, .int .i64 x2003_3] 55 (0, 0))) ∧ Aside0 (w'.heap[gb2]? = some (.cells #[.int .i64 0, .int .i64 0, .int .i64 0, .int .i64 0] 55 (0, 0))) ∧ Aside0 (w'.heap[gb9]? = some (.cells #[.int .i64 x6_1, .int .i64 x10001_3, .int .i64 x10002_3, .int .i64 x10003_3] 55 (0, 0))) ∧ Aside0 (Below w.heap.size w w'))
     case atStart => exact ⟨(0), (x2000_1), (x2001_1), (x2002_1), (x2003_1), (0), (0), (0), sd_, H', ⟨Nat.le_refl _⟩, ⟨by (with_reducible repeat (first | apply Kd.R_alloc | apply Kd.R_drewN | apply Kd.R_drew)); exact Kd.R_mono (Kd.R_far (p := ⟨gb9, 3, none⟩) (Kd.R_far (p := ⟨gb9, 2, none⟩) (Kd.R_far (p := ⟨gb9, 1, none⟩) (Kd.R_far (p := ⟨gb9, 0, none⟩) (Kd.R_types HO_5.out BK9.out (by decide)) (fun _ hk => hk.2) (.int .i64 x6_1)) (fun _ hk => hk.2) (.int .i64 0)) (fun _ hk => hk.2) (.int .i64 0)) (fun _ hk => hk.2) (.int .i64 0)) (fun _ hk => trivial)⟩, ⟨by (with_reducible repeat (first | refine blk_drewN ?_ _ | refine blk_drew ?_ | refine blk_alloc ?_ _)); refine blk_far ?_ NB1_9.out _; (with_reducible repeat (first | refine blk_drewN ?_ _ | refine blk_drew ?_ | refine blk_alloc ?_ _)); refine blk_far ?_ NB1_9.out _; (with_reducible repeat (first | refine blk_drewN ?_ _ | refine blk_drew ?_ | refine blk_alloc ?_ _)); refine blk_far ?_ NB1_9.out _; (with_reducible repeat (first | refine blk_drewN ?_ _ | refine blk_drew ?_ | refine blk_alloc ?_ _)); refine blk_far ?_ NB1_9.out _; (with_reducible repeat (first | refine blk_drewN ?_ _ | refine blk_drew ?_ | refine blk_alloc ?_ _)); exact BK1.out⟩, ⟨by (with_reducible repeat (first | refine blk_drewN ?_ _ | refine blk_drew ?_ | refine blk_alloc ?_ _)); refine blk_far ?_ NB2_9.out _; (with_reducible repeat (first | refine blk_drewN ?_ _ | refine blk_drew ?_ | refine blk_alloc ?_ _)); refine blk_far ?_ NB2_9.out _; (with_reducible repeat (first | refine blk_drewN ?_ _ | refine blk_drew ?_ | refine blk_alloc ?_ _)); refine blk_far ?_ NB2_9.out _; (with_reducible repeat (first | refine blk_drewN ?_ _ | refine blk_drew ?_ | refine blk_alloc ?_ _)); refine blk_far ?_ NB2_9.out _; (with_reducible repeat (first | refine blk_drewN ?_ _ | refine blk_drew ?_ | refine blk_alloc ?_ _)); exact BK2.out⟩, ⟨by (with_reducible repeat (first | refine blk_drewN ?_ _ | refine blk_drew ?_ | refine blk_alloc ?_ _)); refine blk_put (cs := #[.int .i64 x6_1, .int .i64 0, .int .i64 0, .int .i64 0]) ?_ 3 _ rfl; (with_reducible repeat (first | refine blk_drewN ?_ _ | refine blk_drew ?_ | refine blk_alloc ?_ _)); refine blk_put (cs := #[.int .i64 x6_1, .int .i64 0, .int .i64 0, .int .i64 0]) ?_ 2 _ rfl; (with_reducible repeat (first | refine blk_drewN ?_ _ | refine blk_drew ?_ | refine blk_alloc ?_ _)); refine blk_put (cs := #[.int .i64 x6_1, .int .i64 0, .int .i64 0, .int .i64 0]) ?_ 1 _ rfl; (with_reducible repeat (first | refine blk_drewN ?_ _ | refine blk_drew ?_ | refine blk_alloc ?_ _)); refine blk_put (cs := #[.int .i64 0, .int .i64 0, .int .i64 0, .int .i64 0]) ?_ 0 _ rfl; (with_reducible repeat (first | refine blk_drewN ?_ _ | refine blk_drew ?_ | refine blk_alloc ?_ _)); exact BK9.out⟩, ⟨bw_⟩⟩
     case round =>
      clear H'
      try clear c1
      try clear c2
      try clear c2b0
      try clear c2b1
      try clear p2
      try clear c3
      try clear c5
      try clear p6
      try clear p7
      try clear q7
      try clear hx7
      try clear qi7
      try clear c11
      try clear c14
      try clear c14b0
      try clear c18
      try clear c18b0
      try clear c18b1
      try clear c20
      try clear c20b0
      try clear c20b1
      try clear c21
      try clear c27
      try clear c29
      try clear c30
      try clear hcz12_0 hcz12_1 hcz12_2 hcz12_3
      try clear hcz31_0 hcz31_1 hcz31_2 hcz31_3
      try clear hcz6_0 hcz6_1 hcz6_2 hcz6_3
      try clear hcz7_0 hcz7_1 hcz7_2 hcz7_3
      try clear hfz12_0 hfz12_1 hfz12_2 hfz12_3
      try clear hfz31_0 hfz31_1 hfz31_2 hfz31_3
      try clear hfz6_0 hfz6_1 hfz6_2 hfz6_3
      try clear hfz7_0 hfz7_1 hfz7_2 hfz7_3
      try clear hx7_0
      try clear p2
      try clear p6
      try clear p7
      try clear q7
      obtain ⟨x9_3, x2000_3, x2001_3, x2002_3, x2003_3, x10001_3, x10002_3, x10003_3, rfl, HA, HK3, HO_5, BK1, BK2, BK9, HB⟩ := hrel
      cases gk with
      | zero => exact absurd HA.out (by simp [spec_ParseInstr.l1])
      | succ k3 =>
       have H := HA.out
       clear HA
       simp only [spec_ParseInstr.l1] at H
       by_cases c32 : x9_3 < (t6.size : Int)
       rotate_left
       ·rw [if_neg c32] at H
        have c32b0 : decide (x9_3 < (t6.size : Int)) = false := decide_eq_false c32
        clear c32
        simp only [Option.some.injEq, Prod.mk.injEq] at H
        obtain ⟨rfl, rfl, rfl, rfl, rfl⟩ := H
        have hnb63 := NB9_1.out
        have hnc63 := NB1_9.out
        have hnb64 := NB9_2.out
        have hnc64 := NB2_9.out
        obtain ⟨hcz65_0, hcz65_1, hcz65_2, hcz65_3, hfz65_0, hfz65_1, hfz65_2, hfz65_3⟩ := bc4_ BK9.out
        have hnb66 := NB1_2.out
        have hnc66 := NB2_1.out
        obtain ⟨hcz67_0, hcz67_1, hcz67_2, hcz67_3, hfz67_0, hfz67_1, hfz67_2, hfz67_3⟩ := bc4_ BK1.out
        go_wp2
        refine bodyPost_ret (results_ct rfl _ _ gb1 55 #[.int .i64 x6_1, .int .i64 x10001_3, .int .i64 x10002_3, .int .i64 x10003_3] (0, 0) _ rfl (by (with_reducible repeat (first | refine blk_drewN ?_ _ | refine blk_drew ?_ | refine blk_alloc ?_ _)); refine blk_put (cs := #[.int .i64 x6_1, .int .i64 x10001_3, .int .i64 x10002_3, .int .i64 x2003_3]) ?_ 3 _ rfl; (with_reducible repeat (first | refine blk_drewN ?_ _ | refine blk_drew ?_ | refine blk_alloc ?_ _)); refine blk_put (cs := #[.int .i64 x6_1, .int .i64 x10001_3, .int .i64 x2002_3, .int .i64 x2003_3]) ?_ 2 _ rfl; (with_reducible repeat (first | refine blk_drewN ?_ _ | refine blk_drew ?_ | refine blk_alloc ?_ _)); refine blk_put (cs := #[.int .i64 x6_1, .int .i64 x2001_3, .int .i64 x2002_3, .int .i64 x2003_3]) ?_ 1 _ rfl; (with_reducible repeat (first | refine blk_drewN ?_ _ | refine blk_drew ?_ | refine blk_alloc ?_ _)); refine blk_put (cs := #[.int .i64 x2000_3, .int .i64 x2001_3, .int .i64 x2002_3, .int .i64 x2003_3]) ?_ 0 _ rfl; (with_reducible repeat (first | refine blk_drewN ?_ _ | refine blk_drew ?_ | refine blk_alloc ?_ _)); exact BK1.out) Tryz.underlying55 rfl (by kernel_rfl)) rfl ?_
        exact ⟨rr_, bw_⟩
       rw [if_pos c32] at H
       have c32b0 : decide (x9_3 < (t6.size : Int)) = true := decide_eq_true c32
       clear c32
       obtain ⟨ji33, hji33⟩ : ∃ j_ : Int, (wrap64 (1 + x9_3)) = j_ := ⟨_, rfl⟩
       replace H : (if 0 ≤ (ji33) then (if (ji33) < (t3.length : Int) then ((spec_l01Read.f k3 (rdOf ByteArray.empty t3 (ji33))).bind fun bt11 => (if bt11.2 = true then ((spec_l01Value.f bt11.1).bind fun t13 => (spec_ParseInstr.j3 k3 t3 t6 x9_3 bt11.1 (!t13) 0 0 0 0 x6_1 x10001_3 x10002_3 x10003_3)) else (spec_ParseInstr.j3 k3 t3 t6 x9_3 bt11.1 true 0 0 0 0 x6_1 x10001_3 x10002_3 x10003_3))) else (none)) else (none)) = some (r1, r2, r3, r4, r5) := by first | (rw [hji33] at H; exact H) | (simp only [hji33] at H ⊢; exact H)
       have hji33w : (IntKind.i64.wrap (1 + x9_3)) = ji33 := (i64_w _).trans hji33
       by_cases c34 : 0 ≤ (ji33)
       rotate_left
       ·rw [if_neg c34] at H
        exact absurd H (by simp)
       rw [if_pos c34] at H
       have c34b0 : decide (0 ≤ (ji33)) = true := decide_eq_true c34
       clear c34
       by_cases c35 : (ji33) < (t3.length : Int)
       rotate_left
       ·rw [if_neg c35] at H
        exact absurd H (by simp)
       rw [if_pos c35] at H
       have c35b0 : decide ((ji33) < (t3.length : Int)) = true := decide_eq_true c35
       clear c35
       replace H := Option.bind_eq_some_iff.mp H
       obtain ⟨⟨t11, t12⟩, A360, H⟩ := H
       replace H : (if t12 = true then ((spec_l01Value.f t11).bind fun t13 => (spec_ParseInstr.j3 k3 t3 t6 x9_3 t11 (!t13) 0 0 0 0 x6_1 x10001_3 x10002_3 x10003_3)) else (spec_ParseInstr.j3 k3 t3 t6 x9_3 t11 true 0 0 0 0 x6_1 x10001_3 x10002_3 x10003_3)) = some (r1, r2, r3, r4, r5) := H
       have A36 := Aside0.mk A360
       clear A360
       have HC37 := Aside0.mk H
       clear H
       obtain ⟨Ao38, co38, eo38⟩ := Kd.R_slice HO_5.out
       subst eo38
       have p10 : 0 ≤ ((ji33) : Int) := od_
       have q10 : (ji33) < (t3.length : Int) := od_
       obtain ⟨ad10, e10, hx10_0⟩ := Kd.at_string (Kd.R_reads' HO_5.out).2.2 (ji33) p10 q10
       cases e10
       replace p10 := eq_true p10
       replace q10 := eq_true q10
       go_upto_region 15 with (first | ((with_reducible refine gate_callee (f := 31) rfl ?_); refine goesL_ (some 53) rfl rfl Tryz.func31 (by kernel_rfl) rfl #[.string (rdOf ByteArray.empty t3 (ji33))] rfl (by (try simp only [List.map_toArray, List.map_cons, List.map_nil]); first | done | (simp only [hji33]; rfl) | rfl | (simp only [List.length_drop, List.length_take]; rfl)) ?_; (with_reducible refine (spec_l01Read.calls k3 (rdOf ByteArray.empty t3 (ji33)) t11 t12 _ A36.out).mono ?_); rintro e w39 ⟨rfl, hb⟩; refine ⟨_, rfl, ?_⟩; have n0_ := Aside0.mk (Kd.R_below (rx_ HO_5.out) hb); have n1_ := bb_ BK1.out hb; have n2_ := bb_ BK2.out hb; have n3_ := bb_ BK9.out hb; have n4_ := bs_ hb; clear HO_5; clear BK1; clear BK2; clear BK9; clear HB; have HO_5 := n0_; have BK1 := n1_; have BK2 := n2_; have BK9 := n3_; have HB := n4_; clear n0_ n1_ n2_ n3_ n4_; (try clear hb); (try clear hb2); (try clear hk); (try clear hi)))
       (try simp only [Act.put, List.setIfInBounds_toArray, List.set_cons_zero, List.set_cons_succ])
       go_cut [62] (fun v62 wc => ∃ (kq : Nat) (x62_36 : Bool), v62 = .bool x62_36 ∧ Aside0 (spec_ParseInstr.j3 kq t3 t6 x9_3 t11 x62_36 0 0 0 0 x6_1 x10001_3 x10002_3 x10003_3 = some (r1, r2, r3, r4, r5)) ∧ Aside0 (kq ≤ k3) ∧ Aside0 (Kd.R Kd.string 9 wc w.heap.size (fun _ => True) (.slice (some ad10) t3.length co38) t3) ∧ Aside0 (wc.heap[gb1]? = some (.cells #[.int .i64 x2000_3, .int .i64 x2001_3, .int .i64 x2002_3, .int .i64 x2003_3] 55 (0, 0))) ∧ Aside0 (wc.heap[gb2]? = some (.cells #[.int .i64 0, .int .i64 0, .int .i64 0, .int .i64 0] 55 (0, 0))) ∧ Aside0 (wc.heap[gb9]? = some (.cells #[.int .i64 x6_1, .int .i64 x10001_3, .int .i64 x10002_3, .int .i64 x10003_3] 55 (0, 0))) ∧ Aside0 (Below w.heap.size w wc))
       case first =>
        have H := HC37.out
        clear HC37
        by_cases c40 : t12 = true
        rotate_left
        ·replace c40 := Bool.eq_false_iff.mpr c40
         subst c40
         have H1 : (spec_ParseInstr.j3 k3 t3 t6 x9_3 t11 true 0 0 0 0 x6_1 x10001_3 x10002_3 x10003_3) = some (r1, r2, r3, r4, r5) := by rw [if_neg (show ¬ (false = true) by decide)] at H; exact H
         clear H
         have H := H1
         clear H1
         have H' := Aside0.mk H
         clear H
         go_wp2
         go_meet
         case rel => exact ⟨_, (true), sd_, H', ⟨by have := HK1.out; have := HJ15.out; have := HK3.out; first | omega | exact Nat.le_refl _⟩, ⟨by (with_reducible repeat (first | apply Kd.R_alloc | apply Kd.R_drewN | apply Kd.R_drew)); exact HO_5.out⟩, ⟨bk_⟩, ⟨bk_⟩, ⟨bk_⟩, ⟨bw_⟩⟩
        subst c40
        have H1 : ((spec_l01Value.f t11).bind fun t13 => (spec_ParseInstr.j3 k3 t3 t6 x9_3 t11 (!t13) 0 0 0 0 x6_1 x10001_3 x10002_3 x10003_3)) = some (r1, r2, r3, r4, r5) := by rw [if_pos rfl] at H; exact H
        clear H
        have H := H1
        clear H1
        replace H := Option.bind_eq_some_iff.mp H
        obtain ⟨t13, A410, H⟩ := H
        replace H : (spec_ParseInstr.j3 k3 t3 t6 x9_3 t11 (!t13) 0 0 0 0 x6_1 x10001_3 x10002_3 x10003_3) = some (r1, r2, r3, r4, r5) := H
        have A41 := Aside0.mk A410
        clear A410
        have H' := Aside0.mk H
        clear H
        go_wp2_with (first | (go_at_call 33; (with_reducible refine (spec_l01Value.calls t11 t13 _ A41.out).mono ?_); rintro e w' ⟨rfl, ⟨nd, rfl⟩⟩))
        go_meet
        case rel => exact ⟨_, (!t13), sd_, H', ⟨by have := HK1.out; have := HJ15.out; have := HK3.out; first | omega | exact Nat.le_refl _⟩, ⟨by (with_reducible repeat (first | apply Kd.R_alloc | apply Kd.R_drewN | apply Kd.R_drew)); exact HO_5.out⟩, ⟨bk_⟩, ⟨bk_⟩, ⟨bk_⟩, ⟨bw_⟩⟩
       case rest =>
        clear HC37
        try clear c1
        try clear p1
        try clear q1
        try clear hx1
        try clear c2
        try clear c2b0
        try clear c2b1
        try clear p2
        try clear c3
        try clear c4
        try clear c5
        try clear p6
        try clear p7
        try clear q7
        try clear hx7
        try clear qi7
        try clear p10
        try clear q10
        try clear hx10
        try clear c11
        try clear c14
        try clear c14b0
        try clear c18
        try clear c18b0
        try clear c18b1
        try clear c20
        try clear c20b0
        try clear c20b1
        try clear c21
        try clear c27
        try clear c29
        try clear c30
        try clear c31
        try clear c32
        try clear c32b0
        try clear c34
        try clear c34b0
        try clear c35
        try clear c35b0
        try clear c40
        try clear hcz12_0 hcz12_1 hcz12_2 hcz12_3
        try clear hcz31_0 hcz31_1 hcz31_2 hcz31_3
        try clear hcz6_0 hcz6_1 hcz6_2 hcz6_3
        try clear hcz7_0 hcz7_1 hcz7_2 hcz7_3
        try clear hfz12_0 hfz12_1 hfz12_2 hfz12_3
        try clear hfz31_0 hfz31_1 hfz31_2 hfz31_3
        try clear hfz6_0 hfz6_1 hfz6_2 hfz6_3
        try clear hfz7_0 hfz7_1 hfz7_2 hfz7_3
        try clear hx10_0
        try clear hx7_0
        try clear p10
        try clear p2
        try clear p6
        try clear p7
        try clear q10
        try clear q7
        obtain ⟨kq, x62_36, rfl, HA, HJ36, HO_5, BK1, BK2, BK9, HB⟩ := hcut
        cases kq with
        | zero => exact absurd HA.out (by simp [spec_ParseInstr.j3])
        | succ kj36 =>
         have H := HA.out
         clear HA
         simp only [spec_ParseInstr.j3] at H
         by_cases c42 : x62_36 = true
         ·subst c42
          have H1 : (some (0, 0, 0, 0, false)) = some (r1, r2, r3, r4, r5) := by rw [if_pos rfl] at H; exact H
          clear H
          have H := H1
          clear H1
          simp only [Option.some.injEq, Prod.mk.injEq] at H
          obtain ⟨rfl, rfl, rfl, rfl, rfl⟩ := H
          have hnb43 := NB2_1.out
          have hnc43 := NB1_2.out
          have hnb44 := NB2_9.out
          have hnc44 := NB9_2.out
          obtain ⟨hcz45_0, hcz45_1, hcz45_2, hcz45_3, hfz45_0, hfz45_1, hfz45_2, hfz45_3⟩ := bc4_ BK2.out
          have hnb46 := NB1_9.out
          have hnc46 := NB9_1.out
          obtain ⟨hcz47_0, hcz47_1, hcz47_2, hcz47_3, hfz47_0, hfz47_1, hfz47_2, hfz47_3⟩ := bc4_ BK1.out
          go_wp2
          refine bodyPost_ret (results_ct rfl _ _ gb1 55 #[.int .i64 0, .int .i64 0, .int .i64 0, .int .i64 0] (0, 0) _ rfl (by (with_reducible repeat (first | refine blk_drewN ?_ _ | refine blk_drew ?_ | refine blk_alloc ?_ _)); refine blk_put (cs := #[.int .i64 0, .int .i64 0, .int .i64 0, .int .i64 x2003_3]) ?_ 3 _ rfl; (with_reducible repeat (first | refine blk_drewN ?_ _ | refine blk_drew ?_ | refine blk_alloc ?_ _)); refine blk_put (cs := #[.int .i64 0, .int .i64 0, .int .i64 x2002_3, .int .i64 x2003_3]) ?_ 2 _ rfl; (with_reducible repeat (first | refine blk_drewN ?_ _ | refine blk_drew ?_ | refine blk_alloc ?_ _)); refine blk_put (cs := #[.int .i64 0, .int .i64 x2001_3, .int .i64 x2002_3, .int .i64 x2003_3]) ?_ 1 _ rfl; (with_reducible repeat (first | refine blk_drewN ?_ _ | refine blk_drew ?_ | refine blk_alloc ?_ _)); refine blk_put (cs := #[.int .i64 x2000_3, .int .i64 x2001_3, .int .i64 x2002_3, .int .i64 x2003_3]) ?_ 0 _ rfl; (with_reducible repeat (first | refine blk_drewN ?_ _ | refine blk_drew ?_ | refine blk_alloc ?_ _)); exact BK1.out) Tryz.underlying55 rfl (by kernel_rfl)) rfl ?_
          exact ⟨by first | rfl | (simp [errW_none, errW_some] <;> rfl) | (simp only [← hji33]; first | rfl | (simp [errW_none, errW_some] <;> rfl)) | (simp [*, errW_none, errW_some] <;> rfl), bw_⟩
         replace c42 := Bool.eq_false_iff.mpr c42
         subst c42
         have H1 : (if 0 ≤ x9_3 then (if x9_3 < (t6.size : Int) then (if (bt t6 x9_3) = 114 then (spec_ParseInstr.l1 kj36 t3 t6 (wrap64 (x9_3 + 1)) 0 0 0 0 x6_1 t11 x10002_3 x10003_3) else (if (bt t6 x9_3) = 115 then (spec_ParseInstr.l1 kj36 t3 t6 (wrap64 (x9_3 + 1)) 0 0 0 0 x6_1 x10001_3 t11 x10003_3) else (if (bt t6 x9_3) = 110 then (spec_ParseInstr.l1 kj36 t3 t6 (wrap64 (x9_3 + 1)) 0 0 0 0 x6_1 x10001_3 x10002_3 t11) else (spec_ParseInstr.l1 kj36 t3 t6 (wrap64 (x9_3 + 1)) 0 0 0 0 x6_1 x10001_3 x10002_3 x10003_3)))) else (none)) else (none)) = some (r1, r2, r3, r4, r5) := by rw [if_neg (show ¬ (false = true) by decide)] at H; exact H
         clear H
         have H := H1
         clear H1
         by_cases c48 : 0 ≤ x9_3
         rotate_left
         ·rw [if_neg c48] at H
          exact absurd H (by simp)
         rw [if_pos c48] at H
         have c48b0 : decide (0 ≤ x9_3) = true := decide_eq_true c48
         clear c48
         by_cases c49 : x9_3 < (t6.size : Int)
         rotate_left
         ·rw [if_neg c49] at H
          exact absurd H (by simp)
         rw [if_pos c49] at H
         have c49b0 : decide (x9_3 < (t6.size : Int)) = true := decide_eq_true c49
         clear c49
         by_cases c51 : (bt t6 x9_3) = 114
         ·rw [if_pos c51] at H
          have c51b0 : ((bt t6 x9_3) == 114) = true := beq_iff_eq.mpr c51
          have c51b1 : ((bt t6 x9_3) != 114) = false := bne_eq_false_iff_eq.mpr c51
          clear c51
          have H' := Aside0.mk H
          clear H
          have p50 : 0 ≤ (x9_3 : Int) := od_
          have q50 : x9_3 < (t6.size : Int) := od_
          have hx50 := bt_at t6 x9_3
          replace p50 := eq_true p50
          replace q50 := eq_true q50
          have hnb52 := NB9_1.out
          have hnc52 := NB1_9.out
          have hnb53 := NB9_2.out
          have hnc53 := NB2_9.out
          obtain ⟨hcz54_0, hcz54_1, hcz54_2, hcz54_3, hfz54_0, hfz54_1, hfz54_2, hfz54_3⟩ := bc4_ BK9.out
          go_wp2
          go_roundg kj36
          case measure => have := HK1.out; have := HJ15.out; have := HK3.out; have := HJ36.out; omega
          case rel => exact ⟨(wrap64 (x9_3 + 1)), (x2000_3), (x2001_3), (x2002_3), (x2003_3), (t11), (x10002_3), (x10003_3), sd_, H', ⟨by have := HK1.out; have := HJ15.out; have := HK3.out; have := HJ36.out; omega⟩, ⟨by (with_reducible repeat (first | apply Kd.R_alloc | apply Kd.R_drewN | apply Kd.R_drew)); exact Kd.R_mono (Kd.R_far (p := ⟨gb9, 1, none⟩) (Kd.R_types HO_5.out BK9.out (by decide)) (fun _ hk => hk.2) (.int .i64 t11)) (fun _ hk => trivial)⟩, ⟨by (with_reducible repeat (first | refine blk_drewN ?_ _ | refine blk_drew ?_ | refine blk_alloc ?_ _)); refine blk_far ?_ NB1_9.out _; (with_reducible repeat (first | refine blk_drewN ?_ _ | refine blk_drew ?_ | refine blk_alloc ?_ _)); exact BK1.out⟩, ⟨by (with_reducible repeat (first | refine blk_drewN ?_ _ | refine blk_drew ?_ | refine blk_alloc ?_ _)); refine blk_far ?_ NB2_9.out _; (with_reducible repeat (first | refine blk_drewN ?_ _ | refine blk_drew ?_ | refine blk_alloc ?_ _)); exact BK2.out⟩, ⟨by (with_reducible repeat (first | refine blk_drewN ?_ _ | refine blk_drew ?_ | refine blk_alloc ?_ _)); refine blk_put (cs := #[.int .i64 x6_1, .int .i64 x10001_3, .int .i64 x10002_3, .int .i64 x10003_3]) ?_ 1 _ rfl; (with_reducible repeat (first | refine blk_drewN ?_ _ | refine blk_drew ?_ | refine blk_alloc ?_ _)); exact BK9.out⟩, ⟨bw_⟩⟩
         rw [if_neg c51] at H
         have c51b0 : ((bt t6 x9_3) == 114) = false := beq_eq_false_iff_ne.mpr c51
         have c51b1 : ((bt t6 x9_3) != 114) = true := bne_iff_ne.mpr c51
         by_cases c55 : (bt t6 x9_3) = 115
         ·rw [if_pos c55] at H
          have c55b0 : ((bt t6 x9_3) == 115) = true := beq_iff_eq.mpr c55
          have c55b1 : ((bt t6 x9_3) != 115) = false := bne_eq_false_iff_eq.mpr c55
          clear c55
          have H' := Aside0.mk H
          clear H
          have p50 : 0 ≤ (x9_3 : Int) := od_
          have q50 : x9_3 < (t6.size : Int) := od_
          have hx50 := bt_at t6 x9_3
          replace p50 := eq_true p50
          replace q50 := eq_true q50
          have hnb56 := NB9_1.out
          have hnc56 := NB1_9.out
          have hnb57 := NB9_2.out
          have hnc57 := NB2_9.out
          obtain ⟨hcz58_0, hcz58_1, hcz58_2, hcz58_3, hfz58_0, hfz58_1, hfz58_2, hfz58_3⟩ := bc4_ BK9.out
          go_wp2
          go_roundg kj36
          case measure => have := HK1.out; have := HJ15.out; have := HK3.out; have := HJ36.out; omega
          case rel => exact ⟨(wrap64 (x9_3 + 1)), (x2000_3), (x2001_3), (x2002_3), (x2003_3), (x10001_3), (t11), (x10003_3), sd_, H', ⟨by have := HK1.out; have := HJ15.out; have := HK3.out; have := HJ36.out; omega⟩, ⟨by (with_reducible repeat (first | apply Kd.R_alloc | apply Kd.R_drewN | apply Kd.R_drew)); exact Kd.R_mono (Kd.R_far (p := ⟨gb9, 2, none⟩) (Kd.R_types HO_5.out BK9.out (by decide)) (fun _ hk => hk.2) (.int .i64 t11)) (fun _ hk => trivial)⟩, ⟨by (with_reducible repeat (first | refine blk_drewN ?_ _ | refine blk_drew ?_ | refine blk_alloc ?_ _)); refine blk_far ?_ NB1_9.out _; (with_reducible repeat (first | refine blk_drewN ?_ _ | refine blk_drew ?_ | refine blk_alloc ?_ _)); exact BK1.out⟩, ⟨by (with_reducible repeat (first | refine blk_drewN ?_ _ | refine blk_drew ?_ | refine blk_alloc ?_ _)); refine blk_far ?_ NB2_9.out _; (with_reducible repeat (first | refine blk_drewN ?_ _ | refine blk_drew ?_ | refine blk_alloc ?_ _)); exact BK2.out⟩, ⟨by (with_reducible repeat (first | refine blk_drewN ?_ _ | refine blk_drew ?_ | refine blk_alloc ?_ _)); refine blk_put (cs := #[.int .i64 x6_1, .int .i64 x10001_3, .int .i64 x10002_3, .int .i64 x10003_3]) ?_ 2 _ rfl; (with_reducible repeat (first | refine blk_drewN ?_ _ | refine blk_drew ?_ | refine blk_alloc ?_ _)); exact BK9.out⟩, ⟨bw_⟩⟩
         rw [if_neg c55] at H
         have c55b0 : ((bt t6 x9_3) == 115) = false := beq_eq_false_iff_ne.mpr c55
         have c55b1 : ((bt t6 x9_3) != 115) = true := bne_iff_ne.mpr c55
         by_cases c59 : (bt t6 x9_3) = 110
         rotate_left
         ·rw [if_neg c59] at H
          have c59b0 : ((bt t6 x9_3) == 110) = false := beq_eq_false_iff_ne.mpr c59
          have c59b1 : ((bt t6 x9_3) != 110) = true := bne_iff_ne.mpr c59
          have H' := Aside0.mk H
          clear H
          have p50 : 0 ≤ (x9_3 : Int) := od_
          have q50 : x9_3 < (t6.size : Int) := od_
          have hx50 := bt_at t6 x9_3
          replace p50 := eq_true p50
          replace q50 := eq_true q50
          go_wp2
          go_roundg kj36
          case measure => have := HK1.out; have := HJ15.out; have := HK3.out; have := HJ36.out; omega
          case rel => exact ⟨(wrap64 (x9_3 + 1)), (x2000_3), (x2001_3), (x2002_3), (x2003_3), (x10001_3), (x10002_3), (x10003_3), sd_, H', ⟨by have := HK1.out; have := HJ15.out; have := HK3.out; have := HJ36.out; omega⟩, ⟨by (with_reducible repeat (first | apply Kd.R_alloc | apply Kd.R_drewN | apply Kd.R_drew)); exact HO_5.out⟩, ⟨bk_⟩, ⟨bk_⟩, ⟨bk_⟩, ⟨bw_⟩⟩
         rw [if_pos c59] at H
         have c59b0 : ((bt t6 x9_3) == 110) = true := beq_iff_eq.mpr c59
         have c59b1 : ((bt t6 x9_3) != 110) = false := bne_eq_false_iff_eq.mpr c59
         clear c59
         have H' := Aside0.mk H
         clear H
         have p50 : 0 ≤ (x9_3 : Int) := od_
         have q50 : x9_3 < (t6.size : Int) := od_
         have hx50 := bt_at t6 x9_3
         replace p50 := eq_true p50
         replace q50 := eq_true q50
         have hnb60 := NB9_1.out
         have hnc60 := NB1_9.out
         have hnb61 := NB9_2.out
         have hnc61 := NB2_9.out
         obtain ⟨hcz62_0, hcz62_1, hcz62_2, hcz62_3, hfz62_0, hfz62_1, hfz62_2, hfz62_3⟩ := bc4_ BK9.out
         go_wp2
         go_roundg kj36
         case measure => have := HK1.out; have := HJ15.out; have := HK3.out; have := HJ36.out; omega
         case rel => exact ⟨(wrap64 (x9_3 + 1)), (x2000_3), (x2001_3), (x2002_3), (x2003_3), (x10001_3), (x10002_3), (t11), sd_, H', ⟨by have := HK1.out; have := HJ15.out; have := HK3.out; have := HJ36.out; omega⟩, ⟨by (with_reducible repeat (first | apply Kd.R_alloc | apply Kd.R_drewN | apply Kd.R_drew)); exact Kd.R_mono (Kd.R_far (p := ⟨gb9, 3, none⟩) (Kd.R_types HO_5.out BK9.out (by decide)) (fun _ hk => hk.2) (.int .i64 t11)) (fun _ hk => trivial)⟩, ⟨by (with_reducible repeat (first | refine blk_drewN ?_ _ | refine blk_drew ?_ | refine blk_alloc ?_ _)); refine blk_far ?_ NB1_9.out _; (with_reducible repeat (first | refine blk_drewN ?_ _ | refine blk_drew ?_ | refine blk_alloc ?_ _)); exact BK1.out⟩, ⟨by (with_reducible repeat (first | refine blk_drewN ?_ _ | refine blk_drew ?_ | refine blk_alloc ?_ _)); refine blk_far ?_ NB2_9.out _; (with_reducible repeat (first | refine blk_drewN ?_ _ | refine blk_drew ?_ | refine blk_alloc ?_ _)); exact BK2.out⟩, ⟨by (with_reducible repeat (first | refine blk_drewN ?_ _ | refine blk_drew ?_ | refine blk_alloc ?_ _)); refine blk_put (cs := #[.int .i64 x6_1, .int .i64 x10001_3, .int .i64 x10002_3, .int .i64 x10003_3]) ?_ 3 _ rfl; (with_reducible repeat (first | refine blk_drewN ?_ _ | refine blk_drew ?_ | refine blk_alloc ?_ _)); exact BK9.out⟩, ⟨bw_⟩⟩

end Go.Proofs.YtbgclnjnngolmaaGreatDoor.P
