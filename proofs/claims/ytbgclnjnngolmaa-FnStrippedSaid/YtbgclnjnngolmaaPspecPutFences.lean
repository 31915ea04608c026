-- Written by mp.py (the session's own driver over the kit's printer) for the seat Ytbgclnjnngolmaa.
import Derived.Test.YtbgclnjnngolmaaK
import Derived.Test.YtbgclnjnngolmaaE
import Derived.Test.YtbgclnjnngolmaaPspecProgOk
import Derived.Test.YtbgclnjnngolmaaPspecSpotOk
import Derived.Test.YtbgclnjnngolmaaPspecl07Less
namespace Go.Proofs.Ytbgclnjnngolmaa.P
open Go.RowKit Go.Proofs.YtbgclnjnngolmaaW.PrintWords Go.Proofs.YtbgclnjnngolmaaW.PrintLast Go.Proofs.YtbgclnjnngolmaaW.PrintMore
attribute [local go_sem] max2_int min2_int max_two min_two max_three min_three max_four min_four
set_option linter.unusedVariables false
set_option linter.unusedSimpArgs false

/-! ### spec_PutFences: function 6 -/
mutual
def spec_PutFences.j0 : Nat → List (S44) → Bool → Int → List (List (S50)) → Option (Int × (List (List (S50))) × Bool)
 | 0, _, _, _, _ => none
 | k + 1, x1, x20, x2000, x2001 => if x20 = true then (some (0, ([] : List (List (S50))), false)) else (spec_PutFences.l0 k x1 0 x2000 x2001)
def spec_PutFences.l0 : Nat → List (S44) → Int → Int → List (List (S50)) → Option (Int × (List (List (S50))) × Bool)
 | 0, _, _, _, _ => none
 | k + 1, x1, x6, x2000, x2001 => if x6 < (x1.length : Int) then (if 0 ≤ x6 then ((spec_SpotOk.f k ((rd_T44 x1 x6).f0) ((rd_T44 x1 x6).f1) x2000 x2001).bind fun t5 => (if t5 = true then (if x6 > 0 then (if 0 ≤ (wrap64 (x6 - 1)) then (if (wrap64 (x6 - 1)) < (x1.length : Int) then ((spec_l07Less.f ((rd_T44 x1 (wrap64 (x6 - 1))).f0) ((rd_T44 x1 (wrap64 (x6 - 1))).f1) ((rd_T44 x1 x6).f0) ((rd_T44 x1 x6).f1)).bind fun t8 => (if t8 = true then (spec_PutFences.l0 k x1 (wrap64 (x6 + 1)) x2000 x2001) else (some (0, ([] : List (List (S50))), false)))) else (none)) else (none)) else (spec_PutFences.l0 k x1 (wrap64 (x6 + 1)) x2000 x2001)) else (some (0, ([] : List (List (S50))), false)))) else (none)) else (spec_PutFences.l1 k x1 0 x2000 x2001 x2000 ([] : List (List (S50))))
def spec_PutFences.l1 : Nat → List (S44) → Int → Int → List (List (S50)) → Int → List (List (S50)) → Option (Int × (List (List (S50))) × Bool)
 | 0, _, _, _, _, _, _ => none
 | k + 1, x1, x8, x2000, x2001, x10000, x10001 => if x8 < (x2001.length : Int) then (spec_PutFences.l2 k x1 x8 (([] : List (S50))) (([] : List Int)) 0 x2000 x2001 x10000 x10001) else ((spec_ProgOk.f k x10000 x10001).bind fun t10 => (if t10 = true then (some (x10000, x10001, true)) else (some (0, ([] : List (List (S50))), false))))
def spec_PutFences.l2 : Nat → List (S44) → Int → List (S50) → List Int → Int → Int → List (List (S50)) → Int → List (List (S50)) → Option (Int × (List (List (S50))) × Bool)
 | 0, _, _, _, _, _, _, _, _, _ => none
 | k + 1, x1, x8, x9, x10, x11, x2000, x2001, x10000, x10001 => if 0 ≤ x8 then (if x8 < (x2001.length : Int) then (if x11 ≤ ((rd_L4 x2001 x8).length : Int) then (if x10.length < 17592186044416 then ((some (x10 ++ [(x9.length : Int)] : List Int)).bind fun y18 => ((spec_l07Has.f k x1 x8 x11).bind fun t21 => (if t21 = true then (if x9.length < 4398046511104 then ((some (x9 ++ [(⟨4, 0, 0, 0⟩ : S50)] : List (S50))).bind fun y22 => (if x11 < ((rd_L4 x2001 x8).length : Int) then (if 0 ≤ x11 then (if y22.length < 4398046511104 then (spec_PutFences.l2 k x1 x8 (y22 ++ [(⟨(rd_T50 (rd_L4 x2001 x8) x11).f0, (rd_T50 (rd_L4 x2001 x8) x11).f1, (rd_T50 (rd_L4 x2001 x8) x11).f2, (rd_T50 (rd_L4 x2001 x8) x11).f3⟩ : S50)]) y18 (wrap64 (x11 + 1)) x2000 x2001 x10000 x10001) else (none)) else (none)) else (spec_PutFences.l2 k x1 x8 y22 y18 (wrap64 (x11 + 1)) x2000 x2001 x10000 x10001))) else (none)) else (if x11 < ((rd_L4 x2001 x8).length : Int) then (if 0 ≤ x11 then (if x9.length < 4398046511104 then (spec_PutFences.l2 k x1 x8 (x9 ++ [(⟨(rd_T50 (rd_L4 x2001 x8) x11).f0, (rd_T50 (rd_L4 x2001 x8) x11).f1, (rd_T50 (rd_L4 x2001 x8) x11).f2, (rd_T50 (rd_L4 x2001 x8) x11).f3⟩ : S50)]) y18 (wrap64 (x11 + 1)) x2000 x2001 x10000 x10001) else (none)) else (none)) else (spec_PutFences.l2 k x1 x8 x9 y18 (wrap64 (x11 + 1)) x2000 x2001 x10000 x10001))))) else (none)) else (spec_PutFences.l3 k x1 x8 x9 x10 0 x2000 x2001 x10000 x10001)) else (none)) else (none)
def spec_PutFences.l3 : Nat → List (S44) → Int → List (S50) → List Int → Int → Int → List (List (S50)) → Int → List (List (S50)) → Option (Int × (List (List (S50))) × Bool)
 | 0, _, _, _, _, _, _, _, _, _ => none
 | k + 1, x1, x8, x9, x10, x12, x2000, x2001, x10000, x10001 => if x12 < (x9.length : Int) then (if 0 ≤ x12 then (if ((rd_T50 x9 x12).f0) = 6 then (if 0 ≤ ((rd_T50 x9 x12).f3) then (if ((rd_T50 x9 x12).f3) < (x10.length : Int) then (spec_PutFences.l3 k x1 x8 (x9.set (x12 : Int).toNat (⟨(rd_T50 x9 x12).f0, (rd_T50 x9 x12).f1, (rd_T50 x9 x12).f2, rd x10 ((rd_T50 x9 x12).f3)⟩ : S50)) x10 (wrap64 (x12 + 1)) x2000 x2001 x10000 x10001) else (none)) else (none)) else (spec_PutFences.l3 k x1 x8 x9 x10 (wrap64 (x12 + 1)) x2000 x2001 x10000 x10001)) else (none)) else (if x10001.length < 5864062014805 then (spec_PutFences.l1 k x1 (wrap64 (x8 + 1)) x2000 x2001 x10000 (x10001 ++ [x9])) else (none))
end
def spec_PutFences.f (k : Nat) (a0_0 : Int) (l0_1 : List (List (S50))) (l1 : List (S44)) : Option (Int × (List (List (S50))) × Bool) := (spec_ProgOk.f k a0_0 l0_1).bind fun t3 => (if t3 = true then (spec_PutFences.j0 k l1 (decide ((l1.length : Int) > 51)) a0_0 l0_1) else (spec_PutFences.j0 k l1 true a0_0 l0_1))
theorem spec_PutFences.mono_l : ∀ k, (∀ y0 y1 y2 y3, LeO (spec_PutFences.j0 k y0 y1 y2 y3) (spec_PutFences.j0 (k + 1) y0 y1 y2 y3)) ∧ (∀ y0 y1 y2 y3, LeO (spec_PutFences.l0 k y0 y1 y2 y3) (spec_PutFences.l0 (k + 1) y0 y1 y2 y3)) ∧ (∀ y0 y1 y2 y3 y4 y5, LeO (spec_PutFences.l1 k y0 y1 y2 y3 y4 y5) (spec_PutFences.l1 (k + 1) y0 y1 y2 y3 y4 y5)) ∧ (∀ y0 y1 y2 y3 y4 y5 y6 y7 y8, LeO (spec_PutFences.l2 k y0 y1 y2 y3 y4 y5 y6 y7 y8) (spec_PutFences.l2 (k + 1) y0 y1 y2 y3 y4 y5 y6 y7 y8)) ∧ (∀ y0 y1 y2 y3 y4 y5 y6 y7 y8, LeO (spec_PutFences.l3 k y0 y1 y2 y3 y4 y5 y6 y7 y8) (spec_PutFences.l3 (k + 1) y0 y1 y2 y3 y4 y5 y6 y7 y8))
 | 0 => ⟨fun _ _ _ _ r h => by simp [spec_PutFences.j0] at h, fun _ _ _ _ r h => by simp [spec_PutFences.l0] at h, fun _ _ _ _ _ _ r h => by simp [spec_PutFences.l1] at h, fun _ _ _ _ _ _ _ _ _ r h => by simp [spec_PutFences.l2] at h, fun _ _ _ _ _ _ _ _ _ r h => by simp [spec_PutFences.l3] at h⟩
 | k + 1 => by
  obtain ⟨ih0, ih1, ih2, ih3, ih4⟩ := spec_PutFences.mono_l k
  refine ⟨?_, ?_, ?_, ?_, ?_⟩
  ·intro y0 y1 y2 y3
   unfold spec_PutFences.j0
   repeat' first | (with_reducible first | exact ih0 _ _ _ _ | exact ih1 _ _ _ _ | exact ih2 _ _ _ _ _ _ | exact ih3 _ _ _ _ _ _ _ _ _ | exact ih4 _ _ _ _ _ _ _ _ _ | exact spec_ProgOk.mono _ _ _ | exact spec_SpotOk.mono _ _ _ _ _ | exact spec_l07Has.mono _ _ _ _ | exact lr_ | exact ln_ | refine LeO.ite ?_ ?_ | refine LeO.bind ?_ (fun _ => ?_)) | exact ih0 _ _ _ _ | exact ih1 _ _ _ _ | exact ih2 _ _ _ _ _ _ | exact ih3 _ _ _ _ _ _ _ _ _ | exact ih4 _ _ _ _ _ _ _ _ _ | exact spec_ProgOk.mono _ _ _ | exact spec_SpotOk.mono _ _ _ _ _ | exact spec_l07Has.mono _ _ _ _ | exact ln_ | refine LeO.ite ?_ ?_ | refine LeO.bind ?_ (fun _ => ?_)
  ·intro y0 y1 y2 y3
   unfold spec_PutFences.l0
   repeat' first | (with_reducible first | exact ih0 _ _ _ _ | exact ih1 _ _ _ _ | exact ih2 _ _ _ _ _ _ | exact ih3 _ _ _ _ _ _ _ _ _ | exact ih4 _ _ _ _ _ _ _ _ _ | exact spec_ProgOk.mono _ _ _ | exact spec_SpotOk.mono _ _ _ _ _ | exact spec_l07Has.mono _ _ _ _ | exact lr_ | exact ln_ | refine LeO.ite ?_ ?_ | refine LeO.bind ?_ (fun _ => ?_)) | exact ih0 _ _ _ _ | exact ih1 _ _ _ _ | exact ih2 _ _ _ _ _ _ | exact ih3 _ _ _ _ _ _ _ _ _ | exact ih4 _ _ _ _ _ _ _ _ _ | exact spec_ProgOk.mono _ _ _ | exact spec_SpotOk.mono _ _ _ _ _ | exact spec_l07Has.mono _ _ _ _ | exact ln_ | refine LeO.ite ?_ ?_ | refine LeO.bind ?_ (fun _ => ?_)
  ·intro y0 y1 y2 y3 y4 y5
   unfold spec_PutFences.l1
   repeat' first | (with_reducible first | exact ih0 _ _ _ _ | exact ih1 _ _ _ _ | exact ih2 _ _ _ _ _ _ | exact ih3 _ _ _ _ _ _ _ _ _ | exact ih4 _ _ _ _ _ _ _ _ _ | exact spec_ProgOk.mono _ _ _ | exact spec_SpotOk.mono _ _ _ _ _ | exact spec_l07Has.mono _ _ _ _ | exact lr_ | exact ln_ | refine LeO.ite ?_ ?_ | refine LeO.bind ?_ (fun _ => ?_)) | exact ih0 _ _ _ _ | exact ih1 _ _ _ _ | exact ih2 _ _ _ _ _ _ | exact ih3 _ _ _ _ _ _ _ _ _ | exact ih4 _ _ _ _ _ _ _ _ _ | exact spec_ProgOk.mono _ _ _ | exact spec_SpotOk.mono _ _ _ _ _ | exact spec_l07Has.mono _ _ _ _ | exact ln_ | refine LeO.ite ?_ ?_ | refine LeO.bind ?_ (fun _ => ?_)
  ·intro y0 y1 y2 y3 y4 y5 y6 y7 y8
   unfold spec_PutFences.l2
   repeat' first | (with_reducible first | exact ih0 _ _ _ _ | exact ih1 _ _ _ _ | exact ih2 _ _ _ _ _ _ | exact ih3 _ _ _ _ _ _ _ _ _ | exact ih4 _ _ _ _ _ _ _ _ _ | exact spec_ProgOk.mono _ _ _ | exact spec_SpotOk.mono _ _ _ _ _ | exact spec_l07Has.mono _ _ _ _ | exact lr_ | exact ln_ | refine LeO.ite ?_ ?_ | refine LeO.bind ?_ (fun _ => ?_)) | exact ih0 _ _ _ _ | exact ih1 _ _ _ _ | exact ih2 _ _ _ _ _ _ | exact ih3 _ _ _ _ _ _ _ _ _ | exact ih4 _ _ _ _ _ _ _ _ _ | exact spec_ProgOk.mono _ _ _ | exact spec_SpotOk.mono _ _ _ _ _ | exact spec_l07Has.mono _ _ _ _ | exact ln_ | refine LeO.ite ?_ ?_ | refine LeO.bind ?_ (fun _ => ?_)
  ·intro y0 y1 y2 y3 y4 y5 y6 y7 y8
   unfold spec_PutFences.l3
   repeat' first | (with_reducible first | exact ih0 _ _ _ _ | exact ih1 _ _ _ _ | exact ih2 _ _ _ _ _ _ | exact ih3 _ _ _ _ _ _ _ _ _ | exact ih4 _ _ _ _ _ _ _ _ _ | exact spec_ProgOk.mono _ _ _ | exact spec_SpotOk.mono _ _ _ _ _ | exact spec_l07Has.mono _ _ _ _ | exact lr_ | exact ln_ | refine LeO.ite ?_ ?_ | refine LeO.bind ?_ (fun _ => ?_)) | exact ih0 _ _ _ _ | exact ih1 _ _ _ _ | exact ih2 _ _ _ _ _ _ | exact ih3 _ _ _ _ _ _ _ _ _ | exact ih4 _ _ _ _ _ _ _ _ _ | exact spec_ProgOk.mono _ _ _ | exact spec_SpotOk.mono _ _ _ _ _ | exact spec_l07Has.mono _ _ _ _ | exact ln_ | refine LeO.ite ?_ ?_ | refine LeO.bind ?_ (fun _ => ?_)
theorem spec_PutFences.mono : ∀ a0 a1 a2 k, LeO (spec_PutFences.f k a0 a1 a2) (spec_PutFences.f (k + 1) a0 a1 a2) := by
 intro a0 a1 a2 k
 obtain ⟨ih0, ih1, ih2, ih3, ih4⟩ := spec_PutFences.mono_l k
 unfold spec_PutFences.f
 repeat' first | (with_reducible first | exact ih0 _ _ _ _ | exact ih1 _ _ _ _ | exact ih2 _ _ _ _ _ _ | exact ih3 _ _ _ _ _ _ _ _ _ | exact ih4 _ _ _ _ _ _ _ _ _ | exact spec_ProgOk.mono _ _ _ | exact spec_SpotOk.mono _ _ _ _ _ | exact spec_l07Has.mono _ _ _ _ | exact lr_ | exact ln_ | refine LeO.ite ?_ ?_ | refine LeO.bind ?_ (fun _ => ?_)) | exact ih0 _ _ _ _ | exact ih1 _ _ _ _ | exact ih2 _ _ _ _ _ _ | exact ih3 _ _ _ _ _ _ _ _ _ | exact ih4 _ _ _ _ _ _ _ _ _ | exact spec_ProgOk.mono _ _ _ | exact spec_SpotOk.mono _ _ _ _ _ | exact spec_l07Has.mono _ _ _ _ | exact ln_ | refine LeO.ite ?_ ?_ | refine LeO.bind ?_ (fun _ => ?_)
def spec_PutFences.T6 : Bool × List (List Nat × List Nat) := (true, [([], []), ([], []), ([0, 1], [0, 1]), ([2], [2]), ([], []), ([3, 4], [3, 4]), ([5], [5]), ([6, 5], [6]), ([7], [7]), ([8, 7], [7, 8]), ([9, 7, 7], [7, 9]), ([10], [10]), ([10], [10]), ([12, 10], [10, 12]), ([11, 13, 10], [10, 11, 13]), ([14, 10], [10, 14]), ([10], [10]), ([10], [10]), ([16, 17, 10], [10, 16, 17]), ([18, 10], [10, 18]), ([15, 19, 10, 10], [10, 15, 19]), ([20, 10], [10, 20]), ([10, 21, 7], [7, 10, 21]), ([7, 22], [7, 22])])
def spec_PutFences.B6 : List Nat := [0, 0, 3, 7, 0, 31, 63, 127, 255, 511, 1023, 2047, 2047, 6143, 16383, 32767, 2047, 2047, 198655, 460799, 1048575, 2097151, 4194303, 8388607]
theorem spec_PutFences.tab6 : rtab .any (opsOf Try.f6 6) = spec_PutFences.T6 := by kernel_rfl
theorem spec_PutFences.bits6 : waitsOk spec_PutFences.T6.2 spec_PutFences.B6 = true := by kernel_rfl
set_option maxHeartbeats 8000000 in
set_option maxRecDepth 100000 in
theorem spec_PutFences.calls (k : Nat) (a0_0 : Int) (A0_1 : Option Addr) (c0_1 : Nat) (l0_1 : List (List (S50))) (A1 : Option Addr) (c1 : Nat) (l1 : List (S44)) (r1 : Int) (r2 : List (List (S50))) (r3 : Bool) (w : World) (hr0_1 : Kd.C (Kd.slice 50 k50) w A0_1 l0_1.length l0_1) (hc0_1 : l0_1.length ≤ c0_1) (hr1 : Kd.C k44 w A1 l1.length l1) (hc1 : l1.length ≤ c1) (h : spec_PutFences.f k a0_0 l0_1 l1 = some (r1, r2, r3)) :
  Calls Try.prog 6 #[.agg #[.int .i64 a0_0, .slice A0_1 l0_1.length c0_1], .slice A1 l1.length c1] w fun e w' => ∃ v1_ : Value, e = .returned (.tuple #[.agg #[.int .i64 r1, v1_], .bool r3]) ∧ Kd.S (Kd.slice 50 k50) 46 w' w.heap.size (fun _ => True) v1_ r2 ∧ Below w.heap.size w w' := by
 have hu26 := Try.underlying26
 have hu44 := Try.underlying44
 have hu50 := Try.underlying50
 have HR0_1 := am_ hr0_1
 have HC0_1 := am_ hc0_1
 clear hr0_1 hc0_1
 have HR1 := am_ hr1
 have HC1 := am_ hc1
 clear hr1 hc1
 have HB := am_ (Below.refl w.heap.size w)
 have H : ((spec_ProgOk.f k a0_0 l0_1).bind fun t3 => (if t3 = true then (spec_PutFences.j0 k l1 (decide ((l1.length : Int) > 51)) a0_0 l0_1) else (spec_PutFences.j0 k l1 true a0_0 l0_1))) = some (r1, r2, r3) := h
 clear h
 have HC3 := am_ H
 clear H
 go_enter Try.func6, Try.ntmps6
 go_upto_region 1 with (first | ((with_reducible refine gate_dst (N := 2) rfl ?_); (try (refine gate_guard (by rfl) ?_; dsimp only)); refine box_event ?hg (N := 2) ?hd (cs := #[.int .i64 a0_0, .slice A0_1 l0_1.length c0_1]) (t := 26) ?hr ?_; (case hd => rfl); (case hg => rfl); (case hr => exact hrr_); intro gb1 hg w4 hbox hb; have n0_ := bs_ hb; have n1_ := am_ (hbox); have n2_ := ge_ (w := w) hg; have n3_ := ge_ (w := w) hg; clear HB; have HB := n0_; have BK1 := n1_; have GW1 := n2_; have GE1 := n3_; clear n0_ n1_ n2_ n3_; clear hb hbox hg) | ((with_reducible refine gate_dst (N := 4) rfl ?_); (try (refine gate_guard (by rfl) ?_; dsimp only)); refine box_event ?hg (N := 4) ?hd (cs := #[.int .i64 0, .slice none 0 0]) (t := 26) ?hr ?_; (case hd => rfl); (case hg => rfl); (case hr => exact hrr_); intro gb2 hg w5 hbox hb; have n0_ := bb_ BK1.out hb; have n1_ := bs_ hb; have n2_ := am_ (hbox); have n3_ := ge_ (w := w) hg; have n4_ := ge_ (w := w) hg; have n5_ := nl_ BK1.out hg; have n6_ := nr_ BK1.out hg; clear BK1; clear HB; have BK1 := n0_; have HB := n1_; have BK2 := n2_; have GW2 := n3_; have GE2 := n4_; have NB1_2 := n5_; have NB2_1 := n6_; clear n0_ n1_ n2_ n3_ n4_ n5_ n6_; clear hb hbox hg))
 (try simp only [Act.put, List.setIfInBounds_toArray, List.set_cons_zero, List.set_cons_succ])
 go_cut [20] (fun v20 wc => ∃ (kq : Nat) (x20_2 : Bool), v20 = .bool x20_2 ∧ Aside0 (spec_PutFences.j0 kq l1 x20_2 a0_0 l0_1 = some (r1, r2, r3)) ∧ Aside0 (kq ≤ k) ∧ Aside0 (wc.heap[gb1]? = some (.cells #[.int .i64 a0_0, (.slice A0_1 l0_1.length c0_1)] 26 (0, 0))) ∧ Aside0 (wc.heap[gb2]? = some (.cells #[.int .i64 0, (.slice none 0 0)] 26 (0, 0))) ∧ Aside0 (Below w.heap.size w wc))
 case first =>
  have H := HC3.out
  clear HC3
  replace H := Option.bind_eq_some_iff.mp H
  obtain ⟨t3, A60, H⟩ := H
  replace H : (if t3 = true then (spec_PutFences.j0 k l1 (decide ((l1.length : Int) > 51)) a0_0 l0_1) else (spec_PutFences.j0 k l1 true a0_0 l0_1)) = some (r1, r2, r3) := H
  have A6 := am_ A60
  clear A60
  by_cases c7 : t3 = true
  ·subst c7
   have H1 : (spec_PutFences.j0 k l1 (decide ((l1.length : Int) > 51)) a0_0 l0_1) = some (r1, r2, r3) := by rw [if_pos rfl] at H; exact H
   clear H
   have H := H1
   clear H1
   have H' := am_ H
   clear H
   have hnb8 := NB1_2.out
   have hnc8 := NB2_1.out
   obtain ⟨hcz9_0, hcz9_1, hfz9_0, hfz9_1⟩ := bc2_ BK1.out
   go_wp2_with (first | ((with_reducible refine gate_callee (f := 16) rfl ?_); refine goesL_ (some 14) rfl rfl Try.func16 kr_ rfl #[.agg #[.int .i64 a0_0, .slice A0_1 l0_1.length c0_1]] rfl ar_ ?_; (with_reducible refine (spec_ProgOk.calls k a0_0 _ _ l0_1 true _ ?side1 ?side2 A6.out).mono ?_); (case side1 => exact cb_); (case side2 => exact HC0_1.out); rintro e w10 ⟨rfl, hb⟩; refine ⟨_, rfl, ?_⟩; have n0_ := bb_ BK1.out hb; have n1_ := bb_ BK2.out hb; have n2_ := bs_ hb; clear BK1; clear BK2; clear HB; have BK1 := n0_; have BK2 := n1_; have HB := n2_; clear n0_ n1_ n2_; (try clear hb); (try clear hb2); (try clear hk); (try clear hi)))
   go_meet
   case rel => exact ⟨_, (decide ((l1.length : Int) > 51)), sd_, H', ⟨by first | omega | exact Nat.le_refl _⟩, ⟨bk_⟩, ⟨bk_⟩, ⟨bw_⟩⟩
  replace c7 := Bool.eq_false_iff.mpr c7
  subst c7
  have H1 : (spec_PutFences.j0 k l1 true a0_0 l0_1) = some (r1, r2, r3) := by rw [if_neg (show ¬ (false = true) by decide)] at H; exact H
  clear H
  have H := H1
  clear H1
  have H' := am_ H
  clear H
  have hnb11 := NB1_2.out
  have hnc11 := NB2_1.out
  obtain ⟨hcz12_0, hcz12_1, hfz12_0, hfz12_1⟩ := bc2_ BK1.out
  go_wp2_with (first | ((with_reducible refine gate_callee (f := 16) rfl ?_); refine goesL_ (some 14) rfl rfl Try.func16 kr_ rfl #[.agg #[.int .i64 a0_0, .slice A0_1 l0_1.length c0_1]] rfl ar_ ?_; (with_reducible refine (spec_ProgOk.calls k a0_0 _ _ l0_1 false _ ?side1 ?side2 A6.out).mono ?_); (case side1 => exact cb_); (case side2 => exact HC0_1.out); rintro e w13 ⟨rfl, hb⟩; refine ⟨_, rfl, ?_⟩; have n0_ := bb_ BK1.out hb; have n1_ := bb_ BK2.out hb; have n2_ := bs_ hb; clear BK1; clear BK2; clear HB; have BK1 := n0_; have BK2 := n1_; have HB := n2_; clear n0_ n1_ n2_; (try clear hb); (try clear hb2); (try clear hk); (try clear hi)))
  go_meet
  case rel => exact ⟨_, (true), sd_, H', ⟨by first | omega | exact Nat.le_refl _⟩, ⟨bk_⟩, ⟨bk_⟩, ⟨bw_⟩⟩
 case rest =>
  clear HC3
  try clear c1
  try clear c7
  try clear hcz12_0 hcz12_1
  try clear hcz9_0 hcz9_1
  try clear hfz12_0 hfz12_1
  try clear hfz9_0 hfz9_1
  obtain ⟨kq, x20_2, rfl, HA, HJ2, BK1, BK2, HB⟩ := hcut
  cases kq with
  | zero => exact absurd HA.out (by simp [spec_PutFences.j0])
  | succ kj2 =>
   have H := HA.out
   clear HA
   simp only [spec_PutFences.j0] at H
   by_cases c14 : x20_2 = true
   ·subst c14
    have H1 : (some (0, ([] : List (List (S50))), false)) = some (r1, r2, r3) := by rw [if_pos rfl] at H; exact H
    clear H
    have H := H1
    clear H1
    simp only [Option.some.injEq, Prod.mk.injEq] at H
    obtain ⟨rfl, rfl, rfl⟩ := H
    have hnb15 := NB2_1.out
    have hnc15 := NB1_2.out
    obtain ⟨hcz16_0, hcz16_1, hfz16_0, hfz16_1⟩ := bc2_ BK2.out
    go_wp2
    refine bodyPost_ret (results_ct rfl _ _ gb2 26 #[.int .i64 0, .slice none 0 0] (0, 0) _ rfl (by (with_reducible repeat (first | refine blk_drewN ?_ _ | refine blk_drew ?_ | refine blk_alloc ?_ _)); refine blk_put (cs := #[.int .i64 0, .slice none 0 0]) ?_ 1 _ rfl; (with_reducible repeat (first | refine blk_drewN ?_ _ | refine blk_drew ?_ | refine blk_alloc ?_ _)); refine blk_put (cs := #[.int .i64 0, .slice none 0 0]) ?_ 0 _ rfl; exact bk_) Try.underlying26 rfl kr_) rfl ?_
    exact ⟨_, rr_, by first | exact Kd.S_nil _ _ _ _ _ | exact Kd.N_nil _ _ _ _ _ | exact Kd.V_nil _ _ _ _ _ | exact Kd.Q_nil _ _ _ _ _ | exact Kd.R_nil _ _ _ _ _, bw_⟩
   replace c14 := Bool.eq_false_iff.mpr c14
   subst c14
   have H1 : (spec_PutFences.l0 kj2 l1 0 a0_0 l0_1) = some (r1, r2, r3) := by rw [if_neg (show ¬ (false = true) by decide)] at H; exact H
   clear H
   have H := H1
   clear H1
   have H' := am_ H
   clear H
   go_wp2
   go_loopg [6] kj2 (fun kq v6 w' => ∃ (x6_2 : Int) (x3000_2 : Int), v6 = .int .i64 x6_2 ∧ Aside0 (spec_PutFences.l0 kq l1 x6_2 a0_0 l0_1 = some (r1, r2, r3)) ∧ Aside0 (kq ≤ kj2) ∧ Aside0 (w'.heap[gb1]? = some (.cells #[.int .i64 a0_0, (.slice A0_1 l0_1.length c0_1)] 26 (0, 0))) ∧ Aside0 (w'.heap[gb2]? = some (.cells #[.int .i64 x3000_2, (.slice none 0 0)] 26 (0, 0))) ∧ Aside0 (Below w.heap.size w w'))
   case atStart => exact ⟨(0), (0), sd_, H', ⟨Nat.le_refl _⟩, ⟨bk_⟩, ⟨bk_⟩, ⟨bw_⟩⟩
   case round =>
    clear H'
    try clear c1
    try clear c7
    try clear c14
    try clear hcz12_0 hcz12_1
    try clear hcz16_0 hcz16_1
    try clear hcz9_0 hcz9_1
    try clear hfz12_0 hfz12_1
    try clear hfz16_0 hfz16_1
    try clear hfz9_0 hfz9_1
    obtain ⟨x6_2, x3000_2, rfl, HA, HK2, BK1, BK2, HB⟩ := hrel
    cases gk with
    | zero => exact absurd HA.out (by simp [spec_PutFences.l0])
    | succ k2 =>
     have H := HA.out
     clear HA
     simp only [spec_PutFences.l0] at H
     by_cases c17 : x6_2 < (l1.length : Int)
     rotate_left
     ·rw [if_neg c17] at H
      have c17b0 : decide (x6_2 < (l1.length : Int)) = false := decide_eq_false c17
      clear c17
      have H' := am_ H
      clear H
      have hnb41 := NB1_2.out
      have hnc41 := NB2_1.out
      obtain ⟨hcz42_0, hcz42_1, hfz42_0, hfz42_1⟩ := bc2_ BK1.out
      go_wp2_with (first | ((with_reducible refine gate_dst (N := 7) rfl ?_); (try (refine gate_guard (by rfl) ?_; dsimp only)); refine box_event ?hg (N := 7) ?hd (cs := #[.int .i64 0, .slice none 0 0]) (t := 26) ?hr ?_; (case hd => rfl); (case hg => rfl); (case hr => exact hrr_); intro gb9 hg w43 hbox hb; have n0_ := bb_ BK1.out hb; have n1_ := bb_ BK2.out hb; have n2_ := bs_ hb; have n3_ := am_ (hbox); have n4_ := ge_ (w := w) hg; have n5_ := ge_ (w := w) hg; have n6_ := nl_ BK1.out hg; have n7_ := nr_ BK1.out hg; have n8_ := nl_ BK2.out hg; have n9_ := nr_ BK2.out hg; clear BK1; clear BK2; clear HB; have BK1 := n0_; have BK2 := n1_; have HB := n2_; have BK9 := n3_; have GW9 := n4_; have GE9 := n5_; have NB1_9 := n6_; have NB9_1 := n7_; have NB2_9 := n8_; have NB9_2 := n9_; clear n0_ n1_ n2_ n3_ n4_ n5_ n6_ n7_ n8_ n9_; clear hb hbox hg; have hnb44 := NB9_1.out; have hnc44 := NB1_9.out; have hnb45 := NB9_2.out; have hnc45 := NB2_9.out; obtain ⟨hcz46_0, hcz46_1, hfz46_0, hfz46_1⟩ := bc2_ BK9.out))
      go_loopg [8] k2 (fun kq v8 w' => ∃ (x8_3 : Int) (x10001_3 : List (List (S50))) (u10001 : Value), v8 = .int .i64 x8_3 ∧ Aside0 (spec_PutFences.l1 kq l1 x8_3 a0_0 l0_1 a0_0 x10001_3 = some (r1, r2, r3)) ∧ Aside0 (kq ≤ k2) ∧ Aside0 (Kd.S (Kd.slice 50 k50) 46 w' w.heap.size (fun _ => True) u10001 x10001_3) ∧ Aside0 (w'.heap[gb1]? = some (.cells #[.int .i64 a0_0, (.slice A0_1 l0_1.length c0_1)] 26 (0, 0))) ∧ Aside0 (w'.heap[gb2]? = some (.cells #[.int .i64 x3000_2, (.slice none 0 0)] 26 (0, 0))) ∧ Aside0 (w'.heap[gb9]? = some (.cells #[.int .i64 a0_0, u10001] 26 (0, 0))) ∧ Aside0 (Below w.heap.size w w'))
      case atStart => exact ⟨(0), (([] : List (List (S50)))), (.slice none 0 0), sd_, H', ⟨Nat.le_refl _⟩, ⟨by first | exact Kd.S_nil _ _ _ _ _ | exact Kd.N_nil _ _ _ _ _ | exact Kd.V_nil _ _ _ _ _ | exact Kd.Q_nil _ _ _ _ _ | exact Kd.R_nil _ _ _ _ _⟩, ⟨by (with_reducible repeat (first | refine blk_drewN ?_ _ | refine blk_drew ?_ | refine blk_alloc ?_ _)); refine blk_far ?_ NB1_9.out _; (with_reducible repeat (first | refine blk_drewN ?_ _ | refine blk_drew ?_ | refine blk_alloc ?_ _)); refine blk_far ?_ NB1_9.out _; exact bk_⟩, ⟨by (with_reducible repeat (first | refine blk_drewN ?_ _ | refine blk_drew ?_ | refine blk_alloc ?_ _)); refine blk_far ?_ NB2_9.out _; (with_reducible repeat (first | refine blk_drewN ?_ _ | refine blk_drew ?_ | refine blk_alloc ?_ _)); refine blk_far ?_ NB2_9.out _; exact bk_⟩, ⟨by (with_reducible repeat (first | refine blk_drewN ?_ _ | refine blk_drew ?_ | refine blk_alloc ?_ _)); refine blk_put (cs := #[.int .i64 a0_0, .slice none 0 0]) ?_ 1 _ rfl; (with_reducible repeat (first | refine blk_drewN ?_ _ | refine blk_drew ?_ | refine blk_alloc ?_ _)); refine blk_put (cs := #[.int .i64 0, .slice none 0 0]) ?_ 0 _ rfl; exact bk_⟩, ⟨bw_⟩⟩
      case round =>
       clear H'
       try clear c1
       try clear p4
       try clear q4
       try clear p6
       try clear c17
       try clear c17b0
       try clear c18
       try clear c20
       try clear c21
       try clear c21b0
       try clear c23
       try clear c24
       try clear hcz34_0 hcz34_1
       try clear hcz40_0 hcz40_1
       try clear hcz42_0 hcz42_1
       try clear hcz46_0 hcz46_1
       try clear hfz34_0 hfz34_1
       try clear hfz40_0 hfz40_1
       try clear hfz42_0 hfz42_1
       try clear hfz46_0 hfz46_1
       try clear hx4_0
       try clear hx4_1
       try clear p4
       try clear q4
       obtain ⟨x8_3, x10001_3, u10001, rfl, HA, HK3, HO_10001, BK1, BK2, BK9, HB⟩ := hrel
       cases gk with
       | zero => exact absurd HA.out (by simp [spec_PutFences.l1])
       | succ k3 =>
        have H := HA.out
        clear HA
        simp only [spec_PutFences.l1] at H
        by_cases c47 : x8_3 < (l0_1.length : Int)
        rotate_left
        ·rw [if_neg c47] at H
         have c47b0 : decide (x8_3 < (l0_1.length : Int)) = false := decide_eq_false c47
         clear c47
         replace H := Option.bind_eq_some_iff.mp H
         obtain ⟨t10, A1180, H⟩ := H
         replace H : (if t10 = true then (some (a0_0, x10001_3, true)) else (some (0, ([] : List (List (S50))), false))) = some (r1, r2, r3) := H
         have A118 := am_ A1180
         clear A1180
         by_cases c119 : t10 = true
         ·subst c119
          have H1 : (some (a0_0, x10001_3, true)) = some (r1, r2, r3) := by rw [if_pos rfl] at H; exact H
          clear H
          have H := H1
          clear H1
          simp only [Option.some.injEq, Prod.mk.injEq] at H
          obtain ⟨rfl, rfl, rfl⟩ := H
          have hnb120 := NB1_2.out
          have hnc120 := NB2_1.out
          have hnb121 := NB1_9.out
          have hnc121 := NB9_1.out
          obtain ⟨hcz122_0, hcz122_1, hfz122_0, hfz122_1⟩ := bc2_ BK1.out
          have hnb123 := NB9_2.out
          have hnc123 := NB2_9.out
          obtain ⟨hcz124_0, hcz124_1, hfz124_0, hfz124_1⟩ := bc2_ BK9.out
          obtain ⟨Ao125, co125, eo125⟩ := Kd.S_slice HO_10001.out
          subst eo125
          go_wp2_with (first | ((with_reducible refine gate_callee (f := 16) rfl ?_); refine goesL_ (some 138) rfl rfl Try.func16 kr_ rfl #[.agg #[.int .i64 a0_0, .slice Ao125 x10001_3.length co125]] rfl ar_ ?_; (with_reducible refine (spec_ProgOk.calls k3 a0_0 _ _ x10001_3 true _ ?side1 ?side2 A118.out).mono ?_); (case side1 => repeat (first | exact (Kd.S_reads' HO_10001.out).2.2 | (with_reducible refine Kd.C_alloc ?_ _) | (with_reducible refine Kd.C_drewN ?_ _) | (with_reducible refine Kd.C_drew ?_))); (case side2 => exact (Kd.S_reads' HO_10001.out).2.1); rintro e w126 ⟨rfl, hb⟩; refine ⟨_, rfl, ?_⟩; have n0_ := am_ (Kd.S_below (sx_ HO_10001.out) hb); have n1_ := bb_ BK1.out hb; have n2_ := bb_ BK2.out hb; have n3_ := bb_ BK9.out hb; have n4_ := bs_ hb; clear HO_10001; clear BK1; clear BK2; clear BK9; clear HB; have HO_10001 := n0_; have BK1 := n1_; have BK2 := n2_; have BK9 := n3_; have HB := n4_; clear n0_ n1_ n2_ n3_ n4_; (try clear hb); (try clear hb2); (try clear hk); (try clear hi); obtain ⟨hcz127_0, hcz127_1, hfz127_0, hfz127_1⟩ := bc2_ BK9.out; obtain ⟨hcz128_0, hcz128_1, hfz128_0, hfz128_1⟩ := bc2_ BK2.out))
          refine bodyPost_ret (results_ct rfl _ _ gb2 26 #[.int .i64 a0_0, .slice Ao125 x10001_3.length co125] (0, 0) _ rfl (by (with_reducible repeat (first | refine blk_drewN ?_ _ | refine blk_drew ?_ | refine blk_alloc ?_ _)); refine blk_put (cs := #[.int .i64 a0_0, .slice none 0 0]) ?_ 1 _ rfl; (with_reducible repeat (first | refine blk_drewN ?_ _ | refine blk_drew ?_ | refine blk_alloc ?_ _)); refine blk_put (cs := #[.int .i64 x3000_2, .slice none 0 0]) ?_ 0 _ rfl; exact bk_) Try.underlying26 rfl kr_) rfl ?_
          exact ⟨_, rr_, by (with_reducible repeat (first | apply Kd.S_alloc | apply Kd.S_drewN | apply Kd.S_drew)); exact Kd.S_mono (Kd.S_far (p := ⟨gb2, 1, none⟩) (Kd.S_far (p := ⟨gb2, 0, none⟩) (Kd.S_types HO_10001.out BK2.out (by decide)) (fun _ hk => hk.2) (.int .i64 a0_0)) (fun _ hk => hk.2) (.slice Ao125 x10001_3.length co125)) (fun _ hk => trivial), bw_⟩
         replace c119 := Bool.eq_false_iff.mpr c119
         subst c119
         have H1 : (some (0, ([] : List (List (S50))), false)) = some (r1, r2, r3) := by rw [if_neg (show ¬ (false = true) by decide)] at H; exact H
         clear H
         have H := H1
         clear H1
         simp only [Option.some.injEq, Prod.mk.injEq] at H
         obtain ⟨rfl, rfl, rfl⟩ := H
         have hnb129 := NB1_2.out
         have hnc129 := NB2_1.out
         have hnb130 := NB1_9.out
         have hnc130 := NB9_1.out
         obtain ⟨hcz131_0, hcz131_1, hfz131_0, hfz131_1⟩ := bc2_ BK1.out
         have hnb132 := NB9_2.out
         have hnc132 := NB2_9.out
         obtain ⟨hcz133_0, hcz133_1, hfz133_0, hfz133_1⟩ := bc2_ BK9.out
         obtain ⟨Ao134, co134, eo134⟩ := Kd.S_slice HO_10001.out
         subst eo134
         go_wp2_with (first | ((with_reducible refine gate_callee (f := 16) rfl ?_); refine goesL_ (some 138) rfl rfl Try.func16 kr_ rfl #[.agg #[.int .i64 a0_0, .slice Ao134 x10001_3.length co134]] rfl ar_ ?_; (with_reducible refine (spec_ProgOk.calls k3 a0_0 _ _ x10001_3 false _ ?side1 ?side2 A118.out).mono ?_); (case side1 => repeat (first | exact (Kd.S_reads' HO_10001.out).2.2 | (with_reducible refine Kd.C_alloc ?_ _) | (with_reducible refine Kd.C_drewN ?_ _) | (with_reducible refine Kd.C_drew ?_))); (case side2 => exact (Kd.S_reads' HO_10001.out).2.1); rintro e w135 ⟨rfl, hb⟩; refine ⟨_, rfl, ?_⟩; have n0_ := am_ (Kd.S_below (sx_ HO_10001.out) hb); have n1_ := bb_ BK1.out hb; have n2_ := bb_ BK2.out hb; have n3_ := bb_ BK9.out hb; have n4_ := bs_ hb; clear HO_10001; clear BK1; clear BK2; clear BK9; clear HB; have HO_10001 := n0_; have BK1 := n1_; have BK2 := n2_; have BK9 := n3_; have HB := n4_; clear n0_ n1_ n2_ n3_ n4_; (try clear hb); (try clear hb2); (try clear hk); (try clear hi); obtain ⟨hcz136_0, hcz136_1, hfz136_0, hfz136_1⟩ := bc2_ BK2.out))
         refine bodyPost_ret (results_ct rfl _ _ gb2 26 #[.int .i64 0, .slice none 0 0] (0, 0) _ rfl (by (with_reducible repeat (first | refine blk_drewN ?_ _ | refine blk_drew ?_ | refine blk_alloc ?_ _)); refine blk_put (cs := #[.int .i64 0, .slice none 0 0]) ?_ 1 _ rfl; (with_reducible repeat (first | refine blk_drewN ?_ _ | refine blk_drew ?_ | refine blk_alloc ?_ _)); refine blk_put (cs := #[.int .i64 x3000_2, .slice none 0 0]) ?_ 0 _ rfl; exact bk_) Try.underlying26 rfl kr_) rfl ?_
         exact ⟨_, rr_, by first | exact Kd.S_nil _ _ _ _ _ | exact Kd.N_nil _ _ _ _ _ | exact Kd.V_nil _ _ _ _ _ | exact Kd.Q_nil _ _ _ _ _ | exact Kd.R_nil _ _ _ _ _, bw_⟩
        rw [if_pos c47] at H
        have c47b0 : decide (x8_3 < (l0_1.length : Int)) = true := decide_eq_true c47
        clear c47
        obtain ⟨y11, hy11⟩ : ∃ y_ : List (S50), y_ = (([] : List (S50))) := ⟨_, rfl⟩
        replace H : (spec_PutFences.l2 k3 l1 x8_3 y11 (([] : List Int)) 0 a0_0 l0_1 a0_0 x10001_3) = some (r1, r2, r3) := rh_ hy11
        have Ny11 := am_ hy11
        clear hy11
        obtain ⟨y14, hy14⟩ : ∃ y_ : List Int, y_ = (([] : List Int)) := ⟨_, rfl⟩
        replace H : (spec_PutFences.l2 k3 l1 x8_3 y11 y14 0 a0_0 l0_1 a0_0 x10001_3) = some (r1, r2, r3) := rh_ hy14
        have Ny14 := am_ hy14
        clear hy14
        have H' := am_ H
        clear H
        have hnb48 := NB1_2.out
        have hnc48 := NB2_1.out
        have hnb49 := NB1_9.out
        have hnc49 := NB9_1.out
        obtain ⟨hcz50_0, hcz50_1, hfz50_0, hfz50_1⟩ := bc2_ BK1.out
        go_wp2_with (first | ((with_reducible refine gate_dst (N := 63) rfl ?_); (try (refine gate_guard (by rfl) ?_; dsimp only)); refine Kd.R_lit k50 _ 50 ?hg (N := 63) ?hd (xs := ([] : List (S50))) (inner := []) (ok := fun _ => True) (okp := fun _ => True) ?hr ?hp (fun _ hk => hk) trivial (Below.refl _ _) (Nat.le_refl _) (by simp) ?_; (case hd => rfl); (case hg => rfl); (case hr => first | (go_simp; done) | (go_simp; rfl)); (case hp => exact (Reps.none _ _)); intro v12 w51 ho52 hb hg_ hnew_; clear hg_ hnew_; (first | rw [← Ny11.out] at ho52 | (simp only [Int.reduceToNat] at ho52; rw [← Ny11.out] at ho52)); have n0_ := am_ (Kd.S_elder' (sx_ HO_10001.out) (Kd.R_base ho52) hb); have n1_ := am_ (Kd.R_lower ho52 (below_size bw_)); have n2_ := bb_ BK1.out hb; have n3_ := bb_ BK2.out hb; have n4_ := bb_ BK9.out hb; have n5_ := bs_ hb; clear HO_10001; clear BK1; clear BK2; clear BK9; clear HB; have HO_10001 := n0_; have HO13 := n1_; have BK1 := n2_; have BK2 := n3_; have BK9 := n4_; have HB := n5_; clear n0_ n1_ n2_ n3_ n4_ n5_; clear hb ho52) | ((with_reducible refine gate_dst (N := 64) rfl ?_); (try (refine gate_guard (by rfl) ?_; dsimp only)); refine Kd.R_lit (Kd.int .i64) _ 3 ?hg (N := 64) ?hd (xs := ([] : List Int)) (inner := []) (ok := fun _ => True) (okp := fun _ => True) ?hr ?hp (fun _ hk => hk) trivial (Below.refl _ _) (Nat.le_refl _) (by simp) ?_; (case hd => rfl); (case hg => rfl); (case hr => first | (go_simp; done) | (go_simp; rfl)); (case hp => exact (Reps.none _ _)); intro v15 w53 ho54 hb hg_ hnew_; clear hg_ hnew_; (first | rw [← Ny14.out] at ho54 | (simp only [Int.reduceToNat] at ho54; rw [← Ny14.out] at ho54)); have n0_ := am_ (Kd.S_below (sx_ HO_10001.out) hb); have n1_ := am_ (Kd.R_below (rx_ HO13.out) hb); have n2_ := am_ (Kd.R_lower ho54 (below_size bw_)); have n3_ := bb_ BK1.out hb; have n4_ := bb_ BK2.out hb; have n5_ := bb_ BK9.out hb; have n6_ := bs_ hb; clear HO_10001; clear HO13; clear BK1; clear BK2; clear BK9; clear HB; have HO_10001 := n0_; have HO13 := n1_; have HO16 := n2_; have BK1 := n3_; have BK2 := n4_; have BK9 := n5_; have HB := n6_; clear n0_ n1_ n2_ n3_ n4_ n5_ n6_; clear hb ho54))
        go_loopg [9, 10, 11] k3 (fun kq v9 v10 v11 w' => ∃ (x9_4 : List (S50)) (x10_4 : List Int) (x11_4 : Int), v11 = .int .i64 x11_4 ∧ Aside0 (spec_PutFences.l2 kq l1 x8_3 x9_4 x10_4 x11_4 a0_0 l0_1 a0_0 x10001_3 = some (r1, r2, r3)) ∧ Aside0 (kq ≤ k3) ∧ Aside0 (Kd.R k50 50 w' w.heap.size (fun _ => True) v9 x9_4) ∧ Aside0 (Kd.R (Kd.int .i64) 3 w' w.heap.size (fun _ => True) v10 x10_4) ∧ Aside0 (Kd.S (Kd.slice 50 k50) 46 w' w.heap.size (fun k_ => some k_ ≠ (v9 : Value).ownBlock) u10001 x10001_3) ∧ Aside0 (w'.heap[gb1]? = some (.cells #[.int .i64 a0_0, (.slice A0_1 l0_1.length c0_1)] 26 (0, 0))) ∧ Aside0 (w'.heap[gb2]? = some (.cells #[.int .i64 x3000_2, (.slice none 0 0)] 26 (0, 0))) ∧ Aside0 (w'.heap[gb9]? = some (.cells #[.int .i64 a0_0, u10001] 26 (0, 0))) ∧ Aside0 (Below w.heap.size w w'))
        case atStart => exact ⟨(y11), (y14), (0), sd_, H', ⟨Nat.le_refl _⟩, ⟨by (with_reducible repeat (first | apply Kd.R_alloc | apply Kd.R_drewN | apply Kd.R_drew)); exact HO13.out⟩, ⟨by (with_reducible repeat (first | apply Kd.R_alloc | apply Kd.R_drewN | apply Kd.R_drew)); exact HO16.out⟩, ⟨by (with_reducible repeat (first | apply Kd.S_alloc | apply Kd.S_drewN | apply Kd.S_drew)); exact Kd.S_mono HO_10001.out (fun _ hk => hk.2)⟩, ⟨bk_⟩, ⟨bk_⟩, ⟨bk_⟩, ⟨bw_⟩⟩
        case round =>
         clear H'
         try clear c1
         try clear p4
         try clear q4
         try clear p6
         try clear c17
         try clear c17b0
         try clear c18
         try clear c20
         try clear c21
         try clear c21b0
         try clear c23
         try clear c24
         try clear c47
         try clear c47b0
         try clear hcz34_0 hcz34_1
         try clear hcz40_0 hcz40_1
         try clear hcz42_0 hcz42_1
         try clear hcz46_0 hcz46_1
         try clear hcz50_0 hcz50_1
         try clear hfz34_0 hfz34_1
         try clear hfz40_0 hfz40_1
         try clear hfz42_0 hfz42_1
         try clear hfz46_0 hfz46_1
         try clear hfz50_0 hfz50_1
         try clear hx4_0
         try clear hx4_1
         try clear p4
         try clear p6
         try clear q4
         obtain ⟨x9_4, x10_4, x11_4, rfl, HA, HK4, HO_9, HO_10, HO_10001, BK1, BK2, BK9, HB⟩ := hrel
         cases gk with
         | zero => exact absurd HA.out (by simp [spec_PutFences.l2])
         | succ k4 =>
          have H := HA.out
          clear HA
          simp only [spec_PutFences.l2] at H
          by_cases c55 : 0 ≤ x8_3
          rotate_left
          ·rw [if_neg c55] at H
           exact absurd H (by simp)
          rw [if_pos c55] at H
          have c55b0 : decide (0 ≤ x8_3) = true := decide_eq_true c55
          clear c55
          by_cases c56 : x8_3 < (l0_1.length : Int)
          rotate_left
          ·rw [if_neg c56] at H
           exact absurd H (by simp)
          rw [if_pos c56] at H
          have c56b0 : decide (x8_3 < (l0_1.length : Int)) = true := decide_eq_true c56
          clear c56
          by_cases c57 : x11_4 ≤ ((rd_L4 l0_1 x8_3).length : Int)
          ·rw [if_pos c57] at H
           have c57b0 : decide (x11_4 ≤ ((rd_L4 l0_1 x8_3).length : Int)) = true := decide_eq_true c57
           clear c57
           by_cases c58 : x10_4.length < 17592186044416
           rotate_left
           ·rw [if_neg c58] at H
            exact absurd H (by simp)
           rw [if_pos c58] at H
           have LMc58 := am_ c58
           clear c58
           obtain ⟨y18, hy18⟩ : ∃ y_ : List Int, y_ = (x10_4 ++ [(x9_4.length : Int)]) := ⟨_, rfl⟩
           replace H : ((spec_l07Has.f k4 l1 x8_3 x11_4).bind fun t21 => (if t21 = true then (if x9_4.length < 4398046511104 then ((some (x9_4 ++ [(⟨4, 0, 0, 0⟩ : S50)] : List (S50))).bind fun y22 => (if x11_4 < ((rd_L4 l0_1 x8_3).length : Int) then (if 0 ≤ x11_4 then (if y22.length < 4398046511104 then (spec_PutFences.l2 k4 l1 x8_3 (y22 ++ [(⟨(rd_T50 (rd_L4 l0_1 x8_3) x11_4).f0, (rd_T50 (rd_L4 l0_1 x8_3) x11_4).f1, (rd_T50 (rd_L4 l0_1 x8_3) x11_4).f2, (rd_T50 (rd_L4 l0_1 x8_3) x11_4).f3⟩ : S50)]) y18 (wrap64 (x11_4 + 1)) a0_0 l0_1 a0_0 x10001_3) else (none)) else (none)) else (spec_PutFences.l2 k4 l1 x8_3 y22 y18 (wrap64 (x11_4 + 1)) a0_0 l0_1 a0_0 x10001_3))) else (none)) else (if x11_4 < ((rd_L4 l0_1 x8_3).length : Int) then (if 0 ≤ x11_4 then (if x9_4.length < 4398046511104 then (spec_PutFences.l2 k4 l1 x8_3 (x9_4 ++ [(⟨(rd_T50 (rd_L4 l0_1 x8_3) x11_4).f0, (rd_T50 (rd_L4 l0_1 x8_3) x11_4).f1, (rd_T50 (rd_L4 l0_1 x8_3) x11_4).f2, (rd_T50 (rd_L4 l0_1 x8_3) x11_4).f3⟩ : S50)]) y18 (wrap64 (x11_4 + 1)) a0_0 l0_1 a0_0 x10001_3) else (none)) else (none)) else (spec_PutFences.l2 k4 l1 x8_3 x9_4 y18 (wrap64 (x11_4 + 1)) a0_0 l0_1 a0_0 x10001_3)))) = some (r1, r2, r3) := rh_ hy18
           have Ny18 := am_ hy18
           clear hy18
           replace H := Option.bind_eq_some_iff.mp H
           obtain ⟨t21, A590, H⟩ := H
           replace H : (if t21 = true then (if x9_4.length < 4398046511104 then ((some (x9_4 ++ [(⟨4, 0, 0, 0⟩ : S50)] : List (S50))).bind fun y22 => (if x11_4 < ((rd_L4 l0_1 x8_3).length : Int) then (if 0 ≤ x11_4 then (if y22.length < 4398046511104 then (spec_PutFences.l2 k4 l1 x8_3 (y22 ++ [(⟨(rd_T50 (rd_L4 l0_1 x8_3) x11_4).f0, (rd_T50 (rd_L4 l0_1 x8_3) x11_4).f1, (rd_T50 (rd_L4 l0_1 x8_3) x11_4).f2, (rd_T50 (rd_L4 l0_1 x8_3) x11_4).f3⟩ : S50)]) y18 (wrap64 (x11_4 + 1)) a0_0 l0_1 a0_0 x10001_3) else (none)) else (none)) else (spec_PutFences.l2 k4 l1 x8_3 y22 y18 (wrap64 (x11_4 + 1)) a0_0 l0_1 a0_0 x10001_3))) else (none)) else (if x11_4 < ((rd_L4 l0_1 x8_3).length : Int) then (if 0 ≤ x11_4 then (if x9_4.length < 4398046511104 then (spec_PutFences.l2 k4 l1 x8_3 (x9_4 ++ [(⟨(rd_T50 (rd_L4 l0_1 x8_3) x11_4).f0, (rd_T50 (rd_L4 l0_1 x8_3) x11_4).f1, (rd_T50 (rd_L4 l0_1 x8_3) x11_4).f2, (rd_T50 (rd_L4 l0_1 x8_3) x11_4).f3⟩ : S50)]) y18 (wrap64 (x11_4 + 1)) a0_0 l0_1 a0_0 x10001_3) else (none)) else (none)) else (spec_PutFences.l2 k4 l1 x8_3 x9_4 y18 (wrap64 (x11_4 + 1)) a0_0 l0_1 a0_0 x10001_3))) = some (r1, r2, r3) := H
           have A59 := am_ A590
           clear A590
           by_cases c60 : t21 = true
           rotate_left
           ·replace c60 := Bool.eq_false_iff.mpr c60
            subst c60
            have H1 : (if x11_4 < ((rd_L4 l0_1 x8_3).length : Int) then (if 0 ≤ x11_4 then (if x9_4.length < 4398046511104 then (spec_PutFences.l2 k4 l1 x8_3 (x9_4 ++ [(⟨(rd_T50 (rd_L4 l0_1 x8_3) x11_4).f0, (rd_T50 (rd_L4 l0_1 x8_3) x11_4).f1, (rd_T50 (rd_L4 l0_1 x8_3) x11_4).f2, (rd_T50 (rd_L4 l0_1 x8_3) x11_4).f3⟩ : S50)]) y18 (wrap64 (x11_4 + 1)) a0_0 l0_1 a0_0 x10001_3) else (none)) else (none)) else (spec_PutFences.l2 k4 l1 x8_3 x9_4 y18 (wrap64 (x11_4 + 1)) a0_0 l0_1 a0_0 x10001_3)) = some (r1, r2, r3) := by rw [if_neg (show ¬ (false = true) by decide)] at H; exact H
            clear H
            have H := H1
            clear H1
            by_cases c80 : x11_4 < ((rd_L4 l0_1 x8_3).length : Int)
            rotate_left
            ·rw [if_neg c80] at H
             have c80b0 : decide (x11_4 < ((rd_L4 l0_1 x8_3).length : Int)) = false := decide_eq_false c80
             clear c80
             have H' := am_ H
             clear H
             have hnb90 := NB1_2.out
             have hnc90 := NB2_1.out
             have hnb91 := NB1_9.out
             have hnc91 := NB9_1.out
             obtain ⟨hcz92_0, hcz92_1, hfz92_0, hfz92_1⟩ := bc2_ BK1.out
             have p17 : 0 ≤ (x8_3 : Int) := od_
             have q17 : x8_3 < (l0_1.length : Int) := od_
             obtain ⟨ad17, A17_0, c17_0, e17, hx17_0, hl17_0, hi17_0⟩ := at_L4 HR0_1.out x8_3 p17 q17
             cases e17
             replace hx17_0 := (HB.out.cell (World.block_lt_of_cell? w _ hx17_0)).trans hx17_0
             have HR17_0 := am_ hi17_0
             have HC17_0 := am_ hl17_0
             clear hi17_0 hl17_0
             replace p17 := eq_true p17
             replace q17 := eq_true q17
             obtain ⟨Ao93, co93, eo93⟩ := Kd.R_slice HO_9.out
             subst eo93
             go_wp2_with (first | ((with_reducible refine gate_builtin (b := .append) (xs := #[.tmp 75, .tmp 78]) rfl ?_); (try (refine gate_guard (by rfl) ?_; dsimp only)); at_builtin; refine Kd.R_append (Kd.int .i64) (w0 := w) w.heap.size rfl (.tmp 75) (.tmp 78) 47 3 (.int .i64 0) 8 rfl Try.underlying47 info3 rfl (by decide) (by omega) u10 x10_4 (x9_4.length : Int) [.int .i64 (x9_4.length : Int)] (fun _ => True) (fun _ => False) rfl rfl ?aP (fun _ hk => hk.elim) ?aF ?aO ?aB ?aS ?aL ?_; (case aP => exact rfl); (case aB => exact bw_); (case aF => exact (fun _ _ => trivial)); (case aO => exact (rx_ HO_10.out)); (case aS => exact (below_size bw_)); (case aL => have := LMc58.out; omega); intro v19 w94 ho hb hg hat; rw [← Ny18.out] at ho; have n0_ := am_ (Kd.R_over' (rx_ HO_9.out) (Kd.R_typed (rx_ HO_10.out)) (by decide) hg); have n1_ := am_ (Kd.S_over' (sx_ HO_10001.out) (Kd.R_typed (rx_ HO_10.out)) (by decide) hg); have n2_ := am_ (blk_grown (g := gb1) (o := .cells #[.int .i64 a0_0, .slice (some ad17) l0_1.length c0_1] 26 (0, 0)) bk_ hg (Kd.R_ne HO_10.out BK1.out (by decide))); have n3_ := am_ (blk_grown (g := gb2) (o := .cells #[.int .i64 x3000_2, .slice none 0 0] 26 (0, 0)) bk_ hg (Kd.R_ne HO_10.out BK2.out (by decide))); have n4_ := am_ (blk_grown (g := gb9) (o := .cells #[.int .i64 a0_0, u10001] 26 (0, 0)) bk_ hg (Kd.R_ne HO_10.out BK9.out (by decide))); have n5_ := am_ (hb); have n6_ := am_ (ho); clear HO_9; clear HO_10001; clear BK1; clear BK2; clear BK9; clear HB; clear HO_10; have HO_9 := n0_; have HO_10001 := n1_; have BK1 := n2_; have BK2 := n3_; have BK9 := n4_; have HB := n5_; have HO20 := n6_; clear n0_ n1_ n2_ n3_ n4_ n5_ n6_; clear ho hb hg hat) | ((with_reducible refine gate_callee (f := 19) rfl ?_); refine goesL_ (some 83) rfl rfl Try.func19 kr_ rfl #[.slice A1 l1.length c1, .int .i64 x8_3, .int .i64 x11_4] rfl ar_ ?_; (with_reducible refine (spec_l07Has.calls k4 _ _ l1 x8_3 x11_4 false _ ?side1 ?side2 A59.out).mono ?_); (case side1 => exact cb_); (case side2 => exact HC1.out); rintro e w' ⟨rfl, ⟨nd, rfl⟩⟩; refine ⟨_, rfl, ?_⟩; obtain ⟨hcz95_0, hcz95_1, hfz95_0, hfz95_1⟩ := bc2_ BK1.out; have p31 : 0 ≤ (x8_3 : Int) := od_; have q31 : x8_3 < (l0_1.length : Int) := od_; obtain ⟨ad31, A31_0, c31_0, e31, hx31_0, hl31_0, hi31_0⟩ := at_L4 HR0_1.out x8_3 p31 q31; obtain rfl : ad17 = ad31 := (by injection e31); replace hx31_0 := (HB.out.cell (World.block_lt_of_cell? w _ hx31_0)).trans hx31_0; have HR31_0 := am_ hi31_0; have HC31_0 := am_ hl31_0; clear hi31_0 hl31_0; replace p31 := eq_true p31; replace q31 := eq_true q31))
             go_roundg k4
             case measure => have := HJ2.out; have := HK2.out; have := HK3.out; have := HK4.out; omega
             case rel => exact ⟨(x9_4), (y18), (wrap64 (x11_4 + 1)), sd_, H', ⟨by have := HJ2.out; have := HK2.out; have := HK3.out; have := HK4.out; omega⟩, ⟨by (with_reducible repeat (first | apply Kd.R_alloc | apply Kd.R_drewN | apply Kd.R_drew)); exact HO_9.out⟩, ⟨by (with_reducible repeat (first | apply Kd.R_alloc | apply Kd.R_drewN | apply Kd.R_drew)); exact HO20.out⟩, ⟨by (with_reducible repeat (first | apply Kd.S_alloc | apply Kd.S_drewN | apply Kd.S_drew)); exact HO_10001.out⟩, ⟨bk_⟩, ⟨bk_⟩, ⟨bk_⟩, ⟨bw_⟩⟩
            rw [if_pos c80] at H
            have c80b0 : decide (x11_4 < ((rd_L4 l0_1 x8_3).length : Int)) = true := decide_eq_true c80
            clear c80
            by_cases c81 : 0 ≤ x11_4
            rotate_left
            ·rw [if_neg c81] at H
             exact absurd H (by simp)
            rw [if_pos c81] at H
            have c81b0 : decide (0 ≤ x11_4) = true := decide_eq_true c81
            clear c81
            by_cases c82 : x9_4.length < 4398046511104
            rotate_left
            ·rw [if_neg c82] at H
             exact absurd H (by simp)
            rw [if_pos c82] at H
            have LMc82 := am_ c82
            clear c82
            obtain ⟨y34, hy34⟩ : ∃ y_ : List (S50), y_ = (x9_4 ++ [(⟨(rd_T50 (rd_L4 l0_1 x8_3) x11_4).f0, (rd_T50 (rd_L4 l0_1 x8_3) x11_4).f1, (rd_T50 (rd_L4 l0_1 x8_3) x11_4).f2, (rd_T50 (rd_L4 l0_1 x8_3) x11_4).f3⟩ : S50)]) := ⟨_, rfl⟩
            replace H : (spec_PutFences.l2 k4 l1 x8_3 y34 y18 (wrap64 (x11_4 + 1)) a0_0 l0_1 a0_0 x10001_3) = some (r1, r2, r3) := rh_ hy34
            have Ny34 := am_ hy34
            clear hy34
            have H' := am_ H
            clear H
            have hnb83 := NB1_2.out
            have hnc83 := NB2_1.out
            have hnb84 := NB1_9.out
            have hnc84 := NB9_1.out
            obtain ⟨hcz85_0, hcz85_1, hfz85_0, hfz85_1⟩ := bc2_ BK1.out
            have p17 : 0 ≤ (x8_3 : Int) := od_
            have q17 : x8_3 < (l0_1.length : Int) := od_
            obtain ⟨ad17, A17_0, c17_0, e17, hx17_0, hl17_0, hi17_0⟩ := at_L4 HR0_1.out x8_3 p17 q17
            cases e17
            replace hx17_0 := (HB.out.cell (World.block_lt_of_cell? w _ hx17_0)).trans hx17_0
            have HR17_0 := am_ hi17_0
            have HC17_0 := am_ hl17_0
            clear hi17_0 hl17_0
            replace p17 := eq_true p17
            replace q17 := eq_true q17
            obtain ⟨Ao86, co86, eo86⟩ := Kd.R_slice HO_9.out
            subst eo86
            go_wp2_with (first | ((with_reducible refine gate_builtin (b := .append) (xs := #[.tmp 75, .tmp 78]) rfl ?_); (try (refine gate_guard (by rfl) ?_; dsimp only)); at_builtin; refine Kd.R_append (Kd.int .i64) (w0 := w) w.heap.size rfl (.tmp 75) (.tmp 78) 47 3 (.int .i64 0) 8 rfl Try.underlying47 info3 rfl (by decide) (by omega) u10 x10_4 (x9_4.length : Int) [.int .i64 (x9_4.length : Int)] (fun _ => True) (fun _ => False) rfl rfl ?aP (fun _ hk => hk.elim) ?aF ?aO ?aB ?aS ?aL ?_; (case aP => exact rfl); (case aB => exact bw_); (case aF => exact (fun _ _ => trivial)); (case aO => exact (rx_ HO_10.out)); (case aS => exact (below_size bw_)); (case aL => have := LMc58.out; omega); intro v19 w87 ho hb hg hat; rw [← Ny18.out] at ho; have n0_ := am_ (Kd.R_over' (rx_ HO_9.out) (Kd.R_typed (rx_ HO_10.out)) (by decide) hg); have n1_ := am_ (Kd.S_over' (sx_ HO_10001.out) (Kd.R_typed (rx_ HO_10.out)) (by decide) hg); have n2_ := am_ (blk_grown (g := gb1) (o := .cells #[.int .i64 a0_0, .slice (some ad17) l0_1.length c0_1] 26 (0, 0)) bk_ hg (Kd.R_ne HO_10.out BK1.out (by decide))); have n3_ := am_ (blk_grown (g := gb2) (o := .cells #[.int .i64 x3000_2, .slice none 0 0] 26 (0, 0)) bk_ hg (Kd.R_ne HO_10.out BK2.out (by decide))); have n4_ := am_ (blk_grown (g := gb9) (o := .cells #[.int .i64 a0_0, u10001] 26 (0, 0)) bk_ hg (Kd.R_ne HO_10.out BK9.out (by decide))); have n5_ := am_ (hb); have n6_ := am_ (ho); clear HO_9; clear HO_10001; clear BK1; clear BK2; clear BK9; clear HB; clear HO_10; have HO_9 := n0_; have HO_10001 := n1_; have BK1 := n2_; have BK2 := n3_; have BK9 := n4_; have HB := n5_; have HO20 := n6_; clear n0_ n1_ n2_ n3_ n4_ n5_ n6_; clear ho hb hg hat) | ((with_reducible refine gate_callee (f := 19) rfl ?_); refine goesL_ (some 83) rfl rfl Try.func19 kr_ rfl #[.slice A1 l1.length c1, .int .i64 x8_3, .int .i64 x11_4] rfl ar_ ?_; (with_reducible refine (spec_l07Has.calls k4 _ _ l1 x8_3 x11_4 false _ ?side1 ?side2 A59.out).mono ?_); (case side1 => exact cb_); (case side2 => exact HC1.out); rintro e w' ⟨rfl, ⟨nd, rfl⟩⟩; refine ⟨_, rfl, ?_⟩; obtain ⟨hcz88_0, hcz88_1, hfz88_0, hfz88_1⟩ := bc2_ BK1.out; have p31 : 0 ≤ (x8_3 : Int) := od_; have q31 : x8_3 < (l0_1.length : Int) := od_; obtain ⟨ad31, A31_0, c31_0, e31, hx31_0, hl31_0, hi31_0⟩ := at_L4 HR0_1.out x8_3 p31 q31; obtain rfl : ad17 = ad31 := (by injection e31); replace hx31_0 := (HB.out.cell (World.block_lt_of_cell? w _ hx31_0)).trans hx31_0; have HR31_0 := am_ hi31_0; have HC31_0 := am_ hl31_0; clear hi31_0 hl31_0; replace p31 := eq_true p31; replace q31 := eq_true q31; have p32 : 0 ≤ (x8_3 : Int) := od_; have q32 : x8_3 < (l0_1.length : Int) := od_; obtain ⟨ad32, A32_0, c32_0, e32, hx32_0, hl32_0, hi32_0⟩ := at_L4 HR0_1.out x8_3 p32 q32; obtain rfl : ad17 = ad32 := (by injection e32); replace hx32_0 := (HB.out.cell (World.block_lt_of_cell? w _ hx32_0)).trans hx32_0; have HR32_0 := am_ hi32_0; have HC32_0 := am_ hl32_0; clear hi32_0 hl32_0; replace p32 := eq_true p32; replace q32 := eq_true q32; have ea_ := Option.some.inj (hx31_0.symm.trans hx32_0); injection ea_ with ea_ en_ ec_; subst ea_; subst ec_; clear en_; have p33 : 0 ≤ (x11_4 : Int) := od_; have q33 : x11_4 < ((rd_L4 l0_1 x8_3).length : Int) := od_; obtain ⟨ad33, e33, hx33_0, hx33_1, hx33_2, hx33_3⟩ := at_T50 HR32_0.out x11_4 p33 q33; cases e33; replace hx33_0 := (HB.out.cell (World.block_lt_of_cell? w _ hx33_0)).trans hx33_0; replace hx33_1 := (HB.out.cell (World.block_lt_of_cell? w _ hx33_1)).trans hx33_1; replace hx33_2 := (HB.out.cell (World.block_lt_of_cell? w _ hx33_2)).trans hx33_2; replace hx33_3 := (HB.out.cell (World.block_lt_of_cell? w _ hx33_3)).trans hx33_3; replace p33 := eq_true p33; replace q33 := eq_true q33) | ((with_reducible refine gate_builtin (b := .append) (xs := #[.tmp 96, .tmp 105]) rfl ?_); (try (refine gate_guard (by rfl) ?_; dsimp only)); at_builtin; refine Kd.R_append k50 (w0 := w) w.heap.size rfl (.tmp 96) (.tmp 105) 46 50 (.agg #[(.int .i64 0), (.int .i64 0), (.int .i64 0), (.int .i64 0)]) 32 rfl Try.underlying46 info50 rfl (by decide) (by omega) (.slice Ao86 x9_4.length co86) x9_4 (⟨(rd_T50 (rd_L4 l0_1 x8_3) x11_4).f0, (rd_T50 (rd_L4 l0_1 x8_3) x11_4).f1, (rd_T50 (rd_L4 l0_1 x8_3) x11_4).f2, (rd_T50 (rd_L4 l0_1 x8_3) x11_4).f3⟩ : S50) [.int .i64 ((rd_T50 (rd_L4 l0_1 x8_3) x11_4).f0), .int .i64 ((rd_T50 (rd_L4 l0_1 x8_3) x11_4).f1), .int .i64 ((rd_T50 (rd_L4 l0_1 x8_3) x11_4).f2), .int .i64 ((rd_T50 (rd_L4 l0_1 x8_3) x11_4).f3)] (fun _ => True) (fun _ => False) rfl rfl ?aP (fun _ hk => hk.elim) ?aF ?aO ?aB ?aS ?aL ?_; (case aP => exact k50_mkM _ _ _ (⟨(rd_T50 (rd_L4 l0_1 x8_3) x11_4).f0, (rd_T50 (rd_L4 l0_1 x8_3) x11_4).f1, (rd_T50 (rd_L4 l0_1 x8_3) x11_4).f2, (rd_T50 (rd_L4 l0_1 x8_3) x11_4).f3⟩ : S50)); (case aB => exact bw_); (case aF => exact (fun _ _ => trivial)); (case aO => exact (rx_ HO_9.out)); (case aS => exact (below_size bw_)); (case aL => have := LMc82.out; omega); intro v35 w89 ho hb hg hat; rw [← Ny34.out] at ho; have n0_ := am_ (Kd.S_after (ok := (fun _ => True)) (by (with_reducible repeat (first | apply Kd.S_alloc | apply Kd.S_drewN | apply Kd.S_drew)); exact Kd.S_mono HO_10001.out (fun _ hk => ⟨trivial, hk⟩)) hg hat); have n1_ := am_ (blk_grown (g := gb1) (o := .cells #[.int .i64 a0_0, .slice (some ad17) l0_1.length c0_1] 26 (0, 0)) bk_ hg (Kd.R_ne HO_9.out BK1.out (by decide))); have n2_ := am_ (blk_grown (g := gb2) (o := .cells #[.int .i64 x3000_2, .slice none 0 0] 26 (0, 0)) bk_ hg (Kd.R_ne HO_9.out BK2.out (by decide))); have n3_ := am_ (blk_grown (g := gb9) (o := .cells #[.int .i64 a0_0, u10001] 26 (0, 0)) bk_ hg (Kd.R_ne HO_9.out BK9.out (by decide))); have n4_ := am_ (Kd.R_over' (rx_ HO20.out) (Kd.R_typed (rx_ HO_9.out)) (by decide) hg); have n5_ := am_ (hb); have n6_ := am_ (ho); clear HO_10001; clear BK1; clear BK2; clear BK9; clear HO20; clear HB; clear HO_9; have HO_10001 := n0_; have BK1 := n1_; have BK2 := n2_; have BK9 := n3_; have HO20 := n4_; have HB := n5_; have HO36 := n6_; clear n0_ n1_ n2_ n3_ n4_ n5_ n6_; clear ho hb hg hat))
            go_roundg k4
            case measure => have := HJ2.out; have := HK2.out; have := HK3.out; have := HK4.out; omega
            case rel => exact ⟨(y34), (y18), (wrap64 (x11_4 + 1)), sd_, H', ⟨by have := HJ2.out; have := HK2.out; have := HK3.out; have := HK4.out; omega⟩, ⟨by (with_reducible repeat (first | apply Kd.R_alloc | apply Kd.R_drewN | apply Kd.R_drew)); exact HO36.out⟩, ⟨by (with_reducible repeat (first | apply Kd.R_alloc | apply Kd.R_drewN | apply Kd.R_drew)); exact HO20.out⟩, ⟨by (with_reducible repeat (first | apply Kd.S_alloc | apply Kd.S_drewN | apply Kd.S_drew)); exact Kd.S_mono HO_10001.out (fun _ hk => hk.2)⟩, ⟨bk_⟩, ⟨bk_⟩, ⟨bk_⟩, ⟨bw_⟩⟩
           subst c60
           have H1 : (if x9_4.length < 4398046511104 then ((some (x9_4 ++ [(⟨4, 0, 0, 0⟩ : S50)] : List (S50))).bind fun y22 => (if x11_4 < ((rd_L4 l0_1 x8_3).length : Int) then (if 0 ≤ x11_4 then (if y22.length < 4398046511104 then (spec_PutFences.l2 k4 l1 x8_3 (y22 ++ [(⟨(rd_T50 (rd_L4 l0_1 x8_3) x11_4).f0, (rd_T50 (rd_L4 l0_1 x8_3) x11_4).f1, (rd_T50 (rd_L4 l0_1 x8_3) x11_4).f2, (rd_T50 (rd_L4 l0_1 x8_3) x11_4).f3⟩ : S50)]) y18 (wrap64 (x11_4 + 1)) a0_0 l0_1 a0_0 x10001_3) else (none)) else (none)) else (spec_PutFences.l2 k4 l1 x8_3 y22 y18 (wrap64 (x11_4 + 1)) a0_0 l0_1 a0_0 x10001_3))) else (none)) = some (r1, r2, r3) := by rw [if_pos rfl] at H; exact H
           clear H
           have H := H1
           clear H1
           by_cases c61 : x9_4.length < 4398046511104
           rotate_left
           ·rw [if_neg c61] at H
            exact absurd H (by simp)
           rw [if_pos c61] at H
           have LMc61 := am_ c61
           clear c61
           obtain ⟨y22, hy22⟩ : ∃ y_ : List (S50), y_ = (x9_4 ++ [(⟨4, 0, 0, 0⟩ : S50)]) := ⟨_, rfl⟩
           replace H : (if x11_4 < ((rd_L4 l0_1 x8_3).length : Int) then (if 0 ≤ x11_4 then (if y22.length < 4398046511104 then (spec_PutFences.l2 k4 l1 x8_3 (y22 ++ [(⟨(rd_T50 (rd_L4 l0_1 x8_3) x11_4).f0, (rd_T50 (rd_L4 l0_1 x8_3) x11_4).f1, (rd_T50 (rd_L4 l0_1 x8_3) x11_4).f2, (rd_T50 (rd_L4 l0_1 x8_3) x11_4).f3⟩ : S50)]) y18 (wrap64 (x11_4 + 1)) a0_0 l0_1 a0_0 x10001_3) else (none)) else (none)) else (spec_PutFences.l2 k4 l1 x8_3 y22 y18 (wrap64 (x11_4 + 1)) a0_0 l0_1 a0_0 x10001_3)) = some (r1, r2, r3) := rh_ hy22
           have Ny22 := am_ hy22
           clear hy22
           by_cases c62 : x11_4 < ((rd_L4 l0_1 x8_3).length : Int)
           rotate_left
           ·rw [if_neg c62] at H
            have c62b0 : decide (x11_4 < ((rd_L4 l0_1 x8_3).length : Int)) = false := decide_eq_false c62
            clear c62
            have H' := am_ H
            clear H
            have hnb73 := NB1_2.out
            have hnc73 := NB2_1.out
            have hnb74 := NB1_9.out
            have hnc74 := NB9_1.out
            obtain ⟨hcz75_0, hcz75_1, hfz75_0, hfz75_1⟩ := bc2_ BK1.out
            have p17 : 0 ≤ (x8_3 : Int) := od_
            have q17 : x8_3 < (l0_1.length : Int) := od_
            obtain ⟨ad17, A17_0, c17_0, e17, hx17_0, hl17_0, hi17_0⟩ := at_L4 HR0_1.out x8_3 p17 q17
            cases e17
            replace hx17_0 := (HB.out.cell (World.block_lt_of_cell? w _ hx17_0)).trans hx17_0
            have HR17_0 := am_ hi17_0
            have HC17_0 := am_ hl17_0
            clear hi17_0 hl17_0
            replace p17 := eq_true p17
            replace q17 := eq_true q17
            obtain ⟨Ao76, co76, eo76⟩ := Kd.R_slice HO_9.out
            subst eo76
            go_wp2_with (first | ((with_reducible refine gate_builtin (b := .append) (xs := #[.tmp 75, .tmp 78]) rfl ?_); (try (refine gate_guard (by rfl) ?_; dsimp only)); at_builtin; refine Kd.R_append (Kd.int .i64) (w0 := w) w.heap.size rfl (.tmp 75) (.tmp 78) 47 3 (.int .i64 0) 8 rfl Try.underlying47 info3 rfl (by decide) (by omega) u10 x10_4 (x9_4.length : Int) [.int .i64 (x9_4.length : Int)] (fun _ => True) (fun _ => False) rfl rfl ?aP (fun _ hk => hk.elim) ?aF ?aO ?aB ?aS ?aL ?_; (case aP => exact rfl); (case aB => exact bw_); (case aF => exact (fun _ _ => trivial)); (case aO => exact (rx_ HO_10.out)); (case aS => exact (below_size bw_)); (case aL => have := LMc58.out; omega); intro v19 w77 ho hb hg hat; rw [← Ny18.out] at ho; have n0_ := am_ (Kd.R_over' (rx_ HO_9.out) (Kd.R_typed (rx_ HO_10.out)) (by decide) hg); have n1_ := am_ (Kd.S_over' (sx_ HO_10001.out) (Kd.R_typed (rx_ HO_10.out)) (by decide) hg); have n2_ := am_ (blk_grown (g := gb1) (o := .cells #[.int .i64 a0_0, .slice (some ad17) l0_1.length c0_1] 26 (0, 0)) bk_ hg (Kd.R_ne HO_10.out BK1.out (by decide))); have n3_ := am_ (blk_grown (g := gb2) (o := .cells #[.int .i64 x3000_2, .slice none 0 0] 26 (0, 0)) bk_ hg (Kd.R_ne HO_10.out BK2.out (by decide))); have n4_ := am_ (blk_grown (g := gb9) (o := .cells #[.int .i64 a0_0, u10001] 26 (0, 0)) bk_ hg (Kd.R_ne HO_10.out BK9.out (by decide))); have n5_ := am_ (hb); have n6_ := am_ (ho); clear HO_9; clear HO_10001; clear BK1; clear BK2; clear BK9; clear HB; clear HO_10; have HO_9 := n0_; have HO_10001 := n1_; have BK1 := n2_; have BK2 := n3_; have BK9 := n4_; have HB := n5_; have HO20 := n6_; clear n0_ n1_ n2_ n3_ n4_ n5_ n6_; clear ho hb hg hat) | ((with_reducible refine gate_callee (f := 19) rfl ?_); refine goesL_ (some 83) rfl rfl Try.func19 kr_ rfl #[.slice A1 l1.length c1, .int .i64 x8_3, .int .i64 x11_4] rfl ar_ ?_; (with_reducible refine (spec_l07Has.calls k4 _ _ l1 x8_3 x11_4 true _ ?side1 ?side2 A59.out).mono ?_); (case side1 => exact cb_); (case side2 => exact HC1.out); rintro e w' ⟨rfl, ⟨nd, rfl⟩⟩; refine ⟨_, rfl, ?_⟩) | ((with_reducible refine gate_builtin (b := .append) (xs := #[.tmp 84, .tmp 86]) rfl ?_); (try (refine gate_guard (by rfl) ?_; dsimp only)); at_builtin; refine Kd.R_append k50 (w0 := w) w.heap.size rfl (.tmp 84) (.tmp 86) 46 50 (.agg #[(.int .i64 0), (.int .i64 0), (.int .i64 0), (.int .i64 0)]) 32 rfl Try.underlying46 info50 rfl (by decide) (by omega) (.slice Ao76 x9_4.length co76) x9_4 (⟨4, 0, 0, 0⟩ : S50) [.int .i64 4, .int .i64 0, .int .i64 0, .int .i64 0] (fun _ => True) (fun _ => False) rfl rfl ?aP (fun _ hk => hk.elim) ?aF ?aO ?aB ?aS ?aL ?_; (case aP => exact k50_mkM _ _ _ (⟨4, 0, 0, 0⟩ : S50)); (case aB => exact bw_); (case aF => exact (fun _ _ => trivial)); (case aO => exact (rx_ HO_9.out)); (case aS => exact (below_size bw_)); (case aL => have := LMc61.out; omega); intro v23 w78 ho hb hg hat; rw [← Ny22.out] at ho; have n0_ := am_ (Kd.S_after (ok := (fun _ => True)) (by (with_reducible repeat (first | apply Kd.S_alloc | apply Kd.S_drewN | apply Kd.S_drew)); exact Kd.S_mono HO_10001.out (fun _ hk => ⟨trivial, hk⟩)) hg hat); have n1_ := am_ (blk_grown (g := gb1) (o := .cells #[.int .i64 a0_0, .slice (some ad17) l0_1.length c0_1] 26 (0, 0)) bk_ hg (Kd.R_ne HO_9.out BK1.out (by decide))); have n2_ := am_ (blk_grown (g := gb2) (o := .cells #[.int .i64 x3000_2, .slice none 0 0] 26 (0, 0)) bk_ hg (Kd.R_ne HO_9.out BK2.out (by decide))); have n3_ := am_ (blk_grown (g := gb9) (o := .cells #[.int .i64 a0_0, u10001] 26 (0, 0)) bk_ hg (Kd.R_ne HO_9.out BK9.out (by decide))); have n4_ := am_ (Kd.R_over' (rx_ HO20.out) (Kd.R_typed (rx_ HO_9.out)) (by decide) hg); have n5_ := am_ (hb); have n6_ := am_ (ho); clear HO_10001; clear BK1; clear BK2; clear BK9; clear HO20; clear HB; clear HO_9; have HO_10001 := n0_; have BK1 := n1_; have BK2 := n2_; have BK9 := n3_; have HO20 := n4_; have HB := n5_; have HO24 := n6_; clear n0_ n1_ n2_ n3_ n4_ n5_ n6_; clear ho hb hg hat; obtain ⟨hcz79_0, hcz79_1, hfz79_0, hfz79_1⟩ := bc2_ BK1.out; have p25 : 0 ≤ (x8_3 : Int) := od_; have q25 : x8_3 < (l0_1.length : Int) := od_; obtain ⟨ad25, A25_0, c25_0, e25, hx25_0, hl25_0, hi25_0⟩ := at_L4 HR0_1.out x8_3 p25 q25; obtain rfl : ad17 = ad25 := (by injection e25); replace hx25_0 := (HB.out.cell (World.block_lt_of_cell? w _ hx25_0)).trans hx25_0; have HR25_0 := am_ hi25_0; have HC25_0 := am_ hl25_0; clear hi25_0 hl25_0; replace p25 := eq_true p25; replace q25 := eq_true q25))
            go_roundg k4
            case measure => have := HJ2.out; have := HK2.out; have := HK3.out; have := HK4.out; omega
            case rel => exact ⟨(y22), (y18), (wrap64 (x11_4 + 1)), sd_, H', ⟨by have := HJ2.out; have := HK2.out; have := HK3.out; have := HK4.out; omega⟩, ⟨by (with_reducible repeat (first | apply Kd.R_alloc | apply Kd.R_drewN | apply Kd.R_drew)); exact HO24.out⟩, ⟨by (with_reducible repeat (first | apply Kd.R_alloc | apply Kd.R_drewN | apply Kd.R_drew)); exact HO20.out⟩, ⟨by (with_reducible repeat (first | apply Kd.S_alloc | apply Kd.S_drewN | apply Kd.S_drew)); exact Kd.S_mono HO_10001.out (fun _ hk => hk.2)⟩, ⟨bk_⟩, ⟨bk_⟩, ⟨bk_⟩, ⟨bw_⟩⟩
           rw [if_pos c62] at H
           have c62b0 : decide (x11_4 < ((rd_L4 l0_1 x8_3).length : Int)) = true := decide_eq_true c62
           clear c62
           by_cases c63 : 0 ≤ x11_4
           rotate_left
           ·rw [if_neg c63] at H
            exact absurd H (by simp)
           rw [if_pos c63] at H
           have c63b0 : decide (0 ≤ x11_4) = true := decide_eq_true c63
           clear c63
           by_cases c64 : y22.length < 4398046511104
           rotate_left
           ·rw [if_neg c64] at H
            exact absurd H (by simp)
           rw [if_pos c64] at H
           have LMc64 := am_ c64
           clear c64
           obtain ⟨y28, hy28⟩ : ∃ y_ : List (S50), y_ = (y22 ++ [(⟨(rd_T50 (rd_L4 l0_1 x8_3) x11_4).f0, (rd_T50 (rd_L4 l0_1 x8_3) x11_4).f1, (rd_T50 (rd_L4 l0_1 x8_3) x11_4).f2, (rd_T50 (rd_L4 l0_1 x8_3) x11_4).f3⟩ : S50)]) := ⟨_, rfl⟩
           replace H : (spec_PutFences.l2 k4 l1 x8_3 y28 y18 (wrap64 (x11_4 + 1)) a0_0 l0_1 a0_0 x10001_3) = some (r1, r2, r3) := rh_ hy28
           have Ny28 := am_ hy28
           clear hy28
           have H' := am_ H
           clear H
           have hnb65 := NB1_2.out
           have hnc65 := NB2_1.out
           have hnb66 := NB1_9.out
           have hnc66 := NB9_1.out
           obtain ⟨hcz67_0, hcz67_1, hfz67_0, hfz67_1⟩ := bc2_ BK1.out
           have p17 : 0 ≤ (x8_3 : Int) := od_
           have q17 : x8_3 < (l0_1.length : Int) := od_
           obtain ⟨ad17, A17_0, c17_0, e17, hx17_0, hl17_0, hi17_0⟩ := at_L4 HR0_1.out x8_3 p17 q17
           cases e17
           replace hx17_0 := (HB.out.cell (World.block_lt_of_cell? w _ hx17_0)).trans hx17_0
           have HR17_0 := am_ hi17_0
           have HC17_0 := am_ hl17_0
           clear hi17_0 hl17_0
           replace p17 := eq_true p17
           replace q17 := eq_true q17
           obtain ⟨Ao68, co68, eo68⟩ := Kd.R_slice HO_9.out
           subst eo68
           go_wp2_with (first | ((with_reducible refine gate_builtin (b := .append) (xs := #[.tmp 75, .tmp 78]) rfl ?_); (try (refine gate_guard (by rfl) ?_; dsimp only)); at_builtin; refine Kd.R_append (Kd.int .i64) (w0 := w) w.heap.size rfl (.tmp 75) (.tmp 78) 47 3 (.int .i64 0) 8 rfl Try.underlying47 info3 rfl (by decide) (by omega) u10 x10_4 (x9_4.length : Int) [.int .i64 (x9_4.length : Int)] (fun _ => True) (fun _ => False) rfl rfl ?aP (fun _ hk => hk.elim) ?aF ?aO ?aB ?aS ?aL ?_; (case aP => exact rfl); (case aB => exact bw_); (case aF => exact (fun _ _ => trivial)); (case aO => exact (rx_ HO_10.out)); (case aS => exact (below_size bw_)); (case aL => have := LMc58.out; omega); intro v19 w69 ho hb hg hat; rw [← Ny18.out] at ho; have n0_ := am_ (Kd.R_over' (rx_ HO_9.out) (Kd.R_typed (rx_ HO_10.out)) (by decide) hg); have n1_ := am_ (Kd.S_over' (sx_ HO_10001.out) (Kd.R_typed (rx_ HO_10.out)) (by decide) hg); have n2_ := am_ (blk_grown (g := gb1) (o := .cells #[.int .i64 a0_0, .slice (some ad17) l0_1.length c0_1] 26 (0, 0)) bk_ hg (Kd.R_ne HO_10.out BK1.out (by decide))); have n3_ := am_ (blk_grown (g := gb2) (o := .cells #[.int .i64 x3000_2, .slice none 0 0] 26 (0, 0)) bk_ hg (Kd.R_ne HO_10.out BK2.out (by decide))); have n4_ := am_ (blk_grown (g := gb9) (o := .cells #[.int .i64 a0_0, u10001] 26 (0, 0)) bk_ hg (Kd.R_ne HO_10.out BK9.out (by decide))); have n5_ := am_ (hb); have n6_ := am_ (ho); clear HO_9; clear HO_10001; clear BK1; clear BK2; clear BK9; clear HB; clear HO_10; have HO_9 := n0_; have HO_10001 := n1_; have BK1 := n2_; have BK2 := n3_; have BK9 := n4_; have HB := n5_; have HO20 := n6_; clear n0_ n1_ n2_ n3_ n4_ n5_ n6_; clear ho hb hg hat) | ((with_reducible refine gate_callee (f := 19) rfl ?_); refine goesL_ (some 83) rfl rfl Try.func19 kr_ rfl #[.slice A1 l1.length c1, .int .i64 x8_3, .int .i64 x11_4] rfl ar_ ?_; (with_reducible refine (spec_l07Has.calls k4 _ _ l1 x8_3 x11_4 true _ ?side1 ?side2 A59.out).mono ?_); (case side1 => exact cb_); (case side2 => exact HC1.out); rintro e w' ⟨rfl, ⟨nd, rfl⟩⟩; refine ⟨_, rfl, ?_⟩) | ((with_reducible refine gate_builtin (b := .append) (xs := #[.tmp 84, .tmp 86]) rfl ?_); (try (refine gate_guard (by rfl) ?_; dsimp only)); at_builtin; refine Kd.R_append k50 (w0 := w) w.heap.size rfl (.tmp 84) (.tmp 86) 46 50 (.agg #[(.int .i64 0), (.int .i64 0), (.int .i64 0), (.int .i64 0)]) 32 rfl Try.underlying46 info50 rfl (by decide) (by omega) (.slice Ao68 x9_4.length co68) x9_4 (⟨4, 0, 0, 0⟩ : S50) [.int .i64 4, .int .i64 0, .int .i64 0, .int .i64 0] (fun _ => True) (fun _ => False) rfl rfl ?aP (fun _ hk => hk.elim) ?aF ?aO ?aB ?aS ?aL ?_; (case aP => exact k50_mkM _ _ _ (⟨4, 0, 0, 0⟩ : S50)); (case aB => exact bw_); (case aF => exact (fun _ _ => trivial)); (case aO => exact (rx_ HO_9.out)); (case aS => exact (below_size bw_)); (case aL => have := LMc61.out; omega); intro v23 w70 ho hb hg hat; rw [← Ny22.out] at ho; have n0_ := am_ (Kd.S_after (ok := (fun _ => True)) (by (with_reducible repeat (first | apply Kd.S_alloc | apply Kd.S_drewN | apply Kd.S_drew)); exact Kd.S_mono HO_10001.out (fun _ hk => ⟨trivial, hk⟩)) hg hat); have n1_ := am_ (blk_grown (g := gb1) (o := .cells #[.int .i64 a0_0, .slice (some ad17) l0_1.length c0_1] 26 (0, 0)) bk_ hg (Kd.R_ne HO_9.out BK1.out (by decide))); have n2_ := am_ (blk_grown (g := gb2) (o := .cells #[.int .i64 x3000_2, .slice none 0 0] 26 (0, 0)) bk_ hg (Kd.R_ne HO_9.out BK2.out (by decide))); have n3_ := am_ (blk_grown (g := gb9) (o := .cells #[.int .i64 a0_0, u10001] 26 (0, 0)) bk_ hg (Kd.R_ne HO_9.out BK9.out (by decide))); have n4_ := am_ (Kd.R_over' (rx_ HO20.out) (Kd.R_typed (rx_ HO_9.out)) (by decide) hg); have n5_ := am_ (hb); have n6_ := am_ (ho); clear HO_10001; clear BK1; clear BK2; clear BK9; clear HO20; clear HB; clear HO_9; have HO_10001 := n0_; have BK1 := n1_; have BK2 := n2_; have BK9 := n3_; have HO20 := n4_; have HB := n5_; have HO24 := n6_; clear n0_ n1_ n2_ n3_ n4_ n5_ n6_; clear ho hb hg hat; obtain ⟨hcz71_0, hcz71_1, hfz71_0, hfz71_1⟩ := bc2_ BK1.out; have p25 : 0 ≤ (x8_3 : Int) := od_; have q25 : x8_3 < (l0_1.length : Int) := od_; obtain ⟨ad25, A25_0, c25_0, e25, hx25_0, hl25_0, hi25_0⟩ := at_L4 HR0_1.out x8_3 p25 q25; obtain rfl : ad17 = ad25 := (by injection e25); replace hx25_0 := (HB.out.cell (World.block_lt_of_cell? w _ hx25_0)).trans hx25_0; have HR25_0 := am_ hi25_0; have HC25_0 := am_ hl25_0; clear hi25_0 hl25_0; replace p25 := eq_true p25; replace q25 := eq_true q25; have p26 : 0 ≤ (x8_3 : Int) := od_; have q26 : x8_3 < (l0_1.length : Int) := od_; obtain ⟨ad26, A26_0, c26_0, e26, hx26_0, hl26_0, hi26_0⟩ := at_L4 HR0_1.out x8_3 p26 q26; obtain rfl : ad17 = ad26 := (by injection e26); replace hx26_0 := (HB.out.cell (World.block_lt_of_cell? w _ hx26_0)).trans hx26_0; have HR26_0 := am_ hi26_0; have HC26_0 := am_ hl26_0; clear hi26_0 hl26_0; replace p26 := eq_true p26; replace q26 := eq_true q26; have ea_ := Option.some.inj (hx25_0.symm.trans hx26_0); injection ea_ with ea_ en_ ec_; subst ea_; subst ec_; clear en_; have p27 : 0 ≤ (x11_4 : Int) := od_; have q27 : x11_4 < ((rd_L4 l0_1 x8_3).length : Int) := od_; obtain ⟨ad27, e27, hx27_0, hx27_1, hx27_2, hx27_3⟩ := at_T50 HR26_0.out x11_4 p27 q27; cases e27; replace hx27_0 := (HB.out.cell (World.block_lt_of_cell? w _ hx27_0)).trans hx27_0; replace hx27_1 := (HB.out.cell (World.block_lt_of_cell? w _ hx27_1)).trans hx27_1; replace hx27_2 := (HB.out.cell (World.block_lt_of_cell? w _ hx27_2)).trans hx27_2; replace hx27_3 := (HB.out.cell (World.block_lt_of_cell? w _ hx27_3)).trans hx27_3; replace p27 := eq_true p27; replace q27 := eq_true q27) | ((with_reducible refine gate_builtin (b := .append) (xs := #[.tmp 96, .tmp 105]) rfl ?_); (try (refine gate_guard (by rfl) ?_; dsimp only)); at_builtin; refine Kd.R_append k50 (w0 := w) w.heap.size rfl (.tmp 96) (.tmp 105) 46 50 (.agg #[(.int .i64 0), (.int .i64 0), (.int .i64 0), (.int .i64 0)]) 32 rfl Try.underlying46 info50 rfl (by decide) (by omega) v23 y22 (⟨(rd_T50 (rd_L4 l0_1 x8_3) x11_4).f0, (rd_T50 (rd_L4 l0_1 x8_3) x11_4).f1, (rd_T50 (rd_L4 l0_1 x8_3) x11_4).f2, (rd_T50 (rd_L4 l0_1 x8_3) x11_4).f3⟩ : S50) [.int .i64 ((rd_T50 (rd_L4 l0_1 x8_3) x11_4).f0), .int .i64 ((rd_T50 (rd_L4 l0_1 x8_3) x11_4).f1), .int .i64 ((rd_T50 (rd_L4 l0_1 x8_3) x11_4).f2), .int .i64 ((rd_T50 (rd_L4 l0_1 x8_3) x11_4).f3)] (fun _ => True) (fun _ => False) rfl rfl ?aP (fun _ hk => hk.elim) ?aF ?aO ?aB ?aS ?aL ?_; (case aP => exact k50_mkM _ _ _ (⟨(rd_T50 (rd_L4 l0_1 x8_3) x11_4).f0, (rd_T50 (rd_L4 l0_1 x8_3) x11_4).f1, (rd_T50 (rd_L4 l0_1 x8_3) x11_4).f2, (rd_T50 (rd_L4 l0_1 x8_3) x11_4).f3⟩ : S50)); (case aB => exact bw_); (case aF => exact (fun _ _ => trivial)); (case aO => exact (rx_ HO24.out)); (case aS => exact (below_size bw_)); (case aL => have := LMc64.out; omega); intro v29 w72 ho hb hg hat; rw [← Ny28.out] at ho; have n0_ := am_ (Kd.S_after (ok := (fun _ => True)) (sx_ HO_10001.out) hg hat); have n1_ := am_ (blk_grown (g := gb1) (o := .cells #[.int .i64 a0_0, .slice (some ad17) l0_1.length c0_1] 26 (0, 0)) bk_ hg (Kd.R_ne HO24.out BK1.out (by decide))); have n2_ := am_ (blk_grown (g := gb2) (o := .cells #[.int .i64 x3000_2, .slice none 0 0] 26 (0, 0)) bk_ hg (Kd.R_ne HO24.out BK2.out (by decide))); have n3_ := am_ (blk_grown (g := gb9) (o := .cells #[.int .i64 a0_0, u10001] 26 (0, 0)) bk_ hg (Kd.R_ne HO24.out BK9.out (by decide))); have n4_ := am_ (Kd.R_over' (rx_ HO20.out) (Kd.R_typed (rx_ HO24.out)) (by decide) hg); have n5_ := am_ (hb); have n6_ := am_ (ho); clear HO_10001; clear BK1; clear BK2; clear BK9; clear HO20; clear HB; clear HO24; have HO_10001 := n0_; have BK1 := n1_; have BK2 := n2_; have BK9 := n3_; have HO20 := n4_; have HB := n5_; have HO30 := n6_; clear n0_ n1_ n2_ n3_ n4_ n5_ n6_; clear ho hb hg hat))
           go_roundg k4
           case measure => have := HJ2.out; have := HK2.out; have := HK3.out; have := HK4.out; omega
           case rel => exact ⟨(y28), (y18), (wrap64 (x11_4 + 1)), sd_, H', ⟨by have := HJ2.out; have := HK2.out; have := HK3.out; have := HK4.out; omega⟩, ⟨by (with_reducible repeat (first | apply Kd.R_alloc | apply Kd.R_drewN | apply Kd.R_drew)); exact HO30.out⟩, ⟨by (with_reducible repeat (first | apply Kd.R_alloc | apply Kd.R_drewN | apply Kd.R_drew)); exact HO20.out⟩, ⟨by (with_reducible repeat (first | apply Kd.S_alloc | apply Kd.S_drewN | apply Kd.S_drew)); exact Kd.S_mono HO_10001.out (fun _ hk => hk.2)⟩, ⟨bk_⟩, ⟨bk_⟩, ⟨bk_⟩, ⟨bw_⟩⟩
          rw [if_neg c57] at H
          have c57b0 : decide (x11_4 ≤ ((rd_L4 l0_1 x8_3).length : Int)) = false := decide_eq_false c57
          clear c57
          have H' := am_ H
          clear H
          have hnb96 := NB1_2.out
          have hnc96 := NB2_1.out
          have hnb97 := NB1_9.out
          have hnc97 := NB9_1.out
          obtain ⟨hcz98_0, hcz98_1, hfz98_0, hfz98_1⟩ := bc2_ BK1.out
          have p17 : 0 ≤ (x8_3 : Int) := od_
          have q17 : x8_3 < (l0_1.length : Int) := od_
          obtain ⟨ad17, A17_0, c17_0, e17, hx17_0, hl17_0, hi17_0⟩ := at_L4 HR0_1.out x8_3 p17 q17
          cases e17
          replace hx17_0 := (HB.out.cell (World.block_lt_of_cell? w _ hx17_0)).trans hx17_0
          have HR17_0 := am_ hi17_0
          have HC17_0 := am_ hl17_0
          clear hi17_0 hl17_0
          replace p17 := eq_true p17
          replace q17 := eq_true q17
          go_wp2
          go_loopg [12] k4 (fun kq v12 w' => ∃ (x9_5 : List (S50)) (x12_5 : Int), v12 = .int .i64 x12_5 ∧ Aside0 (spec_PutFences.l3 kq l1 x8_3 x9_5 x10_4 x12_5 a0_0 l0_1 a0_0 x10001_3 = some (r1, r2, r3)) ∧ Aside0 (kq ≤ k4) ∧ Aside0 (Kd.R k50 50 w' w.heap.size (fun _ => True) u9 x9_5) ∧ Aside0 (Kd.R (Kd.int .i64) 3 w' w.heap.size (fun _ => True) u10 x10_4) ∧ Aside0 (Kd.S (Kd.slice 50 k50) 46 w' w.heap.size (fun k_ => some k_ ≠ (u9 : Value).ownBlock) u10001 x10001_3) ∧ Aside0 (w'.heap[gb1]? = some (.cells #[.int .i64 a0_0, (.slice (some ad17) l0_1.length c0_1)] 26 (0, 0))) ∧ Aside0 (w'.heap[gb2]? = some (.cells #[.int .i64 x3000_2, (.slice none 0 0)] 26 (0, 0))) ∧ Aside0 (w'.heap[gb9]? = some (.cells #[.int .i64 a0_0, u10001] 26 (0, 0))) ∧ Aside0 (Below w.heap.size w w'))
          case atStart => exact ⟨(x9_4), (0), sd_, H', ⟨Nat.le_refl _⟩, ⟨by (with_reducible repeat (first | apply Kd.R_alloc | apply Kd.R_drewN | apply Kd.R_drew)); exact HO_9.out⟩, ⟨by (with_reducible repeat (first | apply Kd.R_alloc | apply Kd.R_drewN | apply Kd.R_drew)); exact HO_10.out⟩, ⟨by (with_reducible repeat (first | apply Kd.S_alloc | apply Kd.S_drewN | apply Kd.S_drew)); exact HO_10001.out⟩, ⟨bk_⟩, ⟨bk_⟩, ⟨bk_⟩, ⟨bw_⟩⟩
          case round =>
           clear H'
           try clear c1
           try clear p4
           try clear q4
           try clear p6
           try clear c7
           try clear c17
           try clear c17b0
           try clear p17
           try clear q17
           try clear c18
           try clear c20
           try clear c21
           try clear c21b0
           try clear c23
           try clear c24
           try clear p25
           try clear q25
           try clear c26
           try clear p26
           try clear q26
           try clear p27
           try clear q27
           try clear p31
           try clear q31
           try clear p32
           try clear q32
           try clear p33
           try clear q33
           try clear c47
           try clear c47b0
           try clear c55
           try clear c55b0
           try clear c56
           try clear c56b0
           try clear c57
           try clear c57b0
           try clear c58
           try clear c60
           try clear c61
           try clear c62
           try clear c62b0
           try clear c63
           try clear c63b0
           try clear c64
           try clear c80
           try clear c80b0
           try clear c81
           try clear c81b0
           try clear c82
           try clear hcz34_0 hcz34_1
           try clear hcz40_0 hcz40_1
           try clear hcz42_0 hcz42_1
           try clear hcz46_0 hcz46_1
           try clear hcz50_0 hcz50_1
           try clear hcz67_0 hcz67_1
           try clear hcz71_0 hcz71_1
           try clear hcz75_0 hcz75_1
           try clear hcz79_0 hcz79_1
           try clear hcz85_0 hcz85_1
           try clear hcz88_0 hcz88_1
           try clear hcz92_0 hcz92_1
           try clear hcz95_0 hcz95_1
           try clear hcz98_0 hcz98_1
           try clear hfz34_0 hfz34_1
           try clear hfz40_0 hfz40_1
           try clear hfz42_0 hfz42_1
           try clear hfz46_0 hfz46_1
           try clear hfz50_0 hfz50_1
           try clear hfz67_0 hfz67_1
           try clear hfz71_0 hfz71_1
           try clear hfz75_0 hfz75_1
           try clear hfz79_0 hfz79_1
           try clear hfz85_0 hfz85_1
           try clear hfz88_0 hfz88_1
           try clear hfz92_0 hfz92_1
           try clear hfz95_0 hfz95_1
           try clear hfz98_0 hfz98_1
           try clear hx17_0
           try clear hx25_0
           try clear hx26_0
           try clear hx27_0
           try clear hx27_1
           try clear hx27_2
           try clear hx27_3
           try clear hx31_0
           try clear hx32_0
           try clear hx33_0
           try clear hx33_1
           try clear hx33_2
           try clear hx33_3
           try clear hx4_0
           try clear hx4_1
           try clear p17
           try clear p25
           try clear p26
           try clear p27
           try clear p31
           try clear p32
           try clear p33
           try clear p4
           try clear p6
           try clear q17
           try clear q25
           try clear q26
           try clear q27
           try clear q31
           try clear q32
           try clear q33
           try clear q4
           obtain ⟨x9_5, x12_5, rfl, HA, HK5, HO_9, HO_10, HO_10001, BK1, BK2, BK9, HB⟩ := hrel
           cases gk with
           | zero => exact absurd HA.out (by simp [spec_PutFences.l3])
           | succ k5 =>
            have H := HA.out
            clear HA
            simp only [spec_PutFences.l3] at H
            by_cases c99 : x12_5 < (x9_5.length : Int)
            rotate_left
            ·rw [if_neg c99] at H
             have c99b0 : decide (x12_5 < (x9_5.length : Int)) = false := decide_eq_false c99
             clear c99
             by_cases c110 : x10001_3.length < 5864062014805
             rotate_left
             ·rw [if_neg c110] at H
              exact absurd H (by simp)
             rw [if_pos c110] at H
             have LMc110 := am_ c110
             clear c110
             obtain ⟨y41, hy41⟩ : ∃ y_ : List (List (S50)), y_ = (x10001_3 ++ [x9_5]) := ⟨_, rfl⟩
             replace H : (spec_PutFences.l1 k5 l1 (wrap64 (x8_3 + 1)) a0_0 l0_1 a0_0 y41) = some (r1, r2, r3) := rh_ hy41
             have Ny41 := am_ hy41
             clear hy41
             have H' := am_ H
             clear H
             obtain ⟨Ao111, co111, eo111⟩ := Kd.R_slice HO_9.out
             subst eo111
             have hnb112 := NB9_1.out
             have hnc112 := NB1_9.out
             have hnb113 := NB9_2.out
             have hnc113 := NB2_9.out
             obtain ⟨hcz114_0, hcz114_1, hfz114_0, hfz114_1⟩ := bc2_ BK9.out
             go_wp2_with (first | ((with_reducible refine gate_builtin (b := .append) (xs := #[.tmp 132, .tmp 134]) rfl ?_); (try (refine gate_guard (by rfl) ?_; dsimp only)); at_builtin; refine Kd.S_append (Kd.slice 50 k50) (w0 := w) w.heap.size rfl (.tmp 132) (.tmp 134) 24 46 (.slice none 0 0) 24 rfl Try.underlying24 info46 rfl (by decide) (by omega) u10001 x10001_3 x9_5 [.slice Ao111 x9_5.length co111] (fun _ => True) (fun k_ => some k_ = (.slice Ao111 x9_5.length co111 : Value).ownBlock) rfl rfl ?aP (fun k_ hk_ => ((Kd.R_mono (ok' := fun k_ => ((fun _ => True)) k_ ∧ some k_ ≠ (u10001 : Value).ownBlock) (Kd.R_apart' (HO_9.out) (Kd.S_typed HO_10001.out) (by decide)) (fun k_ hk => ⟨trivial, hk.2⟩))).1 k_ hk_.symm) ?aF ?aO ?aB ?aS ?aL ?_; (case aP => exact Kd.M_row (Kd.R_mono (Kd.R_tight rfl (Kd.R_mono (ok' := fun k_ => ((fun _ => True)) k_ ∧ some k_ ≠ (u10001 : Value).ownBlock) (Kd.R_apart' (HO_9.out) (Kd.S_typed HO_10001.out) (by decide)) (fun k_ hk => ⟨trivial, hk.2⟩))) (fun _ h_ => h_))); (case aB => exact bw_); (case aF => exact (fun _ _ => trivial)); (case aO => exact (by (with_reducible repeat (first | apply Kd.S_alloc | apply Kd.S_drewN | apply Kd.S_drew)); exact Kd.S_mono HO_10001.out (fun k_ hk => ⟨trivial, fun e_ => hk e_⟩))); (case aS => exact (below_size bw_)); (case aL => have := LMc110.out; omega); intro v42 w115 ho hb hg hat; rw [← Ny41.out] at ho; have n0_ := am_ (Kd.R_over' (rx_ HO_10.out) (Kd.S_typed (sx_ HO_10001.out)) (by decide) hg); have n1_ := am_ (blk_grown (g := gb1) (o := .cells #[.int .i64 a0_0, .slice (some ad17) l0_1.length c0_1] 26 (0, 0)) bk_ hg (Kd.S_ne HO_10001.out BK1.out (by decide))); have n2_ := am_ (blk_grown (g := gb2) (o := .cells #[.int .i64 x3000_2, .slice none 0 0] 26 (0, 0)) bk_ hg (Kd.S_ne HO_10001.out BK2.out (by decide))); have n3_ := am_ (blk_grown (g := gb9) (o := .cells #[.int .i64 a0_0, u10001] 26 (0, 0)) bk_ hg (Kd.S_ne HO_10001.out BK9.out (by decide))); have n4_ := am_ (hb); have n5_ := am_ (ho); clear HO_10; clear BK1; clear BK2; clear BK9; clear HB; clear HO_10001; clear HO_9; have HO_10 := n0_; have BK1 := n1_; have BK2 := n2_; have BK9 := n3_; have HB := n4_; have HO43 := n5_; clear n0_ n1_ n2_ n3_ n4_ n5_; clear ho hb hg hat; obtain ⟨Ao116, co116, eo116⟩ := Kd.S_slice HO43.out; subst eo116; obtain ⟨hcz117_0, hcz117_1, hfz117_0, hfz117_1⟩ := bc2_ BK9.out))
             go_roundg k5
             case measure => have := HJ2.out; have := HK2.out; have := HK3.out; have := HK4.out; have := HK5.out; omega
             case rel => exact ⟨(wrap64 (x8_3 + 1)), (y41), (.slice Ao116 y41.length co116), sd_, H', ⟨by have := HJ2.out; have := HK2.out; have := HK3.out; have := HK4.out; have := HK5.out; omega⟩, ⟨by (with_reducible repeat (first | apply Kd.S_alloc | apply Kd.S_drewN | apply Kd.S_drew)); exact Kd.S_mono (Kd.S_far (p := ⟨gb9, 1, none⟩) (Kd.S_types HO43.out BK9.out (by decide)) (fun _ hk => hk.2) (.slice Ao116 y41.length co116)) (fun _ hk => trivial)⟩, ⟨by (with_reducible repeat (first | refine blk_drewN ?_ _ | refine blk_drew ?_ | refine blk_alloc ?_ _)); refine blk_far ?_ NB1_9.out _; exact bk_⟩, ⟨by (with_reducible repeat (first | refine blk_drewN ?_ _ | refine blk_drew ?_ | refine blk_alloc ?_ _)); refine blk_far ?_ NB2_9.out _; exact bk_⟩, ⟨by (with_reducible repeat (first | refine blk_drewN ?_ _ | refine blk_drew ?_ | refine blk_alloc ?_ _)); refine blk_put (cs := #[.int .i64 a0_0, u10001]) ?_ 1 _ rfl; exact bk_⟩, ⟨bw_⟩⟩
            rw [if_pos c99] at H
            have c99b0 : decide (x12_5 < (x9_5.length : Int)) = true := decide_eq_true c99
            clear c99
            by_cases c100 : 0 ≤ x12_5
            rotate_left
            ·rw [if_neg c100] at H
             exact absurd H (by simp)
            rw [if_pos c100] at H
            have c100b0 : decide (0 ≤ x12_5) = true := decide_eq_true c100
            clear c100
            by_cases c101 : ((rd_T50 x9_5 x12_5).f0) = 6
            rotate_left
            ·rw [if_neg c101] at H
             have c101b0 : (((rd_T50 x9_5 x12_5).f0) == 6) = false := beq_eq_false_iff_ne.mpr c101
             have c101b1 : (((rd_T50 x9_5 x12_5).f0) != 6) = true := bne_iff_ne.mpr c101
             have H' := am_ H
             clear H
             obtain ⟨Ao109, co109, eo109⟩ := Kd.R_slice HO_9.out
             subst eo109
             have p37 : 0 ≤ (x12_5 : Int) := od_
             have q37 : x12_5 < (x9_5.length : Int) := od_
             obtain ⟨ad37, e37, hx37_0, hx37_1, hx37_2, hx37_3⟩ := at_T50 (Kd.R_reads' HO_9.out).2.2 x12_5 p37 q37
             cases e37
             replace p37 := eq_true p37
             replace q37 := eq_true q37
             go_wp2
             go_roundg k5
             case measure => have := HJ2.out; have := HK2.out; have := HK3.out; have := HK4.out; have := HK5.out; omega
             case rel => exact ⟨(x9_5), (wrap64 (x12_5 + 1)), sd_, H', ⟨by have := HJ2.out; have := HK2.out; have := HK3.out; have := HK4.out; have := HK5.out; omega⟩, ⟨by (with_reducible repeat (first | apply Kd.R_alloc | apply Kd.R_drewN | apply Kd.R_drew)); exact HO_9.out⟩, ⟨by (with_reducible repeat (first | apply Kd.R_alloc | apply Kd.R_drewN | apply Kd.R_drew)); exact HO_10.out⟩, ⟨by (with_reducible repeat (first | apply Kd.S_alloc | apply Kd.S_drewN | apply Kd.S_drew)); exact HO_10001.out⟩, ⟨bk_⟩, ⟨bk_⟩, ⟨bk_⟩, ⟨bw_⟩⟩
            rw [if_pos c101] at H
            have c101b0 : (((rd_T50 x9_5 x12_5).f0) == 6) = true := beq_iff_eq.mpr c101
            have c101b1 : (((rd_T50 x9_5 x12_5).f0) != 6) = false := bne_eq_false_iff_eq.mpr c101
            clear c101
            by_cases c102 : 0 ≤ ((rd_T50 x9_5 x12_5).f3)
            rotate_left
            ·rw [if_neg c102] at H
             exact absurd H (by simp)
            rw [if_pos c102] at H
            have c102b0 : decide (0 ≤ ((rd_T50 x9_5 x12_5).f3)) = true := decide_eq_true c102
            clear c102
            by_cases c103 : ((rd_T50 x9_5 x12_5).f3) < (x10_4.length : Int)
            rotate_left
            ·rw [if_neg c103] at H
             exact absurd H (by simp)
            rw [if_pos c103] at H
            have c103b0 : decide (((rd_T50 x9_5 x12_5).f3) < (x10_4.length : Int)) = true := decide_eq_true c103
            clear c103
            obtain ⟨y40, hy40⟩ : ∃ y_ : List (S50), y_ = (x9_5.set (x12_5 : Int).toNat (⟨(rd_T50 x9_5 x12_5).f0, (rd_T50 x9_5 x12_5).f1, (rd_T50 x9_5 x12_5).f2, rd x10_4 ((rd_T50 x9_5 x12_5).f3)⟩ : S50)) := ⟨_, rfl⟩
            replace H : (spec_PutFences.l3 k5 l1 x8_3 y40 x10_4 (wrap64 (x12_5 + 1)) a0_0 l0_1 a0_0 x10001_3) = some (r1, r2, r3) := rh_ hy40
            have Ny40 := am_ hy40
            clear hy40
            have H' := am_ H
            clear H
            obtain ⟨Ao105, co105, eo105⟩ := Kd.R_slice HO_9.out
            subst eo105
            have p37 : 0 ≤ (x12_5 : Int) := od_
            have q37 : x12_5 < (x9_5.length : Int) := od_
            obtain ⟨ad37, e37, hx37_0, hx37_1, hx37_2, hx37_3⟩ := at_T50 (Kd.R_reads' HO_9.out).2.2 x12_5 p37 q37
            cases e37
            replace p37 := eq_true p37
            replace q37 := eq_true q37
            have p38 : 0 ≤ (x12_5 : Int) := od_
            have q38 : x12_5 < (x9_5.length : Int) := od_
            obtain ⟨ad38, e38, hx38_0, hx38_1, hx38_2, hx38_3⟩ := at_T50 (Kd.R_reads' HO_9.out).2.2 x12_5 p38 q38
            obtain rfl : ad37 = ad38 := (by injection e38)
            replace p38 := eq_true p38
            replace q38 := eq_true q38
            obtain ⟨Ao106, co106, eo106⟩ := Kd.R_slice HO_10.out
            subst eo106
            have p39 : 0 ≤ (((rd_T50 x9_5 x12_5).f3) : Int) := od_
            have q39 : ((rd_T50 x9_5 x12_5).f3) < (x10_4.length : Int) := od_
            obtain ⟨ad39, e39, hx39_0⟩ := Kd.at_int (Kd.R_reads' HO_10.out).2.2 ((rd_T50 x9_5 x12_5).f3) p39 q39
            cases e39
            replace p39 := eq_true p39
            replace q39 := eq_true q39
            have p104 : 0 ≤ (x12_5 : Int) := od_
            have q104 : (x12_5 : Int) < ((x9_5.length : Int) : Int) := od_
            obtain ⟨go104, co104, eo104, gb104, gl104, cl104, HG104⟩ := Kd.R_form HO_9.out (by omega)
            (first | cases eo104 | (injection eo104 with ea_ en_ ec_; (first | subst ea_ | (injection ea_ with ea_; subst ea_)); subst ec_; clear en_))
            have GB104 := am_ gb104
            have GG104 := am_ HG104
            clear gb104 gl104 HG104
            (first | simp only [add_plain] at hx37_0 | skip)
            (first | simp only [add_plain] at hx37_1 | skip)
            (first | simp only [add_plain] at hx37_2 | skip)
            (first | simp only [add_plain] at hx37_3 | skip)
            (first | simp only [add_plain] at hx38_0 | skip)
            (first | simp only [add_plain] at hx38_1 | skip)
            (first | simp only [add_plain] at hx38_2 | skip)
            (first | simp only [add_plain] at hx38_3 | skip)
            obtain ⟨ce104, hcl104, hM104, hcc104, hfr104⟩ := Kd.R_elem HO_9.out z50 (x12_5 : Int) p104 q104
            obtain rfl := k50_openM hM104
            have hx104_0 : wr.cell? ⟨go104, (x12_5 : Int).toNat * 4, none⟩ = some (.int .i64 ((rd_T50 x9_5 x12_5).f0)) := hcc104 0 _ rfl
            have hx104_1 : wr.cell? ⟨go104, (x12_5 : Int).toNat * 4 + 1, none⟩ = some (.int .i64 ((rd_T50 x9_5 x12_5).f1)) := hcc104 1 _ rfl
            have hx104_2 : wr.cell? ⟨go104, (x12_5 : Int).toNat * 4 + 2, none⟩ = some (.int .i64 ((rd_T50 x9_5 x12_5).f2)) := hcc104 2 _ rfl
            have hx104_3 : wr.cell? ⟨go104, (x12_5 : Int).toNat * 4 + 3, none⟩ = some (.int .i64 ((rd_T50 x9_5 x12_5).f3)) := hcc104 3 _ rfl
            have hf104_0 : wr.frozen? ⟨go104, (x12_5 : Int).toNat * 4, none⟩ = false := hfr104 0
            have hf104_1 : wr.frozen? ⟨go104, (x12_5 : Int).toNat * 4 + 1, none⟩ = false := hfr104 1
            have hf104_2 : wr.frozen? ⟨go104, (x12_5 : Int).toNat * 4 + 2, none⟩ = false := hfr104 2
            have hf104_3 : wr.frozen? ⟨go104, (x12_5 : Int).toNat * 4 + 3, none⟩ = false := hfr104 3
            (try clear hcl104); (try clear hcc104); (try clear hfr104); (try clear hM104)
            replace p104 := eq_true p104
            replace q104 := eq_true q104
            have HX107 := am_ (show Kd.R k50 50 wr w.heap.size (fun _ => True) (.slice (some ⟨go104, 0, none⟩) x9_5.length co105) x9_5 from (rx_ HO_9.out))
            obtain ⟨ce107, hcl107, hM107, hcc107, hfr107⟩ := Kd.R_elem HX107.out z50 (x12_5 : Int) (od_) (by have h_ : (x12_5 : Int) < ((x9_5.length : Int) : Int) := od_; first | exact h_ | (have e_ := (Kd.R_reads' HO_9.out).1; omega) | simpa using h_)
            obtain rfl := k50_openM hM107
            have HP107 := Kd.R_seg HX107.out (x12_5 : Int) (od_) (by have h_ : (x12_5 : Int) < ((x9_5.length : Int) : Int) := od_; first | exact h_ | (have e_ := (Kd.R_reads' HO_9.out).1; omega) | simpa using h_) (seg := [.int .i64 (rd x10_4 ((rd_T50 x9_5 x12_5).f3))]) (j := 3) hcl107 hcc107 (show 4 ≤ 4 from by decide) (x' := (⟨(rd_T50 x9_5 x12_5).f0, (rd_T50 x9_5 x12_5).f1, (rd_T50 x9_5 x12_5).f2, rd x10_4 ((rd_T50 x9_5 x12_5).f3)⟩ : S50)) (k50_mkM _ _ _ (⟨(rd_T50 x9_5 x12_5).f0, (rd_T50 x9_5 x12_5).f1, (rd_T50 x9_5 x12_5).f2, rd x10_4 ((rd_T50 x9_5 x12_5).f3)⟩ : S50) ) (fun _ hk => hk)
            have hx107_3 := hcc107 3 _ rfl
            (try simp only [show (k50).sz = 4 from rfl, Nat.mul_one, Nat.add_zero] at hx107_3)
            have hf107_3 := hfr107 3
            (try simp only [show (k50).sz = 4 from rfl, Nat.mul_one, Nat.add_zero] at hf107_3)
            (try clear hcl107); (try clear hcc107); (try clear hfr107); (try clear hM107)
            go_wp2_with (first | ((with_reducible refine gate_store (t := 3) (p := 130) rfl ?_); refine store_event (t := 3) (p := 130) (v := ?vo_w108) (w1 := (wr.setCell ⟨go104, (x12_5 : Int).toNat * 4 + 3, none⟩ (.int .i64 (rd x10_4 ((rd_T50 x9_5 x12_5).f3))))) ?hg ?ho ?hn ?hr ?_; (case ho => rfl); (case hg => rfl); (case hn => rfl); (case hr => first | (go_simp; done) | (go_simp; rfl)); intro w108 hw; have hg : wr.grownBy w108 (some go104) := (by rw [hw]; exact HP107.2); have hp_ : Kd.R k50 50 w108 w.heap.size (fun _ => True) (.slice (some ⟨go104, 0, none⟩) x9_5.length co105) y40 := (by rw [hw, Ny40.out]; exact HP107.1); clear HP107; have n0_ := am_ (hp_); have n1_ := am_ (Kd.R_over' (v := (.slice (some ⟨go104, 0, none⟩) x9_5.length co105)) (rx_ HO_10.out) (Kd.R_typed HO_9.out) (by decide) hg); have n2_ := am_ (Kd.S_after (v := (.slice (some ⟨go104, 0, none⟩) x9_5.length co105)) (v1 := (.slice (some ⟨go104, 0, none⟩) x9_5.length co105)) (ok := (fun _ => True)) (by (with_reducible repeat (first | apply Kd.S_alloc | apply Kd.S_drewN | apply Kd.S_drew)); exact Kd.S_mono HO_10001.out (fun _ hk => ⟨trivial, hk⟩)) hg (.inl rfl)); have n3_ := am_ (blk_grown (g := gb1) (o := .cells #[.int .i64 a0_0, .slice (some ad17) l0_1.length c0_1] 26 (0, 0)) bk_ hg (Kd.R_ne HO_9.out BK1.out (by decide))); have n4_ := am_ (blk_grown (g := gb2) (o := .cells #[.int .i64 x3000_2, .slice none 0 0] 26 (0, 0)) bk_ hg (Kd.R_ne HO_9.out BK2.out (by decide))); have n5_ := am_ (blk_grown (g := gb9) (o := .cells #[.int .i64 a0_0, u10001] 26 (0, 0)) bk_ hg (Kd.R_ne HO_9.out BK9.out (by decide))); have n6_ := am_ ((by rw [hw]; exact below_set (HB.out) GB104.out : Below w.heap.size w w108)); clear HO_9; clear HO_10; clear HO_10001; clear BK1; clear BK2; clear BK9; clear HB; have HO_9 := n0_; have HO_10 := n1_; have HO_10001 := n2_; have BK1 := n3_; have BK2 := n4_; have BK9 := n5_; have HB := n6_; clear n0_ n1_ n2_ n3_ n4_ n5_ n6_; clear hg hw hp_))
            go_roundg k5
            case measure => have := HJ2.out; have := HK2.out; have := HK3.out; have := HK4.out; have := HK5.out; omega
            case rel => exact ⟨(y40), (wrap64 (x12_5 + 1)), sd_, H', ⟨by have := HJ2.out; have := HK2.out; have := HK3.out; have := HK4.out; have := HK5.out; omega⟩, ⟨by (with_reducible repeat (first | apply Kd.R_alloc | apply Kd.R_drewN | apply Kd.R_drew)); exact HO_9.out⟩, ⟨by (with_reducible repeat (first | apply Kd.R_alloc | apply Kd.R_drewN | apply Kd.R_drew)); exact HO_10.out⟩, ⟨by (with_reducible repeat (first | apply Kd.S_alloc | apply Kd.S_drewN | apply Kd.S_drew)); exact Kd.S_mono HO_10001.out (fun _ hk => hk.2)⟩, ⟨bk_⟩, ⟨bk_⟩, ⟨bk_⟩, ⟨bw_⟩⟩
     rw [if_pos c17] at H
     have c17b0 : decide (x6_2 < (l1.length : Int)) = true := decide_eq_true c17
     clear c17
     by_cases c18 : 0 ≤ x6_2
     rotate_left
     ·rw [if_neg c18] at H
      exact absurd H (by simp)
     rw [if_pos c18] at H
     have c18b0 : decide (0 ≤ x6_2) = true := decide_eq_true c18
     clear c18
     replace H := Option.bind_eq_some_iff.mp H
     obtain ⟨t5, A190, H⟩ := H
     replace H : (if t5 = true then (if x6_2 > 0 then (if 0 ≤ (wrap64 (x6_2 - 1)) then (if (wrap64 (x6_2 - 1)) < (l1.length : Int) then ((spec_l07Less.f ((rd_T44 l1 (wrap64 (x6_2 - 1))).f0) ((rd_T44 l1 (wrap64 (x6_2 - 1))).f1) ((rd_T44 l1 x6_2).f0) ((rd_T44 l1 x6_2).f1)).bind fun t8 => (if t8 = true then (spec_PutFences.l0 k2 l1 (wrap64 (x6_2 + 1)) a0_0 l0_1) else (some (0, ([] : List (List (S50))), false)))) else (none)) else (none)) else (spec_PutFences.l0 k2 l1 (wrap64 (x6_2 + 1)) a0_0 l0_1)) else (some (0, ([] : List (List (S50))), false))) = some (r1, r2, r3) := H
     have A19 := am_ A190
     clear A190
     by_cases c20 : t5 = true
     rotate_left
     ·replace c20 := Bool.eq_false_iff.mpr c20
      subst c20
      have H1 : (some (0, ([] : List (List (S50))), false)) = some (r1, r2, r3) := by rw [if_neg (show ¬ (false = true) by decide)] at H; exact H
      clear H
      have H := H1
      clear H1
      simp only [Option.some.injEq, Prod.mk.injEq] at H
      obtain ⟨rfl, rfl, rfl⟩ := H
      try go_wp2
      have n0_ := am_ (blk_drew BK1.out)
      have n1_ := am_ (blk_drew BK2.out)
      have n2_ := am_ (below_drew1 HB.out)
      clear BK1
      clear BK2
      clear HB
      have BK1 := n0_
      have BK2 := n1_
      have HB := n2_
      clear n0_ n1_ n2_
      have p4 : 0 ≤ (x6_2 : Int) := od_
      have q4 : x6_2 < (l1.length : Int) := od_
      obtain ⟨ad4, e4, hx4_0, hx4_1⟩ := at_T44 HR1.out x6_2 p4 q4
      have hw4_1 := hx4_1
      have hw4_0 := hx4_0
      cases e4
      replace hx4_0 := (HB.out.cell (World.block_lt_of_cell? w _ hx4_0)).trans hx4_0
      replace hx4_1 := (HB.out.cell (World.block_lt_of_cell? w _ hx4_1)).trans hx4_1
      replace p4 := eq_true p4
      replace q4 := eq_true q4
      refine start_ (n := 24) (S := fun w' => w'.cell? ⟨gb1, 0, none⟩ = some (.int .i64 a0_0) ∧ w'.cell? ⟨gb1, 1, none⟩ = some (.slice A0_1 l0_1.length c0_1) ∧ w'.cell? (ad4.add ((x6_2).toNat * 2)) = some (.int .i64 ((rd_T44 l1 x6_2).f0)) ∧ w'.cell? ⟨(ad4.add ((x6_2).toNat * 2)).block, (ad4.add ((x6_2).toNat * 2)).off + 1, none⟩ = some (.int .i64 ((rd_T44 l1 x6_2).f1))) (ds := []) (bm_ 24 0) kr_ rfl rfl ⟨(blk_cell BK1.out 0).trans rfl, (blk_cell BK1.out 1).trans rfl, ((HB.out.cell (World.block_lt_of_cell? w _ hw4_0)).trans hw4_0), ((HB.out.cell (World.block_lt_of_cell? w _ hw4_1)).trans hw4_1)⟩ (fun hHeld => ?_); refine with_tabW spec_PutFences.tab6 spec_PutFences.bits6 (fun HT_ HW_ => ?_)
      generalize wr.drew = w37 at BK1 BK2 HB hx4_0 hx4_1 hHeld ⊢
      refine pure_ (i := 0) (N := some 28) (bm_ 24 1) rfl rfl (any_of HT_.out kr_) (fun _ _ _ h => h) (Or.inl ⟨rfl, yi_⟩) pu_ ?_
      refine pure_ (i := 1) (N := some 29) (bm_ 24 3) rfl rfl (any_of HT_.out kr_) (fun _ _ _ h => h) (Or.inl ⟨rfl, yi_⟩) pu_ ?_
      refine pure_ (i := 2) (N := some 30) (bm_ 24 7) rfl rfl (any_of HT_.out kr_) (fun _ _ _ h => h) (Or.inl ⟨rfl, yi_⟩) pu_ ?_
      refine take_ (i := 3) (N := some 31) (v := ?_) (a' := ?_) (bm_ 24 15) rfl rfl (take_ofW HT_.out HW_.out kr_) (fun _ _ _ h => h) (Or.inl ⟨by rfl, ?_⟩) hHeld ?_ ?_
      rotate_left
      ·rintro w' ⟨s0, s1, s2, s3⟩
       go_simp
       with_reducible rfl
      rotate_left
      ·exact pu_
      refine take_ (i := 4) (N := some 32) (v := ?_) (a' := ?_) (bm_ 24 31) rfl rfl (take_ofW HT_.out HW_.out kr_) (fun _ _ _ h => h) (Or.inl ⟨by rfl, ?_⟩) hHeld ?_ ?_
      rotate_left
      ·rintro w' ⟨s0, s1, s2, s3⟩
       go_simp
       with_reducible rfl
      rotate_left
      ·exact pu_
      refine one_ (i := 5) (N := some 33) (bm_ 24 63) rfl rfl (one_of HT_.out kr_) (by decide) (fun K hK => ?_)
      refine goes_ Try.func17 kr_ rfl #[.agg #[.int .i64 ((rd_T44 l1 x6_2).f0), .int .i64 ((rd_T44 l1 x6_2).f1)], .agg #[.int .i64 a0_0, .slice A0_1 l0_1.length c0_1]] (by rfl) rfl rfl ar_ ?_
      with_reducible refine (spec_SpotOk.calls k2 ((rd_T44 l1 x6_2).f0) ((rd_T44 l1 x6_2).f1) a0_0 _ _ l0_1 false _ ?side1 ?side2 A19.out).mono ?_
      (case side1 => exact cb_)
      (case side2 => exact HC0_1.out)
      rintro e w38 ⟨rfl, hb⟩
      refine ⟨_, rfl, ?_⟩
      have n0_ := bb_ BK1.out hb
      have n1_ := bb_ BK2.out hb
      have n2_ := bs_ hb
      clear BK1
      clear BK2
      clear HB
      have BK1 := n0_
      have BK2 := n1_
      have HB := n2_
      clear n0_ n1_ n2_
      (try clear hb)
      (try clear hb2)
      (try clear hk)
      (try clear hi)
      refine hK.out _ _ ⟨(blk_cell BK1.out 0).trans rfl, (blk_cell BK1.out 1).trans rfl, ((HB.out.cell (World.block_lt_of_cell? w _ hw4_0)).trans hw4_0), ((HB.out.cell (World.block_lt_of_cell? w _ hw4_1)).trans hw4_1)⟩ (fun hHeld => ?_)
      clear hK K
      refine norm_ (a' := ?_) ?_ ?_
      rotate_left
      ·show Act.put _ (some 33) _ = _
       simp only [Act.put, List.setIfInBounds_toArray, List.set_cons_zero, List.set_cons_succ, i64_w, i32_w]
       rfl
      refine pure_ (i := 6) (N := some 34) (bm_ 24 127) rfl rfl (any_of HT_.out kr_) (fun _ _ _ h => h) (Or.inl ⟨rfl, yi_⟩) pu_ ?_
      refine pure_ (i := 7) (N := some 35) (bm_ 24 255) rfl rfl (any_of HT_.out kr_) (fun _ _ _ h => h) (Or.inl ⟨rfl, yi_⟩) pu_ ?_
      refine pure_ (i := 8) (N := some 36) (v := undef) (a' := ?_) (bm_ 24 511) rfl rfl (any_of HT_.out kr_) (fun _ _ _ h => h) (Or.inr ⟨by rfl, rfl⟩) ?_ ?_
      rotate_left
      ·exact pu_
      refine pure_ (i := 9) (N := some 37) (v := undef) (a' := ?_) (bm_ 24 1023) rfl rfl (any_of HT_.out kr_) (fun _ _ _ h => h) (Or.inr ⟨by rfl, rfl⟩) ?_ ?_
      rotate_left
      ·exact pu_
      refine pure_ (i := 10) (N := some 38) (v := undef) (a' := ?_) (bm_ 24 2047) rfl rfl (any_of HT_.out kr_) (fun _ _ _ h => h) (Or.inr ⟨by rfl, rfl⟩) ?_ ?_
      rotate_left
      ·exact pu_
      refine pure_ (i := 11) (N := some 39) (v := undef) (a' := ?_) (bm_ 24 4095) rfl rfl (any_of HT_.out kr_) (fun _ _ _ h => h) (Or.inr ⟨by rfl, rfl⟩) ?_ ?_
      rotate_left
      ·exact pu_
      refine pure_ (i := 12) (N := some 40) (v := undef) (a' := ?_) (bm_ 24 8191) rfl rfl (any_of HT_.out kr_) (fun _ _ _ h => h) (Or.inr ⟨by rfl, rfl⟩) ?_ ?_
      rotate_left
      ·exact pu_
      refine pure_ (i := 13) (N := some 41) (v := undef) (a' := ?_) (bm_ 24 16383) rfl rfl (any_of HT_.out kr_) (fun _ _ _ h => h) (Or.inr ⟨by rfl, rfl⟩) ?_ ?_
      rotate_left
      ·exact pu_
      refine pure_ (i := 14) (N := some 42) (v := undef) (a' := ?_) (bm_ 24 32767) rfl rfl (any_of HT_.out kr_) (fun _ _ _ h => h) (Or.inr ⟨by rfl, rfl⟩) ?_ ?_
      rotate_left
      ·exact pu_
      refine pure_ (i := 15) (N := some 43) (v := undef) (a' := ?_) (bm_ 24 65535) rfl rfl (any_of HT_.out kr_) (fun _ _ _ h => h) (Or.inr ⟨by rfl, rfl⟩) ?_ ?_
      rotate_left
      ·exact pu_
      refine pure_ (i := 16) (N := some 44) (v := undef) (a' := ?_) (bm_ 24 131071) rfl rfl (any_of HT_.out kr_) (fun _ _ _ h => h) (Or.inr ⟨by rfl, rfl⟩) ?_ ?_
      rotate_left
      ·exact pu_
      refine pure_ (i := 17) (N := some 45) (v := undef) (a' := ?_) (bm_ 24 262143) rfl rfl (any_of HT_.out kr_) (fun _ _ _ h => h) (Or.inr ⟨by rfl, rfl⟩) ?_ ?_
      rotate_left
      ·exact pu_
      refine pure_ (i := 18) (N := some 46) (v := undef) (a' := ?_) (bm_ 24 524287) rfl rfl (any_of HT_.out kr_) (fun _ _ _ h => h) (Or.inr ⟨by rfl, rfl⟩) ?_ ?_
      rotate_left
      ·exact pu_
      refine pure_ (i := 19) (N := some 47) (v := undef) (a' := ?_) (bm_ 24 1048575) rfl rfl (any_of HT_.out kr_) (fun _ _ _ h => h) (Or.inr ⟨by rfl, rfl⟩) ?_ ?_
      rotate_left
      ·exact pu_
      refine pure_ (i := 20) (N := some 48) (v := undef) (a' := ?_) (bm_ 24 2097151) rfl rfl (any_of HT_.out kr_) (fun _ _ _ h => h) (Or.inr ⟨by rfl, rfl⟩) ?_ ?_
      rotate_left
      ·exact pu_
      refine pure_ (i := 21) (N := some 49) (v := undef) (a' := ?_) (bm_ 24 4194303) rfl rfl (any_of HT_.out kr_) (fun _ _ _ h => h) (Or.inr ⟨by rfl, rfl⟩) ?_ ?_
      rotate_left
      ·exact pu_
      refine pure_ (i := 22) (N := some 50) (v := undef) (a' := ?_) (bm_ 24 8388607) rfl rfl (any_of HT_.out kr_) (fun _ _ _ h => h) (Or.inr ⟨by rfl, rfl⟩) ?_ ?_
      rotate_left
      ·exact pu_
      refine pure_ (i := 23) (N := some 51) (bm_ 24 16777215) rfl rfl (any_of HT_.out kr_) (fun _ _ _ h => h) (Or.inl ⟨rfl, yi_⟩) pu_ ?_
      refine done_ (done_of HT_.out kr_) ?_
      have hnb39 := NB2_1.out
      have hnc39 := NB1_2.out
      obtain ⟨hcz40_0, hcz40_1, hfz40_0, hfz40_1⟩ := bc2_ BK2.out
      try go_wp2
      refine bodyPost_ret (results_ct rfl _ _ gb2 26 #[.int .i64 0, .slice none 0 0] (0, 0) _ rfl (by (with_reducible repeat (first | refine blk_drewN ?_ _ | refine blk_drew ?_ | refine blk_alloc ?_ _)); refine blk_put (cs := #[.int .i64 0, .slice none 0 0]) ?_ 1 _ rfl; (with_reducible repeat (first | refine blk_drewN ?_ _ | refine blk_drew ?_ | refine blk_alloc ?_ _)); refine blk_put (cs := #[.int .i64 x3000_2, .slice none 0 0]) ?_ 0 _ rfl; exact bk_) Try.underlying26 rfl kr_) rfl ?_
      exact ⟨_, rr_, by first | exact Kd.S_nil _ _ _ _ _ | exact Kd.N_nil _ _ _ _ _ | exact Kd.V_nil _ _ _ _ _ | exact Kd.Q_nil _ _ _ _ _ | exact Kd.R_nil _ _ _ _ _, bw_⟩
     subst c20
     have H1 : (if x6_2 > 0 then (if 0 ≤ (wrap64 (x6_2 - 1)) then (if (wrap64 (x6_2 - 1)) < (l1.length : Int) then ((spec_l07Less.f ((rd_T44 l1 (wrap64 (x6_2 - 1))).f0) ((rd_T44 l1 (wrap64 (x6_2 - 1))).f1) ((rd_T44 l1 x6_2).f0) ((rd_T44 l1 x6_2).f1)).bind fun t8 => (if t8 = true then (spec_PutFences.l0 k2 l1 (wrap64 (x6_2 + 1)) a0_0 l0_1) else (some (0, ([] : List (List (S50))), false)))) else (none)) else (none)) else (spec_PutFences.l0 k2 l1 (wrap64 (x6_2 + 1)) a0_0 l0_1)) = some (r1, r2, r3) := by rw [if_pos rfl] at H; exact H
     clear H
     have H := H1
     clear H1
     by_cases c21 : x6_2 > 0
     rotate_left
     ·rw [if_neg c21] at H
      have c21b0 : decide (0 < x6_2) = false := decide_eq_false c21
      clear c21
      have H' := am_ H
      clear H
      try go_wp2
      have n0_ := am_ (blk_drew BK1.out)
      have n1_ := am_ (blk_drew BK2.out)
      have n2_ := am_ (below_drew1 HB.out)
      clear BK1
      clear BK2
      clear HB
      have BK1 := n0_
      have BK2 := n1_
      have HB := n2_
      clear n0_ n1_ n2_
      have p4 : 0 ≤ (x6_2 : Int) := od_
      have q4 : x6_2 < (l1.length : Int) := od_
      obtain ⟨ad4, e4, hx4_0, hx4_1⟩ := at_T44 HR1.out x6_2 p4 q4
      have hw4_1 := hx4_1
      have hw4_0 := hx4_0
      cases e4
      replace hx4_0 := (HB.out.cell (World.block_lt_of_cell? w _ hx4_0)).trans hx4_0
      replace hx4_1 := (HB.out.cell (World.block_lt_of_cell? w _ hx4_1)).trans hx4_1
      replace p4 := eq_true p4
      replace q4 := eq_true q4
      refine start_ (n := 24) (S := fun w' => w'.cell? ⟨gb1, 0, none⟩ = some (.int .i64 a0_0) ∧ w'.cell? ⟨gb1, 1, none⟩ = some (.slice A0_1 l0_1.length c0_1) ∧ w'.cell? (ad4.add ((x6_2).toNat * 2)) = some (.int .i64 ((rd_T44 l1 x6_2).f0)) ∧ w'.cell? ⟨(ad4.add ((x6_2).toNat * 2)).block, (ad4.add ((x6_2).toNat * 2)).off + 1, none⟩ = some (.int .i64 ((rd_T44 l1 x6_2).f1))) (ds := []) (bm_ 24 0) kr_ rfl rfl ⟨(blk_cell BK1.out 0).trans rfl, (blk_cell BK1.out 1).trans rfl, ((HB.out.cell (World.block_lt_of_cell? w _ hw4_0)).trans hw4_0), ((HB.out.cell (World.block_lt_of_cell? w _ hw4_1)).trans hw4_1)⟩ (fun hHeld => ?_); refine with_tabW spec_PutFences.tab6 spec_PutFences.bits6 (fun HT_ HW_ => ?_)
      generalize wr.drew = w35 at BK1 BK2 HB hx4_0 hx4_1 hHeld ⊢
      refine pure_ (i := 0) (N := some 28) (bm_ 24 1) rfl rfl (any_of HT_.out kr_) (fun _ _ _ h => h) (Or.inl ⟨rfl, yi_⟩) pu_ ?_
      refine pure_ (i := 1) (N := some 29) (bm_ 24 3) rfl rfl (any_of HT_.out kr_) (fun _ _ _ h => h) (Or.inl ⟨rfl, yi_⟩) pu_ ?_
      refine pure_ (i := 2) (N := some 30) (bm_ 24 7) rfl rfl (any_of HT_.out kr_) (fun _ _ _ h => h) (Or.inl ⟨rfl, yi_⟩) pu_ ?_
      refine take_ (i := 3) (N := some 31) (v := ?_) (a' := ?_) (bm_ 24 15) rfl rfl (take_ofW HT_.out HW_.out kr_) (fun _ _ _ h => h) (Or.inl ⟨by rfl, ?_⟩) hHeld ?_ ?_
      rotate_left
      ·rintro w' ⟨s0, s1, s2, s3⟩
       go_simp
       with_reducible rfl
      rotate_left
      ·exact pu_
      refine take_ (i := 4) (N := some 32) (v := ?_) (a' := ?_) (bm_ 24 31) rfl rfl (take_ofW HT_.out HW_.out kr_) (fun _ _ _ h => h) (Or.inl ⟨by rfl, ?_⟩) hHeld ?_ ?_
      rotate_left
      ·rintro w' ⟨s0, s1, s2, s3⟩
       go_simp
       with_reducible rfl
      rotate_left
      ·exact pu_
      refine one_ (i := 5) (N := some 33) (bm_ 24 63) rfl rfl (one_of HT_.out kr_) (by decide) (fun K hK => ?_)
      refine goes_ Try.func17 kr_ rfl #[.agg #[.int .i64 ((rd_T44 l1 x6_2).f0), .int .i64 ((rd_T44 l1 x6_2).f1)], .agg #[.int .i64 a0_0, .slice A0_1 l0_1.length c0_1]] (by rfl) rfl rfl ar_ ?_
      with_reducible refine (spec_SpotOk.calls k2 ((rd_T44 l1 x6_2).f0) ((rd_T44 l1 x6_2).f1) a0_0 _ _ l0_1 true _ ?side1 ?side2 A19.out).mono ?_
      (case side1 => exact cb_)
      (case side2 => exact HC0_1.out)
      rintro e w36 ⟨rfl, hb⟩
      refine ⟨_, rfl, ?_⟩
      have n0_ := bb_ BK1.out hb
      have n1_ := bb_ BK2.out hb
      have n2_ := bs_ hb
      clear BK1
      clear BK2
      clear HB
      have BK1 := n0_
      have BK2 := n1_
      have HB := n2_
      clear n0_ n1_ n2_
      (try clear hb)
      (try clear hb2)
      (try clear hk)
      (try clear hi)
      refine hK.out _ _ ⟨(blk_cell BK1.out 0).trans rfl, (blk_cell BK1.out 1).trans rfl, ((HB.out.cell (World.block_lt_of_cell? w _ hw4_0)).trans hw4_0), ((HB.out.cell (World.block_lt_of_cell? w _ hw4_1)).trans hw4_1)⟩ (fun hHeld => ?_)
      clear hK K
      refine norm_ (a' := ?_) ?_ ?_
      rotate_left
      ·show Act.put _ (some 33) _ = _
       simp only [Act.put, List.setIfInBounds_toArray, List.set_cons_zero, List.set_cons_succ, i64_w, i32_w]
       rfl
      refine pure_ (i := 6) (N := some 34) (bm_ 24 127) rfl rfl (any_of HT_.out kr_) (fun _ _ _ h => h) (Or.inl ⟨rfl, yi_⟩) pu_ ?_
      refine pure_ (i := 7) (N := some 35) (bm_ 24 255) rfl rfl (any_of HT_.out kr_) (fun _ _ _ h => h) (Or.inl ⟨rfl, yi_⟩) pu_ ?_
      refine pure_ (i := 8) (N := some 36) (bm_ 24 511) rfl rfl (any_of HT_.out kr_) (fun _ _ _ h => h) (Or.inl ⟨rfl, yi_⟩) pu_ ?_
      refine pure_ (i := 9) (N := some 37) (bm_ 24 1023) rfl rfl (any_of HT_.out kr_) (fun _ _ _ h => h) (Or.inl ⟨rfl, yi_⟩) pu_ ?_
      refine pure_ (i := 10) (N := some 38) (bm_ 24 2047) rfl rfl (any_of HT_.out kr_) (fun _ _ _ h => h) (Or.inl ⟨rfl, yi_⟩) pu_ ?_
      refine pure_ (i := 11) (N := some 39) (v := undef) (a' := ?_) (bm_ 24 4095) rfl rfl (any_of HT_.out kr_) (fun _ _ _ h => h) (Or.inr ⟨by rfl, rfl⟩) ?_ ?_
      rotate_left
      ·exact pu_
      refine pure_ (i := 12) (N := some 40) (v := undef) (a' := ?_) (bm_ 24 8191) rfl rfl (any_of HT_.out kr_) (fun _ _ _ h => h) (Or.inr ⟨by rfl, rfl⟩) ?_ ?_
      rotate_left
      ·exact pu_
      refine pure_ (i := 13) (N := some 41) (v := undef) (a' := ?_) (bm_ 24 16383) rfl rfl (any_of HT_.out kr_) (fun _ _ _ h => h) (Or.inr ⟨by rfl, rfl⟩) ?_ ?_
      rotate_left
      ·exact pu_
      refine pure_ (i := 14) (N := some 42) (v := undef) (a' := ?_) (bm_ 24 32767) rfl rfl (any_of HT_.out kr_) (fun _ _ _ h => h) (Or.inr ⟨by rfl, rfl⟩) ?_ ?_
      rotate_left
      ·exact pu_
      refine pure_ (i := 15) (N := some 43) (v := undef) (a' := ?_) (bm_ 24 65535) rfl rfl (any_of HT_.out kr_) (fun _ _ _ h => h) (Or.inr ⟨by rfl, rfl⟩) ?_ ?_
      rotate_left
      ·exact pu_
      refine pure_ (i := 16) (N := some 44) (v := undef) (a' := ?_) (bm_ 24 131071) rfl rfl (any_of HT_.out kr_) (fun _ _ _ h => h) (Or.inr ⟨by rfl, rfl⟩) ?_ ?_
      rotate_left
      ·exact pu_
      refine pure_ (i := 17) (N := some 45) (v := undef) (a' := ?_) (bm_ 24 262143) rfl rfl (any_of HT_.out kr_) (fun _ _ _ h => h) (Or.inr ⟨by rfl, rfl⟩) ?_ ?_
      rotate_left
      ·exact pu_
      refine pure_ (i := 18) (N := some 46) (v := undef) (a' := ?_) (bm_ 24 524287) rfl rfl (any_of HT_.out kr_) (fun _ _ _ h => h) (Or.inr ⟨by rfl, rfl⟩) ?_ ?_
      rotate_left
      ·exact pu_
      refine pure_ (i := 19) (N := some 47) (v := undef) (a' := ?_) (bm_ 24 1048575) rfl rfl (any_of HT_.out kr_) (fun _ _ _ h => h) (Or.inr ⟨by rfl, rfl⟩) ?_ ?_
      rotate_left
      ·exact pu_
      refine pure_ (i := 20) (N := some 48) (v := undef) (a' := ?_) (bm_ 24 2097151) rfl rfl (any_of HT_.out kr_) (fun _ _ _ h => h) (Or.inr ⟨by rfl, rfl⟩) ?_ ?_
      rotate_left
      ·exact pu_
      refine pure_ (i := 21) (N := some 49) (v := undef) (a' := ?_) (bm_ 24 4194303) rfl rfl (any_of HT_.out kr_) (fun _ _ _ h => h) (Or.inr ⟨by rfl, rfl⟩) ?_ ?_
      rotate_left
      ·exact pu_
      refine pure_ (i := 22) (N := some 50) (bm_ 24 8388607) rfl rfl (any_of HT_.out kr_) (fun _ _ _ h => h) (Or.inl ⟨rfl, yi_⟩) pu_ ?_
      refine pure_ (i := 23) (N := some 51) (bm_ 24 16777215) rfl rfl (any_of HT_.out kr_) (fun _ _ _ h => h) (Or.inl ⟨rfl, yi_⟩) pu_ ?_
      refine done_ (done_of HT_.out kr_) ?_
      try go_wp2
      go_roundg k2
      case measure => have := HJ2.out; have := HK2.out; omega
      case rel => exact ⟨(wrap64 (x6_2 + 1)), (x3000_2), sd_, H', ⟨by have := HJ2.out; have := HK2.out; omega⟩, ⟨bk_⟩, ⟨bk_⟩, ⟨bw_⟩⟩
     rw [if_pos c21] at H
     have c21b0 : decide (0 < x6_2) = true := decide_eq_true c21
     clear c21
     obtain ⟨ji22, hji22⟩ : ∃ j_ : Int, (wrap64 (x6_2 - 1)) = j_ := ⟨_, rfl⟩
     replace H : (if 0 ≤ (ji22) then (if (ji22) < (l1.length : Int) then ((spec_l07Less.f ((rd_T44 l1 (ji22)).f0) ((rd_T44 l1 (ji22)).f1) ((rd_T44 l1 x6_2).f0) ((rd_T44 l1 x6_2).f1)).bind fun t8 => (if t8 = true then (spec_PutFences.l0 k2 l1 (wrap64 (x6_2 + 1)) a0_0 l0_1) else (some (0, ([] : List (List (S50))), false)))) else (none)) else (none)) = some (r1, r2, r3) := by first | (rw [hji22] at H; exact H) | (simp only [hji22] at H ⊢; exact H)
     (try rw [hji22] at A19)
     have hji22w : (IntKind.i64.wrap (x6_2 - 1)) = ji22 := (i64_w _).trans hji22
     by_cases c23 : 0 ≤ (ji22)
     rotate_left
     ·rw [if_neg c23] at H
      exact absurd H (by simp)
     rw [if_pos c23] at H
     have c23b0 : decide (0 ≤ (ji22)) = true := decide_eq_true c23
     clear c23
     by_cases c24 : (ji22) < (l1.length : Int)
     rotate_left
     ·rw [if_neg c24] at H
      exact absurd H (by simp)
     rw [if_pos c24] at H
     have c24b0 : decide ((ji22) < (l1.length : Int)) = true := decide_eq_true c24
     clear c24
     replace H := Option.bind_eq_some_iff.mp H
     obtain ⟨t8, A250, H⟩ := H
     replace H : (if t8 = true then (spec_PutFences.l0 k2 l1 (wrap64 (x6_2 + 1)) a0_0 l0_1) else (some (0, ([] : List (List (S50))), false))) = some (r1, r2, r3) := H
     have A25 := am_ A250
     clear A250
     by_cases c26 : t8 = true
     ·subst c26
      have H1 : (spec_PutFences.l0 k2 l1 (wrap64 (x6_2 + 1)) a0_0 l0_1) = some (r1, r2, r3) := by rw [if_pos rfl] at H; exact H
      clear H
      have H := H1
      clear H1
      have H' := am_ H
      clear H
      try go_wp2
      have n0_ := am_ (blk_drew BK1.out)
      have n1_ := am_ (blk_drew BK2.out)
      have n2_ := am_ (below_drew1 HB.out)
      clear BK1
      clear BK2
      clear HB
      have BK1 := n0_
      have BK2 := n1_
      have HB := n2_
      clear n0_ n1_ n2_
      have p4 : 0 ≤ (x6_2 : Int) := od_
      have q4 : x6_2 < (l1.length : Int) := od_
      obtain ⟨ad4, e4, hx4_0, hx4_1⟩ := at_T44 HR1.out x6_2 p4 q4
      have hw4_1 := hx4_1
      have hw4_0 := hx4_0
      cases e4
      replace hx4_0 := (HB.out.cell (World.block_lt_of_cell? w _ hx4_0)).trans hx4_0
      replace hx4_1 := (HB.out.cell (World.block_lt_of_cell? w _ hx4_1)).trans hx4_1
      replace p4 := eq_true p4
      replace q4 := eq_true q4
      have p6 : 0 ≤ ((ji22) : Int) := od_
      have q6 : (ji22) < (l1.length : Int) := od_
      obtain ⟨ad6, e6, hx6_0, hx6_1⟩ := at_T44 HR1.out (ji22) p6 q6
      have hw6_1 := hx6_1
      have hw6_0 := hx6_0
      obtain rfl : ad4 = ad6 := (by injection e6)
      replace hx6_0 := (HB.out.cell (World.block_lt_of_cell? w _ hx6_0)).trans hx6_0
      replace hx6_1 := (HB.out.cell (World.block_lt_of_cell? w _ hx6_1)).trans hx6_1
      replace p6 := eq_true p6
      replace q6 := eq_true q6
      have p7 : 0 ≤ (x6_2 : Int) := od_
      have q7 : x6_2 < (l1.length : Int) := od_
      obtain ⟨ad7, e7, hx7_0, hx7_1⟩ := at_T44 HR1.out x6_2 p7 q7
      have hw7_1 := hx7_1
      have hw7_0 := hx7_0
      obtain rfl : ad4 = ad7 := (by injection e7)
      replace hx7_0 := (HB.out.cell (World.block_lt_of_cell? w _ hx7_0)).trans hx7_0
      replace hx7_1 := (HB.out.cell (World.block_lt_of_cell? w _ hx7_1)).trans hx7_1
      replace p7 := eq_true p7
      replace q7 := eq_true q7
      refine start_ (n := 24) (S := fun w' => w'.cell? ⟨gb1, 0, none⟩ = some (.int .i64 a0_0) ∧ w'.cell? ⟨gb1, 1, none⟩ = some (.slice A0_1 l0_1.length c0_1) ∧ w'.cell? (ad4.add ((x6_2).toNat * 2)) = some (.int .i64 ((rd_T44 l1 x6_2).f0)) ∧ w'.cell? ⟨(ad4.add ((x6_2).toNat * 2)).block, (ad4.add ((x6_2).toNat * 2)).off + 1, none⟩ = some (.int .i64 ((rd_T44 l1 x6_2).f1)) ∧ w'.cell? (ad4.add (((ji22)).toNat * 2)) = some (.int .i64 ((rd_T44 l1 (ji22)).f0)) ∧ w'.cell? ⟨(ad4.add (((ji22)).toNat * 2)).block, (ad4.add (((ji22)).toNat * 2)).off + 1, none⟩ = some (.int .i64 ((rd_T44 l1 (ji22)).f1)) ∧ w'.cell? (ad4.add ((x6_2).toNat * 2)) = some (.int .i64 ((rd_T44 l1 x6_2).f0)) ∧ w'.cell? ⟨(ad4.add ((x6_2).toNat * 2)).block, (ad4.add ((x6_2).toNat * 2)).off + 1, none⟩ = some (.int .i64 ((rd_T44 l1 x6_2).f1))) (ds := []) (bm_ 24 0) kr_ rfl rfl ⟨(blk_cell BK1.out 0).trans rfl, (blk_cell BK1.out 1).trans rfl, ((HB.out.cell (World.block_lt_of_cell? w _ hw4_0)).trans hw4_0), ((HB.out.cell (World.block_lt_of_cell? w _ hw4_1)).trans hw4_1), ((HB.out.cell (World.block_lt_of_cell? w _ hw6_0)).trans hw6_0), ((HB.out.cell (World.block_lt_of_cell? w _ hw6_1)).trans hw6_1), ((HB.out.cell (World.block_lt_of_cell? w _ hw7_0)).trans hw7_0), ((HB.out.cell (World.block_lt_of_cell? w _ hw7_1)).trans hw7_1)⟩ (fun hHeld => ?_); refine with_tabW spec_PutFences.tab6 spec_PutFences.bits6 (fun HT_ HW_ => ?_)
      generalize wr.drew = w27 at BK1 BK2 HB hx4_0 hx4_1 hx6_0 hx6_1 hx7_0 hx7_1 hHeld ⊢
      refine pure_ (i := 0) (N := some 28) (bm_ 24 1) rfl rfl (any_of HT_.out kr_) (fun _ _ _ h => h) (Or.inl ⟨rfl, yi_⟩) pu_ ?_
      refine pure_ (i := 1) (N := some 29) (bm_ 24 3) rfl rfl (any_of HT_.out kr_) (fun _ _ _ h => h) (Or.inl ⟨rfl, yi_⟩) pu_ ?_
      refine pure_ (i := 2) (N := some 30) (bm_ 24 7) rfl rfl (any_of HT_.out kr_) (fun _ _ _ h => h) (Or.inl ⟨rfl, yi_⟩) pu_ ?_
      refine take_ (i := 3) (N := some 31) (v := ?_) (a' := ?_) (bm_ 24 15) rfl rfl (take_ofW HT_.out HW_.out kr_) (fun _ _ _ h => h) (Or.inl ⟨by rfl, ?_⟩) hHeld ?_ ?_
      rotate_left
      ·rintro w' ⟨s0, s1, s2, s3, s4, s5, s6, s7⟩
       go_simp
       with_reducible rfl
      rotate_left
      ·exact pu_
      refine take_ (i := 4) (N := some 32) (v := ?_) (a' := ?_) (bm_ 24 31) rfl rfl (take_ofW HT_.out HW_.out kr_) (fun _ _ _ h => h) (Or.inl ⟨by rfl, ?_⟩) hHeld ?_ ?_
      rotate_left
      ·rintro w' ⟨s0, s1, s2, s3, s4, s5, s6, s7⟩
       go_simp
       with_reducible rfl
      rotate_left
      ·exact pu_
      refine one_ (i := 5) (N := some 33) (bm_ 24 63) rfl rfl (one_of HT_.out kr_) (by decide) (fun K hK => ?_)
      refine goes_ Try.func17 kr_ rfl #[.agg #[.int .i64 ((rd_T44 l1 x6_2).f0), .int .i64 ((rd_T44 l1 x6_2).f1)], .agg #[.int .i64 a0_0, .slice A0_1 l0_1.length c0_1]] (by rfl) rfl rfl ar_ ?_
      with_reducible refine (spec_SpotOk.calls k2 ((rd_T44 l1 x6_2).f0) ((rd_T44 l1 x6_2).f1) a0_0 _ _ l0_1 true _ ?side1 ?side2 A19.out).mono ?_
      (case side1 => exact cb_)
      (case side2 => exact HC0_1.out)
      rintro e w28 ⟨rfl, hb⟩
      refine ⟨_, rfl, ?_⟩
      have n0_ := bb_ BK1.out hb
      have n1_ := bb_ BK2.out hb
      have n2_ := bs_ hb
      clear BK1
      clear BK2
      clear HB
      have BK1 := n0_
      have BK2 := n1_
      have HB := n2_
      clear n0_ n1_ n2_
      (try clear hb)
      (try clear hb2)
      (try clear hk)
      (try clear hi)
      refine hK.out _ _ ⟨(blk_cell BK1.out 0).trans rfl, (blk_cell BK1.out 1).trans rfl, ((HB.out.cell (World.block_lt_of_cell? w _ hw4_0)).trans hw4_0), ((HB.out.cell (World.block_lt_of_cell? w _ hw4_1)).trans hw4_1), ((HB.out.cell (World.block_lt_of_cell? w _ hw6_0)).trans hw6_0), ((HB.out.cell (World.block_lt_of_cell? w _ hw6_1)).trans hw6_1), ((HB.out.cell (World.block_lt_of_cell? w _ hw7_0)).trans hw7_0), ((HB.out.cell (World.block_lt_of_cell? w _ hw7_1)).trans hw7_1)⟩ (fun hHeld => ?_)
      clear hK K
      refine norm_ (a' := ?_) ?_ ?_
      rotate_left
      ·show Act.put _ (some 33) _ = _
       simp only [Act.put, List.setIfInBounds_toArray, List.set_cons_zero, List.set_cons_succ, i64_w, i32_w]
       rfl
      refine pure_ (i := 6) (N := some 34) (bm_ 24 127) rfl rfl (any_of HT_.out kr_) (fun _ _ _ h => h) (Or.inl ⟨rfl, yi_⟩) pu_ ?_
      refine pure_ (i := 7) (N := some 35) (bm_ 24 255) rfl rfl (any_of HT_.out kr_) (fun _ _ _ h => h) (Or.inl ⟨rfl, yi_⟩) pu_ ?_
      refine pure_ (i := 8) (N := some 36) (bm_ 24 511) rfl rfl (any_of HT_.out kr_) (fun _ _ _ h => h) (Or.inl ⟨rfl, yi_⟩) pu_ ?_
      refine pure_ (i := 9) (N := some 37) (bm_ 24 1023) rfl rfl (any_of HT_.out kr_) (fun _ _ _ h => h) (Or.inl ⟨rfl, yi_⟩) pu_ ?_
      refine pure_ (i := 10) (N := some 38) (bm_ 24 2047) rfl rfl (any_of HT_.out kr_) (fun _ _ _ h => h) (Or.inl ⟨rfl, yi_⟩) pu_ ?_
      refine pure_ (i := 11) (N := some 39) (bm_ 24 4095) rfl rfl (any_of HT_.out kr_) (fun _ _ _ h => h) (Or.inl ⟨rfl, yi_⟩) pu_ ?_
      refine pure_ (i := 12) (N := some 40) (bm_ 24 8191) rfl rfl (any_of HT_.out kr_) (fun _ _ _ h => h) (Or.inl ⟨rfl, yi_⟩) pu_ ?_
      refine pure_ (i := 13) (N := some 41) (bm_ 24 16383) rfl rfl (any_of HT_.out kr_) (fun _ _ _ h => h) (Or.inl ⟨rfl, yi_⟩) pu_ ?_
      refine pure_ (i := 14) (N := some 42) (bm_ 24 32767) rfl rfl (any_of HT_.out kr_) (fun _ _ _ h => h) (Or.inl ⟨rfl, yi_⟩) pu_ ?_
      refine pure_ (i := 16) (N := some 44) (bm_ 24 98303) rfl rfl (any_of HT_.out kr_) (fun _ _ _ h => h) (Or.inl ⟨rfl, yi_⟩) pu_ ?_
      refine pure_ (i := 17) (N := some 45) (bm_ 24 229375) rfl rfl (any_of HT_.out kr_) (fun _ _ _ h => h) (Or.inl ⟨rfl, yi_⟩) pu_ ?_
      refine pure_ (i := 18) (N := some 46) (bm_ 24 491519) rfl rfl (any_of HT_.out kr_) (fun _ _ _ h => h) (Or.inl ⟨rfl, yi_⟩) pu_ ?_
      refine take_ (i := 15) (N := some 43) (v := ?_) (a' := ?_) (bm_ 24 524287) rfl rfl (take_ofW HT_.out HW_.out kr_) (fun _ _ _ h => h) (Or.inl ⟨by rfl, ?_⟩) hHeld ?_ ?_
      rotate_left
      ·rintro w' ⟨s0, s1, s2, s3, s4, s5, s6, s7⟩
       go_simp
       with_reducible rfl
      rotate_left
      ·exact pu_
      refine take_ (i := 19) (N := some 47) (v := ?_) (a' := ?_) (bm_ 24 1048575) rfl rfl (take_ofW HT_.out HW_.out kr_) (fun _ _ _ h => h) (Or.inl ⟨by rfl, ?_⟩) hHeld ?_ ?_
      rotate_left
      ·rintro w' ⟨s0, s1, s2, s3, s4, s5, s6, s7⟩
       go_simp
       with_reducible rfl
      rotate_left
      ·exact pu_
      refine one_ (i := 20) (N := some 48) (bm_ 24 2097151) rfl rfl (one_of HT_.out kr_) (by decide) (fun K hK => ?_)
      refine goes_ Try.func18 kr_ rfl #[.agg #[.int .i64 ((rd_T44 l1 (ji22)).f0), .int .i64 ((rd_T44 l1 (ji22)).f1)], .agg #[.int .i64 ((rd_T44 l1 x6_2).f0), .int .i64 ((rd_T44 l1 x6_2).f1)]] (by rfl) rfl rfl (by (try simp only [List.map_toArray, List.map_cons, List.map_nil]); first | done | (simp only [hji22]; rfl) | rfl | (simp only [List.length_drop, List.length_take]; rfl)) ?_
      with_reducible refine (spec_l07Less.calls ((rd_T44 l1 (ji22)).f0) ((rd_T44 l1 (ji22)).f1) ((rd_T44 l1 x6_2).f0) ((rd_T44 l1 x6_2).f1) true _ A25.out).mono ?_
      rintro e w29 ⟨rfl, hb⟩
      refine ⟨_, rfl, ?_⟩
      have n0_ := bb_ BK1.out hb
      have n1_ := bb_ BK2.out hb
      have n2_ := bs_ hb
      clear BK1
      clear BK2
      clear HB
      have BK1 := n0_
      have BK2 := n1_
      have HB := n2_
      clear n0_ n1_ n2_
      (try clear hb)
      (try clear hb2)
      (try clear hk)
      (try clear hi)
      refine hK.out _ _ ⟨(blk_cell BK1.out 0).trans rfl, (blk_cell BK1.out 1).trans rfl, ((HB.out.cell (World.block_lt_of_cell? w _ hw4_0)).trans hw4_0), ((HB.out.cell (World.block_lt_of_cell? w _ hw4_1)).trans hw4_1), ((HB.out.cell (World.block_lt_of_cell? w _ hw6_0)).trans hw6_0), ((HB.out.cell (World.block_lt_of_cell? w _ hw6_1)).trans hw6_1), ((HB.out.cell (World.block_lt_of_cell? w _ hw7_0)).trans hw7_0), ((HB.out.cell (World.block_lt_of_cell? w _ hw7_1)).trans hw7_1)⟩ (fun hHeld => ?_)
      clear hK K
      refine norm_ (a' := ?_) ?_ ?_
      rotate_left
      ·show Act.put _ (some 48) _ = _
       simp only [Act.put, List.setIfInBounds_toArray, List.set_cons_zero, List.set_cons_succ, i64_w, i32_w]
       rfl
      refine pure_ (i := 21) (N := some 49) (bm_ 24 4194303) rfl rfl (any_of HT_.out kr_) (fun _ _ _ h => h) (Or.inl ⟨rfl, yi_⟩) pu_ ?_
      refine pure_ (i := 22) (N := some 50) (bm_ 24 8388607) rfl rfl (any_of HT_.out kr_) (fun _ _ _ h => h) (Or.inl ⟨rfl, yi_⟩) pu_ ?_
      refine pure_ (i := 23) (N := some 51) (bm_ 24 16777215) rfl rfl (any_of HT_.out kr_) (fun _ _ _ h => h) (Or.inl ⟨rfl, yi_⟩) pu_ ?_
      refine done_ (done_of HT_.out kr_) ?_
      try go_wp2
      go_roundg k2
      case measure => have := HJ2.out; have := HK2.out; omega
      case rel => exact ⟨(wrap64 (x6_2 + 1)), (x3000_2), sd_, H', ⟨by have := HJ2.out; have := HK2.out; omega⟩, ⟨bk_⟩, ⟨bk_⟩, ⟨bw_⟩⟩
     replace c26 := Bool.eq_false_iff.mpr c26
     subst c26
     have H1 : (some (0, ([] : List (List (S50))), false)) = some (r1, r2, r3) := by rw [if_neg (show ¬ (false = true) by decide)] at H; exact H
     clear H
     have H := H1
     clear H1
     simp only [Option.some.injEq, Prod.mk.injEq] at H
     obtain ⟨rfl, rfl, rfl⟩ := H
     try go_wp2
     have n0_ := am_ (blk_drew BK1.out)
     have n1_ := am_ (blk_drew BK2.out)
     have n2_ := am_ (below_drew1 HB.out)
     clear BK1
     clear BK2
     clear HB
     have BK1 := n0_
     have BK2 := n1_
     have HB := n2_
     clear n0_ n1_ n2_
     have p4 : 0 ≤ (x6_2 : Int) := od_
     have q4 : x6_2 < (l1.length : Int) := od_
     obtain ⟨ad4, e4, hx4_0, hx4_1⟩ := at_T44 HR1.out x6_2 p4 q4
     have hw4_1 := hx4_1
     have hw4_0 := hx4_0
     cases e4
     replace hx4_0 := (HB.out.cell (World.block_lt_of_cell? w _ hx4_0)).trans hx4_0
     replace hx4_1 := (HB.out.cell (World.block_lt_of_cell? w _ hx4_1)).trans hx4_1
     replace p4 := eq_true p4
     replace q4 := eq_true q4
     have p6 : 0 ≤ ((ji22) : Int) := od_
     have q6 : (ji22) < (l1.length : Int) := od_
     obtain ⟨ad6, e6, hx6_0, hx6_1⟩ := at_T44 HR1.out (ji22) p6 q6
     have hw6_1 := hx6_1
     have hw6_0 := hx6_0
     obtain rfl : ad4 = ad6 := (by injection e6)
     replace hx6_0 := (HB.out.cell (World.block_lt_of_cell? w _ hx6_0)).trans hx6_0
     replace hx6_1 := (HB.out.cell (World.block_lt_of_cell? w _ hx6_1)).trans hx6_1
     replace p6 := eq_true p6
     replace q6 := eq_true q6
     have p7 : 0 ≤ (x6_2 : Int) := od_
     have q7 : x6_2 < (l1.length : Int) := od_
     obtain ⟨ad7, e7, hx7_0, hx7_1⟩ := at_T44 HR1.out x6_2 p7 q7
     have hw7_1 := hx7_1
     have hw7_0 := hx7_0
     obtain rfl : ad4 = ad7 := (by injection e7)
     replace hx7_0 := (HB.out.cell (World.block_lt_of_cell? w _ hx7_0)).trans hx7_0
     replace hx7_1 := (HB.out.cell (World.block_lt_of_cell? w _ hx7_1)).trans hx7_1
     replace p7 := eq_true p7
     replace q7 := eq_true q7
     refine start_ (n := 24) (S := fun w' => w'.cell? ⟨gb1, 0, none⟩ = some (.int .i64 a0_0) ∧ w'.cell? ⟨gb1, 1, none⟩ = some (.slice A0_1 l0_1.length c0_1) ∧ w'.cell? (ad4.add ((x6_2).toNat * 2)) = some (.int .i64 ((rd_T44 l1 x6_2).f0)) ∧ w'.cell? ⟨(ad4.add ((x6_2).toNat * 2)).block, (ad4.add ((x6_2).toNat * 2)).off + 1, none⟩ = some (.int .i64 ((rd_T44 l1 x6_2).f1)) ∧ w'.cell? (ad4.add (((ji22)).toNat * 2)) = some (.int .i64 ((rd_T44 l1 (ji22)).f0)) ∧ w'.cell? ⟨(ad4.add (((ji22)).toNat * 2)).block, (ad4.add (((ji22)).toNat * 2)).off + 1, none⟩ = some (.int .i64 ((rd_T44 l1 (ji22)).f1)) ∧ w'.cell? (ad4.add ((x6_2).toNat * 2)) = some (.int .i64 ((rd_T44 l1 x6_2).f0)) ∧ w'.cell? ⟨(ad4.add ((x6_2).toNat * 2)).block, (ad4.add ((x6_2).toNat * 2)).off + 1, none⟩ = some (.int .i64 ((rd_T44 l1 x6_2).f1))) (ds := []) (bm_ 24 0) kr_ rfl rfl ⟨(blk_cell BK1.out 0).trans rfl, (blk_cell BK1.out 1).trans rfl, ((HB.out.cell (World.block_lt_of_cell? w _ hw4_0)).trans hw4_0), ((HB.out.cell (World.block_lt_of_cell? w _ hw4_1)).trans hw4_1), ((HB.out.cell (World.block_lt_of_cell? w _ hw6_0)).trans hw6_0), ((HB.out.cell (World.block_lt_of_cell? w _ hw6_1)).trans hw6_1), ((HB.out.cell (World.block_lt_of_cell? w _ hw7_0)).trans hw7_0), ((HB.out.cell (World.block_lt_of_cell? w _ hw7_1)).trans hw7_1)⟩ (fun hHeld => ?_); refine with_tabW spec_PutFences.tab6 spec_PutFences.bits6 (fun HT_ HW_ => ?_)
     generalize wr.drew = w30 at BK1 BK2 HB hx4_0 hx4_1 hx6_0 hx6_1 hx7_0 hx7_1 hHeld ⊢
     refine pure_ (i := 0) (N := some 28) (bm_ 24 1) rfl rfl (any_of HT_.out kr_) (fun _ _ _ h => h) (Or.inl ⟨rfl, yi_⟩) pu_ ?_
     refine pure_ (i := 1) (N := some 29) (bm_ 24 3) rfl rfl (any_of HT_.out kr_) (fun _ _ _ h => h) (Or.inl ⟨rfl, yi_⟩) pu_ ?_
     refine pure_ (i := 2) (N := some 30) (bm_ 24 7) rfl rfl (any_of HT_.out kr_) (fun _ _ _ h => h) (Or.inl ⟨rfl, yi_⟩) pu_ ?_
     refine take_ (i := 3) (N := some 31) (v := ?_) (a' := ?_) (bm_ 24 15) rfl rfl (take_ofW HT_.out HW_.out kr_) (fun _ _ _ h => h) (Or.inl ⟨by rfl, ?_⟩) hHeld ?_ ?_
     rotate_left
     ·rintro w' ⟨s0, s1, s2, s3, s4, s5, s6, s7⟩
      go_simp
      with_reducible rfl
     rotate_left
     ·exact pu_
     refine take_ (i := 4) (N := some 32) (v := ?_) (a' := ?_) (bm_ 24 31) rfl rfl (take_ofW HT_.out HW_.out kr_) (fun _ _ _ h => h) (Or.inl ⟨by rfl, ?_⟩) hHeld ?_ ?_
     rotate_left
     ·rintro w' ⟨s0, s1, s2, s3, s4, s5, s6, s7⟩
      go_simp
      with_reducible rfl
     rotate_left
     ·exact pu_
     refine one_ (i := 5) (N := some 33) (bm_ 24 63) rfl rfl (one_of HT_.out kr_) (by decide) (fun K hK => ?_)
     refine goes_ Try.func17 kr_ rfl #[.agg #[.int .i64 ((rd_T44 l1 x6_2).f0), .int .i64 ((rd_T44 l1 x6_2).f1)], .agg #[.int .i64 a0_0, .slice A0_1 l0_1.length c0_1]] (by rfl) rfl rfl ar_ ?_
     with_reducible refine (spec_SpotOk.calls k2 ((rd_T44 l1 x6_2).f0) ((rd_T44 l1 x6_2).f1) a0_0 _ _ l0_1 true _ ?side1 ?side2 A19.out).mono ?_
     (case side1 => exact cb_)
     (case side2 => exact HC0_1.out)
     rintro e w31 ⟨rfl, hb⟩
     refine ⟨_, rfl, ?_⟩
     have n0_ := bb_ BK1.out hb
     have n1_ := bb_ BK2.out hb
     have n2_ := bs_ hb
     clear BK1
     clear BK2
     clear HB
     have BK1 := n0_
     have BK2 := n1_
     have HB := n2_
     clear n0_ n1_ n2_
     (try clear hb)
     (try clear hb2)
     (try clear hk)
     (try clear hi)
     refine hK.out _ _ ⟨(blk_cell BK1.out 0).trans rfl, (blk_cell BK1.out 1).trans rfl, ((HB.out.cell (World.block_lt_of_cell? w _ hw4_0)).trans hw4_0), ((HB.out.cell (World.block_lt_of_cell? w _ hw4_1)).trans hw4_1), ((HB.out.cell (World.block_lt_of_cell? w _ hw6_0)).trans hw6_0), ((HB.out.cell (World.block_lt_of_cell? w _ hw6_1)).trans hw6_1), ((HB.out.cell (World.block_lt_of_cell? w _ hw7_0)).trans hw7_0), ((HB.out.cell (World.block_lt_of_cell? w _ hw7_1)).trans hw7_1)⟩ (fun hHeld => ?_)
     clear hK K
     refine norm_ (a' := ?_) ?_ ?_
     rotate_left
     ·show Act.put _ (some 33) _ = _
      simp only [Act.put, List.setIfInBounds_toArray, List.set_cons_zero, List.set_cons_succ, i64_w, i32_w]
      rfl
     refine pure_ (i := 6) (N := some 34) (bm_ 24 127) rfl rfl (any_of HT_.out kr_) (fun _ _ _ h => h) (Or.inl ⟨rfl, yi_⟩) pu_ ?_
     refine pure_ (i := 7) (N := some 35) (bm_ 24 255) rfl rfl (any_of HT_.out kr_) (fun _ _ _ h => h) (Or.inl ⟨rfl, yi_⟩) pu_ ?_
     refine pure_ (i := 8) (N := some 36) (bm_ 24 511) rfl rfl (any_of HT_.out kr_) (fun _ _ _ h => h) (Or.inl ⟨rfl, yi_⟩) pu_ ?_
     refine pure_ (i := 9) (N := some 37) (bm_ 24 1023) rfl rfl (any_of HT_.out kr_) (fun _ _ _ h => h) (Or.inl ⟨rfl, yi_⟩) pu_ ?_
     refine pure_ (i := 10) (N := some 38) (bm_ 24 2047) rfl rfl (any_of HT_.out kr_) (fun _ _ _ h => h) (Or.inl ⟨rfl, yi_⟩) pu_ ?_
     refine pure_ (i := 11) (N := some 39) (bm_ 24 4095) rfl rfl (any_of HT_.out kr_) (fun _ _ _ h => h) (Or.inl ⟨rfl, yi_⟩) pu_ ?_
     refine pure_ (i := 12) (N := some 40) (bm_ 24 8191) rfl rfl (any_of HT_.out kr_) (fun _ _ _ h => h) (Or.inl ⟨rfl, yi_⟩) pu_ ?_
     refine pure_ (i := 13) (N := some 41) (bm_ 24 16383) rfl rfl (any_of HT_.out kr_) (fun _ _ _ h => h) (Or.inl ⟨rfl, yi_⟩) pu_ ?_
     refine pure_ (i := 14) (N := some 42) (bm_ 24 32767) rfl rfl (any_of HT_.out kr_) (fun _ _ _ h => h) (Or.inl ⟨rfl, yi_⟩) pu_ ?_
     refine pure_ (i := 16) (N := some 44) (bm_ 24 98303) rfl rfl (any_of HT_.out kr_) (fun _ _ _ h => h) (Or.inl ⟨rfl, yi_⟩) pu_ ?_
     refine pure_ (i := 17) (N := some 45) (bm_ 24 229375) rfl rfl (any_of HT_.out kr_) (fun _ _ _ h => h) (Or.inl ⟨rfl, yi_⟩) pu_ ?_
     refine pure_ (i := 18) (N := some 46) (bm_ 24 491519) rfl rfl (any_of HT_.out kr_) (fun _ _ _ h => h) (Or.inl ⟨rfl, yi_⟩) pu_ ?_
     refine take_ (i := 15) (N := some 43) (v := ?_) (a' := ?_) (bm_ 24 524287) rfl rfl (take_ofW HT_.out HW_.out kr_) (fun _ _ _ h => h) (Or.inl ⟨by rfl, ?_⟩) hHeld ?_ ?_
     rotate_left
     ·rintro w' ⟨s0, s1, s2, s3, s4, s5, s6, s7⟩
      go_simp
      with_reducible rfl
     rotate_left
     ·exact pu_
     refine take_ (i := 19) (N := some 47) (v := ?_) (a' := ?_) (bm_ 24 1048575) rfl rfl (take_ofW HT_.out HW_.out kr_) (fun _ _ _ h => h) (Or.inl ⟨by rfl, ?_⟩) hHeld ?_ ?_
     rotate_left
     ·rintro w' ⟨s0, s1, s2, s3, s4, s5, s6, s7⟩
      go_simp
      with_reducible rfl
     rotate_left
     ·exact pu_
     refine one_ (i := 20) (N := some 48) (bm_ 24 2097151) rfl rfl (one_of HT_.out kr_) (by decide) (fun K hK => ?_)
     refine goes_ Try.func18 kr_ rfl #[.agg #[.int .i64 ((rd_T44 l1 (ji22)).f0), .int .i64 ((rd_T44 l1 (ji22)).f1)], .agg #[.int .i64 ((rd_T44 l1 x6_2).f0), .int .i64 ((rd_T44 l1 x6_2).f1)]] (by rfl) rfl rfl (by (try simp only [List.map_toArray, List.map_cons, List.map_nil]); first | done | (simp only [hji22]; rfl) | rfl | (simp only [List.length_drop, List.length_take]; rfl)) ?_
     with_reducible refine (spec_l07Less.calls ((rd_T44 l1 (ji22)).f0) ((rd_T44 l1 (ji22)).f1) ((rd_T44 l1 x6_2).f0) ((rd_T44 l1 x6_2).f1) false _ A25.out).mono ?_
     rintro e w32 ⟨rfl, hb⟩
     refine ⟨_, rfl, ?_⟩
     have n0_ := bb_ BK1.out hb
     have n1_ := bb_ BK2.out hb
     have n2_ := bs_ hb
     clear BK1
     clear BK2
     clear HB
     have BK1 := n0_
     have BK2 := n1_
     have HB := n2_
     clear n0_ n1_ n2_
     (try clear hb)
     (try clear hb2)
     (try clear hk)
     (try clear hi)
     refine hK.out _ _ ⟨(blk_cell BK1.out 0).trans rfl, (blk_cell BK1.out 1).trans rfl, ((HB.out.cell (World.block_lt_of_cell? w _ hw4_0)).trans hw4_0), ((HB.out.cell (World.block_lt_of_cell? w _ hw4_1)).trans hw4_1), ((HB.out.cell (World.block_lt_of_cell? w _ hw6_0)).trans hw6_0), ((HB.out.cell (World.block_lt_of_cell? w _ hw6_1)).trans hw6_1), ((HB.out.cell (World.block_lt_of_cell? w _ hw7_0)).trans hw7_0), ((HB.out.cell (World.block_lt_of_cell? w _ hw7_1)).trans hw7_1)⟩ (fun hHeld => ?_)
     clear hK K
     refine norm_ (a' := ?_) ?_ ?_
     rotate_left
     ·show Act.put _ (some 48) _ = _
      simp only [Act.put, List.setIfInBounds_toArray, List.set_cons_zero, List.set_cons_succ, i64_w, i32_w]
      rfl
     refine pure_ (i := 21) (N := some 49) (bm_ 24 4194303) rfl rfl (any_of HT_.out kr_) (fun _ _ _ h => h) (Or.inl ⟨rfl, yi_⟩) pu_ ?_
     refine pure_ (i := 22) (N := some 50) (bm_ 24 8388607) rfl rfl (any_of HT_.out kr_) (fun _ _ _ h => h) (Or.inl ⟨rfl, yi_⟩) pu_ ?_
     refine pure_ (i := 23) (N := some 51) (bm_ 24 16777215) rfl rfl (any_of HT_.out kr_) (fun _ _ _ h => h) (Or.inl ⟨rfl, yi_⟩) pu_ ?_
     refine done_ (done_of HT_.out kr_) ?_
     have hnb33 := NB2_1.out
     have hnc33 := NB1_2.out
     obtain ⟨hcz34_0, hcz34_1, hfz34_0, hfz34_1⟩ := bc2_ BK2.out
     try go_wp2
     refine bodyPost_ret (results_ct rfl _ _ gb2 26 #[.int .i64 0, .slice none 0 0] (0, 0) _ rfl (by (with_reducible repeat (first | refine blk_drewN ?_ _ | refine blk_drew ?_ | refine blk_alloc ?_ _)); refine blk_put (cs := #[.int .i64 0, .slice none 0 0]) ?_ 1 _ rfl; (with_reducible repeat (first | refine blk_drewN ?_ _ | refine blk_drew ?_ | refine blk_alloc ?_ _)); refine blk_put (cs := #[.int .i64 x3000_2, .slice none 0 0]) ?_ 0 _ rfl; exact bk_) Try.underlying26 rfl kr_) rfl ?_
     exact ⟨_, by first | rfl | (simp [errW_none, errW_some] <;> rfl) | (simp only [← hji22]; first | rfl | (simp [errW_none, errW_some] <;> rfl)) | (simp [*, errW_none, errW_some] <;> rfl), by first | exact Kd.S_nil _ _ _ _ _ | exact Kd.N_nil _ _ _ _ _ | exact Kd.V_nil _ _ _ _ _ | exact Kd.Q_nil _ _ _ _ _ | exact Kd.R_nil _ _ _ _ _, bw_⟩

end Go.Proofs.Ytbgclnjnngolmaa.P
