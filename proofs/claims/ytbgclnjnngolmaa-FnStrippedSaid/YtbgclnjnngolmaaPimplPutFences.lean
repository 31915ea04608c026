-- Written by mp.py (the session's own driver over the kit's printer) for the seat Ytbgclnjnngolmaa.
import Derived.Test.YtbgclnjnngolmaaK
import Derived.Test.YtbgclnjnngolmaaE
import Derived.Test.YtbgclnjnngolmaaPcmpOrint
import Derived.Test.YtbgclnjnngolmaaPimplProgOk
import Derived.Test.YtbgclnjnngolmaaPimplSpotOk
import Derived.Test.YtbgclnjnngolmaaPimplputFences
namespace Go.Proofs.Ytbgclnjnngolmaa.P
open Go.RowKit Go.Proofs.YtbgclnjnngolmaaW.PrintWords Go.Proofs.YtbgclnjnngolmaaW.PrintLast Go.Proofs.YtbgclnjnngolmaaW.PrintMore
attribute [local go_sem] max2_int min2_int max_two min_two max_three min_three max_four min_four
set_option linter.unusedVariables false
set_option linter.unusedSimpArgs false

/-! ### impl_PutFences: function 7 -/
def impl_PutFences.l0 : Nat → List (S44) → List (S44) → Int → Int → Int → List (List (S50)) → Option (Int × (List (List (S50))) × Bool)
 | 0, _, _, _, _, _, _ => none
 | k + 1, x1, x12, x13, x14, x2000, x2001 => if x14 < x13 then (if 0 ≤ x14 then (if x14 < (x12.length : Int) then ((impl_SpotOk.f ((rd_T44 x12 x14).f0) ((rd_T44 x12 x14).f1) x2000 x2001).bind fun t11 => (if t11 = true then (if x14 > 0 then (if 0 ≤ (wrap64 (x14 - 1)) then (if (wrap64 (x14 - 1)) < (x1.length : Int) then ((impl_compareSpots.f k ((rd_T44 x1 (wrap64 (x14 - 1))).f0) ((rd_T44 x1 (wrap64 (x14 - 1))).f1) ((rd_T44 x12 x14).f0) ((rd_T44 x12 x14).f1)).bind fun t13 => (if t13 ≥ 0 then (some (0, ([] : List (List (S50))), false)) else (impl_PutFences.l0 k x1 x12 x13 (wrap64 (x14 + 1)) x2000 x2001))) else (none)) else (none)) else (impl_PutFences.l0 k x1 x12 x13 (wrap64 (x14 + 1)) x2000 x2001)) else (some (0, ([] : List (List (S50))), false)))) else (none)) else (none)) else ((impl_putFences.f k x2000 x2001 x1).bind fun bt4 => (some (bt4.1, bt4.2.1, bt4.2.2)))
def impl_PutFences.f (k : Nat) (a0_0 : Int) (l0_1 : List (List (S50))) (l1 : List (S44)) : Option (Int × (List (List (S50))) × Bool) := (impl_ProgOk.f a0_0 l0_1).bind fun t3 => (if t3 = true then (impl_PutFences.l0 k l1 l1 (l1.length : Int) 0 a0_0 l0_1) else (some (0, ([] : List (List (S50))), false)))
theorem impl_PutFences.mono_l : ∀ k, (∀ y0 y1 y2 y3 y4 y5, LeO (impl_PutFences.l0 k y0 y1 y2 y3 y4 y5) (impl_PutFences.l0 (k + 1) y0 y1 y2 y3 y4 y5))
 | 0 => fun _ _ _ _ _ _ r h => by simp [impl_PutFences.l0] at h
 | k + 1 => by
  have ih0 := impl_PutFences.mono_l k
  ·intro y0 y1 y2 y3 y4 y5
   unfold impl_PutFences.l0
   repeat' first | (with_reducible first | exact ih0 _ _ _ _ _ _ | exact impl_compareSpots.mono _ _ _ _ _ | exact impl_putFences.mono _ _ _ _ | exact lr_ | exact ln_ | refine LeO.ite ?_ ?_ | refine LeO.bind ?_ (fun _ => ?_)) | exact ih0 _ _ _ _ _ _ | exact impl_compareSpots.mono _ _ _ _ _ | exact impl_putFences.mono _ _ _ _ | exact ln_ | refine LeO.ite ?_ ?_ | refine LeO.bind ?_ (fun _ => ?_)
theorem impl_PutFences.mono : ∀ a0 a1 a2 k, LeO (impl_PutFences.f k a0 a1 a2) (impl_PutFences.f (k + 1) a0 a1 a2) := by
 intro a0 a1 a2 k
 have ih0 := impl_PutFences.mono_l k
 unfold impl_PutFences.f
 repeat' first | (with_reducible first | exact ih0 _ _ _ _ _ _ | exact impl_compareSpots.mono _ _ _ _ _ | exact impl_putFences.mono _ _ _ _ | exact lr_ | exact ln_ | refine LeO.ite ?_ ?_ | refine LeO.bind ?_ (fun _ => ?_)) | exact ih0 _ _ _ _ _ _ | exact impl_compareSpots.mono _ _ _ _ _ | exact impl_putFences.mono _ _ _ _ | exact ln_ | refine LeO.ite ?_ ?_ | refine LeO.bind ?_ (fun _ => ?_)
def impl_PutFences.T6 : Bool × List (List Nat × List Nat) := (true, [([], []), ([], []), ([0, 1], [0, 1]), ([2], [2]), ([3, 2], [3]), ([4], [4]), ([5, 4], [4, 5]), ([6, 4, 4], [4, 6]), ([7], [7]), ([7], [7]), ([9, 7], [7, 9]), ([8, 10, 7], [7, 8, 10]), ([11, 7], [7, 11]), ([7], [7]), ([12, 13, 7, 7], [7, 12, 13]), ([14, 7], [7, 14]), ([7, 15, 4], [4, 7, 15]), ([4, 16], [4, 16])])
def impl_PutFences.B6 : List Nat := [0, 0, 3, 7, 15, 31, 63, 127, 255, 255, 767, 2047, 4095, 255, 16383, 32767, 65535, 131071]
theorem impl_PutFences.tab6 : rtab .any (opsOf Try.f7 6) = impl_PutFences.T6 := by kernel_rfl
theorem impl_PutFences.bits6 : waitsOk impl_PutFences.T6.2 impl_PutFences.B6 = true := by kernel_rfl
set_option maxHeartbeats 8000000 in
set_option maxRecDepth 100000 in
theorem impl_PutFences.calls (k : Nat) (a0_0 : Int) (A0_1 : Option Addr) (c0_1 : Nat) (l0_1 : List (List (S50))) (A1 : Option Addr) (c1 : Nat) (l1 : List (S44)) (r1 : Int) (r2 : List (List (S50))) (r3 : Bool) (w : World) (hr0_1 : Kd.C (Kd.slice 50 k50) w A0_1 l0_1.length l0_1) (hc0_1 : l0_1.length ≤ c0_1) (hr1 : Kd.C k44 w A1 l1.length l1) (hc1 : l1.length ≤ c1) (h : impl_PutFences.f k a0_0 l0_1 l1 = some (r1, r2, r3)) :
  Calls Try.prog 7 #[.agg #[.int .i64 a0_0, .slice A0_1 l0_1.length c0_1], .slice A1 l1.length c1] w fun e w' => ∃ v1_ : Value, e = .returned (.tuple #[.agg #[.int .i64 r1, v1_], .bool r3]) ∧ Kd.S (Kd.slice 50 k50) 46 w' w.heap.size (fun _ => True) v1_ r2 ∧ Below w.heap.size w w' := by
 have hu26 := Try.underlying26
 have hu44 := Try.underlying44
 have HR0_1 := am_ hr0_1
 have HC0_1 := am_ hc0_1
 clear hr0_1 hc0_1
 have HR1 := am_ hr1
 have HC1 := am_ hc1
 clear hr1 hc1
 have HB := am_ (Below.refl w.heap.size w)
 have H : ((impl_ProgOk.f a0_0 l0_1).bind fun t3 => (if t3 = true then (impl_PutFences.l0 k l1 l1 (l1.length : Int) 0 a0_0 l0_1) else (some (0, ([] : List (List (S50))), false)))) = some (r1, r2, r3) := h
 clear h
 replace H := Option.bind_eq_some_iff.mp H
 obtain ⟨t3, A30, H⟩ := H
 replace H : (if t3 = true then (impl_PutFences.l0 k l1 l1 (l1.length : Int) 0 a0_0 l0_1) else (some (0, ([] : List (List (S50))), false))) = some (r1, r2, r3) := H
 have A3 := am_ A30
 clear A30
 by_cases c4 : t3 = true
 rotate_left
 ·replace c4 := Bool.eq_false_iff.mpr c4
  subst c4
  have H1 : (some (0, ([] : List (List (S50))), false)) = some (r1, r2, r3) := by rw [if_neg (show ¬ (false = true) by decide)] at H; exact H
  clear H
  have H := H1
  clear H1
  simp only [Option.some.injEq, Prod.mk.injEq] at H
  obtain ⟨rfl, rfl, rfl⟩ := H
  go_enter Try.func7, Try.ntmps7
  go_wp2_with (first | ((with_reducible refine gate_dst (N := 2) rfl ?_); refine box_event ?hg (N := 2) ?hd (cs := #[.int .i64 a0_0, .slice A0_1 l0_1.length c0_1]) (t := 26) ?hr ?_; (case hd => rfl); (case hg => rfl); (case hr => exact hrr_); intro gb1 hg w61 hbox hb; have n0_ := bs_ hb; have n1_ := am_ (hbox); have n2_ := ge_ (w := w) hg; have n3_ := ge_ (w := w) hg; clear HB; have HB := n0_; have BK1 := n1_; have GW1 := n2_; have GE1 := n3_; clear n0_ n1_ n2_ n3_; clear hb hbox hg) | ((with_reducible refine gate_dst (N := 4) rfl ?_); refine box_event ?hg (N := 4) ?hd (cs := #[.int .i64 0, .slice none 0 0]) (t := 26) ?hr ?_; (case hd => rfl); (case hg => rfl); (case hr => exact hrr_); intro gb2 hg w62 hbox hb; have n0_ := bb_ BK1.out hb; have n1_ := bs_ hb; have n2_ := am_ (hbox); have n3_ := ge_ (w := w) hg; have n4_ := ge_ (w := w) hg; have n5_ := nl_ BK1.out hg; have n6_ := nr_ BK1.out hg; clear BK1; clear HB; have BK1 := n0_; have HB := n1_; have BK2 := n2_; have GW2 := n3_; have GE2 := n4_; have NB1_2 := n5_; have NB2_1 := n6_; clear n0_ n1_ n2_ n3_ n4_ n5_ n6_; clear hb hbox hg; have hnb63 := NB1_2.out; have hnc63 := NB2_1.out; obtain ⟨hcz64_0, hcz64_1, hfz64_0, hfz64_1⟩ := bc2_ BK1.out) | ((with_reducible refine gate_callee (f := 20) rfl ?_); refine goesL_ (some 9) rfl rfl Try.func20 kr_ rfl #[.agg #[.int .i64 a0_0, .slice A0_1 l0_1.length c0_1]] rfl ar_ ?_; (with_reducible refine (impl_ProgOk.calls a0_0 _ _ l0_1 false _ ?side1 ?side2 A3.out).mono ?_); (case side1 => exact cb_); (case side2 => exact HC0_1.out); rintro e w65 ⟨rfl, hb⟩; refine ⟨_, rfl, ?_⟩; have n0_ := bb_ BK1.out hb; have n1_ := bb_ BK2.out hb; have n2_ := bs_ hb; clear BK1; clear BK2; clear HB; have BK1 := n0_; have BK2 := n1_; have HB := n2_; clear n0_ n1_ n2_; (try clear hb); (try clear hb2); (try clear hk); (try clear hi); obtain ⟨hcz66_0, hcz66_1, hfz66_0, hfz66_1⟩ := bc2_ BK2.out))
  refine bodyPost_ret (results_ct rfl _ _ gb2 26 #[.int .i64 0, .slice none 0 0] (0, 0) _ rfl (by (with_reducible repeat (first | refine blk_drewN ?_ _ | refine blk_drew ?_ | refine blk_alloc ?_ _)); refine blk_put (cs := #[.int .i64 0, .slice none 0 0]) ?_ 1 _ rfl; (with_reducible repeat (first | refine blk_drewN ?_ _ | refine blk_drew ?_ | refine blk_alloc ?_ _)); refine blk_put (cs := #[.int .i64 0, .slice none 0 0]) ?_ 0 _ rfl; exact bk_) Try.underlying26 rfl kr_) rfl ?_
  exact ⟨_, rr_, by first | exact Kd.S_nil _ _ _ _ _ | exact Kd.N_nil _ _ _ _ _ | exact Kd.V_nil _ _ _ _ _ | exact Kd.Q_nil _ _ _ _ _ | exact Kd.R_nil _ _ _ _ _, bw_⟩
 subst c4
 have H1 : (impl_PutFences.l0 k l1 l1 (l1.length : Int) 0 a0_0 l0_1) = some (r1, r2, r3) := by rw [if_pos rfl] at H; exact H
 clear H
 have H := H1
 clear H1
 have H' := am_ H
 clear H
 go_enter Try.func7, Try.ntmps7
 go_wp2_with (first | ((with_reducible refine gate_dst (N := 2) rfl ?_); refine box_event ?hg (N := 2) ?hd (cs := #[.int .i64 a0_0, .slice A0_1 l0_1.length c0_1]) (t := 26) ?hr ?_; (case hd => rfl); (case hg => rfl); (case hr => exact hrr_); intro gb1 hg w5 hbox hb; have n0_ := bs_ hb; have n1_ := am_ (hbox); have n2_ := ge_ (w := w) hg; have n3_ := ge_ (w := w) hg; clear HB; have HB := n0_; have BK1 := n1_; have GW1 := n2_; have GE1 := n3_; clear n0_ n1_ n2_ n3_; clear hb hbox hg) | ((with_reducible refine gate_dst (N := 4) rfl ?_); refine box_event ?hg (N := 4) ?hd (cs := #[.int .i64 0, .slice none 0 0]) (t := 26) ?hr ?_; (case hd => rfl); (case hg => rfl); (case hr => exact hrr_); intro gb2 hg w6 hbox hb; have n0_ := bb_ BK1.out hb; have n1_ := bs_ hb; have n2_ := am_ (hbox); have n3_ := ge_ (w := w) hg; have n4_ := ge_ (w := w) hg; have n5_ := nl_ BK1.out hg; have n6_ := nr_ BK1.out hg; clear BK1; clear HB; have BK1 := n0_; have HB := n1_; have BK2 := n2_; have GW2 := n3_; have GE2 := n4_; have NB1_2 := n5_; have NB2_1 := n6_; clear n0_ n1_ n2_ n3_ n4_ n5_ n6_; clear hb hbox hg; have hnb7 := NB1_2.out; have hnc7 := NB2_1.out; obtain ⟨hcz8_0, hcz8_1, hfz8_0, hfz8_1⟩ := bc2_ BK1.out) | ((with_reducible refine gate_callee (f := 20) rfl ?_); refine goesL_ (some 9) rfl rfl Try.func20 kr_ rfl #[.agg #[.int .i64 a0_0, .slice A0_1 l0_1.length c0_1]] rfl ar_ ?_; (with_reducible refine (impl_ProgOk.calls a0_0 _ _ l0_1 true _ ?side1 ?side2 A3.out).mono ?_); (case side1 => exact cb_); (case side2 => exact HC0_1.out); rintro e w9 ⟨rfl, hb⟩; refine ⟨_, rfl, ?_⟩; have n0_ := bb_ BK1.out hb; have n1_ := bb_ BK2.out hb; have n2_ := bs_ hb; clear BK1; clear BK2; clear HB; have BK1 := n0_; have BK2 := n1_; have HB := n2_; clear n0_ n1_ n2_; (try clear hb); (try clear hb2); (try clear hk); (try clear hi)))
 go_loopg [14] k (fun kq v14 w' => ∃ (x14_1 : Int) (x3000_1 : Int), v14 = .int .i64 x14_1 ∧ Aside0 (impl_PutFences.l0 kq l1 l1 (l1.length : Int) x14_1 a0_0 l0_1 = some (r1, r2, r3)) ∧ Aside0 (kq ≤ k) ∧ Aside0 (w'.heap[gb1]? = some (.cells #[.int .i64 a0_0, (.slice A0_1 l0_1.length c0_1)] 26 (0, 0))) ∧ Aside0 (w'.heap[gb2]? = some (.cells #[.int .i64 x3000_1, (.slice none 0 0)] 26 (0, 0))) ∧ Aside0 (Below w.heap.size w w'))
 case atStart => exact ⟨(0), (0), sd_, H', ⟨Nat.le_refl _⟩, ⟨bk_⟩, ⟨bk_⟩, ⟨bw_⟩⟩
 case round =>
  clear H'
  try clear c1
  try clear c4
  try clear hcz8_0 hcz8_1
  try clear hfz8_0 hfz8_1
  obtain ⟨x14_1, x3000_1, rfl, HA, HK1, BK1, BK2, HB⟩ := hrel
  cases gk with
  | zero => exact absurd HA.out (by simp [impl_PutFences.l0])
  | succ k1 =>
   have H := HA.out
   clear HA
   simp only [impl_PutFences.l0] at H
   by_cases c10 : x14_1 < (l1.length : Int)
   rotate_left
   ·rw [if_neg c10] at H
    have c10b0 : decide (x14_1 < (l1.length : Int)) = false := decide_eq_false c10
    clear c10
    replace H := Option.bind_eq_some_iff.mp H
    obtain ⟨⟨t4, t5, t8⟩, A550, H⟩ := H
    replace H : (some (t4, t5, t8)) = some (r1, r2, r3) := H
    have A55 := am_ A550
    clear A550
    simp only [Option.some.injEq, Prod.mk.injEq] at H
    obtain ⟨rfl, rfl, rfl⟩ := H
    have hnb56 := NB1_2.out
    have hnc56 := NB2_1.out
    obtain ⟨hcz57_0, hcz57_1, hfz57_0, hfz57_1⟩ := bc2_ BK1.out
    go_wp2_with (first | ((with_reducible refine gate_callee (f := 23) rfl ?_); refine goesL_ (some 41) rfl rfl Try.func23 kr_ rfl #[.agg #[.int .i64 a0_0, .slice A0_1 l0_1.length c0_1], .slice A1 l1.length c1] rfl ar_ ?_; (with_reducible refine (impl_putFences.calls k1 a0_0 _ _ l0_1 _ _ l1 t4 t5 t8 _ ?side1 ?side2 ?side3 ?side4 A55.out).mono ?_); (case side1 => exact cb_); (case side2 => exact HC0_1.out); (case side3 => exact cb_); (case side4 => exact HC1.out); rintro e w58 ⟨v6, rfl, ho0, hb⟩; refine ⟨_, rfl, ?_⟩; have n0_ := am_ (Kd.S_lower ho0 (below_size bw_)); have n1_ := bb_ BK1.out hb; have n2_ := bb_ BK2.out hb; have n3_ := bs_ hb; clear BK1; clear BK2; clear HB; have HO7 := n0_; have BK1 := n1_; have BK2 := n2_; have HB := n3_; clear n0_ n1_ n2_ n3_; (try clear hb); (try clear hb2); (try clear hk); (try clear hi); (try clear ho0); obtain ⟨hcz59_0, hcz59_1, hfz59_0, hfz59_1⟩ := bc2_ BK2.out; obtain ⟨Ao60, co60, eo60⟩ := Kd.S_slice HO7.out; subst eo60))
    refine bodyPost_ret (results_ct rfl _ _ gb2 26 #[.int .i64 t4, .slice Ao60 t5.length co60] (0, 0) _ rfl (by (with_reducible repeat (first | refine blk_drewN ?_ _ | refine blk_drew ?_ | refine blk_alloc ?_ _)); refine blk_put (cs := #[.int .i64 t4, .slice none 0 0]) ?_ 1 _ rfl; (with_reducible repeat (first | refine blk_drewN ?_ _ | refine blk_drew ?_ | refine blk_alloc ?_ _)); refine blk_put (cs := #[.int .i64 x3000_1, .slice none 0 0]) ?_ 0 _ rfl; exact bk_) Try.underlying26 rfl kr_) rfl ?_
    exact ⟨_, rr_, by (with_reducible repeat (first | apply Kd.S_alloc | apply Kd.S_drewN | apply Kd.S_drew)); exact Kd.S_mono (Kd.S_far (p := ⟨gb2, 1, none⟩) (Kd.S_far (p := ⟨gb2, 0, none⟩) (Kd.S_types HO7.out BK2.out (by decide)) (fun _ hk => hk.2) (.int .i64 t4)) (fun _ hk => hk.2) (.slice Ao60 t5.length co60)) (fun _ hk => trivial), bw_⟩
   rw [if_pos c10] at H
   have c10b0 : decide (x14_1 < (l1.length : Int)) = true := decide_eq_true c10
   clear c10
   by_cases c11 : 0 ≤ x14_1
   rotate_left
   ·rw [if_neg c11] at H
    exact absurd H (by simp)
   rw [if_pos c11] at H
   have c11b0 : decide (0 ≤ x14_1) = true := decide_eq_true c11
   clear c11
   by_cases c12 : x14_1 < (l1.length : Int)
   rotate_left
   ·rw [if_neg c12] at H
    exact absurd H (by simp)
   rw [if_pos c12] at H
   have c12b0 : decide (x14_1 < (l1.length : Int)) = true := decide_eq_true c12
   clear c12
   replace H := Option.bind_eq_some_iff.mp H
   obtain ⟨t11, A130, H⟩ := H
   replace H : (if t11 = true then (if x14_1 > 0 then (if 0 ≤ (wrap64 (x14_1 - 1)) then (if (wrap64 (x14_1 - 1)) < (l1.length : Int) then ((impl_compareSpots.f k1 ((rd_T44 l1 (wrap64 (x14_1 - 1))).f0) ((rd_T44 l1 (wrap64 (x14_1 - 1))).f1) ((rd_T44 l1 x14_1).f0) ((rd_T44 l1 x14_1).f1)).bind fun t13 => (if t13 ≥ 0 then (some (0, ([] : List (List (S50))), false)) else (impl_PutFences.l0 k1 l1 l1 (l1.length : Int) (wrap64 (x14_1 + 1)) a0_0 l0_1))) else (none)) else (none)) else (impl_PutFences.l0 k1 l1 l1 (l1.length : Int) (wrap64 (x14_1 + 1)) a0_0 l0_1)) else (some (0, ([] : List (List (S50))), false))) = some (r1, r2, r3) := H
   have A13 := am_ A130
   clear A130
   by_cases c14 : t11 = true
   rotate_left
   ·replace c14 := Bool.eq_false_iff.mpr c14
    subst c14
    have H1 : (some (0, ([] : List (List (S50))), false)) = some (r1, r2, r3) := by rw [if_neg (show ¬ (false = true) by decide)] at H; exact H
    clear H
    have H := H1
    clear H1
    simp only [Option.some.injEq, Prod.mk.injEq] at H
    obtain ⟨rfl, rfl, rfl⟩ := H
    have p9 : 0 ≤ (x14_1 : Int) := od_
    have q9 : x14_1 < (l1.length : Int) := od_
    obtain ⟨ad9, e9, hx9_0, hx9_1⟩ := at_T44 HR1.out x14_1 p9 q9
    cases e9
    replace hx9_0 := (HB.out.cell (World.block_lt_of_cell? w _ hx9_0)).trans hx9_0
    replace hx9_1 := (HB.out.cell (World.block_lt_of_cell? w _ hx9_1)).trans hx9_1
    replace p9 := eq_true p9
    replace q9 := eq_true q9
    try go_wp2_with (first | ((with_reducible refine gate_dst (N := 7) rfl ?_); refine box_event ?hg (N := 7) ?hd (cs := #[.int .i64 0, .int .i64 0]) (t := 44) ?hr ?_; (case hd => rfl); (case hg => rfl); (case hr => exact hrr_); intro gb10 hg w46 hbox hb; have n0_ := bb_ BK1.out hb; have n1_ := bb_ BK2.out hb; have n2_ := bs_ hb; have n3_ := am_ (hbox); have n4_ := ge_ (w := w) hg; have n5_ := ge_ (w := w) hg; have n6_ := nl_ BK1.out hg; have n7_ := nr_ BK1.out hg; have n8_ := nl_ BK2.out hg; have n9_ := nr_ BK2.out hg; clear BK1; clear BK2; clear HB; have BK1 := n0_; have BK2 := n1_; have HB := n2_; have BK10 := n3_; have GW10 := n4_; have GE10 := n5_; have NB1_10 := n6_; have NB10_1 := n7_; have NB2_10 := n8_; have NB10_2 := n9_; clear n0_ n1_ n2_ n3_ n4_ n5_ n6_ n7_ n8_ n9_; clear hb hbox hg; have hnb47 := NB10_1.out; have hnc47 := NB1_10.out; have hnb48 := NB10_2.out; have hnc48 := NB2_10.out; obtain ⟨hcz49_0, hcz49_1, hfz49_0, hfz49_1⟩ := bc2_ BK10.out))
    have n0_ : Aside0 (((w46.setCell ⟨gb10, 0, none⟩ (.int .i64 ((rd_T44 l1 x14_1).f0))).setCell ⟨gb10, 1, none⟩ (.int .i64 ((rd_T44 l1 x14_1).f1))).heap[gb1]? = some (.cells #[.int .i64 a0_0, .slice A0_1 l0_1.length c0_1] 26 (0, 0))) := ⟨by (with_reducible repeat (first | refine blk_drewN ?_ _ | refine blk_drew ?_ | refine blk_alloc ?_ _)); refine blk_far ?_ NB1_10.out _; (with_reducible repeat (first | refine blk_drewN ?_ _ | refine blk_drew ?_ | refine blk_alloc ?_ _)); refine blk_far ?_ NB1_10.out _; exact bk_⟩
    have n1_ : Aside0 (((w46.setCell ⟨gb10, 0, none⟩ (.int .i64 ((rd_T44 l1 x14_1).f0))).setCell ⟨gb10, 1, none⟩ (.int .i64 ((rd_T44 l1 x14_1).f1))).heap[gb2]? = some (.cells #[.int .i64 x3000_1, .slice none 0 0] 26 (0, 0))) := ⟨by (with_reducible repeat (first | refine blk_drewN ?_ _ | refine blk_drew ?_ | refine blk_alloc ?_ _)); refine blk_far ?_ NB2_10.out _; (with_reducible repeat (first | refine blk_drewN ?_ _ | refine blk_drew ?_ | refine blk_alloc ?_ _)); refine blk_far ?_ NB2_10.out _; exact bk_⟩
    have n2_ : Aside0 (((w46.setCell ⟨gb10, 0, none⟩ (.int .i64 ((rd_T44 l1 x14_1).f0))).setCell ⟨gb10, 1, none⟩ (.int .i64 ((rd_T44 l1 x14_1).f1))).heap[gb10]? = some (.cells #[.int .i64 ((rd_T44 l1 x14_1).f0), .int .i64 ((rd_T44 l1 x14_1).f1)] 44 (0, 0))) := ⟨by (with_reducible repeat (first | refine blk_drewN ?_ _ | refine blk_drew ?_ | refine blk_alloc ?_ _)); refine blk_put (cs := #[.int .i64 ((rd_T44 l1 x14_1).f0), .int .i64 0]) ?_ 1 _ rfl; (with_reducible repeat (first | refine blk_drewN ?_ _ | refine blk_drew ?_ | refine blk_alloc ?_ _)); refine blk_put (cs := #[.int .i64 0, .int .i64 0]) ?_ 0 _ rfl; exact bk_⟩
    have n3_ : Aside0 (Below w.heap.size w ((w46.setCell ⟨gb10, 0, none⟩ (.int .i64 ((rd_T44 l1 x14_1).f0))).setCell ⟨gb10, 1, none⟩ (.int .i64 ((rd_T44 l1 x14_1).f1)))) := ⟨bw_⟩
    (try clear BK1)
    (try clear BK2)
    (try clear BK10)
    (try clear HB)
    generalize ((w46.setCell ⟨gb10, 0, none⟩ (.int .i64 ((rd_T44 l1 x14_1).f0))).setCell ⟨gb10, 1, none⟩ (.int .i64 ((rd_T44 l1 x14_1).f1))) = w50 at n0_ n1_ n2_ n3_ ⊢
    have BK1 := n0_
    have BK2 := n1_
    have BK10 := n2_
    have HB := n3_
    clear n0_ n1_ n2_ n3_
    have n0_ := am_ (blk_drew BK1.out)
    have n1_ := am_ (blk_drew BK2.out)
    have n2_ := am_ (blk_drew BK10.out)
    have n3_ := am_ (below_drew1 HB.out)
    clear BK1
    clear BK2
    clear BK10
    clear HB
    have BK1 := n0_
    have BK2 := n1_
    have BK10 := n2_
    have HB := n3_
    clear n0_ n1_ n2_ n3_
    refine start_ (n := 18) (S := fun w' => w'.cell? ⟨gb10, 0, none⟩ = some (.int .i64 ((rd_T44 l1 x14_1).f0)) ∧ w'.cell? ⟨gb10, 1, none⟩ = some (.int .i64 ((rd_T44 l1 x14_1).f1)) ∧ w'.cell? ⟨gb1, 0, none⟩ = some (.int .i64 a0_0) ∧ w'.cell? ⟨gb1, 1, none⟩ = some (.slice A0_1 l0_1.length c0_1)) (ds := []) (bm_ 18 0) kr_ rfl rfl ⟨(blk_cell BK10.out 0).trans rfl, (blk_cell BK10.out 1).trans rfl, (blk_cell BK1.out 0).trans rfl, (blk_cell BK1.out 1).trans rfl⟩ (fun hHeld => ?_); refine with_tabW impl_PutFences.tab6 impl_PutFences.bits6 (fun HT_ HW_ => ?_)
    generalize w50.drew = w51 at BK1 BK2 BK10 HB hHeld ⊢
    refine take_ (i := 0) (N := some 19) (v := ?_) (a' := ?_) (bm_ 18 1) rfl rfl (take_ofW HT_.out HW_.out kr_) (fun _ _ _ h => h) (Or.inl ⟨by rfl, ?_⟩) hHeld ?_ ?_
    rotate_left
    ·rintro w' ⟨s0, s1, s2, s3⟩
     go_simp
     with_reducible rfl
    rotate_left
    ·exact pu_
    refine take_ (i := 1) (N := some 20) (v := ?_) (a' := ?_) (bm_ 18 3) rfl rfl (take_ofW HT_.out HW_.out kr_) (fun _ _ _ h => h) (Or.inl ⟨by rfl, ?_⟩) hHeld ?_ ?_
    rotate_left
    ·rintro w' ⟨s0, s1, s2, s3⟩
     go_simp
     with_reducible rfl
    rotate_left
    ·exact pu_
    refine one_ (i := 2) (N := some 21) (bm_ 18 7) rfl rfl (one_of HT_.out kr_) (by decide) (fun K hK => ?_)
    refine goes_ Try.func21 kr_ rfl #[.agg #[.int .i64 ((rd_T44 l1 x14_1).f0), .int .i64 ((rd_T44 l1 x14_1).f1)], .agg #[.int .i64 a0_0, .slice A0_1 l0_1.length c0_1]] (by rfl) rfl rfl ar_ ?_
    with_reducible refine (impl_SpotOk.calls ((rd_T44 l1 x14_1).f0) ((rd_T44 l1 x14_1).f1) a0_0 _ _ l0_1 false _ ?side1 ?side2 A13.out).mono ?_
    (case side1 => exact cb_)
    (case side2 => exact HC0_1.out)
    rintro e w52 ⟨rfl, hb⟩
    refine ⟨_, rfl, ?_⟩
    have n0_ := bb_ BK1.out hb
    have n1_ := bb_ BK2.out hb
    have n2_ := bb_ BK10.out hb
    have n3_ := bs_ hb
    clear BK1
    clear BK2
    clear BK10
    clear HB
    have BK1 := n0_
    have BK2 := n1_
    have BK10 := n2_
    have HB := n3_
    clear n0_ n1_ n2_ n3_
    (try clear hb)
    (try clear hb2)
    (try clear hk)
    (try clear hi)
    refine hK.out _ _ ⟨(blk_cell BK10.out 0).trans rfl, (blk_cell BK10.out 1).trans rfl, (blk_cell BK1.out 0).trans rfl, (blk_cell BK1.out 1).trans rfl⟩ (fun hHeld => ?_)
    clear hK K
    refine norm_ (a' := ?_) ?_ ?_
    rotate_left
    ·show Act.put _ (some 21) _ = _
     simp only [Act.put, List.setIfInBounds_toArray, List.set_cons_zero, List.set_cons_succ, i64_w, i32_w]
     rfl
    refine pure_ (i := 3) (N := some 22) (bm_ 18 15) rfl rfl (any_of HT_.out kr_) (fun _ _ _ h => h) (Or.inl ⟨rfl, yi_⟩) pu_ ?_
    refine pure_ (i := 4) (N := some 23) (bm_ 18 31) rfl rfl (any_of HT_.out kr_) (fun _ _ _ h => h) (Or.inl ⟨rfl, yi_⟩) pu_ ?_
    refine pure_ (i := 5) (N := some 24) (v := undef) (a' := ?_) (bm_ 18 63) rfl rfl (any_of HT_.out kr_) (fun _ _ _ h => h) (Or.inr ⟨by rfl, rfl⟩) ?_ ?_
    rotate_left
    ·exact pu_
    refine pure_ (i := 6) (N := some 25) (v := undef) (a' := ?_) (bm_ 18 127) rfl rfl (any_of HT_.out kr_) (fun _ _ _ h => h) (Or.inr ⟨by rfl, rfl⟩) ?_ ?_
    rotate_left
    ·exact pu_
    refine pure_ (i := 7) (N := some 26) (v := undef) (a' := ?_) (bm_ 18 255) rfl rfl (any_of HT_.out kr_) (fun _ _ _ h => h) (Or.inr ⟨by rfl, rfl⟩) ?_ ?_
    rotate_left
    ·exact pu_
    refine pure_ (i := 8) (N := some 27) (v := undef) (a' := ?_) (bm_ 18 511) rfl rfl (any_of HT_.out kr_) (fun _ _ _ h => h) (Or.inr ⟨by rfl, rfl⟩) ?_ ?_
    rotate_left
    ·exact pu_
    refine pure_ (i := 9) (N := some 28) (v := undef) (a' := ?_) (bm_ 18 1023) rfl rfl (any_of HT_.out kr_) (fun _ _ _ h => h) (Or.inr ⟨by rfl, rfl⟩) ?_ ?_
    rotate_left
    ·exact pu_
    refine pure_ (i := 10) (N := some 29) (v := undef) (a' := ?_) (bm_ 18 2047) rfl rfl (any_of HT_.out kr_) (fun _ _ _ h => h) (Or.inr ⟨by rfl, rfl⟩) ?_ ?_
    rotate_left
    ·exact pu_
    refine pure_ (i := 11) (N := some 30) (v := undef) (a' := ?_) (bm_ 18 4095) rfl rfl (any_of HT_.out kr_) (fun _ _ _ h => h) (Or.inr ⟨by rfl, rfl⟩) ?_ ?_
    rotate_left
    ·exact pu_
    refine pure_ (i := 12) (N := some 31) (v := undef) (a' := ?_) (bm_ 18 8191) rfl rfl (any_of HT_.out kr_) (fun _ _ _ h => h) (Or.inr ⟨by rfl, rfl⟩) ?_ ?_
    rotate_left
    ·exact pu_
    refine pure_ (i := 13) (N := some 32) (v := undef) (a' := ?_) (bm_ 18 16383) rfl rfl (any_of HT_.out kr_) (fun _ _ _ h => h) (Or.inr ⟨by rfl, rfl⟩) ?_ ?_
    rotate_left
    ·exact pu_
    refine pure_ (i := 14) (N := some 33) (v := undef) (a' := ?_) (bm_ 18 32767) rfl rfl (any_of HT_.out kr_) (fun _ _ _ h => h) (Or.inr ⟨by rfl, rfl⟩) ?_ ?_
    rotate_left
    ·exact pu_
    refine pure_ (i := 15) (N := some 34) (v := undef) (a' := ?_) (bm_ 18 65535) rfl rfl (any_of HT_.out kr_) (fun _ _ _ h => h) (Or.inr ⟨by rfl, rfl⟩) ?_ ?_
    rotate_left
    ·exact pu_
    refine pure_ (i := 16) (N := some 35) (v := undef) (a' := ?_) (bm_ 18 131071) rfl rfl (any_of HT_.out kr_) (fun _ _ _ h => h) (Or.inr ⟨by rfl, rfl⟩) ?_ ?_
    rotate_left
    ·exact pu_
    refine pure_ (i := 17) (N := some 36) (bm_ 18 262143) rfl rfl (any_of HT_.out kr_) (fun _ _ _ h => h) (Or.inl ⟨rfl, yi_⟩) pu_ ?_
    refine done_ (done_of HT_.out kr_) ?_
    have hnb53 := NB2_1.out
    have hnc53 := NB1_2.out
    obtain ⟨hcz54_0, hcz54_1, hfz54_0, hfz54_1⟩ := bc2_ BK2.out
    try go_wp2
    refine bodyPost_ret (results_ct rfl _ _ gb2 26 #[.int .i64 0, .slice none 0 0] (0, 0) _ rfl (by (with_reducible repeat (first | refine blk_drewN ?_ _ | refine blk_drew ?_ | refine blk_alloc ?_ _)); refine blk_put (cs := #[.int .i64 0, .slice none 0 0]) ?_ 1 _ rfl; (with_reducible repeat (first | refine blk_drewN ?_ _ | refine blk_drew ?_ | refine blk_alloc ?_ _)); refine blk_put (cs := #[.int .i64 x3000_1, .slice none 0 0]) ?_ 0 _ rfl; exact bk_) Try.underlying26 rfl kr_) rfl ?_
    exact ⟨_, rr_, by first | exact Kd.S_nil _ _ _ _ _ | exact Kd.N_nil _ _ _ _ _ | exact Kd.V_nil _ _ _ _ _ | exact Kd.Q_nil _ _ _ _ _ | exact Kd.R_nil _ _ _ _ _, bw_⟩
   subst c14
   have H1 : (if x14_1 > 0 then (if 0 ≤ (wrap64 (x14_1 - 1)) then (if (wrap64 (x14_1 - 1)) < (l1.length : Int) then ((impl_compareSpots.f k1 ((rd_T44 l1 (wrap64 (x14_1 - 1))).f0) ((rd_T44 l1 (wrap64 (x14_1 - 1))).f1) ((rd_T44 l1 x14_1).f0) ((rd_T44 l1 x14_1).f1)).bind fun t13 => (if t13 ≥ 0 then (some (0, ([] : List (List (S50))), false)) else (impl_PutFences.l0 k1 l1 l1 (l1.length : Int) (wrap64 (x14_1 + 1)) a0_0 l0_1))) else (none)) else (none)) else (impl_PutFences.l0 k1 l1 l1 (l1.length : Int) (wrap64 (x14_1 + 1)) a0_0 l0_1)) = some (r1, r2, r3) := by rw [if_pos rfl] at H; exact H
   clear H
   have H := H1
   clear H1
   by_cases c15 : x14_1 > 0
   rotate_left
   ·rw [if_neg c15] at H
    have c15b0 : decide (0 < x14_1) = false := decide_eq_false c15
    clear c15
    have H' := am_ H
    clear H
    have p9 : 0 ≤ (x14_1 : Int) := od_
    have q9 : x14_1 < (l1.length : Int) := od_
    obtain ⟨ad9, e9, hx9_0, hx9_1⟩ := at_T44 HR1.out x14_1 p9 q9
    cases e9
    replace hx9_0 := (HB.out.cell (World.block_lt_of_cell? w _ hx9_0)).trans hx9_0
    replace hx9_1 := (HB.out.cell (World.block_lt_of_cell? w _ hx9_1)).trans hx9_1
    replace p9 := eq_true p9
    replace q9 := eq_true q9
    try go_wp2_with (first | ((with_reducible refine gate_dst (N := 7) rfl ?_); refine box_event ?hg (N := 7) ?hd (cs := #[.int .i64 0, .int .i64 0]) (t := 44) ?hr ?_; (case hd => rfl); (case hg => rfl); (case hr => exact hrr_); intro gb10 hg w39 hbox hb; have n0_ := bb_ BK1.out hb; have n1_ := bb_ BK2.out hb; have n2_ := bs_ hb; have n3_ := am_ (hbox); have n4_ := ge_ (w := w) hg; have n5_ := ge_ (w := w) hg; have n6_ := nl_ BK1.out hg; have n7_ := nr_ BK1.out hg; have n8_ := nl_ BK2.out hg; have n9_ := nr_ BK2.out hg; clear BK1; clear BK2; clear HB; have BK1 := n0_; have BK2 := n1_; have HB := n2_; have BK10 := n3_; have GW10 := n4_; have GE10 := n5_; have NB1_10 := n6_; have NB10_1 := n7_; have NB2_10 := n8_; have NB10_2 := n9_; clear n0_ n1_ n2_ n3_ n4_ n5_ n6_ n7_ n8_ n9_; clear hb hbox hg; have hnb40 := NB10_1.out; have hnc40 := NB1_10.out; have hnb41 := NB10_2.out; have hnc41 := NB2_10.out; obtain ⟨hcz42_0, hcz42_1, hfz42_0, hfz42_1⟩ := bc2_ BK10.out))
    have n0_ : Aside0 (((w39.setCell ⟨gb10, 0, none⟩ (.int .i64 ((rd_T44 l1 x14_1).f0))).setCell ⟨gb10, 1, none⟩ (.int .i64 ((rd_T44 l1 x14_1).f1))).heap[gb1]? = some (.cells #[.int .i64 a0_0, .slice A0_1 l0_1.length c0_1] 26 (0, 0))) := ⟨by (with_reducible repeat (first | refine blk_drewN ?_ _ | refine blk_drew ?_ | refine blk_alloc ?_ _)); refine blk_far ?_ NB1_10.out _; (with_reducible repeat (first | refine blk_drewN ?_ _ | refine blk_drew ?_ | refine blk_alloc ?_ _)); refine blk_far ?_ NB1_10.out _; exact bk_⟩
    have n1_ : Aside0 (((w39.setCell ⟨gb10, 0, none⟩ (.int .i64 ((rd_T44 l1 x14_1).f0))).setCell ⟨gb10, 1, none⟩ (.int .i64 ((rd_T44 l1 x14_1).f1))).heap[gb2]? = some (.cells #[.int .i64 x3000_1, .slice none 0 0] 26 (0, 0))) := ⟨by (with_reducible repeat (first | refine blk_drewN ?_ _ | refine blk_drew ?_ | refine blk_alloc ?_ _)); refine blk_far ?_ NB2_10.out _; (with_reducible repeat (first | refine blk_drewN ?_ _ | refine blk_drew ?_ | refine blk_alloc ?_ _)); refine blk_far ?_ NB2_10.out _; exact bk_⟩
    have n2_ : Aside0 (((w39.setCell ⟨gb10, 0, none⟩ (.int .i64 ((rd_T44 l1 x14_1).f0))).setCell ⟨gb10, 1, none⟩ (.int .i64 ((rd_T44 l1 x14_1).f1))).heap[gb10]? = some (.cells #[.int .i64 ((rd_T44 l1 x14_1).f0), .int .i64 ((rd_T44 l1 x14_1).f1)] 44 (0, 0))) := ⟨by (with_reducible repeat (first | refine blk_drewN ?_ _ | refine blk_drew ?_ | refine blk_alloc ?_ _)); refine blk_put (cs := #[.int .i64 ((rd_T44 l1 x14_1).f0), .int .i64 0]) ?_ 1 _ rfl; (with_reducible repeat (first | refine blk_drewN ?_ _ | refine blk_drew ?_ | refine blk_alloc ?_ _)); refine blk_put (cs := #[.int .i64 0, .int .i64 0]) ?_ 0 _ rfl; exact bk_⟩
    have n3_ : Aside0 (Below w.heap.size w ((w39.setCell ⟨gb10, 0, none⟩ (.int .i64 ((rd_T44 l1 x14_1).f0))).setCell ⟨gb10, 1, none⟩ (.int .i64 ((rd_T44 l1 x14_1).f1)))) := ⟨bw_⟩
    (try clear BK1)
    (try clear BK2)
    (try clear BK10)
    (try clear HB)
    generalize ((w39.setCell ⟨gb10, 0, none⟩ (.int .i64 ((rd_T44 l1 x14_1).f0))).setCell ⟨gb10, 1, none⟩ (.int .i64 ((rd_T44 l1 x14_1).f1))) = w43 at n0_ n1_ n2_ n3_ ⊢
    have BK1 := n0_
    have BK2 := n1_
    have BK10 := n2_
    have HB := n3_
    clear n0_ n1_ n2_ n3_
    have n0_ := am_ (blk_drew BK1.out)
    have n1_ := am_ (blk_drew BK2.out)
    have n2_ := am_ (blk_drew BK10.out)
    have n3_ := am_ (below_drew1 HB.out)
    clear BK1
    clear BK2
    clear BK10
    clear HB
    have BK1 := n0_
    have BK2 := n1_
    have BK10 := n2_
    have HB := n3_
    clear n0_ n1_ n2_ n3_
    refine start_ (n := 18) (S := fun w' => w'.cell? ⟨gb10, 0, none⟩ = some (.int .i64 ((rd_T44 l1 x14_1).f0)) ∧ w'.cell? ⟨gb10, 1, none⟩ = some (.int .i64 ((rd_T44 l1 x14_1).f1)) ∧ w'.cell? ⟨gb1, 0, none⟩ = some (.int .i64 a0_0) ∧ w'.cell? ⟨gb1, 1, none⟩ = some (.slice A0_1 l0_1.length c0_1)) (ds := []) (bm_ 18 0) kr_ rfl rfl ⟨(blk_cell BK10.out 0).trans rfl, (blk_cell BK10.out 1).trans rfl, (blk_cell BK1.out 0).trans rfl, (blk_cell BK1.out 1).trans rfl⟩ (fun hHeld => ?_); refine with_tabW impl_PutFences.tab6 impl_PutFences.bits6 (fun HT_ HW_ => ?_)
    generalize w43.drew = w44 at BK1 BK2 BK10 HB hHeld ⊢
    refine take_ (i := 0) (N := some 19) (v := ?_) (a' := ?_) (bm_ 18 1) rfl rfl (take_ofW HT_.out HW_.out kr_) (fun _ _ _ h => h) (Or.inl ⟨by rfl, ?_⟩) hHeld ?_ ?_
    rotate_left
    ·rintro w' ⟨s0, s1, s2, s3⟩
     go_simp
     with_reducible rfl
    rotate_left
    ·exact pu_
    refine take_ (i := 1) (N := some 20) (v := ?_) (a' := ?_) (bm_ 18 3) rfl rfl (take_ofW HT_.out HW_.out kr_) (fun _ _ _ h => h) (Or.inl ⟨by rfl, ?_⟩) hHeld ?_ ?_
    rotate_left
    ·rintro w' ⟨s0, s1, s2, s3⟩
     go_simp
     with_reducible rfl
    rotate_left
    ·exact pu_
    refine one_ (i := 2) (N := some 21) (bm_ 18 7) rfl rfl (one_of HT_.out kr_) (by decide) (fun K hK => ?_)
    refine goes_ Try.func21 kr_ rfl #[.agg #[.int .i64 ((rd_T44 l1 x14_1).f0), .int .i64 ((rd_T44 l1 x14_1).f1)], .agg #[.int .i64 a0_0, .slice A0_1 l0_1.length c0_1]] (by rfl) rfl rfl ar_ ?_
    with_reducible refine (impl_SpotOk.calls ((rd_T44 l1 x14_1).f0) ((rd_T44 l1 x14_1).f1) a0_0 _ _ l0_1 true _ ?side1 ?side2 A13.out).mono ?_
    (case side1 => exact cb_)
    (case side2 => exact HC0_1.out)
    rintro e w45 ⟨rfl, hb⟩
    refine ⟨_, rfl, ?_⟩
    have n0_ := bb_ BK1.out hb
    have n1_ := bb_ BK2.out hb
    have n2_ := bb_ BK10.out hb
    have n3_ := bs_ hb
    clear BK1
    clear BK2
    clear BK10
    clear HB
    have BK1 := n0_
    have BK2 := n1_
    have BK10 := n2_
    have HB := n3_
    clear n0_ n1_ n2_ n3_
    (try clear hb)
    (try clear hb2)
    (try clear hk)
    (try clear hi)
    refine hK.out _ _ ⟨(blk_cell BK10.out 0).trans rfl, (blk_cell BK10.out 1).trans rfl, (blk_cell BK1.out 0).trans rfl, (blk_cell BK1.out 1).trans rfl⟩ (fun hHeld => ?_)
    clear hK K
    refine norm_ (a' := ?_) ?_ ?_
    rotate_left
    ·show Act.put _ (some 21) _ = _
     simp only [Act.put, List.setIfInBounds_toArray, List.set_cons_zero, List.set_cons_succ, i64_w, i32_w]
     rfl
    refine pure_ (i := 3) (N := some 22) (bm_ 18 15) rfl rfl (any_of HT_.out kr_) (fun _ _ _ h => h) (Or.inl ⟨rfl, yi_⟩) pu_ ?_
    refine pure_ (i := 4) (N := some 23) (bm_ 18 31) rfl rfl (any_of HT_.out kr_) (fun _ _ _ h => h) (Or.inl ⟨rfl, yi_⟩) pu_ ?_
    refine pure_ (i := 5) (N := some 24) (bm_ 18 63) rfl rfl (any_of HT_.out kr_) (fun _ _ _ h => h) (Or.inl ⟨rfl, yi_⟩) pu_ ?_
    refine pure_ (i := 6) (N := some 25) (bm_ 18 127) rfl rfl (any_of HT_.out kr_) (fun _ _ _ h => h) (Or.inl ⟨rfl, yi_⟩) pu_ ?_
    refine pure_ (i := 7) (N := some 26) (bm_ 18 255) rfl rfl (any_of HT_.out kr_) (fun _ _ _ h => h) (Or.inl ⟨rfl, yi_⟩) pu_ ?_
    refine pure_ (i := 8) (N := some 27) (v := undef) (a' := ?_) (bm_ 18 511) rfl rfl (any_of HT_.out kr_) (fun _ _ _ h => h) (Or.inr ⟨by rfl, rfl⟩) ?_ ?_
    rotate_left
    ·exact pu_
    refine pure_ (i := 9) (N := some 28) (v := undef) (a' := ?_) (bm_ 18 1023) rfl rfl (any_of HT_.out kr_) (fun _ _ _ h => h) (Or.inr ⟨by rfl, rfl⟩) ?_ ?_
    rotate_left
    ·exact pu_
    refine pure_ (i := 10) (N := some 29) (v := undef) (a' := ?_) (bm_ 18 2047) rfl rfl (any_of HT_.out kr_) (fun _ _ _ h => h) (Or.inr ⟨by rfl, rfl⟩) ?_ ?_
    rotate_left
    ·exact pu_
    refine pure_ (i := 11) (N := some 30) (v := undef) (a' := ?_) (bm_ 18 4095) rfl rfl (any_of HT_.out kr_) (fun _ _ _ h => h) (Or.inr ⟨by rfl, rfl⟩) ?_ ?_
    rotate_left
    ·exact pu_
    refine pure_ (i := 12) (N := some 31) (v := undef) (a' := ?_) (bm_ 18 8191) rfl rfl (any_of HT_.out kr_) (fun _ _ _ h => h) (Or.inr ⟨by rfl, rfl⟩) ?_ ?_
    rotate_left
    ·exact pu_
    refine pure_ (i := 13) (N := some 32) (v := undef) (a' := ?_) (bm_ 18 16383) rfl rfl (any_of HT_.out kr_) (fun _ _ _ h => h) (Or.inr ⟨by rfl, rfl⟩) ?_ ?_
    rotate_left
    ·exact pu_
    refine pure_ (i := 14) (N := some 33) (v := undef) (a' := ?_) (bm_ 18 32767) rfl rfl (any_of HT_.out kr_) (fun _ _ _ h => h) (Or.inr ⟨by rfl, rfl⟩) ?_ ?_
    rotate_left
    ·exact pu_
    refine pure_ (i := 15) (N := some 34) (v := undef) (a' := ?_) (bm_ 18 65535) rfl rfl (any_of HT_.out kr_) (fun _ _ _ h => h) (Or.inr ⟨by rfl, rfl⟩) ?_ ?_
    rotate_left
    ·exact pu_
    refine pure_ (i := 16) (N := some 35) (bm_ 18 131071) rfl rfl (any_of HT_.out kr_) (fun _ _ _ h => h) (Or.inl ⟨rfl, yi_⟩) pu_ ?_
    refine pure_ (i := 17) (N := some 36) (bm_ 18 262143) rfl rfl (any_of HT_.out kr_) (fun _ _ _ h => h) (Or.inl ⟨rfl, yi_⟩) pu_ ?_
    refine done_ (done_of HT_.out kr_) ?_
    try go_wp2
    go_roundg k1
    case measure => have := HK1.out; omega
    case rel => exact ⟨(wrap64 (x14_1 + 1)), (x3000_1), sd_, H', ⟨by have := HK1.out; omega⟩, ⟨bk_⟩, ⟨bk_⟩, ⟨bw_⟩⟩
   rw [if_pos c15] at H
   have c15b0 : decide (0 < x14_1) = true := decide_eq_true c15
   clear c15
   obtain ⟨ji16, hji16⟩ : ∃ j_ : Int, (wrap64 (x14_1 - 1)) = j_ := ⟨_, rfl⟩
   replace H : (if 0 ≤ (ji16) then (if (ji16) < (l1.length : Int) then ((impl_compareSpots.f k1 ((rd_T44 l1 (ji16)).f0) ((rd_T44 l1 (ji16)).f1) ((rd_T44 l1 x14_1).f0) ((rd_T44 l1 x14_1).f1)).bind fun t13 => (if t13 ≥ 0 then (some (0, ([] : List (List (S50))), false)) else (impl_PutFences.l0 k1 l1 l1 (l1.length : Int) (wrap64 (x14_1 + 1)) a0_0 l0_1))) else (none)) else (none)) = some (r1, r2, r3) := by first | (rw [hji16] at H; exact H) | (simp only [hji16] at H ⊢; exact H)
   (try rw [hji16] at A13)
   have hji16w : (IntKind.i64.wrap (x14_1 - 1)) = ji16 := (i64_w _).trans hji16
   by_cases c17 : 0 ≤ (ji16)
   rotate_left
   ·rw [if_neg c17] at H
    exact absurd H (by simp)
   rw [if_pos c17] at H
   have c17b0 : decide (0 ≤ (ji16)) = true := decide_eq_true c17
   clear c17
   by_cases c18 : (ji16) < (l1.length : Int)
   rotate_left
   ·rw [if_neg c18] at H
    exact absurd H (by simp)
   rw [if_pos c18] at H
   have c18b0 : decide ((ji16) < (l1.length : Int)) = true := decide_eq_true c18
   clear c18
   replace H := Option.bind_eq_some_iff.mp H
   obtain ⟨t13, A190, H⟩ := H
   replace H : (if t13 ≥ 0 then (some (0, ([] : List (List (S50))), false)) else (impl_PutFences.l0 k1 l1 l1 (l1.length : Int) (wrap64 (x14_1 + 1)) a0_0 l0_1)) = some (r1, r2, r3) := H
   have A19 := am_ A190
   clear A190
   by_cases c20 : t13 ≥ 0
   rotate_left
   ·rw [if_neg c20] at H
    have c20b0 : decide (0 ≤ t13) = false := decide_eq_false c20
    clear c20
    have H' := am_ H
    clear H
    have p9 : 0 ≤ (x14_1 : Int) := od_
    have q9 : x14_1 < (l1.length : Int) := od_
    obtain ⟨ad9, e9, hx9_0, hx9_1⟩ := at_T44 HR1.out x14_1 p9 q9
    cases e9
    replace hx9_0 := (HB.out.cell (World.block_lt_of_cell? w _ hx9_0)).trans hx9_0
    replace hx9_1 := (HB.out.cell (World.block_lt_of_cell? w _ hx9_1)).trans hx9_1
    replace p9 := eq_true p9
    replace q9 := eq_true q9
    try go_wp2_with (first | ((with_reducible refine gate_dst (N := 7) rfl ?_); refine box_event ?hg (N := 7) ?hd (cs := #[.int .i64 0, .int .i64 0]) (t := 44) ?hr ?_; (case hd => rfl); (case hg => rfl); (case hr => exact hrr_); intro gb10 hg w31 hbox hb; have n0_ := bb_ BK1.out hb; have n1_ := bb_ BK2.out hb; have n2_ := bs_ hb; have n3_ := am_ (hbox); have n4_ := ge_ (w := w) hg; have n5_ := ge_ (w := w) hg; have n6_ := nl_ BK1.out hg; have n7_ := nr_ BK1.out hg; have n8_ := nl_ BK2.out hg; have n9_ := nr_ BK2.out hg; clear BK1; clear BK2; clear HB; have BK1 := n0_; have BK2 := n1_; have HB := n2_; have BK10 := n3_; have GW10 := n4_; have GE10 := n5_; have NB1_10 := n6_; have NB10_1 := n7_; have NB2_10 := n8_; have NB10_2 := n9_; clear n0_ n1_ n2_ n3_ n4_ n5_ n6_ n7_ n8_ n9_; clear hb hbox hg; have hnb32 := NB10_1.out; have hnc32 := NB1_10.out; have hnb33 := NB10_2.out; have hnc33 := NB2_10.out; obtain ⟨hcz34_0, hcz34_1, hfz34_0, hfz34_1⟩ := bc2_ BK10.out))
    have n0_ : Aside0 (((w31.setCell ⟨gb10, 0, none⟩ (.int .i64 ((rd_T44 l1 x14_1).f0))).setCell ⟨gb10, 1, none⟩ (.int .i64 ((rd_T44 l1 x14_1).f1))).heap[gb1]? = some (.cells #[.int .i64 a0_0, .slice A0_1 l0_1.length c0_1] 26 (0, 0))) := ⟨by (with_reducible repeat (first | refine blk_drewN ?_ _ | refine blk_drew ?_ | refine blk_alloc ?_ _)); refine blk_far ?_ NB1_10.out _; (with_reducible repeat (first | refine blk_drewN ?_ _ | refine blk_drew ?_ | refine blk_alloc ?_ _)); refine blk_far ?_ NB1_10.out _; exact bk_⟩
    have n1_ : Aside0 (((w31.setCell ⟨gb10, 0, none⟩ (.int .i64 ((rd_T44 l1 x14_1).f0))).setCell ⟨gb10, 1, none⟩ (.int .i64 ((rd_T44 l1 x14_1).f1))).heap[gb2]? = some (.cells #[.int .i64 x3000_1, .slice none 0 0] 26 (0, 0))) := ⟨by (with_reducible repeat (first | refine blk_drewN ?_ _ | refine blk_drew ?_ | refine blk_alloc ?_ _)); refine blk_far ?_ NB2_10.out _; (with_reducible repeat (first | refine blk_drewN ?_ _ | refine blk_drew ?_ | refine blk_alloc ?_ _)); refine blk_far ?_ NB2_10.out _; exact bk_⟩
    have n2_ : Aside0 (((w31.setCell ⟨gb10, 0, none⟩ (.int .i64 ((rd_T44 l1 x14_1).f0))).setCell ⟨gb10, 1, none⟩ (.int .i64 ((rd_T44 l1 x14_1).f1))).heap[gb10]? = some (.cells #[.int .i64 ((rd_T44 l1 x14_1).f0), .int .i64 ((rd_T44 l1 x14_1).f1)] 44 (0, 0))) := ⟨by (with_reducible repeat (first | refine blk_drewN ?_ _ | refine blk_drew ?_ | refine blk_alloc ?_ _)); refine blk_put (cs := #[.int .i64 ((rd_T44 l1 x14_1).f0), .int .i64 0]) ?_ 1 _ rfl; (with_reducible repeat (first | refine blk_drewN ?_ _ | refine blk_drew ?_ | refine blk_alloc ?_ _)); refine blk_put (cs := #[.int .i64 0, .int .i64 0]) ?_ 0 _ rfl; exact bk_⟩
    have n3_ : Aside0 (Below w.heap.size w ((w31.setCell ⟨gb10, 0, none⟩ (.int .i64 ((rd_T44 l1 x14_1).f0))).setCell ⟨gb10, 1, none⟩ (.int .i64 ((rd_T44 l1 x14_1).f1)))) := ⟨bw_⟩
    (try clear BK1)
    (try clear BK2)
    (try clear BK10)
    (try clear HB)
    generalize ((w31.setCell ⟨gb10, 0, none⟩ (.int .i64 ((rd_T44 l1 x14_1).f0))).setCell ⟨gb10, 1, none⟩ (.int .i64 ((rd_T44 l1 x14_1).f1))) = w35 at n0_ n1_ n2_ n3_ ⊢
    have BK1 := n0_
    have BK2 := n1_
    have BK10 := n2_
    have HB := n3_
    clear n0_ n1_ n2_ n3_
    have n0_ := am_ (blk_drew BK1.out)
    have n1_ := am_ (blk_drew BK2.out)
    have n2_ := am_ (blk_drew BK10.out)
    have n3_ := am_ (below_drew1 HB.out)
    clear BK1
    clear BK2
    clear BK10
    clear HB
    have BK1 := n0_
    have BK2 := n1_
    have BK10 := n2_
    have HB := n3_
    clear n0_ n1_ n2_ n3_
    have p12 : 0 ≤ ((ji16) : Int) := od_
    have q12 : (ji16) < (l1.length : Int) := od_
    obtain ⟨ad12, e12, hx12_0, hx12_1⟩ := at_T44 HR1.out (ji16) p12 q12
    have hw12_1 := hx12_1
    have hw12_0 := hx12_0
    obtain rfl : ad9 = ad12 := (by injection e12)
    replace hx12_0 := (HB.out.cell (World.block_lt_of_cell? w _ hx12_0)).trans hx12_0
    replace hx12_1 := (HB.out.cell (World.block_lt_of_cell? w _ hx12_1)).trans hx12_1
    replace p12 := eq_true p12
    replace q12 := eq_true q12
    refine start_ (n := 18) (S := fun w' => w'.cell? ⟨gb10, 0, none⟩ = some (.int .i64 ((rd_T44 l1 x14_1).f0)) ∧ w'.cell? ⟨gb10, 1, none⟩ = some (.int .i64 ((rd_T44 l1 x14_1).f1)) ∧ w'.cell? ⟨gb1, 0, none⟩ = some (.int .i64 a0_0) ∧ w'.cell? ⟨gb1, 1, none⟩ = some (.slice A0_1 l0_1.length c0_1) ∧ w'.cell? (ad9.add (((ji16)).toNat * 2)) = some (.int .i64 ((rd_T44 l1 (ji16)).f0)) ∧ w'.cell? ⟨(ad9.add (((ji16)).toNat * 2)).block, (ad9.add (((ji16)).toNat * 2)).off + 1, none⟩ = some (.int .i64 ((rd_T44 l1 (ji16)).f1))) (ds := []) (bm_ 18 0) kr_ rfl rfl ⟨(blk_cell BK10.out 0).trans rfl, (blk_cell BK10.out 1).trans rfl, (blk_cell BK1.out 0).trans rfl, (blk_cell BK1.out 1).trans rfl, ((HB.out.cell (World.block_lt_of_cell? w _ hw12_0)).trans hw12_0), ((HB.out.cell (World.block_lt_of_cell? w _ hw12_1)).trans hw12_1)⟩ (fun hHeld => ?_); refine with_tabW impl_PutFences.tab6 impl_PutFences.bits6 (fun HT_ HW_ => ?_)
    generalize w35.drew = w36 at BK1 BK2 BK10 HB hx12_0 hx12_1 hHeld ⊢
    refine take_ (i := 0) (N := some 19) (v := ?_) (a' := ?_) (bm_ 18 1) rfl rfl (take_ofW HT_.out HW_.out kr_) (fun _ _ _ h => h) (Or.inl ⟨by rfl, ?_⟩) hHeld ?_ ?_
    rotate_left
    ·rintro w' ⟨s0, s1, s2, s3, s4, s5⟩
     go_simp
     with_reducible rfl
    rotate_left
    ·exact pu_
    refine take_ (i := 1) (N := some 20) (v := ?_) (a' := ?_) (bm_ 18 3) rfl rfl (take_ofW HT_.out HW_.out kr_) (fun _ _ _ h => h) (Or.inl ⟨by rfl, ?_⟩) hHeld ?_ ?_
    rotate_left
    ·rintro w' ⟨s0, s1, s2, s3, s4, s5⟩
     go_simp
     with_reducible rfl
    rotate_left
    ·exact pu_
    refine one_ (i := 2) (N := some 21) (bm_ 18 7) rfl rfl (one_of HT_.out kr_) (by decide) (fun K hK => ?_)
    refine goes_ Try.func21 kr_ rfl #[.agg #[.int .i64 ((rd_T44 l1 x14_1).f0), .int .i64 ((rd_T44 l1 x14_1).f1)], .agg #[.int .i64 a0_0, .slice A0_1 l0_1.length c0_1]] (by rfl) rfl rfl ar_ ?_
    with_reducible refine (impl_SpotOk.calls ((rd_T44 l1 x14_1).f0) ((rd_T44 l1 x14_1).f1) a0_0 _ _ l0_1 true _ ?side1 ?side2 A13.out).mono ?_
    (case side1 => exact cb_)
    (case side2 => exact HC0_1.out)
    rintro e w37 ⟨rfl, hb⟩
    refine ⟨_, rfl, ?_⟩
    have n0_ := bb_ BK1.out hb
    have n1_ := bb_ BK2.out hb
    have n2_ := bb_ BK10.out hb
    have n3_ := bs_ hb
    clear BK1
    clear BK2
    clear BK10
    clear HB
    have BK1 := n0_
    have BK2 := n1_
    have BK10 := n2_
    have HB := n3_
    clear n0_ n1_ n2_ n3_
    (try clear hb)
    (try clear hb2)
    (try clear hk)
    (try clear hi)
    refine hK.out _ _ ⟨(blk_cell BK10.out 0).trans rfl, (blk_cell BK10.out 1).trans rfl, (blk_cell BK1.out 0).trans rfl, (blk_cell BK1.out 1).trans rfl, ((HB.out.cell (World.block_lt_of_cell? w _ hw12_0)).trans hw12_0), ((HB.out.cell (World.block_lt_of_cell? w _ hw12_1)).trans hw12_1)⟩ (fun hHeld => ?_)
    clear hK K
    refine norm_ (a' := ?_) ?_ ?_
    rotate_left
    ·show Act.put _ (some 21) _ = _
     simp only [Act.put, List.setIfInBounds_toArray, List.set_cons_zero, List.set_cons_succ, i64_w, i32_w]
     rfl
    refine pure_ (i := 3) (N := some 22) (bm_ 18 15) rfl rfl (any_of HT_.out kr_) (fun _ _ _ h => h) (Or.inl ⟨rfl, yi_⟩) pu_ ?_
    refine pure_ (i := 4) (N := some 23) (bm_ 18 31) rfl rfl (any_of HT_.out kr_) (fun _ _ _ h => h) (Or.inl ⟨rfl, yi_⟩) pu_ ?_
    refine pure_ (i := 5) (N := some 24) (bm_ 18 63) rfl rfl (any_of HT_.out kr_) (fun _ _ _ h => h) (Or.inl ⟨rfl, yi_⟩) pu_ ?_
    refine pure_ (i := 6) (N := some 25) (bm_ 18 127) rfl rfl (any_of HT_.out kr_) (fun _ _ _ h => h) (Or.inl ⟨rfl, yi_⟩) pu_ ?_
    refine pure_ (i := 7) (N := some 26) (bm_ 18 255) rfl rfl (any_of HT_.out kr_) (fun _ _ _ h => h) (Or.inl ⟨rfl, yi_⟩) pu_ ?_
    refine pure_ (i := 8) (N := some 27) (bm_ 18 511) rfl rfl (any_of HT_.out kr_) (fun _ _ _ h => h) (Or.inl ⟨rfl, yi_⟩) pu_ ?_
    refine pure_ (i := 9) (N := some 28) (bm_ 18 1023) rfl rfl (any_of HT_.out kr_) (fun _ _ _ h => h) (Or.inl ⟨rfl, yi_⟩) pu_ ?_
    refine pure_ (i := 10) (N := some 29) (bm_ 18 2047) rfl rfl (any_of HT_.out kr_) (fun _ _ _ h => h) (Or.inl ⟨rfl, yi_⟩) pu_ ?_
    refine pure_ (i := 11) (N := some 30) (bm_ 18 4095) rfl rfl (any_of HT_.out kr_) (fun _ _ _ h => h) (Or.inl ⟨rfl, yi_⟩) pu_ ?_
    refine take_ (i := 12) (N := some 31) (v := ?_) (a' := ?_) (bm_ 18 8191) rfl rfl (take_ofW HT_.out HW_.out kr_) (fun _ _ _ h => h) (Or.inl ⟨by rfl, ?_⟩) hHeld ?_ ?_
    rotate_left
    ·rintro w' ⟨s0, s1, s2, s3, s4, s5⟩
     go_simp
     with_reducible rfl
    rotate_left
    ·exact pu_
    refine take_ (i := 13) (N := some 32) (v := ?_) (a' := ?_) (bm_ 18 16383) rfl rfl (take_ofW HT_.out HW_.out kr_) (fun _ _ _ h => h) (Or.inl ⟨by rfl, ?_⟩) hHeld ?_ ?_
    rotate_left
    ·rintro w' ⟨s0, s1, s2, s3, s4, s5⟩
     go_simp
     with_reducible rfl
    rotate_left
    ·exact pu_
    refine one_ (i := 14) (N := some 33) (bm_ 18 32767) rfl rfl (one_of HT_.out kr_) (by decide) (fun K hK => ?_)
    refine goes_ Try.func22 kr_ rfl #[.agg #[.int .i64 ((rd_T44 l1 (ji16)).f0), .int .i64 ((rd_T44 l1 (ji16)).f1)], .agg #[.int .i64 ((rd_T44 l1 x14_1).f0), .int .i64 ((rd_T44 l1 x14_1).f1)]] (by rfl) rfl rfl (by (try simp only [List.map_toArray, List.map_cons, List.map_nil]); first | done | (simp only [hji16]; rfl) | rfl | (simp only [List.length_drop, List.length_take]; rfl)) ?_
    with_reducible refine (impl_compareSpots.calls k1 ((rd_T44 l1 (ji16)).f0) ((rd_T44 l1 (ji16)).f1) ((rd_T44 l1 x14_1).f0) ((rd_T44 l1 x14_1).f1) t13 _ A19.out).mono ?_
    rintro e w38 ⟨rfl, hb⟩
    refine ⟨_, rfl, ?_⟩
    have n0_ := bb_ BK1.out hb
    have n1_ := bb_ BK2.out hb
    have n2_ := bb_ BK10.out hb
    have n3_ := bs_ hb
    clear BK1
    clear BK2
    clear BK10
    clear HB
    have BK1 := n0_
    have BK2 := n1_
    have BK10 := n2_
    have HB := n3_
    clear n0_ n1_ n2_ n3_
    (try clear hb)
    (try clear hb2)
    (try clear hk)
    (try clear hi)
    refine hK.out _ _ ⟨(blk_cell BK10.out 0).trans rfl, (blk_cell BK10.out 1).trans rfl, (blk_cell BK1.out 0).trans rfl, (blk_cell BK1.out 1).trans rfl, ((HB.out.cell (World.block_lt_of_cell? w _ hw12_0)).trans hw12_0), ((HB.out.cell (World.block_lt_of_cell? w _ hw12_1)).trans hw12_1)⟩ (fun hHeld => ?_)
    clear hK K
    refine norm_ (a' := ?_) ?_ ?_
    rotate_left
    ·show Act.put _ (some 33) _ = _
     simp only [Act.put, List.setIfInBounds_toArray, List.set_cons_zero, List.set_cons_succ, i64_w, i32_w]
     rfl
    refine pure_ (i := 15) (N := some 34) (bm_ 18 65535) rfl rfl (any_of HT_.out kr_) (fun _ _ _ h => h) (Or.inl ⟨rfl, yi_⟩) pu_ ?_
    refine pure_ (i := 16) (N := some 35) (bm_ 18 131071) rfl rfl (any_of HT_.out kr_) (fun _ _ _ h => h) (Or.inl ⟨rfl, yi_⟩) pu_ ?_
    refine pure_ (i := 17) (N := some 36) (bm_ 18 262143) rfl rfl (any_of HT_.out kr_) (fun _ _ _ h => h) (Or.inl ⟨rfl, yi_⟩) pu_ ?_
    refine done_ (done_of HT_.out kr_) ?_
    try go_wp2
    go_roundg k1
    case measure => have := HK1.out; omega
    case rel => exact ⟨(wrap64 (x14_1 + 1)), (x3000_1), sd_, H', ⟨by have := HK1.out; omega⟩, ⟨bk_⟩, ⟨bk_⟩, ⟨bw_⟩⟩
   rw [if_pos c20] at H
   have c20b0 : decide (0 ≤ t13) = true := decide_eq_true c20
   clear c20
   simp only [Option.some.injEq, Prod.mk.injEq] at H
   obtain ⟨rfl, rfl, rfl⟩ := H
   have p9 : 0 ≤ (x14_1 : Int) := od_
   have q9 : x14_1 < (l1.length : Int) := od_
   obtain ⟨ad9, e9, hx9_0, hx9_1⟩ := at_T44 HR1.out x14_1 p9 q9
   cases e9
   replace hx9_0 := (HB.out.cell (World.block_lt_of_cell? w _ hx9_0)).trans hx9_0
   replace hx9_1 := (HB.out.cell (World.block_lt_of_cell? w _ hx9_1)).trans hx9_1
   replace p9 := eq_true p9
   replace q9 := eq_true q9
   try go_wp2_with (first | ((with_reducible refine gate_dst (N := 7) rfl ?_); refine box_event ?hg (N := 7) ?hd (cs := #[.int .i64 0, .int .i64 0]) (t := 44) ?hr ?_; (case hd => rfl); (case hg => rfl); (case hr => exact hrr_); intro gb10 hg w21 hbox hb; have n0_ := bb_ BK1.out hb; have n1_ := bb_ BK2.out hb; have n2_ := bs_ hb; have n3_ := am_ (hbox); have n4_ := ge_ (w := w) hg; have n5_ := ge_ (w := w) hg; have n6_ := nl_ BK1.out hg; have n7_ := nr_ BK1.out hg; have n8_ := nl_ BK2.out hg; have n9_ := nr_ BK2.out hg; clear BK1; clear BK2; clear HB; have BK1 := n0_; have BK2 := n1_; have HB := n2_; have BK10 := n3_; have GW10 := n4_; have GE10 := n5_; have NB1_10 := n6_; have NB10_1 := n7_; have NB2_10 := n8_; have NB10_2 := n9_; clear n0_ n1_ n2_ n3_ n4_ n5_ n6_ n7_ n8_ n9_; clear hb hbox hg; have hnb22 := NB10_1.out; have hnc22 := NB1_10.out; have hnb23 := NB10_2.out; have hnc23 := NB2_10.out; obtain ⟨hcz24_0, hcz24_1, hfz24_0, hfz24_1⟩ := bc2_ BK10.out))
   have n0_ : Aside0 (((w21.setCell ⟨gb10, 0, none⟩ (.int .i64 ((rd_T44 l1 x14_1).f0))).setCell ⟨gb10, 1, none⟩ (.int .i64 ((rd_T44 l1 x14_1).f1))).heap[gb1]? = some (.cells #[.int .i64 a0_0, .slice A0_1 l0_1.length c0_1] 26 (0, 0))) := ⟨by (with_reducible repeat (first | refine blk_drewN ?_ _ | refine blk_drew ?_ | refine blk_alloc ?_ _)); refine blk_far ?_ NB1_10.out _; (with_reducible repeat (first | refine blk_drewN ?_ _ | refine blk_drew ?_ | refine blk_alloc ?_ _)); refine blk_far ?_ NB1_10.out _; exact bk_⟩
   have n1_ : Aside0 (((w21.setCell ⟨gb10, 0, none⟩ (.int .i64 ((rd_T44 l1 x14_1).f0))).setCell ⟨gb10, 1, none⟩ (.int .i64 ((rd_T44 l1 x14_1).f1))).heap[gb2]? = some (.cells #[.int .i64 x3000_1, .slice none 0 0] 26 (0, 0))) := ⟨by (with_reducible repeat (first | refine blk_drewN ?_ _ | refine blk_drew ?_ | refine blk_alloc ?_ _)); refine blk_far ?_ NB2_10.out _; (with_reducible repeat (first | refine blk_drewN ?_ _ | refine blk_drew ?_ | refine blk_alloc ?_ _)); refine blk_far ?_ NB2_10.out _; exact bk_⟩
   have n2_ : Aside0 (((w21.setCell ⟨gb10, 0, none⟩ (.int .i64 ((rd_T44 l1 x14_1).f0))).setCell ⟨gb10, 1, none⟩ (.int .i64 ((rd_T44 l1 x14_1).f1))).heap[gb10]? = some (.cells #[.int .i64 ((rd_T44 l1 x14_1).f0), .int .i64 ((rd_T44 l1 x14_1).f1)] 44 (0, 0))) := ⟨by (with_reducible repeat (first | refine blk_drewN ?_ _ | refine blk_drew ?_ | refine blk_alloc ?_ _)); refine blk_put (cs := #[.int .i64 ((rd_T44 l1 x14_1).f0), .int .i64 0]) ?_ 1 _ rfl; (with_reducible repeat (first | refine blk_drewN ?_ _ | refine blk_drew ?_ | refine blk_alloc ?_ _)); refine blk_put (cs := #[.int .i64 0, .int .i64 0]) ?_ 0 _ rfl; exact bk_⟩
   have n3_ : Aside0 (Below w.heap.size w ((w21.setCell ⟨gb10, 0, none⟩ (.int .i64 ((rd_T44 l1 x14_1).f0))).setCell ⟨gb10, 1, none⟩ (.int .i64 ((rd_T44 l1 x14_1).f1)))) := ⟨bw_⟩
   (try clear BK1)
   (try clear BK2)
   (try clear BK10)
   (try clear HB)
   generalize ((w21.setCell ⟨gb10, 0, none⟩ (.int .i64 ((rd_T44 l1 x14_1).f0))).setCell ⟨gb10, 1, none⟩ (.int .i64 ((rd_T44 l1 x14_1).f1))) = w25 at n0_ n1_ n2_ n3_ ⊢
   have BK1 := n0_
   have BK2 := n1_
   have BK10 := n2_
   have HB := n3_
   clear n0_ n1_ n2_ n3_
   have n0_ := am_ (blk_drew BK1.out)
   have n1_ := am_ (blk_drew BK2.out)
   have n2_ := am_ (blk_drew BK10.out)
   have n3_ := am_ (below_drew1 HB.out)
   clear BK1
   clear BK2
   clear BK10
   clear HB
   have BK1 := n0_
   have BK2 := n1_
   have BK10 := n2_
   have HB := n3_
   clear n0_ n1_ n2_ n3_
   have p12 : 0 ≤ ((ji16) : Int) := od_
   have q12 : (ji16) < (l1.length : Int) := od_
   obtain ⟨ad12, e12, hx12_0, hx12_1⟩ := at_T44 HR1.out (ji16) p12 q12
   have hw12_1 := hx12_1
   have hw12_0 := hx12_0
   obtain rfl : ad9 = ad12 := (by injection e12)
   replace hx12_0 := (HB.out.cell (World.block_lt_of_cell? w _ hx12_0)).trans hx12_0
   replace hx12_1 := (HB.out.cell (World.block_lt_of_cell? w _ hx12_1)).trans hx12_1
   replace p12 := eq_true p12
   replace q12 := eq_true q12
   refine start_ (n := 18) (S := fun w' => w'.cell? ⟨gb10, 0, none⟩ = some (.int .i64 ((rd_T44 l1 x14_1).f0)) ∧ w'.cell? ⟨gb10, 1, none⟩ = some (.int .i64 ((rd_T44 l1 x14_1).f1)) ∧ w'.cell? ⟨gb1, 0, none⟩ = some (.int .i64 a0_0) ∧ w'.cell? ⟨gb1, 1, none⟩ = some (.slice A0_1 l0_1.length c0_1) ∧ w'.cell? (ad9.add (((ji16)).toNat * 2)) = some (.int .i64 ((rd_T44 l1 (ji16)).f0)) ∧ w'.cell? ⟨(ad9.add (((ji16)).toNat * 2)).block, (ad9.add (((ji16)).toNat * 2)).off + 1, none⟩ = some (.int .i64 ((rd_T44 l1 (ji16)).f1))) (ds := []) (bm_ 18 0) kr_ rfl rfl ⟨(blk_cell BK10.out 0).trans rfl, (blk_cell BK10.out 1).trans rfl, (blk_cell BK1.out 0).trans rfl, (blk_cell BK1.out 1).trans rfl, ((HB.out.cell (World.block_lt_of_cell? w _ hw12_0)).trans hw12_0), ((HB.out.cell (World.block_lt_of_cell? w _ hw12_1)).trans hw12_1)⟩ (fun hHeld => ?_); refine with_tabW impl_PutFences.tab6 impl_PutFences.bits6 (fun HT_ HW_ => ?_)
   generalize w25.drew = w26 at BK1 BK2 BK10 HB hx12_0 hx12_1 hHeld ⊢
   refine take_ (i := 0) (N := some 19) (v := ?_) (a' := ?_) (bm_ 18 1) rfl rfl (take_ofW HT_.out HW_.out kr_) (fun _ _ _ h => h) (Or.inl ⟨by rfl, ?_⟩) hHeld ?_ ?_
   rotate_left
   ·rintro w' ⟨s0, s1, s2, s3, s4, s5⟩
    go_simp
    with_reducible rfl
   rotate_left
   ·exact pu_
   refine take_ (i := 1) (N := some 20) (v := ?_) (a' := ?_) (bm_ 18 3) rfl rfl (take_ofW HT_.out HW_.out kr_) (fun _ _ _ h => h) (Or.inl ⟨by rfl, ?_⟩) hHeld ?_ ?_
   rotate_left
   ·rintro w' ⟨s0, s1, s2, s3, s4, s5⟩
    go_simp
    with_reducible rfl
   rotate_left
   ·exact pu_
   refine one_ (i := 2) (N := some 21) (bm_ 18 7) rfl rfl (one_of HT_.out kr_) (by decide) (fun K hK => ?_)
   refine goes_ Try.func21 kr_ rfl #[.agg #[.int .i64 ((rd_T44 l1 x14_1).f0), .int .i64 ((rd_T44 l1 x14_1).f1)], .agg #[.int .i64 a0_0, .slice A0_1 l0_1.length c0_1]] (by rfl) rfl rfl ar_ ?_
   with_reducible refine (impl_SpotOk.calls ((rd_T44 l1 x14_1).f0) ((rd_T44 l1 x14_1).f1) a0_0 _ _ l0_1 true _ ?side1 ?side2 A13.out).mono ?_
   (case side1 => exact cb_)
   (case side2 => exact HC0_1.out)
   rintro e w27 ⟨rfl, hb⟩
   refine ⟨_, rfl, ?_⟩
   have n0_ := bb_ BK1.out hb
   have n1_ := bb_ BK2.out hb
   have n2_ := bb_ BK10.out hb
   have n3_ := bs_ hb
   clear BK1
   clear BK2
   clear BK10
   clear HB
   have BK1 := n0_
   have BK2 := n1_
   have BK10 := n2_
   have HB := n3_
   clear n0_ n1_ n2_ n3_
   (try clear hb)
   (try clear hb2)
   (try clear hk)
   (try clear hi)
   refine hK.out _ _ ⟨(blk_cell BK10.out 0).trans rfl, (blk_cell BK10.out 1).trans rfl, (blk_cell BK1.out 0).trans rfl, (blk_cell BK1.out 1).trans rfl, ((HB.out.cell (World.block_lt_of_cell? w _ hw12_0)).trans hw12_0), ((HB.out.cell (World.block_lt_of_cell? w _ hw12_1)).trans hw12_1)⟩ (fun hHeld => ?_)
   clear hK K
   refine norm_ (a' := ?_) ?_ ?_
   rotate_left
   ·show Act.put _ (some 21) _ = _
    simp only [Act.put, List.setIfInBounds_toArray, List.set_cons_zero, List.set_cons_succ, i64_w, i32_w]
    rfl
   refine pure_ (i := 3) (N := some 22) (bm_ 18 15) rfl rfl (any_of HT_.out kr_) (fun _ _ _ h => h) (Or.inl ⟨rfl, yi_⟩) pu_ ?_
   refine pure_ (i := 4) (N := some 23) (bm_ 18 31) rfl rfl (any_of HT_.out kr_) (fun _ _ _ h => h) (Or.inl ⟨rfl, yi_⟩) pu_ ?_
   refine pure_ (i := 5) (N := some 24) (bm_ 18 63) rfl rfl (any_of HT_.out kr_) (fun _ _ _ h => h) (Or.inl ⟨rfl, yi_⟩) pu_ ?_
   refine pure_ (i := 6) (N := some 25) (bm_ 18 127) rfl rfl (any_of HT_.out kr_) (fun _ _ _ h => h) (Or.inl ⟨rfl, yi_⟩) pu_ ?_
   refine pure_ (i := 7) (N := some 26) (bm_ 18 255) rfl rfl (any_of HT_.out kr_) (fun _ _ _ h => h) (Or.inl ⟨rfl, yi_⟩) pu_ ?_
   refine pure_ (i := 8) (N := some 27) (bm_ 18 511) rfl rfl (any_of HT_.out kr_) (fun _ _ _ h => h) (Or.inl ⟨rfl, yi_⟩) pu_ ?_
   refine pure_ (i := 9) (N := some 28) (bm_ 18 1023) rfl rfl (any_of HT_.out kr_) (fun _ _ _ h => h) (Or.inl ⟨rfl, yi_⟩) pu_ ?_
   refine pure_ (i := 10) (N := some 29) (bm_ 18 2047) rfl rfl (any_of HT_.out kr_) (fun _ _ _ h => h) (Or.inl ⟨rfl, yi_⟩) pu_ ?_
   refine pure_ (i := 11) (N := some 30) (bm_ 18 4095) rfl rfl (any_of HT_.out kr_) (fun _ _ _ h => h) (Or.inl ⟨rfl, yi_⟩) pu_ ?_
   refine take_ (i := 12) (N := some 31) (v := ?_) (a' := ?_) (bm_ 18 8191) rfl rfl (take_ofW HT_.out HW_.out kr_) (fun _ _ _ h => h) (Or.inl ⟨by rfl, ?_⟩) hHeld ?_ ?_
   rotate_left
   ·rintro w' ⟨s0, s1, s2, s3, s4, s5⟩
    go_simp
    with_reducible rfl
   rotate_left
   ·exact pu_
   refine take_ (i := 13) (N := some 32) (v := ?_) (a' := ?_) (bm_ 18 16383) rfl rfl (take_ofW HT_.out HW_.out kr_) (fun _ _ _ h => h) (Or.inl ⟨by rfl, ?_⟩) hHeld ?_ ?_
   rotate_left
   ·rintro w' ⟨s0, s1, s2, s3, s4, s5⟩
    go_simp
    with_reducible rfl
   rotate_left
   ·exact pu_
   refine one_ (i := 14) (N := some 33) (bm_ 18 32767) rfl rfl (one_of HT_.out kr_) (by decide) (fun K hK => ?_)
   refine goes_ Try.func22 kr_ rfl #[.agg #[.int .i64 ((rd_T44 l1 (ji16)).f0), .int .i64 ((rd_T44 l1 (ji16)).f1)], .agg #[.int .i64 ((rd_T44 l1 x14_1).f0), .int .i64 ((rd_T44 l1 x14_1).f1)]] (by rfl) rfl rfl (by (try simp only [List.map_toArray, List.map_cons, List.map_nil]); first | done | (simp only [hji16]; rfl) | rfl | (simp only [List.length_drop, List.length_take]; rfl)) ?_
   with_reducible refine (impl_compareSpots.calls k1 ((rd_T44 l1 (ji16)).f0) ((rd_T44 l1 (ji16)).f1) ((rd_T44 l1 x14_1).f0) ((rd_T44 l1 x14_1).f1) t13 _ A19.out).mono ?_
   rintro e w28 ⟨rfl, hb⟩
   refine ⟨_, rfl, ?_⟩
   have n0_ := bb_ BK1.out hb
   have n1_ := bb_ BK2.out hb
   have n2_ := bb_ BK10.out hb
   have n3_ := bs_ hb
   clear BK1
   clear BK2
   clear BK10
   clear HB
   have BK1 := n0_
   have BK2 := n1_
   have BK10 := n2_
   have HB := n3_
   clear n0_ n1_ n2_ n3_
   (try clear hb)
   (try clear hb2)
   (try clear hk)
   (try clear hi)
   refine hK.out _ _ ⟨(blk_cell BK10.out 0).trans rfl, (blk_cell BK10.out 1).trans rfl, (blk_cell BK1.out 0).trans rfl, (blk_cell BK1.out 1).trans rfl, ((HB.out.cell (World.block_lt_of_cell? w _ hw12_0)).trans hw12_0), ((HB.out.cell (World.block_lt_of_cell? w _ hw12_1)).trans hw12_1)⟩ (fun hHeld => ?_)
   clear hK K
   refine norm_ (a' := ?_) ?_ ?_
   rotate_left
   ·show Act.put _ (some 33) _ = _
    simp only [Act.put, List.setIfInBounds_toArray, List.set_cons_zero, List.set_cons_succ, i64_w, i32_w]
    rfl
   refine pure_ (i := 15) (N := some 34) (bm_ 18 65535) rfl rfl (any_of HT_.out kr_) (fun _ _ _ h => h) (Or.inl ⟨rfl, yi_⟩) pu_ ?_
   refine pure_ (i := 16) (N := some 35) (bm_ 18 131071) rfl rfl (any_of HT_.out kr_) (fun _ _ _ h => h) (Or.inl ⟨rfl, yi_⟩) pu_ ?_
   refine pure_ (i := 17) (N := some 36) (bm_ 18 262143) rfl rfl (any_of HT_.out kr_) (fun _ _ _ h => h) (Or.inl ⟨rfl, yi_⟩) pu_ ?_
   refine done_ (done_of HT_.out kr_) ?_
   have hnb29 := NB2_1.out
   have hnc29 := NB1_2.out
   obtain ⟨hcz30_0, hcz30_1, hfz30_0, hfz30_1⟩ := bc2_ BK2.out
   try go_wp2
   refine bodyPost_ret (results_ct rfl _ _ gb2 26 #[.int .i64 0, .slice none 0 0] (0, 0) _ rfl (by (with_reducible repeat (first | refine blk_drewN ?_ _ | refine blk_drew ?_ | refine blk_alloc ?_ _)); refine blk_put (cs := #[.int .i64 0, .slice none 0 0]) ?_ 1 _ rfl; (with_reducible repeat (first | refine blk_drewN ?_ _ | refine blk_drew ?_ | refine blk_alloc ?_ _)); refine blk_put (cs := #[.int .i64 x3000_1, .slice none 0 0]) ?_ 0 _ rfl; exact bk_) Try.underlying26 rfl kr_) rfl ?_
   exact ⟨_, by first | rfl | (simp [errW_none, errW_some] <;> rfl) | (simp only [← hji16]; first | rfl | (simp [errW_none, errW_some] <;> rfl)) | (simp [*, errW_none, errW_some] <;> rfl), by first | exact Kd.S_nil _ _ _ _ _ | exact Kd.N_nil _ _ _ _ _ | exact Kd.V_nil _ _ _ _ _ | exact Kd.Q_nil _ _ _ _ _ | exact Kd.R_nil _ _ _ _ _, bw_⟩

end Go.Proofs.Ytbgclnjnngolmaa.P
