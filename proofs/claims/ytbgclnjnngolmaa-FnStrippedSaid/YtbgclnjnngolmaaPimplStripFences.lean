-- Written by mp.py (the session's own driver over the kit's printer) for the seat Ytbgclnjnngolmaa.
import Derived.Test.YtbgclnjnngolmaaK
import Derived.Test.YtbgclnjnngolmaaE
import Derived.Test.YtbgclnjnngolmaaPimplProgOk
import Derived.Test.YtbgclnjnngolmaaPimplstripped
namespace Go.Proofs.Ytbgclnjnngolmaa.P
open Go.RowKit Go.Proofs.YtbgclnjnngolmaaW.PrintWords Go.Proofs.YtbgclnjnngolmaaW.PrintLast Go.Proofs.YtbgclnjnngolmaaW.PrintMore
attribute [local go_sem] max2_int min2_int max_two min_two max_three min_three max_four min_four
set_option linter.unusedVariables false
set_option linter.unusedSimpArgs false

attribute [local go_sem high] eqA50
/-! ### impl_StripFences: function 8 -/
def impl_StripFences.l0 : Nat → List (List (S50)) → Int → Int → Int → List (List (S50)) → Option (Int × (List (List (S50))) × Bool)
 | 0, _, _, _, _, _ => none
 | k + 1, x15, x16, x17, x5000, x5001 => if x17 < x16 then (if 0 ≤ x17 then (if x17 < (x15.length : Int) then ((impl_stripped.f k (rd_L4 x15 x17)).bind fun t6 => (if x5001.length < 5864062014805 then (impl_StripFences.l0 k x15 x16 (wrap64 (x17 + 1)) x5000 (x5001 ++ [t6])) else (none))) else (none)) else (none)) else (some (x5000, x5001, true))
def impl_StripFences.f (k : Nat) (a0_0 : Int) (l0_1 : List (List (S50))) : Option (Int × (List (List (S50))) × Bool) := (impl_ProgOk.f a0_0 l0_1).bind fun t3 => (if t3 = true then (impl_StripFences.l0 k l0_1 (l0_1.length : Int) 0 a0_0 ([] : List (List (S50)))) else (some (0, ([] : List (List (S50))), false)))
theorem impl_StripFences.mono_l : ∀ k, (∀ y0 y1 y2 y3 y4, LeO (impl_StripFences.l0 k y0 y1 y2 y3 y4) (impl_StripFences.l0 (k + 1) y0 y1 y2 y3 y4))
 | 0 => fun _ _ _ _ _ r h => by simp [impl_StripFences.l0] at h
 | k + 1 => by
  have ih0 := impl_StripFences.mono_l k
  ·intro y0 y1 y2 y3 y4
   unfold impl_StripFences.l0
   repeat' first | (with_reducible first | exact ih0 _ _ _ _ _ | exact impl_stripped.mono _ _ | exact lr_ | exact ln_ | refine LeO.ite ?_ ?_ | refine LeO.bind ?_ (fun _ => ?_)) | exact ih0 _ _ _ _ _ | exact impl_stripped.mono _ _ | exact ln_ | refine LeO.ite ?_ ?_ | refine LeO.bind ?_ (fun _ => ?_)
theorem impl_StripFences.mono : ∀ a0 a1 k, LeO (impl_StripFences.f k a0 a1) (impl_StripFences.f (k + 1) a0 a1) := by
 intro a0 a1 k
 have ih0 := impl_StripFences.mono_l k
 unfold impl_StripFences.f
 repeat' first | (with_reducible first | exact ih0 _ _ _ _ _ | exact impl_stripped.mono _ _ | exact lr_ | exact ln_ | refine LeO.ite ?_ ?_ | refine LeO.bind ?_ (fun _ => ?_)) | exact ih0 _ _ _ _ _ | exact impl_stripped.mono _ _ | exact ln_ | refine LeO.ite ?_ ?_ | refine LeO.bind ?_ (fun _ => ?_)
def impl_StripFences.T7 : Bool × List (List Nat × List Nat) := (true, [([], []), ([0], [0]), ([], []), ([2], [2]), ([3], [3]), ([1, 4, 3], [1, 4]), ([0, 1, 2, 3, 4, 5], []), ([6, 5, 5, 0, 1, 2, 3, 4, 5], [5, 6])])
def impl_StripFences.B7 : List Nat := [0, 1, 0, 4, 12, 31, 63, 127]
theorem impl_StripFences.tab7 : rtab .any (opsOf Try.f8 7) = impl_StripFences.T7 := by kernel_rfl
theorem impl_StripFences.bits7 : waitsOk impl_StripFences.T7.2 impl_StripFences.B7 = true := by kernel_rfl
set_option maxHeartbeats 8000000 in
set_option maxRecDepth 100000 in
theorem impl_StripFences.calls (k : Nat) (a0_0 : Int) (A0_1 : Option Addr) (c0_1 : Nat) (l0_1 : List (List (S50))) (r1 : Int) (r2 : List (List (S50))) (r3 : Bool) (w : World) (hr0_1 : Kd.C (Kd.slice 50 k50) w A0_1 l0_1.length l0_1) (hc0_1 : l0_1.length ≤ c0_1) (h : impl_StripFences.f k a0_0 l0_1 = some (r1, r2, r3)) :
  Calls Try.prog 8 #[.agg #[.int .i64 a0_0, .slice A0_1 l0_1.length c0_1]] w fun e w' => ∃ v1_ : Value, e = .returned (.tuple #[.agg #[.int .i64 r1, v1_], .bool r3]) ∧ Kd.S (Kd.slice 50 k50) 46 w' w.heap.size (fun _ => True) v1_ r2 ∧ Below w.heap.size w w' := by
 have hu26 := Try.underlying26
 have HR0_1 := am_ hr0_1
 have HC0_1 := am_ hc0_1
 clear hr0_1 hc0_1
 have HB := am_ (Below.refl w.heap.size w)
 have H : ((impl_ProgOk.f a0_0 l0_1).bind fun t3 => (if t3 = true then (impl_StripFences.l0 k l0_1 (l0_1.length : Int) 0 a0_0 ([] : List (List (S50)))) else (some (0, ([] : List (List (S50))), false)))) = some (r1, r2, r3) := h
 clear h
 replace H := Option.bind_eq_some_iff.mp H
 obtain ⟨t3, A20, H⟩ := H
 replace H : (if t3 = true then (impl_StripFences.l0 k l0_1 (l0_1.length : Int) 0 a0_0 ([] : List (List (S50)))) else (some (0, ([] : List (List (S50))), false))) = some (r1, r2, r3) := H
 have A2 := am_ A20
 clear A20
 by_cases c3 : t3 = true
 rotate_left
 ·replace c3 := Bool.eq_false_iff.mpr c3
  subst c3
  have H1 : (some (0, ([] : List (List (S50))), false)) = some (r1, r2, r3) := by rw [if_neg (show ¬ (false = true) by decide)] at H; exact H
  clear H
  have H := H1
  clear H1
  simp only [Option.some.injEq, Prod.mk.injEq] at H
  obtain ⟨rfl, rfl, rfl⟩ := H
  go_enter Try.func8, Try.ntmps8
  go_wp2_with (first | ((with_reducible refine gate_dst (N := 1) rfl ?_); refine box_event ?hg (N := 1) ?hd (cs := #[.int .i64 a0_0, .slice A0_1 l0_1.length c0_1]) (t := 26) ?hr ?_; (case hd => rfl); (case hg => rfl); (case hr => exact hrr_); intro gb1 hg w32 hbox hb; have n0_ := bs_ hb; have n1_ := am_ (hbox); have n2_ := ge_ (w := w) hg; have n3_ := ge_ (w := w) hg; clear HB; have HB := n0_; have BK1 := n1_; have GW1 := n2_; have GE1 := n3_; clear n0_ n1_ n2_ n3_; clear hb hbox hg) | ((with_reducible refine gate_dst (N := 2) rfl ?_); refine box_event ?hg (N := 2) ?hd (cs := #[.int .i64 0, .slice none 0 0]) (t := 26) ?hr ?_; (case hd => rfl); (case hg => rfl); (case hr => exact hrr_); intro gb2 hg w33 hbox hb; have n0_ := bb_ BK1.out hb; have n1_ := bs_ hb; have n2_ := am_ (hbox); have n3_ := ge_ (w := w) hg; have n4_ := ge_ (w := w) hg; have n5_ := nl_ BK1.out hg; have n6_ := nr_ BK1.out hg; clear BK1; clear HB; have BK1 := n0_; have HB := n1_; have BK2 := n2_; have GW2 := n3_; have GE2 := n4_; have NB1_2 := n5_; have NB2_1 := n6_; clear n0_ n1_ n2_ n3_ n4_ n5_ n6_; clear hb hbox hg; have hnb34 := NB1_2.out; have hnc34 := NB2_1.out; obtain ⟨hcz35_0, hcz35_1, hfz35_0, hfz35_1⟩ := bc2_ BK1.out) | ((with_reducible refine gate_callee (f := 20) rfl ?_); refine goesL_ (some 8) rfl rfl Try.func20 kr_ rfl #[.agg #[.int .i64 a0_0, .slice A0_1 l0_1.length c0_1]] rfl ar_ ?_; (with_reducible refine (impl_ProgOk.calls a0_0 _ _ l0_1 false _ ?side1 ?side2 A2.out).mono ?_); (case side1 => exact cb_); (case side2 => exact HC0_1.out); rintro e w36 ⟨rfl, hb⟩; refine ⟨_, rfl, ?_⟩; have n0_ := bb_ BK1.out hb; have n1_ := bb_ BK2.out hb; have n2_ := bs_ hb; clear BK1; clear BK2; clear HB; have BK1 := n0_; have BK2 := n1_; have HB := n2_; clear n0_ n1_ n2_; (try clear hb); (try clear hb2); (try clear hk); (try clear hi); obtain ⟨hcz37_0, hcz37_1, hfz37_0, hfz37_1⟩ := bc2_ BK2.out))
  refine bodyPost_ret (results_ct rfl _ _ gb2 26 #[.int .i64 0, .slice none 0 0] (0, 0) _ rfl (by (with_reducible repeat (first | refine blk_drewN ?_ _ | refine blk_drew ?_ | refine blk_alloc ?_ _)); refine blk_put (cs := #[.int .i64 0, .slice none 0 0]) ?_ 1 _ rfl; (with_reducible repeat (first | refine blk_drewN ?_ _ | refine blk_drew ?_ | refine blk_alloc ?_ _)); refine blk_put (cs := #[.int .i64 0, .slice none 0 0]) ?_ 0 _ rfl; exact bk_) Try.underlying26 rfl kr_) rfl ?_
  exact ⟨_, rr_, by first | exact Kd.S_nil _ _ _ _ _ | exact Kd.N_nil _ _ _ _ _ | exact Kd.V_nil _ _ _ _ _ | exact Kd.Q_nil _ _ _ _ _ | exact Kd.R_nil _ _ _ _ _, bw_⟩
 subst c3
 have H1 : (impl_StripFences.l0 k l0_1 (l0_1.length : Int) 0 a0_0 ([] : List (List (S50)))) = some (r1, r2, r3) := by rw [if_pos rfl] at H; exact H
 clear H
 have H := H1
 clear H1
 have H' := am_ H
 clear H
 go_enter Try.func8, Try.ntmps8
 go_wp2_with (first | ((with_reducible refine gate_dst (N := 1) rfl ?_); refine box_event ?hg (N := 1) ?hd (cs := #[.int .i64 a0_0, .slice A0_1 l0_1.length c0_1]) (t := 26) ?hr ?_; (case hd => rfl); (case hg => rfl); (case hr => exact hrr_); intro gb1 hg w4 hbox hb; have n0_ := bs_ hb; have n1_ := am_ (hbox); have n2_ := ge_ (w := w) hg; have n3_ := ge_ (w := w) hg; clear HB; have HB := n0_; have BK1 := n1_; have GW1 := n2_; have GE1 := n3_; clear n0_ n1_ n2_ n3_; clear hb hbox hg) | ((with_reducible refine gate_dst (N := 2) rfl ?_); refine box_event ?hg (N := 2) ?hd (cs := #[.int .i64 0, .slice none 0 0]) (t := 26) ?hr ?_; (case hd => rfl); (case hg => rfl); (case hr => exact hrr_); intro gb2 hg w5 hbox hb; have n0_ := bb_ BK1.out hb; have n1_ := bs_ hb; have n2_ := am_ (hbox); have n3_ := ge_ (w := w) hg; have n4_ := ge_ (w := w) hg; have n5_ := nl_ BK1.out hg; have n6_ := nr_ BK1.out hg; clear BK1; clear HB; have BK1 := n0_; have HB := n1_; have BK2 := n2_; have GW2 := n3_; have GE2 := n4_; have NB1_2 := n5_; have NB2_1 := n6_; clear n0_ n1_ n2_ n3_ n4_ n5_ n6_; clear hb hbox hg; have hnb6 := NB1_2.out; have hnc6 := NB2_1.out; obtain ⟨hcz7_0, hcz7_1, hfz7_0, hfz7_1⟩ := bc2_ BK1.out) | ((with_reducible refine gate_callee (f := 20) rfl ?_); refine goesL_ (some 8) rfl rfl Try.func20 kr_ rfl #[.agg #[.int .i64 a0_0, .slice A0_1 l0_1.length c0_1]] rfl ar_ ?_; (with_reducible refine (impl_ProgOk.calls a0_0 _ _ l0_1 true _ ?side1 ?side2 A2.out).mono ?_); (case side1 => exact cb_); (case side2 => exact HC0_1.out); rintro e w8 ⟨rfl, hb⟩; refine ⟨_, rfl, ?_⟩; have n0_ := bb_ BK1.out hb; have n1_ := bb_ BK2.out hb; have n2_ := bs_ hb; clear BK1; clear BK2; clear HB; have BK1 := n0_; have BK2 := n1_; have HB := n2_; clear n0_ n1_ n2_; (try clear hb); (try clear hb2); (try clear hk); (try clear hi); obtain ⟨hcz9_0, hcz9_1, hfz9_0, hfz9_1⟩ := bc2_ BK1.out) | ((with_reducible refine gate_dst (N := 4) rfl ?_); refine box_event ?hg (N := 4) ?hd (cs := #[.int .i64 0, .slice none 0 0]) (t := 26) ?hr ?_; (case hd => rfl); (case hg => rfl); (case hr => exact hrr_); intro gb4 hg w10 hbox hb; have n0_ := bb_ BK1.out hb; have n1_ := bb_ BK2.out hb; have n2_ := bs_ hb; have n3_ := am_ (hbox); have n4_ := ge_ (w := w) hg; have n5_ := ge_ (w := w) hg; have n6_ := nl_ BK1.out hg; have n7_ := nr_ BK1.out hg; have n8_ := nl_ BK2.out hg; have n9_ := nr_ BK2.out hg; clear BK1; clear BK2; clear HB; have BK1 := n0_; have BK2 := n1_; have HB := n2_; have BK4 := n3_; have GW4 := n4_; have GE4 := n5_; have NB1_4 := n6_; have NB4_1 := n7_; have NB2_4 := n8_; have NB4_2 := n9_; clear n0_ n1_ n2_ n3_ n4_ n5_ n6_ n7_ n8_ n9_; clear hb hbox hg; have hnb11 := NB4_1.out; have hnc11 := NB1_4.out; have hnb12 := NB4_2.out; have hnc12 := NB2_4.out; obtain ⟨hcz13_0, hcz13_1, hfz13_0, hfz13_1⟩ := bc2_ BK4.out; obtain ⟨hcz14_0, hcz14_1, hfz14_0, hfz14_1⟩ := bc2_ BK1.out))
 go_loopg [17] k (fun kq v17 w' => ∃ (x17_1 : Int) (x5001_1 : List (List (S50))) (u5001 : Value), v17 = .int .i64 x17_1 ∧ Aside0 (impl_StripFences.l0 kq l0_1 (l0_1.length : Int) x17_1 a0_0 x5001_1 = some (r1, r2, r3)) ∧ Aside0 (kq ≤ k) ∧ Aside0 (Kd.S (Kd.slice 50 k50) 46 w' w.heap.size (fun _ => True) u5001 x5001_1) ∧ Aside0 (w'.heap[gb1]? = some (.cells #[.int .i64 a0_0, (.slice A0_1 l0_1.length c0_1)] 26 (0, 0))) ∧ Aside0 (w'.heap[gb2]? = some (.cells #[.int .i64 0, (.slice none 0 0)] 26 (0, 0))) ∧ Aside0 (w'.heap[gb4]? = some (.cells #[.int .i64 a0_0, u5001] 26 (0, 0))) ∧ Aside0 (Below w.heap.size w w'))
 case atStart => exact ⟨(0), (([] : List (List (S50)))), (.slice none 0 0), sd_, H', ⟨Nat.le_refl _⟩, ⟨by first | exact Kd.S_nil _ _ _ _ _ | exact Kd.N_nil _ _ _ _ _ | exact Kd.V_nil _ _ _ _ _ | exact Kd.Q_nil _ _ _ _ _ | exact Kd.R_nil _ _ _ _ _⟩, ⟨by (with_reducible repeat (first | refine blk_drewN ?_ _ | refine blk_drew ?_ | refine blk_alloc ?_ _)); refine blk_far ?_ NB1_4.out _; (with_reducible repeat (first | refine blk_drewN ?_ _ | refine blk_drew ?_ | refine blk_alloc ?_ _)); refine blk_far ?_ NB1_4.out _; exact bk_⟩, ⟨by (with_reducible repeat (first | refine blk_drewN ?_ _ | refine blk_drew ?_ | refine blk_alloc ?_ _)); refine blk_far ?_ NB2_4.out _; (with_reducible repeat (first | refine blk_drewN ?_ _ | refine blk_drew ?_ | refine blk_alloc ?_ _)); refine blk_far ?_ NB2_4.out _; exact bk_⟩, ⟨by (with_reducible repeat (first | refine blk_drewN ?_ _ | refine blk_drew ?_ | refine blk_alloc ?_ _)); refine blk_put (cs := #[.int .i64 a0_0, .slice none 0 0]) ?_ 1 _ rfl; (with_reducible repeat (first | refine blk_drewN ?_ _ | refine blk_drew ?_ | refine blk_alloc ?_ _)); refine blk_put (cs := #[.int .i64 0, .slice none 0 0]) ?_ 0 _ rfl; exact bk_⟩, ⟨bw_⟩⟩
 case round =>
  clear H'
  try clear c1
  try clear p2
  try clear c3
  try clear c6
  try clear hcz13_0 hcz13_1
  try clear hcz14_0 hcz14_1
  try clear hcz7_0 hcz7_1
  try clear hcz9_0 hcz9_1
  try clear hfz13_0 hfz13_1
  try clear hfz14_0 hfz14_1
  try clear hfz7_0 hfz7_1
  try clear hfz9_0 hfz9_1
  obtain ⟨x17_1, x5001_1, u5001, rfl, HA, HK1, HO_5001, BK1, BK2, BK4, HB⟩ := hrel
  cases gk with
  | zero => exact absurd HA.out (by simp [impl_StripFences.l0])
  | succ k1 =>
   have H := HA.out
   clear HA
   simp only [impl_StripFences.l0] at H
   by_cases c15 : x17_1 < (l0_1.length : Int)
   rotate_left
   ·rw [if_neg c15] at H
    have c15b0 : decide (x17_1 < (l0_1.length : Int)) = false := decide_eq_false c15
    clear c15
    simp only [Option.some.injEq, Prod.mk.injEq] at H
    obtain ⟨rfl, rfl, rfl⟩ := H
    have hnb26 := NB4_1.out
    have hnc26 := NB1_4.out
    have hnb27 := NB4_2.out
    have hnc27 := NB2_4.out
    obtain ⟨hcz28_0, hcz28_1, hfz28_0, hfz28_1⟩ := bc2_ BK4.out
    have hnb29 := NB2_1.out
    have hnc29 := NB1_2.out
    obtain ⟨hcz30_0, hcz30_1, hfz30_0, hfz30_1⟩ := bc2_ BK2.out
    obtain ⟨Ao31, co31, eo31⟩ := Kd.S_slice HO_5001.out
    subst eo31
    go_wp2
    refine bodyPost_ret (results_ct rfl _ _ gb2 26 #[.int .i64 a0_0, .slice Ao31 x5001_1.length co31] (0, 0) _ rfl (by (with_reducible repeat (first | refine blk_drewN ?_ _ | refine blk_drew ?_ | refine blk_alloc ?_ _)); refine blk_put (cs := #[.int .i64 a0_0, .slice none 0 0]) ?_ 1 _ rfl; (with_reducible repeat (first | refine blk_drewN ?_ _ | refine blk_drew ?_ | refine blk_alloc ?_ _)); refine blk_put (cs := #[.int .i64 0, .slice none 0 0]) ?_ 0 _ rfl; exact bk_) Try.underlying26 rfl kr_) rfl ?_
    exact ⟨_, rr_, by (with_reducible repeat (first | apply Kd.S_alloc | apply Kd.S_drewN | apply Kd.S_drew)); exact Kd.S_mono (Kd.S_far (p := ⟨gb2, 1, none⟩) (Kd.S_far (p := ⟨gb2, 0, none⟩) (Kd.S_types HO_5001.out BK2.out (by decide)) (fun _ hk => hk.2) (.int .i64 a0_0)) (fun _ hk => hk.2) (.slice Ao31 x5001_1.length co31)) (fun _ hk => trivial), bw_⟩
   rw [if_pos c15] at H
   have c15b0 : decide (x17_1 < (l0_1.length : Int)) = true := decide_eq_true c15
   clear c15
   by_cases c16 : 0 ≤ x17_1
   rotate_left
   ·rw [if_neg c16] at H
    exact absurd H (by simp)
   rw [if_pos c16] at H
   have c16b0 : decide (0 ≤ x17_1) = true := decide_eq_true c16
   clear c16
   by_cases c17 : x17_1 < (l0_1.length : Int)
   rotate_left
   ·rw [if_neg c17] at H
    exact absurd H (by simp)
   rw [if_pos c17] at H
   have c17b0 : decide (x17_1 < (l0_1.length : Int)) = true := decide_eq_true c17
   clear c17
   replace H := Option.bind_eq_some_iff.mp H
   obtain ⟨t6, A180, H⟩ := H
   replace H : (if x5001_1.length < 5864062014805 then (impl_StripFences.l0 k1 l0_1 (l0_1.length : Int) (wrap64 (x17_1 + 1)) a0_0 (x5001_1 ++ [t6])) else (none)) = some (r1, r2, r3) := H
   have A18 := am_ A180
   clear A180
   by_cases c19 : x5001_1.length < 5864062014805
   rotate_left
   ·rw [if_neg c19] at H
    exact absurd H (by simp)
   rw [if_pos c19] at H
   have LMc19 := am_ c19
   clear c19
   obtain ⟨y9, hy9⟩ : ∃ y_ : List (List (S50)), y_ = (x5001_1 ++ [t6]) := ⟨_, rfl⟩
   replace H : (impl_StripFences.l0 k1 l0_1 (l0_1.length : Int) (wrap64 (x17_1 + 1)) a0_0 y9) = some (r1, r2, r3) := rh_ hy9
   have Ny9 := am_ hy9
   clear hy9
   have H' := am_ H
   clear H
   have p5 : 0 ≤ (x17_1 : Int) := od_
   have q5 : x17_1 < (l0_1.length : Int) := od_
   obtain ⟨ad5, A5_0, c5_0, e5, hx5_0, hl5_0, hi5_0⟩ := at_L4 HR0_1.out x17_1 p5 q5
   cases e5
   replace hx5_0 := (HB.out.cell (World.block_lt_of_cell? w _ hx5_0)).trans hx5_0
   have HR5_0 := am_ hi5_0
   have HC5_0 := am_ hl5_0
   clear hi5_0 hl5_0
   replace p5 := eq_true p5
   replace q5 := eq_true q5
   try go_wp2
   have n0_ := am_ (Kd.S_drew HO_5001.out)
   have n1_ := am_ (blk_drew BK1.out)
   have n2_ := am_ (blk_drew BK2.out)
   have n3_ := am_ (blk_drew BK4.out)
   have n4_ := am_ (below_drew1 HB.out)
   clear HO_5001
   clear BK1
   clear BK2
   clear BK4
   clear HB
   have HO_5001 := n0_
   have BK1 := n1_
   have BK2 := n2_
   have BK4 := n3_
   have HB := n4_
   clear n0_ n1_ n2_ n3_ n4_
   refine start_ (n := 8) (S := fun w' => w'.cell? ⟨gb4, 0, none⟩ = some (.int .i64 a0_0) ∧ w'.cell? ⟨gb4, 1, none⟩ = some (u5001)) (ds := [7]) (bm_ 8 0) kr_ rfl rfl ⟨(blk_cell BK4.out 0).trans rfl, (blk_cell BK4.out 1).trans rfl⟩ (fun hHeld => ?_); refine with_tabW impl_StripFences.tab7 impl_StripFences.bits7 (fun HT_ HW_ => ?_)
   generalize wr.drew = w20 at HO_5001 BK1 BK2 BK4 HB hHeld ⊢
   refine pure_ (i := 0) (N := some 21) (bm_ 8 1) rfl rfl (any_of HT_.out kr_) (fun _ _ _ h => h) (Or.inl ⟨rfl, yi_⟩) pu_ ?_
   refine pure_ (i := 2) (N := some 23) (bm_ 8 5) rfl rfl (any_of HT_.out kr_) (fun _ _ _ h => h) (Or.inl ⟨rfl, yi_⟩) pu_ ?_
   refine take_ (i := 1) (N := some 22) (v := ?_) (a' := ?_) (bm_ 8 7) rfl rfl (take_ofW HT_.out HW_.out kr_) (fun _ _ _ h => h) (Or.inl ⟨by rfl, ?_⟩) hHeld ?_ ?_
   rotate_left
   ·rintro w' ⟨s0, s1⟩
    go_simp
    with_reducible rfl
   rotate_left
   ·exact pu_
   refine one_ (i := 3) (N := some 24) (bm_ 8 15) rfl rfl (one_of HT_.out kr_) (by decide) (fun K hK => ?_)
   refine goes_ Try.func24 kr_ rfl #[.slice A5_0 (rd_L4 l0_1 x17_1).length c5_0] (by rfl) rfl rfl ar_ ?_
   with_reducible refine (impl_stripped.calls k1 _ _ (rd_L4 l0_1 x17_1) t6 _ ?side1 ?side2 A18.out).mono ?_
   (case side1 => exact cb_)
   (case side2 => exact HC5_0.out)
   rintro e w21 ⟨v7, rfl, ho0, hb⟩
   refine ⟨_, rfl, ?_⟩
   have n0_ := am_ (Kd.S_elder' (sx_ HO_5001.out) (Kd.R_base ho0) hb)
   have n1_ := am_ (Kd.R_lower ho0 (below_size bw_))
   have n2_ := bb_ BK1.out hb
   have n3_ := bb_ BK2.out hb
   have n4_ := bb_ BK4.out hb
   have n5_ := bs_ hb
   clear HO_5001
   clear BK1
   clear BK2
   clear BK4
   clear HB
   have HO_5001 := n0_
   have HO8 := n1_
   have BK1 := n2_
   have BK2 := n3_
   have BK4 := n4_
   have HB := n5_
   clear n0_ n1_ n2_ n3_ n4_ n5_
   (try clear hb)
   (try clear hb2)
   (try clear hk)
   (try clear hi)
   (try clear ho0)
   obtain ⟨Ao23, co23, eo23⟩ := Kd.R_slice HO8.out
   (first | subst eo23 | (injection eo23 with f1_ f2_ f3_; have f4_ := f1_.symm; have f5_ := f3_.symm; clear f1_ f2_ f3_; subst f4_; subst f5_))
   refine hK.out _ _ ⟨(blk_cell BK4.out 0).trans rfl, (blk_cell BK4.out 1).trans rfl⟩ (fun hHeld => ?_)
   clear hK K
   refine norm_ (a' := ?_) ?_ ?_
   rotate_left
   ·show Act.put _ (some 24) _ = _
    simp only [Act.put, List.setIfInBounds_toArray, List.set_cons_zero, List.set_cons_succ, i64_w, i32_w]
    rfl
   refine one_ (i := 4) (N := some 25) (bm_ 8 31) rfl rfl (one_of HT_.out kr_) (by decide) (fun K hK => ?_)
   refine value_ (w1 := ?_) (v := ?_) (by rfl) rfl ?_ ?_
   rotate_left 2
   ·go_simp
    constructor
    ·rfl
    ·rfl
   refine hK.out _ _ ⟨(blk_cell (blk_alloc BK4.out _) 0).trans rfl, (blk_cell (blk_alloc BK4.out _) 1).trans rfl⟩ (fun hHeld => ?_)
   clear hK K
   refine norm_ (a' := ?_) ?_ ?_
   rotate_left
   ·show Act.put _ (some 25) _ = _
    simp only [Act.put, List.setIfInBounds_toArray, List.set_cons_zero, List.set_cons_succ, i64_w, i32_w]
    rfl
   refine one_ (i := 5) (N := some 26) (bm_ 8 63) rfl rfl (one_of HT_.out kr_) (by decide) (fun K hK => ?_)
   refine Kd.S_append_step (Kd.slice 50 k50) (w0 := w) w.heap.size (by rfl) (.tmp 22) (.tmp 25) 24 46 (.slice none 0 0) 24 rfl Try.underlying24 info46 rfl (by decide) (by omega) u5001 x5001_1 t6 [.slice Ao23 t6.length co23] (fun _ => True) (fun k_ => some k_ = (.slice Ao23 t6.length co23 : Value).ownBlock) rfl rfl ?aP (fun k_ hk_ => ((Kd.R_mono (ok' := fun k_ => ((fun _ => True)) k_ ∧ some k_ ≠ (u5001 : Value).ownBlock) (Kd.R_apart' (HO8.out) (Kd.S_typed HO_5001.out) (by decide)) (fun k_ hk => ⟨trivial, hk.2⟩))).1 k_ hk_.symm) ?aF ?aO ?aB ?aS ?aL ?_
   (case aP => exact Kd.M_row (Kd.R_mono (Kd.R_tight rfl (Kd.R_mono (ok' := fun k_ => ((fun _ => True)) k_ ∧ some k_ ≠ (u5001 : Value).ownBlock) (Kd.R_apart' (HO8.out) (Kd.S_typed HO_5001.out) (by decide)) (fun k_ hk => ⟨trivial, hk.2⟩))) (fun _ h_ => h_)))
   (case aB => exact bw_)
   (case aF => exact (fun _ _ => trivial))
   (case aO => exact (by (with_reducible repeat (first | apply Kd.S_alloc | apply Kd.S_drewN | apply Kd.S_drew)); exact Kd.S_mono HO_5001.out (fun k_ hk => ⟨trivial, fun e_ => hk.2 e_⟩)))
   (case aS => exact (below_size bw_))
   (case aL => have := LMc19.out; omega)
   intro v10 w22 ho hb hg hat
   rw [← Ny9.out] at ho
   have n0_ := am_ (blk_grown (g := gb1) (o := .cells #[.int .i64 a0_0, .slice (some ad5) l0_1.length c0_1] 26 (0, 0)) bk_ hg (Kd.S_ne HO_5001.out BK1.out (by decide)))
   have n1_ := am_ (blk_grown (g := gb2) (o := .cells #[.int .i64 0, .slice none 0 0] 26 (0, 0)) bk_ hg (Kd.S_ne HO_5001.out BK2.out (by decide)))
   have n2_ := am_ (blk_grown (g := gb4) (o := .cells #[.int .i64 a0_0, u5001] 26 (0, 0)) bk_ hg (Kd.S_ne HO_5001.out BK4.out (by decide)))
   have n3_ := am_ (hb)
   have n4_ := am_ (ho)
   clear BK1
   clear BK2
   clear BK4
   clear HB
   clear HO_5001
   clear HO8
   have BK1 := n0_
   have BK2 := n1_
   have BK4 := n2_
   have HB := n3_
   have HO11 := n4_
   clear n0_ n1_ n2_ n3_ n4_
   clear ho hb hg hat
   obtain ⟨Ao24, co24, eo24⟩ := Kd.S_slice HO11.out
   (first | subst eo24 | (injection eo24 with f1_ f2_ f3_; have f4_ := f1_.symm; have f5_ := f3_.symm; clear f1_ f2_ f3_; subst f4_; subst f5_))
   refine hK.out _ _ ⟨(blk_cell BK4.out 0).trans rfl, (blk_cell BK4.out 1).trans rfl⟩ (fun hHeld => ?_)
   clear hK K
   refine norm_ (a' := ?_) ?_ ?_
   rotate_left
   ·show Act.put _ (some 26) _ = _
    simp only [Act.put, List.setIfInBounds_toArray, List.set_cons_zero, List.set_cons_succ, i64_w, i32_w]
    rfl
   refine pure_ (i := 6) (N := some 27) (bm_ 8 127) rfl rfl (any_of HT_.out kr_) (fun _ _ _ h => h) (Or.inl ⟨rfl, yi_⟩) pu_ ?_
   refine last_ (i := 7) (N := none) (bm_ 8 255) rfl rfl (one_of HT_.out kr_) (by decide) (fun K hK => ?_)
   have hs25 : w22.cell? ⟨gb4, 1, none⟩ = some (u5001) := (blk_cell BK4.out 1).trans rfl
   have hfs25 := blk_frozen BK4.out 1
   have hns25_0 := NB1_4.out
   have hns25_1 := NB2_4.out
   have hms25_0 := NB4_1.out
   have hms25_1 := NB4_2.out
   refine skip_ (w1 := ?_) (by rfl) rfl ?_ ?_
   rotate_left
   ·go_simp
    rfl
   refine hK.out _ _ ?_
   clear hK K
   refine done_ (done_of HT_.out kr_) ?_
   try go_wp2
   go_roundg k1
   case measure => have := HK1.out; omega
   case rel => exact ⟨(wrap64 (x17_1 + 1)), (y9), (.slice Ao24 y9.length co24), sd_, H', ⟨by have := HK1.out; omega⟩, ⟨by (with_reducible repeat (first | apply Kd.S_alloc | apply Kd.S_drewN | apply Kd.S_drew)); exact Kd.S_mono (Kd.S_far (p := ⟨gb4, 1, none⟩) (Kd.S_types HO11.out BK4.out (by decide)) (fun _ hk => hk.2) (.slice Ao24 y9.length co24)) (fun _ hk => trivial)⟩, ⟨by (with_reducible repeat (first | refine blk_drewN ?_ _ | refine blk_drew ?_ | refine blk_alloc ?_ _)); refine blk_far ?_ NB1_4.out _; exact bk_⟩, ⟨by (with_reducible repeat (first | refine blk_drewN ?_ _ | refine blk_drew ?_ | refine blk_alloc ?_ _)); refine blk_far ?_ NB2_4.out _; exact bk_⟩, ⟨by (with_reducible repeat (first | refine blk_drewN ?_ _ | refine blk_drew ?_ | refine blk_alloc ?_ _)); refine blk_put (cs := #[.int .i64 a0_0, u5001]) ?_ 1 _ rfl; exact bk_⟩, ⟨bw_⟩⟩

/-! ### laws_sameCode: function 25 -/
def laws_sameCode.l0 : Nat → List (S50) → List (S50) → Int → Option (Bool)
 | 0, _, _, _ => none
 | k + 1, x0, x1, x5 => if x5 < (x0.length : Int) then (if 0 ≤ x5 then (if x5 < (x1.length : Int) then (if (!(((rd_T50 x0 x5).f0) == ((rd_T50 x1 x5).f0)) || (!(((rd_T50 x0 x5).f1) == ((rd_T50 x1 x5).f1)) || (!(((rd_T50 x0 x5).f2) == ((rd_T50 x1 x5).f2)) || (!(((rd_T50 x0 x5).f3) == ((rd_T50 x1 x5).f3)))))) = true then (some false) else (laws_sameCode.l0 k x0 x1 (wrap64 (x5 + 1)))) else (none)) else (none)) else (some true)
def laws_sameCode.f (k : Nat) (l0 : List (S50)) (l1 : List (S50)) : Option (Bool) := if (l0.length : Int) = (l1.length : Int) then (laws_sameCode.l0 k l0 l1 0) else (some false)
theorem laws_sameCode.mono_l : ∀ k, (∀ y0 y1 y2, LeO (laws_sameCode.l0 k y0 y1 y2) (laws_sameCode.l0 (k + 1) y0 y1 y2))
 | 0 => fun _ _ _ r h => by simp [laws_sameCode.l0] at h
 | k + 1 => by
  have ih0 := laws_sameCode.mono_l k
  ·intro y0 y1 y2
   unfold laws_sameCode.l0
   repeat' first | (with_reducible first | exact ih0 _ _ _ | exact lr_ | exact ln_ | refine LeO.ite ?_ ?_ | refine LeO.bind ?_ (fun _ => ?_)) | exact ih0 _ _ _ | exact ln_ | refine LeO.ite ?_ ?_ | refine LeO.bind ?_ (fun _ => ?_)
theorem laws_sameCode.mono : ∀ a0 a1 k, LeO (laws_sameCode.f k a0 a1) (laws_sameCode.f (k + 1) a0 a1) := by
 intro a0 a1 k
 have ih0 := laws_sameCode.mono_l k
 unfold laws_sameCode.f
 repeat' first | (with_reducible first | exact ih0 _ _ _ | exact lr_ | exact ln_ | refine LeO.ite ?_ ?_ | refine LeO.bind ?_ (fun _ => ?_)) | exact ih0 _ _ _ | exact ln_ | refine LeO.ite ?_ ?_ | refine LeO.bind ?_ (fun _ => ?_)
set_option maxHeartbeats 8000000 in
set_option maxRecDepth 100000 in
theorem laws_sameCode.calls (k : Nat) (A0 : Option Addr) (c0 : Nat) (l0 : List (S50)) (A1 : Option Addr) (c1 : Nat) (l1 : List (S50)) (r : Bool) (w : World) (hr0 : Kd.C k50 w A0 l0.length l0) (hc0 : l0.length ≤ c0) (hr1 : Kd.C k50 w A1 l1.length l1) (hc1 : l1.length ≤ c1) (h : laws_sameCode.f k l0 l1 = some r) :
  Calls Try.prog 25 #[.slice A0 l0.length c0, .slice A1 l1.length c1] w fun e w' => e = .returned (.bool r) ∧ Drawn0 w w' := by
 have hu50 := Try.underlying50
 have HR0 := am_ hr0
 have HC0 := am_ hc0
 clear hr0 hc0
 have HR1 := am_ hr1
 have HC1 := am_ hc1
 clear hr1 hc1
 have H : (if (l0.length : Int) = (l1.length : Int) then (laws_sameCode.l0 k l0 l1 0) else (some false)) = some r := h
 clear h
 by_cases c3 : (l0.length : Int) = (l1.length : Int)
 rotate_left
 ·rw [if_neg c3] at H
  have c3b0 : ((l0.length : Int) == (l1.length : Int)) = false := beq_eq_false_iff_ne.mpr c3
  have c3b1 : ((l0.length : Int) != (l1.length : Int)) = true := bne_iff_ne.mpr c3
  have c3b2 : (l0.length == l1.length) = false := by first | simpa using c3 | (simp at c3 ⊢; omega)
  obtain rfl := Option.some.inj H
  go_enter Try.func25, Try.ntmps25
  go_wp2
  repeat (go_quiet (fail); try go_wp2)
  go_ret
  exact ⟨sd_, by repeat (first | exact Drawn0.refl _ | apply Drawn0.step)⟩
 rw [if_pos c3] at H
 have c3b0 : ((l0.length : Int) == (l1.length : Int)) = true := beq_iff_eq.mpr c3
 have c3b1 : ((l0.length : Int) != (l1.length : Int)) = false := bne_eq_false_iff_eq.mpr c3
 have c3b2 : (l0.length == l1.length) = true := by first | simpa using c3 | (simp at c3 ⊢; omega)
 clear c3
 have H' := am_ H
 clear H
 go_enter Try.func25, Try.ntmps25
 go_wp2
 repeat (go_quiet (fail); try go_wp2)
 go_loopg [5] k (fun kq v5 w' => ∃ (x5_1 : Int), v5 = .int .i64 x5_1 ∧ Aside0 (laws_sameCode.l0 kq l0 l1 x5_1 = some r) ∧ Aside0 (kq ≤ k) ∧ Drawn0 w w')
 case atStart => exact ⟨(0), sd_, H', ⟨Nat.le_refl _⟩, by repeat (first | exact Drawn0.refl _ | apply Drawn0.step)⟩
 case round =>
  clear H'
  try clear c1
  try clear p2
  try clear c3
  try clear c3b0
  try clear c3b1
  try clear c3b2
  obtain ⟨x5_1, rfl, HA, HK1, ⟨m1, rfl⟩⟩ := hrel
  cases gk with
  | zero => exact absurd HA.out (by simp [laws_sameCode.l0])
  | succ k1 =>
   have H := HA.out
   clear HA
   simp only [laws_sameCode.l0] at H
   by_cases c4 : x5_1 < (l0.length : Int)
   rotate_left
   ·rw [if_neg c4] at H
    have c4b0 : decide (x5_1 < (l0.length : Int)) = false := decide_eq_false c4
    clear c4
    obtain rfl := Option.some.inj H
    go_wp2
    repeat (go_quiet (fail); try go_wp2)
    go_ret
    exact ⟨sd_, by repeat (first | exact Drawn0.refl _ | apply Drawn0.step)⟩
   rw [if_pos c4] at H
   have c4b0 : decide (x5_1 < (l0.length : Int)) = true := decide_eq_true c4
   clear c4
   by_cases c5 : 0 ≤ x5_1
   rotate_left
   ·rw [if_neg c5] at H
    exact absurd H (by simp)
   rw [if_pos c5] at H
   have c5b0 : decide (0 ≤ x5_1) = true := decide_eq_true c5
   clear c5
   by_cases c6 : x5_1 < (l1.length : Int)
   rotate_left
   ·rw [if_neg c6] at H
    exact absurd H (by simp)
   rw [if_pos c6] at H
   have c6b0 : decide (x5_1 < (l1.length : Int)) = true := decide_eq_true c6
   clear c6
   by_cases c7 : (!(((rd_T50 l0 x5_1).f0) == ((rd_T50 l1 x5_1).f0)) || (!(((rd_T50 l0 x5_1).f1) == ((rd_T50 l1 x5_1).f1)) || (!(((rd_T50 l0 x5_1).f2) == ((rd_T50 l1 x5_1).f2)) || (!(((rd_T50 l0 x5_1).f3) == ((rd_T50 l1 x5_1).f3)))))) = true
   ·rw [if_pos c7] at H
    have c7b0 : (!(((rd_T50 l0 x5_1).f0) == ((rd_T50 l1 x5_1).f0)) || (!(((rd_T50 l0 x5_1).f1) == ((rd_T50 l1 x5_1).f1)) || (!(((rd_T50 l0 x5_1).f2) == ((rd_T50 l1 x5_1).f2)) || (!(((rd_T50 l0 x5_1).f3) == ((rd_T50 l1 x5_1).f3)))))) = true := c7
    clear c7
    obtain rfl := Option.some.inj H
    have p1 : 0 ≤ (x5_1 : Int) := od_
    have q1 : x5_1 < (l0.length : Int) := od_
    obtain ⟨ad1, e1, hx1_0, hx1_1, hx1_2, hx1_3⟩ := at_T50 HR0.out x5_1 p1 q1
    cases e1
    replace p1 := eq_true p1
    replace q1 := eq_true q1
    have p2 : 0 ≤ (x5_1 : Int) := od_
    have q2 : x5_1 < (l1.length : Int) := od_
    obtain ⟨ad2, e2, hx2_0, hx2_1, hx2_2, hx2_3⟩ := at_T50 HR1.out x5_1 p2 q2
    cases e2
    replace p2 := eq_true p2
    replace q2 := eq_true q2
    go_wp2
    repeat (go_quiet (fail); try go_wp2)
    go_ret
    exact ⟨sd_, by repeat (first | exact Drawn0.refl _ | apply Drawn0.step)⟩
   rw [if_neg c7] at H
   have c7b0 : (!(((rd_T50 l0 x5_1).f0) == ((rd_T50 l1 x5_1).f0)) || (!(((rd_T50 l0 x5_1).f1) == ((rd_T50 l1 x5_1).f1)) || (!(((rd_T50 l0 x5_1).f2) == ((rd_T50 l1 x5_1).f2)) || (!(((rd_T50 l0 x5_1).f3) == ((rd_T50 l1 x5_1).f3)))))) = false := by simpa using c7
   clear c7
   have H' := am_ H
   clear H
   have p1 : 0 ≤ (x5_1 : Int) := od_
   have q1 : x5_1 < (l0.length : Int) := od_
   obtain ⟨ad1, e1, hx1_0, hx1_1, hx1_2, hx1_3⟩ := at_T50 HR0.out x5_1 p1 q1
   cases e1
   replace p1 := eq_true p1
   replace q1 := eq_true q1
   have p2 : 0 ≤ (x5_1 : Int) := od_
   have q2 : x5_1 < (l1.length : Int) := od_
   obtain ⟨ad2, e2, hx2_0, hx2_1, hx2_2, hx2_3⟩ := at_T50 HR1.out x5_1 p2 q2
   cases e2
   replace p2 := eq_true p2
   replace q2 := eq_true q2
   go_wp2
   repeat (go_quiet (fail); try go_wp2)
   go_roundg k1
   case measure => have := HK1.out; omega
   case rel => exact ⟨(wrap64 (x5_1 + 1)), sd_, H', ⟨by have := HK1.out; omega⟩, by repeat (first | exact Drawn0.refl _ | apply Drawn0.step)⟩

end Go.Proofs.Ytbgclnjnngolmaa.P
