-- Written by mp.py (the session's own driver over the kit's printer) for the seat YtbgclnjnngolmaaGreatDoor.
import Derived.Test.YtbgclnjnngolmaaGreatDoorK
import Derived.Test.YtbgclnjnngolmaaGreatDoorPimplParseAsk
import Derived.Test.YtbgclnjnngolmaaGreatDoorPimplParseCode
import Derived.Test.YtbgclnjnngolmaaGreatDoorPimplknown
import Derived.Test.YtbgclnjnngolmaaGreatDoorEnv
namespace Go.Proofs.YtbgclnjnngolmaaGreatDoor.P
open Go.RowKit Go.Proofs.YtbgclnjnngolmaaGreatDoorW.PrintWords Go.Proofs.YtbgclnjnngolmaaGreatDoorW.PrintLast Go.Proofs.YtbgclnjnngolmaaGreatDoorW.PrintMore
attribute [local go_sem] max2_int min2_int max_two min_two max_three min_three max_four min_four
set_option linter.unusedVariables false
set_option linter.unusedSimpArgs false

/-! ### impl_Known: function 5 -/
def impl_Known.l0 : Nat → ByteArray → List ByteArray → Int → Int → Int → List (List (S55)) → Option (Int × (List (List (S55))) × (List (S46)) × Bool)
 | 0, _, _, _, _, _, _ => none
 | k + 1, x6, x24, x25, x26, x7000, x7001 => if x26 < x25 then (if 0 ≤ x26 then (if x26 < (x24.length : Int) then ((impl_ParseCode.f k (rdOf ByteArray.empty x24 x26)).bind fun bt8 => (if x7001.length < 5864062014805 then (impl_Known.l0 k x6 x24 x25 (wrap64 (x26 + 1)) x7000 (x7001 ++ [bt8.1])) else (none))) else (none)) else (none)) else ((impl_ParseAsk.f k x6).bind fun bt15 => (some (x7000, x7001, bt15.1, true)))
def impl_Known.f (k : Nat) (a0 : ByteArray) : Option (Int × (List (List (S55))) × (List (S46)) × Bool) := (impl_known.f a0).bind fun bt2 => (if (bt2.1.length : Int) = 0 then (some (0, ([] : List (List (S55))), ([] : List (S46)), false)) else (impl_Known.l0 k bt2.2 bt2.1 (bt2.1.length : Int) 0 2 ([] : List (List (S55)))))
theorem impl_Known.mono_l : ∀ k, (∀ y0 y1 y2 y3 y4 y5, LeO (impl_Known.l0 k y0 y1 y2 y3 y4 y5) (impl_Known.l0 (k + 1) y0 y1 y2 y3 y4 y5))
 | 0 => fun _ _ _ _ _ _ r h => by simp [impl_Known.l0] at h
 | k + 1 => by
  have ih0 := impl_Known.mono_l k
  ·intro y0 y1 y2 y3 y4 y5
   unfold impl_Known.l0
   repeat' first | (with_reducible first | exact ih0 _ _ _ _ _ _ | exact impl_ParseAsk.mono _ _ | exact impl_ParseCode.mono _ _ | exact lr_ | exact ln_ | refine LeO.ite ?_ ?_ | refine LeO.bind ?_ (fun _ => ?_)) | exact ih0 _ _ _ _ _ _ | exact impl_ParseAsk.mono _ _ | exact impl_ParseCode.mono _ _ | exact ln_ | refine LeO.ite ?_ ?_ | refine LeO.bind ?_ (fun _ => ?_)
theorem impl_Known.mono : ∀ a0 k, LeO (impl_Known.f k a0) (impl_Known.f (k + 1) a0) := by
 intro a0 k
 have ih0 := impl_Known.mono_l k
 unfold impl_Known.f
 repeat' first | (with_reducible first | exact ih0 _ _ _ _ _ _ | exact impl_ParseAsk.mono _ _ | exact impl_ParseCode.mono _ _ | exact lr_ | exact ln_ | refine LeO.ite ?_ ?_ | refine LeO.bind ?_ (fun _ => ?_)) | exact ih0 _ _ _ _ _ _ | exact impl_ParseAsk.mono _ _ | exact impl_ParseCode.mono _ _ | exact ln_ | refine LeO.ite ?_ ?_ | refine LeO.bind ?_ (fun _ => ?_)
set_option maxHeartbeats 8000000 in
set_option maxRecDepth 100000 in
theorem impl_Known.calls (k : Nat) (a0 : ByteArray) (r1 : Int) (r2 : List (List (S55))) (r3 : List (S46)) (r4 : Bool) (w : World) (hE_ : EnvOk true w) (h : impl_Known.f k a0 = some (r1, r2, r3, r4)) :
  Calls Tryz.prog 5 #[.string a0] w fun e w' => ∃ v1_ v2_ : Value, e = .returned (.tuple #[.agg #[.int .i64 r1, v1_], v2_, .bool r4]) ∧ Kd.S (Kd.slice 55 k55) 40 w' w.heap.size (fun _ => True) v1_ r2 ∧ Kd.R k46 46 w' w.heap.size (fun _ => True) v2_ r3 ∧ Below w.heap.size w w' := by
 have HE_ := Aside0.mk hE_
 clear hE_
 have hu24 := Tryz.underlying24
 have HB := Aside0.mk (Below.refl w.heap.size w)
 have H : ((impl_known.f a0).bind fun bt2 => (if (bt2.1.length : Int) = 0 then (some (0, ([] : List (List (S55))), ([] : List (S46)), false)) else (impl_Known.l0 k bt2.2 bt2.1 (bt2.1.length : Int) 0 2 ([] : List (List (S55)))))) = some (r1, r2, r3, r4) := h
 clear h
 replace H := Option.bind_eq_some_iff.mp H
 obtain ⟨⟨t2, t3⟩, A20, H⟩ := H
 replace H : (if (t2.length : Int) = 0 then (some (0, ([] : List (List (S55))), ([] : List (S46)), false)) else (impl_Known.l0 k t3 t2 (t2.length : Int) 0 2 ([] : List (List (S55))))) = some (r1, r2, r3, r4) := H
 have A2 := Aside0.mk A20
 clear A20
 by_cases c3 : (t2.length : Int) = 0
 ·rw [if_pos c3] at H
  have c3b0 : ((t2.length : Int) == 0) = true := beq_iff_eq.mpr c3
  have c3b1 : ((t2.length : Int) != 0) = false := bne_eq_false_iff_eq.mpr c3
  clear c3
  simp only [Option.some.injEq, Prod.mk.injEq] at H
  obtain ⟨rfl, rfl, rfl, rfl⟩ := H
  go_enter Tryz.func5, Tryz.ntmps5
  go_wp2_with (first | ((with_reducible refine gate_dst (N := 2) rfl ?_); refine box_event ?hg (N := 2) ?hd (cs := #[.int .i64 0, .slice none 0 0]) (t := 24) ?hr ?_; (case hd => rfl); (case hg => rfl); (case hr => exact hrr_); intro gb1 hg w4 hbox hb; have n0_ := bs_ hb; have n1_ := Aside0.mk (hbox); have n2_ := ge_ (w := w) hg; have n3_ := ge_ (w := w) hg; clear HB; have HB := n0_; have BK1 := n1_; have GW1 := n2_; have GE1 := n3_; clear n0_ n1_ n2_ n3_; clear hb hbox hg) | ((with_reducible refine gate_callee (f := 14) rfl ?_); refine goesL_ (some 16) rfl rfl Tryz.func14 (by kernel_rfl) rfl #[.string a0] rfl ar_ ?_; (with_reducible refine (impl_known.calls a0 t2 t3 _ A2.out).mono ?_); rintro e w5 ⟨v4, rfl, ho0, hb⟩; refine ⟨_, rfl, ?_⟩; have n0_ := Aside0.mk (Kd.R_lower ho0 (below_size bw_)); have n1_ := bb_ BK1.out hb; have n2_ := bs_ hb; clear BK1; clear HB; have HO5 := n0_; have BK1 := n1_; have HB := n2_; clear n0_ n1_ n2_; (try clear hb); (try clear hb2); (try clear hk); (try clear hi); (try clear ho0); obtain ⟨Ao6, co6, eo6⟩ := Kd.R_slice HO5.out; subst eo6; obtain ⟨hcz7_0, hcz7_1, hfz7_0, hfz7_1⟩ := bc2_ BK1.out))
  refine bodyPost_ret (results_ctt rfl _ _ gb1 24 #[.int .i64 0, .slice none 0 0] (0, 0) _ rfl (by (with_reducible repeat (first | refine blk_drewN ?_ _ | refine blk_drew ?_ | refine blk_alloc ?_ _)); refine blk_put (cs := #[.int .i64 0, .slice none 0 0]) ?_ 1 _ rfl; (with_reducible repeat (first | refine blk_drewN ?_ _ | refine blk_drew ?_ | refine blk_alloc ?_ _)); refine blk_put (cs := #[.int .i64 0, .slice none 0 0]) ?_ 0 _ rfl; (with_reducible repeat (first | refine blk_drewN ?_ _ | refine blk_drew ?_ | refine blk_alloc ?_ _)); exact BK1.out) Tryz.underlying24 rfl (by kernel_rfl)) rfl ?_
  exact ⟨_, _, rr_, by first | exact Kd.S_nil _ _ _ _ _ | exact Kd.N_nil _ _ _ _ _ | exact Kd.V_nil _ _ _ _ _ | exact Kd.Q_nil _ _ _ _ _ | exact Kd.R_nil _ _ _ _ _, by first | exact Kd.R_nil _ _ _ _ _ | exact Kd.N_nil _ _ _ _ _ | exact Kd.V_nil _ _ _ _ _ | exact Kd.Q_nil _ _ _ _ _ | exact Kd.S_nil _ _ _ _ _, bw_⟩
 rw [if_neg c3] at H
 have c3b0 : ((t2.length : Int) == 0) = false := beq_eq_false_iff_ne.mpr c3
 have c3b1 : ((t2.length : Int) != 0) = true := bne_iff_ne.mpr c3
 have c3b2 : ¬ (t2 = []) := fun h_ => c3 (by rw [h_]; rfl)
 have H' := Aside0.mk H
 clear H
 go_enter Tryz.func5, Tryz.ntmps5
 go_wp2_with (first | ((with_reducible refine gate_dst (N := 2) rfl ?_); refine box_event ?hg (N := 2) ?hd (cs := #[.int .i64 0, .slice none 0 0]) (t := 24) ?hr ?_; (case hd => rfl); (case hg => rfl); (case hr => exact hrr_); intro gb1 hg w8 hbox hb; have n0_ := bs_ hb; have n1_ := Aside0.mk (hbox); have n2_ := ge_ (w := w) hg; have n3_ := ge_ (w := w) hg; clear HB; have HB := n0_; have BK1 := n1_; have GW1 := n2_; have GE1 := n3_; clear n0_ n1_ n2_ n3_; clear hb hbox hg) | ((with_reducible refine gate_callee (f := 14) rfl ?_); refine goesL_ (some 16) rfl rfl Tryz.func14 (by kernel_rfl) rfl #[.string a0] rfl ar_ ?_; (with_reducible refine (impl_known.calls a0 t2 t3 _ A2.out).mono ?_); rintro e w9 ⟨v4, rfl, ho0, hb⟩; refine ⟨_, rfl, ?_⟩; have n0_ := Aside0.mk (Kd.R_lower ho0 (below_size bw_)); have n1_ := bb_ BK1.out hb; have n2_ := bs_ hb; clear BK1; clear HB; have HO5 := n0_; have BK1 := n1_; have HB := n2_; clear n0_ n1_ n2_; (try clear hb); (try clear hb2); (try clear hk); (try clear hi); (try clear ho0); obtain ⟨Ao10, co10, eo10⟩ := Kd.R_slice HO5.out; subst eo10) | ((with_reducible refine gate_dst (N := 7) rfl ?_); refine box_event ?hg (N := 7) ?hd (cs := #[.int .i64 0, .slice none 0 0]) (t := 24) ?hr ?_; (case hd => rfl); (case hg => rfl); (case hr => exact hrr_); intro gb6 hg w11 hbox hb; have n0_ := Aside0.mk (Kd.R_below (rx_ HO5.out) hb); have n1_ := bb_ BK1.out hb; have n2_ := bs_ hb; have n3_ := Aside0.mk (hbox); have n4_ := ge_ (w := w) hg; have n5_ := ge_ (w := w) hg; have n6_ := nl_ BK1.out hg; have n7_ := nr_ BK1.out hg; clear HO5; clear BK1; clear HB; have HO5 := n0_; have BK1 := n1_; have HB := n2_; have BK6 := n3_; have GW6 := n4_; have GE6 := n5_; have NB1_6 := n6_; have NB6_1 := n7_; clear n0_ n1_ n2_ n3_ n4_ n5_ n6_ n7_; clear hb hbox hg; have hnb12 := NB6_1.out; have hnc12 := NB1_6.out; obtain ⟨hcz13_0, hcz13_1, hfz13_0, hfz13_1⟩ := bc2_ BK6.out))
 go_loopg [26] k (fun kq v26 w' => ∃ (x26_1 : Int) (x7001_1 : List (List (S55))) (u7001 : Value), v26 = .int .i64 x26_1 ∧ Aside0 (impl_Known.l0 kq t3 t2 (t2.length : Int) x26_1 2 x7001_1 = some (r1, r2, r3, r4)) ∧ Aside0 (kq ≤ k) ∧ Aside0 (Kd.R Kd.string 9 w' w.heap.size (fun _ => True) (.slice Ao10 t2.length co10) t2) ∧ Aside0 (Kd.S (Kd.slice 55 k55) 40 w' w.heap.size (fun _ => True) u7001 x7001_1) ∧ Aside0 (w'.heap[gb1]? = some (.cells #[.int .i64 0, (.slice none 0 0)] 24 (0, 0))) ∧ Aside0 (w'.heap[gb6]? = some (.cells #[.int .i64 2, u7001] 24 (0, 0))) ∧ Aside0 (Below w.heap.size w w'))
 case atStart => exact ⟨(0), (([] : List (List (S55)))), (.slice none 0 0), sd_, H', ⟨Nat.le_refl _⟩, ⟨by (with_reducible repeat (first | apply Kd.R_alloc | apply Kd.R_drewN | apply Kd.R_drew)); exact Kd.R_mono (Kd.R_far (p := ⟨gb6, 1, none⟩) (Kd.R_far (p := ⟨gb6, 0, none⟩) (Kd.R_types HO5.out BK6.out (by decide)) (fun _ hk => hk.2) (.int .i64 2)) (fun _ hk => hk.2) (.slice none 0 0)) (fun _ hk => trivial)⟩, ⟨by first | exact Kd.S_nil _ _ _ _ _ | exact Kd.N_nil _ _ _ _ _ | exact Kd.V_nil _ _ _ _ _ | exact Kd.Q_nil _ _ _ _ _ | exact Kd.R_nil _ _ _ _ _⟩, ⟨by (with_reducible repeat (first | refine blk_drewN ?_ _ | refine blk_drew ?_ | refine blk_alloc ?_ _)); refine blk_far ?_ NB1_6.out _; (with_reducible repeat (first | refine blk_drewN ?_ _ | refine blk_drew ?_ | refine blk_alloc ?_ _)); refine blk_far ?_ NB1_6.out _; (with_reducible repeat (first | refine blk_drewN ?_ _ | refine blk_drew ?_ | refine blk_alloc ?_ _)); exact BK1.out⟩, ⟨by (with_reducible repeat (first | refine blk_drewN ?_ _ | refine blk_drew ?_ | refine blk_alloc ?_ _)); refine blk_put (cs := #[.int .i64 2, .slice none 0 0]) ?_ 1 _ rfl; (with_reducible repeat (first | refine blk_drewN ?_ _ | refine blk_drew ?_ | refine blk_alloc ?_ _)); refine blk_put (cs := #[.int .i64 0, .slice none 0 0]) ?_ 0 _ rfl; (with_reducible repeat (first | refine blk_drewN ?_ _ | refine blk_drew ?_ | refine blk_alloc ?_ _)); exact BK6.out⟩, ⟨bw_⟩⟩
 case round =>
  clear H'
  try clear c1
  try clear p2
  try clear c3
  try clear c3b0
  try clear c3b1
  try clear c3b2
  try clear c5
  try clear c12
  try clear hcz13_0 hcz13_1
  try clear hcz7_0 hcz7_1
  try clear hfz13_0 hfz13_1
  try clear hfz7_0 hfz7_1
  obtain ⟨x26_1, x7001_1, u7001, rfl, HA, HK1, HO_24, HO_7001, BK1, BK6, HB⟩ := hrel
  cases gk with
  | zero => exact absurd HA.out (by simp [impl_Known.l0])
  | succ k1 =>
   have H := HA.out
   clear HA
   simp only [impl_Known.l0] at H
   by_cases c14 : x26_1 < (t2.length : Int)
   rotate_left
   ·rw [if_neg c14] at H
    have c14b0 : decide (x26_1 < (t2.length : Int)) = false := decide_eq_false c14
    clear c14
    replace H := Option.bind_eq_some_iff.mp H
    obtain ⟨⟨t15, t16⟩, A260, H⟩ := H
    replace H : (some (2, x7001_1, t15, true)) = some (r1, r2, r3, r4) := H
    have A26 := Aside0.mk A260
    clear A260
    simp only [Option.some.injEq, Prod.mk.injEq] at H
    obtain ⟨rfl, rfl, rfl, rfl⟩ := H
    go_wp2_with (first | ((with_reducible refine gate_callee (f := 16) rfl ?_); refine goesL_ (some 44) rfl rfl Tryz.func16 (by kernel_rfl) rfl #[.string t3] rfl ar_ ?_; (with_reducible refine (impl_ParseAsk.calls (hE_ := ee_) k1 t3 t15 t16 _ A26.out).mono ?_); rintro e w27 ⟨v17, rfl, ho0, hb⟩; refine ⟨_, rfl, ?_⟩; have n0_ := Aside0.mk (Kd.R_below (rx_ HO_24.out) hb); have n1_ := Aside0.mk (Kd.S_below (sx_ HO_7001.out) hb); have n2_ := Aside0.mk (Kd.R_lower ho0 (below_size bw_)); have n3_ := bb_ BK1.out hb; have n4_ := bb_ BK6.out hb; have n5_ := bs_ hb; clear HO_24; clear HO_7001; clear BK1; clear BK6; clear HB; have HO_24 := n0_; have HO_7001 := n1_; have HO18 := n2_; have BK1 := n3_; have BK6 := n4_; have HB := n5_; clear n0_ n1_ n2_ n3_ n4_ n5_; (try clear hb); (try clear hb2); (try clear hk); (try clear hi); (try clear ho0); have hnb28 := NB6_1.out; have hnc28 := NB1_6.out; obtain ⟨hcz29_0, hcz29_1, hfz29_0, hfz29_1⟩ := bc2_ BK6.out; obtain ⟨hcz30_0, hcz30_1, hfz30_0, hfz30_1⟩ := bc2_ BK1.out; obtain ⟨Ao31, co31, eo31⟩ := Kd.S_slice HO_7001.out; subst eo31))
    refine bodyPost_ret (results_ctt rfl _ _ gb1 24 #[.int .i64 2, .slice Ao31 x7001_1.length co31] (0, 0) _ rfl (by (with_reducible repeat (first | refine blk_drewN ?_ _ | refine blk_drew ?_ | refine blk_alloc ?_ _)); refine blk_put (cs := #[.int .i64 2, .slice none 0 0]) ?_ 1 _ rfl; (with_reducible repeat (first | refine blk_drewN ?_ _ | refine blk_drew ?_ | refine blk_alloc ?_ _)); refine blk_put (cs := #[.int .i64 0, .slice none 0 0]) ?_ 0 _ rfl; (with_reducible repeat (first | refine blk_drewN ?_ _ | refine blk_drew ?_ | refine blk_alloc ?_ _)); exact BK1.out) Tryz.underlying24 rfl (by kernel_rfl)) rfl ?_
    exact ⟨_, _, rr_, by (with_reducible repeat (first | apply Kd.S_alloc | apply Kd.S_drewN | apply Kd.S_drew)); exact Kd.S_mono (Kd.S_far (p := ⟨gb1, 1, none⟩) (Kd.S_far (p := ⟨gb1, 0, none⟩) (Kd.S_types HO_7001.out BK1.out (by decide)) (fun _ hk => hk.2) (.int .i64 2)) (fun _ hk => hk.2) (.slice Ao31 x7001_1.length co31)) (fun _ hk => trivial), by (with_reducible repeat (first | apply Kd.R_alloc | apply Kd.R_drewN | apply Kd.R_drew)); exact Kd.R_mono (Kd.R_far (p := ⟨gb1, 1, none⟩) (Kd.R_far (p := ⟨gb1, 0, none⟩) (Kd.R_types HO18.out BK1.out (by decide)) (fun _ hk => hk.2) (.int .i64 2)) (fun _ hk => hk.2) (.slice Ao31 x7001_1.length co31)) (fun _ hk => trivial), bw_⟩
   rw [if_pos c14] at H
   have c14b0 : decide (x26_1 < (t2.length : Int)) = true := decide_eq_true c14
   clear c14
   by_cases c15 : 0 ≤ x26_1
   rotate_left
   ·rw [if_neg c15] at H
    exact absurd H (by simp)
   rw [if_pos c15] at H
   have c15b0 : decide (0 ≤ x26_1) = true := decide_eq_true c15
   clear c15
   by_cases c16 : x26_1 < (t2.length : Int)
   rotate_left
   ·rw [if_neg c16] at H
    exact absurd H (by simp)
   rw [if_pos c16] at H
   have c16b0 : decide (x26_1 < (t2.length : Int)) = true := decide_eq_true c16
   clear c16
   replace H := Option.bind_eq_some_iff.mp H
   obtain ⟨⟨t8, t9⟩, A170, H⟩ := H
   replace H : (if x7001_1.length < 5864062014805 then (impl_Known.l0 k1 t3 t2 (t2.length : Int) (wrap64 (x26_1 + 1)) 2 (x7001_1 ++ [t8])) else (none)) = some (r1, r2, r3, r4) := H
   have A17 := Aside0.mk A170
   clear A170
   by_cases c18 : x7001_1.length < 5864062014805
   rotate_left
   ·rw [if_neg c18] at H
    exact absurd H (by simp)
   rw [if_pos c18] at H
   have LMc18 := Aside0.mk c18
   clear c18
   obtain ⟨y12, hy12⟩ : ∃ y_ : List (List (S55)), y_ = (x7001_1 ++ [t8]) := ⟨_, rfl⟩
   replace H : (impl_Known.l0 k1 t3 t2 (t2.length : Int) (wrap64 (x26_1 + 1)) 2 y12) = some (r1, r2, r3, r4) := by first | (rw [hy12]; with_reducible exact H) | (have H2_ := (Option.bind_some _ _).symm.trans H; rw [hy12]; with_reducible exact H2_) | (have H2_ := (Option.bind_some _ _).symm.trans H; with_reducible exact H2_) | with_reducible exact H | (rw [hy12]; exact H) | exact H
   have Ny12 := Aside0.mk hy12
   clear hy12
   have H' := Aside0.mk H
   clear H
   have p7 : 0 ≤ (x26_1 : Int) := od_
   have q7 : x26_1 < (t2.length : Int) := od_
   obtain ⟨ad7, e7, hx7_0⟩ := Kd.at_string (Kd.R_reads' HO_24.out).2.2 x26_1 p7 q7
   cases e7
   replace p7 := eq_true p7
   replace q7 := eq_true q7
   go_wp2_with (first | ((with_reducible refine gate_callee (f := 15) rfl ?_); refine goesL_ (some 32) rfl rfl Tryz.func15 (by kernel_rfl) rfl #[.string (rdOf ByteArray.empty t2 x26_1)] rfl ar_ ?_; (with_reducible refine (impl_ParseCode.calls (hE_ := ee_) k1 (rdOf ByteArray.empty t2 x26_1) t8 t9 _ A17.out).mono ?_); rintro e w19 ⟨v10, rfl, ho0, hb⟩; refine ⟨_, rfl, ?_⟩; have n0_ := Aside0.mk (Kd.R_below (rx_ HO_24.out) hb); have n1_ := Aside0.mk (Kd.S_elder' (sx_ HO_7001.out) (Kd.R_base ho0) hb); have n2_ := Aside0.mk (Kd.R_lower ho0 (below_size bw_)); have n3_ := bb_ BK1.out hb; have n4_ := bb_ BK6.out hb; have n5_ := bs_ hb; clear HO_24; clear HO_7001; clear BK1; clear BK6; clear HB; have HO_24 := n0_; have HO_7001 := n1_; have HO11 := n2_; have BK1 := n3_; have BK6 := n4_; have HB := n5_; clear n0_ n1_ n2_ n3_ n4_ n5_; (try clear hb); (try clear hb2); (try clear hk); (try clear hi); (try clear ho0); have hnb20 := NB6_1.out; have hnc20 := NB1_6.out; obtain ⟨hcz21_0, hcz21_1, hfz21_0, hfz21_1⟩ := bc2_ BK6.out; obtain ⟨Ao23, co23, eo23⟩ := Kd.R_slice HO11.out; subst eo23) | ((with_reducible refine gate_builtin (b := .append) (xs := #[.tmp 36, .tmp 38]) rfl ?_); at_builtin; refine Kd.S_append (Kd.slice 55 k55) (w0 := w) w.heap.size rfl (.tmp 36) (.tmp 38) 22 40 (.slice none 0 0) 24 rfl Tryz.underlying22 info40 rfl (by decide) (by omega) u7001 x7001_1 t8 [.slice Ao23 t8.length co23] (fun _ => True) (fun k_ => some k_ = (.slice Ao23 t8.length co23 : Value).ownBlock) rfl rfl ?aP (fun k_ hk_ => ((Kd.R_mono (ok' := fun k_ => ((fun _ => True)) k_ ∧ some k_ ≠ (u7001 : Value).ownBlock) (Kd.R_apart' (HO11.out) (Kd.S_typed HO_7001.out) (by decide)) (fun k_ hk => ⟨trivial, hk.2⟩))).1 k_ hk_.symm) ?aF ?aO ?aB ?aS ?aL ?_; (case aP => exact Kd.M_row (Kd.R_mono (Kd.R_tight rfl (Kd.R_mono (ok' := fun k_ => ((fun _ => True)) k_ ∧ some k_ ≠ (u7001 : Value).ownBlock) (Kd.R_apart' (HO11.out) (Kd.S_typed HO_7001.out) (by decide)) (fun k_ hk => ⟨trivial, hk.2⟩))) (fun _ h_ => h_))); (case aB => exact bw_); (case aF => exact (fun _ _ => trivial)); (case aO => exact (by (with_reducible repeat (first | apply Kd.S_alloc | apply Kd.S_drewN | apply Kd.S_drew)); exact Kd.S_mono HO_7001.out (fun k_ hk => ⟨trivial, fun e_ => hk.2 e_⟩))); (case aS => exact (below_size bw_)); (case aL => have := LMc18.out; omega); intro v13 w22 ho hb hg hat; rw [← Ny12.out] at ho; have n0_ := Aside0.mk (Kd.R_over' (rx_ HO_24.out) (Kd.S_typed (sx_ HO_7001.out)) (by decide) hg); have n1_ := Aside0.mk (blk_grown (g := gb1) (o := .cells #[.int .i64 0, .slice none 0 0] 24 (0, 0)) bk_ hg (Kd.S_ne HO_7001.out BK1.out (by decide))); have n2_ := Aside0.mk (blk_grown (g := gb6) (o := .cells #[.int .i64 2, u7001] 24 (0, 0)) bk_ hg (Kd.S_ne HO_7001.out BK6.out (by decide))); have n3_ := Aside0.mk (hb); have n4_ := Aside0.mk (ho); clear HO_24; clear BK1; clear BK6; clear HB; clear HO_7001; clear HO11; have HO_24 := n0_; have BK1 := n1_; have BK6 := n2_; have HB := n3_; have HO14 := n4_; clear n0_ n1_ n2_ n3_ n4_; clear ho hb hg hat; obtain ⟨Ao24, co24, eo24⟩ := Kd.S_slice HO14.out; subst eo24; obtain ⟨hcz25_0, hcz25_1, hfz25_0, hfz25_1⟩ := bc2_ BK6.out))
   go_roundg k1
   case measure => have := HK1.out; omega
   case rel => exact ⟨(wrap64 (x26_1 + 1)), (y12), (.slice Ao24 y12.length co24), sd_, H', ⟨by have := HK1.out; omega⟩, ⟨by (with_reducible repeat (first | apply Kd.R_alloc | apply Kd.R_drewN | apply Kd.R_drew)); exact Kd.R_mono (Kd.R_far (p := ⟨gb6, 1, none⟩) (Kd.R_types HO_24.out BK6.out (by decide)) (fun _ hk => hk.2) (.slice Ao24 y12.length co24)) (fun _ hk => trivial)⟩, ⟨by (with_reducible repeat (first | apply Kd.S_alloc | apply Kd.S_drewN | apply Kd.S_drew)); exact Kd.S_mono (Kd.S_far (p := ⟨gb6, 1, none⟩) (Kd.S_types HO14.out BK6.out (by decide)) (fun _ hk => hk.2) (.slice Ao24 y12.length co24)) (fun _ hk => trivial)⟩, ⟨by (with_reducible repeat (first | refine blk_drewN ?_ _ | refine blk_drew ?_ | refine blk_alloc ?_ _)); refine blk_far ?_ NB1_6.out _; (with_reducible repeat (first | refine blk_drewN ?_ _ | refine blk_drew ?_ | refine blk_alloc ?_ _)); exact BK1.out⟩, ⟨by (with_reducible repeat (first | refine blk_drewN ?_ _ | refine blk_drew ?_ | refine blk_alloc ?_ _)); refine blk_put (cs := #[.int .i64 2, u7001]) ?_ 1 _ rfl; (with_reducible repeat (first | refine blk_drewN ?_ _ | refine blk_drew ?_ | refine blk_alloc ?_ _)); exact BK6.out⟩, ⟨bw_⟩⟩

/-! ### laws_eqInstr: function 49 -/
def laws_eqInstr.f (a0_0 : Int) (a0_1 : Int) (a0_2 : Int) (a0_3 : Int) (a1_0 : Int) (a1_1 : Int) (a1_2 : Int) (a1_3 : Int) : Option (Bool) := if a0_0 = a1_0 then (if a0_1 = a1_1 then (if a0_2 = a1_2 then (if a0_3 = a1_3 then (some true) else (some false)) else (some false)) else (some false)) else (some false)
set_option maxHeartbeats 8000000 in
set_option maxRecDepth 100000 in
theorem laws_eqInstr.calls (a0_0 : Int) (a0_1 : Int) (a0_2 : Int) (a0_3 : Int) (a1_0 : Int) (a1_1 : Int) (a1_2 : Int) (a1_3 : Int) (r : Bool) (w : World) (h : laws_eqInstr.f a0_0 a0_1 a0_2 a0_3 a1_0 a1_1 a1_2 a1_3 = some r) :
  Calls Tryz.prog 49 #[.agg #[.int .i64 a0_0, .int .i64 a0_1, .int .i64 a0_2, .int .i64 a0_3], .agg #[.int .i64 a1_0, .int .i64 a1_1, .int .i64 a1_2, .int .i64 a1_3]] w fun e w' => e = .returned (.bool r) ∧ Below w.heap.size w w' := by
 have hu55 := Tryz.underlying55
 have HB := Aside0.mk (Below.refl w.heap.size w)
 have H : (if a0_0 = a1_0 then (if a0_1 = a1_1 then (if a0_2 = a1_2 then (if a0_3 = a1_3 then (some true) else (some false)) else (some false)) else (some false)) else (some false)) = some r := h
 clear h
 by_cases c3 : a0_0 = a1_0
 rotate_left
 ·rw [if_neg c3] at H
  have c3b0 : (a0_0 == a1_0) = false := beq_eq_false_iff_ne.mpr c3
  have c3b1 : (a0_0 != a1_0) = true := bne_iff_ne.mpr c3
  obtain rfl := Option.some.inj H
  go_enter Tryz.func49, Tryz.ntmps49
  go_wp2_with (first | ((with_reducible refine gate_dst (N := 2) rfl ?_); refine box_event ?hg (N := 2) ?hd (cs := #[.int .i64 a0_0, .int .i64 a0_1, .int .i64 a0_2, .int .i64 a0_3]) (t := 55) ?hr ?_; (case hd => rfl); (case hg => rfl); (case hr => exact hrr_); intro gb1 hg w27 hbox hb; have n0_ := bs_ hb; have n1_ := Aside0.mk (hbox); have n2_ := ge_ (w := w) hg; have n3_ := ge_ (w := w) hg; clear HB; have HB := n0_; have BK1 := n1_; have GW1 := n2_; have GE1 := n3_; clear n0_ n1_ n2_ n3_; clear hb hbox hg) | ((with_reducible refine gate_dst (N := 3) rfl ?_); refine box_event ?hg (N := 3) ?hd (cs := #[.int .i64 a1_0, .int .i64 a1_1, .int .i64 a1_2, .int .i64 a1_3]) (t := 55) ?hr ?_; (case hd => rfl); (case hg => rfl); (case hr => exact hrr_); intro gb2 hg w28 hbox hb; have n0_ := bb_ BK1.out hb; have n1_ := bs_ hb; have n2_ := Aside0.mk (hbox); have n3_ := ge_ (w := w) hg; have n4_ := ge_ (w := w) hg; have n5_ := nl_ BK1.out hg; have n6_ := nr_ BK1.out hg; clear BK1; clear HB; have BK1 := n0_; have HB := n1_; have BK2 := n2_; have GW2 := n3_; have GE2 := n4_; have NB1_2 := n5_; have NB2_1 := n6_; clear n0_ n1_ n2_ n3_ n4_ n5_ n6_; clear hb hbox hg; have hnb29 := NB1_2.out; have hnc29 := NB2_1.out; obtain ⟨hcz30_0, hcz30_1, hcz30_2, hcz30_3, hfz30_0, hfz30_1, hfz30_2, hfz30_3⟩ := bc4_ BK1.out; obtain ⟨hcz31_0, hcz31_1, hcz31_2, hcz31_3, hfz31_0, hfz31_1, hfz31_2, hfz31_3⟩ := bc4_ BK2.out))
  go_ret
  exact ⟨rr_, bw_⟩
 rw [if_pos c3] at H
 have c3b0 : (a0_0 == a1_0) = true := beq_iff_eq.mpr c3
 have c3b1 : (a0_0 != a1_0) = false := bne_eq_false_iff_eq.mpr c3
 clear c3
 by_cases c4 : a0_1 = a1_1
 rotate_left
 ·rw [if_neg c4] at H
  have c4b0 : (a0_1 == a1_1) = false := beq_eq_false_iff_ne.mpr c4
  have c4b1 : (a0_1 != a1_1) = true := bne_iff_ne.mpr c4
  obtain rfl := Option.some.inj H
  go_enter Tryz.func49, Tryz.ntmps49
  go_wp2_with (first | ((with_reducible refine gate_dst (N := 2) rfl ?_); refine box_event ?hg (N := 2) ?hd (cs := #[.int .i64 a0_0, .int .i64 a0_1, .int .i64 a0_2, .int .i64 a0_3]) (t := 55) ?hr ?_; (case hd => rfl); (case hg => rfl); (case hr => exact hrr_); intro gb1 hg w22 hbox hb; have n0_ := bs_ hb; have n1_ := Aside0.mk (hbox); have n2_ := ge_ (w := w) hg; have n3_ := ge_ (w := w) hg; clear HB; have HB := n0_; have BK1 := n1_; have GW1 := n2_; have GE1 := n3_; clear n0_ n1_ n2_ n3_; clear hb hbox hg) | ((with_reducible refine gate_dst (N := 3) rfl ?_); refine box_event ?hg (N := 3) ?hd (cs := #[.int .i64 a1_0, .int .i64 a1_1, .int .i64 a1_2, .int .i64 a1_3]) (t := 55) ?hr ?_; (case hd => rfl); (case hg => rfl); (case hr => exact hrr_); intro gb2 hg w23 hbox hb; have n0_ := bb_ BK1.out hb; have n1_ := bs_ hb; have n2_ := Aside0.mk (hbox); have n3_ := ge_ (w := w) hg; have n4_ := ge_ (w := w) hg; have n5_ := nl_ BK1.out hg; have n6_ := nr_ BK1.out hg; clear BK1; clear HB; have BK1 := n0_; have HB := n1_; have BK2 := n2_; have GW2 := n3_; have GE2 := n4_; have NB1_2 := n5_; have NB2_1 := n6_; clear n0_ n1_ n2_ n3_ n4_ n5_ n6_; clear hb hbox hg; have hnb24 := NB1_2.out; have hnc24 := NB2_1.out; obtain ⟨hcz25_0, hcz25_1, hcz25_2, hcz25_3, hfz25_0, hfz25_1, hfz25_2, hfz25_3⟩ := bc4_ BK1.out; obtain ⟨hcz26_0, hcz26_1, hcz26_2, hcz26_3, hfz26_0, hfz26_1, hfz26_2, hfz26_3⟩ := bc4_ BK2.out))
  go_ret
  exact ⟨rr_, bw_⟩
 rw [if_pos c4] at H
 have c4b0 : (a0_1 == a1_1) = true := beq_iff_eq.mpr c4
 have c4b1 : (a0_1 != a1_1) = false := bne_eq_false_iff_eq.mpr c4
 clear c4
 by_cases c5 : a0_2 = a1_2
 rotate_left
 ·rw [if_neg c5] at H
  have c5b0 : (a0_2 == a1_2) = false := beq_eq_false_iff_ne.mpr c5
  have c5b1 : (a0_2 != a1_2) = true := bne_iff_ne.mpr c5
  obtain rfl := Option.some.inj H
  go_enter Tryz.func49, Tryz.ntmps49
  go_wp2_with (first | ((with_reducible refine gate_dst (N := 2) rfl ?_); refine box_event ?hg (N := 2) ?hd (cs := #[.int .i64 a0_0, .int .i64 a0_1, .int .i64 a0_2, .int .i64 a0_3]) (t := 55) ?hr ?_; (case hd => rfl); (case hg => rfl); (case hr => exact hrr_); intro gb1 hg w17 hbox hb; have n0_ := bs_ hb; have n1_ := Aside0.mk (hbox); have n2_ := ge_ (w := w) hg; have n3_ := ge_ (w := w) hg; clear HB; have HB := n0_; have BK1 := n1_; have GW1 := n2_; have GE1 := n3_; clear n0_ n1_ n2_ n3_; clear hb hbox hg) | ((with_reducible refine gate_dst (N := 3) rfl ?_); refine box_event ?hg (N := 3) ?hd (cs := #[.int .i64 a1_0, .int .i64 a1_1, .int .i64 a1_2, .int .i64 a1_3]) (t := 55) ?hr ?_; (case hd => rfl); (case hg => rfl); (case hr => exact hrr_); intro gb2 hg w18 hbox hb; have n0_ := bb_ BK1.out hb; have n1_ := bs_ hb; have n2_ := Aside0.mk (hbox); have n3_ := ge_ (w := w) hg; have n4_ := ge_ (w := w) hg; have n5_ := nl_ BK1.out hg; have n6_ := nr_ BK1.out hg; clear BK1; clear HB; have BK1 := n0_; have HB := n1_; have BK2 := n2_; have GW2 := n3_; have GE2 := n4_; have NB1_2 := n5_; have NB2_1 := n6_; clear n0_ n1_ n2_ n3_ n4_ n5_ n6_; clear hb hbox hg; have hnb19 := NB1_2.out; have hnc19 := NB2_1.out; obtain ⟨hcz20_0, hcz20_1, hcz20_2, hcz20_3, hfz20_0, hfz20_1, hfz20_2, hfz20_3⟩ := bc4_ BK1.out; obtain ⟨hcz21_0, hcz21_1, hcz21_2, hcz21_3, hfz21_0, hfz21_1, hfz21_2, hfz21_3⟩ := bc4_ BK2.out))
  go_ret
  exact ⟨rr_, bw_⟩
 rw [if_pos c5] at H
 have c5b0 : (a0_2 == a1_2) = true := beq_iff_eq.mpr c5
 have c5b1 : (a0_2 != a1_2) = false := bne_eq_false_iff_eq.mpr c5
 clear c5
 by_cases c6 : a0_3 = a1_3
 rotate_left
 ·rw [if_neg c6] at H
  have c6b0 : (a0_3 == a1_3) = false := beq_eq_false_iff_ne.mpr c6
  have c6b1 : (a0_3 != a1_3) = true := bne_iff_ne.mpr c6
  obtain rfl := Option.some.inj H
  go_enter Tryz.func49, Tryz.ntmps49
  go_wp2_with (first | ((with_reducible refine gate_dst (N := 2) rfl ?_); refine box_event ?hg (N := 2) ?hd (cs := #[.int .i64 a0_0, .int .i64 a0_1, .int .i64 a0_2, .int .i64 a0_3]) (t := 55) ?hr ?_; (case hd => rfl); (case hg => rfl); (case hr => exact hrr_); intro gb1 hg w12 hbox hb; have n0_ := bs_ hb; have n1_ := Aside0.mk (hbox); have n2_ := ge_ (w := w) hg; have n3_ := ge_ (w := w) hg; clear HB; have HB := n0_; have BK1 := n1_; have GW1 := n2_; have GE1 := n3_; clear n0_ n1_ n2_ n3_; clear hb hbox hg) | ((with_reducible refine gate_dst (N := 3) rfl ?_); refine box_event ?hg (N := 3) ?hd (cs := #[.int .i64 a1_0, .int .i64 a1_1, .int .i64 a1_2, .int .i64 a1_3]) (t := 55) ?hr ?_; (case hd => rfl); (case hg => rfl); (case hr => exact hrr_); intro gb2 hg w13 hbox hb; have n0_ := bb_ BK1.out hb; have n1_ := bs_ hb; have n2_ := Aside0.mk (hbox); have n3_ := ge_ (w := w) hg; have n4_ := ge_ (w := w) hg; have n5_ := nl_ BK1.out hg; have n6_ := nr_ BK1.out hg; clear BK1; clear HB; have BK1 := n0_; have HB := n1_; have BK2 := n2_; have GW2 := n3_; have GE2 := n4_; have NB1_2 := n5_; have NB2_1 := n6_; clear n0_ n1_ n2_ n3_ n4_ n5_ n6_; clear hb hbox hg; have hnb14 := NB1_2.out; have hnc14 := NB2_1.out; obtain ⟨hcz15_0, hcz15_1, hcz15_2, hcz15_3, hfz15_0, hfz15_1, hfz15_2, hfz15_3⟩ := bc4_ BK1.out; obtain ⟨hcz16_0, hcz16_1, hcz16_2, hcz16_3, hfz16_0, hfz16_1, hfz16_2, hfz16_3⟩ := bc4_ BK2.out))
  go_ret
  exact ⟨rr_, bw_⟩
 rw [if_pos c6] at H
 have c6b0 : (a0_3 == a1_3) = true := beq_iff_eq.mpr c6
 have c6b1 : (a0_3 != a1_3) = false := bne_eq_false_iff_eq.mpr c6
 clear c6
 obtain rfl := Option.some.inj H
 go_enter Tryz.func49, Tryz.ntmps49
 go_wp2_with (first | ((with_reducible refine gate_dst (N := 2) rfl ?_); refine box_event ?hg (N := 2) ?hd (cs := #[.int .i64 a0_0, .int .i64 a0_1, .int .i64 a0_2, .int .i64 a0_3]) (t := 55) ?hr ?_; (case hd => rfl); (case hg => rfl); (case hr => exact hrr_); intro gb1 hg w7 hbox hb; have n0_ := bs_ hb; have n1_ := Aside0.mk (hbox); have n2_ := ge_ (w := w) hg; have n3_ := ge_ (w := w) hg; clear HB; have HB := n0_; have BK1 := n1_; have GW1 := n2_; have GE1 := n3_; clear n0_ n1_ n2_ n3_; clear hb hbox hg) | ((with_reducible refine gate_dst (N := 3) rfl ?_); refine box_event ?hg (N := 3) ?hd (cs := #[.int .i64 a1_0, .int .i64 a1_1, .int .i64 a1_2, .int .i64 a1_3]) (t := 55) ?hr ?_; (case hd => rfl); (case hg => rfl); (case hr => exact hrr_); intro gb2 hg w8 hbox hb; have n0_ := bb_ BK1.out hb; have n1_ := bs_ hb; have n2_ := Aside0.mk (hbox); have n3_ := ge_ (w := w) hg; have n4_ := ge_ (w := w) hg; have n5_ := nl_ BK1.out hg; have n6_ := nr_ BK1.out hg; clear BK1; clear HB; have BK1 := n0_; have HB := n1_; have BK2 := n2_; have GW2 := n3_; have GE2 := n4_; have NB1_2 := n5_; have NB2_1 := n6_; clear n0_ n1_ n2_ n3_ n4_ n5_ n6_; clear hb hbox hg; have hnb9 := NB1_2.out; have hnc9 := NB2_1.out; obtain ⟨hcz10_0, hcz10_1, hcz10_2, hcz10_3, hfz10_0, hfz10_1, hfz10_2, hfz10_3⟩ := bc4_ BK1.out; obtain ⟨hcz11_0, hcz11_1, hcz11_2, hcz11_3, hfz11_0, hfz11_1, hfz11_2, hfz11_3⟩ := bc4_ BK2.out))
 go_ret
 exact ⟨rr_, bw_⟩

end Go.Proofs.YtbgclnjnngolmaaGreatDoor.P
