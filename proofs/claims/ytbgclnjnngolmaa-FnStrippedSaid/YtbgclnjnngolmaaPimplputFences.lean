-- Written by mp.py (the session's own driver over the kit's printer) for the seat Ytbgclnjnngolmaa.
import Derived.Test.YtbgclnjnngolmaaK
import Derived.Test.YtbgclnjnngolmaaE
import Derived.Test.YtbgclnjnngolmaaPimplProgOk
import Derived.Test.YtbgclnjnngolmaaPimplwithFencesAt
namespace Go.Proofs.Ytbgclnjnngolmaa.P
open Go.RowKit Go.Proofs.YtbgclnjnngolmaaW.PrintWords Go.Proofs.YtbgclnjnngolmaaW.PrintLast Go.Proofs.YtbgclnjnngolmaaW.PrintMore
attribute [local go_sem] max2_int min2_int max_two min_two max_three min_three max_four min_four
set_option linter.unusedVariables false
set_option linter.unusedSimpArgs false

/-! ### impl_putFences: function 23 -/
mutual
def impl_putFences.l0 : Nat → List (S44) → List (List (S50)) → Int → Int → Int → List (List (S50)) → Option (Int × (List (List (S50))) × Bool)
 | 0, _, _, _, _, _, _ => none
 | k + 1, x1, x16, x17, x18, x4000, x4001 => if x18 < x17 then (if 0 ≤ x18 then (if x18 < (x16.length : Int) then (impl_putFences.l1 k x1 x18 (rd_L4 x16 x18) (([] : List Int)) x16 x17 x18 x1 (x1.length : Int) 0 x4000 x4001) else (none)) else (none)) else ((impl_ProgOk.f x4000 x4001).bind fun t4 => (if t4 = true then (some (x4000, x4001, true)) else (some (0, ([] : List (List (S50))), false))))
def impl_putFences.l1 : Nat → List (S44) → Int → List (S50) → List Int → List (List (S50)) → Int → Int → List (S44) → Int → Int → Int → List (List (S50)) → Option (Int × (List (List (S50))) × Bool)
 | 0, _, _, _, _, _, _, _, _, _, _, _, _ => none
 | k + 1, x1, x7, x8, x9, x16, x17, x18, x24, x25, x26, x4000, x4001 => if x26 < x25 then (if 0 ≤ x26 then (if x26 < (x24.length : Int) then (if ((rd_T44 x24 x26).f0) = x7 then (if x9.length < 17592186044416 then (impl_putFences.l1 k x1 x7 x8 (x9 ++ [(rd_T44 x24 x26).f1]) x16 x17 x18 x24 x25 (wrap64 (x26 + 1)) x4000 x4001) else (none)) else (impl_putFences.l1 k x1 x7 x8 x9 x16 x17 x18 x24 x25 (wrap64 (x26 + 1)) x4000 x4001)) else (none)) else (none)) else ((impl_withFencesAt.f k x8 x9).bind fun t14 => (if x4001.length < 5864062014805 then (impl_putFences.l0 k x1 x16 x17 (wrap64 (x18 + 1)) x4000 (x4001 ++ [t14])) else (none)))
end
def impl_putFences.f (k : Nat) (a0_0 : Int) (l0_1 : List (List (S50))) (l1 : List (S44)) : Option (Int × (List (List (S50))) × Bool) := impl_putFences.l0 k l1 l0_1 (l0_1.length : Int) 0 a0_0 ([] : List (List (S50)))
theorem impl_putFences.mono_l : ∀ k, (∀ y0 y1 y2 y3 y4 y5, LeO (impl_putFences.l0 k y0 y1 y2 y3 y4 y5) (impl_putFences.l0 (k + 1) y0 y1 y2 y3 y4 y5)) ∧ (∀ y0 y1 y2 y3 y4 y5 y6 y7 y8 y9 y10 y11, LeO (impl_putFences.l1 k y0 y1 y2 y3 y4 y5 y6 y7 y8 y9 y10 y11) (impl_putFences.l1 (k + 1) y0 y1 y2 y3 y4 y5 y6 y7 y8 y9 y10 y11))
 | 0 => ⟨fun _ _ _ _ _ _ r h => by simp [impl_putFences.l0] at h, fun _ _ _ _ _ _ _ _ _ _ _ _ r h => by simp [impl_putFences.l1] at h⟩
 | k + 1 => by
  obtain ⟨ih0, ih1⟩ := impl_putFences.mono_l k
  refine ⟨?_, ?_⟩
  ·intro y0 y1 y2 y3 y4 y5
   unfold impl_putFences.l0
   repeat' first | (with_reducible first | exact ih0 _ _ _ _ _ _ | exact ih1 _ _ _ _ _ _ _ _ _ _ _ _ | exact impl_withFencesAt.mono _ _ _ | exact lr_ | exact ln_ | refine LeO.ite ?_ ?_ | refine LeO.bind ?_ (fun _ => ?_)) | exact ih0 _ _ _ _ _ _ | exact ih1 _ _ _ _ _ _ _ _ _ _ _ _ | exact impl_withFencesAt.mono _ _ _ | exact ln_ | refine LeO.ite ?_ ?_ | refine LeO.bind ?_ (fun _ => ?_)
  ·intro y0 y1 y2 y3 y4 y5 y6 y7 y8 y9 y10 y11
   unfold impl_putFences.l1
   repeat' first | (with_reducible first | exact ih0 _ _ _ _ _ _ | exact ih1 _ _ _ _ _ _ _ _ _ _ _ _ | exact impl_withFencesAt.mono _ _ _ | exact lr_ | exact ln_ | refine LeO.ite ?_ ?_ | refine LeO.bind ?_ (fun _ => ?_)) | exact ih0 _ _ _ _ _ _ | exact ih1 _ _ _ _ _ _ _ _ _ _ _ _ | exact impl_withFencesAt.mono _ _ _ | exact ln_ | refine LeO.ite ?_ ?_ | refine LeO.bind ?_ (fun _ => ?_)
theorem impl_putFences.mono : ∀ a0 a1 a2 k, LeO (impl_putFences.f k a0 a1 a2) (impl_putFences.f (k + 1) a0 a1 a2) := by
 intro a0 a1 a2 k
 obtain ⟨ih0, ih1⟩ := impl_putFences.mono_l k
 unfold impl_putFences.f
 repeat' first | (with_reducible first | exact ih0 _ _ _ _ _ _ | exact ih1 _ _ _ _ _ _ _ _ _ _ _ _ | exact impl_withFencesAt.mono _ _ _ | exact lr_ | exact ln_ | refine LeO.ite ?_ ?_ | refine LeO.bind ?_ (fun _ => ?_)) | exact ih0 _ _ _ _ _ _ | exact ih1 _ _ _ _ _ _ _ _ _ _ _ _ | exact impl_withFencesAt.mono _ _ _ | exact ln_ | refine LeO.ite ?_ ?_ | refine LeO.bind ?_ (fun _ => ?_)
def impl_putFences.T12 : Bool × List (List Nat × List Nat) := (true, [([], []), ([0], [0]), ([], []), ([], []), ([2, 3], [2, 3]), ([4], [4]), ([1, 5, 4], [1, 5]), ([0, 1, 2, 3, 4, 5, 6], []), ([7, 6, 6, 0, 1, 2, 3, 4, 5, 6], [6, 7])])
def impl_putFences.B12 : List Nat := [0, 1, 0, 0, 12, 28, 63, 127, 255]
theorem impl_putFences.tab12 : rtab .any (opsOf Try.f23 12) = impl_putFences.T12 := by kernel_rfl
theorem impl_putFences.bits12 : waitsOk impl_putFences.T12.2 impl_putFences.B12 = true := by kernel_rfl
set_option maxHeartbeats 8000000 in
set_option maxRecDepth 100000 in
theorem impl_putFences.calls (k : Nat) (a0_0 : Int) (A0_1 : Option Addr) (c0_1 : Nat) (l0_1 : List (List (S50))) (A1 : Option Addr) (c1 : Nat) (l1 : List (S44)) (r1 : Int) (r2 : List (List (S50))) (r3 : Bool) (w : World) (hr0_1 : Kd.C (Kd.slice 50 k50) w A0_1 l0_1.length l0_1) (hc0_1 : l0_1.length ≤ c0_1) (hr1 : Kd.C k44 w A1 l1.length l1) (hc1 : l1.length ≤ c1) (h : impl_putFences.f k a0_0 l0_1 l1 = some (r1, r2, r3)) :
  Calls Try.prog 23 #[.agg #[.int .i64 a0_0, .slice A0_1 l0_1.length c0_1], .slice A1 l1.length c1] w fun e w' => ∃ v1_ : Value, e = .returned (.tuple #[.agg #[.int .i64 r1, v1_], .bool r3]) ∧ Kd.S (Kd.slice 50 k50) 46 w' w.heap.size (fun _ => True) v1_ r2 ∧ Below w.heap.size w w' := by
 have hu26 := Try.underlying26
 have hu44 := Try.underlying44
 have HR0_1 := am_ hr0_1
 have HC0_1 := am_ hc0_1
 clear hr0_1 hc0_1
 have HR1 := am_ hr1
 have HC1 := am_ hc1
 clear hr1 hc1
 have HB := am_ (Below.refl w.heap.size w)
 have H : (impl_putFences.l0 k l1 l0_1 (l0_1.length : Int) 0 a0_0 ([] : List (List (S50)))) = some (r1, r2, r3) := h
 clear h
 have H' := am_ H
 clear H
 go_enter Try.func23, Try.ntmps23
 go_wp2_with (first | ((with_reducible refine gate_dst (N := 2) rfl ?_); refine box_event ?hg (N := 2) ?hd (cs := #[.int .i64 a0_0, .slice A0_1 l0_1.length c0_1]) (t := 26) ?hr ?_; (case hd => rfl); (case hg => rfl); (case hr => exact hrr_); intro gb1 hg w3 hbox hb; have n0_ := bs_ hb; have n1_ := am_ (hbox); have n2_ := ge_ (w := w) hg; have n3_ := ge_ (w := w) hg; clear HB; have HB := n0_; have BK1 := n1_; have GW1 := n2_; have GE1 := n3_; clear n0_ n1_ n2_ n3_; clear hb hbox hg) | ((with_reducible refine gate_dst (N := 4) rfl ?_); refine box_event ?hg (N := 4) ?hd (cs := #[.int .i64 0, .slice none 0 0]) (t := 26) ?hr ?_; (case hd => rfl); (case hg => rfl); (case hr => exact hrr_); intro gb2 hg w4 hbox hb; have n0_ := bb_ BK1.out hb; have n1_ := bs_ hb; have n2_ := am_ (hbox); have n3_ := ge_ (w := w) hg; have n4_ := ge_ (w := w) hg; have n5_ := nl_ BK1.out hg; have n6_ := nr_ BK1.out hg; clear BK1; clear HB; have BK1 := n0_; have HB := n1_; have BK2 := n2_; have GW2 := n3_; have GE2 := n4_; have NB1_2 := n5_; have NB2_1 := n6_; clear n0_ n1_ n2_ n3_ n4_ n5_ n6_; clear hb hbox hg; have hnb5 := NB1_2.out; have hnc5 := NB2_1.out; obtain ⟨hcz6_0, hcz6_1, hfz6_0, hfz6_1⟩ := bc2_ BK1.out) | ((with_reducible refine gate_dst (N := 6) rfl ?_); refine box_event ?hg (N := 6) ?hd (cs := #[.int .i64 0, .slice none 0 0]) (t := 26) ?hr ?_; (case hd => rfl); (case hg => rfl); (case hr => exact hrr_); intro gb3 hg w7 hbox hb; have n0_ := bb_ BK1.out hb; have n1_ := bb_ BK2.out hb; have n2_ := bs_ hb; have n3_ := am_ (hbox); have n4_ := ge_ (w := w) hg; have n5_ := ge_ (w := w) hg; have n6_ := nl_ BK1.out hg; have n7_ := nr_ BK1.out hg; have n8_ := nl_ BK2.out hg; have n9_ := nr_ BK2.out hg; clear BK1; clear BK2; clear HB; have BK1 := n0_; have BK2 := n1_; have HB := n2_; have BK3 := n3_; have GW3 := n4_; have GE3 := n5_; have NB1_3 := n6_; have NB3_1 := n7_; have NB2_3 := n8_; have NB3_2 := n9_; clear n0_ n1_ n2_ n3_ n4_ n5_ n6_ n7_ n8_ n9_; clear hb hbox hg; have hnb8 := NB3_1.out; have hnc8 := NB1_3.out; have hnb9 := NB3_2.out; have hnc9 := NB2_3.out; obtain ⟨hcz10_0, hcz10_1, hfz10_0, hfz10_1⟩ := bc2_ BK3.out; obtain ⟨hcz11_0, hcz11_1, hfz11_0, hfz11_1⟩ := bc2_ BK1.out))
 go_loopg [18] k (fun kq v18 w' => ∃ (x18_1 : Int) (x4001_1 : List (List (S50))) (u4001 : Value), v18 = .int .i64 x18_1 ∧ Aside0 (impl_putFences.l0 kq l1 l0_1 (l0_1.length : Int) x18_1 a0_0 x4001_1 = some (r1, r2, r3)) ∧ Aside0 (kq ≤ k) ∧ Aside0 (Kd.S (Kd.slice 50 k50) 46 w' w.heap.size (fun _ => True) u4001 x4001_1) ∧ Aside0 (w'.heap[gb1]? = some (.cells #[.int .i64 a0_0, (.slice A0_1 l0_1.length c0_1)] 26 (0, 0))) ∧ Aside0 (w'.heap[gb2]? = some (.cells #[.int .i64 0, (.slice none 0 0)] 26 (0, 0))) ∧ Aside0 (w'.heap[gb3]? = some (.cells #[.int .i64 a0_0, u4001] 26 (0, 0))) ∧ Aside0 (Below w.heap.size w w'))
 case atStart => exact ⟨(0), (([] : List (List (S50)))), (.slice none 0 0), sd_, H', ⟨Nat.le_refl _⟩, ⟨by first | exact Kd.S_nil _ _ _ _ _ | exact Kd.N_nil _ _ _ _ _ | exact Kd.V_nil _ _ _ _ _ | exact Kd.Q_nil _ _ _ _ _ | exact Kd.R_nil _ _ _ _ _⟩, ⟨by (with_reducible repeat (first | refine blk_drewN ?_ _ | refine blk_drew ?_ | refine blk_alloc ?_ _)); refine blk_far ?_ NB1_3.out _; (with_reducible repeat (first | refine blk_drewN ?_ _ | refine blk_drew ?_ | refine blk_alloc ?_ _)); refine blk_far ?_ NB1_3.out _; exact bk_⟩, ⟨by (with_reducible repeat (first | refine blk_drewN ?_ _ | refine blk_drew ?_ | refine blk_alloc ?_ _)); refine blk_far ?_ NB2_3.out _; (with_reducible repeat (first | refine blk_drewN ?_ _ | refine blk_drew ?_ | refine blk_alloc ?_ _)); refine blk_far ?_ NB2_3.out _; exact bk_⟩, ⟨by (with_reducible repeat (first | refine blk_drewN ?_ _ | refine blk_drew ?_ | refine blk_alloc ?_ _)); refine blk_put (cs := #[.int .i64 a0_0, .slice none 0 0]) ?_ 1 _ rfl; (with_reducible repeat (first | refine blk_drewN ?_ _ | refine blk_drew ?_ | refine blk_alloc ?_ _)); refine blk_put (cs := #[.int .i64 0, .slice none 0 0]) ?_ 0 _ rfl; exact bk_⟩, ⟨bw_⟩⟩
 case round =>
  clear H'
  try clear c1
  try clear hcz10_0 hcz10_1
  try clear hcz11_0 hcz11_1
  try clear hcz6_0 hcz6_1
  try clear hfz10_0 hfz10_1
  try clear hfz11_0 hfz11_1
  try clear hfz6_0 hfz6_1
  obtain ⟨x18_1, x4001_1, u4001, rfl, HA, HK1, HO_4001, BK1, BK2, BK3, HB⟩ := hrel
  cases gk with
  | zero => exact absurd HA.out (by simp [impl_putFences.l0])
  | succ k1 =>
   have H := HA.out
   clear HA
   simp only [impl_putFences.l0] at H
   by_cases c12 : x18_1 < (l0_1.length : Int)
   rotate_left
   ·rw [if_neg c12] at H
    have c12b0 : decide (x18_1 < (l0_1.length : Int)) = false := decide_eq_false c12
    clear c12
    replace H := Option.bind_eq_some_iff.mp H
    obtain ⟨t4, A420, H⟩ := H
    replace H : (if t4 = true then (some (a0_0, x4001_1, true)) else (some (0, ([] : List (List (S50))), false))) = some (r1, r2, r3) := H
    have A42 := am_ A420
    clear A420
    by_cases c43 : t4 = true
    ·subst c43
     have H1 : (some (a0_0, x4001_1, true)) = some (r1, r2, r3) := by rw [if_pos rfl] at H; exact H
     clear H
     have H := H1
     clear H1
     simp only [Option.some.injEq, Prod.mk.injEq] at H
     obtain ⟨rfl, rfl, rfl⟩ := H
     have hnb44 := NB3_1.out
     have hnc44 := NB1_3.out
     have hnb45 := NB3_2.out
     have hnc45 := NB2_3.out
     obtain ⟨hcz46_0, hcz46_1, hfz46_0, hfz46_1⟩ := bc2_ BK3.out
     obtain ⟨Ao47, co47, eo47⟩ := Kd.S_slice HO_4001.out
     subst eo47
     go_wp2_with (first | ((with_reducible refine gate_callee (f := 20) rfl ?_); refine goesL_ (some 50) rfl rfl Try.func20 kr_ rfl #[.agg #[.int .i64 a0_0, .slice Ao47 x4001_1.length co47]] rfl ar_ ?_; (with_reducible refine (impl_ProgOk.calls a0_0 _ _ x4001_1 true _ ?side1 ?side2 A42.out).mono ?_); (case side1 => repeat (first | exact (Kd.S_reads' HO_4001.out).2.2 | (with_reducible refine Kd.C_alloc ?_ _) | (with_reducible refine Kd.C_drewN ?_ _) | (with_reducible refine Kd.C_drew ?_))); (case side2 => exact (Kd.S_reads' HO_4001.out).2.1); rintro e w48 ⟨rfl, hb⟩; refine ⟨_, rfl, ?_⟩; have n0_ := am_ (Kd.S_below (sx_ HO_4001.out) hb); have n1_ := bb_ BK1.out hb; have n2_ := bb_ BK2.out hb; have n3_ := bb_ BK3.out hb; have n4_ := bs_ hb; clear HO_4001; clear BK1; clear BK2; clear BK3; clear HB; have HO_4001 := n0_; have BK1 := n1_; have BK2 := n2_; have BK3 := n3_; have HB := n4_; clear n0_ n1_ n2_ n3_ n4_; (try clear hb); (try clear hb2); (try clear hk); (try clear hi); obtain ⟨hcz49_0, hcz49_1, hfz49_0, hfz49_1⟩ := bc2_ BK3.out; have hnb50 := NB2_1.out; have hnc50 := NB1_2.out; obtain ⟨hcz51_0, hcz51_1, hfz51_0, hfz51_1⟩ := bc2_ BK2.out))
     refine bodyPost_ret (results_ct rfl _ _ gb2 26 #[.int .i64 a0_0, .slice Ao47 x4001_1.length co47] (0, 0) _ rfl (by (with_reducible repeat (first | refine blk_drewN ?_ _ | refine blk_drew ?_ | refine blk_alloc ?_ _)); refine blk_put (cs := #[.int .i64 a0_0, .slice none 0 0]) ?_ 1 _ rfl; (with_reducible repeat (first | refine blk_drewN ?_ _ | refine blk_drew ?_ | refine blk_alloc ?_ _)); refine blk_put (cs := #[.int .i64 0, .slice none 0 0]) ?_ 0 _ rfl; exact bk_) Try.underlying26 rfl kr_) rfl ?_
     exact ⟨_, rr_, by (with_reducible repeat (first | apply Kd.S_alloc | apply Kd.S_drewN | apply Kd.S_drew)); exact Kd.S_mono (Kd.S_far (p := ⟨gb2, 1, none⟩) (Kd.S_far (p := ⟨gb2, 0, none⟩) (Kd.S_types HO_4001.out BK2.out (by decide)) (fun _ hk => hk.2) (.int .i64 a0_0)) (fun _ hk => hk.2) (.slice Ao47 x4001_1.length co47)) (fun _ hk => trivial), bw_⟩
    replace c43 := Bool.eq_false_iff.mpr c43
    subst c43
    have H1 : (some (0, ([] : List (List (S50))), false)) = some (r1, r2, r3) := by rw [if_neg (show ¬ (false = true) by decide)] at H; exact H
    clear H
    have H := H1
    clear H1
    simp only [Option.some.injEq, Prod.mk.injEq] at H
    obtain ⟨rfl, rfl, rfl⟩ := H
    have hnb52 := NB3_1.out
    have hnc52 := NB1_3.out
    have hnb53 := NB3_2.out
    have hnc53 := NB2_3.out
    obtain ⟨hcz54_0, hcz54_1, hfz54_0, hfz54_1⟩ := bc2_ BK3.out
    obtain ⟨Ao55, co55, eo55⟩ := Kd.S_slice HO_4001.out
    subst eo55
    go_wp2_with (first | ((with_reducible refine gate_callee (f := 20) rfl ?_); refine goesL_ (some 50) rfl rfl Try.func20 kr_ rfl #[.agg #[.int .i64 a0_0, .slice Ao55 x4001_1.length co55]] rfl ar_ ?_; (with_reducible refine (impl_ProgOk.calls a0_0 _ _ x4001_1 false _ ?side1 ?side2 A42.out).mono ?_); (case side1 => repeat (first | exact (Kd.S_reads' HO_4001.out).2.2 | (with_reducible refine Kd.C_alloc ?_ _) | (with_reducible refine Kd.C_drewN ?_ _) | (with_reducible refine Kd.C_drew ?_))); (case side2 => exact (Kd.S_reads' HO_4001.out).2.1); rintro e w56 ⟨rfl, hb⟩; refine ⟨_, rfl, ?_⟩; have n0_ := am_ (Kd.S_below (sx_ HO_4001.out) hb); have n1_ := bb_ BK1.out hb; have n2_ := bb_ BK2.out hb; have n3_ := bb_ BK3.out hb; have n4_ := bs_ hb; clear HO_4001; clear BK1; clear BK2; clear BK3; clear HB; have HO_4001 := n0_; have BK1 := n1_; have BK2 := n2_; have BK3 := n3_; have HB := n4_; clear n0_ n1_ n2_ n3_ n4_; (try clear hb); (try clear hb2); (try clear hk); (try clear hi); have hnb57 := NB2_1.out; have hnc57 := NB1_2.out; obtain ⟨hcz58_0, hcz58_1, hfz58_0, hfz58_1⟩ := bc2_ BK2.out))
    refine bodyPost_ret (results_ct rfl _ _ gb2 26 #[.int .i64 0, .slice none 0 0] (0, 0) _ rfl (by (with_reducible repeat (first | refine blk_drewN ?_ _ | refine blk_drew ?_ | refine blk_alloc ?_ _)); refine blk_put (cs := #[.int .i64 0, .slice none 0 0]) ?_ 1 _ rfl; (with_reducible repeat (first | refine blk_drewN ?_ _ | refine blk_drew ?_ | refine blk_alloc ?_ _)); refine blk_put (cs := #[.int .i64 0, .slice none 0 0]) ?_ 0 _ rfl; exact bk_) Try.underlying26 rfl kr_) rfl ?_
    exact ⟨_, rr_, by first | exact Kd.S_nil _ _ _ _ _ | exact Kd.N_nil _ _ _ _ _ | exact Kd.V_nil _ _ _ _ _ | exact Kd.Q_nil _ _ _ _ _ | exact Kd.R_nil _ _ _ _ _, bw_⟩
   rw [if_pos c12] at H
   have c12b0 : decide (x18_1 < (l0_1.length : Int)) = true := decide_eq_true c12
   clear c12
   by_cases c13 : 0 ≤ x18_1
   rotate_left
   ·rw [if_neg c13] at H
    exact absurd H (by simp)
   rw [if_pos c13] at H
   have c13b0 : decide (0 ≤ x18_1) = true := decide_eq_true c13
   clear c13
   by_cases c14 : x18_1 < (l0_1.length : Int)
   rotate_left
   ·rw [if_neg c14] at H
    exact absurd H (by simp)
   rw [if_pos c14] at H
   have c14b0 : decide (x18_1 < (l0_1.length : Int)) = true := decide_eq_true c14
   clear c14
   obtain ⟨y6, hy6⟩ : ∃ y_ : List Int, y_ = (([] : List Int)) := ⟨_, rfl⟩
   replace H : (impl_putFences.l1 k1 l1 x18_1 (rd_L4 l0_1 x18_1) y6 l0_1 (l0_1.length : Int) x18_1 l1 (l1.length : Int) 0 a0_0 x4001_1) = some (r1, r2, r3) := rh_ hy6
   have Ny6 := am_ hy6
   clear hy6
   have H' := am_ H
   clear H
   have p5 : 0 ≤ (x18_1 : Int) := od_
   have q5 : x18_1 < (l0_1.length : Int) := od_
   obtain ⟨ad5, A5_0, c5_0, e5, hx5_0, hl5_0, hi5_0⟩ := at_L4 HR0_1.out x18_1 p5 q5
   cases e5
   replace hx5_0 := (HB.out.cell (World.block_lt_of_cell? w _ hx5_0)).trans hx5_0
   have HR5_0 := am_ hi5_0
   have HC5_0 := am_ hl5_0
   clear hi5_0 hl5_0
   replace p5 := eq_true p5
   replace q5 := eq_true q5
   go_wp2_with (first | ((with_reducible refine gate_dst (N := 23) rfl ?_); refine Kd.R_lit (Kd.int .i64) _ 3 ?hg (N := 23) ?hd (xs := ([] : List Int)) (inner := []) (ok := fun _ => True) (okp := fun _ => True) ?hr ?hp (fun _ hk => hk) trivial (Below.refl _ _) (Nat.le_refl _) (by simp) ?_; (case hd => rfl); (case hg => rfl); (case hr => first | (go_simp; done) | (go_simp; rfl)); (case hp => exact (Reps.none _ _)); intro v7 w15 ho16 hb hg_ hnew_; clear hg_ hnew_; (first | rw [← Ny6.out] at ho16 | (simp only [Int.reduceToNat] at ho16; rw [← Ny6.out] at ho16)); have n0_ := am_ (Kd.S_below (sx_ HO_4001.out) hb); have n1_ := am_ (Kd.R_lower ho16 (below_size bw_)); have n2_ := bb_ BK1.out hb; have n3_ := bb_ BK2.out hb; have n4_ := bb_ BK3.out hb; have n5_ := bs_ hb; clear HO_4001; clear BK1; clear BK2; clear BK3; clear HB; have HO_4001 := n0_; have HO8 := n1_; have BK1 := n2_; have BK2 := n3_; have BK3 := n4_; have HB := n5_; clear n0_ n1_ n2_ n3_ n4_ n5_; clear hb ho16))
   go_loopg [9, 26] k1 (fun kq v9 v26 w' => ∃ (x9_2 : List Int) (x26_2 : Int), v26 = .int .i64 x26_2 ∧ Aside0 (impl_putFences.l1 kq l1 x18_1 (rd_L4 l0_1 x18_1) x9_2 l0_1 (l0_1.length : Int) x18_1 l1 (l1.length : Int) x26_2 a0_0 x4001_1 = some (r1, r2, r3)) ∧ Aside0 (kq ≤ k1) ∧ Aside0 (Kd.R (Kd.int .i64) 3 w' w.heap.size (fun _ => True) v9 x9_2) ∧ Aside0 (Kd.S (Kd.slice 50 k50) 46 w' w.heap.size (fun _ => True) u4001 x4001_1) ∧ Aside0 (w'.heap[gb1]? = some (.cells #[.int .i64 a0_0, (.slice (some ad5) l0_1.length c0_1)] 26 (0, 0))) ∧ Aside0 (w'.heap[gb2]? = some (.cells #[.int .i64 0, (.slice none 0 0)] 26 (0, 0))) ∧ Aside0 (w'.heap[gb3]? = some (.cells #[.int .i64 a0_0, u4001] 26 (0, 0))) ∧ Aside0 (Below w.heap.size w w'))
   case atStart => exact ⟨(y6), (0), sd_, H', ⟨Nat.le_refl _⟩, ⟨by (with_reducible repeat (first | apply Kd.R_alloc | apply Kd.R_drewN | apply Kd.R_drew)); exact HO8.out⟩, ⟨by (with_reducible repeat (first | apply Kd.S_alloc | apply Kd.S_drewN | apply Kd.S_drew)); exact HO_4001.out⟩, ⟨bk_⟩, ⟨bk_⟩, ⟨bk_⟩, ⟨bw_⟩⟩
   case round =>
    clear H'
    try clear c1
    try clear p5
    try clear q5
    try clear c12
    try clear c12b0
    try clear c13
    try clear c13b0
    try clear c14
    try clear c14b0
    try clear hcz10_0 hcz10_1
    try clear hcz11_0 hcz11_1
    try clear hcz6_0 hcz6_1
    try clear hfz10_0 hfz10_1
    try clear hfz11_0 hfz11_1
    try clear hfz6_0 hfz6_1
    try clear hx5_0
    try clear p5
    try clear q5
    obtain ⟨x9_2, x26_2, rfl, HA, HK2, HO_9, HO_4001, BK1, BK2, BK3, HB⟩ := hrel
    cases gk with
    | zero => exact absurd HA.out (by simp [impl_putFences.l1])
    | succ k2 =>
     have H := HA.out
     clear HA
     simp only [impl_putFences.l1] at H
     by_cases c17 : x26_2 < (l1.length : Int)
     ·rw [if_pos c17] at H
      have c17b0 : decide (x26_2 < (l1.length : Int)) = true := decide_eq_true c17
      clear c17
      by_cases c18 : 0 ≤ x26_2
      rotate_left
      ·rw [if_neg c18] at H
       exact absurd H (by simp)
      rw [if_pos c18] at H
      have c18b0 : decide (0 ≤ x26_2) = true := decide_eq_true c18
      clear c18
      by_cases c19 : x26_2 < (l1.length : Int)
      rotate_left
      ·rw [if_neg c19] at H
       exact absurd H (by simp)
      rw [if_pos c19] at H
      have c19b0 : decide (x26_2 < (l1.length : Int)) = true := decide_eq_true c19
      clear c19
      by_cases c20 : ((rd_T44 l1 x26_2).f0) = x18_1
      rotate_left
      ·rw [if_neg c20] at H
       have c20b0 : (((rd_T44 l1 x26_2).f0) == x18_1) = false := beq_eq_false_iff_ne.mpr c20
       have c20b1 : (((rd_T44 l1 x26_2).f0) != x18_1) = true := bne_iff_ne.mpr c20
       have H' := am_ H
       clear H
       have p9 : 0 ≤ (x26_2 : Int) := od_
       have q9 : x26_2 < (l1.length : Int) := od_
       obtain ⟨ad9, e9, hx9_0, hx9_1⟩ := at_T44 HR1.out x26_2 p9 q9
       cases e9
       replace hx9_0 := (HB.out.cell (World.block_lt_of_cell? w _ hx9_0)).trans hx9_0
       replace hx9_1 := (HB.out.cell (World.block_lt_of_cell? w _ hx9_1)).trans hx9_1
       replace p9 := eq_true p9
       replace q9 := eq_true q9
       go_wp2_with (first | ((with_reducible refine gate_dst (N := 11) rfl ?_); refine box_event ?hg (N := 11) ?hd (cs := #[.int .i64 0, .int .i64 0]) (t := 44) ?hr ?_; (case hd => rfl); (case hg => rfl); (case hr => exact hrr_); intro gb10 hg w28 hbox hb; have n0_ := am_ (Kd.R_below (rx_ HO_9.out) hb); have n1_ := am_ (Kd.S_below (sx_ HO_4001.out) hb); have n2_ := bb_ BK1.out hb; have n3_ := bb_ BK2.out hb; have n4_ := bb_ BK3.out hb; have n5_ := bs_ hb; have n6_ := am_ (hbox); have n7_ := ge_ (w := w) hg; have n8_ := ge_ (w := w) hg; have n9_ := nl_ BK1.out hg; have n10_ := nr_ BK1.out hg; have n11_ := nl_ BK2.out hg; have n12_ := nr_ BK2.out hg; have n13_ := nl_ BK3.out hg; have n14_ := nr_ BK3.out hg; clear HO_9; clear HO_4001; clear BK1; clear BK2; clear BK3; clear HB; have HO_9 := n0_; have HO_4001 := n1_; have BK1 := n2_; have BK2 := n3_; have BK3 := n4_; have HB := n5_; have BK10 := n6_; have GW10 := n7_; have GE10 := n8_; have NB1_10 := n9_; have NB10_1 := n10_; have NB2_10 := n11_; have NB10_2 := n12_; have NB3_10 := n13_; have NB10_3 := n14_; clear n0_ n1_ n2_ n3_ n4_ n5_ n6_ n7_ n8_ n9_ n10_ n11_ n12_ n13_ n14_; clear hb hbox hg; have hnb29 := NB10_1.out; have hnc29 := NB1_10.out; have hnb30 := NB10_2.out; have hnc30 := NB2_10.out; have hnb31 := NB10_3.out; have hnc31 := NB3_10.out; obtain ⟨hcz32_0, hcz32_1, hfz32_0, hfz32_1⟩ := bc2_ BK10.out))
       go_roundg k2
       case measure => have := HK1.out; have := HK2.out; omega
       case rel => exact ⟨(x9_2), (wrap64 (x26_2 + 1)), sd_, H', ⟨by have := HK1.out; have := HK2.out; omega⟩, ⟨by (with_reducible repeat (first | apply Kd.R_alloc | apply Kd.R_drewN | apply Kd.R_drew)); exact Kd.R_mono (Kd.R_far (p := ⟨gb10, 1, none⟩) (Kd.R_far (p := ⟨gb10, 0, none⟩) (Kd.R_types HO_9.out BK10.out (by decide)) (fun _ hk => hk.2) (.int .i64 ((rd_T44 l1 x26_2).f0))) (fun _ hk => hk.2) (.int .i64 ((rd_T44 l1 x26_2).f1))) (fun _ hk => trivial)⟩, ⟨by (with_reducible repeat (first | apply Kd.S_alloc | apply Kd.S_drewN | apply Kd.S_drew)); exact Kd.S_mono (Kd.S_far (p := ⟨gb10, 1, none⟩) (Kd.S_far (p := ⟨gb10, 0, none⟩) (Kd.S_types HO_4001.out BK10.out (by decide)) (fun _ hk => hk.2) (.int .i64 ((rd_T44 l1 x26_2).f0))) (fun _ hk => hk.2) (.int .i64 ((rd_T44 l1 x26_2).f1))) (fun _ hk => trivial)⟩, ⟨by (with_reducible repeat (first | refine blk_drewN ?_ _ | refine blk_drew ?_ | refine blk_alloc ?_ _)); refine blk_far ?_ NB1_10.out _; (with_reducible repeat (first | refine blk_drewN ?_ _ | refine blk_drew ?_ | refine blk_alloc ?_ _)); refine blk_far ?_ NB1_10.out _; exact bk_⟩, ⟨by (with_reducible repeat (first | refine blk_drewN ?_ _ | refine blk_drew ?_ | refine blk_alloc ?_ _)); refine blk_far ?_ NB2_10.out _; (with_reducible repeat (first | refine blk_drewN ?_ _ | refine blk_drew ?_ | refine blk_alloc ?_ _)); refine blk_far ?_ NB2_10.out _; exact bk_⟩, ⟨by (with_reducible repeat (first | refine blk_drewN ?_ _ | refine blk_drew ?_ | refine blk_alloc ?_ _)); refine blk_far ?_ NB3_10.out _; (with_reducible repeat (first | refine blk_drewN ?_ _ | refine blk_drew ?_ | refine blk_alloc ?_ _)); refine blk_far ?_ NB3_10.out _; exact bk_⟩, ⟨bw_⟩⟩
      rw [if_pos c20] at H
      have c20b0 : (((rd_T44 l1 x26_2).f0) == x18_1) = true := beq_iff_eq.mpr c20
      have c20b1 : (((rd_T44 l1 x26_2).f0) != x18_1) = false := bne_eq_false_iff_eq.mpr c20
      clear c20
      by_cases c21 : x9_2.length < 17592186044416
      rotate_left
      ·rw [if_neg c21] at H
       exact absurd H (by simp)
      rw [if_pos c21] at H
      have LMc21 := am_ c21
      clear c21
      obtain ⟨y11, hy11⟩ : ∃ y_ : List Int, y_ = (x9_2 ++ [(rd_T44 l1 x26_2).f1]) := ⟨_, rfl⟩
      replace H : (impl_putFences.l1 k2 l1 x18_1 (rd_L4 l0_1 x18_1) y11 l0_1 (l0_1.length : Int) x18_1 l1 (l1.length : Int) (wrap64 (x26_2 + 1)) a0_0 x4001_1) = some (r1, r2, r3) := rh_ hy11
      have Ny11 := am_ hy11
      clear hy11
      have H' := am_ H
      clear H
      have p9 : 0 ≤ (x26_2 : Int) := od_
      have q9 : x26_2 < (l1.length : Int) := od_
      obtain ⟨ad9, e9, hx9_0, hx9_1⟩ := at_T44 HR1.out x26_2 p9 q9
      cases e9
      replace hx9_0 := (HB.out.cell (World.block_lt_of_cell? w _ hx9_0)).trans hx9_0
      replace hx9_1 := (HB.out.cell (World.block_lt_of_cell? w _ hx9_1)).trans hx9_1
      replace p9 := eq_true p9
      replace q9 := eq_true q9
      go_wp2_with (first | ((with_reducible refine gate_dst (N := 11) rfl ?_); refine box_event ?hg (N := 11) ?hd (cs := #[.int .i64 0, .int .i64 0]) (t := 44) ?hr ?_; (case hd => rfl); (case hg => rfl); (case hr => exact hrr_); intro gb10 hg w22 hbox hb; have n0_ := am_ (Kd.R_below (rx_ HO_9.out) hb); have n1_ := am_ (Kd.S_below (sx_ HO_4001.out) hb); have n2_ := bb_ BK1.out hb; have n3_ := bb_ BK2.out hb; have n4_ := bb_ BK3.out hb; have n5_ := bs_ hb; have n6_ := am_ (hbox); have n7_ := ge_ (w := w) hg; have n8_ := ge_ (w := w) hg; have n9_ := nl_ BK1.out hg; have n10_ := nr_ BK1.out hg; have n11_ := nl_ BK2.out hg; have n12_ := nr_ BK2.out hg; have n13_ := nl_ BK3.out hg; have n14_ := nr_ BK3.out hg; clear HO_9; clear HO_4001; clear BK1; clear BK2; clear BK3; clear HB; have HO_9 := n0_; have HO_4001 := n1_; have BK1 := n2_; have BK2 := n3_; have BK3 := n4_; have HB := n5_; have BK10 := n6_; have GW10 := n7_; have GE10 := n8_; have NB1_10 := n9_; have NB10_1 := n10_; have NB2_10 := n11_; have NB10_2 := n12_; have NB3_10 := n13_; have NB10_3 := n14_; clear n0_ n1_ n2_ n3_ n4_ n5_ n6_ n7_ n8_ n9_ n10_ n11_ n12_ n13_ n14_; clear hb hbox hg; have hnb23 := NB10_1.out; have hnc23 := NB1_10.out; have hnb24 := NB10_2.out; have hnc24 := NB2_10.out; have hnb25 := NB10_3.out; have hnc25 := NB3_10.out; obtain ⟨hcz26_0, hcz26_1, hfz26_0, hfz26_1⟩ := bc2_ BK10.out) | ((with_reducible refine gate_builtin (b := .append) (xs := #[.tmp 34, .tmp 37]) rfl ?_); at_builtin; refine Kd.R_append (Kd.int .i64) (w0 := w) w.heap.size rfl (.tmp 34) (.tmp 37) 47 3 (.int .i64 0) 8 rfl Try.underlying47 info3 rfl (by decide) (by omega) u9 x9_2 ((rd_T44 l1 x26_2).f1) [.int .i64 ((rd_T44 l1 x26_2).f1)] (fun _ => True) (fun _ => False) rfl (by first | (go_simp; done) | (go_simp; rfl)) ?aP (fun _ hk => hk.elim) ?aF ?aO ?aB ?aS ?aL ?_; (case aP => exact rfl); (case aB => exact bw_); (case aF => exact (fun _ _ => trivial)); (case aO => exact (by (with_reducible repeat (first | apply Kd.R_alloc | apply Kd.R_drewN | apply Kd.R_drew)); exact Kd.R_mono (Kd.R_far (p := ⟨gb10, 1, none⟩) (Kd.R_far (p := ⟨gb10, 0, none⟩) (Kd.R_types HO_9.out BK10.out (by decide)) (fun _ hk => hk.2) (.int .i64 ((rd_T44 l1 x26_2).f0))) (fun _ hk => hk.2) (.int .i64 ((rd_T44 l1 x26_2).f1))) (fun _ hk => trivial))); (case aS => exact (below_size bw_)); (case aL => have := LMc21.out; omega); intro v12 w27 ho hb hg hat; rw [← Ny11.out] at ho; have n0_ := am_ (Kd.S_over' (by (with_reducible repeat (first | apply Kd.S_alloc | apply Kd.S_drewN | apply Kd.S_drew)); exact (Kd.S_mono (Kd.S_far (p := ⟨gb10, 1, none⟩) (Kd.S_far (p := ⟨gb10, 0, none⟩) (Kd.S_types HO_4001.out BK10.out (by decide)) (fun _ hk => hk.2) (.int .i64 ((rd_T44 l1 x26_2).f0))) (fun _ hk => hk.2) (.int .i64 ((rd_T44 l1 x26_2).f1))) (fun _ h_ => h_.1))) (Kd.R_typed (by (with_reducible repeat (first | apply Kd.R_alloc | apply Kd.R_drewN | apply Kd.R_drew)); exact (Kd.R_mono (Kd.R_far (p := ⟨gb10, 1, none⟩) (Kd.R_far (p := ⟨gb10, 0, none⟩) (Kd.R_types HO_9.out BK10.out (by decide)) (fun _ hk => hk.2) (.int .i64 ((rd_T44 l1 x26_2).f0))) (fun _ hk => hk.2) (.int .i64 ((rd_T44 l1 x26_2).f1))) (fun _ h_ => h_.1)))) (by decide) hg); have n1_ := am_ (blk_grown (g := gb1) (o := .cells #[.int .i64 a0_0, .slice (some ad5) l0_1.length c0_1] 26 (0, 0)) (by (with_reducible repeat (first | refine blk_drewN ?_ _ | refine blk_drew ?_ | refine blk_alloc ?_ _)); refine blk_far ?_ NB1_10.out _; (with_reducible repeat (first | refine blk_drewN ?_ _ | refine blk_drew ?_ | refine blk_alloc ?_ _)); refine blk_far ?_ NB1_10.out _; exact bk_) hg (Kd.R_ne HO_9.out BK1.out (by decide))); have n2_ := am_ (blk_grown (g := gb2) (o := .cells #[.int .i64 0, .slice none 0 0] 26 (0, 0)) (by (with_reducible repeat (first | refine blk_drewN ?_ _ | refine blk_drew ?_ | refine blk_alloc ?_ _)); refine blk_far ?_ NB2_10.out _; (with_reducible repeat (first | refine blk_drewN ?_ _ | refine blk_drew ?_ | refine blk_alloc ?_ _)); refine blk_far ?_ NB2_10.out _; exact bk_) hg (Kd.R_ne HO_9.out BK2.out (by decide))); have n3_ := am_ (blk_grown (g := gb3) (o := .cells #[.int .i64 a0_0, u4001] 26 (0, 0)) (by (with_reducible repeat (first | refine blk_drewN ?_ _ | refine blk_drew ?_ | refine blk_alloc ?_ _)); refine blk_far ?_ NB3_10.out _; (with_reducible repeat (first | refine blk_drewN ?_ _ | refine blk_drew ?_ | refine blk_alloc ?_ _)); refine blk_far ?_ NB3_10.out _; exact bk_) hg (Kd.R_ne HO_9.out BK3.out (by decide))); have n4_ := am_ (blk_grown (g := gb10) (o := .cells #[.int .i64 ((rd_T44 l1 x26_2).f0), .int .i64 ((rd_T44 l1 x26_2).f1)] 44 (0, 0)) (by (with_reducible repeat (first | refine blk_drewN ?_ _ | refine blk_drew ?_ | refine blk_alloc ?_ _)); refine blk_put (cs := #[.int .i64 ((rd_T44 l1 x26_2).f0), .int .i64 0]) ?_ 1 _ rfl; (with_reducible repeat (first | refine blk_drewN ?_ _ | refine blk_drew ?_ | refine blk_alloc ?_ _)); refine blk_put (cs := #[.int .i64 0, .int .i64 0]) ?_ 0 _ rfl; exact bk_) hg (Kd.R_ne HO_9.out BK10.out (by decide))); have n5_ := am_ (hb); have n6_ := am_ (ho); clear HO_4001; clear BK1; clear BK2; clear BK3; clear BK10; clear HB; clear HO_9; have HO_4001 := n0_; have BK1 := n1_; have BK2 := n2_; have BK3 := n3_; have BK10 := n4_; have HB := n5_; have HO13 := n6_; clear n0_ n1_ n2_ n3_ n4_ n5_ n6_; clear ho hb hg hat))
      go_roundg k2
      case measure => have := HK1.out; have := HK2.out; omega
      case rel => exact ⟨(y11), (wrap64 (x26_2 + 1)), sd_, H', ⟨by have := HK1.out; have := HK2.out; omega⟩, ⟨by (with_reducible repeat (first | apply Kd.R_alloc | apply Kd.R_drewN | apply Kd.R_drew)); exact HO13.out⟩, ⟨by (with_reducible repeat (first | apply Kd.S_alloc | apply Kd.S_drewN | apply Kd.S_drew)); exact HO_4001.out⟩, ⟨bk_⟩, ⟨bk_⟩, ⟨bk_⟩, ⟨bw_⟩⟩
     rw [if_neg c17] at H
     have c17b0 : decide (x26_2 < (l1.length : Int)) = false := decide_eq_false c17
     clear c17
     replace H := Option.bind_eq_some_iff.mp H
     obtain ⟨t14, A330, H⟩ := H
     replace H : (if x4001_1.length < 5864062014805 then (impl_putFences.l0 k2 l1 l0_1 (l0_1.length : Int) (wrap64 (x18_1 + 1)) a0_0 (x4001_1 ++ [t14])) else (none)) = some (r1, r2, r3) := H
     have A33 := am_ A330
     clear A330
     by_cases c34 : x4001_1.length < 5864062014805
     rotate_left
     ·rw [if_neg c34] at H
      exact absurd H (by simp)
     rw [if_pos c34] at H
     have LMc34 := am_ c34
     clear c34
     obtain ⟨y17, hy17⟩ : ∃ y_ : List (List (S50)), y_ = (x4001_1 ++ [t14]) := ⟨_, rfl⟩
     replace H : (impl_putFences.l0 k2 l1 l0_1 (l0_1.length : Int) (wrap64 (x18_1 + 1)) a0_0 y17) = some (r1, r2, r3) := rh_ hy17
     have Ny17 := am_ hy17
     clear hy17
     have H' := am_ H
     clear H
     try go_wp2
     have n0_ := am_ (Kd.R_drew HO_9.out)
     have n1_ := am_ (Kd.S_drew HO_4001.out)
     have n2_ := am_ (blk_drew BK1.out)
     have n3_ := am_ (blk_drew BK2.out)
     have n4_ := am_ (blk_drew BK3.out)
     have n5_ := am_ (below_drew1 HB.out)
     clear HO_9
     clear HO_4001
     clear BK1
     clear BK2
     clear BK3
     clear HB
     have HO_9 := n0_
     have HO_4001 := n1_
     have BK1 := n2_
     have BK2 := n3_
     have BK3 := n4_
     have HB := n5_
     clear n0_ n1_ n2_ n3_ n4_ n5_
     obtain ⟨Ao36, co36, eo36⟩ := Kd.R_slice HO_9.out
     (first | subst eo36 | (injection eo36 with f1_ f2_ f3_; have f4_ := f1_.symm; have f5_ := f3_.symm; clear f1_ f2_ f3_; subst f4_; subst f5_))
     refine start_ (n := 9) (S := fun w' => w'.cell? ⟨gb3, 0, none⟩ = some (.int .i64 a0_0) ∧ w'.cell? ⟨gb3, 1, none⟩ = some (u4001)) (ds := [8]) (bm_ 9 0) kr_ rfl rfl ⟨(blk_cell BK3.out 0).trans rfl, (blk_cell BK3.out 1).trans rfl⟩ (fun hHeld => ?_); refine with_tabW impl_putFences.tab12 impl_putFences.bits12 (fun HT_ HW_ => ?_)
     generalize wr.drew = w35 at HO_9 HO_4001 BK1 BK2 BK3 HB hHeld ⊢
     refine pure_ (i := 0) (N := some 40) (bm_ 9 1) rfl rfl (any_of HT_.out kr_) (fun _ _ _ h => h) (Or.inl ⟨rfl, yi_⟩) pu_ ?_
     refine pure_ (i := 2) (N := some 42) (bm_ 9 5) rfl rfl (any_of HT_.out kr_) (fun _ _ _ h => h) (Or.inl ⟨rfl, yi_⟩) pu_ ?_
     refine pure_ (i := 3) (N := some 43) (bm_ 9 13) rfl rfl (any_of HT_.out kr_) (fun _ _ _ h => h) (Or.inl ⟨rfl, yi_⟩) pu_ ?_
     refine take_ (i := 1) (N := some 41) (v := ?_) (a' := ?_) (bm_ 9 15) rfl rfl (take_ofW HT_.out HW_.out kr_) (fun _ _ _ h => h) (Or.inl ⟨by rfl, ?_⟩) hHeld ?_ ?_
     rotate_left
     ·rintro w' ⟨s0, s1⟩
      go_simp
      with_reducible rfl
     rotate_left
     ·exact pu_
     refine one_ (i := 4) (N := some 44) (bm_ 9 31) rfl rfl (one_of HT_.out kr_) (by decide) (fun K hK => ?_)
     refine goes_ Try.func39 kr_ rfl #[.slice A5_0 (rd_L4 l0_1 x18_1).length c5_0, .slice Ao36 x9_2.length co36] (by rfl) rfl rfl ar_ ?_
     with_reducible refine (impl_withFencesAt.calls k2 _ _ (rd_L4 l0_1 x18_1) _ _ x9_2 t14 _ ?side1 ?side2 ?side3 ?side4 A33.out).mono ?_
     (case side1 => exact cb_)
     (case side2 => exact HC5_0.out)
     (case side3 => repeat (first | exact (Kd.R_reads' HO_9.out).2.2 | (with_reducible refine Kd.C_alloc ?_ _) | (with_reducible refine Kd.C_drewN ?_ _) | (with_reducible refine Kd.C_drew ?_)))
     (case side4 => exact (Kd.R_reads' HO_9.out).2.1)
     rintro e w37 ⟨v15, rfl, ho0, hb⟩
     refine ⟨_, rfl, ?_⟩
     have n0_ := am_ (Kd.R_below (rx_ HO_9.out) hb)
     have n1_ := am_ (Kd.S_elder' (sx_ HO_4001.out) (Kd.R_base ho0) hb)
     have n2_ := am_ (Kd.R_lower ho0 (below_size bw_))
     have n3_ := bb_ BK1.out hb
     have n4_ := bb_ BK2.out hb
     have n5_ := bb_ BK3.out hb
     have n6_ := bs_ hb
     clear HO_9
     clear HO_4001
     clear BK1
     clear BK2
     clear BK3
     clear HB
     have HO_9 := n0_
     have HO_4001 := n1_
     have HO16 := n2_
     have BK1 := n3_
     have BK2 := n4_
     have BK3 := n5_
     have HB := n6_
     clear n0_ n1_ n2_ n3_ n4_ n5_ n6_
     (try clear hb)
     (try clear hb2)
     (try clear hk)
     (try clear hi)
     (try clear ho0)
     obtain ⟨Ao39, co39, eo39⟩ := Kd.R_slice HO16.out
     (first | subst eo39 | (injection eo39 with f1_ f2_ f3_; have f4_ := f1_.symm; have f5_ := f3_.symm; clear f1_ f2_ f3_; subst f4_; subst f5_))
     refine hK.out _ _ ⟨(blk_cell BK3.out 0).trans rfl, (blk_cell BK3.out 1).trans rfl⟩ (fun hHeld => ?_)
     clear hK K
     refine norm_ (a' := ?_) ?_ ?_
     rotate_left
     ·show Act.put _ (some 44) _ = _
      simp only [Act.put, List.setIfInBounds_toArray, List.set_cons_zero, List.set_cons_succ, i64_w, i32_w]
      rfl
     refine one_ (i := 5) (N := some 45) (bm_ 9 63) rfl rfl (one_of HT_.out kr_) (by decide) (fun K hK => ?_)
     refine value_ (w1 := ?_) (v := ?_) (by rfl) rfl ?_ ?_
     rotate_left 2
     ·go_simp
      constructor
      ·rfl
      ·rfl
     refine hK.out _ _ ⟨(blk_cell (blk_alloc BK3.out _) 0).trans rfl, (blk_cell (blk_alloc BK3.out _) 1).trans rfl⟩ (fun hHeld => ?_)
     clear hK K
     refine norm_ (a' := ?_) ?_ ?_
     rotate_left
     ·show Act.put _ (some 45) _ = _
      simp only [Act.put, List.setIfInBounds_toArray, List.set_cons_zero, List.set_cons_succ, i64_w, i32_w]
      rfl
     refine one_ (i := 6) (N := some 46) (bm_ 9 127) rfl rfl (one_of HT_.out kr_) (by decide) (fun K hK => ?_)
     refine Kd.S_append_step (Kd.slice 50 k50) (w0 := w) w.heap.size (by rfl) (.tmp 41) (.tmp 45) 24 46 (.slice none 0 0) 24 rfl Try.underlying24 info46 rfl (by decide) (by omega) u4001 x4001_1 t14 [.slice Ao39 t14.length co39] (fun _ => True) (fun k_ => some k_ = (.slice Ao39 t14.length co39 : Value).ownBlock) rfl rfl ?aP (fun k_ hk_ => ((Kd.R_mono (ok' := fun k_ => ((fun _ => True)) k_ ∧ some k_ ≠ (u4001 : Value).ownBlock) (Kd.R_apart' (HO16.out) (Kd.S_typed HO_4001.out) (by decide)) (fun k_ hk => ⟨trivial, hk.2⟩))).1 k_ hk_.symm) ?aF ?aO ?aB ?aS ?aL ?_
     (case aP => exact Kd.M_row (Kd.R_mono (Kd.R_tight rfl (Kd.R_mono (ok' := fun k_ => ((fun _ => True)) k_ ∧ some k_ ≠ (u4001 : Value).ownBlock) (Kd.R_apart' (HO16.out) (Kd.S_typed HO_4001.out) (by decide)) (fun k_ hk => ⟨trivial, hk.2⟩))) (fun _ h_ => h_)))
     (case aB => exact bw_)
     (case aF => exact (fun _ _ => trivial))
     (case aO => exact (by (with_reducible repeat (first | apply Kd.S_alloc | apply Kd.S_drewN | apply Kd.S_drew)); exact Kd.S_mono HO_4001.out (fun k_ hk => ⟨trivial, fun e_ => hk.2 e_⟩)))
     (case aS => exact (below_size bw_))
     (case aL => have := LMc34.out; omega)
     intro v18 w38 ho hb hg hat
     rw [← Ny17.out] at ho
     have n0_ := am_ (Kd.R_over' (rx_ HO_9.out) (Kd.S_typed (sx_ HO_4001.out)) (by decide) hg)
     have n1_ := am_ (blk_grown (g := gb1) (o := .cells #[.int .i64 a0_0, .slice (some ad5) l0_1.length c0_1] 26 (0, 0)) bk_ hg (Kd.S_ne HO_4001.out BK1.out (by decide)))
     have n2_ := am_ (blk_grown (g := gb2) (o := .cells #[.int .i64 0, .slice none 0 0] 26 (0, 0)) bk_ hg (Kd.S_ne HO_4001.out BK2.out (by decide)))
     have n3_ := am_ (blk_grown (g := gb3) (o := .cells #[.int .i64 a0_0, u4001] 26 (0, 0)) bk_ hg (Kd.S_ne HO_4001.out BK3.out (by decide)))
     have n4_ := am_ (hb)
     have n5_ := am_ (ho)
     clear HO_9
     clear BK1
     clear BK2
     clear BK3
     clear HB
     clear HO_4001
     clear HO16
     have HO_9 := n0_
     have BK1 := n1_
     have BK2 := n2_
     have BK3 := n3_
     have HB := n4_
     have HO19 := n5_
     clear n0_ n1_ n2_ n3_ n4_ n5_
     clear ho hb hg hat
     obtain ⟨Ao40, co40, eo40⟩ := Kd.S_slice HO19.out
     (first | subst eo40 | (injection eo40 with f1_ f2_ f3_; have f4_ := f1_.symm; have f5_ := f3_.symm; clear f1_ f2_ f3_; subst f4_; subst f5_))
     refine hK.out _ _ ⟨(blk_cell BK3.out 0).trans rfl, (blk_cell BK3.out 1).trans rfl⟩ (fun hHeld => ?_)
     clear hK K
     refine norm_ (a' := ?_) ?_ ?_
     rotate_left
     ·show Act.put _ (some 46) _ = _
      simp only [Act.put, List.setIfInBounds_toArray, List.set_cons_zero, List.set_cons_succ, i64_w, i32_w]
      rfl
     refine pure_ (i := 7) (N := some 47) (bm_ 9 255) rfl rfl (any_of HT_.out kr_) (fun _ _ _ h => h) (Or.inl ⟨rfl, yi_⟩) pu_ ?_
     refine last_ (i := 8) (N := none) (bm_ 9 511) rfl rfl (one_of HT_.out kr_) (by decide) (fun K hK => ?_)
     have hs41 : w38.cell? ⟨gb3, 1, none⟩ = some (u4001) := (blk_cell BK3.out 1).trans rfl
     have hfs41 := blk_frozen BK3.out 1
     have hns41_0 := NB1_3.out
     have hns41_1 := NB2_3.out
     have hms41_0 := NB3_1.out
     have hms41_1 := NB3_2.out
     refine skip_ (w1 := ?_) (by rfl) rfl ?_ ?_
     rotate_left
     ·go_simp
      rfl
     refine hK.out _ _ ?_
     clear hK K
     refine done_ (done_of HT_.out kr_) ?_
     try go_wp2
     go_roundg k2
     case measure => have := HK1.out; have := HK2.out; omega
     case rel => exact ⟨(wrap64 (x18_1 + 1)), (y17), (.slice Ao40 y17.length co40), sd_, H', ⟨by have := HK1.out; have := HK2.out; omega⟩, ⟨by (with_reducible repeat (first | apply Kd.S_alloc | apply Kd.S_drewN | apply Kd.S_drew)); exact Kd.S_mono (Kd.S_far (p := ⟨gb3, 1, none⟩) (Kd.S_types HO19.out BK3.out (by decide)) (fun _ hk => hk.2) (.slice Ao40 y17.length co40)) (fun _ hk => trivial)⟩, ⟨by (with_reducible repeat (first | refine blk_drewN ?_ _ | refine blk_drew ?_ | refine blk_alloc ?_ _)); refine blk_far ?_ NB1_3.out _; exact bk_⟩, ⟨by (with_reducible repeat (first | refine blk_drewN ?_ _ | refine blk_drew ?_ | refine blk_alloc ?_ _)); refine blk_far ?_ NB2_3.out _; exact bk_⟩, ⟨by (with_reducible repeat (first | refine blk_drewN ?_ _ | refine blk_drew ?_ | refine blk_alloc ?_ _)); refine blk_put (cs := #[.int .i64 a0_0, u4001]) ?_ 1 _ rfl; exact bk_⟩, ⟨bw_⟩⟩

end Go.Proofs.Ytbgclnjnngolmaa.P
