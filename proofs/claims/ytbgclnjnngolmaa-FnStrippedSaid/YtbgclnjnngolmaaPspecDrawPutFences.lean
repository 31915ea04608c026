-- Written by mp.py (the session's own driver over the kit's printer) for the seat Ytbgclnjnngolmaa.
import Derived.Test.YtbgclnjnngolmaaK
import Derived.Test.YtbgclnjnngolmaaE
import Derived.Test.YtbgclnjnngolmaaPlawsbig
import Derived.Test.YtbgclnjnngolmaaPspecl02DrawProg
import Derived.Test.YtbgclnjnngolmaaPspecl05DrawProg
import Derived.Test.YtbgclnjnngolmaaPspecl07DrawSpots
namespace Go.Proofs.Ytbgclnjnngolmaa.P
open Go.RowKit Go.Proofs.YtbgclnjnngolmaaW.PrintWords Go.Proofs.YtbgclnjnngolmaaW.PrintLast Go.Proofs.YtbgclnjnngolmaaW.PrintMore
attribute [local go_sem] max2_int min2_int max_two min_two max_three min_three max_four min_four
set_option linter.unusedVariables false
set_option linter.unusedSimpArgs false

/-! ### spec_DrawPutFences: function 5 -/
def spec_DrawPutFences.f (k : Nat) (l0 : List Int) : Option (Int × (List (List (S50))) × (List (S44))) := (spec_l01New.f k l0).bind fun bt2 => ((spec_l05DrawProg.f k bt2.1 bt2.2.1 bt2.2.2).bind fun bt6 => ((spec_l01Once.f bt2.1 bt6.2.2.1 bt6.2.2.2 3).bind fun bt13 => (if bt13.1 = true then ((spec_l02DrawProg.f k bt2.1 bt13.2.1 bt13.2.2 16).bind fun bt16 => ((spec_l07DrawSpots.f k bt2.1 bt16.2.2.1 bt16.2.2.2 bt16.1 bt16.2.1).bind fun bt22 => (some (bt16.1, bt16.2.1, bt22.1)))) else ((spec_l07DrawSpots.f k bt2.1 bt13.2.1 bt13.2.2 bt6.1 bt6.2.1).bind fun bt27 => (some (bt6.1, bt6.2.1, bt27.1))))))
theorem spec_DrawPutFences.mono : ∀ a0 k, LeO (spec_DrawPutFences.f k a0) (spec_DrawPutFences.f (k + 1) a0) := by
 intro a0 k
 unfold spec_DrawPutFences.f
 repeat' first | (with_reducible first | exact spec_l01New.mono _ _ | exact spec_l02DrawProg.mono _ _ _ _ _ | exact spec_l05DrawProg.mono _ _ _ _ | exact spec_l07DrawSpots.mono _ _ _ _ _ _ | exact lr_ | exact ln_ | refine LeO.ite ?_ ?_ | refine LeO.bind ?_ (fun _ => ?_)) | exact spec_l01New.mono _ _ | exact spec_l02DrawProg.mono _ _ _ _ _ | exact spec_l05DrawProg.mono _ _ _ _ | exact spec_l07DrawSpots.mono _ _ _ _ _ _ | exact ln_ | refine LeO.ite ?_ ?_ | refine LeO.bind ?_ (fun _ => ?_)
set_option maxHeartbeats 8000000 in
set_option maxRecDepth 100000 in
theorem spec_DrawPutFences.calls (k : Nat) (A0 : Option Addr) (c0 : Nat) (l0 : List Int) (r1 : Int) (r2 : List (List (S50))) (r3 : List (S44)) (w : World) (hr0 : Kd.C (Kd.int .u8) w A0 l0.length l0) (hc0 : l0.length ≤ c0) (h : spec_DrawPutFences.f k l0 = some (r1, r2, r3)) :
  Calls Try.prog 5 #[.slice A0 l0.length c0] w fun e w' => ∃ v1_ v2_ : Value, e = .returned (.tuple #[.agg #[.int .i64 r1, v1_], v2_]) ∧ Kd.N (Kd.slice 50 k50) 46 w' w.heap.size (fun k_ => (w.heap.size ≤ k_) ∧ some k_ ≠ (v2_ : Value).ownBlock) v1_ r2 ∧ Kd.R k44 44 w' w.heap.size (fun k_ => (w.heap.size ≤ k_)) v2_ r3 ∧ Below w.heap.size w w' := by
 have hu26 := Try.underlying26
 have HR0 := am_ hr0
 have HC0 := am_ hc0
 clear hr0 hc0
 have HB := am_ (Below.refl w.heap.size w)
 have H : ((spec_l01New.f k l0).bind fun bt2 => ((spec_l05DrawProg.f k bt2.1 bt2.2.1 bt2.2.2).bind fun bt6 => ((spec_l01Once.f bt2.1 bt6.2.2.1 bt6.2.2.2 3).bind fun bt13 => (if bt13.1 = true then ((spec_l02DrawProg.f k bt2.1 bt13.2.1 bt13.2.2 16).bind fun bt16 => ((spec_l07DrawSpots.f k bt2.1 bt16.2.2.1 bt16.2.2.2 bt16.1 bt16.2.1).bind fun bt22 => (some (bt16.1, bt16.2.1, bt22.1)))) else ((spec_l07DrawSpots.f k bt2.1 bt13.2.1 bt13.2.2 bt6.1 bt6.2.1).bind fun bt27 => (some (bt6.1, bt6.2.1, bt27.1))))))) = some (r1, r2, r3) := h
 clear h
 replace H := Option.bind_eq_some_iff.mp H
 obtain ⟨⟨t2, t3, t4⟩, A20, H⟩ := H
 replace H : ((spec_l05DrawProg.f k t2 t3 t4).bind fun bt6 => ((spec_l01Once.f t2 bt6.2.2.1 bt6.2.2.2 3).bind fun bt13 => (if bt13.1 = true then ((spec_l02DrawProg.f k t2 bt13.2.1 bt13.2.2 16).bind fun bt16 => ((spec_l07DrawSpots.f k t2 bt16.2.2.1 bt16.2.2.2 bt16.1 bt16.2.1).bind fun bt22 => (some (bt16.1, bt16.2.1, bt22.1)))) else ((spec_l07DrawSpots.f k t2 bt13.2.1 bt13.2.2 bt6.1 bt6.2.1).bind fun bt27 => (some (bt6.1, bt6.2.1, bt27.1)))))) = some (r1, r2, r3) := H
 have A2 := am_ A20
 clear A20
 replace H := Option.bind_eq_some_iff.mp H
 obtain ⟨⟨t6, t7, t10, t11⟩, A30, H⟩ := H
 replace H : ((spec_l01Once.f t2 t10 t11 3).bind fun bt13 => (if bt13.1 = true then ((spec_l02DrawProg.f k t2 bt13.2.1 bt13.2.2 16).bind fun bt16 => ((spec_l07DrawSpots.f k t2 bt16.2.2.1 bt16.2.2.2 bt16.1 bt16.2.1).bind fun bt22 => (some (bt16.1, bt16.2.1, bt22.1)))) else ((spec_l07DrawSpots.f k t2 bt13.2.1 bt13.2.2 t6 t7).bind fun bt27 => (some (t6, t7, bt27.1))))) = some (r1, r2, r3) := H
 have A3 := am_ A30
 clear A30
 replace H := Option.bind_eq_some_iff.mp H
 obtain ⟨⟨t13, t14, t15⟩, A40, H⟩ := H
 replace H : (if t13 = true then ((spec_l02DrawProg.f k t2 t14 t15 16).bind fun bt16 => ((spec_l07DrawSpots.f k t2 bt16.2.2.1 bt16.2.2.2 bt16.1 bt16.2.1).bind fun bt22 => (some (bt16.1, bt16.2.1, bt22.1)))) else ((spec_l07DrawSpots.f k t2 t14 t15 t6 t7).bind fun bt27 => (some (t6, t7, bt27.1)))) = some (r1, r2, r3) := H
 have A4 := am_ A40
 clear A40
 by_cases c5 : t13 = true
 rotate_left
 ·replace c5 := Bool.eq_false_iff.mpr c5
  subst c5
  have H1 : ((spec_l07DrawSpots.f k t2 t14 t15 t6 t7).bind fun bt27 => (some (t6, t7, bt27.1))) = some (r1, r2, r3) := by rw [if_neg (show ¬ (false = true) by decide)] at H; exact H
  clear H
  have H := H1
  clear H1
  replace H := Option.bind_eq_some_iff.mp H
  obtain ⟨⟨t27, t30, t31⟩, A250, H⟩ := H
  replace H : (some (t6, t7, t27)) = some (r1, r2, r3) := H
  have A25 := am_ A250
  clear A250
  simp only [Option.some.injEq, Prod.mk.injEq] at H
  obtain ⟨rfl, rfl, rfl⟩ := H
  go_enter Try.func5, Try.ntmps5
  try go_wp2_with (first | ((with_reducible refine gate_dst (N := 2) rfl ?_); refine box_event ?hg (N := 2) ?hd (cs := #[.int .i64 0, .slice none 0 0]) (t := 26) ?hr ?_; (case hd => rfl); (case hg => rfl); (case hr => exact hrr_); intro gb1 hg w26 hbox hb; have n0_ := bs_ hb; have n1_ := am_ (hbox); have n2_ := ge_ (w := w) hg; have n3_ := ge_ (w := w) hg; clear HB; have HB := n0_; have BK1 := n1_; have GW1 := n2_; have GE1 := n3_; clear n0_ n1_ n2_ n3_; clear hb hbox hg) | ((with_reducible refine gate_callee (f := 11) rfl ?_); refine goesL_ (some 7) rfl rfl Try.func11 kr_ rfl #[.slice A0 l0.length c0] rfl ar_ ?_; (with_reducible refine (spec_l01New.calls k _ _ l0 t2 t3 t4 w _ ?side1 ?side2 ?side3 A2.out).mono ?_); (case side1 => exact bw_); (case side2 => exact HR0.out); (case side3 => exact HC0.out); rintro e w27 ⟨g5, rfl, hi, hb, hb2⟩; refine ⟨_, rfl, ?_⟩; have n0_ := am_ (blk_below (g := gb1) (o := .cells #[.int .i64 0, .slice none 0 0] 26 (0, 0)) bk_ hb2); have n1_ := am_ (hb); have n2_ := am_ (hi); have n3_ := am_ (IsS57.ne_blk hi (blk_below (g := gb1) (o := .cells #[.int .i64 0, .slice none 0 0] 26 (0, 0)) bk_ hb2) (by decide)); have n4_ := am_ (Ne.symm (IsS57.ne_blk hi (blk_below (g := gb1) (o := .cells #[.int .i64 0, .slice none 0 0] 26 (0, 0)) bk_ hb2) (by decide))); clear BK1; clear HB; have BK1 := n0_; have HB := n1_; have HI5 := n2_; have NB5_1 := n3_; have NB1_5 := n4_; clear n0_ n1_ n2_ n3_ n4_; (try clear hb); (try clear hb2); (try clear hk); (try clear hi)) | ((with_reducible refine gate_callee (f := 12) rfl ?_); refine goesL_ (some 9) rfl rfl Try.func12 kr_ rfl #[.pointer (some ⟨g5, 0, none⟩)] rfl ar_ ?_; (with_reducible refine (spec_l05DrawProg.calls k g5 t2 t3 t4 t6 t7 t10 t11 w _ ?side1 ?side2 A3.out).mono ?_); (case side1 => exact (hi_ HI5.out)); (case side2 => exact (bi_ HB.out HI5.out)); rintro e w28 ⟨v8, rfl, ho0, hi, hb, hk⟩; refine ⟨_, rfl, ?_⟩; have n0_ := am_ (KeepBut.blk hk (g' := gb1) (o := .cells #[.int .i64 0, .slice none 0 0] 26 (0, 0)) bk_ NB1_5.out (by simp)); have n1_ := am_ (Kd.N_lower (Kd.N_mono (ok' := fun k_ => (w.heap.size ≤ k_) ∧ k_ ≠ gb1 ∧ k_ ≠ g5) ho0 (fun k_ hk_ => ⟨(Nat.le_trans (below_size (bi_ HB.out HI5.out)) hk_), (Kd.freshB (g := gb1) (o := .cells #[.int .i64 0, .slice none 0 0] 26 (0, 0)) bk_ k_ hk_), (IsS57.fresh (hi_ HI5.out) k_ hk_)⟩)) (below_size (bi_ HB.out HI5.out))); have n2_ := am_ (hb); have n3_ := am_ (hi); clear BK1; clear HB; clear HI5; have BK1 := n0_; have HO9 := n1_; have HB := n2_; have HI5 := n3_; clear n0_ n1_ n2_ n3_; (try clear hb); (try clear hb2); (try clear hk); (try clear hi); (try clear ho0)) | ((with_reducible refine gate_dst (N := 5) rfl ?_); refine box_event ?hg (N := 5) ?hd (cs := #[.int .i64 0, .slice none 0 0]) (t := 26) ?hr ?_; (case hd => rfl); (case hg => rfl); (case hr => exact hrr_); intro gb12 hg w29 hbox hb; have n0_ := am_ (Kd.N_below (Kd.N_elderB (nx_ HO9.out) gb12 (Nat.le_of_eq hg.symm)) hb); have n1_ := bb_ BK1.out hb; have n2_ := am_ (IsS57.below (hi_ HI5.out) hb); have n3_ := am_ (below_step (bi_ HB.out HI5.out) hb); have n4_ := am_ (hbox); have n5_ := am_ ((by rw [hg]; exact (below_size (bi_ HB.out HI5.out)) : w.heap.size ≤ gb12)); have n6_ := am_ ((by rw [hg]; exact (below_size (bi_ HB.out HI5.out)) : w.heap.size ≤ gb12)); have n7_ := nl_ BK1.out hg; have n8_ := nr_ BK1.out hg; have n9_ := am_ ((by rw [hg]; exact Nat.ne_of_lt (IsS57.lt (show IsS57 w _ g5 t2 t10 t11 from (hi_ HI5.out))) : g5 ≠ gb12)); have n10_ := am_ ((by rw [hg]; exact Nat.ne_of_gt (IsS57.lt (show IsS57 w _ g5 t2 t10 t11 from (hi_ HI5.out))) : gb12 ≠ g5)); clear HO9; clear BK1; clear HI5; clear HB; have HO9 := n0_; have BK1 := n1_; have HI5 := n2_; have HB := n3_; have BK12 := n4_; have GW12 := n5_; have GE12 := n6_; have NB1_12 := n7_; have NB12_1 := n8_; have NB5_12 := n9_; have NB12_5 := n10_; clear n0_ n1_ n2_ n3_ n4_ n5_ n6_ n7_ n8_ n9_ n10_; clear hb hbox hg; have hnb30 := NB12_1.out; have hnc30 := NB1_12.out; have hnb31 := NB12_5.out; have hnc31 := NB5_12.out; obtain ⟨hcz32_0, hcz32_1, hfz32_0, hfz32_1⟩ := bc2_ BK12.out; obtain ⟨Ao33, co33, eo33⟩ := Kd.N_slice HO9.out; subst eo33) | ((with_reducible refine gate_callee (f := 13) rfl ?_); refine goesL_ (some 11) rfl rfl Try.func13 kr_ rfl #[.pointer (some ⟨g5, 0, none⟩), .int .i64 3] rfl ar_ ?_; (with_reducible refine (spec_l01Once.calls g5 t2 t10 t11 3 false t14 t15 w _ ?side1 ?side2 A4.out).mono ?_); (case side1 => exact (hi_ HI5.out)); (case side2 => exact (bi_ HB.out HI5.out)); rintro e w34 ⟨rfl, hi, hb, hk⟩; refine ⟨_, rfl, ?_⟩; have n0_ := am_ (KeepBut.blk hk (g' := gb1) (o := .cells #[.int .i64 0, .slice none 0 0] 26 (0, 0)) (by (with_reducible repeat (first | refine blk_drewN ?_ _ | refine blk_drew ?_ | refine blk_alloc ?_ _)); refine blk_far ?_ NB1_12.out _; (with_reducible repeat (first | refine blk_drewN ?_ _ | refine blk_drew ?_ | refine blk_alloc ?_ _)); refine blk_far ?_ NB1_12.out _; exact bk_) NB1_5.out (by simp)); have n1_ := am_ (Kd.N_mono (Kd.N_keep (Kd.N_mono (ok := fun k_ => ((((w.heap.size ≤ k_)) ∧ (k_ ≠ gb1 ∧ k_ ≠ g5)) ∧ k_ ≠ gb12)) (by (with_reducible repeat (first | apply Kd.N_alloc | apply Kd.N_drewN | apply Kd.N_drew)); exact (Kd.N_mono (Kd.N_far (p := ⟨gb12, 1, none⟩) (Kd.N_far (p := ⟨gb12, 0, none⟩) (Kd.N_mono HO9.out (fun k_ hk => (⟨hk, hk.2⟩ : _ ∧ k_ ≠ gb12))) (fun _ hk => hk.2) (.int .i64 t6)) (fun _ hk => hk.2) (.slice Ao33 t7.length co33)) (fun _ h_ => h_.1))) (fun k_ hk_ => (⟨hk_, hk_.1.2.2⟩ : _ ∧ k_ ≠ g5))) hk (fun _ h => h.2)) (fun _ h => h.1)); have n2_ := am_ (KeepBut.blk hk (g' := gb12) (o := .cells #[.int .i64 t6, .slice Ao33 t7.length co33] 26 (0, 0)) (by (with_reducible repeat (first | refine blk_drewN ?_ _ | refine blk_drew ?_ | refine blk_alloc ?_ _)); refine blk_put (cs := #[.int .i64 t6, .slice none 0 0]) ?_ 1 _ rfl; (with_reducible repeat (first | refine blk_drewN ?_ _ | refine blk_drew ?_ | refine blk_alloc ?_ _)); refine blk_put (cs := #[.int .i64 0, .slice none 0 0]) ?_ 0 _ rfl; exact bk_) NB12_5.out (by simp)); have n3_ := am_ (hb); have n4_ := am_ (hi); clear BK1; clear HO9; clear BK12; clear HB; clear HI5; have BK1 := n0_; have HO9 := n1_; have BK12 := n2_; have HB := n3_; have HI5 := n4_; clear n0_ n1_ n2_ n3_ n4_; (try clear hb); (try clear hb2); (try clear hk); (try clear hi)))
  have n0_ := am_ (Kd.N_drew HO9.out)
  have n1_ := am_ (blk_drew BK1.out)
  have n2_ := am_ (blk_drew BK12.out)
  have n3_ := am_ (IsS57.drew HI5.out)
  have n4_ := am_ (below_drew1 HB.out)
  clear HO9
  clear BK1
  clear BK12
  clear HI5
  clear HB
  have HO9 := n0_
  have BK1 := n1_
  have BK12 := n2_
  have HI5 := n3_
  have HB := n4_
  clear n0_ n1_ n2_ n3_ n4_
  refine start_ (n := 6) (S := fun w' => w'.cell? ⟨gb12, 0, none⟩ = some (.int .i64 t6) ∧ w'.cell? ⟨gb12, 1, none⟩ = some (.slice Ao33 t7.length co33)) (ds := []) (bm_ 6 0) kr_ rfl rfl ⟨(blk_cell BK12.out 0).trans rfl, (blk_cell BK12.out 1).trans rfl⟩ (fun hHeld => ?_)
  generalize w34.drew = w35 at HO9 BK1 BK12 HI5 HB hHeld ⊢
  refine pure_ (i := 1) (N := some 15) (v := ?_) (a' := ?_) (bm_ 6 2) rfl rfl kr_ (fun _ _ _ h => h) (Or.inl ⟨by rfl, ?_⟩) ?_ ?_
  rotate_left
  ·intro w'
   go_simp
   with_reducible rfl
  rotate_left
  ·exact pu_
  refine take_ (i := 0) (N := some 14) (v := ?_) (a' := ?_) (bm_ 6 3) rfl rfl kr_ (fun _ _ _ h => h) (Or.inl ⟨by rfl, ?_⟩) hHeld ?_ ?_
  rotate_left
  ·rintro w' ⟨s0, s1⟩
   go_simp
   with_reducible rfl
  rotate_left
  ·exact pu_
  refine take_ (i := 2) (N := some 16) (v := ?_) (a' := ?_) (bm_ 6 7) rfl rfl kr_ (fun _ _ _ h => h) (Or.inl ⟨by rfl, ?_⟩) hHeld ?_ ?_
  rotate_left
  ·rintro w' ⟨s0, s1⟩
   go_simp
   with_reducible rfl
  rotate_left
  ·exact pu_
  refine one_ (i := 3) (N := some 17) (bm_ 6 15) rfl rfl kr_ (by decide) (fun K hK => ?_)
  refine goes_ Try.func15 kr_ rfl #[.pointer (some ⟨g5, 0, none⟩), .agg #[.int .i64 t6, .slice Ao33 t7.length co33]] (by rfl) rfl rfl ar_ ?_
  with_reducible refine (spec_l07DrawSpots.calls k g5 t2 t14 t15 t6 _ _ t7 t27 t30 t31 w _ ?side1 ?side2 ?side3 ?side4 A25.out).mono ?_
  (case side1 => exact (hi_ HI5.out))
  (case side2 => exact (bi_ HB.out HI5.out))
  (case side3 => exact Kd.C_foot_ownV (base := 0) (Kd.N_V (Kd.N_mono (ok := fun k_ => ((((w.heap.size ≤ k_)) ∧ (k_ ≠ gb1 ∧ k_ ≠ g5)) ∧ k_ ≠ gb12)) (nx_ HO9.out) (fun k_ hk_ => (⟨hk_, hk_.1.2.2⟩ : _ ∧ k_ ≠ g5)))) (fun _ h_ => h_.2))
  (case side4 => exact (Kd.N_reads' HO9.out).2.1)
  rintro e w36 ⟨v28, rfl, ho0, hi, hb, hk⟩
  refine ⟨_, rfl, ?_⟩
  have n0_ := am_ (KeepBut.blk hk (g' := gb1) (o := .cells #[.int .i64 0, .slice none 0 0] 26 (0, 0)) bk_ NB1_5.out (by simp))
  have n1_ := am_ (Kd.N_mono (Kd.N_told (Kd.N_oldK (Kd.N_mono (ok := fun k_ => ((((w.heap.size ≤ k_)) ∧ (k_ ≠ gb1 ∧ k_ ≠ g5)) ∧ k_ ≠ gb12)) (nx_ HO9.out) (fun k_ hk_ => (⟨hk_, hk_.1.2.2⟩ : _ ∧ k_ ≠ g5))) hk) (Kd.R_base ho0)) (fun _ h_ => h_.1))
  have n2_ := am_ (KeepBut.blk hk (g' := gb12) (o := .cells #[.int .i64 t6, .slice Ao33 t7.length co33] 26 (0, 0)) bk_ NB12_5.out (by simp))
  have n3_ := am_ (Kd.R_lower (Kd.R_newM (M := fun k_ => (w.heap.size ≤ k_)) ho0 (below_size (bi_ HB.out HI5.out)) (fun k_ h_ => h_)) (below_size (bi_ HB.out HI5.out)))
  have n4_ := am_ (hb)
  have n5_ := am_ (hi)
  clear BK1
  clear HO9
  clear BK12
  clear HB
  clear HI5
  have BK1 := n0_
  have HO9 := n1_
  have BK12 := n2_
  have HO29 := n3_
  have HB := n4_
  have HI5 := n5_
  clear n0_ n1_ n2_ n3_ n4_ n5_
  (try clear hb)
  (try clear hb2)
  (try clear hk)
  (try clear hi)
  (try clear ho0)
  refine hK.out _ _ ⟨(blk_cell BK12.out 0).trans rfl, (blk_cell BK12.out 1).trans rfl⟩ (fun hHeld => ?_)
  clear hK K
  refine norm_ (a' := ?_) ?_ ?_
  rotate_left
  ·show Act.put _ (some 17) _ = _
   simp only [Act.put, List.setIfInBounds_toArray, List.set_cons_zero, List.set_cons_succ, i64_w, i32_w]
   rfl
  refine one_ (i := 4) (N := none) (bm_ 6 31) rfl rfl kr_ (by decide) (fun K hK => ?_)
  have hs37 : w36.cell? ⟨gb1, 0, none⟩ = some (.int .i64 0) := (blk_cell BK1.out 0).trans rfl
  have hfs37 := blk_frozen BK1.out 0
  have hns37_1 := NB12_1.out
  have hms37_1 := NB1_12.out
  have hs38 : w36.cell? ⟨gb1, 1, none⟩ = some (.slice none 0 0) := (blk_cell BK1.out 1).trans rfl
  have hfs38 := blk_frozen BK1.out 1
  have hns38_1 := NB12_1.out
  have hms38_1 := NB1_12.out
  refine skip_ (w1 := ?_) (by rfl) rfl ?_ ?_
  rotate_left
  ·go_simp
   rfl
  refine hK.out _ _ ⟨((cell_far (p := ⟨gb1, _, none⟩) NB12_1.out _).trans (((cell_far (p := ⟨gb1, _, none⟩) NB12_1.out _).trans (hHeld.1)))), ((cell_far (p := ⟨gb1, _, none⟩) NB12_1.out _).trans (((cell_far (p := ⟨gb1, _, none⟩) NB12_1.out _).trans (hHeld.2))))⟩ (fun hHeld => ?_)
  clear hK K
  refine pure_ (i := 5) (N := some 3) (v := ?_) (a' := ?_) (bm_ 6 63) rfl rfl kr_ (fun _ _ _ h => h) (Or.inl ⟨by rfl, ?_⟩) ?_ ?_
  rotate_left
  ·intro w'
   go_simp
   with_reducible rfl
  rotate_left
  ·exact pu_
  refine done_ kr_ ?_
  try go_wp2
  refine bodyPost_ret (results_ct rfl _ _ gb1 26 #[.int .i64 t6, .slice Ao33 t7.length co33] (0, 0) _ rfl (by (with_reducible repeat (first | refine blk_drewN ?_ _ | refine blk_drew ?_ | refine blk_alloc ?_ _)); refine blk_put (cs := #[.int .i64 t6, .slice none 0 0]) ?_ 1 _ rfl; (with_reducible repeat (first | refine blk_drewN ?_ _ | refine blk_drew ?_ | refine blk_alloc ?_ _)); refine blk_put (cs := #[.int .i64 0, .slice none 0 0]) ?_ 0 _ rfl; exact bk_) Try.underlying26 rfl kr_) rfl ?_
  exact ⟨_, _, rr_, by (with_reducible repeat (first | apply Kd.N_alloc | apply Kd.N_drewN | apply Kd.N_drew)); exact Kd.N_mono (Kd.N_far (p := ⟨gb1, 1, none⟩) (Kd.N_far (p := ⟨gb1, 0, none⟩) (Kd.N_mono HO9.out (fun k_ hk => (⟨hk, hk.1.1.2.1⟩ : _ ∧ k_ ≠ gb1))) (fun _ hk => hk.2) (.int .i64 t6)) (fun _ hk => hk.2) (.slice Ao33 t7.length co33)) (fun _ hk => ⟨hk.1.1.1.1, hk.1.2⟩), by (with_reducible repeat (first | apply Kd.R_alloc | apply Kd.R_drewN | apply Kd.R_drew)); exact Kd.R_mono (Kd.R_far (p := ⟨gb1, 1, none⟩) (Kd.R_far (p := ⟨gb1, 0, none⟩) (Kd.R_types HO29.out BK1.out (by decide)) (fun _ hk => hk.2) (.int .i64 t6)) (fun _ hk => hk.2) (.slice Ao33 t7.length co33)) (fun _ hk => hk.1.1), (bi_ HB.out HI5.out)⟩
 subst c5
 have H1 : ((spec_l02DrawProg.f k t2 t14 t15 16).bind fun bt16 => ((spec_l07DrawSpots.f k t2 bt16.2.2.1 bt16.2.2.2 bt16.1 bt16.2.1).bind fun bt22 => (some (bt16.1, bt16.2.1, bt22.1)))) = some (r1, r2, r3) := by rw [if_pos rfl] at H; exact H
 clear H
 have H := H1
 clear H1
 replace H := Option.bind_eq_some_iff.mp H
 obtain ⟨⟨t16, t17, t20, t21⟩, A60, H⟩ := H
 replace H : ((spec_l07DrawSpots.f k t2 t20 t21 t16 t17).bind fun bt22 => (some (t16, t17, bt22.1))) = some (r1, r2, r3) := H
 have A6 := am_ A60
 clear A60
 replace H := Option.bind_eq_some_iff.mp H
 obtain ⟨⟨t22, t25, t26⟩, A70, H⟩ := H
 replace H : (some (t16, t17, t22)) = some (r1, r2, r3) := H
 have A7 := am_ A70
 clear A70
 simp only [Option.some.injEq, Prod.mk.injEq] at H
 obtain ⟨rfl, rfl, rfl⟩ := H
 go_enter Try.func5, Try.ntmps5
 try go_wp2_with (first | ((with_reducible refine gate_dst (N := 2) rfl ?_); refine box_event ?hg (N := 2) ?hd (cs := #[.int .i64 0, .slice none 0 0]) (t := 26) ?hr ?_; (case hd => rfl); (case hg => rfl); (case hr => exact hrr_); intro gb1 hg w8 hbox hb; have n0_ := bs_ hb; have n1_ := am_ (hbox); have n2_ := ge_ (w := w) hg; have n3_ := ge_ (w := w) hg; clear HB; have HB := n0_; have BK1 := n1_; have GW1 := n2_; have GE1 := n3_; clear n0_ n1_ n2_ n3_; clear hb hbox hg) | ((with_reducible refine gate_callee (f := 11) rfl ?_); refine goesL_ (some 7) rfl rfl Try.func11 kr_ rfl #[.slice A0 l0.length c0] rfl ar_ ?_; (with_reducible refine (spec_l01New.calls k _ _ l0 t2 t3 t4 w _ ?side1 ?side2 ?side3 A2.out).mono ?_); (case side1 => exact bw_); (case side2 => exact HR0.out); (case side3 => exact HC0.out); rintro e w9 ⟨g5, rfl, hi, hb, hb2⟩; refine ⟨_, rfl, ?_⟩; have n0_ := am_ (blk_below (g := gb1) (o := .cells #[.int .i64 0, .slice none 0 0] 26 (0, 0)) bk_ hb2); have n1_ := am_ (hb); have n2_ := am_ (hi); have n3_ := am_ (IsS57.ne_blk hi (blk_below (g := gb1) (o := .cells #[.int .i64 0, .slice none 0 0] 26 (0, 0)) bk_ hb2) (by decide)); have n4_ := am_ (Ne.symm (IsS57.ne_blk hi (blk_below (g := gb1) (o := .cells #[.int .i64 0, .slice none 0 0] 26 (0, 0)) bk_ hb2) (by decide))); clear BK1; clear HB; have BK1 := n0_; have HB := n1_; have HI5 := n2_; have NB5_1 := n3_; have NB1_5 := n4_; clear n0_ n1_ n2_ n3_ n4_; (try clear hb); (try clear hb2); (try clear hk); (try clear hi)) | ((with_reducible refine gate_callee (f := 12) rfl ?_); refine goesL_ (some 9) rfl rfl Try.func12 kr_ rfl #[.pointer (some ⟨g5, 0, none⟩)] rfl ar_ ?_; (with_reducible refine (spec_l05DrawProg.calls k g5 t2 t3 t4 t6 t7 t10 t11 w _ ?side1 ?side2 A3.out).mono ?_); (case side1 => exact (hi_ HI5.out)); (case side2 => exact (bi_ HB.out HI5.out)); rintro e w10 ⟨v8, rfl, ho0, hi, hb, hk⟩; refine ⟨_, rfl, ?_⟩; have n0_ := am_ (KeepBut.blk hk (g' := gb1) (o := .cells #[.int .i64 0, .slice none 0 0] 26 (0, 0)) bk_ NB1_5.out (by simp)); have n1_ := am_ (Kd.N_lower (Kd.N_mono (ok' := fun k_ => (w.heap.size ≤ k_) ∧ k_ ≠ gb1 ∧ k_ ≠ g5) ho0 (fun k_ hk_ => ⟨(Nat.le_trans (below_size (bi_ HB.out HI5.out)) hk_), (Kd.freshB (g := gb1) (o := .cells #[.int .i64 0, .slice none 0 0] 26 (0, 0)) bk_ k_ hk_), (IsS57.fresh (hi_ HI5.out) k_ hk_)⟩)) (below_size (bi_ HB.out HI5.out))); have n2_ := am_ (hb); have n3_ := am_ (hi); clear BK1; clear HB; clear HI5; have BK1 := n0_; have HO9 := n1_; have HB := n2_; have HI5 := n3_; clear n0_ n1_ n2_ n3_; (try clear hb); (try clear hb2); (try clear hk); (try clear hi); (try clear ho0)) | ((with_reducible refine gate_dst (N := 5) rfl ?_); refine box_event ?hg (N := 5) ?hd (cs := #[.int .i64 0, .slice none 0 0]) (t := 26) ?hr ?_; (case hd => rfl); (case hg => rfl); (case hr => exact hrr_); intro gb12 hg w11 hbox hb; have n0_ := am_ (Kd.N_below (Kd.N_elderB (nx_ HO9.out) gb12 (Nat.le_of_eq hg.symm)) hb); have n1_ := bb_ BK1.out hb; have n2_ := am_ (IsS57.below (hi_ HI5.out) hb); have n3_ := am_ (below_step (bi_ HB.out HI5.out) hb); have n4_ := am_ (hbox); have n5_ := am_ ((by rw [hg]; exact (below_size (bi_ HB.out HI5.out)) : w.heap.size ≤ gb12)); have n6_ := am_ ((by rw [hg]; exact (below_size (bi_ HB.out HI5.out)) : w.heap.size ≤ gb12)); have n7_ := nl_ BK1.out hg; have n8_ := nr_ BK1.out hg; have n9_ := am_ ((by rw [hg]; exact Nat.ne_of_lt (IsS57.lt (show IsS57 w _ g5 t2 t10 t11 from (hi_ HI5.out))) : g5 ≠ gb12)); have n10_ := am_ ((by rw [hg]; exact Nat.ne_of_gt (IsS57.lt (show IsS57 w _ g5 t2 t10 t11 from (hi_ HI5.out))) : gb12 ≠ g5)); clear HO9; clear BK1; clear HI5; clear HB; have HO9 := n0_; have BK1 := n1_; have HI5 := n2_; have HB := n3_; have BK12 := n4_; have GW12 := n5_; have GE12 := n6_; have NB1_12 := n7_; have NB12_1 := n8_; have NB5_12 := n9_; have NB12_5 := n10_; clear n0_ n1_ n2_ n3_ n4_ n5_ n6_ n7_ n8_ n9_ n10_; clear hb hbox hg; have hnb12 := NB12_1.out; have hnc12 := NB1_12.out; have hnb13 := NB12_5.out; have hnc13 := NB5_12.out; obtain ⟨hcz14_0, hcz14_1, hfz14_0, hfz14_1⟩ := bc2_ BK12.out; obtain ⟨Ao15, co15, eo15⟩ := Kd.N_slice HO9.out; subst eo15) | ((with_reducible refine gate_callee (f := 13) rfl ?_); refine goesL_ (some 11) rfl rfl Try.func13 kr_ rfl #[.pointer (some ⟨g5, 0, none⟩), .int .i64 3] rfl ar_ ?_; (with_reducible refine (spec_l01Once.calls g5 t2 t10 t11 3 true t14 t15 w _ ?side1 ?side2 A4.out).mono ?_); (case side1 => exact (hi_ HI5.out)); (case side2 => exact (bi_ HB.out HI5.out)); rintro e w16 ⟨rfl, hi, hb, hk⟩; refine ⟨_, rfl, ?_⟩; have n0_ := am_ (KeepBut.blk hk (g' := gb1) (o := .cells #[.int .i64 0, .slice none 0 0] 26 (0, 0)) (by (with_reducible repeat (first | refine blk_drewN ?_ _ | refine blk_drew ?_ | refine blk_alloc ?_ _)); refine blk_far ?_ NB1_12.out _; (with_reducible repeat (first | refine blk_drewN ?_ _ | refine blk_drew ?_ | refine blk_alloc ?_ _)); refine blk_far ?_ NB1_12.out _; exact bk_) NB1_5.out (by simp)); have n1_ := am_ (Kd.N_mono (Kd.N_keep (Kd.N_mono (ok := fun k_ => ((((w.heap.size ≤ k_)) ∧ (k_ ≠ gb1 ∧ k_ ≠ g5)) ∧ k_ ≠ gb12)) (by (with_reducible repeat (first | apply Kd.N_alloc | apply Kd.N_drewN | apply Kd.N_drew)); exact (Kd.N_mono (Kd.N_far (p := ⟨gb12, 1, none⟩) (Kd.N_far (p := ⟨gb12, 0, none⟩) (Kd.N_mono HO9.out (fun k_ hk => (⟨hk, hk.2⟩ : _ ∧ k_ ≠ gb12))) (fun _ hk => hk.2) (.int .i64 t6)) (fun _ hk => hk.2) (.slice Ao15 t7.length co15)) (fun _ h_ => h_.1))) (fun k_ hk_ => (⟨hk_, hk_.1.2.2⟩ : _ ∧ k_ ≠ g5))) hk (fun _ h => h.2)) (fun _ h => h.1)); have n2_ := am_ (KeepBut.blk hk (g' := gb12) (o := .cells #[.int .i64 t6, .slice Ao15 t7.length co15] 26 (0, 0)) (by (with_reducible repeat (first | refine blk_drewN ?_ _ | refine blk_drew ?_ | refine blk_alloc ?_ _)); refine blk_put (cs := #[.int .i64 t6, .slice none 0 0]) ?_ 1 _ rfl; (with_reducible repeat (first | refine blk_drewN ?_ _ | refine blk_drew ?_ | refine blk_alloc ?_ _)); refine blk_put (cs := #[.int .i64 0, .slice none 0 0]) ?_ 0 _ rfl; exact bk_) NB12_5.out (by simp)); have n3_ := am_ (hb); have n4_ := am_ (hi); clear BK1; clear HO9; clear BK12; clear HB; clear HI5; have BK1 := n0_; have HO9 := n1_; have BK12 := n2_; have HB := n3_; have HI5 := n4_; clear n0_ n1_ n2_ n3_ n4_; (try clear hb); (try clear hb2); (try clear hk); (try clear hi)) | ((with_reducible refine gate_callee (f := 14) rfl ?_); refine goesL_ (some 13) rfl rfl Try.func14 kr_ rfl #[.pointer (some ⟨g5, 0, none⟩), .int .i64 16] rfl ar_ ?_; (with_reducible refine (spec_l02DrawProg.calls k g5 t2 t14 t15 16 t16 t17 t20 t21 w _ ?side1 ?side2 A6.out).mono ?_); (case side1 => exact (hi_ HI5.out)); (case side2 => exact (bi_ HB.out HI5.out)); rintro e w17 ⟨v18, rfl, ho0, hi, hb, hk⟩; refine ⟨_, rfl, ?_⟩; have n0_ := am_ (KeepBut.blk hk (g' := gb1) (o := .cells #[.int .i64 0, .slice none 0 0] 26 (0, 0)) bk_ NB1_5.out (by simp)); have n1_ := am_ (Kd.N_mono (Kd.N_told (Kd.N_oldK (Kd.N_mono (ok := fun k_ => ((((w.heap.size ≤ k_)) ∧ (k_ ≠ gb1 ∧ k_ ≠ g5)) ∧ k_ ≠ gb12)) (nx_ HO9.out) (fun k_ hk_ => (⟨hk_, hk_.1.2.2⟩ : _ ∧ k_ ≠ g5))) hk) (Kd.N_base (Kd.S_N ho0))) (fun _ h_ => h_.1)); have n2_ := am_ (KeepBut.blk hk (g' := gb12) (o := .cells #[.int .i64 t6, .slice Ao15 t7.length co15] 26 (0, 0)) bk_ NB12_5.out (by simp)); have n3_ := am_ (Kd.N_lower (Kd.N_mono (ok' := fun k_ => (w.heap.size ≤ k_) ∧ some k_ ≠ (.slice Ao15 t7.length co15 : Value).ownBlock ∧ k_ ≠ gb1 ∧ k_ ≠ gb12 ∧ k_ ≠ g5) (Kd.S_N (Kd.S_bound ho0)) (fun k_ hk_ => ⟨(Nat.le_trans (below_size (bi_ HB.out HI5.out)) hk_.2.1), (Kd.fresh' (Kd.N_lt (nx_ HO9.out)) k_ hk_.2.1), (Kd.freshB (g := gb1) (o := .cells #[.int .i64 0, .slice none 0 0] 26 (0, 0)) bk_ k_ hk_.2.1), (Kd.freshB (g := gb12) (o := .cells #[.int .i64 t6, .slice Ao15 t7.length co15] 26 (0, 0)) bk_ k_ hk_.2.1), (IsS57.fresh (hi_ HI5.out) k_ hk_.2.1)⟩)) (below_size (bi_ HB.out HI5.out))); have n4_ := am_ (hb); have n5_ := am_ (hi); clear BK1; clear HO9; clear BK12; clear HB; clear HI5; have BK1 := n0_; have HO9 := n1_; have BK12 := n2_; have HO19 := n3_; have HB := n4_; have HI5 := n5_; clear n0_ n1_ n2_ n3_ n4_ n5_; (try clear hb); (try clear hb2); (try clear hk); (try clear hi); (try clear ho0); obtain ⟨hcz18_0, hcz18_1, hfz18_0, hfz18_1⟩ := bc2_ BK12.out; obtain ⟨Ao19, co19, eo19⟩ := Kd.N_slice HO19.out; subst eo19))
 have n0_ : Aside0 (Kd.N (Kd.slice 50 k50) 46 ((w17.setCell ⟨gb12, 0, none⟩ (.int .i64 t16)).setCell ⟨gb12, 1, none⟩ (.slice Ao19 t17.length co19)) w.heap.size (fun k_ => (w.heap.size ≤ k_) ∧ some k_ ≠ (.slice Ao19 t17.length co19 : Value).ownBlock ∧ k_ ≠ gb1 ∧ k_ ≠ g5 ∧ k_ ≠ gb12) (.slice Ao15 t7.length co15) t7) := ⟨by (with_reducible repeat (first | apply Kd.N_alloc | apply Kd.N_drewN | apply Kd.N_drew)); exact Kd.N_mono (Kd.N_far (p := ⟨gb12, 1, none⟩) (Kd.N_far (p := ⟨gb12, 0, none⟩) (Kd.N_mono HO9.out (fun k_ hk => (⟨hk, hk.1.2⟩ : _ ∧ k_ ≠ gb12))) (fun _ hk => hk.2) (.int .i64 t16)) (fun _ hk => hk.2) (.slice Ao19 t17.length co19)) (fun _ hk => ⟨hk.1.1.1.1, ⟨hk.1.2, ⟨hk.1.1.1.2.1, ⟨hk.1.1.1.2.2, hk.1.1.2⟩⟩⟩⟩)⟩
 have n1_ : Aside0 (Kd.N (Kd.slice 50 k50) 46 ((w17.setCell ⟨gb12, 0, none⟩ (.int .i64 t16)).setCell ⟨gb12, 1, none⟩ (.slice Ao19 t17.length co19)) w.heap.size (fun k_ => (w.heap.size ≤ k_) ∧ some k_ ≠ (.slice Ao15 t7.length co15 : Value).ownBlock ∧ k_ ≠ gb1 ∧ k_ ≠ gb12 ∧ k_ ≠ g5) (.slice Ao19 t17.length co19) t17) := ⟨by (with_reducible repeat (first | apply Kd.N_alloc | apply Kd.N_drewN | apply Kd.N_drew)); exact Kd.N_mono (Kd.N_far (p := ⟨gb12, 1, none⟩) (Kd.N_far (p := ⟨gb12, 0, none⟩) (Kd.N_mono HO19.out (fun k_ hk => (⟨hk, hk.2.2.2.1⟩ : _ ∧ k_ ≠ gb12))) (fun _ hk => hk.2) (.int .i64 t16)) (fun _ hk => hk.2) (.slice Ao19 t17.length co19)) (fun _ hk => ⟨hk.1.1, ⟨hk.1.2.1, ⟨hk.1.2.2.1, ⟨hk.1.2.2.2.1, hk.1.2.2.2.2⟩⟩⟩⟩)⟩
 have n2_ : Aside0 (((w17.setCell ⟨gb12, 0, none⟩ (.int .i64 t16)).setCell ⟨gb12, 1, none⟩ (.slice Ao19 t17.length co19)).heap[gb1]? = some (.cells #[.int .i64 0, .slice none 0 0] 26 (0, 0))) := ⟨by (with_reducible repeat (first | refine blk_drewN ?_ _ | refine blk_drew ?_ | refine blk_alloc ?_ _)); refine blk_far ?_ NB1_12.out _; (with_reducible repeat (first | refine blk_drewN ?_ _ | refine blk_drew ?_ | refine blk_alloc ?_ _)); refine blk_far ?_ NB1_12.out _; exact bk_⟩
 have n3_ : Aside0 (((w17.setCell ⟨gb12, 0, none⟩ (.int .i64 t16)).setCell ⟨gb12, 1, none⟩ (.slice Ao19 t17.length co19)).heap[gb12]? = some (.cells #[.int .i64 t16, .slice Ao19 t17.length co19] 26 (0, 0))) := ⟨by (with_reducible repeat (first | refine blk_drewN ?_ _ | refine blk_drew ?_ | refine blk_alloc ?_ _)); refine blk_put (cs := #[.int .i64 t16, .slice Ao15 t7.length co15]) ?_ 1 _ rfl; (with_reducible repeat (first | refine blk_drewN ?_ _ | refine blk_drew ?_ | refine blk_alloc ?_ _)); refine blk_put (cs := #[.int .i64 t6, .slice Ao15 t7.length co15]) ?_ 0 _ rfl; exact bk_⟩
 have n4_ : Aside0 (IsS57 w ((w17.setCell ⟨gb12, 0, none⟩ (.int .i64 t16)).setCell ⟨gb12, 1, none⟩ (.slice Ao19 t17.length co19)) g5 t2 t20 t21) := ⟨(hi_ HI5.out)⟩
 have n5_ : Aside0 (Below w.heap.size w ((w17.setCell ⟨gb12, 0, none⟩ (.int .i64 t16)).setCell ⟨gb12, 1, none⟩ (.slice Ao19 t17.length co19))) := ⟨(bi_ HB.out HI5.out)⟩
 (try clear HO9)
 (try clear HO19)
 (try clear BK1)
 (try clear BK12)
 (try clear HI5)
 (try clear HB)
 generalize ((w17.setCell ⟨gb12, 0, none⟩ (.int .i64 t16)).setCell ⟨gb12, 1, none⟩ (.slice Ao19 t17.length co19)) = w20 at n0_ n1_ n2_ n3_ n4_ n5_ ⊢
 have HO9 := n0_
 have HO19 := n1_
 have BK1 := n2_
 have BK12 := n3_
 have HI5 := n4_
 have HB := n5_
 clear n0_ n1_ n2_ n3_ n4_ n5_
 have n0_ := am_ (Kd.N_drew HO9.out)
 have n1_ := am_ (Kd.N_drew HO19.out)
 have n2_ := am_ (blk_drew BK1.out)
 have n3_ := am_ (blk_drew BK12.out)
 have n4_ := am_ (IsS57.drew HI5.out)
 have n5_ := am_ (below_drew1 HB.out)
 clear HO9
 clear HO19
 clear BK1
 clear BK12
 clear HI5
 clear HB
 have HO9 := n0_
 have HO19 := n1_
 have BK1 := n2_
 have BK12 := n3_
 have HI5 := n4_
 have HB := n5_
 clear n0_ n1_ n2_ n3_ n4_ n5_
 refine start_ (n := 6) (S := fun w' => w'.cell? ⟨gb12, 0, none⟩ = some (.int .i64 t16) ∧ w'.cell? ⟨gb12, 1, none⟩ = some (.slice Ao19 t17.length co19)) (ds := []) (bm_ 6 0) kr_ rfl rfl ⟨(blk_cell BK12.out 0).trans rfl, (blk_cell BK12.out 1).trans rfl⟩ (fun hHeld => ?_)
 generalize w20.drew = w21 at HO9 HO19 BK1 BK12 HI5 HB hHeld ⊢
 refine pure_ (i := 1) (N := some 15) (v := ?_) (a' := ?_) (bm_ 6 2) rfl rfl kr_ (fun _ _ _ h => h) (Or.inl ⟨by rfl, ?_⟩) ?_ ?_
 rotate_left
 ·intro w'
  go_simp
  with_reducible rfl
 rotate_left
 ·exact pu_
 refine take_ (i := 0) (N := some 14) (v := ?_) (a' := ?_) (bm_ 6 3) rfl rfl kr_ (fun _ _ _ h => h) (Or.inl ⟨by rfl, ?_⟩) hHeld ?_ ?_
 rotate_left
 ·rintro w' ⟨s0, s1⟩
  go_simp
  with_reducible rfl
 rotate_left
 ·exact pu_
 refine take_ (i := 2) (N := some 16) (v := ?_) (a' := ?_) (bm_ 6 7) rfl rfl kr_ (fun _ _ _ h => h) (Or.inl ⟨by rfl, ?_⟩) hHeld ?_ ?_
 rotate_left
 ·rintro w' ⟨s0, s1⟩
  go_simp
  with_reducible rfl
 rotate_left
 ·exact pu_
 refine one_ (i := 3) (N := some 17) (bm_ 6 15) rfl rfl kr_ (by decide) (fun K hK => ?_)
 refine goes_ Try.func15 kr_ rfl #[.pointer (some ⟨g5, 0, none⟩), .agg #[.int .i64 t16, .slice Ao19 t17.length co19]] (by rfl) rfl rfl ar_ ?_
 with_reducible refine (spec_l07DrawSpots.calls k g5 t2 t20 t21 t16 _ _ t17 t22 t25 t26 w _ ?side1 ?side2 ?side3 ?side4 A7.out).mono ?_
 (case side1 => exact (hi_ HI5.out))
 (case side2 => exact (bi_ HB.out HI5.out))
 (case side3 => exact Kd.C_foot_ownV (base := 0) (Kd.N_V (Kd.N_mono (ok := fun k_ => (((w.heap.size ≤ k_)) ∧ (some k_ ≠ (.slice Ao15 t7.length co15 : Value).ownBlock ∧ (k_ ≠ gb1 ∧ (k_ ≠ gb12 ∧ k_ ≠ g5))))) (nx_ HO19.out) (fun k_ hk_ => (⟨hk_, hk_.2.2.2.2⟩ : _ ∧ k_ ≠ g5)))) (fun _ h_ => h_.2))
 (case side4 => exact (Kd.N_reads' HO19.out).2.1)
 rintro e w22 ⟨v23, rfl, ho0, hi, hb, hk⟩
 refine ⟨_, rfl, ?_⟩
 have n0_ := am_ (KeepBut.blk hk (g' := gb1) (o := .cells #[.int .i64 0, .slice none 0 0] 26 (0, 0)) bk_ NB1_5.out (by simp))
 have n1_ := am_ (Kd.N_mono (Kd.N_told (Kd.N_oldK (Kd.N_mono (ok := fun k_ => (((w.heap.size ≤ k_)) ∧ (some k_ ≠ (.slice Ao19 t17.length co19 : Value).ownBlock ∧ (k_ ≠ gb1 ∧ (k_ ≠ g5 ∧ k_ ≠ gb12))))) (nx_ HO9.out) (fun k_ hk_ => (⟨hk_, hk_.2.2.2.1⟩ : _ ∧ k_ ≠ g5))) hk) (Kd.R_base ho0)) (fun _ h_ => h_.1))
 have n2_ := am_ (KeepBut.blk hk (g' := gb12) (o := .cells #[.int .i64 t16, .slice Ao19 t17.length co19] 26 (0, 0)) bk_ NB12_5.out (by simp))
 have n3_ := am_ (Kd.N_mono (Kd.N_told (Kd.N_oldK (Kd.N_mono (ok := fun k_ => (((w.heap.size ≤ k_)) ∧ (some k_ ≠ (.slice Ao15 t7.length co15 : Value).ownBlock ∧ (k_ ≠ gb1 ∧ (k_ ≠ gb12 ∧ k_ ≠ g5))))) (nx_ HO19.out) (fun k_ hk_ => (⟨hk_, hk_.2.2.2.2⟩ : _ ∧ k_ ≠ g5))) hk) (Kd.R_base ho0)) (fun _ h_ => h_.1))
 have n4_ := am_ (Kd.R_lower (Kd.R_newM (M := fun k_ => (w.heap.size ≤ k_)) ho0 (below_size (bi_ HB.out HI5.out)) (fun k_ h_ => h_)) (below_size (bi_ HB.out HI5.out)))
 have n5_ := am_ (hb)
 have n6_ := am_ (hi)
 clear BK1
 clear HO9
 clear BK12
 clear HO19
 clear HB
 clear HI5
 have BK1 := n0_
 have HO9 := n1_
 have BK12 := n2_
 have HO19 := n3_
 have HO24 := n4_
 have HB := n5_
 have HI5 := n6_
 clear n0_ n1_ n2_ n3_ n4_ n5_ n6_
 (try clear hb)
 (try clear hb2)
 (try clear hk)
 (try clear hi)
 (try clear ho0)
 refine hK.out _ _ ⟨(blk_cell BK12.out 0).trans rfl, (blk_cell BK12.out 1).trans rfl⟩ (fun hHeld => ?_)
 clear hK K
 refine norm_ (a' := ?_) ?_ ?_
 rotate_left
 ·show Act.put _ (some 17) _ = _
  simp only [Act.put, List.setIfInBounds_toArray, List.set_cons_zero, List.set_cons_succ, i64_w, i32_w]
  rfl
 refine one_ (i := 4) (N := none) (bm_ 6 31) rfl rfl kr_ (by decide) (fun K hK => ?_)
 have hs23 : w22.cell? ⟨gb1, 0, none⟩ = some (.int .i64 0) := (blk_cell BK1.out 0).trans rfl
 have hfs23 := blk_frozen BK1.out 0
 have hns23_1 := NB12_1.out
 have hms23_1 := NB1_12.out
 have hs24 : w22.cell? ⟨gb1, 1, none⟩ = some (.slice none 0 0) := (blk_cell BK1.out 1).trans rfl
 have hfs24 := blk_frozen BK1.out 1
 have hns24_1 := NB12_1.out
 have hms24_1 := NB1_12.out
 refine skip_ (w1 := ?_) (by rfl) rfl ?_ ?_
 rotate_left
 ·go_simp
  rfl
 refine hK.out _ _ ⟨((cell_far (p := ⟨gb1, _, none⟩) NB12_1.out _).trans (((cell_far (p := ⟨gb1, _, none⟩) NB12_1.out _).trans (hHeld.1)))), ((cell_far (p := ⟨gb1, _, none⟩) NB12_1.out _).trans (((cell_far (p := ⟨gb1, _, none⟩) NB12_1.out _).trans (hHeld.2))))⟩ (fun hHeld => ?_)
 clear hK K
 refine pure_ (i := 5) (N := some 3) (v := ?_) (a' := ?_) (bm_ 6 63) rfl rfl kr_ (fun _ _ _ h => h) (Or.inl ⟨by rfl, ?_⟩) ?_ ?_
 rotate_left
 ·intro w'
  go_simp
  with_reducible rfl
 rotate_left
 ·exact pu_
 refine done_ kr_ ?_
 try go_wp2
 refine bodyPost_ret (results_ct rfl _ _ gb1 26 #[.int .i64 t16, .slice Ao19 t17.length co19] (0, 0) _ rfl (by (with_reducible repeat (first | refine blk_drewN ?_ _ | refine blk_drew ?_ | refine blk_alloc ?_ _)); refine blk_put (cs := #[.int .i64 t16, .slice none 0 0]) ?_ 1 _ rfl; (with_reducible repeat (first | refine blk_drewN ?_ _ | refine blk_drew ?_ | refine blk_alloc ?_ _)); refine blk_put (cs := #[.int .i64 0, .slice none 0 0]) ?_ 0 _ rfl; exact bk_) Try.underlying26 rfl kr_) rfl ?_
 exact ⟨_, _, rr_, by (with_reducible repeat (first | apply Kd.N_alloc | apply Kd.N_drewN | apply Kd.N_drew)); exact Kd.N_mono (Kd.N_far (p := ⟨gb1, 1, none⟩) (Kd.N_far (p := ⟨gb1, 0, none⟩) (Kd.N_mono HO19.out (fun k_ hk => (⟨hk, hk.1.2.2.1⟩ : _ ∧ k_ ≠ gb1))) (fun _ hk => hk.2) (.int .i64 t16)) (fun _ hk => hk.2) (.slice Ao19 t17.length co19)) (fun _ hk => ⟨hk.1.1.1, hk.1.2⟩), by (with_reducible repeat (first | apply Kd.R_alloc | apply Kd.R_drewN | apply Kd.R_drew)); exact Kd.R_mono (Kd.R_far (p := ⟨gb1, 1, none⟩) (Kd.R_far (p := ⟨gb1, 0, none⟩) (Kd.R_types HO24.out BK1.out (by decide)) (fun _ hk => hk.2) (.int .i64 t16)) (fun _ hk => hk.2) (.slice Ao19 t17.length co19)) (fun _ hk => hk.1.1), (bi_ HB.out HI5.out)⟩

end Go.Proofs.Ytbgclnjnngolmaa.P
