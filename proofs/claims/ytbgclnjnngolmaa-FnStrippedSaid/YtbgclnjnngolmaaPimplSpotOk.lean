-- Written by mp.py (the session's own driver over the kit's printer) for the seat Ytbgclnjnngolmaa.
import Derived.Test.YtbgclnjnngolmaaK
import Derived.Test.YtbgclnjnngolmaaE
import Derived.Test.YtbgclnjnngolmaaPimplProgOk
import Derived.Test.YtbgclnjnngolmaaPimplwithin
namespace Go.Proofs.Ytbgclnjnngolmaa.P
open Go.RowKit Go.Proofs.YtbgclnjnngolmaaW.PrintWords Go.Proofs.YtbgclnjnngolmaaW.PrintLast Go.Proofs.YtbgclnjnngolmaaW.PrintMore
attribute [local go_sem] max2_int min2_int max_two min_two max_three min_three max_four min_four
set_option linter.unusedVariables false
set_option linter.unusedSimpArgs false

/-! ### impl_SpotOk: function 21 -/
def impl_SpotOk.f (a0_0 : Int) (a0_1 : Int) (a1_0 : Int) (l1_1 : List (List (S50))) : Option (Bool) := (impl_ProgOk.f a1_0 l1_1).bind fun t3 => (if t3 = true then ((impl_within.f a0_0 0 (wrap64 ((l1_1.length : Int) - 1))).bind fun t4 => (if t4 = true then (if 0 ≤ a0_0 then (if a0_0 < (l1_1.length : Int) then ((impl_within.f a0_1 0 ((rd_L4 l1_1 a0_0).length : Int)).bind fun t6 => (some t6)) else (none)) else (none)) else (some false))) else (some false))
def impl_SpotOk.T1 : Bool × List (List Nat × List Nat) := (true, [([], []), ([0], [0]), ([1, 1], [1]), ([2], [2]), ([3, 2], [2, 3]), ([2], [2]), ([5, 2], [2, 5]), ([6, 2], [2, 6]), ([7, 2], [2, 7]), ([4, 8, 2, 2], [2, 4, 8]), ([2, 9], [2, 9]), ([10, 9], [10]), ([11], [11]), ([12, 11], [11, 12]), ([11], [11]), ([14, 11], [11, 14]), ([11], [11]), ([16, 11], [11, 16]), ([15, 17, 11], [11, 15, 17]), ([18, 11], [11, 18]), ([19, 11], [11, 19]), ([13, 20, 11, 11], [11, 13, 20]), ([11, 21], [11, 21]), ([22, 21, 0, 1, 2, 3, 4, 5, 6, 7, 8, 9, 10, 11, 12, 13, 14, 15, 16, 17, 18, 19, 20, 21, 22], [22])])
def impl_SpotOk.B1 : List Nat := [0, 1, 3, 7, 15, 7, 39, 103, 231, 511, 1023, 2047, 4095, 8191, 4095, 20479, 4095, 69631, 249855, 511999, 1036287, 2097151, 4194303, 8388607]
theorem impl_SpotOk.tab1 : rtab .any (opsOf Try.f21 1) = impl_SpotOk.T1 := by kernel_rfl
theorem impl_SpotOk.bits1 : waitsOk impl_SpotOk.T1.2 impl_SpotOk.B1 = true := by kernel_rfl
set_option maxHeartbeats 8000000 in
set_option maxRecDepth 100000 in
theorem impl_SpotOk.calls (a0_0 : Int) (a0_1 : Int) (a1_0 : Int) (A1_1 : Option Addr) (c1_1 : Nat) (l1_1 : List (List (S50))) (r : Bool) (w : World) (hr1_1 : Kd.C (Kd.slice 50 k50) w A1_1 l1_1.length l1_1) (hc1_1 : l1_1.length ≤ c1_1) (h : impl_SpotOk.f a0_0 a0_1 a1_0 l1_1 = some r) :
  Calls Try.prog 21 #[.agg #[.int .i64 a0_0, .int .i64 a0_1], .agg #[.int .i64 a1_0, .slice A1_1 l1_1.length c1_1]] w fun e w' => e = .returned (.bool r) ∧ Below w.heap.size w w' := by
 have hu44 := Try.underlying44
 have hu26 := Try.underlying26
 have HR1_1 := am_ hr1_1
 have HC1_1 := am_ hc1_1
 clear hr1_1 hc1_1
 have HB := am_ (Below.refl w.heap.size w)
 have H : ((impl_ProgOk.f a1_0 l1_1).bind fun t3 => (if t3 = true then ((impl_within.f a0_0 0 (wrap64 ((l1_1.length : Int) - 1))).bind fun t4 => (if t4 = true then (if 0 ≤ a0_0 then (if a0_0 < (l1_1.length : Int) then ((impl_within.f a0_1 0 ((rd_L4 l1_1 a0_0).length : Int)).bind fun t6 => (some t6)) else (none)) else (none)) else (some false))) else (some false))) = some r := h
 clear h
 replace H := Option.bind_eq_some_iff.mp H
 obtain ⟨t3, A30, H⟩ := H
 replace H : (if t3 = true then ((impl_within.f a0_0 0 (wrap64 ((l1_1.length : Int) - 1))).bind fun t4 => (if t4 = true then (if 0 ≤ a0_0 then (if a0_0 < (l1_1.length : Int) then ((impl_within.f a0_1 0 ((rd_L4 l1_1 a0_0).length : Int)).bind fun t6 => (some t6)) else (none)) else (none)) else (some false))) else (some false)) = some r := H
 have A3 := am_ A30
 clear A30
 by_cases c4 : t3 = true
 rotate_left
 ·replace c4 := Bool.eq_false_iff.mpr c4
  subst c4
  have H1 : (some false) = some r := by rw [if_neg (show ¬ (false = true) by decide)] at H; exact H
  clear H
  have H := H1
  clear H1
  obtain rfl := Option.some.inj H
  go_enter Try.func21, Try.ntmps21
  try go_wp2_with (first | ((with_reducible refine gate_dst (N := 2) rfl ?_); (try (refine gate_guard (by rfl) ?_; dsimp only)); refine box_event ?hg (N := 2) ?hd (cs := #[.int .i64 a0_0, .int .i64 a0_1]) (t := 44) ?hr ?_; (case hd => rfl); (case hg => rfl); (case hr => exact hrr_); intro gb1 hg w18 hbox hb; have n0_ := bs_ hb; have n1_ := am_ (hbox); have n2_ := ge_ (w := w) hg; have n3_ := ge_ (w := w) hg; clear HB; have HB := n0_; have BK1 := n1_; have GW1 := n2_; have GE1 := n3_; clear n0_ n1_ n2_ n3_; clear hb hbox hg) | ((with_reducible refine gate_dst (N := 3) rfl ?_); (try (refine gate_guard (by rfl) ?_; dsimp only)); refine box_event ?hg (N := 3) ?hd (cs := #[.int .i64 a1_0, .slice A1_1 l1_1.length c1_1]) (t := 26) ?hr ?_; (case hd => rfl); (case hg => rfl); (case hr => exact hrr_); intro gb2 hg w19 hbox hb; have n0_ := bb_ BK1.out hb; have n1_ := bs_ hb; have n2_ := am_ (hbox); have n3_ := ge_ (w := w) hg; have n4_ := ge_ (w := w) hg; have n5_ := nl_ BK1.out hg; have n6_ := nr_ BK1.out hg; clear BK1; clear HB; have BK1 := n0_; have HB := n1_; have BK2 := n2_; have GW2 := n3_; have GE2 := n4_; have NB1_2 := n5_; have NB2_1 := n6_; clear n0_ n1_ n2_ n3_ n4_ n5_ n6_; clear hb hbox hg))
  have n0_ := am_ (blk_drew BK1.out)
  have n1_ := am_ (blk_drew BK2.out)
  have n2_ := am_ (below_drew1 HB.out)
  clear BK1
  clear BK2
  clear HB
  have BK1 := n0_
  have BK2 := n1_
  have HB := n2_
  clear n0_ n1_ n2_
  refine start_ (n := 24) (S := fun w' => w'.cell? ⟨gb2, 0, none⟩ = some (.int .i64 a1_0) ∧ w'.cell? ⟨gb2, 1, none⟩ = some (.slice A1_1 l1_1.length c1_1)) (ds := []) (bm_ 24 0) kr_ rfl rfl ⟨(blk_cell BK2.out 0).trans rfl, (blk_cell BK2.out 1).trans rfl⟩ (fun hHeld => ?_); refine with_tabW impl_SpotOk.tab1 impl_SpotOk.bits1 (fun HT_ HW_ => ?_)
  generalize w19.drew = w20 at BK1 BK2 HB hHeld ⊢
  refine take_ (i := 0) (N := some 5) (v := ?_) (a' := ?_) (bm_ 24 1) rfl rfl (take_ofW HT_.out HW_.out kr_) (fun _ _ _ h => h) (Or.inl ⟨by rfl, ?_⟩) hHeld ?_ ?_
  rotate_left
  ·rintro w' ⟨s0, s1⟩
   go_simp
   with_reducible rfl
  rotate_left
  ·exact pu_
  refine one_ (i := 1) (N := some 6) (bm_ 24 3) rfl rfl (one_of HT_.out kr_) (by decide) (fun K hK => ?_)
  refine goes_ Try.func20 kr_ rfl #[.agg #[.int .i64 a1_0, .slice A1_1 l1_1.length c1_1]] (by rfl) rfl rfl ar_ ?_
  with_reducible refine (impl_ProgOk.calls a1_0 _ _ l1_1 false _ ?side1 ?side2 A3.out).mono ?_
  (case side1 => exact cb_)
  (case side2 => exact HC1_1.out)
  rintro e w21 ⟨rfl, hb⟩
  refine ⟨_, rfl, ?_⟩
  have n0_ := bb_ BK1.out hb
  have n1_ := bb_ BK2.out hb
  have n2_ := bs_ hb
  clear BK1
  clear BK2
  clear HB
  have BK1 := n0_
  have BK2 := n1_
  have HB := n2_
  clear n0_ n1_ n2_
  (try clear hb)
  (try clear hb2)
  (try clear hk)
  (try clear hi)
  refine hK.out _ _ ⟨(blk_cell BK2.out 0).trans rfl, (blk_cell BK2.out 1).trans rfl⟩ (fun hHeld => ?_)
  clear hK K
  refine norm_ (a' := ?_) ?_ ?_
  rotate_left
  ·show Act.put _ (some 6) _ = _
   simp only [Act.put, List.setIfInBounds_toArray, List.set_cons_zero, List.set_cons_succ, i64_w, i32_w]
   rfl
  refine pure_ (i := 2) (N := some 7) (bm_ 24 7) rfl rfl (any_of HT_.out kr_) (fun _ _ _ h => h) (Or.inl ⟨rfl, yi_⟩) pu_ ?_
  refine pure_ (i := 3) (N := some 8) (v := undef) (a' := ?_) (bm_ 24 15) rfl rfl (any_of HT_.out kr_) (fun _ _ _ h => h) (Or.inr ⟨by rfl, rfl⟩) ?_ ?_
  rotate_left
  ·exact pu_
  refine pure_ (i := 4) (N := some 9) (v := undef) (a' := ?_) (bm_ 24 31) rfl rfl (any_of HT_.out kr_) (fun _ _ _ h => h) (Or.inr ⟨by rfl, rfl⟩) ?_ ?_
  rotate_left
  ·exact pu_
  refine pure_ (i := 5) (N := some 10) (v := undef) (a' := ?_) (bm_ 24 63) rfl rfl (any_of HT_.out kr_) (fun _ _ _ h => h) (Or.inr ⟨by rfl, rfl⟩) ?_ ?_
  rotate_left
  ·exact pu_
  refine pure_ (i := 6) (N := some 11) (v := undef) (a' := ?_) (bm_ 24 127) rfl rfl (any_of HT_.out kr_) (fun _ _ _ h => h) (Or.inr ⟨by rfl, rfl⟩) ?_ ?_
  rotate_left
  ·exact pu_
  refine pure_ (i := 7) (N := some 12) (v := undef) (a' := ?_) (bm_ 24 255) rfl rfl (any_of HT_.out kr_) (fun _ _ _ h => h) (Or.inr ⟨by rfl, rfl⟩) ?_ ?_
  rotate_left
  ·exact pu_
  refine pure_ (i := 8) (N := some 13) (v := undef) (a' := ?_) (bm_ 24 511) rfl rfl (any_of HT_.out kr_) (fun _ _ _ h => h) (Or.inr ⟨by rfl, rfl⟩) ?_ ?_
  rotate_left
  ·exact pu_
  refine pure_ (i := 9) (N := some 14) (v := undef) (a' := ?_) (bm_ 24 1023) rfl rfl (any_of HT_.out kr_) (fun _ _ _ h => h) (Or.inr ⟨by rfl, rfl⟩) ?_ ?_
  rotate_left
  ·exact pu_
  refine pure_ (i := 10) (N := some 15) (bm_ 24 2047) rfl rfl (any_of HT_.out kr_) (fun _ _ _ h => h) (Or.inl ⟨rfl, yi_⟩) pu_ ?_
  refine pure_ (i := 11) (N := some 16) (bm_ 24 4095) rfl rfl (any_of HT_.out kr_) (fun _ _ _ h => h) (Or.inl ⟨rfl, yi_⟩) pu_ ?_
  refine pure_ (i := 12) (N := some 17) (v := undef) (a' := ?_) (bm_ 24 8191) rfl rfl (any_of HT_.out kr_) (fun _ _ _ h => h) (Or.inr ⟨by rfl, rfl⟩) ?_ ?_
  rotate_left
  ·exact pu_
  refine pure_ (i := 13) (N := some 18) (v := undef) (a' := ?_) (bm_ 24 16383) rfl rfl (any_of HT_.out kr_) (fun _ _ _ h => h) (Or.inr ⟨by rfl, rfl⟩) ?_ ?_
  rotate_left
  ·exact pu_
  refine pure_ (i := 14) (N := some 19) (v := undef) (a' := ?_) (bm_ 24 32767) rfl rfl (any_of HT_.out kr_) (fun _ _ _ h => h) (Or.inr ⟨by rfl, rfl⟩) ?_ ?_
  rotate_left
  ·exact pu_
  refine pure_ (i := 15) (N := some 20) (v := undef) (a' := ?_) (bm_ 24 65535) rfl rfl (any_of HT_.out kr_) (fun _ _ _ h => h) (Or.inr ⟨by rfl, rfl⟩) ?_ ?_
  rotate_left
  ·exact pu_
  refine pure_ (i := 16) (N := some 21) (v := undef) (a' := ?_) (bm_ 24 131071) rfl rfl (any_of HT_.out kr_) (fun _ _ _ h => h) (Or.inr ⟨by rfl, rfl⟩) ?_ ?_
  rotate_left
  ·exact pu_
  refine pure_ (i := 17) (N := some 22) (v := undef) (a' := ?_) (bm_ 24 262143) rfl rfl (any_of HT_.out kr_) (fun _ _ _ h => h) (Or.inr ⟨by rfl, rfl⟩) ?_ ?_
  rotate_left
  ·exact pu_
  refine pure_ (i := 18) (N := some 23) (v := undef) (a' := ?_) (bm_ 24 524287) rfl rfl (any_of HT_.out kr_) (fun _ _ _ h => h) (Or.inr ⟨by rfl, rfl⟩) ?_ ?_
  rotate_left
  ·exact pu_
  refine pure_ (i := 19) (N := some 24) (v := undef) (a' := ?_) (bm_ 24 1048575) rfl rfl (any_of HT_.out kr_) (fun _ _ _ h => h) (Or.inr ⟨by rfl, rfl⟩) ?_ ?_
  rotate_left
  ·exact pu_
  refine pure_ (i := 20) (N := some 25) (v := undef) (a' := ?_) (bm_ 24 2097151) rfl rfl (any_of HT_.out kr_) (fun _ _ _ h => h) (Or.inr ⟨by rfl, rfl⟩) ?_ ?_
  rotate_left
  ·exact pu_
  refine pure_ (i := 21) (N := some 26) (v := undef) (a' := ?_) (bm_ 24 4194303) rfl rfl (any_of HT_.out kr_) (fun _ _ _ h => h) (Or.inr ⟨by rfl, rfl⟩) ?_ ?_
  rotate_left
  ·exact pu_
  refine pure_ (i := 22) (N := some 27) (bm_ 24 8388607) rfl rfl (any_of HT_.out kr_) (fun _ _ _ h => h) (Or.inl ⟨rfl, yi_⟩) pu_ ?_
  refine pure_ (i := 23) (N := some 4) (bm_ 24 16777215) rfl rfl (any_of HT_.out kr_) (fun _ _ _ h => h) (Or.inl ⟨rfl, yi_⟩) pu_ ?_
  refine done_ (done_of HT_.out kr_) ?_
  try go_wp2
  go_ret
  exact ⟨rr_, bw_⟩
 subst c4
 have H1 : ((impl_within.f a0_0 0 (wrap64 ((l1_1.length : Int) - 1))).bind fun t4 => (if t4 = true then (if 0 ≤ a0_0 then (if a0_0 < (l1_1.length : Int) then ((impl_within.f a0_1 0 ((rd_L4 l1_1 a0_0).length : Int)).bind fun t6 => (some t6)) else (none)) else (none)) else (some false))) = some r := by rw [if_pos rfl] at H; exact H
 clear H
 have H := H1
 clear H1
 replace H := Option.bind_eq_some_iff.mp H
 obtain ⟨t4, A50, H⟩ := H
 replace H : (if t4 = true then (if 0 ≤ a0_0 then (if a0_0 < (l1_1.length : Int) then ((impl_within.f a0_1 0 ((rd_L4 l1_1 a0_0).length : Int)).bind fun t6 => (some t6)) else (none)) else (none)) else (some false)) = some r := H
 have A5 := am_ A50
 clear A50
 by_cases c6 : t4 = true
 rotate_left
 ·replace c6 := Bool.eq_false_iff.mpr c6
  subst c6
  have H1 : (some false) = some r := by rw [if_neg (show ¬ (false = true) by decide)] at H; exact H
  clear H
  have H := H1
  clear H1
  obtain rfl := Option.some.inj H
  go_enter Try.func21, Try.ntmps21
  try go_wp2_with (first | ((with_reducible refine gate_dst (N := 2) rfl ?_); (try (refine gate_guard (by rfl) ?_; dsimp only)); refine box_event ?hg (N := 2) ?hd (cs := #[.int .i64 a0_0, .int .i64 a0_1]) (t := 44) ?hr ?_; (case hd => rfl); (case hg => rfl); (case hr => exact hrr_); intro gb1 hg w14 hbox hb; have n0_ := bs_ hb; have n1_ := am_ (hbox); have n2_ := ge_ (w := w) hg; have n3_ := ge_ (w := w) hg; clear HB; have HB := n0_; have BK1 := n1_; have GW1 := n2_; have GE1 := n3_; clear n0_ n1_ n2_ n3_; clear hb hbox hg) | ((with_reducible refine gate_dst (N := 3) rfl ?_); (try (refine gate_guard (by rfl) ?_; dsimp only)); refine box_event ?hg (N := 3) ?hd (cs := #[.int .i64 a1_0, .slice A1_1 l1_1.length c1_1]) (t := 26) ?hr ?_; (case hd => rfl); (case hg => rfl); (case hr => exact hrr_); intro gb2 hg w15 hbox hb; have n0_ := bb_ BK1.out hb; have n1_ := bs_ hb; have n2_ := am_ (hbox); have n3_ := ge_ (w := w) hg; have n4_ := ge_ (w := w) hg; have n5_ := nl_ BK1.out hg; have n6_ := nr_ BK1.out hg; clear BK1; clear HB; have BK1 := n0_; have HB := n1_; have BK2 := n2_; have GW2 := n3_; have GE2 := n4_; have NB1_2 := n5_; have NB2_1 := n6_; clear n0_ n1_ n2_ n3_ n4_ n5_ n6_; clear hb hbox hg))
  have n0_ := am_ (blk_drew BK1.out)
  have n1_ := am_ (blk_drew BK2.out)
  have n2_ := am_ (below_drew1 HB.out)
  clear BK1
  clear BK2
  clear HB
  have BK1 := n0_
  have BK2 := n1_
  have HB := n2_
  clear n0_ n1_ n2_
  refine start_ (n := 24) (S := fun w' => w'.cell? ⟨gb2, 0, none⟩ = some (.int .i64 a1_0) ∧ w'.cell? ⟨gb2, 1, none⟩ = some (.slice A1_1 l1_1.length c1_1) ∧ w'.cell? ⟨gb1, 0, none⟩ = some (.int .i64 a0_0) ∧ w'.cell? ⟨gb1, 1, none⟩ = some (.int .i64 a0_1)) (ds := []) (bm_ 24 0) kr_ rfl rfl ⟨(blk_cell BK2.out 0).trans rfl, (blk_cell BK2.out 1).trans rfl, (blk_cell BK1.out 0).trans rfl, (blk_cell BK1.out 1).trans rfl⟩ (fun hHeld => ?_); refine with_tabW impl_SpotOk.tab1 impl_SpotOk.bits1 (fun HT_ HW_ => ?_)
  generalize w15.drew = w16 at BK1 BK2 HB hHeld ⊢
  refine take_ (i := 0) (N := some 5) (v := ?_) (a' := ?_) (bm_ 24 1) rfl rfl (take_ofW HT_.out HW_.out kr_) (fun _ _ _ h => h) (Or.inl ⟨by rfl, ?_⟩) hHeld ?_ ?_
  rotate_left
  ·rintro w' ⟨s0, s1, s2, s3⟩
   go_simp
   with_reducible rfl
  rotate_left
  ·exact pu_
  refine one_ (i := 1) (N := some 6) (bm_ 24 3) rfl rfl (one_of HT_.out kr_) (by decide) (fun K hK => ?_)
  refine goes_ Try.func20 kr_ rfl #[.agg #[.int .i64 a1_0, .slice A1_1 l1_1.length c1_1]] (by rfl) rfl rfl ar_ ?_
  with_reducible refine (impl_ProgOk.calls a1_0 _ _ l1_1 true _ ?side1 ?side2 A3.out).mono ?_
  (case side1 => exact cb_)
  (case side2 => exact HC1_1.out)
  rintro e w17 ⟨rfl, hb⟩
  refine ⟨_, rfl, ?_⟩
  have n0_ := bb_ BK1.out hb
  have n1_ := bb_ BK2.out hb
  have n2_ := bs_ hb
  clear BK1
  clear BK2
  clear HB
  have BK1 := n0_
  have BK2 := n1_
  have HB := n2_
  clear n0_ n1_ n2_
  (try clear hb)
  (try clear hb2)
  (try clear hk)
  (try clear hi)
  refine hK.out _ _ ⟨(blk_cell BK2.out 0).trans rfl, (blk_cell BK2.out 1).trans rfl, (blk_cell BK1.out 0).trans rfl, (blk_cell BK1.out 1).trans rfl⟩ (fun hHeld => ?_)
  clear hK K
  refine norm_ (a' := ?_) ?_ ?_
  rotate_left
  ·show Act.put _ (some 6) _ = _
   simp only [Act.put, List.setIfInBounds_toArray, List.set_cons_zero, List.set_cons_succ, i64_w, i32_w]
   rfl
  refine pure_ (i := 2) (N := some 7) (bm_ 24 7) rfl rfl (any_of HT_.out kr_) (fun _ _ _ h => h) (Or.inl ⟨rfl, yi_⟩) pu_ ?_
  refine pure_ (i := 3) (N := some 8) (bm_ 24 15) rfl rfl (any_of HT_.out kr_) (fun _ _ _ h => h) (Or.inl ⟨rfl, yi_⟩) pu_ ?_
  refine pure_ (i := 5) (N := some 10) (bm_ 24 47) rfl rfl (any_of HT_.out kr_) (fun _ _ _ h => h) (Or.inl ⟨rfl, yi_⟩) pu_ ?_
  refine take_ (i := 4) (N := some 9) (v := ?_) (a' := ?_) (bm_ 24 63) rfl rfl (take_ofW HT_.out HW_.out kr_) (fun _ _ _ h => h) (Or.inl ⟨by rfl, ?_⟩) hHeld ?_ ?_
  rotate_left
  ·rintro w' ⟨s0, s1, s2, s3⟩
   go_simp
   with_reducible rfl
  rotate_left
  ·exact pu_
  refine take_ (i := 6) (N := some 11) (v := ?_) (a' := ?_) (bm_ 24 127) rfl rfl (take_ofW HT_.out HW_.out kr_) (fun _ _ _ h => h) (Or.inl ⟨by rfl, ?_⟩) hHeld ?_ ?_
  rotate_left
  ·rintro w' ⟨s0, s1, s2, s3⟩
   go_simp
   with_reducible rfl
  rotate_left
  ·exact pu_
  refine pure_ (i := 7) (N := some 12) (bm_ 24 255) rfl rfl (any_of HT_.out kr_) (fun _ _ _ h => h) (Or.inl ⟨rfl, yi_⟩) pu_ ?_
  refine pure_ (i := 8) (N := some 13) (bm_ 24 511) rfl rfl (any_of HT_.out kr_) (fun _ _ _ h => h) (Or.inl ⟨rfl, yi_⟩) pu_ ?_
  refine one_ (i := 9) (N := some 14) (bm_ 24 1023) rfl rfl (one_of HT_.out kr_) (by decide) (fun K hK => ?_)
  refine goes_ Try.func33 kr_ rfl #[.int .i64 a0_0, .int .i64 0, .int .i64 (wrap64 ((l1_1.length : Int) - 1))] (by rfl) rfl rfl ar_ ?_
  with_reducible refine (impl_within.calls a0_0 0 (wrap64 ((l1_1.length : Int) - 1)) false _ A5.out).mono ?_
  rintro e w' ⟨rfl, ⟨nd, rfl⟩⟩
  refine ⟨_, rfl, ?_⟩
  refine hK.out _ _ ⟨(blk_cell BK2.out 0).trans rfl, (blk_cell BK2.out 1).trans rfl, (blk_cell BK1.out 0).trans rfl, (blk_cell BK1.out 1).trans rfl⟩ (fun hHeld => ?_)
  clear hK K
  refine norm_ (a' := ?_) ?_ ?_
  rotate_left
  ·show Act.put _ (some 14) _ = _
   simp only [Act.put, List.setIfInBounds_toArray, List.set_cons_zero, List.set_cons_succ, i64_w, i32_w]
   rfl
  refine pure_ (i := 10) (N := some 15) (bm_ 24 2047) rfl rfl (any_of HT_.out kr_) (fun _ _ _ h => h) (Or.inl ⟨rfl, yi_⟩) pu_ ?_
  refine pure_ (i := 11) (N := some 16) (bm_ 24 4095) rfl rfl (any_of HT_.out kr_) (fun _ _ _ h => h) (Or.inl ⟨rfl, yi_⟩) pu_ ?_
  refine pure_ (i := 12) (N := some 17) (v := undef) (a' := ?_) (bm_ 24 8191) rfl rfl (any_of HT_.out kr_) (fun _ _ _ h => h) (Or.inr ⟨by rfl, rfl⟩) ?_ ?_
  rotate_left
  ·exact pu_
  refine pure_ (i := 13) (N := some 18) (v := undef) (a' := ?_) (bm_ 24 16383) rfl rfl (any_of HT_.out kr_) (fun _ _ _ h => h) (Or.inr ⟨by rfl, rfl⟩) ?_ ?_
  rotate_left
  ·exact pu_
  refine pure_ (i := 14) (N := some 19) (v := undef) (a' := ?_) (bm_ 24 32767) rfl rfl (any_of HT_.out kr_) (fun _ _ _ h => h) (Or.inr ⟨by rfl, rfl⟩) ?_ ?_
  rotate_left
  ·exact pu_
  refine pure_ (i := 15) (N := some 20) (v := undef) (a' := ?_) (bm_ 24 65535) rfl rfl (any_of HT_.out kr_) (fun _ _ _ h => h) (Or.inr ⟨by rfl, rfl⟩) ?_ ?_
  rotate_left
  ·exact pu_
  refine pure_ (i := 16) (N := some 21) (v := undef) (a' := ?_) (bm_ 24 131071) rfl rfl (any_of HT_.out kr_) (fun _ _ _ h => h) (Or.inr ⟨by rfl, rfl⟩) ?_ ?_
  rotate_left
  ·exact pu_
  refine pure_ (i := 17) (N := some 22) (v := undef) (a' := ?_) (bm_ 24 262143) rfl rfl (any_of HT_.out kr_) (fun _ _ _ h => h) (Or.inr ⟨by rfl, rfl⟩) ?_ ?_
  rotate_left
  ·exact pu_
  refine pure_ (i := 18) (N := some 23) (v := undef) (a' := ?_) (bm_ 24 524287) rfl rfl (any_of HT_.out kr_) (fun _ _ _ h => h) (Or.inr ⟨by rfl, rfl⟩) ?_ ?_
  rotate_left
  ·exact pu_
  refine pure_ (i := 19) (N := some 24) (v := undef) (a' := ?_) (bm_ 24 1048575) rfl rfl (any_of HT_.out kr_) (fun _ _ _ h => h) (Or.inr ⟨by rfl, rfl⟩) ?_ ?_
  rotate_left
  ·exact pu_
  refine pure_ (i := 20) (N := some 25) (v := undef) (a' := ?_) (bm_ 24 2097151) rfl rfl (any_of HT_.out kr_) (fun _ _ _ h => h) (Or.inr ⟨by rfl, rfl⟩) ?_ ?_
  rotate_left
  ·exact pu_
  refine pure_ (i := 21) (N := some 26) (v := undef) (a' := ?_) (bm_ 24 4194303) rfl rfl (any_of HT_.out kr_) (fun _ _ _ h => h) (Or.inr ⟨by rfl, rfl⟩) ?_ ?_
  rotate_left
  ·exact pu_
  refine pure_ (i := 22) (N := some 27) (bm_ 24 8388607) rfl rfl (any_of HT_.out kr_) (fun _ _ _ h => h) (Or.inl ⟨rfl, yi_⟩) pu_ ?_
  refine pure_ (i := 23) (N := some 4) (bm_ 24 16777215) rfl rfl (any_of HT_.out kr_) (fun _ _ _ h => h) (Or.inl ⟨rfl, yi_⟩) pu_ ?_
  refine done_ (done_of HT_.out kr_) ?_
  try go_wp2
  go_ret
  exact ⟨rr_, bw_⟩
 subst c6
 have H1 : (if 0 ≤ a0_0 then (if a0_0 < (l1_1.length : Int) then ((impl_within.f a0_1 0 ((rd_L4 l1_1 a0_0).length : Int)).bind fun t6 => (some t6)) else (none)) else (none)) = some r := by rw [if_pos rfl] at H; exact H
 clear H
 have H := H1
 clear H1
 by_cases c7 : 0 ≤ a0_0
 rotate_left
 ·rw [if_neg c7] at H
  exact absurd H (by simp)
 rw [if_pos c7] at H
 have c7b0 : decide (0 ≤ a0_0) = true := decide_eq_true c7
 clear c7
 by_cases c8 : a0_0 < (l1_1.length : Int)
 rotate_left
 ·rw [if_neg c8] at H
  exact absurd H (by simp)
 rw [if_pos c8] at H
 have c8b0 : decide (a0_0 < (l1_1.length : Int)) = true := decide_eq_true c8
 clear c8
 replace H := Option.bind_eq_some_iff.mp H
 obtain ⟨t6, A90, H⟩ := H
 replace H : (some t6) = some r := H
 have A9 := am_ A90
 clear A90
 obtain rfl := Option.some.inj H
 go_enter Try.func21, Try.ntmps21
 try go_wp2_with (first | ((with_reducible refine gate_dst (N := 2) rfl ?_); (try (refine gate_guard (by rfl) ?_; dsimp only)); refine box_event ?hg (N := 2) ?hd (cs := #[.int .i64 a0_0, .int .i64 a0_1]) (t := 44) ?hr ?_; (case hd => rfl); (case hg => rfl); (case hr => exact hrr_); intro gb1 hg w10 hbox hb; have n0_ := bs_ hb; have n1_ := am_ (hbox); have n2_ := ge_ (w := w) hg; have n3_ := ge_ (w := w) hg; clear HB; have HB := n0_; have BK1 := n1_; have GW1 := n2_; have GE1 := n3_; clear n0_ n1_ n2_ n3_; clear hb hbox hg) | ((with_reducible refine gate_dst (N := 3) rfl ?_); (try (refine gate_guard (by rfl) ?_; dsimp only)); refine box_event ?hg (N := 3) ?hd (cs := #[.int .i64 a1_0, .slice A1_1 l1_1.length c1_1]) (t := 26) ?hr ?_; (case hd => rfl); (case hg => rfl); (case hr => exact hrr_); intro gb2 hg w11 hbox hb; have n0_ := bb_ BK1.out hb; have n1_ := bs_ hb; have n2_ := am_ (hbox); have n3_ := ge_ (w := w) hg; have n4_ := ge_ (w := w) hg; have n5_ := nl_ BK1.out hg; have n6_ := nr_ BK1.out hg; clear BK1; clear HB; have BK1 := n0_; have HB := n1_; have BK2 := n2_; have GW2 := n3_; have GE2 := n4_; have NB1_2 := n5_; have NB2_1 := n6_; clear n0_ n1_ n2_ n3_ n4_ n5_ n6_; clear hb hbox hg))
 have n0_ := am_ (blk_drew BK1.out)
 have n1_ := am_ (blk_drew BK2.out)
 have n2_ := am_ (below_drew1 HB.out)
 clear BK1
 clear BK2
 clear HB
 have BK1 := n0_
 have BK2 := n1_
 have HB := n2_
 clear n0_ n1_ n2_
 have p5 : 0 ≤ (a0_0 : Int) := od_
 have q5 : a0_0 < (l1_1.length : Int) := od_
 obtain ⟨ad5, A5_0, c5_0, e5, hx5_0, hl5_0, hi5_0⟩ := at_L4 HR1_1.out a0_0 p5 q5
 have hw5_0 := hx5_0
 cases e5
 replace hx5_0 := (HB.out.cell (World.block_lt_of_cell? w _ hx5_0)).trans hx5_0
 have HR5_0 := am_ hi5_0
 have HC5_0 := am_ hl5_0
 clear hi5_0 hl5_0
 replace p5 := eq_true p5
 replace q5 := eq_true q5
 refine start_ (n := 24) (S := fun w' => w'.cell? ⟨gb2, 0, none⟩ = some (.int .i64 a1_0) ∧ w'.cell? ⟨gb2, 1, none⟩ = some (.slice (some ad5) l1_1.length c1_1) ∧ w'.cell? ⟨gb1, 0, none⟩ = some (.int .i64 a0_0) ∧ w'.cell? ⟨gb1, 1, none⟩ = some (.int .i64 a0_1) ∧ w'.cell? (ad5.add (a0_0).toNat) = some (.slice A5_0 (rd_L4 l1_1 a0_0).length c5_0)) (ds := []) (bm_ 24 0) kr_ rfl rfl ⟨(blk_cell BK2.out 0).trans rfl, (blk_cell BK2.out 1).trans rfl, (blk_cell BK1.out 0).trans rfl, (blk_cell BK1.out 1).trans rfl, ((HB.out.cell (World.block_lt_of_cell? w _ hw5_0)).trans hw5_0)⟩ (fun hHeld => ?_); refine with_tabW impl_SpotOk.tab1 impl_SpotOk.bits1 (fun HT_ HW_ => ?_)
 generalize w11.drew = w12 at BK1 BK2 HB HR5_0 hx5_0 hHeld ⊢
 refine take_ (i := 0) (N := some 5) (v := ?_) (a' := ?_) (bm_ 24 1) rfl rfl (take_ofW HT_.out HW_.out kr_) (fun _ _ _ h => h) (Or.inl ⟨by rfl, ?_⟩) hHeld ?_ ?_
 rotate_left
 ·rintro w' ⟨s0, s1, s2, s3, s4⟩
  go_simp
  with_reducible rfl
 rotate_left
 ·exact pu_
 refine one_ (i := 1) (N := some 6) (bm_ 24 3) rfl rfl (one_of HT_.out kr_) (by decide) (fun K hK => ?_)
 refine goes_ Try.func20 kr_ rfl #[.agg #[.int .i64 a1_0, .slice (some ad5) l1_1.length c1_1]] (by rfl) rfl rfl ar_ ?_
 with_reducible refine (impl_ProgOk.calls a1_0 _ _ l1_1 true _ ?side1 ?side2 A3.out).mono ?_
 (case side1 => exact cb_)
 (case side2 => exact HC1_1.out)
 rintro e w13 ⟨rfl, hb⟩
 refine ⟨_, rfl, ?_⟩
 have n0_ := bb_ BK1.out hb
 have n1_ := bb_ BK2.out hb
 have n2_ := bs_ hb
 clear BK1
 clear BK2
 clear HB
 have BK1 := n0_
 have BK2 := n1_
 have HB := n2_
 clear n0_ n1_ n2_
 (try clear hb)
 (try clear hb2)
 (try clear hk)
 (try clear hi)
 refine hK.out _ _ ⟨(blk_cell BK2.out 0).trans rfl, (blk_cell BK2.out 1).trans rfl, (blk_cell BK1.out 0).trans rfl, (blk_cell BK1.out 1).trans rfl, ((HB.out.cell (World.block_lt_of_cell? w _ hw5_0)).trans hw5_0)⟩ (fun hHeld => ?_)
 clear hK K
 refine norm_ (a' := ?_) ?_ ?_
 rotate_left
 ·show Act.put _ (some 6) _ = _
  simp only [Act.put, List.setIfInBounds_toArray, List.set_cons_zero, List.set_cons_succ, i64_w, i32_w]
  rfl
 refine pure_ (i := 2) (N := some 7) (bm_ 24 7) rfl rfl (any_of HT_.out kr_) (fun _ _ _ h => h) (Or.inl ⟨rfl, yi_⟩) pu_ ?_
 refine pure_ (i := 3) (N := some 8) (bm_ 24 15) rfl rfl (any_of HT_.out kr_) (fun _ _ _ h => h) (Or.inl ⟨rfl, yi_⟩) pu_ ?_
 refine pure_ (i := 5) (N := some 10) (bm_ 24 47) rfl rfl (any_of HT_.out kr_) (fun _ _ _ h => h) (Or.inl ⟨rfl, yi_⟩) pu_ ?_
 refine take_ (i := 4) (N := some 9) (v := ?_) (a' := ?_) (bm_ 24 63) rfl rfl (take_ofW HT_.out HW_.out kr_) (fun _ _ _ h => h) (Or.inl ⟨by rfl, ?_⟩) hHeld ?_ ?_
 rotate_left
 ·rintro w' ⟨s0, s1, s2, s3, s4⟩
  go_simp
  with_reducible rfl
 rotate_left
 ·exact pu_
 refine take_ (i := 6) (N := some 11) (v := ?_) (a' := ?_) (bm_ 24 127) rfl rfl (take_ofW HT_.out HW_.out kr_) (fun _ _ _ h => h) (Or.inl ⟨by rfl, ?_⟩) hHeld ?_ ?_
 rotate_left
 ·rintro w' ⟨s0, s1, s2, s3, s4⟩
  go_simp
  with_reducible rfl
 rotate_left
 ·exact pu_
 refine pure_ (i := 7) (N := some 12) (bm_ 24 255) rfl rfl (any_of HT_.out kr_) (fun _ _ _ h => h) (Or.inl ⟨rfl, yi_⟩) pu_ ?_
 refine pure_ (i := 8) (N := some 13) (bm_ 24 511) rfl rfl (any_of HT_.out kr_) (fun _ _ _ h => h) (Or.inl ⟨rfl, yi_⟩) pu_ ?_
 refine one_ (i := 9) (N := some 14) (bm_ 24 1023) rfl rfl (one_of HT_.out kr_) (by decide) (fun K hK => ?_)
 refine goes_ Try.func33 kr_ rfl #[.int .i64 a0_0, .int .i64 0, .int .i64 (wrap64 ((l1_1.length : Int) - 1))] (by rfl) rfl rfl ar_ ?_
 with_reducible refine (impl_within.calls a0_0 0 (wrap64 ((l1_1.length : Int) - 1)) true _ A5.out).mono ?_
 rintro e w' ⟨rfl, ⟨nd, rfl⟩⟩
 refine ⟨_, rfl, ?_⟩
 refine hK.out _ _ ⟨(blk_cell BK2.out 0).trans rfl, (blk_cell BK2.out 1).trans rfl, (blk_cell BK1.out 0).trans rfl, (blk_cell BK1.out 1).trans rfl, ((HB.out.cell (World.block_lt_of_cell? w _ hw5_0)).trans hw5_0)⟩ (fun hHeld => ?_)
 clear hK K
 refine norm_ (a' := ?_) ?_ ?_
 rotate_left
 ·show Act.put _ (some 14) _ = _
  simp only [Act.put, List.setIfInBounds_toArray, List.set_cons_zero, List.set_cons_succ, i64_w, i32_w]
  rfl
 refine pure_ (i := 10) (N := some 15) (bm_ 24 2047) rfl rfl (any_of HT_.out kr_) (fun _ _ _ h => h) (Or.inl ⟨rfl, yi_⟩) pu_ ?_
 refine pure_ (i := 11) (N := some 16) (bm_ 24 4095) rfl rfl (any_of HT_.out kr_) (fun _ _ _ h => h) (Or.inl ⟨rfl, yi_⟩) pu_ ?_
 refine pure_ (i := 12) (N := some 17) (bm_ 24 8191) rfl rfl (any_of HT_.out kr_) (fun _ _ _ h => h) (Or.inl ⟨rfl, yi_⟩) pu_ ?_
 refine pure_ (i := 14) (N := some 19) (bm_ 24 24575) rfl rfl (any_of HT_.out kr_) (fun _ _ _ h => h) (Or.inl ⟨rfl, yi_⟩) pu_ ?_
 refine pure_ (i := 16) (N := some 21) (bm_ 24 90111) rfl rfl (any_of HT_.out kr_) (fun _ _ _ h => h) (Or.inl ⟨rfl, yi_⟩) pu_ ?_
 refine take_ (i := 13) (N := some 18) (v := ?_) (a' := ?_) (bm_ 24 98303) rfl rfl (take_ofW HT_.out HW_.out kr_) (fun _ _ _ h => h) (Or.inl ⟨by rfl, ?_⟩) hHeld ?_ ?_
 rotate_left
 ·rintro w' ⟨s0, s1, s2, s3, s4⟩
  go_simp
  with_reducible rfl
 rotate_left
 ·exact pu_
 refine take_ (i := 15) (N := some 20) (v := ?_) (a' := ?_) (bm_ 24 131071) rfl rfl (take_ofW HT_.out HW_.out kr_) (fun _ _ _ h => h) (Or.inl ⟨by rfl, ?_⟩) hHeld ?_ ?_
 rotate_left
 ·rintro w' ⟨s0, s1, s2, s3, s4⟩
  go_simp
  with_reducible rfl
 rotate_left
 ·exact pu_
 refine take_ (i := 17) (N := some 22) (v := ?_) (a' := ?_) (bm_ 24 262143) rfl rfl (take_ofW HT_.out HW_.out kr_) (fun _ _ _ h => h) (Or.inl ⟨by rfl, ?_⟩) hHeld ?_ ?_
 rotate_left
 ·rintro w' ⟨s0, s1, s2, s3, s4⟩
  go_simp
  with_reducible rfl
 rotate_left
 ·exact pu_
 refine pure_ (i := 18) (N := some 23) (bm_ 24 524287) rfl rfl (any_of HT_.out kr_) (fun _ _ _ h => h) (Or.inl ⟨rfl, yi_⟩) pu_ ?_
 refine take_ (i := 19) (N := some 24) (v := ?_) (a' := ?_) (bm_ 24 1048575) rfl rfl (take_ofW HT_.out HW_.out kr_) (fun _ _ _ h => h) (Or.inl ⟨by rfl, ?_⟩) hHeld ?_ ?_
 rotate_left
 ·rintro w' ⟨s0, s1, s2, s3, s4⟩
  go_simp
  with_reducible rfl
 rotate_left
 ·exact pu_
 refine pure_ (i := 20) (N := some 25) (bm_ 24 2097151) rfl rfl (any_of HT_.out kr_) (fun _ _ _ h => h) (Or.inl ⟨rfl, yi_⟩) pu_ ?_
 refine one_ (i := 21) (N := some 26) (bm_ 24 4194303) rfl rfl (one_of HT_.out kr_) (by decide) (fun K hK => ?_)
 refine goes_ Try.func33 kr_ rfl #[.int .i64 a0_1, .int .i64 0, .int .i64 ((rd_L4 l1_1 a0_0).length : Int)] (by rfl) rfl rfl ar_ ?_
 with_reducible refine (impl_within.calls a0_1 0 ((rd_L4 l1_1 a0_0).length : Int) t6 _ A9.out).mono ?_
 rintro e w' ⟨rfl, ⟨nd, rfl⟩⟩
 refine ⟨_, rfl, ?_⟩
 refine hK.out _ _ ⟨(blk_cell BK2.out 0).trans rfl, (blk_cell BK2.out 1).trans rfl, (blk_cell BK1.out 0).trans rfl, (blk_cell BK1.out 1).trans rfl, ((HB.out.cell (World.block_lt_of_cell? w _ hw5_0)).trans hw5_0)⟩ (fun hHeld => ?_)
 clear hK K
 refine norm_ (a' := ?_) ?_ ?_
 rotate_left
 ·show Act.put _ (some 26) _ = _
  simp only [Act.put, List.setIfInBounds_toArray, List.set_cons_zero, List.set_cons_succ, i64_w, i32_w]
  rfl
 refine pure_ (i := 22) (N := some 27) (bm_ 24 8388607) rfl rfl (any_of HT_.out kr_) (fun _ _ _ h => h) (Or.inl ⟨rfl, yi_⟩) pu_ ?_
 refine pure_ (i := 23) (N := some 4) (bm_ 24 16777215) rfl rfl (any_of HT_.out kr_) (fun _ _ _ h => h) (Or.inl ⟨rfl, yi_⟩) pu_ ?_
 refine done_ (done_of HT_.out kr_) ?_
 try go_wp2
 go_ret
 exact ⟨rr_, bw_⟩

end Go.Proofs.Ytbgclnjnngolmaa.P
