-- Written by mp.py (the session's own driver over the kit's printer) for the seat Ytlfbdafghpmahaa.
import Derived.Test.YtlfbdafghpmahaaK
import Derived.Test.YtlfbdafghpmahaaPimplBufOk
import Derived.Test.YtlfbdafghpmahaaPimplMemOk
import Derived.Test.YtlfbdafghpmahaaPimplSlot
import Derived.Test.YtlfbdafghpmahaaPimplareValues
import Derived.Test.YtlfbdafghpmahaaPlawstoThread
namespace Go.Proofs.Ytlfbdafghpmahaa.P
open Go.RowKit Go.Proofs.YtlfbdafghpmahaaW.PrintWords Go.Proofs.YtlfbdafghpmahaaW.PrintLast Go.Proofs.YtlfbdafghpmahaaW.PrintMore
attribute [local go_sem] max2_int min2_int max_two min_two max_three min_three max_four min_four
set_option linter.unusedVariables false
set_option linter.unusedSimpArgs false

/-! ### impl_isMachine: function 125 -/
mutual
def impl_isMachine.j0 : Nat → Bool → Int → List (List (S82)) → List Int → List (S102) → Option (Bool)
 | 0, _, _, _, _, _ => none
 | k + 1, x28, x2000, x2001, x3000, x3001 => if x28 = true then (some false) else (impl_isMachine.l0 k x3001 (x3001.length : Int) 0 x2000 x2001)
def impl_isMachine.l0 : Nat → List (S102) → Int → Int → Int → List (List (S82)) → Option (Bool)
 | 0, _, _, _, _, _ => none
 | k + 1, x30, x31, x32, x2000, x2001 => if x32 < x31 then (if 0 ≤ x32 then (if x32 < (x30.length : Int) then (if x32 < (x2001.length : Int) then ((impl_within.f ((rd_T102 x30 x32).f0) 0 ((rd_L4 x2001 x32).length : Int)).bind fun t7 => (if t7 = true then (if (((rd_T102 x30 x32).f1).length : Int) = 4 then ((impl_areValues.f ((rd_T102 x30 x32).f1)).bind fun t8 => (if t8 = true then ((impl_BufOk.f ((rd_T102 x30 x32).f2)).bind fun t9 => (impl_isMachine.j2 k x30 x31 x32 (!t9) x2000 x2001 ((rd_T102 x30 x32).f0) ((rd_T102 x30 x32).f1) ((rd_T102 x30 x32).f2))) else (impl_isMachine.j2 k x30 x31 x32 true x2000 x2001 ((rd_T102 x30 x32).f0) ((rd_T102 x30 x32).f1) ((rd_T102 x30 x32).f2)))) else (impl_isMachine.j2 k x30 x31 x32 true x2000 x2001 ((rd_T102 x30 x32).f0) ((rd_T102 x30 x32).f1) ((rd_T102 x30 x32).f2))) else (impl_isMachine.j2 k x30 x31 x32 true x2000 x2001 ((rd_T102 x30 x32).f0) ((rd_T102 x30 x32).f1) ((rd_T102 x30 x32).f2)))) else (none)) else (none)) else (none)) else (some true)
def impl_isMachine.j2 : Nat → List (S102) → Int → Int → Bool → Int → List (List (S82)) → Int → List Int → List (S152) → Option (Bool)
 | 0, _, _, _, _, _, _, _, _, _ => none
 | k + 1, x30, x31, x32, x64, x2000, x2001, x6000, x6001, x6002 => if x64 = true then (some false) else ((impl_Slot.f x6002 x2000).bind fun t10 => (if t10 = true then (some false) else (impl_isMachine.l0 k x30 x31 (wrap64 (x32 + 1)) x2000 x2001)))
end
def impl_isMachine.f (k : Nat) (a0_0 : Int) (l0_1 : List (List (S82))) (l1_0 : List Int) (l1_1 : List (S102)) : Option (Bool) := (impl_MemOk.f l1_0).bind fun t3 => (if t3 = true then (if (l1_0.length : Int) = a0_0 then (impl_isMachine.j0 k ((l1_1.length : Int) != (l0_1.length : Int)) a0_0 l0_1 l1_0 l1_1) else (impl_isMachine.j0 k true a0_0 l0_1 l1_0 l1_1)) else (impl_isMachine.j0 k true a0_0 l0_1 l1_0 l1_1))
theorem impl_isMachine.mono_l : ∀ k, (∀ y0 y1 y2 y3 y4, LeO (impl_isMachine.j0 k y0 y1 y2 y3 y4) (impl_isMachine.j0 (k + 1) y0 y1 y2 y3 y4)) ∧ (∀ y0 y1 y2 y3 y4, LeO (impl_isMachine.l0 k y0 y1 y2 y3 y4) (impl_isMachine.l0 (k + 1) y0 y1 y2 y3 y4)) ∧ (∀ y0 y1 y2 y3 y4 y5 y6 y7 y8, LeO (impl_isMachine.j2 k y0 y1 y2 y3 y4 y5 y6 y7 y8) (impl_isMachine.j2 (k + 1) y0 y1 y2 y3 y4 y5 y6 y7 y8))
 | 0 => ⟨fun _ _ _ _ _ r h => by simp [impl_isMachine.j0] at h, fun _ _ _ _ _ r h => by simp [impl_isMachine.l0] at h, fun _ _ _ _ _ _ _ _ _ r h => by simp [impl_isMachine.j2] at h⟩
 | k + 1 => by
  obtain ⟨ih0, ih1, ih2⟩ := impl_isMachine.mono_l k
  refine ⟨?_, ?_, ?_⟩
  ·intro y0 y1 y2 y3 y4
   unfold impl_isMachine.j0
   repeat' first | (with_reducible first | exact ih0 _ _ _ _ _ | exact ih1 _ _ _ _ _ | exact ih2 _ _ _ _ _ _ _ _ _ | exact lr_ | exact ln_ | refine LeO.ite ?_ ?_ | refine LeO.bind ?_ (fun _ => ?_)) | exact ih0 _ _ _ _ _ | exact ih1 _ _ _ _ _ | exact ih2 _ _ _ _ _ _ _ _ _ | exact ln_ | refine LeO.ite ?_ ?_ | refine LeO.bind ?_ (fun _ => ?_)
  ·intro y0 y1 y2 y3 y4
   unfold impl_isMachine.l0
   repeat' first | (with_reducible first | exact ih0 _ _ _ _ _ | exact ih1 _ _ _ _ _ | exact ih2 _ _ _ _ _ _ _ _ _ | exact lr_ | exact ln_ | refine LeO.ite ?_ ?_ | refine LeO.bind ?_ (fun _ => ?_)) | exact ih0 _ _ _ _ _ | exact ih1 _ _ _ _ _ | exact ih2 _ _ _ _ _ _ _ _ _ | exact ln_ | refine LeO.ite ?_ ?_ | refine LeO.bind ?_ (fun _ => ?_)
  ·intro y0 y1 y2 y3 y4 y5 y6 y7 y8
   unfold impl_isMachine.j2
   repeat' first | (with_reducible first | exact ih0 _ _ _ _ _ | exact ih1 _ _ _ _ _ | exact ih2 _ _ _ _ _ _ _ _ _ | exact lr_ | exact ln_ | refine LeO.ite ?_ ?_ | refine LeO.bind ?_ (fun _ => ?_)) | exact ih0 _ _ _ _ _ | exact ih1 _ _ _ _ _ | exact ih2 _ _ _ _ _ _ _ _ _ | exact ln_ | refine LeO.ite ?_ ?_ | refine LeO.bind ?_ (fun _ => ?_)
theorem impl_isMachine.mono : ∀ a0 a1 a2 a3 k, LeO (impl_isMachine.f k a0 a1 a2 a3) (impl_isMachine.f (k + 1) a0 a1 a2 a3) := by
 intro a0 a1 a2 a3 k
 obtain ⟨ih0, ih1, ih2⟩ := impl_isMachine.mono_l k
 unfold impl_isMachine.f
 repeat' first | (with_reducible first | exact ih0 _ _ _ _ _ | exact ih1 _ _ _ _ _ | exact ih2 _ _ _ _ _ _ _ _ _ | exact lr_ | exact ln_ | refine LeO.ite ?_ ?_ | refine LeO.bind ?_ (fun _ => ?_)) | exact ih0 _ _ _ _ _ | exact ih1 _ _ _ _ _ | exact ih2 _ _ _ _ _ _ _ _ _ | exact ln_ | refine LeO.ite ?_ ?_ | refine LeO.bind ?_ (fun _ => ?_)
def impl_isMachine.T6 : Bool × List (List Nat × List Nat) := (true, [([], []), ([0], [0]), ([], []), ([2], [2]), ([], []), ([3, 4], [3, 4]), ([5], [5]), ([6], [6]), ([1, 7], [1, 7]), ([8], [8]), ([9, 8], [9]), ([10], [10]), ([11, 10], [10, 11]), ([12, 10], [10, 12]), ([13, 10], [10, 13]), ([10, 14], [10, 14]), ([15, 10], [15]), ([16], [16]), ([17, 16], [16, 17]), ([18, 16, 16], [16, 18]), ([19, 16], [16, 19]), ([16, 20], [16, 20]), ([21, 19], [21]), ([22], [22]), ([23, 22], [22, 23]), ([24, 22, 22], [22, 24]), ([25, 22], [22, 25]), ([22, 26], [22, 26])])
def impl_isMachine.B6 : List Nat := [0, 1, 0, 4, 0, 28, 60, 124, 255, 511, 1023, 2047, 4095, 8191, 16383, 32767, 65535, 131071, 262143, 524287, 1048575, 2097151, 4194303, 8388607, 16777215, 33554431, 67108863, 134217727]
theorem impl_isMachine.tab6 : rtab .any (opsOf Try.f125 6) = impl_isMachine.T6 := by kernel_rfl
theorem impl_isMachine.bits6 : waitsOk impl_isMachine.T6.2 impl_isMachine.B6 = true := by kernel_rfl
set_option maxHeartbeats 8000000 in
set_option maxRecDepth 100000 in
theorem impl_isMachine.calls (k : Nat) (a0_0 : Int) (A0_1 : Option Addr) (c0_1 : Nat) (l0_1 : List (List (S82))) (A1_0 : Option Addr) (c1_0 : Nat) (l1_0 : List Int) (A1_1 : Option Addr) (c1_1 : Nat) (l1_1 : List (S102)) (r : Bool) (w : World) (hr0_1 : Kd.C (Kd.slice 82 k82) w A0_1 l0_1.length l0_1) (hc0_1 : l0_1.length ≤ c0_1) (hr1_0 : Kd.C (Kd.int .i64) w A1_0 l1_0.length l1_0) (hc1_0 : l1_0.length ≤ c1_0) (hr1_1 : Kd.C k102 w A1_1 l1_1.length l1_1) (hc1_1 : l1_1.length ≤ c1_1) (h : impl_isMachine.f k a0_0 l0_1 l1_0 l1_1 = some r) :
  Calls Try.prog 125 #[.agg #[.int .i64 a0_0, .slice A0_1 l0_1.length c0_1], .agg #[.slice A1_0 l1_0.length c1_0, .slice A1_1 l1_1.length c1_1]] w fun e w' => e = .returned (.bool r) ∧ Below w.heap.size w w' := by
 have hu39 := Try.underlying39
 have hu54 := Try.underlying54
 have hu51 := Try.underlying51
 have hu102 := Try.underlying102
 have HR0_1 := Aside0.mk hr0_1
 have HC0_1 := Aside0.mk hc0_1
 clear hr0_1 hc0_1
 have HR1_0 := Aside0.mk hr1_0
 have HC1_0 := Aside0.mk hc1_0
 clear hr1_0 hc1_0
 have HR1_1 := Aside0.mk hr1_1
 have HC1_1 := Aside0.mk hc1_1
 clear hr1_1 hc1_1
 have HB := Aside0.mk (Below.refl w.heap.size w)
 have H : ((impl_MemOk.f l1_0).bind fun t3 => (if t3 = true then (if (l1_0.length : Int) = a0_0 then (impl_isMachine.j0 k ((l1_1.length : Int) != (l0_1.length : Int)) a0_0 l0_1 l1_0 l1_1) else (impl_isMachine.j0 k true a0_0 l0_1 l1_0 l1_1)) else (impl_isMachine.j0 k true a0_0 l0_1 l1_0 l1_1))) = some r := h
 clear h
 have HC3 := Aside0.mk H
 clear H
 go_enter Try.func125, Try.ntmps125
 go_upto_region 1 with (first | ((with_reducible refine gate_dst (N := 2) rfl ?_); (try (refine gate_guard (by rfl) ?_; dsimp only)); refine box_event ?hg (N := 2) ?hd (cs := #[.int .i64 a0_0, .slice A0_1 l0_1.length c0_1]) (t := 39) ?hr ?_; (case hd => rfl); (case hg => rfl); (case hr => exact hr_); intro gb1 hg w4 hbox hb; have n0_ := bs_ hb; have n1_ := Aside0.mk (hbox); have n2_ := ge_ (w := w) hg; have n3_ := ge_ (w := w) hg; clear HB; have HB := n0_; have BK1 := n1_; have GW1 := n2_; have GE1 := n3_; clear n0_ n1_ n2_ n3_; clear hb hbox hg) | ((with_reducible refine gate_dst (N := 3) rfl ?_); (try (refine gate_guard (by rfl) ?_; dsimp only)); refine box_event ?hg (N := 3) ?hd (cs := #[.slice A1_0 l1_0.length c1_0, .slice A1_1 l1_1.length c1_1]) (t := 54) ?hr ?_; (case hd => rfl); (case hg => rfl); (case hr => exact hr_); intro gb2 hg w5 hbox hb; have n0_ := bb_ BK1.out hb; have n1_ := bs_ hb; have n2_ := Aside0.mk (hbox); have n3_ := ge_ (w := w) hg; have n4_ := ge_ (w := w) hg; have n5_ := nl_ BK1.out hg; have n6_ := nr_ BK1.out hg; clear BK1; clear HB; have BK1 := n0_; have HB := n1_; have BK2 := n2_; have GW2 := n3_; have GE2 := n4_; have NB1_2 := n5_; have NB2_1 := n6_; clear n0_ n1_ n2_ n3_ n4_ n5_ n6_; clear hb hbox hg))
 (try simp only [Act.put, List.setIfInBounds_toArray, List.set_cons_zero, List.set_cons_succ])
 go_cut [28] (fun v28 wc => ∃ (kq : Nat) (x28_2 : Bool), v28 = .bool x28_2 ∧ Aside0 (impl_isMachine.j0 kq x28_2 a0_0 l0_1 l1_0 l1_1 = some r) ∧ Aside0 (kq ≤ k) ∧ Aside0 (wc.heap[gb1]? = some (.cells #[.int .i64 a0_0, (.slice A0_1 l0_1.length c0_1)] 39 (0, 0))) ∧ Aside0 (wc.heap[gb2]? = some (.cells #[(.slice A1_0 l1_0.length c1_0), (.slice A1_1 l1_1.length c1_1)] 54 (0, 0))) ∧ Aside0 (Below w.heap.size w wc))
 case first =>
  have H := HC3.out
  clear HC3
  replace H := Option.bind_eq_some_iff.mp H
  obtain ⟨t3, A60, H⟩ := H
  replace H : (if t3 = true then (if (l1_0.length : Int) = a0_0 then (impl_isMachine.j0 k ((l1_1.length : Int) != (l0_1.length : Int)) a0_0 l0_1 l1_0 l1_1) else (impl_isMachine.j0 k true a0_0 l0_1 l1_0 l1_1)) else (impl_isMachine.j0 k true a0_0 l0_1 l1_0 l1_1)) = some r := H
  have A6 := Aside0.mk A60
  clear A60
  by_cases c7 : t3 = true
  rotate_left
  ·replace c7 := Bool.eq_false_iff.mpr c7
   subst c7
   have H1 : (impl_isMachine.j0 k true a0_0 l0_1 l1_0 l1_1) = some r := by rw [if_neg (show ¬ (false = true) by decide)] at H; exact H
   clear H
   have H := H1
   clear H1
   have H' := Aside0.mk H
   clear H
   have hnb19 := NB2_1.out
   have hnc19 := NB1_2.out
   obtain ⟨hcz20_0, hcz20_1, hfz20_0, hfz20_1⟩ := bc2_ BK2.out
   go_wp2_with (first | ((with_reducible refine gate_callee (f := 154) rfl ?_); refine goesL_ (some 9) rfl rfl Try.func154 (by kernel_rfl) rfl #[.agg #[.slice A1_0 l1_0.length c1_0]] rfl ar_ ?_; (with_reducible refine (impl_MemOk.calls _ _ l1_0 false _ ?side1 ?side2 A6.out).mono ?_); (case side1 => exact cb_); (case side2 => exact HC1_0.out); rintro e w21 ⟨rfl, hb⟩; refine ⟨_, rfl, ?_⟩; have n0_ := bb_ BK1.out hb; have n1_ := bb_ BK2.out hb; have n2_ := bs_ hb; clear BK1; clear BK2; clear HB; have BK1 := n0_; have BK2 := n1_; have HB := n2_; clear n0_ n1_ n2_; (try clear hb); (try clear hb2); (try clear hk); (try clear hi)))
   go_meet
   case rel => exact ⟨_, (true), sd_, H', ⟨by first | omega | exact Nat.le_refl _⟩, ⟨bk_⟩, ⟨bk_⟩, ⟨bw_⟩⟩
  subst c7
  have H1 : (if (l1_0.length : Int) = a0_0 then (impl_isMachine.j0 k ((l1_1.length : Int) != (l0_1.length : Int)) a0_0 l0_1 l1_0 l1_1) else (impl_isMachine.j0 k true a0_0 l0_1 l1_0 l1_1)) = some r := by rw [if_pos rfl] at H; exact H
  clear H
  have H := H1
  clear H1
  by_cases c8 : (l1_0.length : Int) = a0_0
  rotate_left
  ·rw [if_neg c8] at H
   have c8b0 : ((l1_0.length : Int) == a0_0) = false := beq_eq_false_iff_ne.mpr c8
   have c8b1 : ((l1_0.length : Int) != a0_0) = true := bne_iff_ne.mpr c8
   (first | rw [c8b0] | (simp only [i64_w, i32_w]; rw [c8b0]) | skip)
   have H' := Aside0.mk H
   clear H
   have hnb14 := NB2_1.out
   have hnc14 := NB1_2.out
   obtain ⟨hcz15_0, hcz15_1, hfz15_0, hfz15_1⟩ := bc2_ BK2.out
   go_wp2_with (first | ((with_reducible refine gate_callee (f := 154) rfl ?_); refine goesL_ (some 9) rfl rfl Try.func154 (by kernel_rfl) rfl #[.agg #[.slice A1_0 l1_0.length c1_0]] rfl ar_ ?_; (with_reducible refine (impl_MemOk.calls _ _ l1_0 true _ ?side1 ?side2 A6.out).mono ?_); (case side1 => exact cb_); (case side2 => exact HC1_0.out); rintro e w16 ⟨rfl, hb⟩; refine ⟨_, rfl, ?_⟩; have n0_ := bb_ BK1.out hb; have n1_ := bb_ BK2.out hb; have n2_ := bs_ hb; clear BK1; clear BK2; clear HB; have BK1 := n0_; have BK2 := n1_; have HB := n2_; clear n0_ n1_ n2_; (try clear hb); (try clear hb2); (try clear hk); (try clear hi); obtain ⟨hcz17_0, hcz17_1, hfz17_0, hfz17_1⟩ := bc2_ BK2.out; obtain ⟨hcz18_0, hcz18_1, hfz18_0, hfz18_1⟩ := bc2_ BK1.out))
   go_meet
   case rel => exact ⟨_, (true), sd_, H', ⟨by first | omega | exact Nat.le_refl _⟩, ⟨bk_⟩, ⟨bk_⟩, ⟨bw_⟩⟩
  rw [if_pos c8] at H
  have c8b0 : ((l1_0.length : Int) == a0_0) = true := beq_iff_eq.mpr c8
  have c8b1 : ((l1_0.length : Int) != a0_0) = false := bne_eq_false_iff_eq.mpr c8
  clear c8
  (first | rw [c8b0] | (simp only [i64_w, i32_w]; rw [c8b0]) | skip)
  have H' := Aside0.mk H
  clear H
  have hnb9 := NB2_1.out
  have hnc9 := NB1_2.out
  obtain ⟨hcz10_0, hcz10_1, hfz10_0, hfz10_1⟩ := bc2_ BK2.out
  go_wp2_with (first | ((with_reducible refine gate_callee (f := 154) rfl ?_); refine goesL_ (some 9) rfl rfl Try.func154 (by kernel_rfl) rfl #[.agg #[.slice A1_0 l1_0.length c1_0]] rfl ar_ ?_; (with_reducible refine (impl_MemOk.calls _ _ l1_0 true _ ?side1 ?side2 A6.out).mono ?_); (case side1 => exact cb_); (case side2 => exact HC1_0.out); rintro e w11 ⟨rfl, hb⟩; refine ⟨_, rfl, ?_⟩; have n0_ := bb_ BK1.out hb; have n1_ := bb_ BK2.out hb; have n2_ := bs_ hb; clear BK1; clear BK2; clear HB; have BK1 := n0_; have BK2 := n1_; have HB := n2_; clear n0_ n1_ n2_; (try clear hb); (try clear hb2); (try clear hk); (try clear hi); obtain ⟨hcz12_0, hcz12_1, hfz12_0, hfz12_1⟩ := bc2_ BK2.out; obtain ⟨hcz13_0, hcz13_1, hfz13_0, hfz13_1⟩ := bc2_ BK1.out))
  go_meet
  case rel => exact ⟨_, (((l1_1.length : Int) != (l0_1.length : Int))), sd_, H', ⟨by first | omega | exact Nat.le_refl _⟩, ⟨bk_⟩, ⟨bk_⟩, ⟨bw_⟩⟩
 case rest =>
  clear HC3
  try clear c1
  try clear p2
  try clear c7
  try clear c8
  try clear c8b0
  try clear c8b1
  try clear c9
  try clear c12
  try clear c14
  try clear c15
  try clear c19
  try clear hcz10_0 hcz10_1
  try clear hcz12_0 hcz12_1
  try clear hcz13_0 hcz13_1
  try clear hcz15_0 hcz15_1
  try clear hcz17_0 hcz17_1
  try clear hcz18_0 hcz18_1
  try clear hcz20_0 hcz20_1
  try clear hfz10_0 hfz10_1
  try clear hfz12_0 hfz12_1
  try clear hfz13_0 hfz13_1
  try clear hfz15_0 hfz15_1
  try clear hfz17_0 hfz17_1
  try clear hfz18_0 hfz18_1
  try clear hfz20_0 hfz20_1
  obtain ⟨kq, x28_2, rfl, HA, HJ2, BK1, BK2, HB⟩ := hcut
  cases kq with
  | zero => exact absurd HA.out (by simp [impl_isMachine.j0])
  | succ kj2 =>
   have H := HA.out
   clear HA
   simp only [impl_isMachine.j0] at H
   by_cases c22 : x28_2 = true
   ·subst c22
    have H1 : (some false) = some r := by rw [if_pos rfl] at H; exact H
    clear H
    have H := H1
    clear H1
    obtain rfl := Option.some.inj H
    go_wp2
    go_ret
    exact ⟨rr_, bw_⟩
   replace c22 := Bool.eq_false_iff.mpr c22
   subst c22
   have H1 : (impl_isMachine.l0 kj2 l1_1 (l1_1.length : Int) 0 a0_0 l0_1) = some r := by rw [if_neg (show ¬ (false = true) by decide)] at H; exact H
   clear H
   have H := H1
   clear H1
   have H' := Aside0.mk H
   clear H
   have hnb23 := NB2_1.out
   have hnc23 := NB1_2.out
   obtain ⟨hcz24_0, hcz24_1, hfz24_0, hfz24_1⟩ := bc2_ BK2.out
   go_wp2
   go_loopg [32] kj2 (fun kq v32 w' => ∃ (x32_2 : Int), v32 = .int .i64 x32_2 ∧ Aside0 (impl_isMachine.l0 kq l1_1 (l1_1.length : Int) x32_2 a0_0 l0_1 = some r) ∧ Aside0 (kq ≤ kj2) ∧ Aside0 (w'.heap[gb1]? = some (.cells #[.int .i64 a0_0, (.slice A0_1 l0_1.length c0_1)] 39 (0, 0))) ∧ Aside0 (w'.heap[gb2]? = some (.cells #[(.slice A1_0 l1_0.length c1_0), (.slice A1_1 l1_1.length c1_1)] 54 (0, 0))) ∧ Aside0 (Below w.heap.size w w'))
   case atStart => exact ⟨(0), sd_, H', ⟨Nat.le_refl _⟩, ⟨bk_⟩, ⟨bk_⟩, ⟨bw_⟩⟩
   case round =>
    clear H'
    try clear c1
    try clear c2
    try clear p2
    try clear c7
    try clear c8
    try clear c8b0
    try clear c8b1
    try clear c9
    try clear c12
    try clear c14
    try clear c15
    try clear c19
    try clear c22
    try clear c23
    try clear hcz10_0 hcz10_1
    try clear hcz12_0 hcz12_1
    try clear hcz13_0 hcz13_1
    try clear hcz15_0 hcz15_1
    try clear hcz17_0 hcz17_1
    try clear hcz18_0 hcz18_1
    try clear hcz20_0 hcz20_1
    try clear hcz24_0 hcz24_1
    try clear hfz10_0 hfz10_1
    try clear hfz12_0 hfz12_1
    try clear hfz13_0 hfz13_1
    try clear hfz15_0 hfz15_1
    try clear hfz17_0 hfz17_1
    try clear hfz18_0 hfz18_1
    try clear hfz20_0 hfz20_1
    try clear hfz24_0 hfz24_1
    try clear p2
    obtain ⟨x32_2, rfl, HA, HK2, BK1, BK2, HB⟩ := hrel
    cases gk with
    | zero => exact absurd HA.out (by simp [impl_isMachine.l0])
    | succ k2 =>
     have H := HA.out
     clear HA
     simp only [impl_isMachine.l0] at H
     by_cases c25 : x32_2 < (l1_1.length : Int)
     rotate_left
     ·rw [if_neg c25] at H
      have c25b0 : decide (x32_2 < (l1_1.length : Int)) = false := decide_eq_false c25
      clear c25
      obtain rfl := Option.some.inj H
      go_wp2
      go_ret
      exact ⟨rr_, bw_⟩
     rw [if_pos c25] at H
     have c25b0 : decide (x32_2 < (l1_1.length : Int)) = true := decide_eq_true c25
     clear c25
     by_cases c26 : 0 ≤ x32_2
     rotate_left
     ·rw [if_neg c26] at H
      exact absurd H (by simp)
     rw [if_pos c26] at H
     have c26b0 : decide (0 ≤ x32_2) = true := decide_eq_true c26
     clear c26
     by_cases c27 : x32_2 < (l1_1.length : Int)
     rotate_left
     ·rw [if_neg c27] at H
      exact absurd H (by simp)
     rw [if_pos c27] at H
     have c27b0 : decide (x32_2 < (l1_1.length : Int)) = true := decide_eq_true c27
     clear c27
     have HC28 := Aside0.mk H
     clear H
     have p4 : 0 ≤ (x32_2 : Int) := od_
     have q4 : x32_2 < (l1_1.length : Int) := od_
     obtain ⟨ad4, A4_1, c4_1, A4_2, c4_2, e4, hx4_0, hx4_1, hx4_2, hl4_1, hi4_1, hl4_2, hi4_2⟩ := at_T102 HR1_1.out x32_2 p4 q4
     cases e4
     replace hx4_0 := (HB.out.cell (World.block_lt_of_cell? w _ hx4_0)).trans hx4_0
     replace hx4_1 := (HB.out.cell (World.block_lt_of_cell? w _ hx4_1)).trans hx4_1
     replace hx4_2 := (HB.out.cell (World.block_lt_of_cell? w _ hx4_2)).trans hx4_2
     have HR4_1 := Aside0.mk hi4_1
     have HC4_1 := Aside0.mk hl4_1
     clear hi4_1 hl4_1
     have HR4_2 := Aside0.mk hi4_2
     have HC4_2 := Aside0.mk hl4_2
     clear hi4_2 hl4_2
     replace p4 := eq_true p4
     replace q4 := eq_true q4
     go_upto_region 6 with (first | ((with_reducible refine gate_dst (N := 6) rfl ?_); (try (refine gate_guard (by rfl) ?_; dsimp only)); refine box_event ?hg (N := 6) ?hd (cs := #[.int .i64 0, .slice none 0 0, .slice none 0 0]) (t := 102) ?hr ?_; (case hd => rfl); (case hg => rfl); (case hr => exact hr_); intro gb5 hg w29 hbox hb; have n0_ := bb_ BK1.out hb; have n1_ := bb_ BK2.out hb; have n2_ := bs_ hb; have n3_ := Aside0.mk (hbox); have n4_ := ge_ (w := w) hg; have n5_ := ge_ (w := w) hg; have n6_ := nl_ BK1.out hg; have n7_ := nr_ BK1.out hg; have n8_ := nl_ BK2.out hg; have n9_ := nr_ BK2.out hg; clear BK1; clear BK2; clear HB; have BK1 := n0_; have BK2 := n1_; have HB := n2_; have BK5 := n3_; have GW5 := n4_; have GE5 := n5_; have NB1_5 := n6_; have NB5_1 := n7_; have NB2_5 := n8_; have NB5_2 := n9_; clear n0_ n1_ n2_ n3_ n4_ n5_ n6_ n7_ n8_ n9_; clear hb hbox hg; have hnb30 := NB5_1.out; have hnc30 := NB1_5.out; have hnb31 := NB5_2.out; have hnc31 := NB2_5.out; obtain ⟨hcz32_0, hcz32_1, hcz32_2, hfz32_0, hfz32_1, hfz32_2⟩ := bc3_ BK5.out))
     (try simp only [Act.put, List.setIfInBounds_toArray, List.set_cons_zero, List.set_cons_succ])
     go_cut [64] (fun v64 wc => ∃ (kq : Nat) (x64_27 : Bool), v64 = .bool x64_27 ∧ Aside0 (impl_isMachine.j2 kq l1_1 (l1_1.length : Int) x32_2 x64_27 a0_0 l0_1 ((rd_T102 l1_1 x32_2).f0) ((rd_T102 l1_1 x32_2).f1) ((rd_T102 l1_1 x32_2).f2) = some r) ∧ Aside0 (kq ≤ k2) ∧ Aside0 (wc.heap[gb1]? = some (.cells #[.int .i64 a0_0, (.slice A0_1 l0_1.length c0_1)] 39 (0, 0))) ∧ Aside0 (wc.heap[gb2]? = some (.cells #[(.slice A1_0 l1_0.length c1_0), (.slice (some ad4) l1_1.length c1_1)] 54 (0, 0))) ∧ Aside0 (wc.heap[gb5]? = some (.cells #[.int .i64 ((rd_T102 l1_1 x32_2).f0), (.slice A4_1 ((rd_T102 l1_1 x32_2).f1).length c4_1), (.slice A4_2 ((rd_T102 l1_1 x32_2).f2).length c4_2)] 102 (0, 0))) ∧ Aside0 (Below w.heap.size w wc))
     case first =>
      have H := HC28.out
      clear HC28
      by_cases c33 : x32_2 < (l0_1.length : Int)
      rotate_left
      ·rw [if_neg c33] at H
       exact absurd H (by simp)
      rw [if_pos c33] at H
      have c33b0 : decide (x32_2 < (l0_1.length : Int)) = true := decide_eq_true c33
      clear c33
      (first | rw [c33b0] | (simp only [i64_w, i32_w]; rw [c33b0]) | skip)
      replace H := Option.bind_eq_some_iff.mp H
      obtain ⟨t7, A340, H⟩ := H
      replace H : (if t7 = true then (if (((rd_T102 l1_1 x32_2).f1).length : Int) = 4 then ((impl_areValues.f ((rd_T102 l1_1 x32_2).f1)).bind fun t8 => (if t8 = true then ((impl_BufOk.f ((rd_T102 l1_1 x32_2).f2)).bind fun t9 => (impl_isMachine.j2 k2 l1_1 (l1_1.length : Int) x32_2 (!t9) a0_0 l0_1 ((rd_T102 l1_1 x32_2).f0) ((rd_T102 l1_1 x32_2).f1) ((rd_T102 l1_1 x32_2).f2))) else (impl_isMachine.j2 k2 l1_1 (l1_1.length : Int) x32_2 true a0_0 l0_1 ((rd_T102 l1_1 x32_2).f0) ((rd_T102 l1_1 x32_2).f1) ((rd_T102 l1_1 x32_2).f2)))) else (impl_isMachine.j2 k2 l1_1 (l1_1.length : Int) x32_2 true a0_0 l0_1 ((rd_T102 l1_1 x32_2).f0) ((rd_T102 l1_1 x32_2).f1) ((rd_T102 l1_1 x32_2).f2))) else (impl_isMachine.j2 k2 l1_1 (l1_1.length : Int) x32_2 true a0_0 l0_1 ((rd_T102 l1_1 x32_2).f0) ((rd_T102 l1_1 x32_2).f1) ((rd_T102 l1_1 x32_2).f2))) = some r := H
      have A34 := Aside0.mk A340
      clear A340
      by_cases c35 : t7 = true
      rotate_left
      ·replace c35 := Bool.eq_false_iff.mpr c35
       subst c35
       have H1 : (impl_isMachine.j2 k2 l1_1 (l1_1.length : Int) x32_2 true a0_0 l0_1 ((rd_T102 l1_1 x32_2).f0) ((rd_T102 l1_1 x32_2).f1) ((rd_T102 l1_1 x32_2).f2)) = some r := by rw [if_neg (show ¬ (false = true) by decide)] at H; exact H
       clear H
       have H := H1
       clear H1
       have H' := Aside0.mk H
       clear H
       try go_wp2
       have n0_ : Aside0 ((((w29.setCell ⟨gb5, 0, none⟩ (.int .i64 ((rd_T102 l1_1 x32_2).f0))).setCell ⟨gb5, 1, none⟩ (.slice A4_1 ((rd_T102 l1_1 x32_2).f1).length c4_1)).setCell ⟨gb5, 2, none⟩ (.slice A4_2 ((rd_T102 l1_1 x32_2).f2).length c4_2)).heap[gb1]? = some (.cells #[.int .i64 a0_0, .slice A0_1 l0_1.length c0_1] 39 (0, 0))) := ⟨by (with_reducible repeat (first | refine blk_drewN ?_ _ | refine blk_drew ?_ | refine blk_alloc ?_ _)); refine blk_far ?_ NB1_5.out _; (with_reducible repeat (first | refine blk_drewN ?_ _ | refine blk_drew ?_ | refine blk_alloc ?_ _)); refine blk_far ?_ NB1_5.out _; (with_reducible repeat (first | refine blk_drewN ?_ _ | refine blk_drew ?_ | refine blk_alloc ?_ _)); refine blk_far ?_ NB1_5.out _; (with_reducible repeat (first | refine blk_drewN ?_ _ | refine blk_drew ?_ | refine blk_alloc ?_ _)); exact BK1.out⟩
       have n1_ : Aside0 ((((w29.setCell ⟨gb5, 0, none⟩ (.int .i64 ((rd_T102 l1_1 x32_2).f0))).setCell ⟨gb5, 1, none⟩ (.slice A4_1 ((rd_T102 l1_1 x32_2).f1).length c4_1)).setCell ⟨gb5, 2, none⟩ (.slice A4_2 ((rd_T102 l1_1 x32_2).f2).length c4_2)).heap[gb2]? = some (.cells #[.slice A1_0 l1_0.length c1_0, .slice (some ad4) l1_1.length c1_1] 54 (0, 0))) := ⟨by (with_reducible repeat (first | refine blk_drewN ?_ _ | refine blk_drew ?_ | refine blk_alloc ?_ _)); refine blk_far ?_ NB2_5.out _; (with_reducible repeat (first | refine blk_drewN ?_ _ | refine blk_drew ?_ | refine blk_alloc ?_ _)); refine blk_far ?_ NB2_5.out _; (with_reducible repeat (first | refine blk_drewN ?_ _ | refine blk_drew ?_ | refine blk_alloc ?_ _)); refine blk_far ?_ NB2_5.out _; (with_reducible repeat (first | refine blk_drewN ?_ _ | refine blk_drew ?_ | refine blk_alloc ?_ _)); exact BK2.out⟩
       have n2_ : Aside0 ((((w29.setCell ⟨gb5, 0, none⟩ (.int .i64 ((rd_T102 l1_1 x32_2).f0))).setCell ⟨gb5, 1, none⟩ (.slice A4_1 ((rd_T102 l1_1 x32_2).f1).length c4_1)).setCell ⟨gb5, 2, none⟩ (.slice A4_2 ((rd_T102 l1_1 x32_2).f2).length c4_2)).heap[gb5]? = some (.cells #[.int .i64 ((rd_T102 l1_1 x32_2).f0), .slice A4_1 ((rd_T102 l1_1 x32_2).f1).length c4_1, .slice A4_2 ((rd_T102 l1_1 x32_2).f2).length c4_2] 102 (0, 0))) := ⟨by (with_reducible repeat (first | refine blk_drewN ?_ _ | refine blk_drew ?_ | refine blk_alloc ?_ _)); refine blk_put (cs := #[.int .i64 ((rd_T102 l1_1 x32_2).f0), .slice A4_1 ((rd_T102 l1_1 x32_2).f1).length c4_1, .slice none 0 0]) ?_ 2 _ rfl; (with_reducible repeat (first | refine blk_drewN ?_ _ | refine blk_drew ?_ | refine blk_alloc ?_ _)); refine blk_put (cs := #[.int .i64 ((rd_T102 l1_1 x32_2).f0), .slice none 0 0, .slice none 0 0]) ?_ 1 _ rfl; (with_reducible repeat (first | refine blk_drewN ?_ _ | refine blk_drew ?_ | refine blk_alloc ?_ _)); refine blk_put (cs := #[.int .i64 0, .slice none 0 0, .slice none 0 0]) ?_ 0 _ rfl; (with_reducible repeat (first | refine blk_drewN ?_ _ | refine blk_drew ?_ | refine blk_alloc ?_ _)); exact BK5.out⟩
       have n3_ : Aside0 (Below w.heap.size w (((w29.setCell ⟨gb5, 0, none⟩ (.int .i64 ((rd_T102 l1_1 x32_2).f0))).setCell ⟨gb5, 1, none⟩ (.slice A4_1 ((rd_T102 l1_1 x32_2).f1).length c4_1)).setCell ⟨gb5, 2, none⟩ (.slice A4_2 ((rd_T102 l1_1 x32_2).f2).length c4_2))) := ⟨bw_⟩
       (try clear BK1)
       (try clear BK2)
       (try clear BK5)
       (try clear HB)
       generalize (((w29.setCell ⟨gb5, 0, none⟩ (.int .i64 ((rd_T102 l1_1 x32_2).f0))).setCell ⟨gb5, 1, none⟩ (.slice A4_1 ((rd_T102 l1_1 x32_2).f1).length c4_1)).setCell ⟨gb5, 2, none⟩ (.slice A4_2 ((rd_T102 l1_1 x32_2).f2).length c4_2)) = w49 at n0_ n1_ n2_ n3_ ⊢
       have BK1 := n0_
       have BK2 := n1_
       have BK5 := n2_
       have HB := n3_
       clear n0_ n1_ n2_ n3_
       have n0_ := Aside0.mk (blk_drew BK1.out)
       have n1_ := Aside0.mk (blk_drew BK2.out)
       have n2_ := Aside0.mk (blk_drew BK5.out)
       have n3_ := Aside0.mk (below_drew1 HB.out)
       clear BK1
       clear BK2
       clear BK5
       clear HB
       have BK1 := n0_
       have BK2 := n1_
       have BK5 := n2_
       have HB := n3_
       clear n0_ n1_ n2_ n3_
       have p6 : 0 ≤ (x32_2 : Int) := od_
       have q6 : x32_2 < (l0_1.length : Int) := od_
       obtain ⟨ad6, A6_0, c6_0, e6, hx6_0, hl6_0, hi6_0⟩ := at_L4 HR0_1.out x32_2 p6 q6
       have hw6_0 := hx6_0
       cases e6
       replace hx6_0 := (HB.out.cell (World.block_lt_of_cell? w _ hx6_0)).trans hx6_0
       have HR6_0 := Aside0.mk hi6_0
       have HC6_0 := Aside0.mk hl6_0
       clear hi6_0 hl6_0
       replace p6 := eq_true p6
       replace q6 := eq_true q6
       refine start_ (n := 28) (S := fun w' => w'.cell? ⟨gb5, 0, none⟩ = some (.int .i64 ((rd_T102 l1_1 x32_2).f0)) ∧ w'.cell? ⟨gb5, 1, none⟩ = some (.slice A4_1 ((rd_T102 l1_1 x32_2).f1).length c4_1) ∧ w'.cell? ⟨gb5, 2, none⟩ = some (.slice A4_2 ((rd_T102 l1_1 x32_2).f2).length c4_2) ∧ w'.cell? ⟨gb1, 0, none⟩ = some (.int .i64 a0_0) ∧ w'.cell? ⟨gb1, 1, none⟩ = some (.slice (some ad6) l0_1.length c0_1) ∧ w'.cell? (ad6.add (x32_2).toNat) = some (.slice A6_0 (rd_L4 l0_1 x32_2).length c6_0)) (ds := []) #[false, false, false, false, false, false, false, false, false, false, false, false, false, false, false, false, false, false, false, false, false, false, false, false, false, false, false, false] (by kernel_rfl) rfl rfl ⟨(blk_cell BK5.out 0).trans rfl, (blk_cell BK5.out 1).trans rfl, (blk_cell BK5.out 2).trans rfl, (blk_cell BK1.out 0).trans rfl, (blk_cell BK1.out 1).trans rfl, ((HB.out.cell (World.block_lt_of_cell? w _ hw6_0)).trans hw6_0)⟩ (fun hHeld => ?_); refine with_tabW impl_isMachine.tab6 impl_isMachine.bits6 (fun HT_ HW_ => ?_)
       generalize w49.drew = w50 at BK1 BK2 BK5 HB HR6_0 hx6_0 hHeld ⊢
       refine pure_ (i := 0) (N := some 37) (bm_ 28 1) rfl rfl (any_of HT_.out kr_) (fun _ _ _ h => h) (Or.inl ⟨rfl, yi_⟩) pu_ ?_
       refine pure_ (i := 2) (N := some 39) (bm_ 28 5) rfl rfl (any_of HT_.out kr_) (fun _ _ _ h => h) (Or.inl ⟨rfl, yi_⟩) pu_ ?_
       refine pure_ (i := 4) (N := some 41) (bm_ 28 21) rfl rfl (any_of HT_.out kr_) (fun _ _ _ h => h) (Or.inl ⟨rfl, yi_⟩) pu_ ?_
       refine take_ (i := 1) (N := some 38) (v := ?_) (a' := ?_) (bm_ 28 23) rfl rfl (take_ofW HT_.out HW_.out (by kernel_rfl)) (fun _ _ _ h => h) (Or.inl ⟨by rfl, ?_⟩) hHeld ?_ ?_
       rotate_left
       ·rintro w' ⟨s0, s1, s2, s3, s4, s5⟩
        go_simp
        with_reducible rfl
       rotate_left
       ·exact pu_
       refine take_ (i := 3) (N := some 40) (v := ?_) (a' := ?_) (bm_ 28 31) rfl rfl (take_ofW HT_.out HW_.out (by kernel_rfl)) (fun _ _ _ h => h) (Or.inl ⟨by rfl, ?_⟩) hHeld ?_ ?_
       rotate_left
       ·rintro w' ⟨s0, s1, s2, s3, s4, s5⟩
        go_simp
        with_reducible rfl
       rotate_left
       ·exact pu_
       refine pure_ (i := 5) (N := some 42) (bm_ 28 63) rfl rfl (any_of HT_.out kr_) (fun _ _ _ h => h) (Or.inl ⟨rfl, yi_⟩) pu_ ?_
       refine take_ (i := 6) (N := some 43) (v := ?_) (a' := ?_) (bm_ 28 127) rfl rfl (take_ofW HT_.out HW_.out (by kernel_rfl)) (fun _ _ _ h => h) (Or.inl ⟨by rfl, ?_⟩) hHeld ?_ ?_
       rotate_left
       ·rintro w' ⟨s0, s1, s2, s3, s4, s5⟩
        go_simp
        with_reducible rfl
       rotate_left
       ·exact pu_
       refine pure_ (i := 7) (N := some 44) (bm_ 28 255) rfl rfl (any_of HT_.out kr_) (fun _ _ _ h => h) (Or.inl ⟨rfl, yi_⟩) pu_ ?_
       refine one_ (i := 8) (N := some 45) (bm_ 28 511) rfl rfl (one_of HT_.out (by kernel_rfl)) (by decide) (fun K hK => ?_)
       refine goes_ Try.func103 (by kernel_rfl) rfl #[.int .i64 ((rd_T102 l1_1 x32_2).f0), .int .i64 0, .int .i64 ((rd_L4 l0_1 x32_2).length : Int)] (by rfl) rfl rfl ar_ ?_
       with_reducible refine (impl_within.calls ((rd_T102 l1_1 x32_2).f0) 0 ((rd_L4 l0_1 x32_2).length : Int) false _ A34.out).mono ?_
       rintro e w' ⟨rfl, ⟨nd, rfl⟩⟩
       refine ⟨_, rfl, ?_⟩
       refine hK.out _ _ ⟨(blk_cell BK5.out 0).trans rfl, (blk_cell BK5.out 1).trans rfl, (blk_cell BK5.out 2).trans rfl, (blk_cell BK1.out 0).trans rfl, (blk_cell BK1.out 1).trans rfl, ((HB.out.cell (World.block_lt_of_cell? w _ hw6_0)).trans hw6_0)⟩ (fun hHeld => ?_)
       clear hK K
       refine norm_ (a' := ?_) ?_ ?_
       rotate_left
       ·show Act.put _ (some 45) _ = _
        simp only [Act.put, List.setIfInBounds_toArray, List.set_cons_zero, List.set_cons_succ, i64_w, i32_w]
        rfl
       refine pure_ (i := 9) (N := some 46) (bm_ 28 1023) rfl rfl (any_of HT_.out kr_) (fun _ _ _ h => h) (Or.inl ⟨rfl, yi_⟩) pu_ ?_
       refine pure_ (i := 10) (N := some 47) (bm_ 28 2047) rfl rfl (any_of HT_.out kr_) (fun _ _ _ h => h) (Or.inl ⟨rfl, yi_⟩) pu_ ?_
       refine pure_ (i := 11) (N := some 48) (v := undef) (a' := ?_) #[true, true, true, true, true, true, true, true, true, true, true, true, false, false, false, false, false, false, false, false, false, false, false, false, false, false, false, false] rfl rfl (any_of HT_.out (by kernel_rfl)) (fun _ _ _ h => h) (Or.inr ⟨by rfl, rfl⟩) ?_ ?_
       rotate_left
       ·exact pu_
       refine pure_ (i := 12) (N := some 49) (v := undef) (a' := ?_) #[true, true, true, true, true, true, true, true, true, true, true, true, true, false, false, false, false, false, false, false, false, false, false, false, false, false, false, false] rfl rfl (any_of HT_.out (by kernel_rfl)) (fun _ _ _ h => h) (Or.inr ⟨by rfl, rfl⟩) ?_ ?_
       rotate_left
       ·exact pu_
       refine pure_ (i := 13) (N := some 50) (v := undef) (a' := ?_) #[true, true, true, true, true, true, true, true, true, true, true, true, true, true, false, false, false, false, false, false, false, false, false, false, false, false, false, false] rfl rfl (any_of HT_.out (by kernel_rfl)) (fun _ _ _ h => h) (Or.inr ⟨by rfl, rfl⟩) ?_ ?_
       rotate_left
       ·exact pu_
       refine pure_ (i := 14) (N := some 51) (v := undef) (a' := ?_) #[true, true, true, true, true, true, true, true, true, true, true, true, true, true, true, false, false, false, false, false, false, false, false, false, false, false, false, false] rfl rfl (any_of HT_.out (by kernel_rfl)) (fun _ _ _ h => h) (Or.inr ⟨by rfl, rfl⟩) ?_ ?_
       rotate_left
       ·exact pu_
       refine pure_ (i := 15) (N := some 52) (bm_ 28 65535) rfl rfl (any_of HT_.out kr_) (fun _ _ _ h => h) (Or.inl ⟨rfl, yi_⟩) pu_ ?_
       refine pure_ (i := 16) (N := some 53) (bm_ 28 131071) rfl rfl (any_of HT_.out kr_) (fun _ _ _ h => h) (Or.inl ⟨rfl, yi_⟩) pu_ ?_
       refine pure_ (i := 17) (N := some 54) (v := undef) (a' := ?_) #[true, true, true, true, true, true, true, true, true, true, true, true, true, true, true, true, true, true, false, false, false, false, false, false, false, false, false, false] rfl rfl (any_of HT_.out (by kernel_rfl)) (fun _ _ _ h => h) (Or.inr ⟨by rfl, rfl⟩) ?_ ?_
       rotate_left
       ·exact pu_
       refine pure_ (i := 18) (N := some 55) (v := undef) (a' := ?_) #[true, true, true, true, true, true, true, true, true, true, true, true, true, true, true, true, true, true, true, false, false, false, false, false, false, false, false, false] rfl rfl (any_of HT_.out (by kernel_rfl)) (fun _ _ _ h => h) (Or.inr ⟨by rfl, rfl⟩) ?_ ?_
       rotate_left
       ·exact pu_
       refine pure_ (i := 19) (N := some 56) (v := undef) (a' := ?_) #[true, true, true, true, true, true, true, true, true, true, true, true, true, true, true, true, true, true, true, true, false, false, false, false, false, false, false, false] rfl rfl (any_of HT_.out (by kernel_rfl)) (fun _ _ _ h => h) (Or.inr ⟨by rfl, rfl⟩) ?_ ?_
       rotate_left
       ·exact pu_
       refine pure_ (i := 20) (N := some 57) (v := undef) (a' := ?_) #[true, true, true, true, true, true, true, true, true, true, true, true, true, true, true, true, true, true, true, true, true, false, false, false, false, false, false, false] rfl rfl (any_of HT_.out (by kernel_rfl)) (fun _ _ _ h => h) (Or.inr ⟨by rfl, rfl⟩) ?_ ?_
       rotate_left
       ·exact pu_
       refine pure_ (i := 21) (N := some 58) (bm_ 28 4194303) rfl rfl (any_of HT_.out kr_) (fun _ _ _ h => h) (Or.inl ⟨rfl, yi_⟩) pu_ ?_
       refine pure_ (i := 22) (N := some 59) (bm_ 28 8388607) rfl rfl (any_of HT_.out kr_) (fun _ _ _ h => h) (Or.inl ⟨rfl, yi_⟩) pu_ ?_
       refine pure_ (i := 23) (N := some 60) (v := undef) (a' := ?_) #[true, true, true, true, true, true, true, true, true, true, true, true, true, true, true, true, true, true, true, true, true, true, true, true, false, false, false, false] rfl rfl (any_of HT_.out (by kernel_rfl)) (fun _ _ _ h => h) (Or.inr ⟨by rfl, rfl⟩) ?_ ?_
       rotate_left
       ·exact pu_
       refine pure_ (i := 24) (N := some 61) (v := undef) (a' := ?_) #[true, true, true, true, true, true, true, true, true, true, true, true, true, true, true, true, true, true, true, true, true, true, true, true, true, false, false, false] rfl rfl (any_of HT_.out (by kernel_rfl)) (fun _ _ _ h => h) (Or.inr ⟨by rfl, rfl⟩) ?_ ?_
       rotate_left
       ·exact pu_
       refine pure_ (i := 25) (N := some 62) (v := undef) (a' := ?_) #[true, true, true, true, true, true, true, true, true, true, true, true, true, true, true, true, true, true, true, true, true, true, true, true, true, true, false, false] rfl rfl (any_of HT_.out (by kernel_rfl)) (fun _ _ _ h => h) (Or.inr ⟨by rfl, rfl⟩) ?_ ?_
       rotate_left
       ·exact pu_
       refine pure_ (i := 26) (N := some 63) (v := undef) (a' := ?_) #[true, true, true, true, true, true, true, true, true, true, true, true, true, true, true, true, true, true, true, true, true, true, true, true, true, true, true, false] rfl rfl (any_of HT_.out (by kernel_rfl)) (fun _ _ _ h => h) (Or.inr ⟨by rfl, rfl⟩) ?_ ?_
       rotate_left
       ·exact pu_
       refine pure_ (i := 27) (N := some 64) (bm_ 28 268435455) rfl rfl (any_of HT_.out kr_) (fun _ _ _ h => h) (Or.inl ⟨rfl, yi_⟩) pu_ ?_
       refine done_ (done_of HT_.out (by kernel_rfl)) ?_
       try go_wp2
       go_meet
       case rel => exact ⟨_, (true), sd_, H', ⟨by have := HJ2.out; have := HK2.out; first | omega | exact Nat.le_refl _⟩, ⟨bk_⟩, ⟨bk_⟩, ⟨bk_⟩, ⟨bw_⟩⟩
      subst c35
      have H1 : (if (((rd_T102 l1_1 x32_2).f1).length : Int) = 4 then ((impl_areValues.f ((rd_T102 l1_1 x32_2).f1)).bind fun t8 => (if t8 = true then ((impl_BufOk.f ((rd_T102 l1_1 x32_2).f2)).bind fun t9 => (impl_isMachine.j2 k2 l1_1 (l1_1.length : Int) x32_2 (!t9) a0_0 l0_1 ((rd_T102 l1_1 x32_2).f0) ((rd_T102 l1_1 x32_2).f1) ((rd_T102 l1_1 x32_2).f2))) else (impl_isMachine.j2 k2 l1_1 (l1_1.length : Int) x32_2 true a0_0 l0_1 ((rd_T102 l1_1 x32_2).f0) ((rd_T102 l1_1 x32_2).f1) ((rd_T102 l1_1 x32_2).f2)))) else (impl_isMachine.j2 k2 l1_1 (l1_1.length : Int) x32_2 true a0_0 l0_1 ((rd_T102 l1_1 x32_2).f0) ((rd_T102 l1_1 x32_2).f1) ((rd_T102 l1_1 x32_2).f2))) = some r := by rw [if_pos rfl] at H; exact H
      clear H
      have H := H1
      clear H1
      by_cases c36 : (((rd_T102 l1_1 x32_2).f1).length : Int) = 4
      rotate_left
      ·rw [if_neg c36] at H
       have c36b0 : ((((rd_T102 l1_1 x32_2).f1).length : Int) == 4) = false := beq_eq_false_iff_ne.mpr c36
       have c36b1 : ((((rd_T102 l1_1 x32_2).f1).length : Int) != 4) = true := bne_iff_ne.mpr c36
       have H' := Aside0.mk H
       clear H
       try go_wp2
       have n0_ : Aside0 ((((w29.setCell ⟨gb5, 0, none⟩ (.int .i64 ((rd_T102 l1_1 x32_2).f0))).setCell ⟨gb5, 1, none⟩ (.slice A4_1 ((rd_T102 l1_1 x32_2).f1).length c4_1)).setCell ⟨gb5, 2, none⟩ (.slice A4_2 ((rd_T102 l1_1 x32_2).f2).length c4_2)).heap[gb1]? = some (.cells #[.int .i64 a0_0, .slice A0_1 l0_1.length c0_1] 39 (0, 0))) := ⟨by (with_reducible repeat (first | refine blk_drewN ?_ _ | refine blk_drew ?_ | refine blk_alloc ?_ _)); refine blk_far ?_ NB1_5.out _; (with_reducible repeat (first | refine blk_drewN ?_ _ | refine blk_drew ?_ | refine blk_alloc ?_ _)); refine blk_far ?_ NB1_5.out _; (with_reducible repeat (first | refine blk_drewN ?_ _ | refine blk_drew ?_ | refine blk_alloc ?_ _)); refine blk_far ?_ NB1_5.out _; (with_reducible repeat (first | refine blk_drewN ?_ _ | refine blk_drew ?_ | refine blk_alloc ?_ _)); exact BK1.out⟩
       have n1_ : Aside0 ((((w29.setCell ⟨gb5, 0, none⟩ (.int .i64 ((rd_T102 l1_1 x32_2).f0))).setCell ⟨gb5, 1, none⟩ (.slice A4_1 ((rd_T102 l1_1 x32_2).f1).length c4_1)).setCell ⟨gb5, 2, none⟩ (.slice A4_2 ((rd_T102 l1_1 x32_2).f2).length c4_2)).heap[gb2]? = some (.cells #[.slice A1_0 l1_0.length c1_0, .slice (some ad4) l1_1.length c1_1] 54 (0, 0))) := ⟨by (with_reducible repeat (first | refine blk_drewN ?_ _ | refine blk_drew ?_ | refine blk_alloc ?_ _)); refine blk_far ?_ NB2_5.out _; (with_reducible repeat (first | refine blk_drewN ?_ _ | refine blk_drew ?_ | refine blk_alloc ?_ _)); refine blk_far ?_ NB2_5.out _; (with_reducible repeat (first | refine blk_drewN ?_ _ | refine blk_drew ?_ | refine blk_alloc ?_ _)); refine blk_far ?_ NB2_5.out _; (with_reducible repeat (first | refine blk_drewN ?_ _ | refine blk_drew ?_ | refine blk_alloc ?_ _)); exact BK2.out⟩
       have n2_ : Aside0 ((((w29.setCell ⟨gb5, 0, none⟩ (.int .i64 ((rd_T102 l1_1 x32_2).f0))).setCell ⟨gb5, 1, none⟩ (.slice A4_1 ((rd_T102 l1_1 x32_2).f1).length c4_1)).setCell ⟨gb5, 2, none⟩ (.slice A4_2 ((rd_T102 l1_1 x32_2).f2).length c4_2)).heap[gb5]? = some (.cells #[.int .i64 ((rd_T102 l1_1 x32_2).f0), .slice A4_1 ((rd_T102 l1_1 x32_2).f1).length c4_1, .slice A4_2 ((rd_T102 l1_1 x32_2).f2).length c4_2] 102 (0, 0))) := ⟨by (with_reducible repeat (first | refine blk_drewN ?_ _ | refine blk_drew ?_ | refine blk_alloc ?_ _)); refine blk_put (cs := #[.int .i64 ((rd_T102 l1_1 x32_2).f0), .slice A4_1 ((rd_T102 l1_1 x32_2).f1).length c4_1, .slice none 0 0]) ?_ 2 _ rfl; (with_reducible repeat (first | refine blk_drewN ?_ _ | refine blk_drew ?_ | refine blk_alloc ?_ _)); refine blk_put (cs := #[.int .i64 ((rd_T102 l1_1 x32_2).f0), .slice none 0 0, .slice none 0 0]) ?_ 1 _ rfl; (with_reducible repeat (first | refine blk_drewN ?_ _ | refine blk_drew ?_ | refine blk_alloc ?_ _)); refine blk_put (cs := #[.int .i64 0, .slice none 0 0, .slice none 0 0]) ?_ 0 _ rfl; (with_reducible repeat (first | refine blk_drewN ?_ _ | refine blk_drew ?_ | refine blk_alloc ?_ _)); exact BK5.out⟩
       have n3_ : Aside0 (Below w.heap.size w (((w29.setCell ⟨gb5, 0, none⟩ (.int .i64 ((rd_T102 l1_1 x32_2).f0))).setCell ⟨gb5, 1, none⟩ (.slice A4_1 ((rd_T102 l1_1 x32_2).f1).length c4_1)).setCell ⟨gb5, 2, none⟩ (.slice A4_2 ((rd_T102 l1_1 x32_2).f2).length c4_2))) := ⟨bw_⟩
       (try clear BK1)
       (try clear BK2)
       (try clear BK5)
       (try clear HB)
       generalize (((w29.setCell ⟨gb5, 0, none⟩ (.int .i64 ((rd_T102 l1_1 x32_2).f0))).setCell ⟨gb5, 1, none⟩ (.slice A4_1 ((rd_T102 l1_1 x32_2).f1).length c4_1)).setCell ⟨gb5, 2, none⟩ (.slice A4_2 ((rd_T102 l1_1 x32_2).f2).length c4_2)) = w47 at n0_ n1_ n2_ n3_ ⊢
       have BK1 := n0_
       have BK2 := n1_
       have BK5 := n2_
       have HB := n3_
       clear n0_ n1_ n2_ n3_
       have n0_ := Aside0.mk (blk_drew BK1.out)
       have n1_ := Aside0.mk (blk_drew BK2.out)
       have n2_ := Aside0.mk (blk_drew BK5.out)
       have n3_ := Aside0.mk (below_drew1 HB.out)
       clear BK1
       clear BK2
       clear BK5
       clear HB
       have BK1 := n0_
       have BK2 := n1_
       have BK5 := n2_
       have HB := n3_
       clear n0_ n1_ n2_ n3_
       have p6 : 0 ≤ (x32_2 : Int) := od_
       have q6 : x32_2 < (l0_1.length : Int) := od_
       obtain ⟨ad6, A6_0, c6_0, e6, hx6_0, hl6_0, hi6_0⟩ := at_L4 HR0_1.out x32_2 p6 q6
       have hw6_0 := hx6_0
       cases e6
       replace hx6_0 := (HB.out.cell (World.block_lt_of_cell? w _ hx6_0)).trans hx6_0
       have HR6_0 := Aside0.mk hi6_0
       have HC6_0 := Aside0.mk hl6_0
       clear hi6_0 hl6_0
       replace p6 := eq_true p6
       replace q6 := eq_true q6
       refine start_ (n := 28) (S := fun w' => w'.cell? ⟨gb5, 0, none⟩ = some (.int .i64 ((rd_T102 l1_1 x32_2).f0)) ∧ w'.cell? ⟨gb5, 1, none⟩ = some (.slice A4_1 ((rd_T102 l1_1 x32_2).f1).length c4_1) ∧ w'.cell? ⟨gb5, 2, none⟩ = some (.slice A4_2 ((rd_T102 l1_1 x32_2).f2).length c4_2) ∧ w'.cell? ⟨gb1, 0, none⟩ = some (.int .i64 a0_0) ∧ w'.cell? ⟨gb1, 1, none⟩ = some (.slice (some ad6) l0_1.length c0_1) ∧ w'.cell? (ad6.add (x32_2).toNat) = some (.slice A6_0 (rd_L4 l0_1 x32_2).length c6_0)) (ds := []) #[false, false, false, false, false, false, false, false, false, false, false, false, false, false, false, false, false, false, false, false, false, false, false, false, false, false, false, false] (by kernel_rfl) rfl rfl ⟨(blk_cell BK5.out 0).trans rfl, (blk_cell BK5.out 1).trans rfl, (blk_cell BK5.out 2).trans rfl, (blk_cell BK1.out 0).trans rfl, (blk_cell BK1.out 1).trans rfl, ((HB.out.cell (World.block_lt_of_cell? w _ hw6_0)).trans hw6_0)⟩ (fun hHeld => ?_); refine with_tabW impl_isMachine.tab6 impl_isMachine.bits6 (fun HT_ HW_ => ?_)
       generalize w47.drew = w48 at BK1 BK2 BK5 HB HR6_0 hx6_0 hHeld ⊢
       refine pure_ (i := 0) (N := some 37) (bm_ 28 1) rfl rfl (any_of HT_.out kr_) (fun _ _ _ h => h) (Or.inl ⟨rfl, yi_⟩) pu_ ?_
       refine pure_ (i := 2) (N := some 39) (bm_ 28 5) rfl rfl (any_of HT_.out kr_) (fun _ _ _ h => h) (Or.inl ⟨rfl, yi_⟩) pu_ ?_
       refine pure_ (i := 4) (N := some 41) (bm_ 28 21) rfl rfl (any_of HT_.out kr_) (fun _ _ _ h => h) (Or.inl ⟨rfl, yi_⟩) pu_ ?_
       refine take_ (i := 1) (N := some 38) (v := ?_) (a' := ?_) (bm_ 28 23) rfl rfl (take_ofW HT_.out HW_.out (by kernel_rfl)) (fun _ _ _ h => h) (Or.inl ⟨by rfl, ?_⟩) hHeld ?_ ?_
       rotate_left
       ·rintro w' ⟨s0, s1, s2, s3, s4, s5⟩
        go_simp
        with_reducible rfl
       rotate_left
       ·exact pu_
       refine take_ (i := 3) (N := some 40) (v := ?_) (a' := ?_) (bm_ 28 31) rfl rfl (take_ofW HT_.out HW_.out (by kernel_rfl)) (fun _ _ _ h => h) (Or.inl ⟨by rfl, ?_⟩) hHeld ?_ ?_
       rotate_left
       ·rintro w' ⟨s0, s1, s2, s3, s4, s5⟩
        go_simp
        with_reducible rfl
       rotate_left
       ·exact pu_
       refine pure_ (i := 5) (N := some 42) (bm_ 28 63) rfl rfl (any_of HT_.out kr_) (fun _ _ _ h => h) (Or.inl ⟨rfl, yi_⟩) pu_ ?_
       refine take_ (i := 6) (N := some 43) (v := ?_) (a' := ?_) (bm_ 28 127) rfl rfl (take_ofW HT_.out HW_.out (by kernel_rfl)) (fun _ _ _ h => h) (Or.inl ⟨by rfl, ?_⟩) hHeld ?_ ?_
       rotate_left
       ·rintro w' ⟨s0, s1, s2, s3, s4, s5⟩
        go_simp
        with_reducible rfl
       rotate_left
       ·exact pu_
       refine pure_ (i := 7) (N := some 44) (bm_ 28 255) rfl rfl (any_of HT_.out kr_) (fun _ _ _ h => h) (Or.inl ⟨rfl, yi_⟩) pu_ ?_
       refine one_ (i := 8) (N := some 45) (bm_ 28 511) rfl rfl (one_of HT_.out (by kernel_rfl)) (by decide) (fun K hK => ?_)
       refine goes_ Try.func103 (by kernel_rfl) rfl #[.int .i64 ((rd_T102 l1_1 x32_2).f0), .int .i64 0, .int .i64 ((rd_L4 l0_1 x32_2).length : Int)] (by rfl) rfl rfl ar_ ?_
       with_reducible refine (impl_within.calls ((rd_T102 l1_1 x32_2).f0) 0 ((rd_L4 l0_1 x32_2).length : Int) true _ A34.out).mono ?_
       rintro e w' ⟨rfl, ⟨nd, rfl⟩⟩
       refine ⟨_, rfl, ?_⟩
       refine hK.out _ _ ⟨(blk_cell BK5.out 0).trans rfl, (blk_cell BK5.out 1).trans rfl, (blk_cell BK5.out 2).trans rfl, (blk_cell BK1.out 0).trans rfl, (blk_cell BK1.out 1).trans rfl, ((HB.out.cell (World.block_lt_of_cell? w _ hw6_0)).trans hw6_0)⟩ (fun hHeld => ?_)
       clear hK K
       refine norm_ (a' := ?_) ?_ ?_
       rotate_left
       ·show Act.put _ (some 45) _ = _
        simp only [Act.put, List.setIfInBounds_toArray, List.set_cons_zero, List.set_cons_succ, i64_w, i32_w]
        rfl
       refine pure_ (i := 9) (N := some 46) (bm_ 28 1023) rfl rfl (any_of HT_.out kr_) (fun _ _ _ h => h) (Or.inl ⟨rfl, yi_⟩) pu_ ?_
       refine pure_ (i := 10) (N := some 47) (bm_ 28 2047) rfl rfl (any_of HT_.out kr_) (fun _ _ _ h => h) (Or.inl ⟨rfl, yi_⟩) pu_ ?_
       refine pure_ (i := 11) (N := some 48) (bm_ 28 4095) rfl rfl (any_of HT_.out kr_) (fun _ _ _ h => h) (Or.inl ⟨rfl, yi_⟩) pu_ ?_
       refine take_ (i := 12) (N := some 49) (v := ?_) (a' := ?_) (bm_ 28 8191) rfl rfl (take_ofW HT_.out HW_.out (by kernel_rfl)) (fun _ _ _ h => h) (Or.inl ⟨by rfl, ?_⟩) hHeld ?_ ?_
       rotate_left
       ·rintro w' ⟨s0, s1, s2, s3, s4, s5⟩
        go_simp
        with_reducible rfl
       rotate_left
       ·exact pu_
       refine pure_ (i := 13) (N := some 50) (bm_ 28 16383) rfl rfl (any_of HT_.out kr_) (fun _ _ _ h => h) (Or.inl ⟨rfl, yi_⟩) pu_ ?_
       refine pure_ (i := 14) (N := some 51) (bm_ 28 32767) rfl rfl (any_of HT_.out kr_) (fun _ _ _ h => h) (Or.inl ⟨rfl, yi_⟩) pu_ ?_
       refine pure_ (i := 15) (N := some 52) (bm_ 28 65535) rfl rfl (any_of HT_.out kr_) (fun _ _ _ h => h) (Or.inl ⟨rfl, yi_⟩) pu_ ?_
       refine pure_ (i := 16) (N := some 53) (bm_ 28 131071) rfl rfl (any_of HT_.out kr_) (fun _ _ _ h => h) (Or.inl ⟨rfl, yi_⟩) pu_ ?_
       refine pure_ (i := 17) (N := some 54) (v := undef) (a' := ?_) #[true, true, true, true, true, true, true, true, true, true, true, true, true, true, true, true, true, true, false, false, false, false, false, false, false, false, false, false] rfl rfl (any_of HT_.out (by kernel_rfl)) (fun _ _ _ h => h) (Or.inr ⟨by rfl, rfl⟩) ?_ ?_
       rotate_left
       ·exact pu_
       refine pure_ (i := 18) (N := some 55) (v := undef) (a' := ?_) #[true, true, true, true, true, true, true, true, true, true, true, true, true, true, true, true, true, true, true, false, false, false, false, false, false, false, false, false] rfl rfl (any_of HT_.out (by kernel_rfl)) (fun _ _ _ h => h) (Or.inr ⟨by rfl, rfl⟩) ?_ ?_
       rotate_left
       ·exact pu_
       refine pure_ (i := 19) (N := some 56) (v := undef) (a' := ?_) #[true, true, true, true, true, true, true, true, true, true, true, true, true, true, true, true, true, true, true, true, false, false, false, false, false, false, false, false] rfl rfl (any_of HT_.out (by kernel_rfl)) (fun _ _ _ h => h) (Or.inr ⟨by rfl, rfl⟩) ?_ ?_
       rotate_left
       ·exact pu_
       refine pure_ (i := 20) (N := some 57) (v := undef) (a' := ?_) #[true, true, true, true, true, true, true, true, true, true, true, true, true, true, true, true, true, true, true, true, true, false, false, false, false, false, false, false] rfl rfl (any_of HT_.out (by kernel_rfl)) (fun _ _ _ h => h) (Or.inr ⟨by rfl, rfl⟩) ?_ ?_
       rotate_left
       ·exact pu_
       refine pure_ (i := 21) (N := some 58) (bm_ 28 4194303) rfl rfl (any_of HT_.out kr_) (fun _ _ _ h => h) (Or.inl ⟨rfl, yi_⟩) pu_ ?_
       refine pure_ (i := 22) (N := some 59) (bm_ 28 8388607) rfl rfl (any_of HT_.out kr_) (fun _ _ _ h => h) (Or.inl ⟨rfl, yi_⟩) pu_ ?_
       refine pure_ (i := 23) (N := some 60) (v := undef) (a' := ?_) #[true, true, true, true, true, true, true, true, true, true, true, true, true, true, true, true, true, true, true, true, true, true, true, true, false, false, false, false] rfl rfl (any_of HT_.out (by kernel_rfl)) (fun _ _ _ h => h) (Or.inr ⟨by rfl, rfl⟩) ?_ ?_
       rotate_left
       ·exact pu_
       refine pure_ (i := 24) (N := some 61) (v := undef) (a' := ?_) #[true, true, true, true, true, true, true, true, true, true, true, true, true, true, true, true, true, true, true, true, true, true, true, true, true, false, false, false] rfl rfl (any_of HT_.out (by kernel_rfl)) (fun _ _ _ h => h) (Or.inr ⟨by rfl, rfl⟩) ?_ ?_
       rotate_left
       ·exact pu_
       refine pure_ (i := 25) (N := some 62) (v := undef) (a' := ?_) #[true, true, true, true, true, true, true, true, true, true, true, true, true, true, true, true, true, true, true, true, true, true, true, true, true, true, false, false] rfl rfl (any_of HT_.out (by kernel_rfl)) (fun _ _ _ h => h) (Or.inr ⟨by rfl, rfl⟩) ?_ ?_
       rotate_left
       ·exact pu_
       refine pure_ (i := 26) (N := some 63) (v := undef) (a' := ?_) #[true, true, true, true, true, true, true, true, true, true, true, true, true, true, true, true, true, true, true, true, true, true, true, true, true, true, true, false] rfl rfl (any_of HT_.out (by kernel_rfl)) (fun _ _ _ h => h) (Or.inr ⟨by rfl, rfl⟩) ?_ ?_
       rotate_left
       ·exact pu_
       refine pure_ (i := 27) (N := some 64) (bm_ 28 268435455) rfl rfl (any_of HT_.out kr_) (fun _ _ _ h => h) (Or.inl ⟨rfl, yi_⟩) pu_ ?_
       refine done_ (done_of HT_.out (by kernel_rfl)) ?_
       try go_wp2
       go_meet
       case rel => exact ⟨_, (true), sd_, H', ⟨by have := HJ2.out; have := HK2.out; first | omega | exact Nat.le_refl _⟩, ⟨bk_⟩, ⟨bk_⟩, ⟨bk_⟩, ⟨bw_⟩⟩
      rw [if_pos c36] at H
      have c36b0 : ((((rd_T102 l1_1 x32_2).f1).length : Int) == 4) = true := beq_iff_eq.mpr c36
      have c36b1 : ((((rd_T102 l1_1 x32_2).f1).length : Int) != 4) = false := bne_eq_false_iff_eq.mpr c36
      clear c36
      replace H := Option.bind_eq_some_iff.mp H
      obtain ⟨t8, A370, H⟩ := H
      replace H : (if t8 = true then ((impl_BufOk.f ((rd_T102 l1_1 x32_2).f2)).bind fun t9 => (impl_isMachine.j2 k2 l1_1 (l1_1.length : Int) x32_2 (!t9) a0_0 l0_1 ((rd_T102 l1_1 x32_2).f0) ((rd_T102 l1_1 x32_2).f1) ((rd_T102 l1_1 x32_2).f2))) else (impl_isMachine.j2 k2 l1_1 (l1_1.length : Int) x32_2 true a0_0 l0_1 ((rd_T102 l1_1 x32_2).f0) ((rd_T102 l1_1 x32_2).f1) ((rd_T102 l1_1 x32_2).f2))) = some r := H
      have A37 := Aside0.mk A370
      clear A370
      by_cases c38 : t8 = true
      rotate_left
      ·replace c38 := Bool.eq_false_iff.mpr c38
       subst c38
       have H1 : (impl_isMachine.j2 k2 l1_1 (l1_1.length : Int) x32_2 true a0_0 l0_1 ((rd_T102 l1_1 x32_2).f0) ((rd_T102 l1_1 x32_2).f1) ((rd_T102 l1_1 x32_2).f2)) = some r := by rw [if_neg (show ¬ (false = true) by decide)] at H; exact H
       clear H
       have H := H1
       clear H1
       have H' := Aside0.mk H
       clear H
       try go_wp2
       have n0_ : Aside0 ((((w29.setCell ⟨gb5, 0, none⟩ (.int .i64 ((rd_T102 l1_1 x32_2).f0))).setCell ⟨gb5, 1, none⟩ (.slice A4_1 ((rd_T102 l1_1 x32_2).f1).length c4_1)).setCell ⟨gb5, 2, none⟩ (.slice A4_2 ((rd_T102 l1_1 x32_2).f2).length c4_2)).heap[gb1]? = some (.cells #[.int .i64 a0_0, .slice A0_1 l0_1.length c0_1] 39 (0, 0))) := ⟨by (with_reducible repeat (first | refine blk_drewN ?_ _ | refine blk_drew ?_ | refine blk_alloc ?_ _)); refine blk_far ?_ NB1_5.out _; (with_reducible repeat (first | refine blk_drewN ?_ _ | refine blk_drew ?_ | refine blk_alloc ?_ _)); refine blk_far ?_ NB1_5.out _; (with_reducible repeat (first | refine blk_drewN ?_ _ | refine blk_drew ?_ | refine blk_alloc ?_ _)); refine blk_far ?_ NB1_5.out _; (with_reducible repeat (first | refine blk_drewN ?_ _ | refine blk_drew ?_ | refine blk_alloc ?_ _)); exact BK1.out⟩
       have n1_ : Aside0 ((((w29.setCell ⟨gb5, 0, none⟩ (.int .i64 ((rd_T102 l1_1 x32_2).f0))).setCell ⟨gb5, 1, none⟩ (.slice A4_1 ((rd_T102 l1_1 x32_2).f1).length c4_1)).setCell ⟨gb5, 2, none⟩ (.slice A4_2 ((rd_T102 l1_1 x32_2).f2).length c4_2)).heap[gb2]? = some (.cells #[.slice A1_0 l1_0.length c1_0, .slice (some ad4) l1_1.length c1_1] 54 (0, 0))) := ⟨by (with_reducible repeat (first | refine blk_drewN ?_ _ | refine blk_drew ?_ | refine blk_alloc ?_ _)); refine blk_far ?_ NB2_5.out _; (with_reducible repeat (first | refine blk_drewN ?_ _ | refine blk_drew ?_ | refine blk_alloc ?_ _)); refine blk_far ?_ NB2_5.out _; (with_reducible repeat (first | refine blk_drewN ?_ _ | refine blk_drew ?_ | refine blk_alloc ?_ _)); refine blk_far ?_ NB2_5.out _; (with_reducible repeat (first | refine blk_drewN ?_ _ | refine blk_drew ?_ | refine blk_alloc ?_ _)); exact BK2.out⟩
       have n2_ : Aside0 ((((w29.setCell ⟨gb5, 0, none⟩ (.int .i64 ((rd_T102 l1_1 x32_2).f0))).setCell ⟨gb5, 1, none⟩ (.slice A4_1 ((rd_T102 l1_1 x32_2).f1).length c4_1)).setCell ⟨gb5, 2, none⟩ (.slice A4_2 ((rd_T102 l1_1 x32_2).f2).length c4_2)).heap[gb5]? = some (.cells #[.int .i64 ((rd_T102 l1_1 x32_2).f0), .slice A4_1 ((rd_T102 l1_1 x32_2).f1).length c4_1, .slice A4_2 ((rd_T102 l1_1 x32_2).f2).length c4_2] 102 (0, 0))) := ⟨by (with_reducible repeat (first | refine blk_drewN ?_ _ | refine blk_drew ?_ | refine blk_alloc ?_ _)); refine blk_put (cs := #[.int .i64 ((rd_T102 l1_1 x32_2).f0), .slice A4_1 ((rd_T102 l1_1 x32_2).f1).length c4_1, .slice none 0 0]) ?_ 2 _ rfl; (with_reducible repeat (first | refine blk_drewN ?_ _ | refine blk_drew ?_ | refine blk_alloc ?_ _)); refine blk_put (cs := #[.int .i64 ((rd_T102 l1_1 x32_2).f0), .slice none 0 0, .slice none 0 0]) ?_ 1 _ rfl; (with_reducible repeat (first | refine blk_drewN ?_ _ | refine blk_drew ?_ | refine blk_alloc ?_ _)); refine blk_put (cs := #[.int .i64 0, .slice none 0 0, .slice none 0 0]) ?_ 0 _ rfl; (with_reducible repeat (first | refine blk_drewN ?_ _ | refine blk_drew ?_ | refine blk_alloc ?_ _)); exact BK5.out⟩
       have n3_ : Aside0 (Below w.heap.size w (((w29.setCell ⟨gb5, 0, none⟩ (.int .i64 ((rd_T102 l1_1 x32_2).f0))).setCell ⟨gb5, 1, none⟩ (.slice A4_1 ((rd_T102 l1_1 x32_2).f1).length c4_1)).setCell ⟨gb5, 2, none⟩ (.slice A4_2 ((rd_T102 l1_1 x32_2).f2).length c4_2))) := ⟨bw_⟩
       (try clear BK1)
       (try clear BK2)
       (try clear BK5)
       (try clear HB)
       generalize (((w29.setCell ⟨gb5, 0, none⟩ (.int .i64 ((rd_T102 l1_1 x32_2).f0))).setCell ⟨gb5, 1, none⟩ (.slice A4_1 ((rd_T102 l1_1 x32_2).f1).length c4_1)).setCell ⟨gb5, 2, none⟩ (.slice A4_2 ((rd_T102 l1_1 x32_2).f2).length c4_2)) = w44 at n0_ n1_ n2_ n3_ ⊢
       have BK1 := n0_
       have BK2 := n1_
       have BK5 := n2_
       have HB := n3_
       clear n0_ n1_ n2_ n3_
       have n0_ := Aside0.mk (blk_drew BK1.out)
       have n1_ := Aside0.mk (blk_drew BK2.out)
       have n2_ := Aside0.mk (blk_drew BK5.out)
       have n3_ := Aside0.mk (below_drew1 HB.out)
       clear BK1
       clear BK2
       clear BK5
       clear HB
       have BK1 := n0_
       have BK2 := n1_
       have BK5 := n2_
       have HB := n3_
       clear n0_ n1_ n2_ n3_
       have p6 : 0 ≤ (x32_2 : Int) := od_
       have q6 : x32_2 < (l0_1.length : Int) := od_
       obtain ⟨ad6, A6_0, c6_0, e6, hx6_0, hl6_0, hi6_0⟩ := at_L4 HR0_1.out x32_2 p6 q6
       have hw6_0 := hx6_0
       cases e6
       replace hx6_0 := (HB.out.cell (World.block_lt_of_cell? w _ hx6_0)).trans hx6_0
       have HR6_0 := Aside0.mk hi6_0
       have HC6_0 := Aside0.mk hl6_0
       clear hi6_0 hl6_0
       replace p6 := eq_true p6
       replace q6 := eq_true q6
       refine start_ (n := 28) (S := fun w' => w'.cell? ⟨gb5, 0, none⟩ = some (.int .i64 ((rd_T102 l1_1 x32_2).f0)) ∧ w'.cell? ⟨gb5, 1, none⟩ = some (.slice A4_1 ((rd_T102 l1_1 x32_2).f1).length c4_1) ∧ w'.cell? ⟨gb5, 2, none⟩ = some (.slice A4_2 ((rd_T102 l1_1 x32_2).f2).length c4_2) ∧ w'.cell? ⟨gb1, 0, none⟩ = some (.int .i64 a0_0) ∧ w'.cell? ⟨gb1, 1, none⟩ = some (.slice (some ad6) l0_1.length c0_1) ∧ w'.cell? (ad6.add (x32_2).toNat) = some (.slice A6_0 (rd_L4 l0_1 x32_2).length c6_0)) (ds := []) #[false, false, false, false, false, false, false, false, false, false, false, false, false, false, false, false, false, false, false, false, false, false, false, false, false, false, false, false] (by kernel_rfl) rfl rfl ⟨(blk_cell BK5.out 0).trans rfl, (blk_cell BK5.out 1).trans rfl, (blk_cell BK5.out 2).trans rfl, (blk_cell BK1.out 0).trans rfl, (blk_cell BK1.out 1).trans rfl, ((HB.out.cell (World.block_lt_of_cell? w _ hw6_0)).trans hw6_0)⟩ (fun hHeld => ?_); refine with_tabW impl_isMachine.tab6 impl_isMachine.bits6 (fun HT_ HW_ => ?_)
       generalize w44.drew = w45 at BK1 BK2 BK5 HB HR6_0 hx6_0 hHeld ⊢
       refine pure_ (i := 0) (N := some 37) (bm_ 28 1) rfl rfl (any_of HT_.out kr_) (fun _ _ _ h => h) (Or.inl ⟨rfl, yi_⟩) pu_ ?_
       refine pure_ (i := 2) (N := some 39) (bm_ 28 5) rfl rfl (any_of HT_.out kr_) (fun _ _ _ h => h) (Or.inl ⟨rfl, yi_⟩) pu_ ?_
       refine pure_ (i := 4) (N := some 41) (bm_ 28 21) rfl rfl (any_of HT_.out kr_) (fun _ _ _ h => h) (Or.inl ⟨rfl, yi_⟩) pu_ ?_
       refine take_ (i := 1) (N := some 38) (v := ?_) (a' := ?_) (bm_ 28 23) rfl rfl (take_ofW HT_.out HW_.out (by kernel_rfl)) (fun _ _ _ h => h) (Or.inl ⟨by rfl, ?_⟩) hHeld ?_ ?_
       rotate_left
       ·rintro w' ⟨s0, s1, s2, s3, s4, s5⟩
        go_simp
        with_reducible rfl
       rotate_left
       ·exact pu_
       refine take_ (i := 3) (N := some 40) (v := ?_) (a' := ?_) (bm_ 28 31) rfl rfl (take_ofW HT_.out HW_.out (by kernel_rfl)) (fun _ _ _ h => h) (Or.inl ⟨by rfl, ?_⟩) hHeld ?_ ?_
       rotate_left
       ·rintro w' ⟨s0, s1, s2, s3, s4, s5⟩
        go_simp
        with_reducible rfl
       rotate_left
       ·exact pu_
       refine pure_ (i := 5) (N := some 42) (bm_ 28 63) rfl rfl (any_of HT_.out kr_) (fun _ _ _ h => h) (Or.inl ⟨rfl, yi_⟩) pu_ ?_
       refine take_ (i := 6) (N := some 43) (v := ?_) (a' := ?_) (bm_ 28 127) rfl rfl (take_ofW HT_.out HW_.out (by kernel_rfl)) (fun _ _ _ h => h) (Or.inl ⟨by rfl, ?_⟩) hHeld ?_ ?_
       rotate_left
       ·rintro w' ⟨s0, s1, s2, s3, s4, s5⟩
        go_simp
        with_reducible rfl
       rotate_left
       ·exact pu_
       refine pure_ (i := 7) (N := some 44) (bm_ 28 255) rfl rfl (any_of HT_.out kr_) (fun _ _ _ h => h) (Or.inl ⟨rfl, yi_⟩) pu_ ?_
       refine one_ (i := 8) (N := some 45) (bm_ 28 511) rfl rfl (one_of HT_.out (by kernel_rfl)) (by decide) (fun K hK => ?_)
       refine goes_ Try.func103 (by kernel_rfl) rfl #[.int .i64 ((rd_T102 l1_1 x32_2).f0), .int .i64 0, .int .i64 ((rd_L4 l0_1 x32_2).length : Int)] (by rfl) rfl rfl ar_ ?_
       with_reducible refine (impl_within.calls ((rd_T102 l1_1 x32_2).f0) 0 ((rd_L4 l0_1 x32_2).length : Int) true _ A34.out).mono ?_
       rintro e w' ⟨rfl, ⟨nd, rfl⟩⟩
       refine ⟨_, rfl, ?_⟩
       refine hK.out _ _ ⟨(blk_cell BK5.out 0).trans rfl, (blk_cell BK5.out 1).trans rfl, (blk_cell BK5.out 2).trans rfl, (blk_cell BK1.out 0).trans rfl, (blk_cell BK1.out 1).trans rfl, ((HB.out.cell (World.block_lt_of_cell? w _ hw6_0)).trans hw6_0)⟩ (fun hHeld => ?_)
       clear hK K
       refine norm_ (a' := ?_) ?_ ?_
       rotate_left
       ·show Act.put _ (some 45) _ = _
        simp only [Act.put, List.setIfInBounds_toArray, List.set_cons_zero, List.set_cons_succ, i64_w, i32_w]
        rfl
       refine pure_ (i := 9) (N := some 46) (bm_ 28 1023) rfl rfl (any_of HT_.out kr_) (fun _ _ _ h => h) (Or.inl ⟨rfl, yi_⟩) pu_ ?_
       refine pure_ (i := 10) (N := some 47) (bm_ 28 2047) rfl rfl (any_of HT_.out kr_) (fun _ _ _ h => h) (Or.inl ⟨rfl, yi_⟩) pu_ ?_
       refine pure_ (i := 11) (N := some 48) (bm_ 28 4095) rfl rfl (any_of HT_.out kr_) (fun _ _ _ h => h) (Or.inl ⟨rfl, yi_⟩) pu_ ?_
       refine take_ (i := 12) (N := some 49) (v := ?_) (a' := ?_) (bm_ 28 8191) rfl rfl (take_ofW HT_.out HW_.out (by kernel_rfl)) (fun _ _ _ h => h) (Or.inl ⟨by rfl, ?_⟩) hHeld ?_ ?_
       rotate_left
       ·rintro w' ⟨s0, s1, s2, s3, s4, s5⟩
        go_simp
        with_reducible rfl
       rotate_left
       ·exact pu_
       refine pure_ (i := 13) (N := some 50) (bm_ 28 16383) rfl rfl (any_of HT_.out kr_) (fun _ _ _ h => h) (Or.inl ⟨rfl, yi_⟩) pu_ ?_
       refine pure_ (i := 14) (N := some 51) (bm_ 28 32767) rfl rfl (any_of HT_.out kr_) (fun _ _ _ h => h) (Or.inl ⟨rfl, yi_⟩) pu_ ?_
       refine pure_ (i := 15) (N := some 52) (bm_ 28 65535) rfl rfl (any_of HT_.out kr_) (fun _ _ _ h => h) (Or.inl ⟨rfl, yi_⟩) pu_ ?_
       refine pure_ (i := 16) (N := some 53) (bm_ 28 131071) rfl rfl (any_of HT_.out kr_) (fun _ _ _ h => h) (Or.inl ⟨rfl, yi_⟩) pu_ ?_
       refine pure_ (i := 17) (N := some 54) (bm_ 28 262143) rfl rfl (any_of HT_.out kr_) (fun _ _ _ h => h) (Or.inl ⟨rfl, yi_⟩) pu_ ?_
       refine take_ (i := 18) (N := some 55) (v := ?_) (a' := ?_) (bm_ 28 524287) rfl rfl (take_ofW HT_.out HW_.out (by kernel_rfl)) (fun _ _ _ h => h) (Or.inl ⟨by rfl, ?_⟩) hHeld ?_ ?_
       rotate_left
       ·rintro w' ⟨s0, s1, s2, s3, s4, s5⟩
        go_simp
        with_reducible rfl
       rotate_left
       ·exact pu_
       refine one_ (i := 19) (N := some 56) (bm_ 28 1048575) rfl rfl (one_of HT_.out (by kernel_rfl)) (by decide) (fun K hK => ?_)
       refine goes_ Try.func155 (by kernel_rfl) rfl #[.slice A4_1 ((rd_T102 l1_1 x32_2).f1).length c4_1] (by rfl) rfl rfl ar_ ?_
       with_reducible refine (impl_areValues.calls _ _ ((rd_T102 l1_1 x32_2).f1) false _ ?side1 ?side2 A37.out).mono ?_
       (case side1 => repeat (first | exact (Kd.C_below HR4_1.out bw_) | (with_reducible refine Kd.C_alloc ?_ _) | (with_reducible refine Kd.C_drewN ?_ _) | (with_reducible refine Kd.C_drew ?_)))
       (case side2 => exact HC4_1.out)
       rintro e w46 ⟨rfl, hb⟩
       refine ⟨_, rfl, ?_⟩
       have n0_ := bb_ BK1.out hb
       have n1_ := bb_ BK2.out hb
       have n2_ := bb_ BK5.out hb
       have n3_ := bs_ hb
       clear BK1
       clear BK2
       clear BK5
       clear HB
       have BK1 := n0_
       have BK2 := n1_
       have BK5 := n2_
       have HB := n3_
       clear n0_ n1_ n2_ n3_
       (try clear hb)
       (try clear hb2)
       (try clear hk)
       (try clear hi)
       refine hK.out _ _ ⟨(blk_cell BK5.out 0).trans rfl, (blk_cell BK5.out 1).trans rfl, (blk_cell BK5.out 2).trans rfl, (blk_cell BK1.out 0).trans rfl, (blk_cell BK1.out 1).trans rfl, ((HB.out.cell (World.block_lt_of_cell? w _ hw6_0)).trans hw6_0)⟩ (fun hHeld => ?_)
       clear hK K
       refine norm_ (a' := ?_) ?_ ?_
       rotate_left
       ·show Act.put _ (some 56) _ = _
        simp only [Act.put, List.setIfInBounds_toArray, List.set_cons_zero, List.set_cons_succ, i64_w, i32_w]
        rfl
       refine pure_ (i := 20) (N := some 57) (bm_ 28 2097151) rfl rfl (any_of HT_.out kr_) (fun _ _ _ h => h) (Or.inl ⟨rfl, yi_⟩) pu_ ?_
       refine pure_ (i := 21) (N := some 58) (bm_ 28 4194303) rfl rfl (any_of HT_.out kr_) (fun _ _ _ h => h) (Or.inl ⟨rfl, yi_⟩) pu_ ?_
       refine pure_ (i := 22) (N := some 59) (bm_ 28 8388607) rfl rfl (any_of HT_.out kr_) (fun _ _ _ h => h) (Or.inl ⟨rfl, yi_⟩) pu_ ?_
       refine pure_ (i := 23) (N := some 60) (v := undef) (a' := ?_) #[true, true, true, true, true, true, true, true, true, true, true, true, true, true, true, true, true, true, true, true, true, true, true, true, false, false, false, false] rfl rfl (any_of HT_.out (by kernel_rfl)) (fun _ _ _ h => h) (Or.inr ⟨by rfl, rfl⟩) ?_ ?_
       rotate_left
       ·exact pu_
       refine pure_ (i := 24) (N := some 61) (v := undef) (a' := ?_) #[true, true, true, true, true, true, true, true, true, true, true, true, true, true, true, true, true, true, true, true, true, true, true, true, true, false, false, false] rfl rfl (any_of HT_.out (by kernel_rfl)) (fun _ _ _ h => h) (Or.inr ⟨by rfl, rfl⟩) ?_ ?_
       rotate_left
       ·exact pu_
       refine pure_ (i := 25) (N := some 62) (v := undef) (a' := ?_) #[true, true, true, true, true, true, true, true, true, true, true, true, true, true, true, true, true, true, true, true, true, true, true, true, true, true, false, false] rfl rfl (any_of HT_.out (by kernel_rfl)) (fun _ _ _ h => h) (Or.inr ⟨by rfl, rfl⟩) ?_ ?_
       rotate_left
       ·exact pu_
       refine pure_ (i := 26) (N := some 63) (v := undef) (a' := ?_) #[true, true, true, true, true, true, true, true, true, true, true, true, true, true, true, true, true, true, true, true, true, true, true, true, true, true, true, false] rfl rfl (any_of HT_.out (by kernel_rfl)) (fun _ _ _ h => h) (Or.inr ⟨by rfl, rfl⟩) ?_ ?_
       rotate_left
       ·exact pu_
       refine pure_ (i := 27) (N := some 64) (bm_ 28 268435455) rfl rfl (any_of HT_.out kr_) (fun _ _ _ h => h) (Or.inl ⟨rfl, yi_⟩) pu_ ?_
       refine done_ (done_of HT_.out (by kernel_rfl)) ?_
       try go_wp2
       go_meet
       case rel => exact ⟨_, (true), sd_, H', ⟨by have := HJ2.out; have := HK2.out; first | omega | exact Nat.le_refl _⟩, ⟨bk_⟩, ⟨bk_⟩, ⟨bk_⟩, ⟨bw_⟩⟩
      subst c38
      have H1 : ((impl_BufOk.f ((rd_T102 l1_1 x32_2).f2)).bind fun t9 => (impl_isMachine.j2 k2 l1_1 (l1_1.length : Int) x32_2 (!t9) a0_0 l0_1 ((rd_T102 l1_1 x32_2).f0) ((rd_T102 l1_1 x32_2).f1) ((rd_T102 l1_1 x32_2).f2))) = some r := by rw [if_pos rfl] at H; exact H
      clear H
      have H := H1
      clear H1
      replace H := Option.bind_eq_some_iff.mp H
      obtain ⟨t9, A390, H⟩ := H
      replace H : (impl_isMachine.j2 k2 l1_1 (l1_1.length : Int) x32_2 (!t9) a0_0 l0_1 ((rd_T102 l1_1 x32_2).f0) ((rd_T102 l1_1 x32_2).f1) ((rd_T102 l1_1 x32_2).f2)) = some r := H
      have A39 := Aside0.mk A390
      clear A390
      have H' := Aside0.mk H
      clear H
      try go_wp2
      have n0_ : Aside0 ((((w29.setCell ⟨gb5, 0, none⟩ (.int .i64 ((rd_T102 l1_1 x32_2).f0))).setCell ⟨gb5, 1, none⟩ (.slice A4_1 ((rd_T102 l1_1 x32_2).f1).length c4_1)).setCell ⟨gb5, 2, none⟩ (.slice A4_2 ((rd_T102 l1_1 x32_2).f2).length c4_2)).heap[gb1]? = some (.cells #[.int .i64 a0_0, .slice A0_1 l0_1.length c0_1] 39 (0, 0))) := ⟨by (with_reducible repeat (first | refine blk_drewN ?_ _ | refine blk_drew ?_ | refine blk_alloc ?_ _)); refine blk_far ?_ NB1_5.out _; (with_reducible repeat (first | refine blk_drewN ?_ _ | refine blk_drew ?_ | refine blk_alloc ?_ _)); refine blk_far ?_ NB1_5.out _; (with_reducible repeat (first | refine blk_drewN ?_ _ | refine blk_drew ?_ | refine blk_alloc ?_ _)); refine blk_far ?_ NB1_5.out _; (with_reducible repeat (first | refine blk_drewN ?_ _ | refine blk_drew ?_ | refine blk_alloc ?_ _)); exact BK1.out⟩
      have n1_ : Aside0 ((((w29.setCell ⟨gb5, 0, none⟩ (.int .i64 ((rd_T102 l1_1 x32_2).f0))).setCell ⟨gb5, 1, none⟩ (.slice A4_1 ((rd_T102 l1_1 x32_2).f1).length c4_1)).setCell ⟨gb5, 2, none⟩ (.slice A4_2 ((rd_T102 l1_1 x32_2).f2).length c4_2)).heap[gb2]? = some (.cells #[.slice A1_0 l1_0.length c1_0, .slice (some ad4) l1_1.length c1_1] 54 (0, 0))) := ⟨by (with_reducible repeat (first | refine blk_drewN ?_ _ | refine blk_drew ?_ | refine blk_alloc ?_ _)); refine blk_far ?_ NB2_5.out _; (with_reducible repeat (first | refine blk_drewN ?_ _ | refine blk_drew ?_ | refine blk_alloc ?_ _)); refine blk_far ?_ NB2_5.out _; (with_reducible repeat (first | refine blk_drewN ?_ _ | refine blk_drew ?_ | refine blk_alloc ?_ _)); refine blk_far ?_ NB2_5.out _; (with_reducible repeat (first | refine blk_drewN ?_ _ | refine blk_drew ?_ | refine blk_alloc ?_ _)); exact BK2.out⟩
      have n2_ : Aside0 ((((w29.setCell ⟨gb5, 0, none⟩ (.int .i64 ((rd_T102 l1_1 x32_2).f0))).setCell ⟨gb5, 1, none⟩ (.slice A4_1 ((rd_T102 l1_1 x32_2).f1).length c4_1)).setCell ⟨gb5, 2, none⟩ (.slice A4_2 ((rd_T102 l1_1 x32_2).f2).length c4_2)).heap[gb5]? = some (.cells #[.int .i64 ((rd_T102 l1_1 x32_2).f0), .slice A4_1 ((rd_T102 l1_1 x32_2).f1).length c4_1, .slice A4_2 ((rd_T102 l1_1 x32_2).f2).length c4_2] 102 (0, 0))) := ⟨by (with_reducible repeat (first | refine blk_drewN ?_ _ | refine blk_drew ?_ | refine blk_alloc ?_ _)); refine blk_put (cs := #[.int .i64 ((rd_T102 l1_1 x32_2).f0), .slice A4_1 ((rd_T102 l1_1 x32_2).f1).length c4_1, .slice none 0 0]) ?_ 2 _ rfl; (with_reducible repeat (first | refine blk_drewN ?_ _ | refine blk_drew ?_ | refine blk_alloc ?_ _)); refine blk_put (cs := #[.int .i64 ((rd_T102 l1_1 x32_2).f0), .slice none 0 0, .slice none 0 0]) ?_ 1 _ rfl; (with_reducible repeat (first | refine blk_drewN ?_ _ | refine blk_drew ?_ | refine blk_alloc ?_ _)); refine blk_put (cs := #[.int .i64 0, .slice none 0 0, .slice none 0 0]) ?_ 0 _ rfl; (with_reducible repeat (first | refine blk_drewN ?_ _ | refine blk_drew ?_ | refine blk_alloc ?_ _)); exact BK5.out⟩
      have n3_ : Aside0 (Below w.heap.size w (((w29.setCell ⟨gb5, 0, none⟩ (.int .i64 ((rd_T102 l1_1 x32_2).f0))).setCell ⟨gb5, 1, none⟩ (.slice A4_1 ((rd_T102 l1_1 x32_2).f1).length c4_1)).setCell ⟨gb5, 2, none⟩ (.slice A4_2 ((rd_T102 l1_1 x32_2).f2).length c4_2))) := ⟨bw_⟩
      (try clear BK1)
      (try clear BK2)
      (try clear BK5)
      (try clear HB)
      generalize (((w29.setCell ⟨gb5, 0, none⟩ (.int .i64 ((rd_T102 l1_1 x32_2).f0))).setCell ⟨gb5, 1, none⟩ (.slice A4_1 ((rd_T102 l1_1 x32_2).f1).length c4_1)).setCell ⟨gb5, 2, none⟩ (.slice A4_2 ((rd_T102 l1_1 x32_2).f2).length c4_2)) = w40 at n0_ n1_ n2_ n3_ ⊢
      have BK1 := n0_
      have BK2 := n1_
      have BK5 := n2_
      have HB := n3_
      clear n0_ n1_ n2_ n3_
      have n0_ := Aside0.mk (blk_drew BK1.out)
      have n1_ := Aside0.mk (blk_drew BK2.out)
      have n2_ := Aside0.mk (blk_drew BK5.out)
      have n3_ := Aside0.mk (below_drew1 HB.out)
      clear BK1
      clear BK2
      clear BK5
      clear HB
      have BK1 := n0_
      have BK2 := n1_
      have BK5 := n2_
      have HB := n3_
      clear n0_ n1_ n2_ n3_
      have p6 : 0 ≤ (x32_2 : Int) := od_
      have q6 : x32_2 < (l0_1.length : Int) := od_
      obtain ⟨ad6, A6_0, c6_0, e6, hx6_0, hl6_0, hi6_0⟩ := at_L4 HR0_1.out x32_2 p6 q6
      have hw6_0 := hx6_0
      cases e6
      replace hx6_0 := (HB.out.cell (World.block_lt_of_cell? w _ hx6_0)).trans hx6_0
      have HR6_0 := Aside0.mk hi6_0
      have HC6_0 := Aside0.mk hl6_0
      clear hi6_0 hl6_0
      replace p6 := eq_true p6
      replace q6 := eq_true q6
      refine start_ (n := 28) (S := fun w' => w'.cell? ⟨gb5, 0, none⟩ = some (.int .i64 ((rd_T102 l1_1 x32_2).f0)) ∧ w'.cell? ⟨gb5, 1, none⟩ = some (.slice A4_1 ((rd_T102 l1_1 x32_2).f1).length c4_1) ∧ w'.cell? ⟨gb5, 2, none⟩ = some (.slice A4_2 ((rd_T102 l1_1 x32_2).f2).length c4_2) ∧ w'.cell? ⟨gb1, 0, none⟩ = some (.int .i64 a0_0) ∧ w'.cell? ⟨gb1, 1, none⟩ = some (.slice (some ad6) l0_1.length c0_1) ∧ w'.cell? (ad6.add (x32_2).toNat) = some (.slice A6_0 (rd_L4 l0_1 x32_2).length c6_0)) (ds := []) #[false, false, false, false, false, false, false, false, false, false, false, false, false, false, false, false, false, false, false, false, false, false, false, false, false, false, false, false] (by kernel_rfl) rfl rfl ⟨(blk_cell BK5.out 0).trans rfl, (blk_cell BK5.out 1).trans rfl, (blk_cell BK5.out 2).trans rfl, (blk_cell BK1.out 0).trans rfl, (blk_cell BK1.out 1).trans rfl, ((HB.out.cell (World.block_lt_of_cell? w _ hw6_0)).trans hw6_0)⟩ (fun hHeld => ?_); refine with_tabW impl_isMachine.tab6 impl_isMachine.bits6 (fun HT_ HW_ => ?_)
      generalize w40.drew = w41 at BK1 BK2 BK5 HB HR6_0 hx6_0 hHeld ⊢
      refine pure_ (i := 0) (N := some 37) (bm_ 28 1) rfl rfl (any_of HT_.out kr_) (fun _ _ _ h => h) (Or.inl ⟨rfl, yi_⟩) pu_ ?_
      refine pure_ (i := 2) (N := some 39) (bm_ 28 5) rfl rfl (any_of HT_.out kr_) (fun _ _ _ h => h) (Or.inl ⟨rfl, yi_⟩) pu_ ?_
      refine pure_ (i := 4) (N := some 41) (bm_ 28 21) rfl rfl (any_of HT_.out kr_) (fun _ _ _ h => h) (Or.inl ⟨rfl, yi_⟩) pu_ ?_
      refine take_ (i := 1) (N := some 38) (v := ?_) (a' := ?_) (bm_ 28 23) rfl rfl (take_ofW HT_.out HW_.out (by kernel_rfl)) (fun _ _ _ h => h) (Or.inl ⟨by rfl, ?_⟩) hHeld ?_ ?_
      rotate_left
      ·rintro w' ⟨s0, s1, s2, s3, s4, s5⟩
       go_simp
       with_reducible rfl
      rotate_left
      ·exact pu_
      refine take_ (i := 3) (N := some 40) (v := ?_) (a' := ?_) (bm_ 28 31) rfl rfl (take_ofW HT_.out HW_.out (by kernel_rfl)) (fun _ _ _ h => h) (Or.inl ⟨by rfl, ?_⟩) hHeld ?_ ?_
      rotate_left
      ·rintro w' ⟨s0, s1, s2, s3, s4, s5⟩
       go_simp
       with_reducible rfl
      rotate_left
      ·exact pu_
      refine pure_ (i := 5) (N := some 42) (bm_ 28 63) rfl rfl (any_of HT_.out kr_) (fun _ _ _ h => h) (Or.inl ⟨rfl, yi_⟩) pu_ ?_
      refine take_ (i := 6) (N := some 43) (v := ?_) (a' := ?_) (bm_ 28 127) rfl rfl (take_ofW HT_.out HW_.out (by kernel_rfl)) (fun _ _ _ h => h) (Or.inl ⟨by rfl, ?_⟩) hHeld ?_ ?_
      rotate_left
      ·rintro w' ⟨s0, s1, s2, s3, s4, s5⟩
       go_simp
       with_reducible rfl
      rotate_left
      ·exact pu_
      refine pure_ (i := 7) (N := some 44) (bm_ 28 255) rfl rfl (any_of HT_.out kr_) (fun _ _ _ h => h) (Or.inl ⟨rfl, yi_⟩) pu_ ?_
      refine one_ (i := 8) (N := some 45) (bm_ 28 511) rfl rfl (one_of HT_.out (by kernel_rfl)) (by decide) (fun K hK => ?_)
      refine goes_ Try.func103 (by kernel_rfl) rfl #[.int .i64 ((rd_T102 l1_1 x32_2).f0), .int .i64 0, .int .i64 ((rd_L4 l0_1 x32_2).length : Int)] (by rfl) rfl rfl ar_ ?_
      with_reducible refine (impl_within.calls ((rd_T102 l1_1 x32_2).f0) 0 ((rd_L4 l0_1 x32_2).length : Int) true _ A34.out).mono ?_
      rintro e w' ⟨rfl, ⟨nd, rfl⟩⟩
      refine ⟨_, rfl, ?_⟩
      refine hK.out _ _ ⟨(blk_cell BK5.out 0).trans rfl, (blk_cell BK5.out 1).trans rfl, (blk_cell BK5.out 2).trans rfl, (blk_cell BK1.out 0).trans rfl, (blk_cell BK1.out 1).trans rfl, ((HB.out.cell (World.block_lt_of_cell? w _ hw6_0)).trans hw6_0)⟩ (fun hHeld => ?_)
      clear hK K
      refine norm_ (a' := ?_) ?_ ?_
      rotate_left
      ·show Act.put _ (some 45) _ = _
       simp only [Act.put, List.setIfInBounds_toArray, List.set_cons_zero, List.set_cons_succ, i64_w, i32_w]
       rfl
      refine pure_ (i := 9) (N := some 46) (bm_ 28 1023) rfl rfl (any_of HT_.out kr_) (fun _ _ _ h => h) (Or.inl ⟨rfl, yi_⟩) pu_ ?_
      refine pure_ (i := 10) (N := some 47) (bm_ 28 2047) rfl rfl (any_of HT_.out kr_) (fun _ _ _ h => h) (Or.inl ⟨rfl, yi_⟩) pu_ ?_
      refine pure_ (i := 11) (N := some 48) (bm_ 28 4095) rfl rfl (any_of HT_.out kr_) (fun _ _ _ h => h) (Or.inl ⟨rfl, yi_⟩) pu_ ?_
      refine take_ (i := 12) (N := some 49) (v := ?_) (a' := ?_) (bm_ 28 8191) rfl rfl (take_ofW HT_.out HW_.out (by kernel_rfl)) (fun _ _ _ h => h) (Or.inl ⟨by rfl, ?_⟩) hHeld ?_ ?_
      rotate_left
      ·rintro w' ⟨s0, s1, s2, s3, s4, s5⟩
       go_simp
       with_reducible rfl
      rotate_left
      ·exact pu_
      refine pure_ (i := 13) (N := some 50) (bm_ 28 16383) rfl rfl (any_of HT_.out kr_) (fun _ _ _ h => h) (Or.inl ⟨rfl, yi_⟩) pu_ ?_
      refine pure_ (i := 14) (N := some 51) (bm_ 28 32767) rfl rfl (any_of HT_.out kr_) (fun _ _ _ h => h) (Or.inl ⟨rfl, yi_⟩) pu_ ?_
      refine pure_ (i := 15) (N := some 52) (bm_ 28 65535) rfl rfl (any_of HT_.out kr_) (fun _ _ _ h => h) (Or.inl ⟨rfl, yi_⟩) pu_ ?_
      refine pure_ (i := 16) (N := some 53) (bm_ 28 131071) rfl rfl (any_of HT_.out kr_) (fun _ _ _ h => h) (Or.inl ⟨rfl, yi_⟩) pu_ ?_
      refine pure_ (i := 17) (N := some 54) (bm_ 28 262143) rfl rfl (any_of HT_.out kr_) (fun _ _ _ h => h) (Or.inl ⟨rfl, yi_⟩) pu_ ?_
      refine take_ (i := 18) (N := some 55) (v := ?_) (a' := ?_) (bm_ 28 524287) rfl rfl (take_ofW HT_.out HW_.out (by kernel_rfl)) (fun _ _ _ h => h) (Or.inl ⟨by rfl, ?_⟩) hHeld ?_ ?_
      rotate_left
      ·rintro w' ⟨s0, s1, s2, s3, s4, s5⟩
       go_simp
       with_reducible rfl
      rotate_left
      ·exact pu_
      refine one_ (i := 19) (N := some 56) (bm_ 28 1048575) rfl rfl (one_of HT_.out (by kernel_rfl)) (by decide) (fun K hK => ?_)
      refine goes_ Try.func155 (by kernel_rfl) rfl #[.slice A4_1 ((rd_T102 l1_1 x32_2).f1).length c4_1] (by rfl) rfl rfl ar_ ?_
      with_reducible refine (impl_areValues.calls _ _ ((rd_T102 l1_1 x32_2).f1) true _ ?side1 ?side2 A37.out).mono ?_
      (case side1 => repeat (first | exact (Kd.C_below HR4_1.out bw_) | (with_reducible refine Kd.C_alloc ?_ _) | (with_reducible refine Kd.C_drewN ?_ _) | (with_reducible refine Kd.C_drew ?_)))
      (case side2 => exact HC4_1.out)
      rintro e w42 ⟨rfl, hb⟩
      refine ⟨_, rfl, ?_⟩
      have n0_ := bb_ BK1.out hb
      have n1_ := bb_ BK2.out hb
      have n2_ := bb_ BK5.out hb
      have n3_ := bs_ hb
      clear BK1
      clear BK2
      clear BK5
      clear HB
      have BK1 := n0_
      have BK2 := n1_
      have BK5 := n2_
      have HB := n3_
      clear n0_ n1_ n2_ n3_
      (try clear hb)
      (try clear hb2)
      (try clear hk)
      (try clear hi)
      refine hK.out _ _ ⟨(blk_cell BK5.out 0).trans rfl, (blk_cell BK5.out 1).trans rfl, (blk_cell BK5.out 2).trans rfl, (blk_cell BK1.out 0).trans rfl, (blk_cell BK1.out 1).trans rfl, ((HB.out.cell (World.block_lt_of_cell? w _ hw6_0)).trans hw6_0)⟩ (fun hHeld => ?_)
      clear hK K
      refine norm_ (a' := ?_) ?_ ?_
      rotate_left
      ·show Act.put _ (some 56) _ = _
       simp only [Act.put, List.setIfInBounds_toArray, List.set_cons_zero, List.set_cons_succ, i64_w, i32_w]
       rfl
      refine pure_ (i := 20) (N := some 57) (bm_ 28 2097151) rfl rfl (any_of HT_.out kr_) (fun _ _ _ h => h) (Or.inl ⟨rfl, yi_⟩) pu_ ?_
      refine pure_ (i := 21) (N := some 58) (bm_ 28 4194303) rfl rfl (any_of HT_.out kr_) (fun _ _ _ h => h) (Or.inl ⟨rfl, yi_⟩) pu_ ?_
      refine pure_ (i := 22) (N := some 59) (bm_ 28 8388607) rfl rfl (any_of HT_.out kr_) (fun _ _ _ h => h) (Or.inl ⟨rfl, yi_⟩) pu_ ?_
      refine pure_ (i := 23) (N := some 60) (bm_ 28 16777215) rfl rfl (any_of HT_.out kr_) (fun _ _ _ h => h) (Or.inl ⟨rfl, yi_⟩) pu_ ?_
      refine take_ (i := 24) (N := some 61) (v := ?_) (a' := ?_) (bm_ 28 33554431) rfl rfl (take_ofW HT_.out HW_.out (by kernel_rfl)) (fun _ _ _ h => h) (Or.inl ⟨by rfl, ?_⟩) hHeld ?_ ?_
      rotate_left
      ·rintro w' ⟨s0, s1, s2, s3, s4, s5⟩
       go_simp
       with_reducible rfl
      rotate_left
      ·exact pu_
      refine one_ (i := 25) (N := some 62) (bm_ 28 67108863) rfl rfl (one_of HT_.out (by kernel_rfl)) (by decide) (fun K hK => ?_)
      refine goes_ Try.func156 (by kernel_rfl) rfl #[.slice A4_2 ((rd_T102 l1_1 x32_2).f2).length c4_2] (by rfl) rfl rfl ar_ ?_
      with_reducible refine (impl_BufOk.calls _ _ ((rd_T102 l1_1 x32_2).f2) t9 _ ?side1 ?side2 A39.out).mono ?_
      (case side1 => exact cb_)
      (case side2 => exact HC4_2.out)
      rintro e w43 ⟨rfl, hb⟩
      refine ⟨_, rfl, ?_⟩
      have n0_ := bb_ BK1.out hb
      have n1_ := bb_ BK2.out hb
      have n2_ := bb_ BK5.out hb
      have n3_ := bs_ hb
      clear BK1
      clear BK2
      clear BK5
      clear HB
      have BK1 := n0_
      have BK2 := n1_
      have BK5 := n2_
      have HB := n3_
      clear n0_ n1_ n2_ n3_
      (try clear hb)
      (try clear hb2)
      (try clear hk)
      (try clear hi)
      refine hK.out _ _ ⟨(blk_cell BK5.out 0).trans rfl, (blk_cell BK5.out 1).trans rfl, (blk_cell BK5.out 2).trans rfl, (blk_cell BK1.out 0).trans rfl, (blk_cell BK1.out 1).trans rfl, ((HB.out.cell (World.block_lt_of_cell? w _ hw6_0)).trans hw6_0)⟩ (fun hHeld => ?_)
      clear hK K
      refine norm_ (a' := ?_) ?_ ?_
      rotate_left
      ·show Act.put _ (some 62) _ = _
       simp only [Act.put, List.setIfInBounds_toArray, List.set_cons_zero, List.set_cons_succ, i64_w, i32_w]
       rfl
      refine pure_ (i := 26) (N := some 63) (bm_ 28 134217727) rfl rfl (any_of HT_.out kr_) (fun _ _ _ h => h) (Or.inl ⟨rfl, yi_⟩) pu_ ?_
      refine pure_ (i := 27) (N := some 64) (bm_ 28 268435455) rfl rfl (any_of HT_.out kr_) (fun _ _ _ h => h) (Or.inl ⟨rfl, yi_⟩) pu_ ?_
      refine done_ (done_of HT_.out (by kernel_rfl)) ?_
      try go_wp2
      go_meet
      case rel => exact ⟨_, (!t9), sd_, H', ⟨by have := HJ2.out; have := HK2.out; first | omega | exact Nat.le_refl _⟩, ⟨bk_⟩, ⟨bk_⟩, ⟨bk_⟩, ⟨bw_⟩⟩
     case rest =>
      clear HC28
      try clear c1
      try clear p2
      try clear c3
      try clear c4
      try clear c6
      try clear p6
      try clear q6
      try clear hx6
      try clear c10
      try clear c15
      try clear c33
      try clear c35
      try clear c36
      try clear c36b0
      try clear c36b1
      try clear hx6_0
      try clear p6
      try clear q6
      obtain ⟨kq, x64_27, rfl, HA, HJ27, BK1, BK2, BK5, HB⟩ := hcut
      cases kq with
      | zero => exact absurd HA.out (by simp [impl_isMachine.j2])
      | succ kj27 =>
       have H := HA.out
       clear HA
       simp only [impl_isMachine.j2] at H
       by_cases c51 : x64_27 = true
       ·subst c51
        have H1 : (some false) = some r := by rw [if_pos rfl] at H; exact H
        clear H
        have H := H1
        clear H1
        obtain rfl := Option.some.inj H
        go_wp2
        go_ret
        exact ⟨rr_, bw_⟩
       replace c51 := Bool.eq_false_iff.mpr c51
       subst c51
       have H1 : ((impl_Slot.f ((rd_T102 l1_1 x32_2).f2) a0_0).bind fun t10 => (if t10 = true then (some false) else (impl_isMachine.l0 kj27 l1_1 (l1_1.length : Int) (wrap64 (x32_2 + 1)) a0_0 l0_1))) = some r := by rw [if_neg (show ¬ (false = true) by decide)] at H; exact H
       clear H
       have H := H1
       clear H1
       replace H := Option.bind_eq_some_iff.mp H
       obtain ⟨t10, A520, H⟩ := H
       replace H : (if t10 = true then (some false) else (impl_isMachine.l0 kj27 l1_1 (l1_1.length : Int) (wrap64 (x32_2 + 1)) a0_0 l0_1)) = some r := H
       have A52 := Aside0.mk A520
       clear A520
       by_cases c53 : t10 = true
       ·subst c53
        have H1 : (some false) = some r := by rw [if_pos rfl] at H; exact H
        clear H
        have H := H1
        clear H1
        obtain rfl := Option.some.inj H
        have hnb54 := NB5_1.out
        have hnc54 := NB1_5.out
        have hnb55 := NB5_2.out
        have hnc55 := NB2_5.out
        obtain ⟨hcz56_0, hcz56_1, hcz56_2, hfz56_0, hfz56_1, hfz56_2⟩ := bc3_ BK5.out
        have hnb57 := NB1_2.out
        have hnc57 := NB2_1.out
        obtain ⟨hcz58_0, hcz58_1, hfz58_0, hfz58_1⟩ := bc2_ BK1.out
        go_wp2_with (first | ((with_reducible refine gate_callee (f := 157) rfl ?_); refine goesL_ (some 68) rfl rfl Try.func157 (by kernel_rfl) rfl #[.slice A4_2 ((rd_T102 l1_1 x32_2).f2).length c4_2, .func (.func 158) #[] #[.pointer (some ⟨gb1, 0, none⟩)]] rfl ar_ ?_; (with_reducible refine (impl_Slot.calls gb1 (.slice A0_1 l0_1.length c0_1) _ _ ((rd_T102 l1_1 x32_2).f2) a0_0 true _ bk_ ?side1 ?side2 A52.out).mono ?_); (case side1 => exact cb_); (case side2 => exact HC4_2.out); rintro e w59 ⟨rfl, hb⟩; refine ⟨_, rfl, ?_⟩; have n0_ := bb_ BK1.out hb; have n1_ := bb_ BK2.out hb; have n2_ := bb_ BK5.out hb; have n3_ := bs_ hb; clear BK1; clear BK2; clear BK5; clear HB; have BK1 := n0_; have BK2 := n1_; have BK5 := n2_; have HB := n3_; clear n0_ n1_ n2_ n3_; (try clear hb); (try clear hb2); (try clear hk); (try clear hi)))
        go_ret
        exact ⟨rr_, bw_⟩
       replace c53 := Bool.eq_false_iff.mpr c53
       subst c53
       have H1 : (impl_isMachine.l0 kj27 l1_1 (l1_1.length : Int) (wrap64 (x32_2 + 1)) a0_0 l0_1) = some r := by rw [if_neg (show ¬ (false = true) by decide)] at H; exact H
       clear H
       have H := H1
       clear H1
       have H' := Aside0.mk H
       clear H
       have hnb60 := NB5_1.out
       have hnc60 := NB1_5.out
       have hnb61 := NB5_2.out
       have hnc61 := NB2_5.out
       obtain ⟨hcz62_0, hcz62_1, hcz62_2, hfz62_0, hfz62_1, hfz62_2⟩ := bc3_ BK5.out
       have hnb63 := NB1_2.out
       have hnc63 := NB2_1.out
       obtain ⟨hcz64_0, hcz64_1, hfz64_0, hfz64_1⟩ := bc2_ BK1.out
       go_wp2_with (first | ((with_reducible refine gate_callee (f := 157) rfl ?_); refine goesL_ (some 68) rfl rfl Try.func157 (by kernel_rfl) rfl #[.slice A4_2 ((rd_T102 l1_1 x32_2).f2).length c4_2, .func (.func 158) #[] #[.pointer (some ⟨gb1, 0, none⟩)]] rfl ar_ ?_; (with_reducible refine (impl_Slot.calls gb1 (.slice A0_1 l0_1.length c0_1) _ _ ((rd_T102 l1_1 x32_2).f2) a0_0 false _ bk_ ?side1 ?side2 A52.out).mono ?_); (case side1 => exact cb_); (case side2 => exact HC4_2.out); rintro e w65 ⟨rfl, hb⟩; refine ⟨_, rfl, ?_⟩; have n0_ := bb_ BK1.out hb; have n1_ := bb_ BK2.out hb; have n2_ := bb_ BK5.out hb; have n3_ := bs_ hb; clear BK1; clear BK2; clear BK5; clear HB; have BK1 := n0_; have BK2 := n1_; have BK5 := n2_; have HB := n3_; clear n0_ n1_ n2_ n3_; (try clear hb); (try clear hb2); (try clear hk); (try clear hi)))
       go_roundg kj27
       case measure => have := HJ2.out; have := HK2.out; have := HJ27.out; omega
       case rel => exact ⟨(wrap64 (x32_2 + 1)), sd_, H', ⟨by have := HJ2.out; have := HK2.out; have := HJ27.out; omega⟩, ⟨bk_⟩, ⟨bk_⟩, ⟨bw_⟩⟩

end Go.Proofs.Ytlfbdafghpmahaa.P
