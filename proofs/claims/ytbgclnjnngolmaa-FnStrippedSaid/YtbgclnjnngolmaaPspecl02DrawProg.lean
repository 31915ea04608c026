-- Written by mp.py (the session's own driver over the kit's printer) for the seat Ytbgclnjnngolmaa.
import Derived.Test.YtbgclnjnngolmaaK
import Derived.Test.YtbgclnjnngolmaaE
import Derived.Test.YtbgclnjnngolmaaPlawsbig
import Derived.Test.YtbgclnjnngolmaaPspecl02DrawCode
namespace Go.Proofs.Ytbgclnjnngolmaa.P
open Go.RowKit Go.Proofs.YtbgclnjnngolmaaW.PrintWords Go.Proofs.YtbgclnjnngolmaaW.PrintLast Go.Proofs.YtbgclnjnngolmaaW.PrintMore
attribute [local go_sem] max2_int min2_int max_two min_two max_three min_three max_four min_four
set_option linter.unusedVariables false
set_option linter.unusedSimpArgs false

/-! ### spec_l02DrawProg: function 14 -/
mutual
def spec_l02DrawProg.l0 : Nat → Int → Int → Int → List Int → Int → Int → Int → List (List (S50)) → Option (Int × (List (List (S50))) × Int × Int)
 | 0, _, _, _, _, _, _, _, _ => none
 | k + 1, x1, x6, x7, x1000, x1001, x1002, x6000, x6001 => if x7 < x6 then ((spec_l01Below.f x1000 x1001 x1002 x1).bind fun bt9 => (if x6 = 3 then (spec_l02DrawProg.j1 k x1 x6 x7 (wrap64 (1 + bt9.1)) (decide ((wrap64 (1 + bt9.1)) > 3)) x1000 bt9.2.1 bt9.2.2 x6000 x6001) else (spec_l02DrawProg.j1 k x1 x6 x7 (wrap64 (1 + bt9.1)) false x1000 bt9.2.1 bt9.2.2 x6000 x6001))) else (some (x6000, x6001, x1001, x1002))
def spec_l02DrawProg.j1 : Nat → Int → Int → Int → Int → Bool → List Int → Int → Int → Int → List (List (S50)) → Option (Int × (List (List (S50))) × Int × Int)
 | 0, _, _, _, _, _, _, _, _, _, _ => none
 | k + 1, x1, x6, x7, x8, x31, x1000, x1001, x1002, x6000, x6001 => if x31 = true then (spec_l02DrawProg.j2 k x1 x6 x7 3 x1000 x1001 x1002 x6000 x6001) else (spec_l02DrawProg.j2 k x1 x6 x7 x8 x1000 x1001 x1002 x6000 x6001)
def spec_l02DrawProg.j2 : Nat → Int → Int → Int → Int → List Int → Int → Int → Int → List (List (S50)) → Option (Int × (List (List (S50))) × Int × Int)
 | 0, _, _, _, _, _, _, _, _, _ => none
 | k + 1, x1, x6, x7, x8, x1000, x1001, x1002, x6000, x6001 => (spec_l02DrawCode.f k x1000 x1001 x1002 x6000 x8).bind fun bt12 => ((spec_l01Below.f x1000 bt12.2.1 bt12.2.2 3).bind fun bt17 => (if bt17.1 > 0 then (spec_l02DrawProg.j3 k x1 x6 x7 bt12.1 (decide (x8 > 1)) x1000 bt17.2.1 bt17.2.2 x6000 x6001) else (spec_l02DrawProg.j3 k x1 x6 x7 bt12.1 false x1000 bt17.2.1 bt17.2.2 x6000 x6001)))
def spec_l02DrawProg.j3 : Nat → Int → Int → Int → List (S50) → Bool → List Int → Int → Int → Int → List (List (S50)) → Option (Int × (List (List (S50))) × Int × Int)
 | 0, _, _, _, _, _, _, _, _, _, _ => none
 | k + 1, x1, x6, x7, x9, x43, x1000, x1001, x1002, x6000, x6001 => if x43 = true then ((spec_l01Below.f x1000 x1001 x1002 2).bind fun bt20 => ((spec_l01Below.f x1000 bt20.2.1 bt20.2.2 3).bind fun bt23 => (if 0 < (x9.length : Int) then ((some (x9.set (0 : Int).toNat (⟨0, bt20.1, 0, wrap64 (1 + bt23.1)⟩ : S50) : List (S50))).bind fun y26 => ((spec_l01Below.f x1000 bt23.2.1 bt23.2.2 x6000).bind fun bt28 => (if 1 < (x9.length : Int) then (if x6001.length < 5864062014805 then (spec_l02DrawProg.l0 k x1 x6 (wrap64 (x7 + 1)) x1000 bt28.2.1 bt28.2.2 x6000 (x6001 ++ [(y26.set (1 : Int).toNat (⟨3, (rd_T50 y26 0).f1, 0, bt28.1⟩ : S50))])) else (none)) else (none)))) else (none)))) else (if x6001.length < 5864062014805 then (spec_l02DrawProg.l0 k x1 x6 (wrap64 (x7 + 1)) x1000 x1001 x1002 x6000 (x6001 ++ [x9])) else (none))
end
def spec_l02DrawProg.f (k : Nat) (s0_0 : List Int) (s0_1 : Int) (s0_2 : Int) (a1 : Int) : Option (Int × (List (List (S50))) × Int × Int) := (spec_l01Below.f s0_0 s0_1 s0_2 3).bind fun bt2 => ((spec_l01Below.f s0_0 bt2.2.1 bt2.2.2 3).bind fun bt6 => (spec_l02DrawProg.l0 k a1 (wrap64 (1 + bt6.1)) 0 s0_0 bt6.2.1 bt6.2.2 (wrap64 (1 + bt2.1)) ([] : List (List (S50)))))
theorem spec_l02DrawProg.mono_l : ∀ k, (∀ y0 y1 y2 y3 y4 y5 y6 y7, LeO (spec_l02DrawProg.l0 k y0 y1 y2 y3 y4 y5 y6 y7) (spec_l02DrawProg.l0 (k + 1) y0 y1 y2 y3 y4 y5 y6 y7)) ∧ (∀ y0 y1 y2 y3 y4 y5 y6 y7 y8 y9, LeO (spec_l02DrawProg.j1 k y0 y1 y2 y3 y4 y5 y6 y7 y8 y9) (spec_l02DrawProg.j1 (k + 1) y0 y1 y2 y3 y4 y5 y6 y7 y8 y9)) ∧ (∀ y0 y1 y2 y3 y4 y5 y6 y7 y8, LeO (spec_l02DrawProg.j2 k y0 y1 y2 y3 y4 y5 y6 y7 y8) (spec_l02DrawProg.j2 (k + 1) y0 y1 y2 y3 y4 y5 y6 y7 y8)) ∧ (∀ y0 y1 y2 y3 y4 y5 y6 y7 y8 y9, LeO (spec_l02DrawProg.j3 k y0 y1 y2 y3 y4 y5 y6 y7 y8 y9) (spec_l02DrawProg.j3 (k + 1) y0 y1 y2 y3 y4 y5 y6 y7 y8 y9))
 | 0 => ⟨fun _ _ _ _ _ _ _ _ r h => by simp [spec_l02DrawProg.l0] at h, fun _ _ _ _ _ _ _ _ _ _ r h => by simp [spec_l02DrawProg.j1] at h, fun _ _ _ _ _ _ _ _ _ r h => by simp [spec_l02DrawProg.j2] at h, fun _ _ _ _ _ _ _ _ _ _ r h => by simp [spec_l02DrawProg.j3] at h⟩
 | k + 1 => by
  obtain ⟨ih0, ih1, ih2, ih3⟩ := spec_l02DrawProg.mono_l k
  refine ⟨?_, ?_, ?_, ?_⟩
  ·intro y0 y1 y2 y3 y4 y5 y6 y7
   unfold spec_l02DrawProg.l0
   repeat' first | (with_reducible first | exact ih0 _ _ _ _ _ _ _ _ | exact ih1 _ _ _ _ _ _ _ _ _ _ | exact ih2 _ _ _ _ _ _ _ _ _ | exact ih3 _ _ _ _ _ _ _ _ _ _ | exact spec_l02DrawCode.mono _ _ _ _ _ _ | exact lr_ | exact ln_ | refine LeO.ite ?_ ?_ | refine LeO.bind ?_ (fun _ => ?_)) | exact ih0 _ _ _ _ _ _ _ _ | exact ih1 _ _ _ _ _ _ _ _ _ _ | exact ih2 _ _ _ _ _ _ _ _ _ | exact ih3 _ _ _ _ _ _ _ _ _ _ | exact spec_l02DrawCode.mono _ _ _ _ _ _ | exact ln_ | refine LeO.ite ?_ ?_ | refine LeO.bind ?_ (fun _ => ?_)
  ·intro y0 y1 y2 y3 y4 y5 y6 y7 y8 y9
   unfold spec_l02DrawProg.j1
   repeat' first | (with_reducible first | exact ih0 _ _ _ _ _ _ _ _ | exact ih1 _ _ _ _ _ _ _ _ _ _ | exact ih2 _ _ _ _ _ _ _ _ _ | exact ih3 _ _ _ _ _ _ _ _ _ _ | exact spec_l02DrawCode.mono _ _ _ _ _ _ | exact lr_ | exact ln_ | refine LeO.ite ?_ ?_ | refine LeO.bind ?_ (fun _ => ?_)) | exact ih0 _ _ _ _ _ _ _ _ | exact ih1 _ _ _ _ _ _ _ _ _ _ | exact ih2 _ _ _ _ _ _ _ _ _ | exact ih3 _ _ _ _ _ _ _ _ _ _ | exact spec_l02DrawCode.mono _ _ _ _ _ _ | exact ln_ | refine LeO.ite ?_ ?_ | refine LeO.bind ?_ (fun _ => ?_)
  ·intro y0 y1 y2 y3 y4 y5 y6 y7 y8
   unfold spec_l02DrawProg.j2
   repeat' first | (with_reducible first | exact ih0 _ _ _ _ _ _ _ _ | exact ih1 _ _ _ _ _ _ _ _ _ _ | exact ih2 _ _ _ _ _ _ _ _ _ | exact ih3 _ _ _ _ _ _ _ _ _ _ | exact spec_l02DrawCode.mono _ _ _ _ _ _ | exact lr_ | exact ln_ | refine LeO.ite ?_ ?_ | refine LeO.bind ?_ (fun _ => ?_)) | exact ih0 _ _ _ _ _ _ _ _ | exact ih1 _ _ _ _ _ _ _ _ _ _ | exact ih2 _ _ _ _ _ _ _ _ _ | exact ih3 _ _ _ _ _ _ _ _ _ _ | exact spec_l02DrawCode.mono _ _ _ _ _ _ | exact ln_ | refine LeO.ite ?_ ?_ | refine LeO.bind ?_ (fun _ => ?_)
  ·intro y0 y1 y2 y3 y4 y5 y6 y7 y8 y9
   unfold spec_l02DrawProg.j3
   repeat' first | (with_reducible first | exact ih0 _ _ _ _ _ _ _ _ | exact ih1 _ _ _ _ _ _ _ _ _ _ | exact ih2 _ _ _ _ _ _ _ _ _ | exact ih3 _ _ _ _ _ _ _ _ _ _ | exact spec_l02DrawCode.mono _ _ _ _ _ _ | exact lr_ | exact ln_ | refine LeO.ite ?_ ?_ | refine LeO.bind ?_ (fun _ => ?_)) | exact ih0 _ _ _ _ _ _ _ _ | exact ih1 _ _ _ _ _ _ _ _ _ _ | exact ih2 _ _ _ _ _ _ _ _ _ | exact ih3 _ _ _ _ _ _ _ _ _ _ | exact spec_l02DrawCode.mono _ _ _ _ _ _ | exact ln_ | refine LeO.ite ?_ ?_ | refine LeO.bind ?_ (fun _ => ?_)
theorem spec_l02DrawProg.mono : ∀ a0 a1 a2 a3 k, LeO (spec_l02DrawProg.f k a0 a1 a2 a3) (spec_l02DrawProg.f (k + 1) a0 a1 a2 a3) := by
 intro a0 a1 a2 a3 k
 obtain ⟨ih0, ih1, ih2, ih3⟩ := spec_l02DrawProg.mono_l k
 unfold spec_l02DrawProg.f
 repeat' first | (with_reducible first | exact ih0 _ _ _ _ _ _ _ _ | exact ih1 _ _ _ _ _ _ _ _ _ _ | exact ih2 _ _ _ _ _ _ _ _ _ | exact ih3 _ _ _ _ _ _ _ _ _ _ | exact spec_l02DrawCode.mono _ _ _ _ _ _ | exact lr_ | exact ln_ | refine LeO.ite ?_ ?_ | refine LeO.bind ?_ (fun _ => ?_)) | exact ih0 _ _ _ _ _ _ _ _ | exact ih1 _ _ _ _ _ _ _ _ _ _ | exact ih2 _ _ _ _ _ _ _ _ _ | exact ih3 _ _ _ _ _ _ _ _ _ _ | exact spec_l02DrawCode.mono _ _ _ _ _ _ | exact ln_ | refine LeO.ite ?_ ?_ | refine LeO.bind ?_ (fun _ => ?_)
def spec_l02DrawProg.T12 : Bool × List (List Nat × List Nat) := (true, [([], []), ([], []), ([1], [1]), ([2], [2]), ([3], [3]), ([], []), ([], []), ([6], [6]), ([5, 7], [5, 7]), ([4, 8], [4, 8]), ([0, 0, 1, 2, 3, 4, 5, 6, 7, 8, 9], [0]), ([10, 9, 8, 0, 1, 2, 3, 4, 5, 6, 7, 8, 9], [9, 10])])
def spec_l02DrawProg.B12 : List Nat := [0, 0, 2, 6, 14, 0, 0, 64, 224, 510, 1023, 2047]
theorem spec_l02DrawProg.tab12 : rtab .any (opsOf Try.f14 12) = spec_l02DrawProg.T12 := by kernel_rfl
theorem spec_l02DrawProg.bits12 : waitsOk spec_l02DrawProg.T12.2 spec_l02DrawProg.B12 = true := by kernel_rfl
set_option maxHeartbeats 8000000 in
set_option maxRecDepth 100000 in
theorem spec_l02DrawProg.calls (k : Nat) (g : Nat) (s0_0 : List Int) (s0_1 : Int) (s0_2 : Int) (a1 : Int) (r1 : Int) (r2 : List (List (S50))) (r3 : Int) (r4 : Int) (w0 w : World) (hI : IsS57 w0 w g s0_0 s0_1 s0_2) (hB : Below w0.heap.size w0 w) (h : spec_l02DrawProg.f k s0_0 s0_1 s0_2 a1 = some (r1, r2, r3, r4)) :
  Calls Try.prog 14 #[.pointer (some ⟨g, 0, none⟩), .int .i64 a1] w fun e w' => ∃ v1_ : Value, e = .returned (.agg #[.int .i64 r1, v1_]) ∧ Kd.S (Kd.slice 50 k50) 46 w' w.heap.size (fun _ => True) v1_ r2 ∧ IsS57 w0 w' g s0_0 r3 r4 ∧ Below w0.heap.size w0 w' ∧ KeepBut w w' g none := by
 have hu26 := Try.underlying26
 have hu50 := Try.underlying50
 have HI0 := am_ hI
 have HK := am_ (KeepBut.refl w g none)
 have HL := am_ hB.size
 clear hI
 have HW0 := am_ hB.size
 have HB := am_ hB
 clear hB
 have H : ((spec_l01Below.f s0_0 s0_1 s0_2 3).bind fun bt2 => ((spec_l01Below.f s0_0 bt2.2.1 bt2.2.2 3).bind fun bt6 => (spec_l02DrawProg.l0 k a1 (wrap64 (1 + bt6.1)) 0 s0_0 bt6.2.1 bt6.2.2 (wrap64 (1 + bt2.1)) ([] : List (List (S50)))))) = some (r1, r2, r3, r4) := h
 clear h
 replace H := Option.bind_eq_some_iff.mp H
 obtain ⟨⟨t2, t3, t4⟩, A30, H⟩ := H
 replace H : ((spec_l01Below.f s0_0 t3 t4 3).bind fun bt6 => (spec_l02DrawProg.l0 k a1 (wrap64 (1 + bt6.1)) 0 s0_0 bt6.2.1 bt6.2.2 (wrap64 (1 + t2)) ([] : List (List (S50))))) = some (r1, r2, r3, r4) := H
 have A3 := am_ A30
 clear A30
 replace H := Option.bind_eq_some_iff.mp H
 obtain ⟨⟨t6, t7, t8⟩, A40, H⟩ := H
 replace H : (spec_l02DrawProg.l0 k a1 (wrap64 (1 + t6)) 0 s0_0 t7 t8 (wrap64 (1 + t2)) ([] : List (List (S50)))) = some (r1, r2, r3, r4) := H
 have A4 := am_ A40
 clear A40
 have H' := am_ H
 clear H
 go_enter Try.func14, Try.ntmps14
 go_wp2_with (first | ((with_reducible refine gate_dst (N := 4) rfl ?_); refine box_event ?hg (N := 4) ?hd (cs := #[.int .i64 0, .slice none 0 0]) (t := 26) ?hr ?_; (case hd => rfl); (case hg => rfl); (case hr => exact hrr_); intro gb1 hg w5 hbox hb; have n0_ := am_ (IsS57.below (hi_ HI0.out) hb); have n1_ := am_ (KeepBut.trans (kk_ HK.out) (KeepBut.of_below hb g none) (.inl rfl)); have n2_ := am_ (below_step (bi_ HB.out HI0.out) hb); have n3_ := am_ (hbox); have n4_ := am_ ((by rw [hg]; exact (keep_size (w := w) (g := g) (row := none) (kk_ HK.out)) : w.heap.size ≤ gb1)); have n5_ := am_ ((Nat.le_trans HW0.out (by rw [hg]; exact (keep_size (w := w) (g := g) (row := none) (kk_ HK.out)) : w.heap.size ≤ gb1) : w0.heap.size ≤ gb1)); have n6_ := am_ ((by rw [hg]; exact Nat.ne_of_lt (IsS57.lt (show IsS57 w0 _ g s0_0 s0_1 s0_2 from (hi_ HI0.out))) : g ≠ gb1)); have n7_ := am_ ((by rw [hg]; exact Nat.ne_of_gt (IsS57.lt (show IsS57 w0 _ g s0_0 s0_1 s0_2 from (hi_ HI0.out))) : gb1 ≠ g)); clear HI0; clear HK; clear HB; have HI0 := n0_; have HK := n1_; have HB := n2_; have BK1 := n3_; have GW1 := n4_; have GE1 := n5_; have NB0_1 := n6_; have NB1_0 := n7_; clear n0_ n1_ n2_ n3_ n4_ n5_ n6_ n7_; clear hb hbox hg) | ((with_reducible refine gate_callee (f := 29) rfl ?_); refine goesL_ (some 11) rfl rfl Try.func29 kr_ rfl #[.pointer (some ⟨g, 0, none⟩), .int .i64 3] rfl ar_ ?_; (with_reducible refine (spec_l01Below.calls g s0_0 s0_1 s0_2 3 t2 t3 t4 w0 _ ?side1 ?side2 A3.out).mono ?_); (case side1 => exact (hi_ HI0.out)); (case side2 => exact (bi_ HB.out HI0.out)); rintro e w6 ⟨rfl, hi, hb, hk⟩; refine ⟨_, rfl, ?_⟩; have n0_ := am_ (KeepBut.blk hk (g' := gb1) (o := .cells #[.int .i64 0, .slice none 0 0] 26 (0, 0)) bk_ NB1_0.out (by simp)); have n1_ := am_ (KeepBut.trans (kk_ HK.out) hk (.inl rfl)); have n2_ := am_ (hb); have n3_ := am_ (hi); clear BK1; clear HK; clear HB; clear HI0; have BK1 := n0_; have HK := n1_; have HB := n2_; have HI0 := n3_; clear n0_ n1_ n2_ n3_; (try clear hb); (try clear hb2); (try clear hk); (try clear hi)) | ((with_reducible refine gate_dst (N := 5) rfl ?_); refine box_event ?hg (N := 5) ?hd (cs := #[.int .i64 0, .slice none 0 0]) (t := 26) ?hr ?_; (case hd => rfl); (case hg => rfl); (case hr => exact hrr_); intro gb5 hg w7 hbox hb; have n0_ := am_ (IsS57.below (hi_ HI0.out) hb); have n1_ := bb_ BK1.out hb; have n2_ := am_ (KeepBut.trans (kk_ HK.out) (KeepBut.of_below hb g none) (.inl rfl)); have n3_ := am_ (below_step (bi_ HB.out HI0.out) hb); have n4_ := am_ (hbox); have n5_ := am_ ((by rw [hg]; exact (keep_size (w := w) (g := g) (row := none) (kk_ HK.out)) : w.heap.size ≤ gb5)); have n6_ := am_ ((Nat.le_trans HW0.out (by rw [hg]; exact (keep_size (w := w) (g := g) (row := none) (kk_ HK.out)) : w.heap.size ≤ gb5) : w0.heap.size ≤ gb5)); have n7_ := nl_ BK1.out hg; have n8_ := nr_ BK1.out hg; have n9_ := am_ ((by rw [hg]; exact Nat.ne_of_lt (IsS57.lt (show IsS57 w0 _ g s0_0 t3 t4 from (hi_ HI0.out))) : g ≠ gb5)); have n10_ := am_ ((by rw [hg]; exact Nat.ne_of_gt (IsS57.lt (show IsS57 w0 _ g s0_0 t3 t4 from (hi_ HI0.out))) : gb5 ≠ g)); clear HI0; clear BK1; clear HK; clear HB; have HI0 := n0_; have BK1 := n1_; have HK := n2_; have HB := n3_; have BK5 := n4_; have GW5 := n5_; have GE5 := n6_; have NB1_5 := n7_; have NB5_1 := n8_; have NB0_5 := n9_; have NB5_0 := n10_; clear n0_ n1_ n2_ n3_ n4_ n5_ n6_ n7_ n8_ n9_ n10_; clear hb hbox hg; have hnb8 := NB5_1.out; have hnc8 := NB1_5.out; have hnb9 := NB5_0.out; have hnc9 := NB0_5.out; obtain ⟨hcz10_0, hcz10_1, hfz10_0, hfz10_1⟩ := bc2_ BK5.out) | ((with_reducible refine gate_callee (f := 29) rfl ?_); refine goesL_ (some 15) rfl rfl Try.func29 kr_ rfl #[.pointer (some ⟨g, 0, none⟩), .int .i64 3] rfl ar_ ?_; (with_reducible refine (spec_l01Below.calls g s0_0 t3 t4 3 t6 t7 t8 w0 _ ?side1 ?side2 A4.out).mono ?_); (case side1 => exact (hi_ HI0.out)); (case side2 => exact (bi_ HB.out HI0.out)); rintro e w11 ⟨rfl, hi, hb, hk⟩; refine ⟨_, rfl, ?_⟩; have n0_ := am_ (KeepBut.blk hk (g' := gb1) (o := .cells #[.int .i64 0, .slice none 0 0] 26 (0, 0)) (by (with_reducible repeat (first | refine blk_drewN ?_ _ | refine blk_drew ?_ | refine blk_alloc ?_ _)); refine blk_far ?_ NB1_5.out _; (with_reducible repeat (first | refine blk_drewN ?_ _ | refine blk_drew ?_ | refine blk_alloc ?_ _)); refine blk_far ?_ NB1_5.out _; exact bk_) NB1_0.out (by simp)); have n1_ := am_ (KeepBut.blk hk (g' := gb5) (o := .cells #[.int .i64 (wrap64 (1 + t2)), .slice none 0 0] 26 (0, 0)) (by (with_reducible repeat (first | refine blk_drewN ?_ _ | refine blk_drew ?_ | refine blk_alloc ?_ _)); refine blk_put (cs := #[.int .i64 (wrap64 (1 + t2)), .slice none 0 0]) ?_ 1 _ rfl; (with_reducible repeat (first | refine blk_drewN ?_ _ | refine blk_drew ?_ | refine blk_alloc ?_ _)); refine blk_put (cs := #[.int .i64 0, .slice none 0 0]) ?_ 0 _ rfl; exact bk_) NB5_0.out (by simp)); have n2_ := am_ (KeepBut.trans (kk_ HK.out) hk (.inl rfl)); have n3_ := am_ (hb); have n4_ := am_ (hi); clear BK1; clear BK5; clear HK; clear HB; clear HI0; have BK1 := n0_; have BK5 := n1_; have HK := n2_; have HB := n3_; have HI0 := n4_; clear n0_ n1_ n2_ n3_ n4_; (try clear hb); (try clear hb2); (try clear hk); (try clear hi)))
 go_loopg [7] k (fun kq v7 w' => ∃ (x7_1 : Int) (x1001_1 : Int) (x1002_1 : Int) (x6001_1 : List (List (S50))) (u6001 : Value), v7 = .int .i64 x7_1 ∧ Aside0 (spec_l02DrawProg.l0 kq a1 (wrap64 (1 + t6)) x7_1 s0_0 x1001_1 x1002_1 (wrap64 (1 + t2)) x6001_1 = some (r1, r2, r3, r4)) ∧ Aside0 (kq ≤ k) ∧ Aside0 (Kd.S (Kd.slice 50 k50) 46 w' w.heap.size (fun _ => True) u6001 x6001_1) ∧ Aside0 (w'.heap[gb1]? = some (.cells #[.int .i64 0, (.slice none 0 0)] 26 (0, 0))) ∧ Aside0 (w'.heap[gb5]? = some (.cells #[.int .i64 (wrap64 (1 + t2)), u6001] 26 (0, 0))) ∧ Aside0 (IsS57 w0 w' g s0_0 x1001_1 x1002_1) ∧ Aside0 (KeepBut w w' g none) ∧ Aside0 (Below w0.heap.size w0 w'))
 case atStart => exact ⟨(0), (t7), (t8), (([] : List (List (S50)))), (.slice none 0 0), sd_, H', ⟨Nat.le_refl _⟩, ⟨by first | exact Kd.S_nil _ _ _ _ _ | exact Kd.N_nil _ _ _ _ _ | exact Kd.V_nil _ _ _ _ _ | exact Kd.Q_nil _ _ _ _ _ | exact Kd.R_nil _ _ _ _ _⟩, ⟨bk_⟩, ⟨bk_⟩, ⟨(hi_ HI0.out)⟩, ⟨(kk_ HK.out)⟩, ⟨(bi_ HB.out HI0.out)⟩⟩
 case round =>
  clear H'
  try clear hcz10_0 hcz10_1
  try clear hfz10_0 hfz10_1
  obtain ⟨x7_1, x1001_1, x1002_1, x6001_1, u6001, rfl, HA, HK1, HO_6001, BK1, BK5, HI0, HK, HB⟩ := hrel
  cases gk with
  | zero => exact absurd HA.out (by simp [spec_l02DrawProg.l0])
  | succ k1 =>
   have H := HA.out
   clear HA
   simp only [spec_l02DrawProg.l0] at H
   by_cases c12 : x7_1 < (wrap64 (1 + t6))
   rotate_left
   ·rw [if_neg c12] at H
    have c12b0 : decide (x7_1 < (wrap64 (1 + t6))) = false := decide_eq_false c12
    clear c12
    simp only [Option.some.injEq, Prod.mk.injEq] at H
    obtain ⟨rfl, rfl, rfl, rfl⟩ := H
    have hnb60 := NB5_1.out
    have hnc60 := NB1_5.out
    have hnb61 := NB5_0.out
    have hnc61 := NB0_5.out
    obtain ⟨hcz62_0, hcz62_1, hfz62_0, hfz62_1⟩ := bc2_ BK5.out
    have hnb63 := NB1_0.out
    have hnc63 := NB0_1.out
    obtain ⟨hcz64_0, hcz64_1, hfz64_0, hfz64_1⟩ := bc2_ BK1.out
    obtain ⟨Ao65, co65, eo65⟩ := Kd.S_slice HO_6001.out
    subst eo65
    go_wp2
    refine bodyPost_ret (results_cell_row rfl _ _ gb1 26 #[.int .i64 (wrap64 (1 + t2)), .slice Ao65 x6001_1.length co65] (0, 0) _ rfl (by (with_reducible repeat (first | refine blk_drewN ?_ _ | refine blk_drew ?_ | refine blk_alloc ?_ _)); refine blk_put (cs := #[.int .i64 (wrap64 (1 + t2)), .slice none 0 0]) ?_ 1 _ rfl; (with_reducible repeat (first | refine blk_drewN ?_ _ | refine blk_drew ?_ | refine blk_alloc ?_ _)); refine blk_put (cs := #[.int .i64 0, .slice none 0 0]) ?_ 0 _ rfl; exact bk_) Try.underlying26 rfl kr_) rfl ?_
    exact ⟨_, rr_, by (with_reducible repeat (first | apply Kd.S_alloc | apply Kd.S_drewN | apply Kd.S_drew)); exact Kd.S_mono (Kd.S_far (p := ⟨gb1, 1, none⟩) (Kd.S_far (p := ⟨gb1, 0, none⟩) (Kd.S_types HO_6001.out BK1.out (by decide)) (fun _ hk => hk.2) (.int .i64 (wrap64 (1 + t2)))) (fun _ hk => hk.2) (.slice Ao65 x6001_1.length co65)) (fun _ hk => trivial), (hi_ HI0.out), (bi_ HB.out HI0.out), (kk_ HK.out)⟩
   rw [if_pos c12] at H
   have c12b0 : decide (x7_1 < (wrap64 (1 + t6))) = true := decide_eq_true c12
   clear c12
   replace H := Option.bind_eq_some_iff.mp H
   obtain ⟨⟨t9, t10, t11⟩, A130, H⟩ := H
   replace H : (if (wrap64 (1 + t6)) = 3 then (spec_l02DrawProg.j1 k1 a1 (wrap64 (1 + t6)) x7_1 (wrap64 (1 + t9)) (decide ((wrap64 (1 + t9)) > 3)) s0_0 t10 t11 (wrap64 (1 + t2)) x6001_1) else (spec_l02DrawProg.j1 k1 a1 (wrap64 (1 + t6)) x7_1 (wrap64 (1 + t9)) false s0_0 t10 t11 (wrap64 (1 + t2)) x6001_1)) = some (r1, r2, r3, r4) := H
   have A13 := am_ A130
   clear A130
   have HC14 := am_ H
   clear H
   go_upto_region 7 with (first | ((with_reducible refine gate_callee (f := 29) rfl ?_); refine goesL_ (some 24) rfl rfl Try.func29 kr_ rfl #[.pointer (some ⟨g, 0, none⟩), .int .i64 a1] rfl ar_ ?_; (with_reducible refine (spec_l01Below.calls g s0_0 x1001_1 x1002_1 a1 t9 t10 t11 w0 _ ?side1 ?side2 A13.out).mono ?_); (case side1 => exact (hi_ HI0.out)); (case side2 => exact (bi_ HB.out HI0.out)); rintro e w15 ⟨rfl, hi, hb, hk⟩; refine ⟨_, rfl, ?_⟩; have n0_ := am_ (Kd.S_mono (Kd.S_keep (IsS57.apartS (show IsS57 w0 _ g s0_0 x1001_1 x1002_1 from (hi_ HI0.out)) (sx_ HO_6001.out) (by decide)) hk (fun _ h => h.2)) (fun _ h => h.1)); have n1_ := am_ (KeepBut.blk hk (g' := gb1) (o := .cells #[.int .i64 0, .slice none 0 0] 26 (0, 0)) bk_ NB1_0.out (by simp)); have n2_ := am_ (KeepBut.blk hk (g' := gb5) (o := .cells #[.int .i64 (wrap64 (1 + t2)), u6001] 26 (0, 0)) bk_ NB5_0.out (by simp)); have n3_ := am_ (KeepBut.trans (kk_ HK.out) hk (.inl rfl)); have n4_ := am_ (hb); have n5_ := am_ (hi); clear HO_6001; clear BK1; clear BK5; clear HK; clear HB; clear HI0; have HO_6001 := n0_; have BK1 := n1_; have BK5 := n2_; have HK := n3_; have HB := n4_; have HI0 := n5_; clear n0_ n1_ n2_ n3_ n4_ n5_; (try clear hb); (try clear hb2); (try clear hk); (try clear hi)))
   (try simp only [Act.put, List.setIfInBounds_toArray, List.set_cons_zero, List.set_cons_succ])
   go_cut [31] (fun v31 wc => ∃ (kq : Nat) (x31_13 : Bool), v31 = .bool x31_13 ∧ Aside0 (spec_l02DrawProg.j1 kq a1 (wrap64 (1 + t6)) x7_1 (wrap64 (1 + t9)) x31_13 s0_0 t10 t11 (wrap64 (1 + t2)) x6001_1 = some (r1, r2, r3, r4)) ∧ Aside0 (kq ≤ k1) ∧ Aside0 (Kd.S (Kd.slice 50 k50) 46 wc w.heap.size (fun _ => True) u6001 x6001_1) ∧ Aside0 (wc.heap[gb1]? = some (.cells #[.int .i64 0, (.slice none 0 0)] 26 (0, 0))) ∧ Aside0 (wc.heap[gb5]? = some (.cells #[.int .i64 (wrap64 (1 + t2)), u6001] 26 (0, 0))) ∧ Aside0 (IsS57 w0 wc g s0_0 t10 t11) ∧ Aside0 (KeepBut w wc g none) ∧ Aside0 (Below w0.heap.size w0 wc))
   case first =>
    have H := HC14.out
    clear HC14
    by_cases c16 : (wrap64 (1 + t6)) = 3
    rotate_left
    ·rw [if_neg c16] at H
     have c16b0 : ((wrap64 (1 + t6)) == 3) = false := beq_eq_false_iff_ne.mpr c16
     have c16b1 : ((wrap64 (1 + t6)) != 3) = true := bne_iff_ne.mpr c16
     (first | rw [c16b0] | (simp only [i64_w, i32_w]; rw [c16b0]) | skip)
     have H' := am_ H
     clear H
     go_wp2
     go_meet
     case rel => exact ⟨_, (false), sd_, H', ⟨by have := HK1.out; first | omega | exact Nat.le_refl _⟩, ⟨by (with_reducible repeat (first | apply Kd.S_alloc | apply Kd.S_drewN | apply Kd.S_drew)); exact HO_6001.out⟩, ⟨bk_⟩, ⟨bk_⟩, ⟨(hi_ HI0.out)⟩, ⟨(kk_ HK.out)⟩, ⟨(bi_ HB.out HI0.out)⟩⟩
    rw [if_pos c16] at H
    have c16b0 : ((wrap64 (1 + t6)) == 3) = true := beq_iff_eq.mpr c16
    have c16b1 : ((wrap64 (1 + t6)) != 3) = false := bne_eq_false_iff_eq.mpr c16
    clear c16
    (first | rw [c16b0] | (simp only [i64_w, i32_w]; rw [c16b0]) | skip)
    have H' := am_ H
    clear H
    go_wp2
    go_meet
    case rel => exact ⟨_, (decide ((wrap64 (1 + t9)) > 3)), sd_, H', ⟨by have := HK1.out; first | omega | exact Nat.le_refl _⟩, ⟨by (with_reducible repeat (first | apply Kd.S_alloc | apply Kd.S_drewN | apply Kd.S_drew)); exact HO_6001.out⟩, ⟨bk_⟩, ⟨bk_⟩, ⟨(hi_ HI0.out)⟩, ⟨(kk_ HK.out)⟩, ⟨(bi_ HB.out HI0.out)⟩⟩
   case rest =>
    clear HC14
    try clear c12
    try clear c12b0
    try clear c16
    try clear c16b0
    try clear c16b1
    try clear hcz10_0 hcz10_1
    try clear hfz10_0 hfz10_1
    obtain ⟨kq, x31_13, rfl, HA, HJ13, HO_6001, BK1, BK5, HI0, HK, HB⟩ := hcut
    cases kq with
    | zero => exact absurd HA.out (by simp [spec_l02DrawProg.j1])
    | succ kj13 =>
     have H := HA.out
     clear HA
     simp only [spec_l02DrawProg.j1] at H
     have HC17 := am_ H
     clear H
     go_upto_if 31 with (fail)
     go_cut [8] (fun v8 wc => ∃ (kq : Nat) (x8_16 : Int), v8 = .int .i64 x8_16 ∧ Aside0 (spec_l02DrawProg.j2 kq a1 (wrap64 (1 + t6)) x7_1 x8_16 s0_0 t10 t11 (wrap64 (1 + t2)) x6001_1 = some (r1, r2, r3, r4)) ∧ Aside0 (kq ≤ kj13) ∧ Aside0 (Kd.S (Kd.slice 50 k50) 46 wc w.heap.size (fun _ => True) u6001 x6001_1) ∧ Aside0 (wc.heap[gb1]? = some (.cells #[.int .i64 0, (.slice none 0 0)] 26 (0, 0))) ∧ Aside0 (wc.heap[gb5]? = some (.cells #[.int .i64 (wrap64 (1 + t2)), u6001] 26 (0, 0))) ∧ Aside0 (IsS57 w0 wc g s0_0 t10 t11) ∧ Aside0 (KeepBut w wc g none) ∧ Aside0 (Below w0.heap.size w0 wc))
     case first =>
      have H := HC17.out
      clear HC17
      by_cases c18 : x31_13 = true
      ·subst c18
       have H1 : (spec_l02DrawProg.j2 kj13 a1 (wrap64 (1 + t6)) x7_1 3 s0_0 t10 t11 (wrap64 (1 + t2)) x6001_1) = some (r1, r2, r3, r4) := by rw [if_pos rfl] at H; exact H
       clear H
       have H := H1
       clear H1
       have H' := am_ H
       clear H
       go_wp2
       go_meet
       case rel => exact ⟨_, (3), sd_, H', ⟨by have := HK1.out; have := HJ13.out; first | omega | exact Nat.le_refl _⟩, ⟨by (with_reducible repeat (first | apply Kd.S_alloc | apply Kd.S_drewN | apply Kd.S_drew)); exact HO_6001.out⟩, ⟨bk_⟩, ⟨bk_⟩, ⟨(hi_ HI0.out)⟩, ⟨(kk_ HK.out)⟩, ⟨(bi_ HB.out HI0.out)⟩⟩
      replace c18 := Bool.eq_false_iff.mpr c18
      subst c18
      have H1 : (spec_l02DrawProg.j2 kj13 a1 (wrap64 (1 + t6)) x7_1 (wrap64 (1 + t9)) s0_0 t10 t11 (wrap64 (1 + t2)) x6001_1) = some (r1, r2, r3, r4) := by rw [if_neg (show ¬ (false = true) by decide)] at H; exact H
      clear H
      have H := H1
      clear H1
      have H' := am_ H
      clear H
      go_wp2
      go_meet
      case rel => exact ⟨_, ((wrap64 (1 + t9))), sd_, H', ⟨by have := HK1.out; have := HJ13.out; first | omega | exact Nat.le_refl _⟩, ⟨by (with_reducible repeat (first | apply Kd.S_alloc | apply Kd.S_drewN | apply Kd.S_drew)); exact HO_6001.out⟩, ⟨bk_⟩, ⟨bk_⟩, ⟨(hi_ HI0.out)⟩, ⟨(kk_ HK.out)⟩, ⟨(bi_ HB.out HI0.out)⟩⟩
     case rest =>
      clear HC17
      try clear c12
      try clear c12b0
      try clear c16
      try clear c16b0
      try clear c16b1
      try clear c18
      try clear hcz10_0 hcz10_1
      try clear hfz10_0 hfz10_1
      obtain ⟨kq, x8_16, rfl, HA, HJ16, HO_6001, BK1, BK5, HI0, HK, HB⟩ := hcut
      cases kq with
      | zero => exact absurd HA.out (by simp [spec_l02DrawProg.j2])
      | succ kj16 =>
       have H := HA.out
       clear HA
       simp only [spec_l02DrawProg.j2] at H
       replace H := Option.bind_eq_some_iff.mp H
       obtain ⟨⟨t12, t15, t16⟩, A190, H⟩ := H
       replace H : ((spec_l01Below.f s0_0 t15 t16 3).bind fun bt17 => (if bt17.1 > 0 then (spec_l02DrawProg.j3 kj16 a1 (wrap64 (1 + t6)) x7_1 t12 (decide (x8_16 > 1)) s0_0 bt17.2.1 bt17.2.2 (wrap64 (1 + t2)) x6001_1) else (spec_l02DrawProg.j3 kj16 a1 (wrap64 (1 + t6)) x7_1 t12 false s0_0 bt17.2.1 bt17.2.2 (wrap64 (1 + t2)) x6001_1))) = some (r1, r2, r3, r4) := H
       have A19 := am_ A190
       clear A190
       have HC20 := am_ H
       clear H
       have hnb21 := NB5_1.out
       have hnc21 := NB1_5.out
       have hnb22 := NB5_0.out
       have hnc22 := NB0_5.out
       obtain ⟨hcz23_0, hcz23_1, hfz23_0, hfz23_1⟩ := bc2_ BK5.out
       go_upto_region 10 with (first | ((with_reducible refine gate_callee (f := 30) rfl ?_); refine goesL_ (some 36) rfl rfl Try.func30 kr_ rfl #[.pointer (some ⟨g, 0, none⟩), .int .i64 (wrap64 (1 + t2)), .int .i64 x8_16] rfl ar_ ?_; (with_reducible refine (spec_l02DrawCode.calls kj16 g s0_0 t10 t11 (wrap64 (1 + t2)) x8_16 t12 t15 t16 w0 _ ?side1 ?side2 A19.out).mono ?_); (case side1 => exact (hi_ HI0.out)); (case side2 => exact (bi_ HB.out HI0.out)); rintro e w24 ⟨v13, rfl, ho0, hi, hb, hk⟩; refine ⟨_, rfl, ?_⟩; have n0_ := am_ (Kd.S_mono (Kd.S_told (Kd.S_oldK (IsS57.apartS (show IsS57 w0 _ g s0_0 t10 t11 from (hi_ HI0.out)) (sx_ HO_6001.out) (by decide)) hk) (Kd.R_base ho0)) (fun _ h_ => h_.1)); have n1_ := am_ (KeepBut.blk hk (g' := gb1) (o := .cells #[.int .i64 0, .slice none 0 0] 26 (0, 0)) bk_ NB1_0.out (by simp)); have n2_ := am_ (KeepBut.blk hk (g' := gb5) (o := .cells #[.int .i64 (wrap64 (1 + t2)), u6001] 26 (0, 0)) bk_ NB5_0.out (by simp)); have n3_ := am_ (Kd.R_lower ho0 (keep_size (w := w) (g := g) (row := none) (kk_ HK.out))); have n4_ := am_ (KeepBut.trans (kk_ HK.out) hk (.inl rfl)); have n5_ := am_ (hb); have n6_ := am_ (hi); clear HO_6001; clear BK1; clear BK5; clear HK; clear HB; clear HI0; have HO_6001 := n0_; have BK1 := n1_; have BK5 := n2_; have HO14 := n3_; have HK := n4_; have HB := n5_; have HI0 := n6_; clear n0_ n1_ n2_ n3_ n4_ n5_ n6_; (try clear hb); (try clear hb2); (try clear hk); (try clear hi); (try clear ho0)))
       (try simp only [Act.put, List.setIfInBounds_toArray, List.set_cons_zero, List.set_cons_succ])
       go_cut [43] (fun v43 wc => ∃ (kq : Nat) (x43_19 : Bool) (x1001_19 : Int) (x1002_19 : Int), v43 = .bool x43_19 ∧ Aside0 (spec_l02DrawProg.j3 kq a1 (wrap64 (1 + t6)) x7_1 t12 x43_19 s0_0 x1001_19 x1002_19 (wrap64 (1 + t2)) x6001_1 = some (r1, r2, r3, r4)) ∧ Aside0 (kq ≤ kj16) ∧ Aside0 (Kd.R k50 50 wc w.heap.size (fun _ => True) v13 t12) ∧ Aside0 (Kd.S (Kd.slice 50 k50) 46 wc w.heap.size (fun k_ => some k_ ≠ (v13 : Value).ownBlock) u6001 x6001_1) ∧ Aside0 (wc.heap[gb1]? = some (.cells #[.int .i64 0, (.slice none 0 0)] 26 (0, 0))) ∧ Aside0 (wc.heap[gb5]? = some (.cells #[.int .i64 (wrap64 (1 + t2)), u6001] 26 (0, 0))) ∧ Aside0 (IsS57 w0 wc g s0_0 x1001_19 x1002_19) ∧ Aside0 (KeepBut w wc g none) ∧ Aside0 (Below w0.heap.size w0 wc))
       case first =>
        have H := HC20.out
        clear HC20
        replace H := Option.bind_eq_some_iff.mp H
        obtain ⟨⟨t17, t18, t19⟩, A250, H⟩ := H
        replace H : (if t17 > 0 then (spec_l02DrawProg.j3 kj16 a1 (wrap64 (1 + t6)) x7_1 t12 (decide (x8_16 > 1)) s0_0 t18 t19 (wrap64 (1 + t2)) x6001_1) else (spec_l02DrawProg.j3 kj16 a1 (wrap64 (1 + t6)) x7_1 t12 false s0_0 t18 t19 (wrap64 (1 + t2)) x6001_1)) = some (r1, r2, r3, r4) := H
        have A25 := am_ A250
        clear A250
        by_cases c26 : t17 > 0
        rotate_left
        ·rw [if_neg c26] at H
         have c26b0 : decide (0 < t17) = false := decide_eq_false c26
         clear c26
         (first | rw [c26b0] | (simp only [i64_w, i32_w]; rw [c26b0]) | skip)
         have H' := am_ H
         clear H
         go_wp2_with (first | ((with_reducible refine gate_callee (f := 29) rfl ?_); refine goesL_ (some 38) rfl rfl Try.func29 kr_ rfl #[.pointer (some ⟨g, 0, none⟩), .int .i64 3] rfl ar_ ?_; (with_reducible refine (spec_l01Below.calls g s0_0 t15 t16 3 t17 t18 t19 w0 _ ?side1 ?side2 A25.out).mono ?_); (case side1 => exact (hi_ HI0.out)); (case side2 => exact (bi_ HB.out HI0.out)); rintro e w28 ⟨rfl, hi, hb, hk⟩; refine ⟨_, rfl, ?_⟩; have n0_ := am_ (Kd.S_mono (Kd.S_keep (IsS57.apartS (show IsS57 w0 _ g s0_0 t15 t16 from (hi_ HI0.out)) (sx_ HO_6001.out) (by decide)) hk (fun _ h => h.2)) (fun _ h => h.1)); have n1_ := am_ (KeepBut.blk hk (g' := gb1) (o := .cells #[.int .i64 0, .slice none 0 0] 26 (0, 0)) bk_ NB1_0.out (by simp)); have n2_ := am_ (KeepBut.blk hk (g' := gb5) (o := .cells #[.int .i64 (wrap64 (1 + t2)), u6001] 26 (0, 0)) bk_ NB5_0.out (by simp)); have n3_ := am_ (Kd.R_mono (Kd.R_keep (IsS57.apart (show IsS57 w0 _ g s0_0 t15 t16 from (hi_ HI0.out)) (rx_ HO14.out) (by decide)) hk (fun _ h => h.2)) (fun _ h => h.1)); have n4_ := am_ (KeepBut.trans (kk_ HK.out) hk (.inl rfl)); have n5_ := am_ (hb); have n6_ := am_ (hi); clear HO_6001; clear BK1; clear BK5; clear HO14; clear HK; clear HB; clear HI0; have HO_6001 := n0_; have BK1 := n1_; have BK5 := n2_; have HO14 := n3_; have HK := n4_; have HB := n5_; have HI0 := n6_; clear n0_ n1_ n2_ n3_ n4_ n5_ n6_; (try clear hb); (try clear hb2); (try clear hk); (try clear hi)))
         go_meet
         case rel => exact ⟨_, (false), (t18), (t19), sd_, H', ⟨by have := HK1.out; have := HJ13.out; have := HJ16.out; first | omega | exact Nat.le_refl _⟩, ⟨by (with_reducible repeat (first | apply Kd.R_alloc | apply Kd.R_drewN | apply Kd.R_drew)); exact HO14.out⟩, ⟨by (with_reducible repeat (first | apply Kd.S_alloc | apply Kd.S_drewN | apply Kd.S_drew)); exact Kd.S_mono HO_6001.out (fun _ hk => hk.2)⟩, ⟨bk_⟩, ⟨bk_⟩, ⟨(hi_ HI0.out)⟩, ⟨(kk_ HK.out)⟩, ⟨(bi_ HB.out HI0.out)⟩⟩
        rw [if_pos c26] at H
        have c26b0 : decide (0 < t17) = true := decide_eq_true c26
        clear c26
        (first | rw [c26b0] | (simp only [i64_w, i32_w]; rw [c26b0]) | skip)
        have H' := am_ H
        clear H
        go_wp2_with (first | ((with_reducible refine gate_callee (f := 29) rfl ?_); refine goesL_ (some 38) rfl rfl Try.func29 kr_ rfl #[.pointer (some ⟨g, 0, none⟩), .int .i64 3] rfl ar_ ?_; (with_reducible refine (spec_l01Below.calls g s0_0 t15 t16 3 t17 t18 t19 w0 _ ?side1 ?side2 A25.out).mono ?_); (case side1 => exact (hi_ HI0.out)); (case side2 => exact (bi_ HB.out HI0.out)); rintro e w27 ⟨rfl, hi, hb, hk⟩; refine ⟨_, rfl, ?_⟩; have n0_ := am_ (Kd.S_mono (Kd.S_keep (IsS57.apartS (show IsS57 w0 _ g s0_0 t15 t16 from (hi_ HI0.out)) (sx_ HO_6001.out) (by decide)) hk (fun _ h => h.2)) (fun _ h => h.1)); have n1_ := am_ (KeepBut.blk hk (g' := gb1) (o := .cells #[.int .i64 0, .slice none 0 0] 26 (0, 0)) bk_ NB1_0.out (by simp)); have n2_ := am_ (KeepBut.blk hk (g' := gb5) (o := .cells #[.int .i64 (wrap64 (1 + t2)), u6001] 26 (0, 0)) bk_ NB5_0.out (by simp)); have n3_ := am_ (Kd.R_mono (Kd.R_keep (IsS57.apart (show IsS57 w0 _ g s0_0 t15 t16 from (hi_ HI0.out)) (rx_ HO14.out) (by decide)) hk (fun _ h => h.2)) (fun _ h => h.1)); have n4_ := am_ (KeepBut.trans (kk_ HK.out) hk (.inl rfl)); have n5_ := am_ (hb); have n6_ := am_ (hi); clear HO_6001; clear BK1; clear BK5; clear HO14; clear HK; clear HB; clear HI0; have HO_6001 := n0_; have BK1 := n1_; have BK5 := n2_; have HO14 := n3_; have HK := n4_; have HB := n5_; have HI0 := n6_; clear n0_ n1_ n2_ n3_ n4_ n5_ n6_; (try clear hb); (try clear hb2); (try clear hk); (try clear hi)))
        go_meet
        case rel => exact ⟨_, (decide (x8_16 > 1)), (t18), (t19), sd_, H', ⟨by have := HK1.out; have := HJ13.out; have := HJ16.out; first | omega | exact Nat.le_refl _⟩, ⟨by (with_reducible repeat (first | apply Kd.R_alloc | apply Kd.R_drewN | apply Kd.R_drew)); exact HO14.out⟩, ⟨by (with_reducible repeat (first | apply Kd.S_alloc | apply Kd.S_drewN | apply Kd.S_drew)); exact Kd.S_mono HO_6001.out (fun _ hk => hk.2)⟩, ⟨bk_⟩, ⟨bk_⟩, ⟨(hi_ HI0.out)⟩, ⟨(kk_ HK.out)⟩, ⟨(bi_ HB.out HI0.out)⟩⟩
       case rest =>
        clear HC20
        try clear c12
        try clear c12b0
        try clear c16
        try clear c16b0
        try clear c16b1
        try clear c18
        try clear c26
        try clear c26b0
        try clear hcz10_0 hcz10_1
        try clear hcz23_0 hcz23_1
        try clear hfz10_0 hfz10_1
        try clear hfz23_0 hfz23_1
        obtain ⟨kq, x43_19, x1001_19, x1002_19, rfl, HA, HJ19, HO_9, HO_6001, BK1, BK5, HI0, HK, HB⟩ := hcut
        cases kq with
        | zero => exact absurd HA.out (by simp [spec_l02DrawProg.j3])
        | succ kj19 =>
         have H := HA.out
         clear HA
         simp only [spec_l02DrawProg.j3] at H
         by_cases c29 : x43_19 = true
         rotate_left
         ·replace c29 := Bool.eq_false_iff.mpr c29
          subst c29
          have H1 : (if x6001_1.length < 5864062014805 then (spec_l02DrawProg.l0 kj19 a1 (wrap64 (1 + t6)) (wrap64 (x7_1 + 1)) s0_0 x1001_19 x1002_19 (wrap64 (1 + t2)) (x6001_1 ++ [t12])) else (none)) = some (r1, r2, r3, r4) := by rw [if_neg (show ¬ (false = true) by decide)] at H; exact H
          clear H
          have H := H1
          clear H1
          by_cases c52 : x6001_1.length < 5864062014805
          rotate_left
          ·rw [if_neg c52] at H
           exact absurd H (by simp)
          rw [if_pos c52] at H
          have LMc52 := am_ c52
          clear c52
          obtain ⟨y35, hy35⟩ : ∃ y_ : List (List (S50)), y_ = (x6001_1 ++ [t12]) := ⟨_, rfl⟩
          replace H : (spec_l02DrawProg.l0 kj19 a1 (wrap64 (1 + t6)) (wrap64 (x7_1 + 1)) s0_0 x1001_19 x1002_19 (wrap64 (1 + t2)) y35) = some (r1, r2, r3, r4) := rh_ hy35
          have Ny35 := am_ hy35
          clear hy35
          have H' := am_ H
          clear H
          have hnb53 := NB5_1.out
          have hnc53 := NB1_5.out
          have hnb54 := NB5_0.out
          have hnc54 := NB0_5.out
          obtain ⟨hcz55_0, hcz55_1, hfz55_0, hfz55_1⟩ := bc2_ BK5.out
          obtain ⟨Ao57, co57, eo57⟩ := Kd.R_slice HO_9.out
          subst eo57
          go_wp2_with (first | ((with_reducible refine gate_builtin (b := .append) (xs := #[.tmp 64, .tmp 66]) rfl ?_); at_builtin; refine Kd.S_append (Kd.slice 50 k50) w.heap.size rfl (.tmp 64) (.tmp 66) 24 46 (.slice none 0 0) 24 rfl Try.underlying24 info46 rfl (by decide) (by omega) u6001 x6001_1 t12 [.slice Ao57 t12.length co57] (fun _ => True) (fun k_ => some k_ = (.slice Ao57 t12.length co57 : Value).ownBlock) rfl rfl ?aP (fun k_ hk_ => ((Kd.R_mono (ok' := fun k_ => ((fun _ => True)) k_ ∧ some k_ ≠ (u6001 : Value).ownBlock) (Kd.R_apart' (HO_9.out) (Kd.S_typed HO_6001.out) (by decide)) (fun k_ hk => ⟨trivial, hk.2⟩))).1 k_ hk_.symm) ?aF ?aO (Below.refl _ _) ?aS ?aL ?_; (case aP => exact Kd.M_row (Kd.R_mono (Kd.R_tight rfl (Kd.R_mono (ok' := fun k_ => ((fun _ => True)) k_ ∧ some k_ ≠ (u6001 : Value).ownBlock) (Kd.R_apart' (HO_9.out) (Kd.S_typed HO_6001.out) (by decide)) (fun k_ hk => ⟨trivial, hk.2⟩))) (fun _ h_ => h_))); (case aF => exact (fun _ _ => trivial)); (case aO => exact (by (with_reducible repeat (first | apply Kd.S_alloc | apply Kd.S_drewN | apply Kd.S_drew)); exact Kd.S_mono HO_6001.out (fun k_ hk => ⟨trivial, fun e_ => hk e_⟩))); (case aS => exact (keep_size (w := w) (g := g) (row := none) (kk_ HK.out))); (case aL => have := LMc52.out; omega); intro v36 w56 ho hb hg hat; rw [← Ny35.out] at ho; have n0_ := am_ (blk_grown (g := gb1) (o := .cells #[.int .i64 0, .slice none 0 0] 26 (0, 0)) bk_ hg (Kd.S_ne HO_6001.out BK1.out (by decide))); have n1_ := am_ (blk_grown (g := gb5) (o := .cells #[.int .i64 (wrap64 (1 + t2)), u6001] 26 (0, 0)) bk_ hg (Kd.S_ne HO_6001.out BK5.out (by decide))); have n2_ := am_ (IsS57.grown (hi_ HI0.out) hg (IsS57.own_neS HI0.out HO_6001.out (by decide))); have n3_ := am_ (below_weaken (bi_ HB.out HI0.out) HL.out hb); have n4_ := am_ (KeepBut.trans (kk_ HK.out) (KeepBut.of_grown hg g) (Kd.S_base2 HO_6001.out)); have n5_ := am_ (ho); clear BK1; clear BK5; clear HI0; clear HB; clear HK; clear HO_6001; clear HO_9; have BK1 := n0_; have BK5 := n1_; have HI0 := n2_; have HB := n3_; have HK := n4_; have HO37 := n5_; clear n0_ n1_ n2_ n3_ n4_ n5_; clear ho hb hg hat; obtain ⟨Ao58, co58, eo58⟩ := Kd.S_slice HO37.out; subst eo58; obtain ⟨hcz59_0, hcz59_1, hfz59_0, hfz59_1⟩ := bc2_ BK5.out))
          go_roundg kj19
          case measure => have := HK1.out; have := HJ13.out; have := HJ16.out; have := HJ19.out; omega
          case rel => exact ⟨(wrap64 (x7_1 + 1)), (x1001_19), (x1002_19), (y35), (.slice Ao58 y35.length co58), sd_, H', ⟨by have := HK1.out; have := HJ13.out; have := HJ16.out; have := HJ19.out; omega⟩, ⟨by (with_reducible repeat (first | apply Kd.S_alloc | apply Kd.S_drewN | apply Kd.S_drew)); exact Kd.S_mono (Kd.S_far (p := ⟨gb5, 1, none⟩) (Kd.S_types HO37.out BK5.out (by decide)) (fun _ hk => hk.2) (.slice Ao58 y35.length co58)) (fun _ hk => trivial)⟩, ⟨by (with_reducible repeat (first | refine blk_drewN ?_ _ | refine blk_drew ?_ | refine blk_alloc ?_ _)); refine blk_far ?_ NB1_5.out _; exact bk_⟩, ⟨by (with_reducible repeat (first | refine blk_drewN ?_ _ | refine blk_drew ?_ | refine blk_alloc ?_ _)); refine blk_put (cs := #[.int .i64 (wrap64 (1 + t2)), u6001]) ?_ 1 _ rfl; exact bk_⟩, ⟨(hi_ HI0.out)⟩, ⟨(kk_ HK.out)⟩, ⟨(bi_ HB.out HI0.out)⟩⟩
         subst c29
         have H1 : ((spec_l01Below.f s0_0 x1001_19 x1002_19 2).bind fun bt20 => ((spec_l01Below.f s0_0 bt20.2.1 bt20.2.2 3).bind fun bt23 => (if 0 < (t12.length : Int) then ((some (t12.set (0 : Int).toNat (⟨0, bt20.1, 0, wrap64 (1 + bt23.1)⟩ : S50) : List (S50))).bind fun y26 => ((spec_l01Below.f s0_0 bt23.2.1 bt23.2.2 (wrap64 (1 + t2))).bind fun bt28 => (if 1 < (t12.length : Int) then (if x6001_1.length < 5864062014805 then (spec_l02DrawProg.l0 kj19 a1 (wrap64 (1 + t6)) (wrap64 (x7_1 + 1)) s0_0 bt28.2.1 bt28.2.2 (wrap64 (1 + t2)) (x6001_1 ++ [(y26.set (1 : Int).toNat (⟨3, (rd_T50 y26 0).f1, 0, bt28.1⟩ : S50))])) else (none)) else (none)))) else (none)))) = some (r1, r2, r3, r4) := by rw [if_pos rfl] at H; exact H
         clear H
         have H := H1
         clear H1
         replace H := Option.bind_eq_some_iff.mp H
         obtain ⟨⟨t20, t21, t22⟩, A300, H⟩ := H
         replace H : ((spec_l01Below.f s0_0 t21 t22 3).bind fun bt23 => (if 0 < (t12.length : Int) then ((some (t12.set (0 : Int).toNat (⟨0, t20, 0, wrap64 (1 + bt23.1)⟩ : S50) : List (S50))).bind fun y26 => ((spec_l01Below.f s0_0 bt23.2.1 bt23.2.2 (wrap64 (1 + t2))).bind fun bt28 => (if 1 < (t12.length : Int) then (if x6001_1.length < 5864062014805 then (spec_l02DrawProg.l0 kj19 a1 (wrap64 (1 + t6)) (wrap64 (x7_1 + 1)) s0_0 bt28.2.1 bt28.2.2 (wrap64 (1 + t2)) (x6001_1 ++ [(y26.set (1 : Int).toNat (⟨3, (rd_T50 y26 0).f1, 0, bt28.1⟩ : S50))])) else (none)) else (none)))) else (none))) = some (r1, r2, r3, r4) := H
         have A30 := am_ A300
         clear A300
         replace H := Option.bind_eq_some_iff.mp H
         obtain ⟨⟨t23, t24, t25⟩, A310, H⟩ := H
         replace H : (if 0 < (t12.length : Int) then ((some (t12.set (0 : Int).toNat (⟨0, t20, 0, wrap64 (1 + t23)⟩ : S50) : List (S50))).bind fun y26 => ((spec_l01Below.f s0_0 t24 t25 (wrap64 (1 + t2))).bind fun bt28 => (if 1 < (t12.length : Int) then (if x6001_1.length < 5864062014805 then (spec_l02DrawProg.l0 kj19 a1 (wrap64 (1 + t6)) (wrap64 (x7_1 + 1)) s0_0 bt28.2.1 bt28.2.2 (wrap64 (1 + t2)) (x6001_1 ++ [(y26.set (1 : Int).toNat (⟨3, (rd_T50 y26 0).f1, 0, bt28.1⟩ : S50))])) else (none)) else (none)))) else (none)) = some (r1, r2, r3, r4) := H
         have A31 := am_ A310
         clear A310
         by_cases c32 : 0 < (t12.length : Int)
         rotate_left
         ·rw [if_neg c32] at H
          exact absurd H (by simp)
         rw [if_pos c32] at H
         have c32b0 : decide (0 < (t12.length : Int)) = true := decide_eq_true c32
         have c32b1 : decide (0 < t12.length) = true := decide_eq_true (by omega)
         clear c32
         obtain ⟨y26, hy26⟩ : ∃ y_ : List (S50), y_ = (t12.set (0 : Int).toNat (⟨0, t20, 0, wrap64 (1 + t23)⟩ : S50)) := ⟨_, rfl⟩
         replace H : ((spec_l01Below.f s0_0 t24 t25 (wrap64 (1 + t2))).bind fun bt28 => (if 1 < (t12.length : Int) then (if x6001_1.length < 5864062014805 then (spec_l02DrawProg.l0 kj19 a1 (wrap64 (1 + t6)) (wrap64 (x7_1 + 1)) s0_0 bt28.2.1 bt28.2.2 (wrap64 (1 + t2)) (x6001_1 ++ [(y26.set (1 : Int).toNat (⟨3, (rd_T50 y26 0).f1, 0, bt28.1⟩ : S50))])) else (none)) else (none))) = some (r1, r2, r3, r4) := rh_ hy26
         have Ny26 := am_ hy26
         clear hy26
         replace H := Option.bind_eq_some_iff.mp H
         obtain ⟨⟨t28, t29, t30⟩, A340, H⟩ := H
         replace H : (if 1 < (t12.length : Int) then (if x6001_1.length < 5864062014805 then (spec_l02DrawProg.l0 kj19 a1 (wrap64 (1 + t6)) (wrap64 (x7_1 + 1)) s0_0 t29 t30 (wrap64 (1 + t2)) (x6001_1 ++ [(y26.set (1 : Int).toNat (⟨3, (rd_T50 y26 0).f1, 0, t28⟩ : S50))])) else (none)) else (none)) = some (r1, r2, r3, r4) := H
         have A34 := am_ A340
         clear A340
         by_cases c35 : 1 < (t12.length : Int)
         rotate_left
         ·rw [if_neg c35] at H
          exact absurd H (by simp)
         rw [if_pos c35] at H
         have c35b0 : decide (1 < (t12.length : Int)) = true := decide_eq_true c35
         have c35b1 : decide (1 < t12.length) = true := decide_eq_true (by omega)
         clear c35
         obtain ⟨y31, hy31⟩ : ∃ y_ : List (S50), y_ = (y26.set (1 : Int).toNat (⟨3, (rd_T50 y26 0).f1, 0, t28⟩ : S50)) := ⟨_, rfl⟩
         replace H : (if x6001_1.length < 5864062014805 then (spec_l02DrawProg.l0 kj19 a1 (wrap64 (1 + t6)) (wrap64 (x7_1 + 1)) s0_0 t29 t30 (wrap64 (1 + t2)) (x6001_1 ++ [y31])) else (none)) = some (r1, r2, r3, r4) := rh_ hy31
         have Ny31 := am_ hy31
         clear hy31
         by_cases c37 : x6001_1.length < 5864062014805
         rotate_left
         ·rw [if_neg c37] at H
          exact absurd H (by simp)
         rw [if_pos c37] at H
         have LMc37 := am_ c37
         clear c37
         obtain ⟨y32, hy32⟩ : ∃ y_ : List (List (S50)), y_ = (x6001_1 ++ [y31]) := ⟨_, rfl⟩
         replace H : (spec_l02DrawProg.l0 kj19 a1 (wrap64 (1 + t6)) (wrap64 (x7_1 + 1)) s0_0 t29 t30 (wrap64 (1 + t2)) y32) = some (r1, r2, r3, r4) := rh_ hy32
         have Ny32 := am_ hy32
         clear hy32
         have H' := am_ H
         clear H
         try go_wp2_with (first | ((with_reducible refine gate_callee (f := 29) rfl ?_); refine goesL_ (some 46) rfl rfl Try.func29 kr_ rfl #[.pointer (some ⟨g, 0, none⟩), .int .i64 2] rfl ar_ ?_; (with_reducible refine (spec_l01Below.calls g s0_0 x1001_19 x1002_19 2 t20 t21 t22 w0 _ ?side1 ?side2 A30.out).mono ?_); (case side1 => exact (hi_ HI0.out)); (case side2 => exact (bi_ HB.out HI0.out)); rintro e w38 ⟨rfl, hi, hb, hk⟩; refine ⟨_, rfl, ?_⟩; have n0_ := am_ (Kd.R_mono (Kd.R_keep (IsS57.apart (show IsS57 w0 _ g s0_0 x1001_19 x1002_19 from (hi_ HI0.out)) (rx_ HO_9.out) (by decide)) hk (fun _ h => h.2)) (fun _ h => h.1)); have n1_ := am_ (Kd.S_mono (Kd.S_keep (IsS57.apartS (show IsS57 w0 _ g s0_0 x1001_19 x1002_19 from (hi_ HI0.out)) (sx_ HO_6001.out) (by decide)) hk (fun _ h => h.2)) (fun _ h => h.1)); have n2_ := am_ (KeepBut.blk hk (g' := gb1) (o := .cells #[.int .i64 0, .slice none 0 0] 26 (0, 0)) bk_ NB1_0.out (by simp)); have n3_ := am_ (KeepBut.blk hk (g' := gb5) (o := .cells #[.int .i64 (wrap64 (1 + t2)), u6001] 26 (0, 0)) bk_ NB5_0.out (by simp)); have n4_ := am_ (KeepBut.trans (kk_ HK.out) hk (.inl rfl)); have n5_ := am_ (hb); have n6_ := am_ (hi); clear HO_9; clear HO_6001; clear BK1; clear BK5; clear HK; clear HB; clear HI0; have HO_9 := n0_; have HO_6001 := n1_; have BK1 := n2_; have BK5 := n3_; have HK := n4_; have HB := n5_; have HI0 := n6_; clear n0_ n1_ n2_ n3_ n4_ n5_ n6_; (try clear hb); (try clear hb2); (try clear hk); (try clear hi)) | ((with_reducible refine gate_callee (f := 29) rfl ?_); refine goesL_ (some 48) rfl rfl Try.func29 kr_ rfl #[.pointer (some ⟨g, 0, none⟩), .int .i64 3] rfl ar_ ?_; (with_reducible refine (spec_l01Below.calls g s0_0 t21 t22 3 t23 t24 t25 w0 _ ?side1 ?side2 A31.out).mono ?_); (case side1 => exact (hi_ HI0.out)); (case side2 => exact (bi_ HB.out HI0.out)); rintro e w39 ⟨rfl, hi, hb, hk⟩; refine ⟨_, rfl, ?_⟩; have n0_ := am_ (Kd.R_mono (Kd.R_keep (IsS57.apart (show IsS57 w0 _ g s0_0 t21 t22 from (hi_ HI0.out)) (rx_ HO_9.out) (by decide)) hk (fun _ h => h.2)) (fun _ h => h.1)); have n1_ := am_ (Kd.S_mono (Kd.S_keep (IsS57.apartS (show IsS57 w0 _ g s0_0 t21 t22 from (hi_ HI0.out)) (sx_ HO_6001.out) (by decide)) hk (fun _ h => h.2)) (fun _ h => h.1)); have n2_ := am_ (KeepBut.blk hk (g' := gb1) (o := .cells #[.int .i64 0, .slice none 0 0] 26 (0, 0)) bk_ NB1_0.out (by simp)); have n3_ := am_ (KeepBut.blk hk (g' := gb5) (o := .cells #[.int .i64 (wrap64 (1 + t2)), u6001] 26 (0, 0)) bk_ NB5_0.out (by simp)); have n4_ := am_ (KeepBut.trans (kk_ HK.out) hk (.inl rfl)); have n5_ := am_ (hb); have n6_ := am_ (hi); clear HO_9; clear HO_6001; clear BK1; clear BK5; clear HK; clear HB; clear HI0; have HO_9 := n0_; have HO_6001 := n1_; have BK1 := n2_; have BK5 := n3_; have HK := n4_; have HB := n5_; have HI0 := n6_; clear n0_ n1_ n2_ n3_ n4_ n5_ n6_; (try clear hb); (try clear hb2); (try clear hk); (try clear hi); have p33 : 0 ≤ (0 : Int) := (by omega); have q33 : (0 : Int) < ((t12.length : Int) : Int) := od_; have qi33 : (0 < t12.length) = True := eq_true (by omega); obtain ⟨go33, co33, eo33, gb33, gl33, cl33, HG33⟩ := Kd.R_form HO_9.out (by omega); (first | cases eo33 | (injection eo33 with ea_ en_ ec_; (first | subst ea_ | (injection ea_ with ea_; subst ea_)); subst ec_; clear en_)); have GB33 := am_ gb33; have GG33 := am_ HG33; clear gb33 gl33 HG33; obtain ⟨ce33, hcl33, hM33, hcc33, hfr33⟩ := Kd.R_elem HO_9.out z50 (0 : Int) p33 q33; obtain rfl := k50_openM hM33; have hx33_0 : w39.cell? ⟨go33, (0 : Int).toNat * 4, none⟩ = some (.int .i64 ((rd_T50 t12 0).f0)) := hcc33 0 _ rfl; have hx33_1 : w39.cell? ⟨go33, (0 : Int).toNat * 4 + 1, none⟩ = some (.int .i64 ((rd_T50 t12 0).f1)) := hcc33 1 _ rfl; have hx33_2 : w39.cell? ⟨go33, (0 : Int).toNat * 4 + 2, none⟩ = some (.int .i64 ((rd_T50 t12 0).f2)) := hcc33 2 _ rfl; have hx33_3 : w39.cell? ⟨go33, (0 : Int).toNat * 4 + 3, none⟩ = some (.int .i64 ((rd_T50 t12 0).f3)) := hcc33 3 _ rfl; have hf33_0 : w39.frozen? ⟨go33, (0 : Int).toNat * 4, none⟩ = false := hfr33 0; have hf33_1 : w39.frozen? ⟨go33, (0 : Int).toNat * 4 + 1, none⟩ = false := hfr33 1; have hf33_2 : w39.frozen? ⟨go33, (0 : Int).toNat * 4 + 2, none⟩ = false := hfr33 2; have hf33_3 : w39.frozen? ⟨go33, (0 : Int).toNat * 4 + 3, none⟩ = false := hfr33 3; (try clear hcl33); (try clear hcc33); (try clear hfr33); (try clear hM33); (try rw [show ((0 : Int)).toNat = 0 from rfl] at hx33_0); (try simp only [Nat.reduceMul, Nat.zero_mul, Nat.zero_add, Nat.reduceAdd] at hx33_0); (try rw [show ((0 : Int)).toNat = 0 from rfl] at hf33_0); (try simp only [Nat.reduceMul, Nat.zero_mul, Nat.zero_add, Nat.reduceAdd] at hf33_0); (try rw [show ((0 : Int)).toNat = 0 from rfl] at hx33_1); (try simp only [Nat.reduceMul, Nat.zero_mul, Nat.zero_add, Nat.reduceAdd] at hx33_1); (try rw [show ((0 : Int)).toNat = 0 from rfl] at hf33_1); (try simp only [Nat.reduceMul, Nat.zero_mul, Nat.zero_add, Nat.reduceAdd] at hf33_1); (try rw [show ((0 : Int)).toNat = 0 from rfl] at hx33_2); (try simp only [Nat.reduceMul, Nat.zero_mul, Nat.zero_add, Nat.reduceAdd] at hx33_2); (try rw [show ((0 : Int)).toNat = 0 from rfl] at hf33_2); (try simp only [Nat.reduceMul, Nat.zero_mul, Nat.zero_add, Nat.reduceAdd] at hf33_2); (try rw [show ((0 : Int)).toNat = 0 from rfl] at hx33_3); (try simp only [Nat.reduceMul, Nat.zero_mul, Nat.zero_add, Nat.reduceAdd] at hx33_3); (try rw [show ((0 : Int)).toNat = 0 from rfl] at hf33_3); (try simp only [Nat.reduceMul, Nat.zero_mul, Nat.zero_add, Nat.reduceAdd] at hf33_3); replace p33 := eq_true p33; replace q33 := eq_true q33; have HX40 := am_ (show Kd.R k50 50 w39 w.heap.size (fun _ => True) (.slice (some ⟨go33, 0, none⟩) t12.length co33) t12 from (rx_ HO_9.out)); obtain ⟨ce40, hcl40, hM40, hcc40, hfr40⟩ := Kd.R_elem HX40.out z50 (0 : Int) (by omega) (by have h_ : (0 : Int) < ((t12.length : Int) : Int) := od_; first | exact h_ | (have e_ := (Kd.R_reads' HO_9.out).1; omega) | simpa using h_); obtain rfl := k50_openM hM40; have HP40 := Kd.R_seg HX40.out (0 : Int) (by omega) (by have h_ : (0 : Int) < ((t12.length : Int) : Int) := od_; first | exact h_ | (have e_ := (Kd.R_reads' HO_9.out).1; omega) | simpa using h_) (seg := [.int .i64 0, .int .i64 t20, .int .i64 0, .int .i64 (wrap64 (1 + t23))]) (j := 0) hcl40 hcc40 (show 4 ≤ 4 from by decide) (x' := (⟨0, t20, 0, wrap64 (1 + t23)⟩ : S50)) (k50_mkM _ _ _ (⟨0, t20, 0, wrap64 (1 + t23)⟩ : S50) ) (fun _ hk => hk); have hx40_0 := hcc40 0 _ rfl; (try simp only [show (k50).sz = 4 from rfl, Nat.mul_one, Nat.add_zero] at hx40_0); (try rw [show ((0 : Int)).toNat = 0 from rfl] at hx40_0); (try simp only [Nat.reduceMul, Nat.zero_mul, Nat.zero_add, Nat.reduceAdd] at hx40_0); have hf40_0 := hfr40 0; (try simp only [show (k50).sz = 4 from rfl, Nat.mul_one, Nat.add_zero] at hf40_0); (try rw [show ((0 : Int)).toNat = 0 from rfl] at hf40_0); (try simp only [Nat.reduceMul, Nat.zero_mul, Nat.zero_add, Nat.reduceAdd] at hf40_0); have hx40_1 := hcc40 1 _ rfl; (try simp only [show (k50).sz = 4 from rfl, Nat.mul_one, Nat.add_zero] at hx40_1); (try rw [show ((0 : Int)).toNat = 0 from rfl] at hx40_1); (try simp only [Nat.reduceMul, Nat.zero_mul, Nat.zero_add, Nat.reduceAdd] at hx40_1); have hf40_1 := hfr40 1; (try simp only [show (k50).sz = 4 from rfl, Nat.mul_one, Nat.add_zero] at hf40_1); (try rw [show ((0 : Int)).toNat = 0 from rfl] at hf40_1); (try simp only [Nat.reduceMul, Nat.zero_mul, Nat.zero_add, Nat.reduceAdd] at hf40_1); have hx40_2 := hcc40 2 _ rfl; (try simp only [show (k50).sz = 4 from rfl, Nat.mul_one, Nat.add_zero] at hx40_2); (try rw [show ((0 : Int)).toNat = 0 from rfl] at hx40_2); (try simp only [Nat.reduceMul, Nat.zero_mul, Nat.zero_add, Nat.reduceAdd] at hx40_2); have hf40_2 := hfr40 2; (try simp only [show (k50).sz = 4 from rfl, Nat.mul_one, Nat.add_zero] at hf40_2); (try rw [show ((0 : Int)).toNat = 0 from rfl] at hf40_2); (try simp only [Nat.reduceMul, Nat.zero_mul, Nat.zero_add, Nat.reduceAdd] at hf40_2); have hx40_3 := hcc40 3 _ rfl; (try simp only [show (k50).sz = 4 from rfl, Nat.mul_one, Nat.add_zero] at hx40_3); (try rw [show ((0 : Int)).toNat = 0 from rfl] at hx40_3); (try simp only [Nat.reduceMul, Nat.zero_mul, Nat.zero_add, Nat.reduceAdd] at hx40_3); have hf40_3 := hfr40 3; (try simp only [show (k50).sz = 4 from rfl, Nat.mul_one, Nat.add_zero] at hf40_3); (try rw [show ((0 : Int)).toNat = 0 from rfl] at hf40_3); (try simp only [Nat.reduceMul, Nat.zero_mul, Nat.zero_add, Nat.reduceAdd] at hf40_3); (try clear hcl40); (try clear hcc40); (try clear hfr40); (try clear hM40)) | ((with_reducible refine gate_store (t := 50) (p := 51) rfl ?_); refine store_event (t := 50) (p := 51) (v := ?vo_w41) (w1 := ((((w39.setCell ⟨go33, 0, none⟩ (.int .i64 0)).setCell ⟨go33, 1, none⟩ (.int .i64 t20)).setCell ⟨go33, 2, none⟩ (.int .i64 0)).setCell ⟨go33, 3, none⟩ (.int .i64 (wrap64 (1 + t23))))) ?hg ?ho ?hn ?hr ?_; (case ho => rfl); (case hg => rfl); (case hn => rfl); (case hr => first | (go_simp; done) | (go_simp; rfl)); intro w41 hw; have hg : w39.grownBy w41 (some go33) := (by rw [hw]; exact HP40.2); have hp_ : Kd.R k50 50 w41 w.heap.size (fun _ => True) (.slice (some ⟨go33, 0, none⟩) t12.length co33) y26 := (by rw [hw, Ny26.out]; exact HP40.1); clear HP40; have n0_ := am_ (hp_); have n1_ := am_ (Kd.S_after (v := (.slice (some ⟨go33, 0, none⟩) t12.length co33)) (v1 := (.slice (some ⟨go33, 0, none⟩) t12.length co33)) (ok := (fun _ => True)) (by (with_reducible repeat (first | apply Kd.S_alloc | apply Kd.S_drewN | apply Kd.S_drew)); exact Kd.S_mono HO_6001.out (fun _ hk => ⟨trivial, hk⟩)) hg (.inl rfl)); have n2_ := am_ (blk_grown (g := gb1) (o := .cells #[.int .i64 0, .slice none 0 0] 26 (0, 0)) bk_ hg (Kd.R_ne HO_9.out BK1.out (by decide))); have n3_ := am_ (blk_grown (g := gb5) (o := .cells #[.int .i64 (wrap64 (1 + t2)), u6001] 26 (0, 0)) bk_ hg (Kd.R_ne HO_9.out BK5.out (by decide))); have n4_ := am_ (IsS57.grown (hi_ HI0.out) hg (IsS57.own_ne HI0.out HO_9.out (by decide))); have n5_ := am_ ((by rw [hw]; exact below_set (below_set (below_set (below_set (HB.out) (Nat.le_trans HL.out GB33.out)) (Nat.le_trans HL.out GB33.out)) (Nat.le_trans HL.out GB33.out)) (Nat.le_trans HL.out GB33.out) : Below w0.heap.size w0 w41)); have n6_ := am_ (KeepBut.trans (kk_ HK.out) (KeepBut.of_grown hg g) (Kd.R_base2 HO_9.out)); clear HO_9; clear HO_6001; clear BK1; clear BK5; clear HI0; clear HB; clear HK; have HO_9 := n0_; have HO_6001 := n1_; have BK1 := n2_; have BK5 := n3_; have HI0 := n4_; have HB := n5_; have HK := n6_; clear n0_ n1_ n2_ n3_ n4_ n5_ n6_; clear hg hw hp_))
         have n0_ := am_ (Kd.R_drew HO_9.out)
         have n1_ := am_ (Kd.S_drew HO_6001.out)
         have n2_ := am_ (blk_drew BK1.out)
         have n3_ := am_ (blk_drew BK5.out)
         have n4_ := am_ (IsS57.drew HI0.out)
         have n5_ := am_ (keep_drew HK.out)
         have n6_ := am_ (below_drew1 HB.out)
         clear HO_9
         clear HO_6001
         clear BK1
         clear BK5
         clear HI0
         clear HK
         clear HB
         have HO_9 := n0_
         have HO_6001 := n1_
         have BK1 := n2_
         have BK5 := n3_
         have HI0 := n4_
         have HK := n5_
         have HB := n6_
         clear n0_ n1_ n2_ n3_ n4_ n5_ n6_
         have p27 : 0 ≤ (0 : Int) := (by omega)
         have q27 : 0 < (y26.length : Int) := (by have h_ : (0 : Int) < ((t12.length : Int) : Int) := od_; first | (have e_ := (Kd.R_reads' HO_9.out).1; omega) | simpa only [Ny26.out, List.length_set] using h_)
         have ql27 : ((0 : Int) < ((t12.length : Int) : Int)) = True := eq_true (od_)
         (try have qn27 : (0 < t12.length) = True := eq_true (by have h_ : (0 : Int) < ((t12.length : Int) : Int) := od_; omega))
         obtain ⟨ad27, e27, hx27_0, hx27_1, hx27_2, hx27_3⟩ := at_T50 (Kd.R_reads' HO_9.out).2.2 0 p27 q27
         obtain rfl : (⟨go33, 0, none⟩ : Addr) = ad27 := (by injection e27)
         (first | simp only [add_plain] at hx27_0 | simp only [add_at] at hx27_0 | simp only [Addr.add, Nat.zero_add] at hx27_0 | skip)
         (first | simp only [add_plain] at hx27_1 | simp only [add_at] at hx27_1 | simp only [Addr.add, Nat.zero_add] at hx27_1 | skip)
         (first | simp only [add_plain] at hx27_2 | simp only [add_at] at hx27_2 | simp only [Addr.add, Nat.zero_add] at hx27_2 | skip)
         (first | simp only [add_plain] at hx27_3 | simp only [add_at] at hx27_3 | simp only [Addr.add, Nat.zero_add] at hx27_3 | skip)
         have qi27 : (0 < y26.length) = True := eq_true (by omega)
         (try rw [show ((0 : Int)).toNat = 0 from rfl] at hx27_0)
         (try rw [show 0 * 4 = 0 from rfl] at hx27_0)
         (try rw [Addr.add_zero'] at hx27_0)
         (try rw [show ((0 : Int)).toNat = 0 from rfl] at hx27_1)
         (try rw [show 0 * 4 = 0 from rfl] at hx27_1)
         (try rw [Addr.add_zero'] at hx27_1)
         (try rw [show ((0 : Int)).toNat = 0 from rfl] at hx27_2)
         (try rw [show 0 * 4 = 0 from rfl] at hx27_2)
         (try rw [Addr.add_zero'] at hx27_2)
         (try rw [show ((0 : Int)).toNat = 0 from rfl] at hx27_3)
         (try rw [show 0 * 4 = 0 from rfl] at hx27_3)
         (try rw [Addr.add_zero'] at hx27_3)
         replace p27 := eq_true p27
         replace q27 := eq_true q27
         refine start_ (n := 12) (S := fun w' => w'.cell? ⟨gb5, 0, none⟩ = some (.int .i64 (wrap64 (1 + t2))) ∧ w'.cell? ⟨gb5, 1, none⟩ = some (u6001) ∧ w'.cell? ⟨go33, 0, none⟩ = some (.int .i64 ((rd_T50 y26 0).f0)) ∧ w'.cell? ⟨go33, 1, none⟩ = some (.int .i64 ((rd_T50 y26 0).f1)) ∧ w'.cell? ⟨go33, 2, none⟩ = some (.int .i64 ((rd_T50 y26 0).f2)) ∧ w'.cell? ⟨go33, 3, none⟩ = some (.int .i64 ((rd_T50 y26 0).f3))) (ds := [11]) (bm_ 12 0) kr_ rfl rfl ⟨(blk_cell BK5.out 0).trans rfl, (blk_cell BK5.out 1).trans rfl, hx27_0, hx27_1, hx27_2, hx27_3⟩ (fun hHeld => ?_); refine with_tabW spec_l02DrawProg.tab12 spec_l02DrawProg.bits12 (fun HT_ HW_ => ?_)
         generalize w41.drew = w42 at HO_9 HO_6001 BK1 BK5 HI0 HK HB hx27_0 hx27_1 hx27_2 hx27_3 hHeld ⊢
         refine pure_ (i := 0) (N := some 52) (bm_ 12 1) rfl rfl (any_of HT_.out kr_) (fun _ _ _ h => h) (Or.inl ⟨rfl, yi_⟩) pu_ ?_
         refine pure_ (i := 1) (N := some 53) (bm_ 12 3) rfl rfl (any_of HT_.out kr_) (fun _ _ _ h => h) (Or.inl ⟨rfl, yi_⟩) pu_ ?_
         refine pure_ (i := 2) (N := some 54) (bm_ 12 7) rfl rfl (any_of HT_.out kr_) (fun _ _ _ h => h) (Or.inl ⟨rfl, yi_⟩) pu_ ?_
         refine pure_ (i := 3) (N := some 55) (bm_ 12 15) rfl rfl (any_of HT_.out kr_) (fun _ _ _ h => h) (Or.inl ⟨rfl, yi_⟩) pu_ ?_
         refine pure_ (i := 5) (N := some 57) (bm_ 12 47) rfl rfl (any_of HT_.out kr_) (fun _ _ _ h => h) (Or.inl ⟨rfl, yi_⟩) pu_ ?_
         refine pure_ (i := 6) (N := some 58) (bm_ 12 111) rfl rfl (any_of HT_.out kr_) (fun _ _ _ h => h) (Or.inl ⟨rfl, yi_⟩) pu_ ?_
         refine take_ (i := 4) (N := some 56) (v := ?_) (a' := ?_) (bm_ 12 127) rfl rfl (take_ofW HT_.out HW_.out kr_) (fun _ _ _ h => h) (Or.inl ⟨by rfl, ?_⟩) hHeld ?_ ?_
         rotate_left
         ·rintro w' ⟨s0, s1, s2, s3, s4, s5⟩
          go_simp
          with_reducible rfl
         rotate_left
         ·exact pu_
         refine take_ (i := 7) (N := some 59) (v := ?_) (a' := ?_) (bm_ 12 255) rfl rfl (take_ofW HT_.out HW_.out kr_) (fun _ _ _ h => h) (Or.inl ⟨by rfl, ?_⟩) hHeld ?_ ?_
         rotate_left
         ·rintro w' ⟨s0, s1, s2, s3, s4, s5⟩
          go_simp
          with_reducible rfl
         rotate_left
         ·exact pu_
         refine one_ (i := 8) (N := some 60) (bm_ 12 511) rfl rfl (one_of HT_.out kr_) (by decide) (fun K hK => ?_)
         refine goes_ Try.func29 kr_ rfl #[.pointer (some ⟨g, 0, none⟩), .int .i64 (wrap64 (1 + t2))] (by rfl) rfl rfl ar_ ?_
         with_reducible refine (spec_l01Below.calls g s0_0 t24 t25 (wrap64 (1 + t2)) t28 t29 t30 w0 _ ?side1 ?side2 A34.out).mono ?_
         (case side1 => exact (hi_ HI0.out))
         (case side2 => exact (bi_ HB.out HI0.out))
         rintro e w43 ⟨rfl, hi, hb, hk⟩
         have HS2_ := keep_cell hk (hHeld.2.2.1) (by first | (rw [add_block]; exact Kd.own_blk (IsS57.own_ne HI0.out HO_9.out (by decide))) | (show (Addr.add _ _).block ≠ _; rw [add_block]; exact Kd.own_blk (IsS57.own_ne HI0.out HO_9.out (by decide))) | exact Kd.own_blk (IsS57.own_ne HI0.out HO_9.out (by decide)) | exact fun e_ => (IsS57.own_ne HI0.out HO_9.out (by decide)) (congrArg some e_.symm))
         have HS3_ := keep_cell hk (hHeld.2.2.2.1) (by first | (rw [add_block]; exact Kd.own_blk (IsS57.own_ne HI0.out HO_9.out (by decide))) | (show (Addr.add _ _).block ≠ _; rw [add_block]; exact Kd.own_blk (IsS57.own_ne HI0.out HO_9.out (by decide))) | exact Kd.own_blk (IsS57.own_ne HI0.out HO_9.out (by decide)) | exact fun e_ => (IsS57.own_ne HI0.out HO_9.out (by decide)) (congrArg some e_.symm))
         have HS4_ := keep_cell hk (hHeld.2.2.2.2.1) (by first | (rw [add_block]; exact Kd.own_blk (IsS57.own_ne HI0.out HO_9.out (by decide))) | (show (Addr.add _ _).block ≠ _; rw [add_block]; exact Kd.own_blk (IsS57.own_ne HI0.out HO_9.out (by decide))) | exact Kd.own_blk (IsS57.own_ne HI0.out HO_9.out (by decide)) | exact fun e_ => (IsS57.own_ne HI0.out HO_9.out (by decide)) (congrArg some e_.symm))
         have HS5_ := keep_cell hk (hHeld.2.2.2.2.2) (by first | (rw [add_block]; exact Kd.own_blk (IsS57.own_ne HI0.out HO_9.out (by decide))) | (show (Addr.add _ _).block ≠ _; rw [add_block]; exact Kd.own_blk (IsS57.own_ne HI0.out HO_9.out (by decide))) | exact Kd.own_blk (IsS57.own_ne HI0.out HO_9.out (by decide)) | exact fun e_ => (IsS57.own_ne HI0.out HO_9.out (by decide)) (congrArg some e_.symm))
         refine ⟨_, rfl, ?_⟩
         have n0_ := am_ (Kd.R_mono (Kd.R_keep (IsS57.apart (show IsS57 w0 _ g s0_0 t24 t25 from (hi_ HI0.out)) (rx_ HO_9.out) (by decide)) hk (fun _ h => h.2)) (fun _ h => h.1))
         have n1_ := am_ (Kd.S_mono (Kd.S_keep (IsS57.apartS (show IsS57 w0 _ g s0_0 t24 t25 from (hi_ HI0.out)) (sx_ HO_6001.out) (by decide)) hk (fun _ h => h.2)) (fun _ h => h.1))
         have n2_ := am_ (KeepBut.blk hk (g' := gb1) (o := .cells #[.int .i64 0, .slice none 0 0] 26 (0, 0)) bk_ NB1_0.out (by simp))
         have n3_ := am_ (KeepBut.blk hk (g' := gb5) (o := .cells #[.int .i64 (wrap64 (1 + t2)), u6001] 26 (0, 0)) bk_ NB5_0.out (by simp))
         have n4_ := am_ (KeepBut.trans (kk_ HK.out) hk (.inl rfl))
         have n5_ := am_ (hb)
         have n6_ := am_ (hi)
         clear HO_9
         clear HO_6001
         clear BK1
         clear BK5
         clear HK
         clear HB
         clear HI0
         have HO_9 := n0_
         have HO_6001 := n1_
         have BK1 := n2_
         have BK5 := n3_
         have HK := n4_
         have HB := n5_
         have HI0 := n6_
         clear n0_ n1_ n2_ n3_ n4_ n5_ n6_
         (try clear hb)
         (try clear hb2)
         (try clear hk)
         (try clear hi)
         have p36 : 0 ≤ (1 : Int) := (by omega)
         have q36 : (1 : Int) < ((t12.length : Int) : Int) := od_
         have qi36 : (1 < t12.length) = True := eq_true (by omega)
         obtain ⟨ce36, hcl36, hM36, hcc36, hfr36⟩ := Kd.R_elem HO_9.out z50 (1 : Int) p36 q36
         obtain rfl := k50_openM hM36
         have hx36_0 : World.cell? _ ⟨go33, (1 : Int).toNat * 4, none⟩ = some (.int .i64 ((rd_T50 y26 1).f0)) := hcc36 0 _ rfl
         have hx36_1 : World.cell? _ ⟨go33, (1 : Int).toNat * 4 + 1, none⟩ = some (.int .i64 ((rd_T50 y26 1).f1)) := hcc36 1 _ rfl
         have hx36_2 : World.cell? _ ⟨go33, (1 : Int).toNat * 4 + 2, none⟩ = some (.int .i64 ((rd_T50 y26 1).f2)) := hcc36 2 _ rfl
         have hx36_3 : World.cell? _ ⟨go33, (1 : Int).toNat * 4 + 3, none⟩ = some (.int .i64 ((rd_T50 y26 1).f3)) := hcc36 3 _ rfl
         have hf36_0 : World.frozen? _ ⟨go33, (1 : Int).toNat * 4, none⟩ = false := hfr36 0
         have hf36_1 : World.frozen? _ ⟨go33, (1 : Int).toNat * 4 + 1, none⟩ = false := hfr36 1
         have hf36_2 : World.frozen? _ ⟨go33, (1 : Int).toNat * 4 + 2, none⟩ = false := hfr36 2
         have hf36_3 : World.frozen? _ ⟨go33, (1 : Int).toNat * 4 + 3, none⟩ = false := hfr36 3
         (try clear hcl36); (try clear hcc36); (try clear hfr36); (try clear hM36)
         (try rw [show ((1 : Int)).toNat = 1 from rfl] at hx36_0)
         (try simp only [Nat.reduceMul, Nat.zero_mul, Nat.zero_add, Nat.reduceAdd] at hx36_0)
         (try rw [show ((1 : Int)).toNat = 1 from rfl] at hf36_0)
         (try simp only [Nat.reduceMul, Nat.zero_mul, Nat.zero_add, Nat.reduceAdd] at hf36_0)
         (try rw [show ((1 : Int)).toNat = 1 from rfl] at hx36_1)
         (try simp only [Nat.reduceMul, Nat.zero_mul, Nat.zero_add, Nat.reduceAdd] at hx36_1)
         (try rw [show ((1 : Int)).toNat = 1 from rfl] at hf36_1)
         (try simp only [Nat.reduceMul, Nat.zero_mul, Nat.zero_add, Nat.reduceAdd] at hf36_1)
         (try rw [show ((1 : Int)).toNat = 1 from rfl] at hx36_2)
         (try simp only [Nat.reduceMul, Nat.zero_mul, Nat.zero_add, Nat.reduceAdd] at hx36_2)
         (try rw [show ((1 : Int)).toNat = 1 from rfl] at hf36_2)
         (try simp only [Nat.reduceMul, Nat.zero_mul, Nat.zero_add, Nat.reduceAdd] at hf36_2)
         (try rw [show ((1 : Int)).toNat = 1 from rfl] at hx36_3)
         (try simp only [Nat.reduceMul, Nat.zero_mul, Nat.zero_add, Nat.reduceAdd] at hx36_3)
         (try rw [show ((1 : Int)).toNat = 1 from rfl] at hf36_3)
         (try simp only [Nat.reduceMul, Nat.zero_mul, Nat.zero_add, Nat.reduceAdd] at hf36_3)
         replace p36 := eq_true p36
         replace q36 := eq_true q36
         have HN0_go33 := am_ (show g ≠ go33 from by have h_ := IsS57.own_ne HI0.out HO_9.out (by decide); intro e_; exact h_ (by rw [e_]; rfl))
         obtain ⟨ce44, hcl44, hM44, hcc44, hfr44⟩ := Kd.R_elem HO_9.out z50 (1 : Int) (by omega) (by have h_ : (1 : Int) < ((t12.length : Int) : Int) := od_; first | exact h_ | (have e_ := (Kd.R_reads' HO_9.out).1; omega) | simpa using h_)
         obtain rfl := k50_openM hM44
         have HP44 := (Kd.R_seg HO_9.out (1 : Int) (by omega) (by have h_ : (1 : Int) < ((t12.length : Int) : Int) := od_; first | exact h_ | (have e_ := (Kd.R_reads' HO_9.out).1; omega) | simpa using h_) (seg := [.int .i64 3, .int .i64 ((rd_T50 y26 0).f1), .int .i64 0, .int .i64 t28]) (j := 0) hcl44 hcc44 (show 4 ≤ 4 from by decide) (x' := (⟨3, (rd_T50 y26 0).f1, 0, t28⟩ : S50)) (k50_mkM _ _ _ (⟨3, (rd_T50 y26 0).f1, 0, t28⟩ : S50) ) (fun _ hk => hk)).1
         rw [← Ny31.out] at HP44
         have HQ44 := am_ HP44
         clear hcl44 hcc44 hfr44 hM44 HP44
         refine hK.out _ _ ⟨(blk_cell BK5.out 0).trans rfl, (blk_cell BK5.out 1).trans rfl, HS2_, HS3_, HS4_, HS5_⟩ (fun hHeld => ?_)
         clear hK K
         refine norm_ (a' := ?_) ?_ ?_
         rotate_left
         ·show Act.put _ (some 60) _ = _
          simp only [Act.put, List.setIfInBounds_toArray, List.set_cons_zero, List.set_cons_succ, i64_w, i32_w]
          rfl
         refine pure_ (i := 9) (N := some 61) (bm_ 12 1023) rfl rfl (any_of HT_.out kr_) (fun _ _ _ h => h) (Or.inl ⟨rfl, yi_⟩) pu_ ?_
         refine pure_ (i := 10) (N := some 62) (bm_ 12 2047) rfl rfl (any_of HT_.out kr_) (fun _ _ _ h => h) (Or.inl ⟨rfl, yi_⟩) pu_ ?_
         refine last_ (i := 11) (N := none) (bm_ 12 4095) rfl rfl (one_of HT_.out kr_) (by decide) (fun K hK => ?_)
         refine skip_ (w1 := ?_) (by rfl) rfl ?_ ?_
         rotate_left
         ·go_simp
          rfl
         refine hK.out _ _ ?_
         clear hK K
         refine done_ (done_of HT_.out kr_) ?_
         have n0_ : Aside0 (Kd.R k50 50 ((((w43.setCell ⟨go33, 4, none⟩ (.int .i64 3)).setCell ⟨go33, 5, none⟩ (.int .i64 ((rd_T50 y26 0).f1))).setCell ⟨go33, 6, none⟩ (.int .i64 0)).setCell ⟨go33, 7, none⟩ (.int .i64 t28)) w.heap.size (fun _ => True) (.slice (some ⟨go33, 0, none⟩) t12.length co33) y31) := ⟨by (with_reducible repeat (first | apply Kd.R_alloc | apply Kd.R_drewN | apply Kd.R_drew)); exact HQ44.out⟩
         have n1_ : Aside0 (Kd.S (Kd.slice 50 k50) 46 ((((w43.setCell ⟨go33, 4, none⟩ (.int .i64 3)).setCell ⟨go33, 5, none⟩ (.int .i64 ((rd_T50 y26 0).f1))).setCell ⟨go33, 6, none⟩ (.int .i64 0)).setCell ⟨go33, 7, none⟩ (.int .i64 t28)) w.heap.size (fun k_ => some k_ ≠ (.slice (some ⟨go33, 0, none⟩) t12.length co33 : Value).ownBlock) u6001 x6001_1) := ⟨by (with_reducible repeat (first | apply Kd.S_alloc | apply Kd.S_drewN | apply Kd.S_drew)); exact Kd.S_mono (Kd.S_far (p := ⟨go33, 7, none⟩) (Kd.S_far (p := ⟨go33, 6, none⟩) (Kd.S_far (p := ⟨go33, 5, none⟩) (Kd.S_far (p := ⟨go33, 4, none⟩) (Kd.S_mono HO_6001.out (fun k_ hk => (⟨hk, fun e_ => hk.2 (by rw [e_]; rfl)⟩ : _ ∧ k_ ≠ go33))) (fun _ hk => hk.2) (.int .i64 3)) (fun _ hk => hk.2) (.int .i64 ((rd_T50 y26 0).f1))) (fun _ hk => hk.2) (.int .i64 0)) (fun _ hk => hk.2) (.int .i64 t28)) (fun _ hk => hk.1.2)⟩
         have n2_ : Aside0 (((((w43.setCell ⟨go33, 4, none⟩ (.int .i64 3)).setCell ⟨go33, 5, none⟩ (.int .i64 ((rd_T50 y26 0).f1))).setCell ⟨go33, 6, none⟩ (.int .i64 0)).setCell ⟨go33, 7, none⟩ (.int .i64 t28)).heap[gb1]? = some (.cells #[.int .i64 0, .slice none 0 0] 26 (0, 0))) := ⟨by (with_reducible repeat (first | refine blk_drewN ?_ _ | refine blk_drew ?_ | refine blk_alloc ?_ _)); refine blk_far ?_ (by have h_ := Kd.R_ne HO_9.out BK1.out (by decide); intro e_; exact h_ (by rw [e_]; rfl)) _; (with_reducible repeat (first | refine blk_drewN ?_ _ | refine blk_drew ?_ | refine blk_alloc ?_ _)); refine blk_far ?_ (by have h_ := Kd.R_ne HO_9.out BK1.out (by decide); intro e_; exact h_ (by rw [e_]; rfl)) _; (with_reducible repeat (first | refine blk_drewN ?_ _ | refine blk_drew ?_ | refine blk_alloc ?_ _)); refine blk_far ?_ (by have h_ := Kd.R_ne HO_9.out BK1.out (by decide); intro e_; exact h_ (by rw [e_]; rfl)) _; (with_reducible repeat (first | refine blk_drewN ?_ _ | refine blk_drew ?_ | refine blk_alloc ?_ _)); refine blk_far ?_ (by have h_ := Kd.R_ne HO_9.out BK1.out (by decide); intro e_; exact h_ (by rw [e_]; rfl)) _; exact bk_⟩
         have n3_ : Aside0 (((((w43.setCell ⟨go33, 4, none⟩ (.int .i64 3)).setCell ⟨go33, 5, none⟩ (.int .i64 ((rd_T50 y26 0).f1))).setCell ⟨go33, 6, none⟩ (.int .i64 0)).setCell ⟨go33, 7, none⟩ (.int .i64 t28)).heap[gb5]? = some (.cells #[.int .i64 (wrap64 (1 + t2)), u6001] 26 (0, 0))) := ⟨by (with_reducible repeat (first | refine blk_drewN ?_ _ | refine blk_drew ?_ | refine blk_alloc ?_ _)); refine blk_far ?_ (by have h_ := Kd.R_ne HO_9.out BK5.out (by decide); intro e_; exact h_ (by rw [e_]; rfl)) _; (with_reducible repeat (first | refine blk_drewN ?_ _ | refine blk_drew ?_ | refine blk_alloc ?_ _)); refine blk_far ?_ (by have h_ := Kd.R_ne HO_9.out BK5.out (by decide); intro e_; exact h_ (by rw [e_]; rfl)) _; (with_reducible repeat (first | refine blk_drewN ?_ _ | refine blk_drew ?_ | refine blk_alloc ?_ _)); refine blk_far ?_ (by have h_ := Kd.R_ne HO_9.out BK5.out (by decide); intro e_; exact h_ (by rw [e_]; rfl)) _; (with_reducible repeat (first | refine blk_drewN ?_ _ | refine blk_drew ?_ | refine blk_alloc ?_ _)); refine blk_far ?_ (by have h_ := Kd.R_ne HO_9.out BK5.out (by decide); intro e_; exact h_ (by rw [e_]; rfl)) _; exact bk_⟩
         have n4_ : Aside0 (IsS57 w0 ((((w43.setCell ⟨go33, 4, none⟩ (.int .i64 3)).setCell ⟨go33, 5, none⟩ (.int .i64 ((rd_T50 y26 0).f1))).setCell ⟨go33, 6, none⟩ (.int .i64 0)).setCell ⟨go33, 7, none⟩ (.int .i64 t28)) g s0_0 t29 t30) := ⟨by repeat (first | (with_reducible first | exact HI0.out | apply IsS57.alloc | apply IsS57.drewN | apply IsS57.drew | apply IsS57.set_1 | apply IsS57.set_2 | refine IsS57.far ?_ HN0_go33.out _ | refine IsS57.far ?_ HN0_go33.out _ | refine IsS57.far ?_ HN0_go33.out _ | refine IsS57.far ?_ HN0_go33.out _ | refine IsS57.far ?_ NB0_1.out _ | refine IsS57.far ?_ NB0_5.out _) | exact HI0.out)⟩
         have n5_ : Aside0 (KeepBut w ((((w43.setCell ⟨go33, 4, none⟩ (.int .i64 3)).setCell ⟨go33, 5, none⟩ (.int .i64 ((rd_T50 y26 0).f1))).setCell ⟨go33, 6, none⟩ (.int .i64 0)).setCell ⟨go33, 7, none⟩ (.int .i64 t28)) g none) := ⟨by repeat (first | (with_reducible first | exact HK.out | apply KeepBut.set_ | apply keep_drewN | apply keep_drew | apply keep_alloc | refine keep_far ?_ GB33.out _ | refine keep_far ?_ GB33.out _ | refine keep_far ?_ GB33.out _ | refine keep_far ?_ GB33.out _ | refine keep_far ?_ GW1.out _ | refine keep_far ?_ GW5.out _) | exact HK.out)⟩
         have n6_ : Aside0 (Below w0.heap.size w0 ((((w43.setCell ⟨go33, 4, none⟩ (.int .i64 3)).setCell ⟨go33, 5, none⟩ (.int .i64 ((rd_T50 y26 0).f1))).setCell ⟨go33, 6, none⟩ (.int .i64 0)).setCell ⟨go33, 7, none⟩ (.int .i64 t28))) := ⟨by repeat (first | (with_reducible first | exact HB.out | apply below_alloc | apply pw_below_drewN | apply below_drew1 | refine below_set ?_ (Nat.le_trans HL.out GB33.out) | refine below_set ?_ (Nat.le_trans HL.out GB33.out) | refine below_set ?_ (Nat.le_trans HL.out GB33.out) | refine below_set ?_ (Nat.le_trans HL.out GB33.out) | refine below_set ?_ (IsS57.ge HI0.out) | refine below_set ?_ GE1.out | refine below_set ?_ GE5.out) | exact HB.out)⟩
         (try clear HO_9)
         (try clear HO_6001)
         (try clear BK1)
         (try clear BK5)
         (try clear HI0)
         (try clear HK)
         (try clear HB)
         generalize ((((w43.setCell ⟨go33, 4, none⟩ (.int .i64 3)).setCell ⟨go33, 5, none⟩ (.int .i64 ((rd_T50 y26 0).f1))).setCell ⟨go33, 6, none⟩ (.int .i64 0)).setCell ⟨go33, 7, none⟩ (.int .i64 t28)) = w45 at n0_ n1_ n2_ n3_ n4_ n5_ n6_ ⊢
         have HO_9 := n0_
         have HO_6001 := n1_
         have BK1 := n2_
         have BK5 := n3_
         have HI0 := n4_
         have HK := n5_
         have HB := n6_
         clear n0_ n1_ n2_ n3_ n4_ n5_ n6_
         have hnb46 := NB5_1.out
         have hnc46 := NB1_5.out
         have hnb47 := NB5_0.out
         have hnc47 := NB0_5.out
         obtain ⟨hcz48_0, hcz48_1, hfz48_0, hfz48_1⟩ := bc2_ BK5.out
         try go_wp2_with (first | ((with_reducible refine gate_builtin (b := .append) (xs := #[.tmp 64, .tmp 66]) rfl ?_); at_builtin; refine Kd.S_append (Kd.slice 50 k50) w.heap.size rfl (.tmp 64) (.tmp 66) 24 46 (.slice none 0 0) 24 rfl Try.underlying24 info46 rfl (by decide) (by omega) u6001 x6001_1 y31 [.slice (some ⟨go33, 0, none⟩) t12.length co33] (fun _ => True) (fun k_ => some k_ = (.slice (some ⟨go33, 0, none⟩) t12.length co33 : Value).ownBlock) rfl rfl ?aP (fun k_ hk_ => ((Kd.R_mono (ok' := fun k_ => ((fun _ => True)) k_ ∧ some k_ ≠ (u6001 : Value).ownBlock) (Kd.R_apart' (HO_9.out) (Kd.S_typed HO_6001.out) (by decide)) (fun k_ hk => ⟨trivial, hk.2⟩))).1 k_ hk_.symm) ?aF ?aO (Below.refl _ _) ?aS ?aL ?_; (case aP => exact Kd.M_row (Kd.R_mono (Kd.R_tight rfl (Kd.R_mono (ok' := fun k_ => ((fun _ => True)) k_ ∧ some k_ ≠ (u6001 : Value).ownBlock) (Kd.R_apart' (HO_9.out) (Kd.S_typed HO_6001.out) (by decide)) (fun k_ hk => ⟨trivial, hk.2⟩))) (fun _ h_ => h_))); (case aF => exact (fun _ _ => trivial)); (case aO => exact (by (with_reducible repeat (first | apply Kd.S_alloc | apply Kd.S_drewN | apply Kd.S_drew)); exact Kd.S_mono HO_6001.out (fun k_ hk => ⟨trivial, fun e_ => hk e_⟩))); (case aS => exact (keep_size (w := w) (g := g) (row := none) (kk_ HK.out))); (case aL => have := LMc37.out; omega); intro v33 w49 ho hb hg hat; rw [← Ny32.out] at ho; have n0_ := am_ (blk_grown (g := gb1) (o := .cells #[.int .i64 0, .slice none 0 0] 26 (0, 0)) bk_ hg (Kd.S_ne HO_6001.out BK1.out (by decide))); have n1_ := am_ (blk_grown (g := gb5) (o := .cells #[.int .i64 (wrap64 (1 + t2)), u6001] 26 (0, 0)) bk_ hg (Kd.S_ne HO_6001.out BK5.out (by decide))); have n2_ := am_ (IsS57.grown (hi_ HI0.out) hg (IsS57.own_neS HI0.out HO_6001.out (by decide))); have n3_ := am_ (below_weaken (bi_ HB.out HI0.out) HL.out hb); have n4_ := am_ (KeepBut.trans (kk_ HK.out) (KeepBut.of_grown hg g) (Kd.S_base2 HO_6001.out)); have n5_ := am_ (ho); clear BK1; clear BK5; clear HI0; clear HB; clear HK; clear HO_6001; clear HO_9; have BK1 := n0_; have BK5 := n1_; have HI0 := n2_; have HB := n3_; have HK := n4_; have HO34 := n5_; clear n0_ n1_ n2_ n3_ n4_ n5_; clear ho hb hg hat; obtain ⟨Ao50, co50, eo50⟩ := Kd.S_slice HO34.out; subst eo50; obtain ⟨hcz51_0, hcz51_1, hfz51_0, hfz51_1⟩ := bc2_ BK5.out))
         go_roundg kj19
         case measure => have := HK1.out; have := HJ13.out; have := HJ16.out; have := HJ19.out; omega
         case rel => exact ⟨(wrap64 (x7_1 + 1)), (t29), (t30), (y32), (.slice Ao50 y32.length co50), sd_, H', ⟨by have := HK1.out; have := HJ13.out; have := HJ16.out; have := HJ19.out; omega⟩, ⟨by (with_reducible repeat (first | apply Kd.S_alloc | apply Kd.S_drewN | apply Kd.S_drew)); exact Kd.S_mono (Kd.S_far (p := ⟨gb5, 1, none⟩) (Kd.S_types HO34.out BK5.out (by decide)) (fun _ hk => hk.2) (.slice Ao50 y32.length co50)) (fun _ hk => trivial)⟩, ⟨by (with_reducible repeat (first | refine blk_drewN ?_ _ | refine blk_drew ?_ | refine blk_alloc ?_ _)); refine blk_far ?_ NB1_5.out _; exact bk_⟩, ⟨by (with_reducible repeat (first | refine blk_drewN ?_ _ | refine blk_drew ?_ | refine blk_alloc ?_ _)); refine blk_put (cs := #[.int .i64 (wrap64 (1 + t2)), u6001]) ?_ 1 _ rfl; exact bk_⟩, ⟨(hi_ HI0.out)⟩, ⟨(kk_ HK.out)⟩, ⟨(bi_ HB.out HI0.out)⟩⟩

end Go.Proofs.Ytbgclnjnngolmaa.P
