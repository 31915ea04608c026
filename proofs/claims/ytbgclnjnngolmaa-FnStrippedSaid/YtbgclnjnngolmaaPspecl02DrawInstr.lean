-- Written by mp.py (the session's own driver over the kit's printer) for the seat Ytbgclnjnngolmaa.
import Derived.Test.YtbgclnjnngolmaaK
import Derived.Test.YtbgclnjnngolmaaE
import Derived.Test.YtbgclnjnngolmaaPlawsbig
import Derived.Test.YtbgclnjnngolmaaPspecl02Named
namespace Go.Proofs.Ytbgclnjnngolmaa.P
open Go.RowKit Go.Proofs.YtbgclnjnngolmaaW.PrintWords Go.Proofs.YtbgclnjnngolmaaW.PrintLast Go.Proofs.YtbgclnjnngolmaaW.PrintMore
attribute [local go_sem] max2_int min2_int max_two min_two max_three min_three max_four min_four
set_option linter.unusedVariables false
set_option linter.unusedSimpArgs false

/-! ### spec_l02DrawInstr: function 44 -/
mutual
def spec_l02DrawInstr.j0 : Nat → Int → Int → List Int → Int → Int → Int → Int → Int → Int → Option (Int × Int × Int × Int × Int × Int)
 | 0, _, _, _, _, _, _, _, _, _ => none
 | k + 1, x1, x2, x1000, x1001, x1002, x9000, x9001, x9002, x9003 => (spec_l02Named.f k x9000 115).bind fun t13 => (if t13 = true then ((spec_l01Below.f x1000 x1001 x1002 3).bind fun bt14 => (spec_l02DrawInstr.j1 k x1 x2 x1000 bt14.2.1 bt14.2.2 x9000 x9001 bt14.1 x9003)) else (spec_l02DrawInstr.j1 k x1 x2 x1000 x1001 x1002 x9000 x9001 x9002 x9003))
def spec_l02DrawInstr.j1 : Nat → Int → Int → List Int → Int → Int → Int → Int → Int → Int → Option (Int × Int × Int × Int × Int × Int)
 | 0, _, _, _, _, _, _, _, _, _ => none
 | k + 1, x1, x2, x1000, x1001, x1002, x9000, x9001, x9002, x9003 => if x9000 = 0 then ((spec_l01PickInt.f x1000 x1001 x1002 (([0, 1, 1, 2, 5, (-1), 1000] : List Int))).bind fun bt20 => (some (x9000, x9001, x9002, bt20.1, bt20.2.1, bt20.2.2))) else (if x9000 = 2 then (spec_l02DrawInstr.j2 k x1 x2 x9000 (x9000 == 2) x1000 x1001 x1002 x9000 x9001 x9002 x9003) else (if x9000 = 3 then (spec_l02DrawInstr.j2 k x1 x2 x9000 (x9000 == 3) x1000 x1001 x1002 x9000 x9001 x9002 x9003) else (if x9000 = 5 then (spec_l02DrawInstr.j2 k x1 x2 x9000 (x9000 == 5) x1000 x1001 x1002 x9000 x9001 x9002 x9003) else (spec_l02DrawInstr.j2 k x1 x2 x9000 (x9000 == 7) x1000 x1001 x1002 x9000 x9001 x9002 x9003))))
def spec_l02DrawInstr.j2 : Nat → Int → Int → Int → Bool → List Int → Int → Int → Int → Int → Int → Int → Option (Int × Int × Int × Int × Int × Int)
 | 0, _, _, _, _, _, _, _, _, _, _, _ => none
 | k + 1, x1, x2, x25, x32, x1000, x1001, x1002, x9000, x9001, x9002, x9003 => if x32 = true then ((spec_l01Below.f x1000 x1001 x1002 x1).bind fun bt23 => (some (x9000, x9001, x9002, bt23.1, bt23.2.1, bt23.2.2))) else (if x25 = 6 then ((spec_l01Below.f x1000 x1001 x1002 (wrap64 (x2 + 1))).bind fun bt26 => (some (x9000, x9001, x9002, bt26.1, bt26.2.1, bt26.2.2))) else (some (x9000, x9001, x9002, x9003, x1001, x1002)))
end
def spec_l02DrawInstr.f (k : Nat) (s0_0 : List Int) (s0_1 : Int) (s0_2 : Int) (a1 : Int) (a2 : Int) : Option (Int × Int × Int × Int × Int × Int) := (spec_l01PickInt.f s0_0 s0_1 s0_2 (([0, 0, 1, 2, 2, 2, 3, 3, 3, 3, 4, 5, 6, 7, 8] : List Int))).bind fun bt5 => ((spec_l02Named.f k bt5.1 114).bind fun t9 => (if t9 = true then ((spec_l01Below.f s0_0 bt5.2.1 bt5.2.2 3).bind fun bt10 => (spec_l02DrawInstr.j0 k a1 a2 s0_0 bt10.2.1 bt10.2.2 bt5.1 bt10.1 0 0)) else (spec_l02DrawInstr.j0 k a1 a2 s0_0 bt5.2.1 bt5.2.2 bt5.1 0 0 0)))
theorem spec_l02DrawInstr.mono_l : ∀ k, (∀ y0 y1 y2 y3 y4 y5 y6 y7 y8, LeO (spec_l02DrawInstr.j0 k y0 y1 y2 y3 y4 y5 y6 y7 y8) (spec_l02DrawInstr.j0 (k + 1) y0 y1 y2 y3 y4 y5 y6 y7 y8)) ∧ (∀ y0 y1 y2 y3 y4 y5 y6 y7 y8, LeO (spec_l02DrawInstr.j1 k y0 y1 y2 y3 y4 y5 y6 y7 y8) (spec_l02DrawInstr.j1 (k + 1) y0 y1 y2 y3 y4 y5 y6 y7 y8)) ∧ (∀ y0 y1 y2 y3 y4 y5 y6 y7 y8 y9 y10, LeO (spec_l02DrawInstr.j2 k y0 y1 y2 y3 y4 y5 y6 y7 y8 y9 y10) (spec_l02DrawInstr.j2 (k + 1) y0 y1 y2 y3 y4 y5 y6 y7 y8 y9 y10))
 | 0 => ⟨fun _ _ _ _ _ _ _ _ _ r h => by simp [spec_l02DrawInstr.j0] at h, fun _ _ _ _ _ _ _ _ _ r h => by simp [spec_l02DrawInstr.j1] at h, fun _ _ _ _ _ _ _ _ _ _ _ r h => by simp [spec_l02DrawInstr.j2] at h⟩
 | k + 1 => by
  obtain ⟨ih0, ih1, ih2⟩ := spec_l02DrawInstr.mono_l k
  refine ⟨?_, ?_, ?_⟩
  ·intro y0 y1 y2 y3 y4 y5 y6 y7 y8
   unfold spec_l02DrawInstr.j0
   repeat' first | (with_reducible first | exact ih0 _ _ _ _ _ _ _ _ _ | exact ih1 _ _ _ _ _ _ _ _ _ | exact ih2 _ _ _ _ _ _ _ _ _ _ _ | exact spec_l02Named.mono _ _ _ | exact lr_ | exact ln_ | refine LeO.ite ?_ ?_ | refine LeO.bind ?_ (fun _ => ?_)) | exact ih0 _ _ _ _ _ _ _ _ _ | exact ih1 _ _ _ _ _ _ _ _ _ | exact ih2 _ _ _ _ _ _ _ _ _ _ _ | exact spec_l02Named.mono _ _ _ | exact ln_ | refine LeO.ite ?_ ?_ | refine LeO.bind ?_ (fun _ => ?_)
  ·intro y0 y1 y2 y3 y4 y5 y6 y7 y8
   unfold spec_l02DrawInstr.j1
   repeat' first | (with_reducible first | exact ih0 _ _ _ _ _ _ _ _ _ | exact ih1 _ _ _ _ _ _ _ _ _ | exact ih2 _ _ _ _ _ _ _ _ _ _ _ | exact spec_l02Named.mono _ _ _ | exact lr_ | exact ln_ | refine LeO.ite ?_ ?_ | refine LeO.bind ?_ (fun _ => ?_)) | exact ih0 _ _ _ _ _ _ _ _ _ | exact ih1 _ _ _ _ _ _ _ _ _ | exact ih2 _ _ _ _ _ _ _ _ _ _ _ | exact spec_l02Named.mono _ _ _ | exact ln_ | refine LeO.ite ?_ ?_ | refine LeO.bind ?_ (fun _ => ?_)
  ·intro y0 y1 y2 y3 y4 y5 y6 y7 y8 y9 y10
   unfold spec_l02DrawInstr.j2
   repeat' first | (with_reducible first | exact ih0 _ _ _ _ _ _ _ _ _ | exact ih1 _ _ _ _ _ _ _ _ _ | exact ih2 _ _ _ _ _ _ _ _ _ _ _ | exact spec_l02Named.mono _ _ _ | exact lr_ | exact ln_ | refine LeO.ite ?_ ?_ | refine LeO.bind ?_ (fun _ => ?_)) | exact ih0 _ _ _ _ _ _ _ _ _ | exact ih1 _ _ _ _ _ _ _ _ _ | exact ih2 _ _ _ _ _ _ _ _ _ _ _ | exact spec_l02Named.mono _ _ _ | exact ln_ | refine LeO.ite ?_ ?_ | refine LeO.bind ?_ (fun _ => ?_)
theorem spec_l02DrawInstr.mono : ∀ a0 a1 a2 a3 a4 k, LeO (spec_l02DrawInstr.f k a0 a1 a2 a3 a4) (spec_l02DrawInstr.f (k + 1) a0 a1 a2 a3 a4) := by
 intro a0 a1 a2 a3 a4 k
 obtain ⟨ih0, ih1, ih2⟩ := spec_l02DrawInstr.mono_l k
 unfold spec_l02DrawInstr.f
 repeat' first | (with_reducible first | exact ih0 _ _ _ _ _ _ _ _ _ | exact ih1 _ _ _ _ _ _ _ _ _ | exact ih2 _ _ _ _ _ _ _ _ _ _ _ | exact spec_l02Named.mono _ _ _ | exact lr_ | exact ln_ | refine LeO.ite ?_ ?_ | refine LeO.bind ?_ (fun _ => ?_)) | exact ih0 _ _ _ _ _ _ _ _ _ | exact ih1 _ _ _ _ _ _ _ _ _ | exact ih2 _ _ _ _ _ _ _ _ _ _ _ | exact spec_l02Named.mono _ _ _ | exact ln_ | refine LeO.ite ?_ ?_ | refine LeO.bind ?_ (fun _ => ?_)
set_option maxHeartbeats 8000000 in
set_option maxRecDepth 100000 in
theorem spec_l02DrawInstr.calls (k : Nat) (g : Nat) (s0_0 : List Int) (s0_1 : Int) (s0_2 : Int) (a1 : Int) (a2 : Int) (r1 : Int) (r2 : Int) (r3 : Int) (r4 : Int) (r5 : Int) (r6 : Int) (w0 w : World) (hI : IsS57 w0 w g s0_0 s0_1 s0_2) (hB : Below w0.heap.size w0 w) (h : spec_l02DrawInstr.f k s0_0 s0_1 s0_2 a1 a2 = some (r1, r2, r3, r4, r5, r6)) :
  Calls Try.prog 44 #[.pointer (some ⟨g, 0, none⟩), .int .i64 a1, .int .i64 a2] w fun e w' => e = .returned (.agg #[.int .i64 r1, .int .i64 r2, .int .i64 r3, .int .i64 r4]) ∧ IsS57 w0 w' g s0_0 r5 r6 ∧ Below w0.heap.size w0 w' ∧ KeepBut w w' g none := by
 have hu50 := Try.underlying50
 have HI0 := am_ hI
 have HK := am_ (KeepBut.refl w g none)
 have HL := am_ hB.size
 clear hI
 have HW0 := am_ hB.size
 have HB := am_ hB
 clear hB
 have H : ((spec_l01PickInt.f s0_0 s0_1 s0_2 (([0, 0, 1, 2, 2, 2, 3, 3, 3, 3, 4, 5, 6, 7, 8] : List Int))).bind fun bt5 => ((spec_l02Named.f k bt5.1 114).bind fun t9 => (if t9 = true then ((spec_l01Below.f s0_0 bt5.2.1 bt5.2.2 3).bind fun bt10 => (spec_l02DrawInstr.j0 k a1 a2 s0_0 bt10.2.1 bt10.2.2 bt5.1 bt10.1 0 0)) else (spec_l02DrawInstr.j0 k a1 a2 s0_0 bt5.2.1 bt5.2.2 bt5.1 0 0 0)))) = some (r1, r2, r3, r4, r5, r6) := h
 clear h
 obtain ⟨y2, hy2⟩ : ∃ y_ : List Int, y_ = (([0, 0, 1, 2, 2, 2, 3, 3, 3, 3, 4, 5, 6, 7, 8] : List Int)) := ⟨_, rfl⟩
 replace H : ((spec_l01PickInt.f s0_0 s0_1 s0_2 y2).bind fun bt5 => ((spec_l02Named.f k bt5.1 114).bind fun t9 => (if t9 = true then ((spec_l01Below.f s0_0 bt5.2.1 bt5.2.2 3).bind fun bt10 => (spec_l02DrawInstr.j0 k a1 a2 s0_0 bt10.2.1 bt10.2.2 bt5.1 bt10.1 0 0)) else (spec_l02DrawInstr.j0 k a1 a2 s0_0 bt5.2.1 bt5.2.2 bt5.1 0 0 0)))) = some (r1, r2, r3, r4, r5, r6) := rh_ hy2
 have Ny2 := am_ hy2
 clear hy2
 replace H := Option.bind_eq_some_iff.mp H
 obtain ⟨⟨t5, t6, t7⟩, A40, H⟩ := H
 replace H : ((spec_l02Named.f k t5 114).bind fun t9 => (if t9 = true then ((spec_l01Below.f s0_0 t6 t7 3).bind fun bt10 => (spec_l02DrawInstr.j0 k a1 a2 s0_0 bt10.2.1 bt10.2.2 t5 bt10.1 0 0)) else (spec_l02DrawInstr.j0 k a1 a2 s0_0 t6 t7 t5 0 0 0))) = some (r1, r2, r3, r4, r5, r6) := H
 have A4 := am_ A40
 clear A40
 replace H := Option.bind_eq_some_iff.mp H
 obtain ⟨t9, A50, H⟩ := H
 replace H : (if t9 = true then ((spec_l01Below.f s0_0 t6 t7 3).bind fun bt10 => (spec_l02DrawInstr.j0 k a1 a2 s0_0 bt10.2.1 bt10.2.2 t5 bt10.1 0 0)) else (spec_l02DrawInstr.j0 k a1 a2 s0_0 t6 t7 t5 0 0 0)) = some (r1, r2, r3, r4, r5, r6) := H
 have A5 := am_ A50
 clear A50
 have HC6 := am_ H
 clear H
 go_enter Try.func44, Try.ntmps44
 go_upto_if 14 with (first | ((with_reducible refine gate_dst (N := 6) rfl ?_); refine box_event ?hg (N := 6) ?hd (cs := #[.int .i64 0, .int .i64 0, .int .i64 0, .int .i64 0]) (t := 50) ?hr ?_; (case hd => rfl); (case hg => rfl); (case hr => exact hrr_); intro gb1 hg w7 hbox hb; have n0_ := am_ (IsS57.below (hi_ HI0.out) hb); have n1_ := am_ (KeepBut.trans (kk_ HK.out) (KeepBut.of_below hb g none) (.inl rfl)); have n2_ := am_ (below_step (bi_ HB.out HI0.out) hb); have n3_ := am_ (hbox); have n4_ := am_ ((by rw [hg]; exact (keep_size (w := w) (g := g) (row := none) (kk_ HK.out)) : w.heap.size ≤ gb1)); have n5_ := am_ ((Nat.le_trans HW0.out (by rw [hg]; exact (keep_size (w := w) (g := g) (row := none) (kk_ HK.out)) : w.heap.size ≤ gb1) : w0.heap.size ≤ gb1)); have n6_ := am_ ((by rw [hg]; exact Nat.ne_of_lt (IsS57.lt (show IsS57 w0 _ g s0_0 s0_1 s0_2 from (hi_ HI0.out))) : g ≠ gb1)); have n7_ := am_ ((by rw [hg]; exact Nat.ne_of_gt (IsS57.lt (show IsS57 w0 _ g s0_0 s0_1 s0_2 from (hi_ HI0.out))) : gb1 ≠ g)); clear HI0; clear HK; clear HB; have HI0 := n0_; have HK := n1_; have HB := n2_; have BK1 := n3_; have GW1 := n4_; have GE1 := n5_; have NB0_1 := n6_; have NB1_0 := n7_; clear n0_ n1_ n2_ n3_ n4_ n5_ n6_ n7_; clear hb hbox hg) | ((with_reducible refine gate_dst (N := 9) rfl ?_); refine Kd.R_lit (Kd.int .i64) _ 3 ?hg (N := 9) ?hd (xs := ([0, 0, 1, 2, 2, 2, 3, 3, 3, 3, 4, 5, 6, 7, 8] : List Int)) (inner := [.int .i64 0, .int .i64 0, .int .i64 1, .int .i64 2, .int .i64 2, .int .i64 2, .int .i64 3, .int .i64 3, .int .i64 3, .int .i64 3, .int .i64 4, .int .i64 5, .int .i64 6, .int .i64 7, .int .i64 8]) (ok := fun _ => True) (okp := fun _ => True) ?hr ?hp (fun _ hk => hk) trivial (Below.refl _ _) (Nat.le_refl _) (by simp) ?_; (case hd => rfl); (case hg => rfl); (case hr => first | (go_simp; done) | (go_simp; rfl)); (case hp => exact (Reps.one (show Kd.M (Kd.int .i64) _ _ _ 0 [.int .i64 0] from rfl) (Reps.one (show Kd.M (Kd.int .i64) _ _ _ 0 [.int .i64 0] from rfl) (Reps.one (show Kd.M (Kd.int .i64) _ _ _ 1 [.int .i64 1] from rfl) (Reps.one (show Kd.M (Kd.int .i64) _ _ _ 2 [.int .i64 2] from rfl) (Reps.one (show Kd.M (Kd.int .i64) _ _ _ 2 [.int .i64 2] from rfl) (Reps.one (show Kd.M (Kd.int .i64) _ _ _ 2 [.int .i64 2] from rfl) (Reps.one (show Kd.M (Kd.int .i64) _ _ _ 3 [.int .i64 3] from rfl) (Reps.one (show Kd.M (Kd.int .i64) _ _ _ 3 [.int .i64 3] from rfl) (Reps.one (show Kd.M (Kd.int .i64) _ _ _ 3 [.int .i64 3] from rfl) (Reps.one (show Kd.M (Kd.int .i64) _ _ _ 3 [.int .i64 3] from rfl) (Reps.one (show Kd.M (Kd.int .i64) _ _ _ 4 [.int .i64 4] from rfl) (Reps.one (show Kd.M (Kd.int .i64) _ _ _ 5 [.int .i64 5] from rfl) (Reps.one (show Kd.M (Kd.int .i64) _ _ _ 6 [.int .i64 6] from rfl) (Reps.one (show Kd.M (Kd.int .i64) _ _ _ 7 [.int .i64 7] from rfl) (Reps.one (show Kd.M (Kd.int .i64) _ _ _ 8 [.int .i64 8] from rfl) (Reps.none _ _))))))))))))))))); intro v3 w8 ho9 hb hg_ hnew_; clear hg_ hnew_; (first | rw [← Ny2.out] at ho9 | (simp only [Int.reduceToNat] at ho9; rw [← Ny2.out] at ho9)); have n0_ := am_ (Kd.R_lower ho9 (keep_size (w := w) (g := g) (row := none) (kk_ HK.out))); have n1_ := am_ (IsS57.below (hi_ HI0.out) hb); have n2_ := bb_ BK1.out hb; have n3_ := am_ (KeepBut.trans (kk_ HK.out) (KeepBut.of_below hb g none) (.inl rfl)); have n4_ := am_ (below_step (bi_ HB.out HI0.out) hb); clear HI0; clear BK1; clear HK; clear HB; have HO4 := n0_; have HI0 := n1_; have BK1 := n2_; have HK := n3_; have HB := n4_; clear n0_ n1_ n2_ n3_ n4_; clear hb ho9; obtain ⟨Ao10, co10, eo10⟩ := Kd.R_slice HO4.out; subst eo10) | ((with_reducible refine gate_callee (f := 40) rfl ?_); refine goesL_ (some 10) rfl rfl Try.func40 kr_ rfl #[.pointer (some ⟨g, 0, none⟩), .slice Ao10 y2.length co10] rfl ar_ ?_; (with_reducible refine (spec_l01PickInt.calls g s0_0 s0_1 s0_2 _ _ y2 t5 t6 t7 w0 _ ?side1 ?side2 ?side3 ?side4 ?side5 A4.out).mono ?_); (case side1 => exact (hi_ HI0.out)); (case side2 => exact (bi_ HB.out HI0.out)); (case side3 => repeat (first | exact (Kd.R_reads' HO4.out).2.2 | (with_reducible refine Kd.C_alloc ?_ _) | (with_reducible refine Kd.C_drewN ?_ _) | (with_reducible refine Kd.C_drew ?_))); (case side4 => exact (Kd.R_reads' HO4.out).2.1); (case side5 => exact far_slice (IsS57.own_ne HI0.out HO4.out (by decide))); rintro e w11 ⟨rfl, hi, hb, hk⟩; refine ⟨_, rfl, ?_⟩; have n0_ := am_ (KeepBut.blk hk (g' := gb1) (o := .cells #[.int .i64 0, .int .i64 0, .int .i64 0, .int .i64 0] 50 (0, 0)) bk_ NB1_0.out (by simp)); have n1_ := am_ (Kd.R_mono (Kd.R_keep (IsS57.apart (show IsS57 w0 _ g s0_0 s0_1 s0_2 from (hi_ HI0.out)) (rx_ HO4.out) (by decide)) hk (fun _ h => h.2)) (fun _ h => h.1)); have n2_ := am_ (KeepBut.trans (kk_ HK.out) hk (.inl rfl)); have n3_ := am_ (hb); have n4_ := am_ (hi); clear BK1; clear HO4; clear HK; clear HB; clear HI0; have BK1 := n0_; have HO4 := n1_; have HK := n2_; have HB := n3_; have HI0 := n4_; clear n0_ n1_ n2_ n3_ n4_; (try clear hb); (try clear hb2); (try clear hk); (try clear hi)) | ((with_reducible refine gate_dst (N := 7) rfl ?_); refine box_event ?hg (N := 7) ?hd (cs := #[.int .i64 0, .int .i64 0, .int .i64 0, .int .i64 0]) (t := 50) ?hr ?_; (case hd => rfl); (case hg => rfl); (case hr => exact hrr_); intro gb8 hg w12 hbox hb; have n0_ := am_ (Kd.R_below (rx_ HO4.out) hb); have n1_ := am_ (IsS57.below (hi_ HI0.out) hb); have n2_ := bb_ BK1.out hb; have n3_ := am_ (KeepBut.trans (kk_ HK.out) (KeepBut.of_below hb g none) (.inl rfl)); have n4_ := am_ (below_step (bi_ HB.out HI0.out) hb); have n5_ := am_ (hbox); have n6_ := am_ ((by rw [hg]; exact (keep_size (w := w) (g := g) (row := none) (kk_ HK.out)) : w.heap.size ≤ gb8)); have n7_ := am_ ((Nat.le_trans HW0.out (by rw [hg]; exact (keep_size (w := w) (g := g) (row := none) (kk_ HK.out)) : w.heap.size ≤ gb8) : w0.heap.size ≤ gb8)); have n8_ := nl_ BK1.out hg; have n9_ := nr_ BK1.out hg; have n10_ := am_ ((by rw [hg]; exact Nat.ne_of_lt (IsS57.lt (show IsS57 w0 _ g s0_0 t6 t7 from (hi_ HI0.out))) : g ≠ gb8)); have n11_ := am_ ((by rw [hg]; exact Nat.ne_of_gt (IsS57.lt (show IsS57 w0 _ g s0_0 t6 t7 from (hi_ HI0.out))) : gb8 ≠ g)); clear HO4; clear HI0; clear BK1; clear HK; clear HB; have HO4 := n0_; have HI0 := n1_; have BK1 := n2_; have HK := n3_; have HB := n4_; have BK8 := n5_; have GW8 := n6_; have GE8 := n7_; have NB1_8 := n8_; have NB8_1 := n9_; have NB0_8 := n10_; have NB8_0 := n11_; clear n0_ n1_ n2_ n3_ n4_ n5_ n6_ n7_ n8_ n9_ n10_ n11_; clear hb hbox hg; have hnb13 := NB8_1.out; have hnc13 := NB1_8.out; have hnb14 := NB8_0.out; have hnc14 := NB0_8.out; obtain ⟨hcz15_0, hcz15_1, hcz15_2, hcz15_3, hfz15_0, hfz15_1, hfz15_2, hfz15_3⟩ := bc4_ BK8.out) | ((with_reducible refine gate_callee (f := 45) rfl ?_); refine goesL_ (some 14) rfl rfl Try.func45 kr_ rfl #[.int .i64 t5, .int .u8 114] rfl ar_ ?_; (with_reducible refine (spec_l02Named.calls k t5 114 t9 _ A5.out).mono ?_); rintro e w16 ⟨rfl, hb⟩; refine ⟨_, rfl, ?_⟩; have n0_ := am_ (Kd.R_below (by (with_reducible repeat (first | apply Kd.R_alloc | apply Kd.R_drewN | apply Kd.R_drew)); exact (Kd.R_mono (Kd.R_far (p := ⟨gb8, 3, none⟩) (Kd.R_far (p := ⟨gb8, 2, none⟩) (Kd.R_far (p := ⟨gb8, 1, none⟩) (Kd.R_far (p := ⟨gb8, 0, none⟩) (Kd.R_types HO4.out BK8.out (by decide)) (fun _ hk => hk.2) (.int .i64 t5)) (fun _ hk => hk.2) (.int .i64 0)) (fun _ hk => hk.2) (.int .i64 0)) (fun _ hk => hk.2) (.int .i64 0)) (fun _ h_ => h_.1))) hb); have n1_ := am_ (IsS57.below (show IsS57 w0 ((((w12.setCell ⟨gb8, 0, none⟩ (.int .i64 t5)).setCell ⟨gb8, 1, none⟩ (.int .i64 0)).setCell ⟨gb8, 2, none⟩ (.int .i64 0)).setCell ⟨gb8, 3, none⟩ (.int .i64 0)) g s0_0 t6 t7 from (hi_ HI0.out)) hb); have n2_ := am_ (blk_below (g := gb1) (o := .cells #[.int .i64 0, .int .i64 0, .int .i64 0, .int .i64 0] 50 (0, 0)) (by (with_reducible repeat (first | refine blk_drewN ?_ _ | refine blk_drew ?_ | refine blk_alloc ?_ _)); refine blk_far ?_ NB1_8.out _; (with_reducible repeat (first | refine blk_drewN ?_ _ | refine blk_drew ?_ | refine blk_alloc ?_ _)); refine blk_far ?_ NB1_8.out _; (with_reducible repeat (first | refine blk_drewN ?_ _ | refine blk_drew ?_ | refine blk_alloc ?_ _)); refine blk_far ?_ NB1_8.out _; (with_reducible repeat (first | refine blk_drewN ?_ _ | refine blk_drew ?_ | refine blk_alloc ?_ _)); refine blk_far ?_ NB1_8.out _; exact bk_) hb); have n3_ := am_ (blk_below (g := gb8) (o := .cells #[.int .i64 t5, .int .i64 0, .int .i64 0, .int .i64 0] 50 (0, 0)) (by (with_reducible repeat (first | refine blk_drewN ?_ _ | refine blk_drew ?_ | refine blk_alloc ?_ _)); refine blk_put (cs := #[.int .i64 t5, .int .i64 0, .int .i64 0, .int .i64 0]) ?_ 3 _ rfl; (with_reducible repeat (first | refine blk_drewN ?_ _ | refine blk_drew ?_ | refine blk_alloc ?_ _)); refine blk_put (cs := #[.int .i64 t5, .int .i64 0, .int .i64 0, .int .i64 0]) ?_ 2 _ rfl; (with_reducible repeat (first | refine blk_drewN ?_ _ | refine blk_drew ?_ | refine blk_alloc ?_ _)); refine blk_put (cs := #[.int .i64 t5, .int .i64 0, .int .i64 0, .int .i64 0]) ?_ 1 _ rfl; (with_reducible repeat (first | refine blk_drewN ?_ _ | refine blk_drew ?_ | refine blk_alloc ?_ _)); refine blk_put (cs := #[.int .i64 0, .int .i64 0, .int .i64 0, .int .i64 0]) ?_ 0 _ rfl; exact bk_) hb); have n4_ := am_ (KeepBut.trans (kk_ HK.out) (KeepBut.of_below hb g none) (.inl rfl)); have n5_ := am_ (below_step (bi_ HB.out HI0.out) hb); clear HO4; clear HI0; clear BK1; clear BK8; clear HK; clear HB; have HO4 := n0_; have HI0 := n1_; have BK1 := n2_; have BK8 := n3_; have HK := n4_; have HB := n5_; clear n0_ n1_ n2_ n3_ n4_ n5_; (try clear hb); (try clear hb2); (try clear hk); (try clear hi)))
 (try simp only [Act.put, List.setIfInBounds_toArray, List.set_cons_zero, List.set_cons_succ])
 go_cut [] (fun wc => ∃ (kq : Nat) (x1001_5 : Int) (x1002_5 : Int) (x9001_5 : Int), Aside0 (spec_l02DrawInstr.j0 kq a1 a2 s0_0 x1001_5 x1002_5 t5 x9001_5 0 0 = some (r1, r2, r3, r4, r5, r6)) ∧ Aside0 (kq ≤ k) ∧ Aside0 (wc.heap[gb1]? = some (.cells #[.int .i64 0, .int .i64 0, .int .i64 0, .int .i64 0] 50 (0, 0))) ∧ Aside0 (wc.heap[gb8]? = some (.cells #[.int .i64 t5, .int .i64 x9001_5, .int .i64 0, .int .i64 0] 50 (0, 0))) ∧ Aside0 (IsS57 w0 wc g s0_0 x1001_5 x1002_5) ∧ Aside0 (KeepBut w wc g none) ∧ Aside0 (Below w0.heap.size w0 wc))
 case first =>
  have H := HC6.out
  clear HC6
  by_cases c17 : t9 = true
  rotate_left
  ·replace c17 := Bool.eq_false_iff.mpr c17
   subst c17
   have H1 : (spec_l02DrawInstr.j0 k a1 a2 s0_0 t6 t7 t5 0 0 0) = some (r1, r2, r3, r4, r5, r6) := by rw [if_neg (show ¬ (false = true) by decide)] at H; exact H
   clear H
   have H := H1
   clear H1
   have H' := am_ H
   clear H
   go_wp2
   go_meet
   case rel => exact ⟨_, (t6), (t7), (0), H', ⟨by first | omega | exact Nat.le_refl _⟩, ⟨bk_⟩, ⟨bk_⟩, ⟨(hi_ HI0.out)⟩, ⟨(kk_ HK.out)⟩, ⟨(bi_ HB.out HI0.out)⟩⟩
  subst c17
  have H1 : ((spec_l01Below.f s0_0 t6 t7 3).bind fun bt10 => (spec_l02DrawInstr.j0 k a1 a2 s0_0 bt10.2.1 bt10.2.2 t5 bt10.1 0 0)) = some (r1, r2, r3, r4, r5, r6) := by rw [if_pos rfl] at H; exact H
  clear H
  have H := H1
  clear H1
  replace H := Option.bind_eq_some_iff.mp H
  obtain ⟨⟨t10, t11, t12⟩, A180, H⟩ := H
  replace H : (spec_l02DrawInstr.j0 k a1 a2 s0_0 t11 t12 t5 t10 0 0) = some (r1, r2, r3, r4, r5, r6) := H
  have A18 := am_ A180
  clear A180
  have H' := am_ H
  clear H
  go_wp2_with (first | ((with_reducible refine gate_callee (f := 29) rfl ?_); refine goesL_ (some 16) rfl rfl Try.func29 kr_ rfl #[.pointer (some ⟨g, 0, none⟩), .int .i64 3] rfl ar_ ?_; (with_reducible refine (spec_l01Below.calls g s0_0 t6 t7 3 t10 t11 t12 w0 _ ?side1 ?side2 A18.out).mono ?_); (case side1 => exact (hi_ HI0.out)); (case side2 => exact (bi_ HB.out HI0.out)); rintro e w19 ⟨rfl, hi, hb, hk⟩; refine ⟨_, rfl, ?_⟩; have n0_ := am_ (KeepBut.blk hk (g' := gb1) (o := .cells #[.int .i64 0, .int .i64 0, .int .i64 0, .int .i64 0] 50 (0, 0)) bk_ NB1_0.out (by simp)); have n1_ := am_ (Kd.R_mono (Kd.R_keep (IsS57.apart (show IsS57 w0 _ g s0_0 t6 t7 from (hi_ HI0.out)) (rx_ HO4.out) (by decide)) hk (fun _ h => h.2)) (fun _ h => h.1)); have n2_ := am_ (KeepBut.blk hk (g' := gb8) (o := .cells #[.int .i64 t5, .int .i64 0, .int .i64 0, .int .i64 0] 50 (0, 0)) bk_ NB8_0.out (by simp)); have n3_ := am_ (KeepBut.trans (kk_ HK.out) hk (.inl rfl)); have n4_ := am_ (hb); have n5_ := am_ (hi); clear BK1; clear HO4; clear BK8; clear HK; clear HB; clear HI0; have BK1 := n0_; have HO4 := n1_; have BK8 := n2_; have HK := n3_; have HB := n4_; have HI0 := n5_; clear n0_ n1_ n2_ n3_ n4_ n5_; (try clear hb); (try clear hb2); (try clear hk); (try clear hi); have hnb20 := NB8_1.out; have hnc20 := NB1_8.out; have hnb21 := NB8_0.out; have hnc21 := NB0_8.out; obtain ⟨hcz22_0, hcz22_1, hcz22_2, hcz22_3, hfz22_0, hfz22_1, hfz22_2, hfz22_3⟩ := bc4_ BK8.out))
  go_meet
  case rel => exact ⟨_, (t11), (t12), (t10), H', ⟨by first | omega | exact Nat.le_refl _⟩, ⟨by (with_reducible repeat (first | refine blk_drewN ?_ _ | refine blk_drew ?_ | refine blk_alloc ?_ _)); refine blk_far ?_ NB1_8.out _; exact bk_⟩, ⟨by (with_reducible repeat (first | refine blk_drewN ?_ _ | refine blk_drew ?_ | refine blk_alloc ?_ _)); refine blk_put (cs := #[.int .i64 t5, .int .i64 0, .int .i64 0, .int .i64 0]) ?_ 1 _ rfl; exact bk_⟩, ⟨(hi_ HI0.out)⟩, ⟨(kk_ HK.out)⟩, ⟨(bi_ HB.out HI0.out)⟩⟩
 case rest =>
  clear HC6
  try clear c17
  try clear hcz15_0 hcz15_1 hcz15_2 hcz15_3
  try clear hcz22_0 hcz22_1 hcz22_2 hcz22_3
  try clear hfz15_0 hfz15_1 hfz15_2 hfz15_3
  try clear hfz22_0 hfz22_1 hfz22_2 hfz22_3
  obtain ⟨kq, x1001_5, x1002_5, x9001_5, HA, HJ5, BK1, BK8, HI0, HK, HB⟩ := hcut
  cases kq with
  | zero => exact absurd HA.out (by simp [spec_l02DrawInstr.j0])
  | succ kj5 =>
   have H := HA.out
   clear HA
   simp only [spec_l02DrawInstr.j0] at H
   replace H := Option.bind_eq_some_iff.mp H
   obtain ⟨t13, A230, H⟩ := H
   replace H : (if t13 = true then ((spec_l01Below.f s0_0 x1001_5 x1002_5 3).bind fun bt14 => (spec_l02DrawInstr.j1 kj5 a1 a2 s0_0 bt14.2.1 bt14.2.2 t5 x9001_5 bt14.1 0)) else (spec_l02DrawInstr.j1 kj5 a1 a2 s0_0 x1001_5 x1002_5 t5 x9001_5 0 0)) = some (r1, r2, r3, r4, r5, r6) := H
   have A23 := am_ A230
   clear A230
   have HC24 := am_ H
   clear H
   have hnb25 := NB8_1.out
   have hnc25 := NB1_8.out
   have hnb26 := NB8_0.out
   have hnc26 := NB0_8.out
   obtain ⟨hcz27_0, hcz27_1, hcz27_2, hcz27_3, hfz27_0, hfz27_1, hfz27_2, hfz27_3⟩ := bc4_ BK8.out
   go_upto_if 20 with (first | ((with_reducible refine gate_callee (f := 45) rfl ?_); refine goesL_ (some 20) rfl rfl Try.func45 kr_ rfl #[.int .i64 t5, .int .u8 115] rfl ar_ ?_; (with_reducible refine (spec_l02Named.calls kj5 t5 115 t13 _ A23.out).mono ?_); rintro e w28 ⟨rfl, hb⟩; refine ⟨_, rfl, ?_⟩; have n0_ := bb_ BK1.out hb; have n1_ := bb_ BK8.out hb; have n2_ := am_ (IsS57.below (hi_ HI0.out) hb); have n3_ := am_ (KeepBut.trans (kk_ HK.out) (KeepBut.of_below hb g none) (.inl rfl)); have n4_ := am_ (below_step (bi_ HB.out HI0.out) hb); clear BK1; clear BK8; clear HI0; clear HK; clear HB; have BK1 := n0_; have BK8 := n1_; have HI0 := n2_; have HK := n3_; have HB := n4_; clear n0_ n1_ n2_ n3_ n4_; (try clear hb); (try clear hb2); (try clear hk); (try clear hi)))
   (try simp only [Act.put, List.setIfInBounds_toArray, List.set_cons_zero, List.set_cons_succ])
   go_cut [] (fun wc => ∃ (kq : Nat) (x1001_23 : Int) (x1002_23 : Int) (x9002_23 : Int), Aside0 (spec_l02DrawInstr.j1 kq a1 a2 s0_0 x1001_23 x1002_23 t5 x9001_5 x9002_23 0 = some (r1, r2, r3, r4, r5, r6)) ∧ Aside0 (kq ≤ kj5) ∧ Aside0 (wc.heap[gb1]? = some (.cells #[.int .i64 0, .int .i64 0, .int .i64 0, .int .i64 0] 50 (0, 0))) ∧ Aside0 (wc.heap[gb8]? = some (.cells #[.int .i64 t5, .int .i64 x9001_5, .int .i64 x9002_23, .int .i64 0] 50 (0, 0))) ∧ Aside0 (IsS57 w0 wc g s0_0 x1001_23 x1002_23) ∧ Aside0 (KeepBut w wc g none) ∧ Aside0 (Below w0.heap.size w0 wc))
   case first =>
    have H := HC24.out
    clear HC24
    by_cases c29 : t13 = true
    rotate_left
    ·replace c29 := Bool.eq_false_iff.mpr c29
     subst c29
     have H1 : (spec_l02DrawInstr.j1 kj5 a1 a2 s0_0 x1001_5 x1002_5 t5 x9001_5 0 0) = some (r1, r2, r3, r4, r5, r6) := by rw [if_neg (show ¬ (false = true) by decide)] at H; exact H
     clear H
     have H := H1
     clear H1
     have H' := am_ H
     clear H
     go_wp2
     go_meet
     case rel => exact ⟨_, (x1001_5), (x1002_5), (0), H', ⟨by have := HJ5.out; first | omega | exact Nat.le_refl _⟩, ⟨bk_⟩, ⟨bk_⟩, ⟨(hi_ HI0.out)⟩, ⟨(kk_ HK.out)⟩, ⟨(bi_ HB.out HI0.out)⟩⟩
    subst c29
    have H1 : ((spec_l01Below.f s0_0 x1001_5 x1002_5 3).bind fun bt14 => (spec_l02DrawInstr.j1 kj5 a1 a2 s0_0 bt14.2.1 bt14.2.2 t5 x9001_5 bt14.1 0)) = some (r1, r2, r3, r4, r5, r6) := by rw [if_pos rfl] at H; exact H
    clear H
    have H := H1
    clear H1
    replace H := Option.bind_eq_some_iff.mp H
    obtain ⟨⟨t14, t15, t16⟩, A300, H⟩ := H
    replace H : (spec_l02DrawInstr.j1 kj5 a1 a2 s0_0 t15 t16 t5 x9001_5 t14 0) = some (r1, r2, r3, r4, r5, r6) := H
    have A30 := am_ A300
    clear A300
    have H' := am_ H
    clear H
    go_wp2_with (first | ((with_reducible refine gate_callee (f := 29) rfl ?_); refine goesL_ (some 22) rfl rfl Try.func29 kr_ rfl #[.pointer (some ⟨g, 0, none⟩), .int .i64 3] rfl ar_ ?_; (with_reducible refine (spec_l01Below.calls g s0_0 x1001_5 x1002_5 3 t14 t15 t16 w0 _ ?side1 ?side2 A30.out).mono ?_); (case side1 => exact (hi_ HI0.out)); (case side2 => exact (bi_ HB.out HI0.out)); rintro e w31 ⟨rfl, hi, hb, hk⟩; refine ⟨_, rfl, ?_⟩; have n0_ := am_ (KeepBut.blk hk (g' := gb1) (o := .cells #[.int .i64 0, .int .i64 0, .int .i64 0, .int .i64 0] 50 (0, 0)) bk_ NB1_0.out (by simp)); have n1_ := am_ (KeepBut.blk hk (g' := gb8) (o := .cells #[.int .i64 t5, .int .i64 x9001_5, .int .i64 0, .int .i64 0] 50 (0, 0)) bk_ NB8_0.out (by simp)); have n2_ := am_ (KeepBut.trans (kk_ HK.out) hk (.inl rfl)); have n3_ := am_ (hb); have n4_ := am_ (hi); clear BK1; clear BK8; clear HK; clear HB; clear HI0; have BK1 := n0_; have BK8 := n1_; have HK := n2_; have HB := n3_; have HI0 := n4_; clear n0_ n1_ n2_ n3_ n4_; (try clear hb); (try clear hb2); (try clear hk); (try clear hi); have hnb32 := NB8_1.out; have hnc32 := NB1_8.out; have hnb33 := NB8_0.out; have hnc33 := NB0_8.out; obtain ⟨hcz34_0, hcz34_1, hcz34_2, hcz34_3, hfz34_0, hfz34_1, hfz34_2, hfz34_3⟩ := bc4_ BK8.out))
    go_meet
    case rel => exact ⟨_, (t15), (t16), (t14), H', ⟨by have := HJ5.out; first | omega | exact Nat.le_refl _⟩, ⟨by (with_reducible repeat (first | refine blk_drewN ?_ _ | refine blk_drew ?_ | refine blk_alloc ?_ _)); refine blk_far ?_ NB1_8.out _; exact bk_⟩, ⟨by (with_reducible repeat (first | refine blk_drewN ?_ _ | refine blk_drew ?_ | refine blk_alloc ?_ _)); refine blk_put (cs := #[.int .i64 t5, .int .i64 x9001_5, .int .i64 0, .int .i64 0]) ?_ 2 _ rfl; exact bk_⟩, ⟨(hi_ HI0.out)⟩, ⟨(kk_ HK.out)⟩, ⟨(bi_ HB.out HI0.out)⟩⟩
   case rest =>
    clear HC24
    try clear c17
    try clear c29
    try clear hcz15_0 hcz15_1 hcz15_2 hcz15_3
    try clear hcz22_0 hcz22_1 hcz22_2 hcz22_3
    try clear hcz27_0 hcz27_1 hcz27_2 hcz27_3
    try clear hcz34_0 hcz34_1 hcz34_2 hcz34_3
    try clear hfz15_0 hfz15_1 hfz15_2 hfz15_3
    try clear hfz22_0 hfz22_1 hfz22_2 hfz22_3
    try clear hfz27_0 hfz27_1 hfz27_2 hfz27_3
    try clear hfz34_0 hfz34_1 hfz34_2 hfz34_3
    obtain ⟨kq, x1001_23, x1002_23, x9002_23, HA, HJ23, BK1, BK8, HI0, HK, HB⟩ := hcut
    cases kq with
    | zero => exact absurd HA.out (by simp [spec_l02DrawInstr.j1])
    | succ kj23 =>
     have H := HA.out
     clear HA
     simp only [spec_l02DrawInstr.j1] at H
     by_cases c35 : t5 = 0
     ·rw [if_pos c35] at H
      have c35b0 : (t5 == 0) = true := beq_iff_eq.mpr c35
      have c35b1 : (t5 != 0) = false := bne_eq_false_iff_eq.mpr c35
      clear c35
      obtain ⟨y17, hy17⟩ : ∃ y_ : List Int, y_ = (([0, 1, 1, 2, 5, (-1), 1000] : List Int)) := ⟨_, rfl⟩
      replace H : ((spec_l01PickInt.f s0_0 x1001_23 x1002_23 y17).bind fun bt20 => (some (t5, x9001_5, x9002_23, bt20.1, bt20.2.1, bt20.2.2))) = some (r1, r2, r3, r4, r5, r6) := rh_ hy17
      have Ny17 := am_ hy17
      clear hy17
      replace H := Option.bind_eq_some_iff.mp H
      obtain ⟨⟨t20, t21, t22⟩, A360, H⟩ := H
      replace H : (some (t5, x9001_5, x9002_23, t20, t21, t22)) = some (r1, r2, r3, r4, r5, r6) := H
      have A36 := am_ A360
      clear A360
      simp only [Option.some.injEq, Prod.mk.injEq] at H
      obtain ⟨rfl, rfl, rfl, rfl, rfl, rfl⟩ := H
      have hnb37 := NB8_1.out
      have hnc37 := NB1_8.out
      have hnb38 := NB8_0.out
      have hnc38 := NB0_8.out
      obtain ⟨hcz39_0, hcz39_1, hcz39_2, hcz39_3, hfz39_0, hfz39_1, hfz39_2, hfz39_3⟩ := bc4_ BK8.out
      go_wp2_with (first | ((with_reducible refine gate_dst (N := 29) rfl ?_); refine Kd.R_lit (Kd.int .i64) _ 3 ?hg (N := 29) ?hd (xs := ([0, 1, 1, 2, 5, (-1), 1000] : List Int)) (inner := [.int .i64 0, .int .i64 1, .int .i64 1, .int .i64 2, .int .i64 5, .int .i64 (-1), .int .i64 1000]) (ok := fun _ => True) (okp := fun _ => True) ?hr ?hp (fun _ hk => hk) trivial (Below.refl _ _) (Nat.le_refl _) (by simp) ?_; (case hd => rfl); (case hg => rfl); (case hr => first | (go_simp; done) | (go_simp; rfl)); (case hp => exact (Reps.one (show Kd.M (Kd.int .i64) _ _ _ 0 [.int .i64 0] from rfl) (Reps.one (show Kd.M (Kd.int .i64) _ _ _ 1 [.int .i64 1] from rfl) (Reps.one (show Kd.M (Kd.int .i64) _ _ _ 1 [.int .i64 1] from rfl) (Reps.one (show Kd.M (Kd.int .i64) _ _ _ 2 [.int .i64 2] from rfl) (Reps.one (show Kd.M (Kd.int .i64) _ _ _ 5 [.int .i64 5] from rfl) (Reps.one (show Kd.M (Kd.int .i64) _ _ _ (-1) [.int .i64 (-1)] from rfl) (Reps.one (show Kd.M (Kd.int .i64) _ _ _ 1000 [.int .i64 1000] from rfl) (Reps.none _ _))))))))); intro v18 w40 ho41 hb hg_ hnew_; clear hg_ hnew_; (first | rw [← Ny17.out] at ho41 | (simp only [Int.reduceToNat] at ho41; rw [← Ny17.out] at ho41)); have n0_ := am_ (Kd.R_lower ho41 (keep_size (w := w) (g := g) (row := none) (kk_ HK.out))); have n1_ := bb_ BK1.out hb; have n2_ := bb_ BK8.out hb; have n3_ := am_ (IsS57.below (hi_ HI0.out) hb); have n4_ := am_ (KeepBut.trans (kk_ HK.out) (KeepBut.of_below hb g none) (.inl rfl)); have n5_ := am_ (below_step (bi_ HB.out HI0.out) hb); clear BK1; clear BK8; clear HI0; clear HK; clear HB; have HO19 := n0_; have BK1 := n1_; have BK8 := n2_; have HI0 := n3_; have HK := n4_; have HB := n5_; clear n0_ n1_ n2_ n3_ n4_ n5_; clear hb ho41; obtain ⟨Ao42, co42, eo42⟩ := Kd.R_slice HO19.out; subst eo42) | ((with_reducible refine gate_callee (f := 40) rfl ?_); refine goesL_ (some 30) rfl rfl Try.func40 kr_ rfl #[.pointer (some ⟨g, 0, none⟩), .slice Ao42 y17.length co42] rfl ar_ ?_; (with_reducible refine (spec_l01PickInt.calls g s0_0 x1001_23 x1002_23 _ _ y17 t20 t21 t22 w0 _ ?side1 ?side2 ?side3 ?side4 ?side5 A36.out).mono ?_); (case side1 => exact (hi_ HI0.out)); (case side2 => exact (bi_ HB.out HI0.out)); (case side3 => repeat (first | exact (Kd.R_reads' HO19.out).2.2 | (with_reducible refine Kd.C_alloc ?_ _) | (with_reducible refine Kd.C_drewN ?_ _) | (with_reducible refine Kd.C_drew ?_))); (case side4 => exact (Kd.R_reads' HO19.out).2.1); (case side5 => exact far_slice (IsS57.own_ne HI0.out HO19.out (by decide))); rintro e w43 ⟨rfl, hi, hb, hk⟩; refine ⟨_, rfl, ?_⟩; have n0_ := am_ (KeepBut.blk hk (g' := gb1) (o := .cells #[.int .i64 0, .int .i64 0, .int .i64 0, .int .i64 0] 50 (0, 0)) bk_ NB1_0.out (by simp)); have n1_ := am_ (KeepBut.blk hk (g' := gb8) (o := .cells #[.int .i64 t5, .int .i64 x9001_5, .int .i64 x9002_23, .int .i64 0] 50 (0, 0)) bk_ NB8_0.out (by simp)); have n2_ := am_ (Kd.R_mono (Kd.R_keep (IsS57.apart (show IsS57 w0 _ g s0_0 x1001_23 x1002_23 from (hi_ HI0.out)) (rx_ HO19.out) (by decide)) hk (fun _ h => h.2)) (fun _ h => h.1)); have n3_ := am_ (KeepBut.trans (kk_ HK.out) hk (.inl rfl)); have n4_ := am_ (hb); have n5_ := am_ (hi); clear BK1; clear BK8; clear HO19; clear HK; clear HB; clear HI0; have BK1 := n0_; have BK8 := n1_; have HO19 := n2_; have HK := n3_; have HB := n4_; have HI0 := n5_; clear n0_ n1_ n2_ n3_ n4_ n5_; (try clear hb); (try clear hb2); (try clear hk); (try clear hi); obtain ⟨hcz44_0, hcz44_1, hcz44_2, hcz44_3, hfz44_0, hfz44_1, hfz44_2, hfz44_3⟩ := bc4_ BK8.out; have hnb45 := NB1_0.out; have hnc45 := NB0_1.out; obtain ⟨hcz46_0, hcz46_1, hcz46_2, hcz46_3, hfz46_0, hfz46_1, hfz46_2, hfz46_3⟩ := bc4_ BK1.out))
      refine bodyPost_ret (results_cell_row rfl _ _ gb1 50 #[.int .i64 t5, .int .i64 x9001_5, .int .i64 x9002_23, .int .i64 t20] (0, 0) _ rfl (by (with_reducible repeat (first | refine blk_drewN ?_ _ | refine blk_drew ?_ | refine blk_alloc ?_ _)); refine blk_put (cs := #[.int .i64 t5, .int .i64 x9001_5, .int .i64 x9002_23, .int .i64 0]) ?_ 3 _ rfl; (with_reducible repeat (first | refine blk_drewN ?_ _ | refine blk_drew ?_ | refine blk_alloc ?_ _)); refine blk_put (cs := #[.int .i64 t5, .int .i64 x9001_5, .int .i64 0, .int .i64 0]) ?_ 2 _ rfl; (with_reducible repeat (first | refine blk_drewN ?_ _ | refine blk_drew ?_ | refine blk_alloc ?_ _)); refine blk_put (cs := #[.int .i64 t5, .int .i64 0, .int .i64 0, .int .i64 0]) ?_ 1 _ rfl; (with_reducible repeat (first | refine blk_drewN ?_ _ | refine blk_drew ?_ | refine blk_alloc ?_ _)); refine blk_put (cs := #[.int .i64 0, .int .i64 0, .int .i64 0, .int .i64 0]) ?_ 0 _ rfl; (with_reducible repeat (first | refine blk_drewN ?_ _ | refine blk_drew ?_ | refine blk_alloc ?_ _)); refine blk_far ?_ NB1_8.out _; exact bk_) Try.underlying50 rfl kr_) rfl ?_
      exact ⟨rr_, (hi_ HI0.out), (bi_ HB.out HI0.out), (kk_ HK.out)⟩
     rw [if_neg c35] at H
     have c35b0 : (t5 == 0) = false := beq_eq_false_iff_ne.mpr c35
     have c35b1 : (t5 != 0) = true := bne_iff_ne.mpr c35
     have HC47 := am_ H
     clear H
     have hnb48 := NB8_1.out
     have hnc48 := NB1_8.out
     have hnb49 := NB8_0.out
     have hnc49 := NB0_8.out
     obtain ⟨hcz50_0, hcz50_1, hcz50_2, hcz50_3, hfz50_0, hfz50_1, hfz50_2, hfz50_3⟩ := bc4_ BK8.out
     go_upto_if 32 with (fail)
     go_cut [32] (fun v32 wc => ∃ (kq : Nat) (x32_46 : Bool), v32 = .bool x32_46 ∧ Aside0 (spec_l02DrawInstr.j2 kq a1 a2 t5 x32_46 s0_0 x1001_23 x1002_23 t5 x9001_5 x9002_23 0 = some (r1, r2, r3, r4, r5, r6)) ∧ Aside0 (kq ≤ kj23) ∧ Aside0 (wc.heap[gb1]? = some (.cells #[.int .i64 0, .int .i64 0, .int .i64 0, .int .i64 0] 50 (0, 0))) ∧ Aside0 (wc.heap[gb8]? = some (.cells #[.int .i64 t5, .int .i64 x9001_5, .int .i64 x9002_23, .int .i64 0] 50 (0, 0))) ∧ Aside0 (IsS57 w0 wc g s0_0 x1001_23 x1002_23) ∧ Aside0 (KeepBut w wc g none) ∧ Aside0 (Below w0.heap.size w0 wc))
     case first =>
      have H := HC47.out
      clear HC47
      by_cases c51 : t5 = 2
      ·rw [if_pos c51] at H
       have c51b0 : (t5 == 2) = true := beq_iff_eq.mpr c51
       have c51b1 : (t5 != 2) = false := bne_eq_false_iff_eq.mpr c51
       clear c51
       (first | rw [c51b0] | (simp only [i64_w, i32_w]; rw [c51b0]) | skip)
       have H' := am_ H
       clear H
       go_wp2
       go_meet
       case rel => exact ⟨_, ((t5 == 2)), sd_, H', ⟨by have := HJ5.out; have := HJ23.out; first | omega | exact Nat.le_refl _⟩, ⟨bk_⟩, ⟨bk_⟩, ⟨(hi_ HI0.out)⟩, ⟨(kk_ HK.out)⟩, ⟨(bi_ HB.out HI0.out)⟩⟩
      rw [if_neg c51] at H
      have c51b0 : (t5 == 2) = false := beq_eq_false_iff_ne.mpr c51
      have c51b1 : (t5 != 2) = true := bne_iff_ne.mpr c51
      (first | rw [c51b0] | (simp only [i64_w, i32_w]; rw [c51b0]) | skip)
      by_cases c52 : t5 = 3
      ·rw [if_pos c52] at H
       have c52b0 : (t5 == 3) = true := beq_iff_eq.mpr c52
       have c52b1 : (t5 != 3) = false := bne_eq_false_iff_eq.mpr c52
       clear c52
       have H' := am_ H
       clear H
       go_wp2
       go_meet
       case rel => exact ⟨_, ((t5 == 3)), sd_, H', ⟨by have := HJ5.out; have := HJ23.out; first | omega | exact Nat.le_refl _⟩, ⟨bk_⟩, ⟨bk_⟩, ⟨(hi_ HI0.out)⟩, ⟨(kk_ HK.out)⟩, ⟨(bi_ HB.out HI0.out)⟩⟩
      rw [if_neg c52] at H
      have c52b0 : (t5 == 3) = false := beq_eq_false_iff_ne.mpr c52
      have c52b1 : (t5 != 3) = true := bne_iff_ne.mpr c52
      by_cases c53 : t5 = 5
      rotate_left
      ·rw [if_neg c53] at H
       have c53b0 : (t5 == 5) = false := beq_eq_false_iff_ne.mpr c53
       have c53b1 : (t5 != 5) = true := bne_iff_ne.mpr c53
       have H' := am_ H
       clear H
       go_wp2
       go_meet
       case rel => exact ⟨_, ((t5 == 7)), sd_, H', ⟨by have := HJ5.out; have := HJ23.out; first | omega | exact Nat.le_refl _⟩, ⟨bk_⟩, ⟨bk_⟩, ⟨(hi_ HI0.out)⟩, ⟨(kk_ HK.out)⟩, ⟨(bi_ HB.out HI0.out)⟩⟩
      rw [if_pos c53] at H
      have c53b0 : (t5 == 5) = true := beq_iff_eq.mpr c53
      have c53b1 : (t5 != 5) = false := bne_eq_false_iff_eq.mpr c53
      clear c53
      have H' := am_ H
      clear H
      go_wp2
      go_meet
      case rel => exact ⟨_, ((t5 == 5)), sd_, H', ⟨by have := HJ5.out; have := HJ23.out; first | omega | exact Nat.le_refl _⟩, ⟨bk_⟩, ⟨bk_⟩, ⟨(hi_ HI0.out)⟩, ⟨(kk_ HK.out)⟩, ⟨(bi_ HB.out HI0.out)⟩⟩
     case rest =>
      clear HC47
      try clear c17
      try clear c29
      try clear c35
      try clear c35b0
      try clear c35b1
      try clear c51
      try clear c51b0
      try clear c51b1
      try clear c52
      try clear c52b0
      try clear c52b1
      try clear c53
      try clear c53b0
      try clear c53b1
      try clear hcz15_0 hcz15_1 hcz15_2 hcz15_3
      try clear hcz22_0 hcz22_1 hcz22_2 hcz22_3
      try clear hcz27_0 hcz27_1 hcz27_2 hcz27_3
      try clear hcz34_0 hcz34_1 hcz34_2 hcz34_3
      try clear hcz39_0 hcz39_1 hcz39_2 hcz39_3
      try clear hcz44_0 hcz44_1 hcz44_2 hcz44_3
      try clear hcz46_0 hcz46_1 hcz46_2 hcz46_3
      try clear hcz50_0 hcz50_1 hcz50_2 hcz50_3
      try clear hfz15_0 hfz15_1 hfz15_2 hfz15_3
      try clear hfz22_0 hfz22_1 hfz22_2 hfz22_3
      try clear hfz27_0 hfz27_1 hfz27_2 hfz27_3
      try clear hfz34_0 hfz34_1 hfz34_2 hfz34_3
      try clear hfz39_0 hfz39_1 hfz39_2 hfz39_3
      try clear hfz44_0 hfz44_1 hfz44_2 hfz44_3
      try clear hfz46_0 hfz46_1 hfz46_2 hfz46_3
      try clear hfz50_0 hfz50_1 hfz50_2 hfz50_3
      obtain ⟨kq, x32_46, rfl, HA, HJ46, BK1, BK8, HI0, HK, HB⟩ := hcut
      cases kq with
      | zero => exact absurd HA.out (by simp [spec_l02DrawInstr.j2])
      | succ kj46 =>
       have H := HA.out
       clear HA
       simp only [spec_l02DrawInstr.j2] at H
       by_cases c54 : x32_46 = true
       ·subst c54
        have H1 : ((spec_l01Below.f s0_0 x1001_23 x1002_23 a1).bind fun bt23 => (some (t5, x9001_5, x9002_23, bt23.1, bt23.2.1, bt23.2.2))) = some (r1, r2, r3, r4, r5, r6) := by rw [if_pos rfl] at H; exact H
        clear H
        have H := H1
        clear H1
        replace H := Option.bind_eq_some_iff.mp H
        obtain ⟨⟨t23, t24, t25⟩, A550, H⟩ := H
        replace H : (some (t5, x9001_5, x9002_23, t23, t24, t25)) = some (r1, r2, r3, r4, r5, r6) := H
        have A55 := am_ A550
        clear A550
        simp only [Option.some.injEq, Prod.mk.injEq] at H
        obtain ⟨rfl, rfl, rfl, rfl, rfl, rfl⟩ := H
        go_wp2_with (first | ((with_reducible refine gate_callee (f := 29) rfl ?_); refine goesL_ (some 39) rfl rfl Try.func29 kr_ rfl #[.pointer (some ⟨g, 0, none⟩), .int .i64 a1] rfl ar_ ?_; (with_reducible refine (spec_l01Below.calls g s0_0 x1001_23 x1002_23 a1 t23 t24 t25 w0 _ ?side1 ?side2 A55.out).mono ?_); (case side1 => exact (hi_ HI0.out)); (case side2 => exact (bi_ HB.out HI0.out)); rintro e w56 ⟨rfl, hi, hb, hk⟩; refine ⟨_, rfl, ?_⟩; have n0_ := am_ (KeepBut.blk hk (g' := gb1) (o := .cells #[.int .i64 0, .int .i64 0, .int .i64 0, .int .i64 0] 50 (0, 0)) bk_ NB1_0.out (by simp)); have n1_ := am_ (KeepBut.blk hk (g' := gb8) (o := .cells #[.int .i64 t5, .int .i64 x9001_5, .int .i64 x9002_23, .int .i64 0] 50 (0, 0)) bk_ NB8_0.out (by simp)); have n2_ := am_ (KeepBut.trans (kk_ HK.out) hk (.inl rfl)); have n3_ := am_ (hb); have n4_ := am_ (hi); clear BK1; clear BK8; clear HK; clear HB; clear HI0; have BK1 := n0_; have BK8 := n1_; have HK := n2_; have HB := n3_; have HI0 := n4_; clear n0_ n1_ n2_ n3_ n4_; (try clear hb); (try clear hb2); (try clear hk); (try clear hi); have hnb57 := NB8_1.out; have hnc57 := NB1_8.out; have hnb58 := NB8_0.out; have hnc58 := NB0_8.out; obtain ⟨hcz59_0, hcz59_1, hcz59_2, hcz59_3, hfz59_0, hfz59_1, hfz59_2, hfz59_3⟩ := bc4_ BK8.out; have hnb60 := NB1_0.out; have hnc60 := NB0_1.out; obtain ⟨hcz61_0, hcz61_1, hcz61_2, hcz61_3, hfz61_0, hfz61_1, hfz61_2, hfz61_3⟩ := bc4_ BK1.out))
        refine bodyPost_ret (results_cell_row rfl _ _ gb1 50 #[.int .i64 t5, .int .i64 x9001_5, .int .i64 x9002_23, .int .i64 t23] (0, 0) _ rfl (by (with_reducible repeat (first | refine blk_drewN ?_ _ | refine blk_drew ?_ | refine blk_alloc ?_ _)); refine blk_put (cs := #[.int .i64 t5, .int .i64 x9001_5, .int .i64 x9002_23, .int .i64 0]) ?_ 3 _ rfl; (with_reducible repeat (first | refine blk_drewN ?_ _ | refine blk_drew ?_ | refine blk_alloc ?_ _)); refine blk_put (cs := #[.int .i64 t5, .int .i64 x9001_5, .int .i64 0, .int .i64 0]) ?_ 2 _ rfl; (with_reducible repeat (first | refine blk_drewN ?_ _ | refine blk_drew ?_ | refine blk_alloc ?_ _)); refine blk_put (cs := #[.int .i64 t5, .int .i64 0, .int .i64 0, .int .i64 0]) ?_ 1 _ rfl; (with_reducible repeat (first | refine blk_drewN ?_ _ | refine blk_drew ?_ | refine blk_alloc ?_ _)); refine blk_put (cs := #[.int .i64 0, .int .i64 0, .int .i64 0, .int .i64 0]) ?_ 0 _ rfl; (with_reducible repeat (first | refine blk_drewN ?_ _ | refine blk_drew ?_ | refine blk_alloc ?_ _)); refine blk_far ?_ NB1_8.out _; exact bk_) Try.underlying50 rfl kr_) rfl ?_
        exact ⟨rr_, (hi_ HI0.out), (bi_ HB.out HI0.out), (kk_ HK.out)⟩
       replace c54 := Bool.eq_false_iff.mpr c54
       subst c54
       have H1 : (if t5 = 6 then ((spec_l01Below.f s0_0 x1001_23 x1002_23 (wrap64 (a2 + 1))).bind fun bt26 => (some (t5, x9001_5, x9002_23, bt26.1, bt26.2.1, bt26.2.2))) else (some (t5, x9001_5, x9002_23, 0, x1001_23, x1002_23))) = some (r1, r2, r3, r4, r5, r6) := by rw [if_neg (show ¬ (false = true) by decide)] at H; exact H
       clear H
       have H := H1
       clear H1
       by_cases c62 : t5 = 6
       ·rw [if_pos c62] at H
        have c62b0 : (t5 == 6) = true := beq_iff_eq.mpr c62
        have c62b1 : (t5 != 6) = false := bne_eq_false_iff_eq.mpr c62
        clear c62
        replace H := Option.bind_eq_some_iff.mp H
        obtain ⟨⟨t26, t27, t28⟩, A630, H⟩ := H
        replace H : (some (t5, x9001_5, x9002_23, t26, t27, t28)) = some (r1, r2, r3, r4, r5, r6) := H
        have A63 := am_ A630
        clear A630
        simp only [Option.some.injEq, Prod.mk.injEq] at H
        obtain ⟨rfl, rfl, rfl, rfl, rfl, rfl⟩ := H
        go_wp2_with (first | ((with_reducible refine gate_callee (f := 29) rfl ?_); refine goesL_ (some 46) rfl rfl Try.func29 kr_ rfl #[.pointer (some ⟨g, 0, none⟩), .int .i64 (wrap64 (a2 + 1))] rfl ar_ ?_; (with_reducible refine (spec_l01Below.calls g s0_0 x1001_23 x1002_23 (wrap64 (a2 + 1)) t26 t27 t28 w0 _ ?side1 ?side2 A63.out).mono ?_); (case side1 => exact (hi_ HI0.out)); (case side2 => exact (bi_ HB.out HI0.out)); rintro e w64 ⟨rfl, hi, hb, hk⟩; refine ⟨_, rfl, ?_⟩; have n0_ := am_ (KeepBut.blk hk (g' := gb1) (o := .cells #[.int .i64 0, .int .i64 0, .int .i64 0, .int .i64 0] 50 (0, 0)) bk_ NB1_0.out (by simp)); have n1_ := am_ (KeepBut.blk hk (g' := gb8) (o := .cells #[.int .i64 t5, .int .i64 x9001_5, .int .i64 x9002_23, .int .i64 0] 50 (0, 0)) bk_ NB8_0.out (by simp)); have n2_ := am_ (KeepBut.trans (kk_ HK.out) hk (.inl rfl)); have n3_ := am_ (hb); have n4_ := am_ (hi); clear BK1; clear BK8; clear HK; clear HB; clear HI0; have BK1 := n0_; have BK8 := n1_; have HK := n2_; have HB := n3_; have HI0 := n4_; clear n0_ n1_ n2_ n3_ n4_; (try clear hb); (try clear hb2); (try clear hk); (try clear hi); have hnb65 := NB8_1.out; have hnc65 := NB1_8.out; have hnb66 := NB8_0.out; have hnc66 := NB0_8.out; obtain ⟨hcz67_0, hcz67_1, hcz67_2, hcz67_3, hfz67_0, hfz67_1, hfz67_2, hfz67_3⟩ := bc4_ BK8.out; have hnb68 := NB1_0.out; have hnc68 := NB0_1.out; obtain ⟨hcz69_0, hcz69_1, hcz69_2, hcz69_3, hfz69_0, hfz69_1, hfz69_2, hfz69_3⟩ := bc4_ BK1.out))
        refine bodyPost_ret (results_cell_row rfl _ _ gb1 50 #[.int .i64 t5, .int .i64 x9001_5, .int .i64 x9002_23, .int .i64 t26] (0, 0) _ rfl (by (with_reducible repeat (first | refine blk_drewN ?_ _ | refine blk_drew ?_ | refine blk_alloc ?_ _)); refine blk_put (cs := #[.int .i64 t5, .int .i64 x9001_5, .int .i64 x9002_23, .int .i64 0]) ?_ 3 _ rfl; (with_reducible repeat (first | refine blk_drewN ?_ _ | refine blk_drew ?_ | refine blk_alloc ?_ _)); refine blk_put (cs := #[.int .i64 t5, .int .i64 x9001_5, .int .i64 0, .int .i64 0]) ?_ 2 _ rfl; (with_reducible repeat (first | refine blk_drewN ?_ _ | refine blk_drew ?_ | refine blk_alloc ?_ _)); refine blk_put (cs := #[.int .i64 t5, .int .i64 0, .int .i64 0, .int .i64 0]) ?_ 1 _ rfl; (with_reducible repeat (first | refine blk_drewN ?_ _ | refine blk_drew ?_ | refine blk_alloc ?_ _)); refine blk_put (cs := #[.int .i64 0, .int .i64 0, .int .i64 0, .int .i64 0]) ?_ 0 _ rfl; (with_reducible repeat (first | refine blk_drewN ?_ _ | refine blk_drew ?_ | refine blk_alloc ?_ _)); refine blk_far ?_ NB1_8.out _; exact bk_) Try.underlying50 rfl kr_) rfl ?_
        exact ⟨rr_, (hi_ HI0.out), (bi_ HB.out HI0.out), (kk_ HK.out)⟩
       rw [if_neg c62] at H
       have c62b0 : (t5 == 6) = false := beq_eq_false_iff_ne.mpr c62
       have c62b1 : (t5 != 6) = true := bne_iff_ne.mpr c62
       simp only [Option.some.injEq, Prod.mk.injEq] at H
       obtain ⟨rfl, rfl, rfl, rfl, rfl, rfl⟩ := H
       have hnb70 := NB8_1.out
       have hnc70 := NB1_8.out
       have hnb71 := NB8_0.out
       have hnc71 := NB0_8.out
       obtain ⟨hcz72_0, hcz72_1, hcz72_2, hcz72_3, hfz72_0, hfz72_1, hfz72_2, hfz72_3⟩ := bc4_ BK8.out
       have hnb73 := NB1_0.out
       have hnc73 := NB0_1.out
       obtain ⟨hcz74_0, hcz74_1, hcz74_2, hcz74_3, hfz74_0, hfz74_1, hfz74_2, hfz74_3⟩ := bc4_ BK1.out
       go_wp2
       refine bodyPost_ret (results_cell_row rfl _ _ gb1 50 #[.int .i64 t5, .int .i64 x9001_5, .int .i64 x9002_23, .int .i64 0] (0, 0) _ rfl (by (with_reducible repeat (first | refine blk_drewN ?_ _ | refine blk_drew ?_ | refine blk_alloc ?_ _)); refine blk_put (cs := #[.int .i64 t5, .int .i64 x9001_5, .int .i64 x9002_23, .int .i64 0]) ?_ 3 _ rfl; (with_reducible repeat (first | refine blk_drewN ?_ _ | refine blk_drew ?_ | refine blk_alloc ?_ _)); refine blk_put (cs := #[.int .i64 t5, .int .i64 x9001_5, .int .i64 0, .int .i64 0]) ?_ 2 _ rfl; (with_reducible repeat (first | refine blk_drewN ?_ _ | refine blk_drew ?_ | refine blk_alloc ?_ _)); refine blk_put (cs := #[.int .i64 t5, .int .i64 0, .int .i64 0, .int .i64 0]) ?_ 1 _ rfl; (with_reducible repeat (first | refine blk_drewN ?_ _ | refine blk_drew ?_ | refine blk_alloc ?_ _)); refine blk_put (cs := #[.int .i64 0, .int .i64 0, .int .i64 0, .int .i64 0]) ?_ 0 _ rfl; exact bk_) Try.underlying50 rfl kr_) rfl ?_
       exact ⟨rr_, (hi_ HI0.out), (bi_ HB.out HI0.out), (kk_ HK.out)⟩

end Go.Proofs.Ytbgclnjnngolmaa.P
