-- Written by mp.py (the session's own driver over the kit's printer) for the seat Ytbgclnjnngolmaa.
import Derived.Test.YtbgclnjnngolmaaK
import Derived.Test.YtbgclnjnngolmaaE
import Derived.Test.YtbgclnjnngolmaaPlawsbig
namespace Go.Proofs.Ytbgclnjnngolmaa.P
open Go.RowKit Go.Proofs.YtbgclnjnngolmaaW.PrintWords Go.Proofs.YtbgclnjnngolmaaW.PrintLast Go.Proofs.YtbgclnjnngolmaaW.PrintMore
attribute [local go_sem] max2_int min2_int max_two min_two max_three min_three max_four min_four
set_option linter.unusedVariables false
set_option linter.unusedSimpArgs false

/-! ### spec_l07DrawSpots: function 15 -/
mutual
def spec_l07DrawSpots.l0 : Nat → List (S44) → Int → List Int → Int → Int → Int → List (List (S50)) → Option ((List (S44)) × Int × Int)
 | 0, _, _, _, _, _, _, _ => none
 | k + 1, x5, x6, x1000, x1001, x1002, x2000, x2001 => if x6 < (x2001.length : Int) then (spec_l07DrawSpots.l1 k x5 x6 0 x1000 x1001 x1002 x2000 x2001) else ((spec_l01Once.f x1000 x1001 x1002 10).bind fun bt12 => (if bt12.1 = true then ((spec_l01Below.f x1000 bt12.2.1 bt12.2.2 4).bind fun bt15 => ((spec_l01Below.f x1000 bt15.2.1 bt15.2.2 9).bind fun bt18 => (if x5.length < 8796093022208 then (some ((x5 ++ [(⟨wrap64 (bt15.1 - 1), wrap64 (bt18.1 - 1)⟩ : S44)]), bt18.2.1, bt18.2.2)) else (none)))) else (some (x5, bt12.2.1, bt12.2.2))))
def spec_l07DrawSpots.l1 : Nat → List (S44) → Int → Int → List Int → Int → Int → Int → List (List (S50)) → Option ((List (S44)) × Int × Int)
 | 0, _, _, _, _, _, _, _, _ => none
 | k + 1, x5, x6, x7, x1000, x1001, x1002, x2000, x2001 => if 0 ≤ x6 then (if x6 < (x2001.length : Int) then (if x7 ≤ ((rd_L4 x2001 x6).length : Int) then ((spec_l01Once.f x1000 x1001 x1002 4).bind fun bt6 => (if bt6.1 = true then (if x5.length < 8796093022208 then (spec_l07DrawSpots.l1 k (x5 ++ [(⟨x6, x7⟩ : S44)]) x6 (wrap64 (x7 + 1)) x1000 bt6.2.1 bt6.2.2 x2000 x2001) else (none)) else (spec_l07DrawSpots.l1 k x5 x6 (wrap64 (x7 + 1)) x1000 bt6.2.1 bt6.2.2 x2000 x2001))) else (spec_l07DrawSpots.l0 k x5 (wrap64 (x6 + 1)) x1000 x1001 x1002 x2000 x2001)) else (none)) else (none)
end
def spec_l07DrawSpots.f (k : Nat) (s0_0 : List Int) (s0_1 : Int) (s0_2 : Int) (a1_0 : Int) (l1_1 : List (List (S50))) : Option ((List (S44)) × Int × Int) := spec_l07DrawSpots.l0 k (([] : List (S44))) 0 s0_0 s0_1 s0_2 a1_0 l1_1
theorem spec_l07DrawSpots.mono_l : ∀ k, (∀ y0 y1 y2 y3 y4 y5 y6, LeO (spec_l07DrawSpots.l0 k y0 y1 y2 y3 y4 y5 y6) (spec_l07DrawSpots.l0 (k + 1) y0 y1 y2 y3 y4 y5 y6)) ∧ (∀ y0 y1 y2 y3 y4 y5 y6 y7, LeO (spec_l07DrawSpots.l1 k y0 y1 y2 y3 y4 y5 y6 y7) (spec_l07DrawSpots.l1 (k + 1) y0 y1 y2 y3 y4 y5 y6 y7))
 | 0 => ⟨fun _ _ _ _ _ _ _ r h => by simp [spec_l07DrawSpots.l0] at h, fun _ _ _ _ _ _ _ _ r h => by simp [spec_l07DrawSpots.l1] at h⟩
 | k + 1 => by
  obtain ⟨ih0, ih1⟩ := spec_l07DrawSpots.mono_l k
  refine ⟨?_, ?_⟩
  ·intro y0 y1 y2 y3 y4 y5 y6
   unfold spec_l07DrawSpots.l0
   repeat' first | (with_reducible first | exact ih0 _ _ _ _ _ _ _ | exact ih1 _ _ _ _ _ _ _ _ | exact lr_ | exact ln_ | refine LeO.ite ?_ ?_ | refine LeO.bind ?_ (fun _ => ?_)) | exact ih0 _ _ _ _ _ _ _ | exact ih1 _ _ _ _ _ _ _ _ | exact ln_ | refine LeO.ite ?_ ?_ | refine LeO.bind ?_ (fun _ => ?_)
  ·intro y0 y1 y2 y3 y4 y5 y6 y7
   unfold spec_l07DrawSpots.l1
   repeat' first | (with_reducible first | exact ih0 _ _ _ _ _ _ _ | exact ih1 _ _ _ _ _ _ _ _ | exact lr_ | exact ln_ | refine LeO.ite ?_ ?_ | refine LeO.bind ?_ (fun _ => ?_)) | exact ih0 _ _ _ _ _ _ _ | exact ih1 _ _ _ _ _ _ _ _ | exact ln_ | refine LeO.ite ?_ ?_ | refine LeO.bind ?_ (fun _ => ?_)
theorem spec_l07DrawSpots.mono : ∀ a0 a1 a2 a3 a4 k, LeO (spec_l07DrawSpots.f k a0 a1 a2 a3 a4) (spec_l07DrawSpots.f (k + 1) a0 a1 a2 a3 a4) := by
 intro a0 a1 a2 a3 a4 k
 obtain ⟨ih0, ih1⟩ := spec_l07DrawSpots.mono_l k
 unfold spec_l07DrawSpots.f
 repeat' first | (with_reducible first | exact ih0 _ _ _ _ _ _ _ | exact ih1 _ _ _ _ _ _ _ _ | exact lr_ | exact ln_ | refine LeO.ite ?_ ?_ | refine LeO.bind ?_ (fun _ => ?_)) | exact ih0 _ _ _ _ _ _ _ | exact ih1 _ _ _ _ _ _ _ _ | exact ln_ | refine LeO.ite ?_ ?_ | refine LeO.bind ?_ (fun _ => ?_)
set_option maxHeartbeats 8000000 in
set_option maxRecDepth 100000 in
theorem spec_l07DrawSpots.calls (k : Nat) (g : Nat) (s0_0 : List Int) (s0_1 : Int) (s0_2 : Int) (a1_0 : Int) (A1_1 : Option Addr) (c1_1 : Nat) (l1_1 : List (List (S50))) (r1 : List (S44)) (r2 : Int) (r3 : Int) (w0 w : World) (hI : IsS57 w0 w g s0_0 s0_1 s0_2) (hB : Below w0.heap.size w0 w) (hr1_1 : ∀ W_, KeepBut w W_ g none → Kd.C (Kd.slice 50 k50) W_ A1_1 l1_1.length l1_1) (hc1_1 : l1_1.length ≤ c1_1) (h : spec_l07DrawSpots.f k s0_0 s0_1 s0_2 a1_0 l1_1 = some (r1, r2, r3)) :
  Calls Try.prog 15 #[.pointer (some ⟨g, 0, none⟩), .agg #[.int .i64 a1_0, .slice A1_1 l1_1.length c1_1]] w fun e w' => ∃ v0_ : Value, e = .returned (v0_) ∧ Kd.R k44 44 w' w.heap.size (fun _ => True) v0_ r1 ∧ IsS57 w0 w' g s0_0 r2 r3 ∧ Below w0.heap.size w0 w' ∧ KeepBut w w' g none := by
 have hu26 := Try.underlying26
 have hu44 := Try.underlying44
 have HR1_1 := am_ hr1_1
 have HC1_1 := am_ hc1_1
 clear hr1_1 hc1_1
 have HI0 := am_ hI
 have HK := am_ (KeepBut.refl w g none)
 have HL := am_ hB.size
 clear hI
 have HW0 := am_ hB.size
 have HB := am_ hB
 clear hB
 have H : (spec_l07DrawSpots.l0 k (([] : List (S44))) 0 s0_0 s0_1 s0_2 a1_0 l1_1) = some (r1, r2, r3) := h
 clear h
 obtain ⟨y2, hy2⟩ : ∃ y_ : List (S44), y_ = (([] : List (S44))) := ⟨_, rfl⟩
 replace H : (spec_l07DrawSpots.l0 k y2 0 s0_0 s0_1 s0_2 a1_0 l1_1) = some (r1, r2, r3) := rh_ hy2
 have Ny2 := am_ hy2
 clear hy2
 have H' := am_ H
 clear H
 go_enter Try.func15, Try.ntmps15
 go_wp2_with (first | ((with_reducible refine gate_dst (N := 3) rfl ?_); refine box_event ?hg (N := 3) ?hd (cs := #[.int .i64 a1_0, .slice A1_1 l1_1.length c1_1]) (t := 26) ?hr ?_; (case hd => rfl); (case hg => rfl); (case hr => exact hrr_); intro gb1 hg w3 hbox hb; have n0_ := am_ (IsS57.below (hi_ HI0.out) hb); have n1_ := am_ (KeepBut.trans (kk_ HK.out) (KeepBut.of_below hb g none) (.inl rfl)); have n2_ := am_ (below_step (bi_ HB.out HI0.out) hb); have n3_ := am_ (hbox); have n4_ := am_ ((by rw [hg]; exact (keep_size (w := w) (g := g) (row := none) (kk_ HK.out)) : w.heap.size ≤ gb1)); have n5_ := am_ ((Nat.le_trans HW0.out (by rw [hg]; exact (keep_size (w := w) (g := g) (row := none) (kk_ HK.out)) : w.heap.size ≤ gb1) : w0.heap.size ≤ gb1)); have n6_ := am_ ((by rw [hg]; exact Nat.ne_of_lt (IsS57.lt (show IsS57 w0 _ g s0_0 s0_1 s0_2 from (hi_ HI0.out))) : g ≠ gb1)); have n7_ := am_ ((by rw [hg]; exact Nat.ne_of_gt (IsS57.lt (show IsS57 w0 _ g s0_0 s0_1 s0_2 from (hi_ HI0.out))) : gb1 ≠ g)); clear HI0; clear HK; clear HB; have HI0 := n0_; have HK := n1_; have HB := n2_; have BK1 := n3_; have GW1 := n4_; have GE1 := n5_; have NB0_1 := n6_; have NB1_0 := n7_; clear n0_ n1_ n2_ n3_ n4_ n5_ n6_ n7_; clear hb hbox hg) | ((with_reducible refine gate_dst (N := 8) rfl ?_); refine Kd.R_lit k44 _ 44 ?hg (N := 8) ?hd (xs := ([] : List (S44))) (inner := []) (ok := fun _ => True) (okp := fun _ => True) ?hr ?hp (fun _ hk => hk) trivial (Below.refl _ _) (Nat.le_refl _) (by simp) ?_; (case hd => rfl); (case hg => rfl); (case hr => first | (go_simp; done) | (go_simp; rfl)); (case hp => exact (Reps.none _ _)); intro v3 w4 ho5 hb hg_ hnew_; clear hg_ hnew_; (first | rw [← Ny2.out] at ho5 | (simp only [Int.reduceToNat] at ho5; rw [← Ny2.out] at ho5)); have n0_ := am_ (Kd.R_lower ho5 (keep_size (w := w) (g := g) (row := none) (kk_ HK.out))); have n1_ := am_ (IsS57.below (hi_ HI0.out) hb); have n2_ := bb_ BK1.out hb; have n3_ := am_ (KeepBut.trans (kk_ HK.out) (KeepBut.of_below hb g none) (.inl rfl)); have n4_ := am_ (below_step (bi_ HB.out HI0.out) hb); clear HI0; clear BK1; clear HK; clear HB; have HO4 := n0_; have HI0 := n1_; have BK1 := n2_; have HK := n3_; have HB := n4_; clear n0_ n1_ n2_ n3_ n4_; clear hb ho5))
 go_loopg [5, 6] k (fun kq v5 v6 w' => ∃ (x5_1 : List (S44)) (x6_1 : Int) (x1001_1 : Int) (x1002_1 : Int), v6 = .int .i64 x6_1 ∧ Aside0 (spec_l07DrawSpots.l0 kq x5_1 x6_1 s0_0 x1001_1 x1002_1 a1_0 l1_1 = some (r1, r2, r3)) ∧ Aside0 (kq ≤ k) ∧ Aside0 (Kd.R k44 44 w' w.heap.size (fun _ => True) v5 x5_1) ∧ Aside0 (w'.heap[gb1]? = some (.cells #[.int .i64 a1_0, (.slice A1_1 l1_1.length c1_1)] 26 (0, 0))) ∧ Aside0 (IsS57 w0 w' g s0_0 x1001_1 x1002_1) ∧ Aside0 (KeepBut w w' g none) ∧ Aside0 (Below w0.heap.size w0 w'))
 case atStart => exact ⟨(y2), (0), (s0_1), (s0_2), sd_, H', ⟨Nat.le_refl _⟩, ⟨by (with_reducible repeat (first | apply Kd.R_alloc | apply Kd.R_drewN | apply Kd.R_drew)); exact HO4.out⟩, ⟨bk_⟩, ⟨(hi_ HI0.out)⟩, ⟨(kk_ HK.out)⟩, ⟨(bi_ HB.out HI0.out)⟩⟩
 case round =>
  clear H'
  obtain ⟨x5_1, x6_1, x1001_1, x1002_1, rfl, HA, HK1, HO_5, BK1, HI0, HK, HB⟩ := hrel
  cases gk with
  | zero => exact absurd HA.out (by simp [spec_l07DrawSpots.l0])
  | succ k1 =>
   have H := HA.out
   clear HA
   simp only [spec_l07DrawSpots.l0] at H
   by_cases c6 : x6_1 < (l1_1.length : Int)
   rotate_left
   ·rw [if_neg c6] at H
    have c6b0 : decide (x6_1 < (l1_1.length : Int)) = false := decide_eq_false c6
    clear c6
    replace H := Option.bind_eq_some_iff.mp H
    obtain ⟨⟨t12, t13, t14⟩, A240, H⟩ := H
    replace H : (if t12 = true then ((spec_l01Below.f s0_0 t13 t14 4).bind fun bt15 => ((spec_l01Below.f s0_0 bt15.2.1 bt15.2.2 9).bind fun bt18 => (if x5_1.length < 8796093022208 then (some ((x5_1 ++ [(⟨wrap64 (bt15.1 - 1), wrap64 (bt18.1 - 1)⟩ : S44)]), bt18.2.1, bt18.2.2)) else (none)))) else (some (x5_1, t13, t14))) = some (r1, r2, r3) := H
    have A24 := am_ A240
    clear A240
    by_cases c25 : t12 = true
    rotate_left
    ·replace c25 := Bool.eq_false_iff.mpr c25
     subst c25
     have H1 : (some (x5_1, t13, t14)) = some (r1, r2, r3) := by rw [if_neg (show ¬ (false = true) by decide)] at H; exact H
     clear H
     have H := H1
     clear H1
     simp only [Option.some.injEq, Prod.mk.injEq] at H
     obtain ⟨rfl, rfl, rfl⟩ := H
     have hnb35 := NB1_0.out
     have hnc35 := NB0_1.out
     obtain ⟨hcz36_0, hcz36_1, hfz36_0, hfz36_1⟩ := bc2_ BK1.out
     go_wp2_with (first | ((with_reducible refine gate_callee (f := 13) rfl ?_); refine goesL_ (some 35) rfl rfl Try.func13 kr_ rfl #[.pointer (some ⟨g, 0, none⟩), .int .i64 10] rfl ar_ ?_; (with_reducible refine (spec_l01Once.calls g s0_0 x1001_1 x1002_1 10 false t13 t14 w0 _ ?side1 ?side2 A24.out).mono ?_); (case side1 => exact (hi_ HI0.out)); (case side2 => exact (bi_ HB.out HI0.out)); rintro e w37 ⟨rfl, hi, hb, hk⟩; refine ⟨_, rfl, ?_⟩; have n0_ := am_ (Kd.R_mono (Kd.R_keep (IsS57.apart (show IsS57 w0 _ g s0_0 x1001_1 x1002_1 from (hi_ HI0.out)) (rx_ HO_5.out) (by decide)) hk (fun _ h => h.2)) (fun _ h => h.1)); have n1_ := am_ (KeepBut.blk hk (g' := gb1) (o := .cells #[.int .i64 a1_0, .slice A1_1 l1_1.length c1_1] 26 (0, 0)) bk_ NB1_0.out (by simp)); have n2_ := am_ (KeepBut.trans (kk_ HK.out) hk (.inl rfl)); have n3_ := am_ (hb); have n4_ := am_ (hi); clear HO_5; clear BK1; clear HK; clear HB; clear HI0; have HO_5 := n0_; have BK1 := n1_; have HK := n2_; have HB := n3_; have HI0 := n4_; clear n0_ n1_ n2_ n3_ n4_; (try clear hb); (try clear hb2); (try clear hk); (try clear hi)))
     go_ret
     exact ⟨_, rr_, by (with_reducible repeat (first | apply Kd.R_alloc | apply Kd.R_drewN | apply Kd.R_drew)); exact HO_5.out, (hi_ HI0.out), (bi_ HB.out HI0.out), (kk_ HK.out)⟩
    subst c25
    have H1 : ((spec_l01Below.f s0_0 t13 t14 4).bind fun bt15 => ((spec_l01Below.f s0_0 bt15.2.1 bt15.2.2 9).bind fun bt18 => (if x5_1.length < 8796093022208 then (some ((x5_1 ++ [(⟨wrap64 (bt15.1 - 1), wrap64 (bt18.1 - 1)⟩ : S44)]), bt18.2.1, bt18.2.2)) else (none)))) = some (r1, r2, r3) := by rw [if_pos rfl] at H; exact H
    clear H
    have H := H1
    clear H1
    replace H := Option.bind_eq_some_iff.mp H
    obtain ⟨⟨t15, t16, t17⟩, A260, H⟩ := H
    replace H : ((spec_l01Below.f s0_0 t16 t17 9).bind fun bt18 => (if x5_1.length < 8796093022208 then (some ((x5_1 ++ [(⟨wrap64 (t15 - 1), wrap64 (bt18.1 - 1)⟩ : S44)]), bt18.2.1, bt18.2.2)) else (none))) = some (r1, r2, r3) := H
    have A26 := am_ A260
    clear A260
    replace H := Option.bind_eq_some_iff.mp H
    obtain ⟨⟨t18, t19, t20⟩, A270, H⟩ := H
    replace H : (if x5_1.length < 8796093022208 then (some ((x5_1 ++ [(⟨wrap64 (t15 - 1), wrap64 (t18 - 1)⟩ : S44)]), t19, t20)) else (none)) = some (r1, r2, r3) := H
    have A27 := am_ A270
    clear A270
    by_cases c28 : x5_1.length < 8796093022208
    rotate_left
    ·rw [if_neg c28] at H
     exact absurd H (by simp)
    rw [if_pos c28] at H
    have LMc28 := am_ c28
    clear c28
    obtain ⟨y21, hy21⟩ : ∃ y_ : List (S44), y_ = (x5_1 ++ [(⟨wrap64 (t15 - 1), wrap64 (t18 - 1)⟩ : S44)]) := ⟨_, rfl⟩
    replace H : (some (y21, t19, t20)) = some (r1, r2, r3) := rh_ hy21
    have Ny21 := am_ hy21
    clear hy21
    simp only [Option.some.injEq, Prod.mk.injEq] at H
    obtain ⟨rfl, rfl, rfl⟩ := H
    have hnb29 := NB1_0.out
    have hnc29 := NB0_1.out
    obtain ⟨hcz30_0, hcz30_1, hfz30_0, hfz30_1⟩ := bc2_ BK1.out
    go_wp2_with (first | ((with_reducible refine gate_callee (f := 13) rfl ?_); refine goesL_ (some 35) rfl rfl Try.func13 kr_ rfl #[.pointer (some ⟨g, 0, none⟩), .int .i64 10] rfl ar_ ?_; (with_reducible refine (spec_l01Once.calls g s0_0 x1001_1 x1002_1 10 true t13 t14 w0 _ ?side1 ?side2 A24.out).mono ?_); (case side1 => exact (hi_ HI0.out)); (case side2 => exact (bi_ HB.out HI0.out)); rintro e w31 ⟨rfl, hi, hb, hk⟩; refine ⟨_, rfl, ?_⟩; have n0_ := am_ (Kd.R_mono (Kd.R_keep (IsS57.apart (show IsS57 w0 _ g s0_0 x1001_1 x1002_1 from (hi_ HI0.out)) (rx_ HO_5.out) (by decide)) hk (fun _ h => h.2)) (fun _ h => h.1)); have n1_ := am_ (KeepBut.blk hk (g' := gb1) (o := .cells #[.int .i64 a1_0, .slice A1_1 l1_1.length c1_1] 26 (0, 0)) bk_ NB1_0.out (by simp)); have n2_ := am_ (KeepBut.trans (kk_ HK.out) hk (.inl rfl)); have n3_ := am_ (hb); have n4_ := am_ (hi); clear HO_5; clear BK1; clear HK; clear HB; clear HI0; have HO_5 := n0_; have BK1 := n1_; have HK := n2_; have HB := n3_; have HI0 := n4_; clear n0_ n1_ n2_ n3_ n4_; (try clear hb); (try clear hb2); (try clear hk); (try clear hi)) | ((with_reducible refine gate_callee (f := 29) rfl ?_); refine goesL_ (some 38) rfl rfl Try.func29 kr_ rfl #[.pointer (some ⟨g, 0, none⟩), .int .i64 4] rfl ar_ ?_; (with_reducible refine (spec_l01Below.calls g s0_0 t13 t14 4 t15 t16 t17 w0 _ ?side1 ?side2 A26.out).mono ?_); (case side1 => exact (hi_ HI0.out)); (case side2 => exact (bi_ HB.out HI0.out)); rintro e w32 ⟨rfl, hi, hb, hk⟩; refine ⟨_, rfl, ?_⟩; have n0_ := am_ (Kd.R_mono (Kd.R_keep (IsS57.apart (show IsS57 w0 _ g s0_0 t13 t14 from (hi_ HI0.out)) (rx_ HO_5.out) (by decide)) hk (fun _ h => h.2)) (fun _ h => h.1)); have n1_ := am_ (KeepBut.blk hk (g' := gb1) (o := .cells #[.int .i64 a1_0, .slice A1_1 l1_1.length c1_1] 26 (0, 0)) bk_ NB1_0.out (by simp)); have n2_ := am_ (KeepBut.trans (kk_ HK.out) hk (.inl rfl)); have n3_ := am_ (hb); have n4_ := am_ (hi); clear HO_5; clear BK1; clear HK; clear HB; clear HI0; have HO_5 := n0_; have BK1 := n1_; have HK := n2_; have HB := n3_; have HI0 := n4_; clear n0_ n1_ n2_ n3_ n4_; (try clear hb); (try clear hb2); (try clear hk); (try clear hi)) | ((with_reducible refine gate_callee (f := 29) rfl ?_); refine goesL_ (some 41) rfl rfl Try.func29 kr_ rfl #[.pointer (some ⟨g, 0, none⟩), .int .i64 9] rfl ar_ ?_; (with_reducible refine (spec_l01Below.calls g s0_0 t16 t17 9 t18 t19 t20 w0 _ ?side1 ?side2 A27.out).mono ?_); (case side1 => exact (hi_ HI0.out)); (case side2 => exact (bi_ HB.out HI0.out)); rintro e w33 ⟨rfl, hi, hb, hk⟩; refine ⟨_, rfl, ?_⟩; have n0_ := am_ (Kd.R_mono (Kd.R_keep (IsS57.apart (show IsS57 w0 _ g s0_0 t16 t17 from (hi_ HI0.out)) (rx_ HO_5.out) (by decide)) hk (fun _ h => h.2)) (fun _ h => h.1)); have n1_ := am_ (KeepBut.blk hk (g' := gb1) (o := .cells #[.int .i64 a1_0, .slice A1_1 l1_1.length c1_1] 26 (0, 0)) bk_ NB1_0.out (by simp)); have n2_ := am_ (KeepBut.trans (kk_ HK.out) hk (.inl rfl)); have n3_ := am_ (hb); have n4_ := am_ (hi); clear HO_5; clear BK1; clear HK; clear HB; clear HI0; have HO_5 := n0_; have BK1 := n1_; have HK := n2_; have HB := n3_; have HI0 := n4_; clear n0_ n1_ n2_ n3_ n4_; (try clear hb); (try clear hb2); (try clear hk); (try clear hi)) | ((with_reducible refine gate_builtin (b := .append) (xs := #[.tmp 36, .tmp 44]) rfl ?_); at_builtin; refine Kd.R_append k44 w.heap.size rfl (.tmp 36) (.tmp 44) 27 44 (.agg #[(.int .i64 0), (.int .i64 0)]) 16 rfl Try.underlying27 info44 rfl (by decide) (by omega) u5 x5_1 (⟨wrap64 (t15 - 1), wrap64 (t18 - 1)⟩ : S44) [.int .i64 (wrap64 (t15 - 1)), .int .i64 (wrap64 (t18 - 1))] (fun _ => True) (fun _ => False) rfl rfl ?aP (fun _ hk => hk.elim) ?aF ?aO (Below.refl _ _) ?aS ?aL ?_; (case aP => exact k44_mkM _ _ _ (⟨wrap64 (t15 - 1), wrap64 (t18 - 1)⟩ : S44)); (case aF => exact (fun _ _ => trivial)); (case aO => exact (rx_ HO_5.out)); (case aS => exact (keep_size (w := w) (g := g) (row := none) (kk_ HK.out))); (case aL => have := LMc28.out; omega); intro v22 w34 ho hb hg hat; rw [← Ny21.out] at ho; have n0_ := am_ (blk_grown (g := gb1) (o := .cells #[.int .i64 a1_0, .slice A1_1 l1_1.length c1_1] 26 (0, 0)) bk_ hg (Kd.R_ne HO_5.out BK1.out (by decide))); have n1_ := am_ (IsS57.grown (hi_ HI0.out) hg (IsS57.own_ne HI0.out HO_5.out (by decide))); have n2_ := am_ (below_weaken (bi_ HB.out HI0.out) HL.out hb); have n3_ := am_ (KeepBut.trans (kk_ HK.out) (KeepBut.of_grown hg g) (Kd.R_base2 HO_5.out)); have n4_ := am_ (ho); clear BK1; clear HI0; clear HB; clear HK; clear HO_5; have BK1 := n0_; have HI0 := n1_; have HB := n2_; have HK := n3_; have HO23 := n4_; clear n0_ n1_ n2_ n3_ n4_; clear ho hb hg hat))
    go_ret
    exact ⟨_, rr_, by (with_reducible repeat (first | apply Kd.R_alloc | apply Kd.R_drewN | apply Kd.R_drew)); exact HO23.out, (hi_ HI0.out), (bi_ HB.out HI0.out), (kk_ HK.out)⟩
   rw [if_pos c6] at H
   have c6b0 : decide (x6_1 < (l1_1.length : Int)) = true := decide_eq_true c6
   clear c6
   have H' := am_ H
   clear H
   have hnb7 := NB1_0.out
   have hnc7 := NB0_1.out
   obtain ⟨hcz8_0, hcz8_1, hfz8_0, hfz8_1⟩ := bc2_ BK1.out
   go_wp2
   go_loopg [5, 7] k1 (fun kq v5 v7 w' => ∃ (x5_2 : List (S44)) (x7_2 : Int) (x1001_2 : Int) (x1002_2 : Int), v7 = .int .i64 x7_2 ∧ Aside0 (spec_l07DrawSpots.l1 kq x5_2 x6_1 x7_2 s0_0 x1001_2 x1002_2 a1_0 l1_1 = some (r1, r2, r3)) ∧ Aside0 (kq ≤ k1) ∧ Aside0 (Kd.R k44 44 w' w.heap.size (fun _ => True) v5 x5_2) ∧ Aside0 (w'.heap[gb1]? = some (.cells #[.int .i64 a1_0, (.slice A1_1 l1_1.length c1_1)] 26 (0, 0))) ∧ Aside0 (IsS57 w0 w' g s0_0 x1001_2 x1002_2) ∧ Aside0 (KeepBut w w' g none) ∧ Aside0 (Below w0.heap.size w0 w'))
   case atStart => exact ⟨(x5_1), (0), (x1001_1), (x1002_1), sd_, H', ⟨Nat.le_refl _⟩, ⟨by (with_reducible repeat (first | apply Kd.R_alloc | apply Kd.R_drewN | apply Kd.R_drew)); exact HO_5.out⟩, ⟨bk_⟩, ⟨(hi_ HI0.out)⟩, ⟨(kk_ HK.out)⟩, ⟨(bi_ HB.out HI0.out)⟩⟩
   case round =>
    clear H'
    try clear c6
    try clear c6b0
    try clear hcz8_0 hcz8_1
    try clear hfz8_0 hfz8_1
    obtain ⟨x5_2, x7_2, x1001_2, x1002_2, rfl, HA, HK2, HO_5, BK1, HI0, HK, HB⟩ := hrel
    cases gk with
    | zero => exact absurd HA.out (by simp [spec_l07DrawSpots.l1])
    | succ k2 =>
     have H := HA.out
     clear HA
     simp only [spec_l07DrawSpots.l1] at H
     by_cases c9 : 0 ≤ x6_1
     rotate_left
     ·rw [if_neg c9] at H
      exact absurd H (by simp)
     rw [if_pos c9] at H
     have c9b0 : decide (0 ≤ x6_1) = true := decide_eq_true c9
     clear c9
     by_cases c10 : x6_1 < (l1_1.length : Int)
     rotate_left
     ·rw [if_neg c10] at H
      exact absurd H (by simp)
     rw [if_pos c10] at H
     have c10b0 : decide (x6_1 < (l1_1.length : Int)) = true := decide_eq_true c10
     clear c10
     by_cases c11 : x7_2 ≤ ((rd_L4 l1_1 x6_1).length : Int)
     rotate_left
     ·rw [if_neg c11] at H
      have c11b0 : decide (x7_2 ≤ ((rd_L4 l1_1 x6_1).length : Int)) = false := decide_eq_false c11
      clear c11
      have H' := am_ H
      clear H
      have hnb22 := NB1_0.out
      have hnc22 := NB0_1.out
      obtain ⟨hcz23_0, hcz23_1, hfz23_0, hfz23_1⟩ := bc2_ BK1.out
      have p5 : 0 ≤ (x6_1 : Int) := od_
      have q5 : x6_1 < (l1_1.length : Int) := od_
      obtain ⟨ad5, A5_0, c5_0, e5, hx5_0, hl5_0, hi5_0⟩ := at_L4 (Kd.C_foot_now HR1_1.out HK.out) x6_1 p5 q5
      cases e5
      have HR5_0 := am_ hi5_0
      have HC5_0 := am_ hl5_0
      clear hi5_0 hl5_0
      replace p5 := eq_true p5
      replace q5 := eq_true q5
      go_wp2
      go_roundg k2
      case measure => have := HK1.out; have := HK2.out; omega
      case rel => exact ⟨(x5_2), (wrap64 (x6_1 + 1)), (x1001_2), (x1002_2), sd_, H', ⟨by have := HK1.out; have := HK2.out; omega⟩, ⟨by (with_reducible repeat (first | apply Kd.R_alloc | apply Kd.R_drewN | apply Kd.R_drew)); exact HO_5.out⟩, ⟨bk_⟩, ⟨(hi_ HI0.out)⟩, ⟨(kk_ HK.out)⟩, ⟨(bi_ HB.out HI0.out)⟩⟩
     rw [if_pos c11] at H
     have c11b0 : decide (x7_2 ≤ ((rd_L4 l1_1 x6_1).length : Int)) = true := decide_eq_true c11
     clear c11
     replace H := Option.bind_eq_some_iff.mp H
     obtain ⟨⟨t6, t7, t8⟩, A120, H⟩ := H
     replace H : (if t6 = true then (if x5_2.length < 8796093022208 then (spec_l07DrawSpots.l1 k2 (x5_2 ++ [(⟨x6_1, x7_2⟩ : S44)]) x6_1 (wrap64 (x7_2 + 1)) s0_0 t7 t8 a1_0 l1_1) else (none)) else (spec_l07DrawSpots.l1 k2 x5_2 x6_1 (wrap64 (x7_2 + 1)) s0_0 t7 t8 a1_0 l1_1)) = some (r1, r2, r3) := H
     have A12 := am_ A120
     clear A120
     by_cases c13 : t6 = true
     rotate_left
     ·replace c13 := Bool.eq_false_iff.mpr c13
      subst c13
      have H1 : (spec_l07DrawSpots.l1 k2 x5_2 x6_1 (wrap64 (x7_2 + 1)) s0_0 t7 t8 a1_0 l1_1) = some (r1, r2, r3) := by rw [if_neg (show ¬ (false = true) by decide)] at H; exact H
      clear H
      have H := H1
      clear H1
      have H' := am_ H
      clear H
      have hnb19 := NB1_0.out
      have hnc19 := NB0_1.out
      obtain ⟨hcz20_0, hcz20_1, hfz20_0, hfz20_1⟩ := bc2_ BK1.out
      have p5 : 0 ≤ (x6_1 : Int) := od_
      have q5 : x6_1 < (l1_1.length : Int) := od_
      obtain ⟨ad5, A5_0, c5_0, e5, hx5_0, hl5_0, hi5_0⟩ := at_L4 (Kd.C_foot_now HR1_1.out HK.out) x6_1 p5 q5
      cases e5
      have HR5_0 := am_ hi5_0
      have HC5_0 := am_ hl5_0
      clear hi5_0 hl5_0
      replace p5 := eq_true p5
      replace q5 := eq_true q5
      go_wp2_with (first | ((with_reducible refine gate_callee (f := 13) rfl ?_); refine goesL_ (some 27) rfl rfl Try.func13 kr_ rfl #[.pointer (some ⟨g, 0, none⟩), .int .i64 4] rfl ar_ ?_; (with_reducible refine (spec_l01Once.calls g s0_0 x1001_2 x1002_2 4 false t7 t8 w0 _ ?side1 ?side2 A12.out).mono ?_); (case side1 => exact (hi_ HI0.out)); (case side2 => exact (bi_ HB.out HI0.out)); rintro e w21 ⟨rfl, hi, hb, hk⟩; refine ⟨_, rfl, ?_⟩; have n0_ := am_ (Kd.R_mono (Kd.R_keep (IsS57.apart (show IsS57 w0 _ g s0_0 x1001_2 x1002_2 from (hi_ HI0.out)) (rx_ HO_5.out) (by decide)) hk (fun _ h => h.2)) (fun _ h => h.1)); have n1_ := am_ (KeepBut.blk hk (g' := gb1) (o := .cells #[.int .i64 a1_0, .slice (some ad5) l1_1.length c1_1] 26 (0, 0)) bk_ NB1_0.out (by simp)); have n2_ := am_ (KeepBut.trans (kk_ HK.out) hk (.inl rfl)); have n3_ := am_ (hb); have n4_ := am_ (hi); clear HO_5; clear BK1; clear HK; clear HB; clear HI0; have HO_5 := n0_; have BK1 := n1_; have HK := n2_; have HB := n3_; have HI0 := n4_; clear n0_ n1_ n2_ n3_ n4_; (try clear hb); (try clear hb2); (try clear hk); (try clear hi)))
      go_roundg k2
      case measure => have := HK1.out; have := HK2.out; omega
      case rel => exact ⟨(x5_2), (wrap64 (x7_2 + 1)), (t7), (t8), sd_, H', ⟨by have := HK1.out; have := HK2.out; omega⟩, ⟨by (with_reducible repeat (first | apply Kd.R_alloc | apply Kd.R_drewN | apply Kd.R_drew)); exact HO_5.out⟩, ⟨bk_⟩, ⟨(hi_ HI0.out)⟩, ⟨(kk_ HK.out)⟩, ⟨(bi_ HB.out HI0.out)⟩⟩
     subst c13
     have H1 : (if x5_2.length < 8796093022208 then (spec_l07DrawSpots.l1 k2 (x5_2 ++ [(⟨x6_1, x7_2⟩ : S44)]) x6_1 (wrap64 (x7_2 + 1)) s0_0 t7 t8 a1_0 l1_1) else (none)) = some (r1, r2, r3) := by rw [if_pos rfl] at H; exact H
     clear H
     have H := H1
     clear H1
     by_cases c14 : x5_2.length < 8796093022208
     rotate_left
     ·rw [if_neg c14] at H
      exact absurd H (by simp)
     rw [if_pos c14] at H
     have LMc14 := am_ c14
     clear c14
     obtain ⟨y9, hy9⟩ : ∃ y_ : List (S44), y_ = (x5_2 ++ [(⟨x6_1, x7_2⟩ : S44)]) := ⟨_, rfl⟩
     replace H : (spec_l07DrawSpots.l1 k2 y9 x6_1 (wrap64 (x7_2 + 1)) s0_0 t7 t8 a1_0 l1_1) = some (r1, r2, r3) := rh_ hy9
     have Ny9 := am_ hy9
     clear hy9
     have H' := am_ H
     clear H
     have hnb15 := NB1_0.out
     have hnc15 := NB0_1.out
     obtain ⟨hcz16_0, hcz16_1, hfz16_0, hfz16_1⟩ := bc2_ BK1.out
     have p5 : 0 ≤ (x6_1 : Int) := od_
     have q5 : x6_1 < (l1_1.length : Int) := od_
     obtain ⟨ad5, A5_0, c5_0, e5, hx5_0, hl5_0, hi5_0⟩ := at_L4 (Kd.C_foot_now HR1_1.out HK.out) x6_1 p5 q5
     cases e5
     have HR5_0 := am_ hi5_0
     have HC5_0 := am_ hl5_0
     clear hi5_0 hl5_0
     replace p5 := eq_true p5
     replace q5 := eq_true q5
     go_wp2_with (first | ((with_reducible refine gate_callee (f := 13) rfl ?_); refine goesL_ (some 27) rfl rfl Try.func13 kr_ rfl #[.pointer (some ⟨g, 0, none⟩), .int .i64 4] rfl ar_ ?_; (with_reducible refine (spec_l01Once.calls g s0_0 x1001_2 x1002_2 4 true t7 t8 w0 _ ?side1 ?side2 A12.out).mono ?_); (case side1 => exact (hi_ HI0.out)); (case side2 => exact (bi_ HB.out HI0.out)); rintro e w17 ⟨rfl, hi, hb, hk⟩; refine ⟨_, rfl, ?_⟩; have n0_ := am_ (Kd.R_mono (Kd.R_keep (IsS57.apart (show IsS57 w0 _ g s0_0 x1001_2 x1002_2 from (hi_ HI0.out)) (rx_ HO_5.out) (by decide)) hk (fun _ h => h.2)) (fun _ h => h.1)); have n1_ := am_ (KeepBut.blk hk (g' := gb1) (o := .cells #[.int .i64 a1_0, .slice (some ad5) l1_1.length c1_1] 26 (0, 0)) bk_ NB1_0.out (by simp)); have n2_ := am_ (KeepBut.trans (kk_ HK.out) hk (.inl rfl)); have n3_ := am_ (hb); have n4_ := am_ (hi); clear HO_5; clear BK1; clear HK; clear HB; clear HI0; have HO_5 := n0_; have BK1 := n1_; have HK := n2_; have HB := n3_; have HI0 := n4_; clear n0_ n1_ n2_ n3_ n4_; (try clear hb); (try clear hb2); (try clear hk); (try clear hi)) | ((with_reducible refine gate_builtin (b := .append) (xs := #[.tmp 28, .tmp 32]) rfl ?_); at_builtin; refine Kd.R_append k44 w.heap.size rfl (.tmp 28) (.tmp 32) 27 44 (.agg #[(.int .i64 0), (.int .i64 0)]) 16 rfl Try.underlying27 info44 rfl (by decide) (by omega) u5 x5_2 (⟨x6_1, x7_2⟩ : S44) [.int .i64 x6_1, .int .i64 x7_2] (fun _ => True) (fun _ => False) rfl rfl ?aP (fun _ hk => hk.elim) ?aF ?aO (Below.refl _ _) ?aS ?aL ?_; (case aP => exact k44_mkM _ _ _ (⟨x6_1, x7_2⟩ : S44)); (case aF => exact (fun _ _ => trivial)); (case aO => exact (rx_ HO_5.out)); (case aS => exact (keep_size (w := w) (g := g) (row := none) (kk_ HK.out))); (case aL => have := LMc14.out; omega); intro v10 w18 ho hb hg hat; rw [← Ny9.out] at ho; have n0_ := am_ (blk_grown (g := gb1) (o := .cells #[.int .i64 a1_0, .slice (some ad5) l1_1.length c1_1] 26 (0, 0)) bk_ hg (Kd.R_ne HO_5.out BK1.out (by decide))); have n1_ := am_ (IsS57.grown (hi_ HI0.out) hg (IsS57.own_ne HI0.out HO_5.out (by decide))); have n2_ := am_ (below_weaken (bi_ HB.out HI0.out) HL.out hb); have n3_ := am_ (KeepBut.trans (kk_ HK.out) (KeepBut.of_grown hg g) (Kd.R_base2 HO_5.out)); have n4_ := am_ (ho); clear BK1; clear HI0; clear HB; clear HK; clear HO_5; have BK1 := n0_; have HI0 := n1_; have HB := n2_; have HK := n3_; have HO11 := n4_; clear n0_ n1_ n2_ n3_ n4_; clear ho hb hg hat))
     go_roundg k2
     case measure => have := HK1.out; have := HK2.out; omega
     case rel => exact ⟨(y9), (wrap64 (x7_2 + 1)), (t7), (t8), sd_, H', ⟨by have := HK1.out; have := HK2.out; omega⟩, ⟨by (with_reducible repeat (first | apply Kd.R_alloc | apply Kd.R_drewN | apply Kd.R_drew)); exact HO11.out⟩, ⟨bk_⟩, ⟨(hi_ HI0.out)⟩, ⟨(kk_ HK.out)⟩, ⟨(bi_ HB.out HI0.out)⟩⟩

end Go.Proofs.Ytbgclnjnngolmaa.P
