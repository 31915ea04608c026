-- Written by mp.py (the session's own driver over the kit's printer) for the seat Ytlfbdafghpmahaa.
import Derived.Test.YtlfbdafghpmahaaK
import Derived.Test.YtlfbdafghpmahaaE
import Derived.Test.YtlfbdafghpmahaaPspecl04Can
namespace Go.Proofs.Ytlfbdafghpmahaa.P
open Go.RowKit Go.Proofs.YtlfbdafghpmahaaW.PrintWords Go.Proofs.YtlfbdafghpmahaaW.PrintLast Go.Proofs.YtlfbdafghpmahaaW.PrintMore
attribute [local go_sem] max2_int min2_int max_two min_two max_three min_three max_four min_four
set_option linter.unusedVariables false
set_option linter.unusedSimpArgs false

/-! ### spec_l04Moves: function 93 -/
def spec_l04Moves.l0 : Nat → List (S127) → Int → Int → List (List (S82)) → List Int → List (S102) → Option ((List (S127)))
 | 0, _, _, _, _, _, _ => none
 | k + 1, x5, x6, x2000, x2001, x3000, x3001 => if x6 < (x3001.length : Int) then ((spec_l04Can.f x2000 x2001 x3000 x3001 x6 false).bind fun t6 => (if t6 = true then (if x5.length < 8796093022208 then ((some (x5 ++ [(⟨x6, false⟩ : S127)] : List (S127))).bind fun y7 => ((spec_l04Can.f x2000 x2001 x3000 x3001 x6 true).bind fun t10 => (if t10 = true then (if y7.length < 8796093022208 then (spec_l04Moves.l0 k (y7 ++ [(⟨x6, true⟩ : S127)]) (wrap64 (x6 + 1)) x2000 x2001 x3000 x3001) else (none)) else (spec_l04Moves.l0 k y7 (wrap64 (x6 + 1)) x2000 x2001 x3000 x3001)))) else (none)) else ((spec_l04Can.f x2000 x2001 x3000 x3001 x6 true).bind fun t14 => (if t14 = true then (if x5.length < 8796093022208 then (spec_l04Moves.l0 k (x5 ++ [(⟨x6, true⟩ : S127)]) (wrap64 (x6 + 1)) x2000 x2001 x3000 x3001) else (none)) else (spec_l04Moves.l0 k x5 (wrap64 (x6 + 1)) x2000 x2001 x3000 x3001))))) else (some x5)
def spec_l04Moves.f (k : Nat) (a0_0 : Int) (l0_1 : List (List (S82))) (l1_0 : List Int) (l1_1 : List (S102)) : Option ((List (S127))) := spec_l04Moves.l0 k (([] : List (S127))) 0 a0_0 l0_1 l1_0 l1_1
theorem spec_l04Moves.mono_l : ∀ k, (∀ y0 y1 y2 y3 y4 y5, LeO (spec_l04Moves.l0 k y0 y1 y2 y3 y4 y5) (spec_l04Moves.l0 (k + 1) y0 y1 y2 y3 y4 y5))
 | 0 => fun _ _ _ _ _ _ r h => by simp [spec_l04Moves.l0] at h
 | k + 1 => by
  have ih0 := spec_l04Moves.mono_l k
  ·intro y0 y1 y2 y3 y4 y5
   unfold spec_l04Moves.l0
   repeat' first
   | (with_reducible exact ih0 _ _ _ _ _ _)
   | (with_reducible exact LeO.refl _)
   | (with_reducible exact LeO.none _)
   | (with_reducible refine LeO.ite ?_ ?_)
   | (with_reducible refine LeO.bind ?_ (fun _ => ?_))
   | exact ih0 _ _ _ _ _ _
   | exact LeO.none _
   | refine LeO.ite ?_ ?_
   | refine LeO.bind ?_ (fun _ => ?_)
theorem spec_l04Moves.mono : ∀ a0 a1 a2 a3 k, LeO (spec_l04Moves.f k a0 a1 a2 a3) (spec_l04Moves.f (k + 1) a0 a1 a2 a3) := by
 intro a0 a1 a2 a3 k
 have ih0 := spec_l04Moves.mono_l k
 unfold spec_l04Moves.f
 repeat' first
   | (with_reducible exact ih0 _ _ _ _ _ _)
   | (with_reducible exact LeO.refl _)
   | (with_reducible exact LeO.none _)
   | (with_reducible refine LeO.ite ?_ ?_)
   | (with_reducible refine LeO.bind ?_ (fun _ => ?_))
   | exact ih0 _ _ _ _ _ _
   | exact LeO.none _
   | refine LeO.ite ?_ ?_
   | refine LeO.bind ?_ (fun _ => ?_)
set_option maxHeartbeats 8000000 in
set_option maxRecDepth 100000 in
theorem spec_l04Moves.calls (k : Nat) (a0_0 : Int) (A0_1 : Option Addr) (c0_1 : Nat) (l0_1 : List (List (S82))) (A1_0 : Option Addr) (c1_0 : Nat) (l1_0 : List Int) (A1_1 : Option Addr) (c1_1 : Nat) (l1_1 : List (S102)) (r : List (S127)) (w : World) (hr0_1 : Kd.C (Kd.slice 82 k82) w A0_1 l0_1.length l0_1) (hc0_1 : l0_1.length ≤ c0_1) (hr1_0 : Kd.C (Kd.int .i64) w A1_0 l1_0.length l1_0) (hc1_0 : l1_0.length ≤ c1_0) (hr1_1 : Kd.C k102 w A1_1 l1_1.length l1_1) (hc1_1 : l1_1.length ≤ c1_1) (h : spec_l04Moves.f k a0_0 l0_1 l1_0 l1_1 = some r) :
  Calls Try.prog 93 #[.agg #[.int .i64 a0_0, .slice A0_1 l0_1.length c0_1], .agg #[.slice A1_0 l1_0.length c1_0, .slice A1_1 l1_1.length c1_1]] w fun e w' => ∃ v0_ : Value, e = .returned (v0_) ∧ Kd.R k127 127 w' w.heap.size (fun _ => True) v0_ r ∧ Below w.heap.size w w' := by
 have hu39 := Try.underlying39
 have hu54 := Try.underlying54
 have hu127 := Try.underlying127
 have HR0_1 := Aside0.mk hr0_1
 have HC0_1 := Aside0.mk hc0_1
 clear hr0_1 hc0_1
 have HR1_0 := Aside0.mk hr1_0
 have HC1_0 := Aside0.mk hc1_0
 clear hr1_0 hc1_0
 have HR1_1 := Aside0.mk hr1_1
 have HC1_1 := Aside0.mk hc1_1
 clear hr1_1 hc1_1
 have HB := Aside0.mk (Below.refl w.heap.size w)
 have H : (spec_l04Moves.l0 k (([] : List (S127))) 0 a0_0 l0_1 l1_0 l1_1) = some r := h
 clear h
 obtain ⟨y3, hy3⟩ : ∃ y_ : List (S127), y_ = (([] : List (S127))) := ⟨_, rfl⟩
 replace H : (spec_l04Moves.l0 k y3 0 a0_0 l0_1 l1_0 l1_1) = some r := by first | (rw [hy3]; with_reducible exact H) | (have H2_ := (Option.bind_some _ _).symm.trans H; rw [hy3]; with_reducible exact H2_) | (have H2_ := (Option.bind_some _ _).symm.trans H; with_reducible exact H2_) | with_reducible exact H | (rw [hy3]; exact H) | exact H
 have Ny3 := Aside0.mk hy3
 clear hy3
 have H' := Aside0.mk H
 clear H
 go_enter Try.func93, Try.ntmps93
 go_wp2_with (first | ((with_reducible refine gate_dst (N := 2) rfl ?_); refine box_event ?hg (N := 2) ?hd (cs := #[.int .i64 a0_0, .slice A0_1 l0_1.length c0_1]) (t := 39) ?hr ?_; (case hd => rfl); (case hg => rfl); (case hr => first | (go_simp; done) | (go_simp; rfl)); intro gb1 hg w3 hbox hb; have n0_ := Aside0.mk (below_step bw_ hb); have n1_ := Aside0.mk (hbox); have n2_ := Aside0.mk ((by rw [hg]; exact (below_size bw_) : w.heap.size ≤ gb1)); have n3_ := Aside0.mk ((by rw [hg]; exact (below_size bw_) : w.heap.size ≤ gb1)); clear HB; have HB := n0_; have BK1 := n1_; have GW1 := n2_; have GE1 := n3_; clear n0_ n1_ n2_ n3_; clear hb hbox hg) | ((with_reducible refine gate_dst (N := 3) rfl ?_); refine box_event ?hg (N := 3) ?hd (cs := #[.slice A1_0 l1_0.length c1_0, .slice A1_1 l1_1.length c1_1]) (t := 54) ?hr ?_; (case hd => rfl); (case hg => rfl); (case hr => first | (go_simp; done) | (go_simp; rfl)); intro gb2 hg w4 hbox hb; have n0_ := Aside0.mk (blk_below (g := gb1) (o := .cells #[.int .i64 a0_0, .slice A0_1 l0_1.length c0_1] 39 (0, 0)) bk_ hb); have n1_ := Aside0.mk (below_step bw_ hb); have n2_ := Aside0.mk (hbox); have n3_ := Aside0.mk ((by rw [hg]; exact (below_size bw_) : w.heap.size ≤ gb2)); have n4_ := Aside0.mk ((by rw [hg]; exact (below_size bw_) : w.heap.size ≤ gb2)); have n5_ := Aside0.mk ((by rw [hg]; exact Nat.ne_of_lt (blk_lt (g := gb1) (o := .cells #[.int .i64 a0_0, .slice A0_1 l0_1.length c0_1] 39 (0, 0)) bk_) : gb1 ≠ gb2)); have n6_ := Aside0.mk ((by rw [hg]; exact Nat.ne_of_gt (blk_lt (g := gb1) (o := .cells #[.int .i64 a0_0, .slice A0_1 l0_1.length c0_1] 39 (0, 0)) bk_) : gb2 ≠ gb1)); clear BK1; clear HB; have BK1 := n0_; have HB := n1_; have BK2 := n2_; have GW2 := n3_; have GE2 := n4_; have NB1_2 := n5_; have NB2_1 := n6_; clear n0_ n1_ n2_ n3_ n4_ n5_ n6_; clear hb hbox hg) | ((with_reducible refine gate_dst (N := 7) rfl ?_); refine Kd.R_lit k127 _ 127 ?hg (N := 7) ?hd (xs := ([] : List (S127))) (inner := []) (ok := fun _ => True) (okp := fun _ => True) ?hr ?hp (fun _ hk => hk) trivial (Below.refl _ _) (Nat.le_refl _) (by simp) ?_; (case hd => rfl); (case hg => rfl); (case hr => first | (go_simp; done) | (go_simp; rfl)); (case hp => exact (Reps.none _ _)); intro v4 w5 ho6 hb hg_ hnew_; clear hg_ hnew_; (first | rw [← Ny3.out] at ho6 | (simp only [Int.reduceToNat] at ho6; rw [← Ny3.out] at ho6)); have n0_ := Aside0.mk (Kd.R_lower ho6 (below_size bw_)); have n1_ := Aside0.mk (blk_below (g := gb1) (o := .cells #[.int .i64 a0_0, .slice A0_1 l0_1.length c0_1] 39 (0, 0)) bk_ hb); have n2_ := Aside0.mk (blk_below (g := gb2) (o := .cells #[.slice A1_0 l1_0.length c1_0, .slice A1_1 l1_1.length c1_1] 54 (0, 0)) bk_ hb); have n3_ := Aside0.mk (below_step bw_ hb); clear BK1; clear BK2; clear HB; have HO5 := n0_; have BK1 := n1_; have BK2 := n2_; have HB := n3_; clear n0_ n1_ n2_ n3_; clear hb ho6))
 go_loopg [5, 6] k (fun kq v5 v6 w' => ∃ (x5_1 : List (S127)) (x6_1 : Int), v6 = .int .i64 x6_1 ∧ Aside0 (spec_l04Moves.l0 kq x5_1 x6_1 a0_0 l0_1 l1_0 l1_1 = some r) ∧ Aside0 (kq ≤ k) ∧ Aside0 (Kd.R k127 127 w' w.heap.size (fun _ => True) v5 x5_1) ∧ Aside0 (w'.heap[gb1]? = some (.cells #[.int .i64 a0_0, (.slice A0_1 l0_1.length c0_1)] 39 (0, 0))) ∧ Aside0 (w'.heap[gb2]? = some (.cells #[(.slice A1_0 l1_0.length c1_0), (.slice A1_1 l1_1.length c1_1)] 54 (0, 0))) ∧ Aside0 (Below w.heap.size w w'))
 case atStart => exact ⟨(y3), (0), sd_, H', ⟨Nat.le_refl _⟩, ⟨by (with_reducible repeat (first | apply Kd.R_alloc | apply Kd.R_drewN | apply Kd.R_drew)); exact HO5.out⟩, ⟨bk_⟩, ⟨bk_⟩, ⟨bw_⟩⟩
 case round =>
  clear H'
  try clear c1
  try clear p2
  obtain ⟨x5_1, x6_1, rfl, HA, HK1, HO_5, BK1, BK2, HB⟩ := hrel
  cases gk with
  | zero => exact absurd HA.out (by simp [spec_l04Moves.l0])
  | succ k1 =>
   have H := HA.out
   clear HA
   simp only [spec_l04Moves.l0] at H
   by_cases c7 : x6_1 < (l1_1.length : Int)
   rotate_left
   ·rw [if_neg c7] at H
    have c7b0 : decide (x6_1 < (l1_1.length : Int)) = false := decide_eq_false c7
    clear c7
    obtain rfl := Option.some.inj H
    have hnb49 := NB2_1.out
    have hnc49 := NB1_2.out
    have hcz50_0 := (blk_cell BK2.out 0).trans rfl
    have hcz50_1 := (blk_cell BK2.out 1).trans rfl
    have hfz50_0 := blk_frozen BK2.out 0
    have hfz50_1 := blk_frozen BK2.out 1
    go_wp2
    go_ret
    exact ⟨_, rr_, by (with_reducible repeat (first | apply Kd.R_alloc | apply Kd.R_drewN | apply Kd.R_drew)); exact HO_5.out, bw_⟩
   rw [if_pos c7] at H
   have c7b0 : decide (x6_1 < (l1_1.length : Int)) = true := decide_eq_true c7
   clear c7
   replace H := Option.bind_eq_some_iff.mp H
   obtain ⟨t6, A80, H⟩ := H
   replace H : (if t6 = true then (if x5_1.length < 8796093022208 then ((some (x5_1 ++ [(⟨x6_1, false⟩ : S127)] : List (S127))).bind fun y7 => ((spec_l04Can.f a0_0 l0_1 l1_0 l1_1 x6_1 true).bind fun t10 => (if t10 = true then (if y7.length < 8796093022208 then (spec_l04Moves.l0 k1 (y7 ++ [(⟨x6_1, true⟩ : S127)]) (wrap64 (x6_1 + 1)) a0_0 l0_1 l1_0 l1_1) else (none)) else (spec_l04Moves.l0 k1 y7 (wrap64 (x6_1 + 1)) a0_0 l0_1 l1_0 l1_1)))) else (none)) else ((spec_l04Can.f a0_0 l0_1 l1_0 l1_1 x6_1 true).bind fun t14 => (if t14 = true then (if x5_1.length < 8796093022208 then (spec_l04Moves.l0 k1 (x5_1 ++ [(⟨x6_1, true⟩ : S127)]) (wrap64 (x6_1 + 1)) a0_0 l0_1 l1_0 l1_1) else (none)) else (spec_l04Moves.l0 k1 x5_1 (wrap64 (x6_1 + 1)) a0_0 l0_1 l1_0 l1_1)))) = some r := H
   have A8 := Aside0.mk A80
   clear A80
   by_cases c9 : t6 = true
   rotate_left
   ·replace c9 := Bool.eq_false_iff.mpr c9
    subst c9
    have H1 : ((spec_l04Can.f a0_0 l0_1 l1_0 l1_1 x6_1 true).bind fun t14 => (if t14 = true then (if x5_1.length < 8796093022208 then (spec_l04Moves.l0 k1 (x5_1 ++ [(⟨x6_1, true⟩ : S127)]) (wrap64 (x6_1 + 1)) a0_0 l0_1 l1_0 l1_1) else (none)) else (spec_l04Moves.l0 k1 x5_1 (wrap64 (x6_1 + 1)) a0_0 l0_1 l1_0 l1_1))) = some r := by rw [if_neg (show ¬ (false = true) by decide)] at H; exact H
    clear H
    have H := H1
    clear H1
    replace H := Option.bind_eq_some_iff.mp H
    obtain ⟨t14, A310, H⟩ := H
    replace H : (if t14 = true then (if x5_1.length < 8796093022208 then (spec_l04Moves.l0 k1 (x5_1 ++ [(⟨x6_1, true⟩ : S127)]) (wrap64 (x6_1 + 1)) a0_0 l0_1 l1_0 l1_1) else (none)) else (spec_l04Moves.l0 k1 x5_1 (wrap64 (x6_1 + 1)) a0_0 l0_1 l1_0 l1_1)) = some r := H
    have A31 := Aside0.mk A310
    clear A310
    by_cases c32 : t14 = true
    rotate_left
    ·replace c32 := Bool.eq_false_iff.mpr c32
     subst c32
     have H1 : (spec_l04Moves.l0 k1 x5_1 (wrap64 (x6_1 + 1)) a0_0 l0_1 l1_0 l1_1) = some r := by rw [if_neg (show ¬ (false = true) by decide)] at H; exact H
     clear H
     have H := H1
     clear H1
     have H' := Aside0.mk H
     clear H
     have hnb42 := NB2_1.out
     have hnc42 := NB1_2.out
     have hcz43_0 := (blk_cell BK2.out 0).trans rfl
     have hcz43_1 := (blk_cell BK2.out 1).trans rfl
     have hfz43_0 := blk_frozen BK2.out 0
     have hfz43_1 := blk_frozen BK2.out 1
     have hcz44_0 := (blk_cell BK1.out 0).trans rfl
     have hcz44_1 := (blk_cell BK1.out 1).trans rfl
     have hfz44_0 := blk_frozen BK1.out 0
     have hfz44_1 := blk_frozen BK1.out 1
     go_wp2_with (first | ((with_reducible refine gate_callee (f := 122) rfl ?_); refine goesL_ (some 19) rfl rfl Try.func122 (by kernel_rfl) rfl #[.agg #[.int .i64 a0_0, .slice A0_1 l0_1.length c0_1], .agg #[.slice A1_0 l1_0.length c1_0, .slice A1_1 l1_1.length c1_1], .agg #[.int .i64 x6_1, .bool false]] rfl ar_ ?_; (with_reducible refine (spec_l04Can.calls a0_0 _ _ l0_1 _ _ l1_0 _ _ l1_1 x6_1 false false _ ?side1 ?side2 ?side3 ?side4 ?side5 ?side6 A8.out).mono ?_); (case side1 => exact cb_); (case side2 => exact HC0_1.out); (case side3 => exact cb_); (case side4 => exact HC1_0.out); (case side5 => exact cb_); (case side6 => exact HC1_1.out); rintro e w45 ⟨rfl, hb⟩; refine ⟨_, rfl, ?_⟩; have n0_ := Aside0.mk (Kd.R_below (by (with_reducible repeat (first | apply Kd.R_alloc | apply Kd.R_drewN | apply Kd.R_drew)); exact HO_5.out) hb); have n1_ := Aside0.mk (blk_below (g := gb1) (o := .cells #[.int .i64 a0_0, .slice A0_1 l0_1.length c0_1] 39 (0, 0)) bk_ hb); have n2_ := Aside0.mk (blk_below (g := gb2) (o := .cells #[.slice A1_0 l1_0.length c1_0, .slice A1_1 l1_1.length c1_1] 54 (0, 0)) bk_ hb); have n3_ := Aside0.mk (below_step bw_ hb); clear HO_5; clear BK1; clear BK2; clear HB; have HO_5 := n0_; have BK1 := n1_; have BK2 := n2_; have HB := n3_; clear n0_ n1_ n2_ n3_; (try clear hb); (try clear hb2); (try clear hk); (try clear hi); have hcz46_0 := (blk_cell BK1.out 0).trans rfl; have hcz46_1 := (blk_cell BK1.out 1).trans rfl; have hfz46_0 := blk_frozen BK1.out 0; have hfz46_1 := blk_frozen BK1.out 1; have hcz47_0 := (blk_cell BK2.out 0).trans rfl; have hcz47_1 := (blk_cell BK2.out 1).trans rfl; have hfz47_0 := blk_frozen BK2.out 0; have hfz47_1 := blk_frozen BK2.out 1) | ((with_reducible refine gate_callee (f := 122) rfl ?_); refine goesL_ (some 29) rfl rfl Try.func122 (by kernel_rfl) rfl #[.agg #[.int .i64 a0_0, .slice A0_1 l0_1.length c0_1], .agg #[.slice A1_0 l1_0.length c1_0, .slice A1_1 l1_1.length c1_1], .agg #[.int .i64 x6_1, .bool true]] rfl ar_ ?_; (with_reducible refine (spec_l04Can.calls a0_0 _ _ l0_1 _ _ l1_0 _ _ l1_1 x6_1 true false _ ?side1 ?side2 ?side3 ?side4 ?side5 ?side6 A31.out).mono ?_); (case side1 => exact cb_); (case side2 => exact HC0_1.out); (case side3 => exact cb_); (case side4 => exact HC1_0.out); (case side5 => exact cb_); (case side6 => exact HC1_1.out); rintro e w48 ⟨rfl, hb⟩; refine ⟨_, rfl, ?_⟩; have n0_ := Aside0.mk (Kd.R_below (by (with_reducible repeat (first | apply Kd.R_alloc | apply Kd.R_drewN | apply Kd.R_drew)); exact HO_5.out) hb); have n1_ := Aside0.mk (blk_below (g := gb1) (o := .cells #[.int .i64 a0_0, .slice A0_1 l0_1.length c0_1] 39 (0, 0)) bk_ hb); have n2_ := Aside0.mk (blk_below (g := gb2) (o := .cells #[.slice A1_0 l1_0.length c1_0, .slice A1_1 l1_1.length c1_1] 54 (0, 0)) bk_ hb); have n3_ := Aside0.mk (below_step bw_ hb); clear HO_5; clear BK1; clear BK2; clear HB; have HO_5 := n0_; have BK1 := n1_; have BK2 := n2_; have HB := n3_; clear n0_ n1_ n2_ n3_; (try clear hb); (try clear hb2); (try clear hk); (try clear hi)))
     go_roundg k1
     case measure => have := HK1.out; omega
     case rel => exact ⟨(x5_1), (wrap64 (x6_1 + 1)), sd_, H', ⟨by have := HK1.out; omega⟩, ⟨by (with_reducible repeat (first | apply Kd.R_alloc | apply Kd.R_drewN | apply Kd.R_drew)); exact HO_5.out⟩, ⟨bk_⟩, ⟨bk_⟩, ⟨bw_⟩⟩
    subst c32
    have H1 : (if x5_1.length < 8796093022208 then (spec_l04Moves.l0 k1 (x5_1 ++ [(⟨x6_1, true⟩ : S127)]) (wrap64 (x6_1 + 1)) a0_0 l0_1 l1_0 l1_1) else (none)) = some r := by rw [if_pos rfl] at H; exact H
    clear H
    have H := H1
    clear H1
    by_cases c33 : x5_1.length < 8796093022208
    rotate_left
    ·rw [if_neg c33] at H
     exact absurd H (by simp)
    rw [if_pos c33] at H
    have LMc33 := Aside0.mk c33
    clear c33
    obtain ⟨y15, hy15⟩ : ∃ y_ : List (S127), y_ = (x5_1 ++ [(⟨x6_1, true⟩ : S127)]) := ⟨_, rfl⟩
    replace H : (spec_l04Moves.l0 k1 y15 (wrap64 (x6_1 + 1)) a0_0 l0_1 l1_0 l1_1) = some r := by first | (rw [hy15]; with_reducible exact H) | (have H2_ := (Option.bind_some _ _).symm.trans H; rw [hy15]; with_reducible exact H2_) | (have H2_ := (Option.bind_some _ _).symm.trans H; with_reducible exact H2_) | with_reducible exact H | (rw [hy15]; exact H) | exact H
    have Ny15 := Aside0.mk hy15
    clear hy15
    have H' := Aside0.mk H
    clear H
    have hnb34 := NB2_1.out
    have hnc34 := NB1_2.out
    have hcz35_0 := (blk_cell BK2.out 0).trans rfl
    have hcz35_1 := (blk_cell BK2.out 1).trans rfl
    have hfz35_0 := blk_frozen BK2.out 0
    have hfz35_1 := blk_frozen BK2.out 1
    have hcz36_0 := (blk_cell BK1.out 0).trans rfl
    have hcz36_1 := (blk_cell BK1.out 1).trans rfl
    have hfz36_0 := blk_frozen BK1.out 0
    have hfz36_1 := blk_frozen BK1.out 1
    go_wp2_with (first | ((with_reducible refine gate_callee (f := 122) rfl ?_); refine goesL_ (some 19) rfl rfl Try.func122 (by kernel_rfl) rfl #[.agg #[.int .i64 a0_0, .slice A0_1 l0_1.length c0_1], .agg #[.slice A1_0 l1_0.length c1_0, .slice A1_1 l1_1.length c1_1], .agg #[.int .i64 x6_1, .bool false]] rfl ar_ ?_; (with_reducible refine (spec_l04Can.calls a0_0 _ _ l0_1 _ _ l1_0 _ _ l1_1 x6_1 false false _ ?side1 ?side2 ?side3 ?side4 ?side5 ?side6 A8.out).mono ?_); (case side1 => exact cb_); (case side2 => exact HC0_1.out); (case side3 => exact cb_); (case side4 => exact HC1_0.out); (case side5 => exact cb_); (case side6 => exact HC1_1.out); rintro e w37 ⟨rfl, hb⟩; refine ⟨_, rfl, ?_⟩; have n0_ := Aside0.mk (Kd.R_below (by (with_reducible repeat (first | apply Kd.R_alloc | apply Kd.R_drewN | apply Kd.R_drew)); exact HO_5.out) hb); have n1_ := Aside0.mk (blk_below (g := gb1) (o := .cells #[.int .i64 a0_0, .slice A0_1 l0_1.length c0_1] 39 (0, 0)) bk_ hb); have n2_ := Aside0.mk (blk_below (g := gb2) (o := .cells #[.slice A1_0 l1_0.length c1_0, .slice A1_1 l1_1.length c1_1] 54 (0, 0)) bk_ hb); have n3_ := Aside0.mk (below_step bw_ hb); clear HO_5; clear BK1; clear BK2; clear HB; have HO_5 := n0_; have BK1 := n1_; have BK2 := n2_; have HB := n3_; clear n0_ n1_ n2_ n3_; (try clear hb); (try clear hb2); (try clear hk); (try clear hi); have hcz38_0 := (blk_cell BK1.out 0).trans rfl; have hcz38_1 := (blk_cell BK1.out 1).trans rfl; have hfz38_0 := blk_frozen BK1.out 0; have hfz38_1 := blk_frozen BK1.out 1; have hcz39_0 := (blk_cell BK2.out 0).trans rfl; have hcz39_1 := (blk_cell BK2.out 1).trans rfl; have hfz39_0 := blk_frozen BK2.out 0; have hfz39_1 := blk_frozen BK2.out 1) | ((with_reducible refine gate_callee (f := 122) rfl ?_); refine goesL_ (some 29) rfl rfl Try.func122 (by kernel_rfl) rfl #[.agg #[.int .i64 a0_0, .slice A0_1 l0_1.length c0_1], .agg #[.slice A1_0 l1_0.length c1_0, .slice A1_1 l1_1.length c1_1], .agg #[.int .i64 x6_1, .bool true]] rfl ar_ ?_; (with_reducible refine (spec_l04Can.calls a0_0 _ _ l0_1 _ _ l1_0 _ _ l1_1 x6_1 true true _ ?side1 ?side2 ?side3 ?side4 ?side5 ?side6 A31.out).mono ?_); (case side1 => exact cb_); (case side2 => exact HC0_1.out); (case side3 => exact cb_); (case side4 => exact HC1_0.out); (case side5 => exact cb_); (case side6 => exact HC1_1.out); rintro e w40 ⟨rfl, hb⟩; refine ⟨_, rfl, ?_⟩; have n0_ := Aside0.mk (Kd.R_below (by (with_reducible repeat (first | apply Kd.R_alloc | apply Kd.R_drewN | apply Kd.R_drew)); exact HO_5.out) hb); have n1_ := Aside0.mk (blk_below (g := gb1) (o := .cells #[.int .i64 a0_0, .slice A0_1 l0_1.length c0_1] 39 (0, 0)) bk_ hb); have n2_ := Aside0.mk (blk_below (g := gb2) (o := .cells #[.slice A1_0 l1_0.length c1_0, .slice A1_1 l1_1.length c1_1] 54 (0, 0)) bk_ hb); have n3_ := Aside0.mk (below_step bw_ hb); clear HO_5; clear BK1; clear BK2; clear HB; have HO_5 := n0_; have BK1 := n1_; have BK2 := n2_; have HB := n3_; clear n0_ n1_ n2_ n3_; (try clear hb); (try clear hb2); (try clear hk); (try clear hi)) | ((with_reducible refine gate_builtin (b := .append) (xs := #[.tmp 30, .tmp 33]) rfl ?_); at_builtin; refine Kd.R_append k127 (w0 := w) w.heap.size rfl (.tmp 30) (.tmp 33) 74 127 (.agg #[(.int .i64 0), (.bool false)]) 16 rfl Try.underlying74 info127 rfl (by decide) (by omega) u5 x5_1 (⟨x6_1, true⟩ : S127) [.int .i64 x6_1, .bool true] (fun _ => True) (fun _ => False) rfl rfl ?aP (fun _ hk => hk.elim) ?aF ?aO ?aB ?aS ?aL ?_; (case aP => exact k127_mkM _ _ _ (⟨x6_1, true⟩ : S127)); (case aB => exact bw_); (case aF => exact (fun _ _ => trivial)); (case aO => exact (by (with_reducible repeat (first | apply Kd.R_alloc | apply Kd.R_drewN | apply Kd.R_drew)); exact HO_5.out)); (case aS => exact (below_size bw_)); (case aL => have := LMc33.out; omega); intro v16 w41 ho hb hg hat; rw [← Ny15.out] at ho; have n0_ := Aside0.mk (blk_grown (g := gb1) (o := .cells #[.int .i64 a0_0, .slice A0_1 l0_1.length c0_1] 39 (0, 0)) bk_ hg (Kd.R_ne HO_5.out BK1.out (by decide))); have n1_ := Aside0.mk (blk_grown (g := gb2) (o := .cells #[.slice A1_0 l1_0.length c1_0, .slice A1_1 l1_1.length c1_1] 54 (0, 0)) bk_ hg (Kd.R_ne HO_5.out BK2.out (by decide))); have n2_ := Aside0.mk (hb); have n3_ := Aside0.mk (ho); clear BK1; clear BK2; clear HB; clear HO_5; have BK1 := n0_; have BK2 := n1_; have HB := n2_; have HO17 := n3_; clear n0_ n1_ n2_ n3_; clear ho hb hg hat))
    go_roundg k1
    case measure => have := HK1.out; omega
    case rel => exact ⟨(y15), (wrap64 (x6_1 + 1)), sd_, H', ⟨by have := HK1.out; omega⟩, ⟨by (with_reducible repeat (first | apply Kd.R_alloc | apply Kd.R_drewN | apply Kd.R_drew)); exact HO17.out⟩, ⟨bk_⟩, ⟨bk_⟩, ⟨bw_⟩⟩
   subst c9
   have H1 : (if x5_1.length < 8796093022208 then ((some (x5_1 ++ [(⟨x6_1, false⟩ : S127)] : List (S127))).bind fun y7 => ((spec_l04Can.f a0_0 l0_1 l1_0 l1_1 x6_1 true).bind fun t10 => (if t10 = true then (if y7.length < 8796093022208 then (spec_l04Moves.l0 k1 (y7 ++ [(⟨x6_1, true⟩ : S127)]) (wrap64 (x6_1 + 1)) a0_0 l0_1 l1_0 l1_1) else (none)) else (spec_l04Moves.l0 k1 y7 (wrap64 (x6_1 + 1)) a0_0 l0_1 l1_0 l1_1)))) else (none)) = some r := by rw [if_pos rfl] at H; exact H
   clear H
   have H := H1
   clear H1
   by_cases c10 : x5_1.length < 8796093022208
   rotate_left
   ·rw [if_neg c10] at H
    exact absurd H (by simp)
   rw [if_pos c10] at H
   have LMc10 := Aside0.mk c10
   clear c10
   obtain ⟨y7, hy7⟩ : ∃ y_ : List (S127), y_ = (x5_1 ++ [(⟨x6_1, false⟩ : S127)]) := ⟨_, rfl⟩
   replace H : ((spec_l04Can.f a0_0 l0_1 l1_0 l1_1 x6_1 true).bind fun t10 => (if t10 = true then (if y7.length < 8796093022208 then (spec_l04Moves.l0 k1 (y7 ++ [(⟨x6_1, true⟩ : S127)]) (wrap64 (x6_1 + 1)) a0_0 l0_1 l1_0 l1_1) else (none)) else (spec_l04Moves.l0 k1 y7 (wrap64 (x6_1 + 1)) a0_0 l0_1 l1_0 l1_1))) = some r := by first | (rw [hy7]; with_reducible exact H) | (have H2_ := (Option.bind_some _ _).symm.trans H; rw [hy7]; with_reducible exact H2_) | (have H2_ := (Option.bind_some _ _).symm.trans H; with_reducible exact H2_) | with_reducible exact H | (rw [hy7]; exact H) | exact H
   have Ny7 := Aside0.mk hy7
   clear hy7
   replace H := Option.bind_eq_some_iff.mp H
   obtain ⟨t10, A110, H⟩ := H
   replace H : (if t10 = true then (if y7.length < 8796093022208 then (spec_l04Moves.l0 k1 (y7 ++ [(⟨x6_1, true⟩ : S127)]) (wrap64 (x6_1 + 1)) a0_0 l0_1 l1_0 l1_1) else (none)) else (spec_l04Moves.l0 k1 y7 (wrap64 (x6_1 + 1)) a0_0 l0_1 l1_0 l1_1)) = some r := H
   have A11 := Aside0.mk A110
   clear A110
   by_cases c12 : t10 = true
   rotate_left
   ·replace c12 := Bool.eq_false_iff.mpr c12
    subst c12
    have H1 : (spec_l04Moves.l0 k1 y7 (wrap64 (x6_1 + 1)) a0_0 l0_1 l1_0 l1_1) = some r := by rw [if_neg (show ¬ (false = true) by decide)] at H; exact H
    clear H
    have H := H1
    clear H1
    have H' := Aside0.mk H
    clear H
    have hnb23 := NB2_1.out
    have hnc23 := NB1_2.out
    have hcz24_0 := (blk_cell BK2.out 0).trans rfl
    have hcz24_1 := (blk_cell BK2.out 1).trans rfl
    have hfz24_0 := blk_frozen BK2.out 0
    have hfz24_1 := blk_frozen BK2.out 1
    have hcz25_0 := (blk_cell BK1.out 0).trans rfl
    have hcz25_1 := (blk_cell BK1.out 1).trans rfl
    have hfz25_0 := blk_frozen BK1.out 0
    have hfz25_1 := blk_frozen BK1.out 1
    go_wp2_with (first | ((with_reducible refine gate_callee (f := 122) rfl ?_); refine goesL_ (some 19) rfl rfl Try.func122 (by kernel_rfl) rfl #[.agg #[.int .i64 a0_0, .slice A0_1 l0_1.length c0_1], .agg #[.slice A1_0 l1_0.length c1_0, .slice A1_1 l1_1.length c1_1], .agg #[.int .i64 x6_1, .bool false]] rfl ar_ ?_; (with_reducible refine (spec_l04Can.calls a0_0 _ _ l0_1 _ _ l1_0 _ _ l1_1 x6_1 false true _ ?side1 ?side2 ?side3 ?side4 ?side5 ?side6 A8.out).mono ?_); (case side1 => exact cb_); (case side2 => exact HC0_1.out); (case side3 => exact cb_); (case side4 => exact HC1_0.out); (case side5 => exact cb_); (case side6 => exact HC1_1.out); rintro e w26 ⟨rfl, hb⟩; refine ⟨_, rfl, ?_⟩; have n0_ := Aside0.mk (Kd.R_below (by (with_reducible repeat (first | apply Kd.R_alloc | apply Kd.R_drewN | apply Kd.R_drew)); exact HO_5.out) hb); have n1_ := Aside0.mk (blk_below (g := gb1) (o := .cells #[.int .i64 a0_0, .slice A0_1 l0_1.length c0_1] 39 (0, 0)) bk_ hb); have n2_ := Aside0.mk (blk_below (g := gb2) (o := .cells #[.slice A1_0 l1_0.length c1_0, .slice A1_1 l1_1.length c1_1] 54 (0, 0)) bk_ hb); have n3_ := Aside0.mk (below_step bw_ hb); clear HO_5; clear BK1; clear BK2; clear HB; have HO_5 := n0_; have BK1 := n1_; have BK2 := n2_; have HB := n3_; clear n0_ n1_ n2_ n3_; (try clear hb); (try clear hb2); (try clear hk); (try clear hi)) | ((with_reducible refine gate_builtin (b := .append) (xs := #[.tmp 20, .tmp 23]) rfl ?_); at_builtin; refine Kd.R_append k127 (w0 := w) w.heap.size rfl (.tmp 20) (.tmp 23) 74 127 (.agg #[(.int .i64 0), (.bool false)]) 16 rfl Try.underlying74 info127 rfl (by decide) (by omega) u5 x5_1 (⟨x6_1, false⟩ : S127) [.int .i64 x6_1, .bool false] (fun _ => True) (fun _ => False) rfl rfl ?aP (fun _ hk => hk.elim) ?aF ?aO ?aB ?aS ?aL ?_; (case aP => exact k127_mkM _ _ _ (⟨x6_1, false⟩ : S127)); (case aB => exact bw_); (case aF => exact (fun _ _ => trivial)); (case aO => exact (by (with_reducible repeat (first | apply Kd.R_alloc | apply Kd.R_drewN | apply Kd.R_drew)); exact HO_5.out)); (case aS => exact (below_size bw_)); (case aL => have := LMc10.out; omega); intro v8 w27 ho hb hg hat; rw [← Ny7.out] at ho; have n0_ := Aside0.mk (blk_grown (g := gb1) (o := .cells #[.int .i64 a0_0, .slice A0_1 l0_1.length c0_1] 39 (0, 0)) bk_ hg (Kd.R_ne HO_5.out BK1.out (by decide))); have n1_ := Aside0.mk (blk_grown (g := gb2) (o := .cells #[.slice A1_0 l1_0.length c1_0, .slice A1_1 l1_1.length c1_1] 54 (0, 0)) bk_ hg (Kd.R_ne HO_5.out BK2.out (by decide))); have n2_ := Aside0.mk (hb); have n3_ := Aside0.mk (ho); clear BK1; clear BK2; clear HB; clear HO_5; have BK1 := n0_; have BK2 := n1_; have HB := n2_; have HO9 := n3_; clear n0_ n1_ n2_ n3_; clear ho hb hg hat; have hcz28_0 := (blk_cell BK1.out 0).trans rfl; have hcz28_1 := (blk_cell BK1.out 1).trans rfl; have hfz28_0 := blk_frozen BK1.out 0; have hfz28_1 := blk_frozen BK1.out 1; have hcz29_0 := (blk_cell BK2.out 0).trans rfl; have hcz29_1 := (blk_cell BK2.out 1).trans rfl; have hfz29_0 := blk_frozen BK2.out 0; have hfz29_1 := blk_frozen BK2.out 1) | ((with_reducible refine gate_callee (f := 122) rfl ?_); refine goesL_ (some 29) rfl rfl Try.func122 (by kernel_rfl) rfl #[.agg #[.int .i64 a0_0, .slice A0_1 l0_1.length c0_1], .agg #[.slice A1_0 l1_0.length c1_0, .slice A1_1 l1_1.length c1_1], .agg #[.int .i64 x6_1, .bool true]] rfl ar_ ?_; (with_reducible refine (spec_l04Can.calls a0_0 _ _ l0_1 _ _ l1_0 _ _ l1_1 x6_1 true false _ ?side1 ?side2 ?side3 ?side4 ?side5 ?side6 A11.out).mono ?_); (case side1 => exact cb_); (case side2 => exact HC0_1.out); (case side3 => exact cb_); (case side4 => exact HC1_0.out); (case side5 => exact cb_); (case side6 => exact HC1_1.out); rintro e w30 ⟨rfl, hb⟩; refine ⟨_, rfl, ?_⟩; have n0_ := Aside0.mk (Kd.R_below (by (with_reducible repeat (first | apply Kd.R_alloc | apply Kd.R_drewN | apply Kd.R_drew)); exact HO9.out) hb); have n1_ := Aside0.mk (blk_below (g := gb1) (o := .cells #[.int .i64 a0_0, .slice A0_1 l0_1.length c0_1] 39 (0, 0)) bk_ hb); have n2_ := Aside0.mk (blk_below (g := gb2) (o := .cells #[.slice A1_0 l1_0.length c1_0, .slice A1_1 l1_1.length c1_1] 54 (0, 0)) bk_ hb); have n3_ := Aside0.mk (below_step bw_ hb); clear HO9; clear BK1; clear BK2; clear HB; have HO9 := n0_; have BK1 := n1_; have BK2 := n2_; have HB := n3_; clear n0_ n1_ n2_ n3_; (try clear hb); (try clear hb2); (try clear hk); (try clear hi)))
    go_roundg k1
    case measure => have := HK1.out; omega
    case rel => exact ⟨(y7), (wrap64 (x6_1 + 1)), sd_, H', ⟨by have := HK1.out; omega⟩, ⟨by (with_reducible repeat (first | apply Kd.R_alloc | apply Kd.R_drewN | apply Kd.R_drew)); exact HO9.out⟩, ⟨bk_⟩, ⟨bk_⟩, ⟨bw_⟩⟩
   subst c12
   have H1 : (if y7.length < 8796093022208 then (spec_l04Moves.l0 k1 (y7 ++ [(⟨x6_1, true⟩ : S127)]) (wrap64 (x6_1 + 1)) a0_0 l0_1 l1_0 l1_1) else (none)) = some r := by rw [if_pos rfl] at H; exact H
   clear H
   have H := H1
   clear H1
   by_cases c13 : y7.length < 8796093022208
   rotate_left
   ·rw [if_neg c13] at H
    exact absurd H (by simp)
   rw [if_pos c13] at H
   have LMc13 := Aside0.mk c13
   clear c13
   obtain ⟨y11, hy11⟩ : ∃ y_ : List (S127), y_ = (y7 ++ [(⟨x6_1, true⟩ : S127)]) := ⟨_, rfl⟩
   replace H : (spec_l04Moves.l0 k1 y11 (wrap64 (x6_1 + 1)) a0_0 l0_1 l1_0 l1_1) = some r := by first | (rw [hy11]; with_reducible exact H) | (have H2_ := (Option.bind_some _ _).symm.trans H; rw [hy11]; with_reducible exact H2_) | (have H2_ := (Option.bind_some _ _).symm.trans H; with_reducible exact H2_) | with_reducible exact H | (rw [hy11]; exact H) | exact H
   have Ny11 := Aside0.mk hy11
   clear hy11
   have H' := Aside0.mk H
   clear H
   have hnb14 := NB2_1.out
   have hnc14 := NB1_2.out
   have hcz15_0 := (blk_cell BK2.out 0).trans rfl
   have hcz15_1 := (blk_cell BK2.out 1).trans rfl
   have hfz15_0 := blk_frozen BK2.out 0
   have hfz15_1 := blk_frozen BK2.out 1
   have hcz16_0 := (blk_cell BK1.out 0).trans rfl
   have hcz16_1 := (blk_cell BK1.out 1).trans rfl
   have hfz16_0 := blk_frozen BK1.out 0
   have hfz16_1 := blk_frozen BK1.out 1
   go_wp2_with (first | ((with_reducible refine gate_callee (f := 122) rfl ?_); refine goesL_ (some 19) rfl rfl Try.func122 (by kernel_rfl) rfl #[.agg #[.int .i64 a0_0, .slice A0_1 l0_1.length c0_1], .agg #[.slice A1_0 l1_0.length c1_0, .slice A1_1 l1_1.length c1_1], .agg #[.int .i64 x6_1, .bool false]] rfl ar_ ?_; (with_reducible refine (spec_l04Can.calls a0_0 _ _ l0_1 _ _ l1_0 _ _ l1_1 x6_1 false true _ ?side1 ?side2 ?side3 ?side4 ?side5 ?side6 A8.out).mono ?_); (case side1 => exact cb_); (case side2 => exact HC0_1.out); (case side3 => exact cb_); (case side4 => exact HC1_0.out); (case side5 => exact cb_); (case side6 => exact HC1_1.out); rintro e w17 ⟨rfl, hb⟩; refine ⟨_, rfl, ?_⟩; have n0_ := Aside0.mk (Kd.R_below (by (with_reducible repeat (first | apply Kd.R_alloc | apply Kd.R_drewN | apply Kd.R_drew)); exact HO_5.out) hb); have n1_ := Aside0.mk (blk_below (g := gb1) (o := .cells #[.int .i64 a0_0, .slice A0_1 l0_1.length c0_1] 39 (0, 0)) bk_ hb); have n2_ := Aside0.mk (blk_below (g := gb2) (o := .cells #[.slice A1_0 l1_0.length c1_0, .slice A1_1 l1_1.length c1_1] 54 (0, 0)) bk_ hb); have n3_ := Aside0.mk (below_step bw_ hb); clear HO_5; clear BK1; clear BK2; clear HB; have HO_5 := n0_; have BK1 := n1_; have BK2 := n2_; have HB := n3_; clear n0_ n1_ n2_ n3_; (try clear hb); (try clear hb2); (try clear hk); (try clear hi)) | ((with_reducible refine gate_builtin (b := .append) (xs := #[.tmp 20, .tmp 23]) rfl ?_); at_builtin; refine Kd.R_append k127 (w0 := w) w.heap.size rfl (.tmp 20) (.tmp 23) 74 127 (.agg #[(.int .i64 0), (.bool false)]) 16 rfl Try.underlying74 info127 rfl (by decide) (by omega) u5 x5_1 (⟨x6_1, false⟩ : S127) [.int .i64 x6_1, .bool false] (fun _ => True) (fun _ => False) rfl rfl ?aP (fun _ hk => hk.elim) ?aF ?aO ?aB ?aS ?aL ?_; (case aP => exact k127_mkM _ _ _ (⟨x6_1, false⟩ : S127)); (case aB => exact bw_); (case aF => exact (fun _ _ => trivial)); (case aO => exact (by (with_reducible repeat (first | apply Kd.R_alloc | apply Kd.R_drewN | apply Kd.R_drew)); exact HO_5.out)); (case aS => exact (below_size bw_)); (case aL => have := LMc10.out; omega); intro v8 w18 ho hb hg hat; rw [← Ny7.out] at ho; have n0_ := Aside0.mk (blk_grown (g := gb1) (o := .cells #[.int .i64 a0_0, .slice A0_1 l0_1.length c0_1] 39 (0, 0)) bk_ hg (Kd.R_ne HO_5.out BK1.out (by decide))); have n1_ := Aside0.mk (blk_grown (g := gb2) (o := .cells #[.slice A1_0 l1_0.length c1_0, .slice A1_1 l1_1.length c1_1] 54 (0, 0)) bk_ hg (Kd.R_ne HO_5.out BK2.out (by decide))); have n2_ := Aside0.mk (hb); have n3_ := Aside0.mk (ho); clear BK1; clear BK2; clear HB; clear HO_5; have BK1 := n0_; have BK2 := n1_; have HB := n2_; have HO9 := n3_; clear n0_ n1_ n2_ n3_; clear ho hb hg hat; have hcz19_0 := (blk_cell BK1.out 0).trans rfl; have hcz19_1 := (blk_cell BK1.out 1).trans rfl; have hfz19_0 := blk_frozen BK1.out 0; have hfz19_1 := blk_frozen BK1.out 1; have hcz20_0 := (blk_cell BK2.out 0).trans rfl; have hcz20_1 := (blk_cell BK2.out 1).trans rfl; have hfz20_0 := blk_frozen BK2.out 0; have hfz20_1 := blk_frozen BK2.out 1) | ((with_reducible refine gate_callee (f := 122) rfl ?_); refine goesL_ (some 29) rfl rfl Try.func122 (by kernel_rfl) rfl #[.agg #[.int .i64 a0_0, .slice A0_1 l0_1.length c0_1], .agg #[.slice A1_0 l1_0.length c1_0, .slice A1_1 l1_1.length c1_1], .agg #[.int .i64 x6_1, .bool true]] rfl ar_ ?_; (with_reducible refine (spec_l04Can.calls a0_0 _ _ l0_1 _ _ l1_0 _ _ l1_1 x6_1 true true _ ?side1 ?side2 ?side3 ?side4 ?side5 ?side6 A11.out).mono ?_); (case side1 => exact cb_); (case side2 => exact HC0_1.out); (case side3 => exact cb_); (case side4 => exact HC1_0.out); (case side5 => exact cb_); (case side6 => exact HC1_1.out); rintro e w21 ⟨rfl, hb⟩; refine ⟨_, rfl, ?_⟩; have n0_ := Aside0.mk (Kd.R_below (by (with_reducible repeat (first | apply Kd.R_alloc | apply Kd.R_drewN | apply Kd.R_drew)); exact HO9.out) hb); have n1_ := Aside0.mk (blk_below (g := gb1) (o := .cells #[.int .i64 a0_0, .slice A0_1 l0_1.length c0_1] 39 (0, 0)) bk_ hb); have n2_ := Aside0.mk (blk_below (g := gb2) (o := .cells #[.slice A1_0 l1_0.length c1_0, .slice A1_1 l1_1.length c1_1] 54 (0, 0)) bk_ hb); have n3_ := Aside0.mk (below_step bw_ hb); clear HO9; clear BK1; clear BK2; clear HB; have HO9 := n0_; have BK1 := n1_; have BK2 := n2_; have HB := n3_; clear n0_ n1_ n2_ n3_; (try clear hb); (try clear hb2); (try clear hk); (try clear hi)) | ((with_reducible refine gate_builtin (b := .append) (xs := #[.tmp 30, .tmp 33]) rfl ?_); at_builtin; refine Kd.R_append k127 (w0 := w) w.heap.size rfl (.tmp 30) (.tmp 33) 74 127 (.agg #[(.int .i64 0), (.bool false)]) 16 rfl Try.underlying74 info127 rfl (by decide) (by omega) v8 y7 (⟨x6_1, true⟩ : S127) [.int .i64 x6_1, .bool true] (fun _ => True) (fun _ => False) rfl rfl ?aP (fun _ hk => hk.elim) ?aF ?aO ?aB ?aS ?aL ?_; (case aP => exact k127_mkM _ _ _ (⟨x6_1, true⟩ : S127)); (case aB => exact bw_); (case aF => exact (fun _ _ => trivial)); (case aO => exact (by (with_reducible repeat (first | apply Kd.R_alloc | apply Kd.R_drewN | apply Kd.R_drew)); exact HO9.out)); (case aS => exact (below_size bw_)); (case aL => have := LMc13.out; omega); intro v12 w22 ho hb hg hat; rw [← Ny11.out] at ho; have n0_ := Aside0.mk (blk_grown (g := gb1) (o := .cells #[.int .i64 a0_0, .slice A0_1 l0_1.length c0_1] 39 (0, 0)) bk_ hg (Kd.R_ne HO9.out BK1.out (by decide))); have n1_ := Aside0.mk (blk_grown (g := gb2) (o := .cells #[.slice A1_0 l1_0.length c1_0, .slice A1_1 l1_1.length c1_1] 54 (0, 0)) bk_ hg (Kd.R_ne HO9.out BK2.out (by decide))); have n2_ := Aside0.mk (hb); have n3_ := Aside0.mk (ho); clear BK1; clear BK2; clear HB; clear HO9; have BK1 := n0_; have BK2 := n1_; have HB := n2_; have HO13 := n3_; clear n0_ n1_ n2_ n3_; clear ho hb hg hat))
   go_roundg k1
   case measure => have := HK1.out; omega
   case rel => exact ⟨(y11), (wrap64 (x6_1 + 1)), sd_, H', ⟨by have := HK1.out; omega⟩, ⟨by (with_reducible repeat (first | apply Kd.R_alloc | apply Kd.R_drewN | apply Kd.R_drew)); exact HO13.out⟩, ⟨bk_⟩, ⟨bk_⟩, ⟨bw_⟩⟩

end Go.Proofs.Ytlfbdafghpmahaa.P
