-- Written by mp.py (the session's own driver over the kit's printer) for the seat YtchpopocnaoabaaDoor.
import Derived.Test.YtchpopocnaoabaaDoorK
import Derived.Test.YtchpopocnaoabaaDoorPimplBufOk
import Derived.Test.YtchpopocnaoabaaDoorPstrconvItoa
import Derived.Test.YtchpopocnaoabaaDoorPstringsJoin
import Derived.Test.YtchpopocnaoabaaDoorEnv
namespace Go.Proofs.YtchpopocnaoabaaDoor.P
open Go.RowKit Go.Proofs.YtchpopocnaoabaaDoorW.PrintWords Go.Proofs.YtchpopocnaoabaaDoorW.PrintLast Go.Proofs.YtchpopocnaoabaaDoorW.PrintMore
attribute [local go_sem] max2_int min2_int max_two min_two max_three min_three max_four min_four
set_option linter.unusedVariables false
set_option linter.unusedSimpArgs false

/-! ### impl_BufText: function 35 -/
def impl_BufText.l0 : Nat → List (S119) → List ByteArray → List (S119) → Int → Int → Option (ByteArray)
 | 0, _, _, _, _, _ => none
 | k + 1, x0, x3, x7, x8, x9 => if x9 < x8 then (if 0 ≤ x9 then (if x9 < (x7.length : Int) then ((strconv_Itoa.f ((rd_T119 x7 x9).f0)).bind fun t6 => (if t6.size + 1 ≤ 9223372036854775807 then ((strconv_Itoa.f ((rd_T119 x7 x9).f1)).bind fun t7 => (if (t6 ++ (⟨#[61]⟩ : ByteArray)).size + t7.size ≤ 9223372036854775807 then (if x3.length < 8796093022208 then (impl_BufText.l0 k x0 (x3 ++ [(t6 ++ (⟨#[61]⟩ : ByteArray)) ++ t7]) x7 x8 (wrap64 (x9 + 1))) else (none)) else (none))) else (none))) else (none)) else (none)) else ((impl_BufOk.f x0).bind fun t11 => (if t11 = true then (if (x0.length : Int) = 0 then (some (⟨#[45]⟩ : ByteArray)) else ((strings_Join.f x3 (⟨#[32]⟩ : ByteArray)).bind fun t12 => (some t12))) else (some (⟨#[]⟩ : ByteArray))))
def impl_BufText.f (k : Nat) (l0 : List (S119)) : Option (ByteArray) := impl_BufText.l0 k l0 (([] : List ByteArray)) l0 (l0.length : Int) 0
theorem impl_BufText.mono_l : ∀ k, (∀ y0 y1 y2 y3 y4, LeO (impl_BufText.l0 k y0 y1 y2 y3 y4) (impl_BufText.l0 (k + 1) y0 y1 y2 y3 y4))
 | 0 => fun _ _ _ _ _ r h => by simp [impl_BufText.l0] at h
 | k + 1 => by
  have ih0 := impl_BufText.mono_l k
  ·intro y0 y1 y2 y3 y4
   unfold impl_BufText.l0
   repeat' first | (with_reducible first | exact ih0 _ _ _ _ _ | exact lr_ | exact ln_ | refine LeO.ite ?_ ?_ | refine LeO.bind ?_ (fun _ => ?_)) | exact ih0 _ _ _ _ _ | exact ln_ | refine LeO.ite ?_ ?_ | refine LeO.bind ?_ (fun _ => ?_)
theorem impl_BufText.mono : ∀ a0 k, LeO (impl_BufText.f k a0) (impl_BufText.f (k + 1) a0) := by
 intro a0 k
 have ih0 := impl_BufText.mono_l k
 unfold impl_BufText.f
 repeat' first | (with_reducible first | exact ih0 _ _ _ _ _ | exact lr_ | exact ln_ | refine LeO.ite ?_ ?_ | refine LeO.bind ?_ (fun _ => ?_)) | exact ih0 _ _ _ _ _ | exact ln_ | refine LeO.ite ?_ ?_ | refine LeO.bind ?_ (fun _ => ?_)
def impl_BufText.T5 : Bool × List (List Nat × List Nat) := (true, [([], []), ([], []), ([1], [1]), ([2], [2]), ([3], [3]), ([], []), ([5], [5]), ([6, 3], [6]), ([4, 7], [4, 7]), ([8], [8]), ([0, 9, 7], [0, 9]), ([10, 10, 0, 1, 2, 3, 4, 5, 6, 7, 8, 9, 10], [0, 10])])
def impl_BufText.B5 : List Nat := [0, 0, 2, 6, 14, 0, 32, 110, 254, 510, 1023, 2047]
theorem impl_BufText.tab5 : rtab .any (opsOf Tryd.f35 5) = impl_BufText.T5 := by kernel_rfl
theorem impl_BufText.bits5 : waitsOk impl_BufText.T5.2 impl_BufText.B5 = true := by kernel_rfl
set_option maxHeartbeats 8000000 in
set_option maxRecDepth 100000 in
theorem impl_BufText.calls (k : Nat) (A0 : Option Addr) (c0 : Nat) (l0 : List (S119)) (r : ByteArray) (w : World) (hE_ : EnvOk false w) (hr0 : Kd.C k119 w A0 l0.length l0) (hc0 : l0.length ≤ c0) (h : impl_BufText.f k l0 = some r) :
  Calls Tryd.prog 35 #[.slice A0 l0.length c0] w fun e w' => e = .returned (.string r) ∧ Below w.heap.size w w' := by
 have HE_ := Aside0.mk hE_
 clear hE_
 have hu119 := Tryd.underlying119
 have HR0 := Aside0.mk hr0
 have HC0 := Aside0.mk hc0
 clear hr0 hc0
 have HB := Aside0.mk (Below.refl w.heap.size w)
 have H : (impl_BufText.l0 k l0 (([] : List ByteArray)) l0 (l0.length : Int) 0) = some r := h
 clear h
 obtain ⟨y1, hy1⟩ : ∃ y_ : List ByteArray, y_ = (([] : List ByteArray)) := ⟨_, rfl⟩
 replace H : (impl_BufText.l0 k l0 y1 l0 (l0.length : Int) 0) = some r := by first | (rw [hy1]; with_reducible exact H) | (have H2_ := (Option.bind_some _ _).symm.trans H; rw [hy1]; with_reducible exact H2_) | (have H2_ := (Option.bind_some _ _).symm.trans H; with_reducible exact H2_) | with_reducible exact H | (rw [hy1]; exact H) | exact H
 have Ny1 := Aside0.mk hy1
 clear hy1
 have H' := Aside0.mk H
 clear H
 go_enter Tryd.func35, Tryd.ntmps35
 go_wp2_with (first | ((with_reducible refine gate_dst (N := 6) rfl ?_); refine Kd.R_lit Kd.string _ 9 ?hg (N := 6) ?hd (xs := ([] : List ByteArray)) (inner := []) (ok := fun _ => True) (okp := fun _ => True) ?hr ?hp (fun _ hk => hk) trivial (Below.refl _ _) (Nat.le_refl _) (by simp) ?_; (case hd => rfl); (case hg => rfl); (case hr => first | (go_simp; done) | (go_simp; rfl)); (case hp => exact (Reps.none _ _)); intro v2 w2 ho3 hb hg_ hnew_; clear hg_ hnew_; (first | rw [← Ny1.out] at ho3 | (simp only [Int.reduceToNat] at ho3; rw [← Ny1.out] at ho3)); have n0_ := Aside0.mk (Kd.R_lower ho3 (below_size bw_)); have n1_ := bs_ hb; clear HB; have HO3 := n0_; have HB := n1_; clear n0_ n1_; clear hb ho3))
 go_loopg [3, 9] k (fun kq v3 v9 w' => ∃ (x3_1 : List ByteArray) (x9_1 : Int), v9 = .int .i64 x9_1 ∧ Aside0 (impl_BufText.l0 kq l0 x3_1 l0 (l0.length : Int) x9_1 = some r) ∧ Aside0 (kq ≤ k) ∧ Aside0 (Kd.R Kd.string 9 w' w.heap.size (fun _ => True) v3 x3_1) ∧ Aside0 (Below w.heap.size w w'))
 case atStart => exact ⟨(y1), (0), sd_, H', ⟨Nat.le_refl _⟩, ⟨by (with_reducible repeat (first | apply Kd.R_alloc | apply Kd.R_drewN | apply Kd.R_drew)); exact HO3.out⟩, ⟨bw_⟩⟩
 case round =>
  clear H'
  try clear p2
  try clear c3
  obtain ⟨x3_1, x9_1, rfl, HA, HK1, HO_3, HB⟩ := hrel
  cases gk with
  | zero => exact absurd HA.out (by simp [impl_BufText.l0])
  | succ k1 =>
   have H := HA.out
   clear HA
   simp only [impl_BufText.l0] at H
   by_cases c4 : x9_1 < (l0.length : Int)
   rotate_left
   ·rw [if_neg c4] at H
    have c4b0 : decide (x9_1 < (l0.length : Int)) = false := decide_eq_false c4
    clear c4
    replace H := Option.bind_eq_some_iff.mp H
    obtain ⟨t11, A190, H⟩ := H
    replace H : (if t11 = true then (if (l0.length : Int) = 0 then (some (⟨#[45]⟩ : ByteArray)) else ((strings_Join.f x3_1 (⟨#[32]⟩ : ByteArray)).bind fun t12 => (some t12))) else (some (⟨#[]⟩ : ByteArray))) = some r := H
    have A19 := Aside0.mk A190
    clear A190
    by_cases c20 : t11 = true
    rotate_left
    ·replace c20 := Bool.eq_false_iff.mpr c20
     subst c20
     have H1 : (some (⟨#[]⟩ : ByteArray)) = some r := by rw [if_neg (show ¬ (false = true) by decide)] at H; exact H
     clear H
     have H := H1
     clear H1
     obtain rfl := Option.some.inj H
     go_wp2_with (first | ((with_reducible refine gate_callee (f := 98) rfl ?_); refine goesL_ (some 27) rfl rfl Tryd.func98 (by kernel_rfl) rfl #[.slice A0 l0.length c0] rfl ar_ ?_; (with_reducible refine (impl_BufOk.calls _ _ l0 false _ ?side1 ?side2 A19.out).mono ?_); (case side1 => exact cb_); (case side2 => exact HC0.out); rintro e w27 ⟨rfl, hb⟩; refine ⟨_, rfl, ?_⟩; have n0_ := Aside0.mk (Kd.R_below (rx_ HO_3.out) hb); have n1_ := bs_ hb; clear HO_3; clear HB; have HO_3 := n0_; have HB := n1_; clear n0_ n1_; (try clear hb); (try clear hb2); (try clear hk); (try clear hi)))
     go_ret
     exact ⟨rr_, bw_⟩
    subst c20
    have H1 : (if (l0.length : Int) = 0 then (some (⟨#[45]⟩ : ByteArray)) else ((strings_Join.f x3_1 (⟨#[32]⟩ : ByteArray)).bind fun t12 => (some t12))) = some r := by rw [if_pos rfl] at H; exact H
    clear H
    have H := H1
    clear H1
    by_cases c21 : (l0.length : Int) = 0
    ·rw [if_pos c21] at H
     have c21b0 : ((l0.length : Int) == 0) = true := beq_iff_eq.mpr c21
     have c21b1 : ((l0.length : Int) != 0) = false := bne_eq_false_iff_eq.mpr c21
     clear c21
     obtain rfl := Option.some.inj H
     go_wp2_with (first | ((with_reducible refine gate_callee (f := 98) rfl ?_); refine goesL_ (some 27) rfl rfl Tryd.func98 (by kernel_rfl) rfl #[.slice A0 l0.length c0] rfl ar_ ?_; (with_reducible refine (impl_BufOk.calls _ _ l0 true _ ?side1 ?side2 A19.out).mono ?_); (case side1 => exact cb_); (case side2 => exact HC0.out); rintro e w22 ⟨rfl, hb⟩; refine ⟨_, rfl, ?_⟩; have n0_ := Aside0.mk (Kd.R_below (rx_ HO_3.out) hb); have n1_ := bs_ hb; clear HO_3; clear HB; have HO_3 := n0_; have HB := n1_; clear n0_ n1_; (try clear hb); (try clear hb2); (try clear hk); (try clear hi)))
     go_ret
     exact ⟨rr_, bw_⟩
    rw [if_neg c21] at H
    have c21b0 : ((l0.length : Int) == 0) = false := beq_eq_false_iff_ne.mpr c21
    have c21b1 : ((l0.length : Int) != 0) = true := bne_iff_ne.mpr c21
    have c21b2 : ¬ (l0 = []) := fun h_ => c21 (by rw [h_]; rfl)
    replace H := Option.bind_eq_some_iff.mp H
    obtain ⟨t12, A230, H⟩ := H
    replace H : (some t12) = some r := H
    have A23 := Aside0.mk A230
    clear A230
    obtain rfl := Option.some.inj H
    go_wp2_with (first | ((with_reducible refine gate_callee (f := 98) rfl ?_); refine goesL_ (some 27) rfl rfl Tryd.func98 (by kernel_rfl) rfl #[.slice A0 l0.length c0] rfl ar_ ?_; (with_reducible refine (impl_BufOk.calls _ _ l0 true _ ?side1 ?side2 A19.out).mono ?_); (case side1 => exact cb_); (case side2 => exact HC0.out); rintro e w24 ⟨rfl, hb⟩; refine ⟨_, rfl, ?_⟩; have n0_ := Aside0.mk (Kd.R_below (rx_ HO_3.out) hb); have n1_ := bs_ hb; clear HO_3; clear HB; have HO_3 := n0_; have HB := n1_; clear n0_ n1_; (try clear hb); (try clear hb2); (try clear hk); (try clear hi); obtain ⟨Ao25, co25, eo25⟩ := Kd.R_slice HO_3.out; subst eo25) | ((with_reducible refine gate_callee (f := 78) rfl ?_); refine goesL_ (some 34) rfl rfl Tryd.func78 (by kernel_rfl) rfl #[.slice Ao25 x3_1.length co25, .string (⟨#[32]⟩ : ByteArray)] rfl ar_ ?_; (with_reducible refine (strings_Join.calls (hs_ := js_) _ _ x3_1 (⟨#[32]⟩ : ByteArray) t12 _ ?side1 ?side2 A23.out).mono ?_); (case side1 => repeat (first | exact (Kd.R_reads' HO_3.out).2.2 | (with_reducible refine Kd.C_alloc ?_ _) | (with_reducible refine Kd.C_drewN ?_ _) | (with_reducible refine Kd.C_drew ?_))); (case side2 => exact (Kd.R_reads' HO_3.out).2.1); rintro e w26 ⟨rfl, hb⟩; refine ⟨_, rfl, ?_⟩; have n0_ := Aside0.mk (Kd.R_below (rx_ HO_3.out) hb); have n1_ := bs_ hb; clear HO_3; clear HB; have HO_3 := n0_; have HB := n1_; clear n0_ n1_; (try clear hb); (try clear hb2); (try clear hk); (try clear hi)))
    go_ret
    exact ⟨rr_, bw_⟩
   rw [if_pos c4] at H
   have c4b0 : decide (x9_1 < (l0.length : Int)) = true := decide_eq_true c4
   clear c4
   by_cases c5 : 0 ≤ x9_1
   rotate_left
   ·rw [if_neg c5] at H
    exact absurd H (by simp)
   rw [if_pos c5] at H
   have c5b0 : decide (0 ≤ x9_1) = true := decide_eq_true c5
   clear c5
   by_cases c6 : x9_1 < (l0.length : Int)
   rotate_left
   ·rw [if_neg c6] at H
    exact absurd H (by simp)
   rw [if_pos c6] at H
   have c6b0 : decide (x9_1 < (l0.length : Int)) = true := decide_eq_true c6
   clear c6
   replace H := Option.bind_eq_some_iff.mp H
   obtain ⟨t6, A70, H⟩ := H
   replace H : (if t6.size + 1 ≤ 9223372036854775807 then ((strconv_Itoa.f ((rd_T119 l0 x9_1).f1)).bind fun t7 => (if (t6 ++ (⟨#[61]⟩ : ByteArray)).size + t7.size ≤ 9223372036854775807 then (if x3_1.length < 8796093022208 then (impl_BufText.l0 k1 l0 (x3_1 ++ [(t6 ++ (⟨#[61]⟩ : ByteArray)) ++ t7]) l0 (l0.length : Int) (wrap64 (x9_1 + 1))) else (none)) else (none))) else (none)) = some r := H
   have A7 := Aside0.mk A70
   clear A70
   by_cases c8 : t6.size + 1 ≤ 9223372036854775807
   rotate_left
   ·rw [if_neg c8] at H
    exact absurd H (by simp)
   rw [if_pos c8] at H
   have c8b0 := eq_true c8
   have c8b1 : decide (t6.size + 1 ≤ 9223372036854775807) = true := decide_eq_true c8
   try have c8b2 : (9223372036854775807 < t6.size + 1) = False := eq_false (Nat.not_lt.2 c8)
   replace H := Option.bind_eq_some_iff.mp H
   obtain ⟨t7, A90, H⟩ := H
   replace H : (if (t6 ++ (⟨#[61]⟩ : ByteArray)).size + t7.size ≤ 9223372036854775807 then (if x3_1.length < 8796093022208 then (impl_BufText.l0 k1 l0 (x3_1 ++ [(t6 ++ (⟨#[61]⟩ : ByteArray)) ++ t7]) l0 (l0.length : Int) (wrap64 (x9_1 + 1))) else (none)) else (none)) = some r := H
   have A9 := Aside0.mk A90
   clear A90
   by_cases c10 : (t6 ++ (⟨#[61]⟩ : ByteArray)).size + t7.size ≤ 9223372036854775807
   rotate_left
   ·rw [if_neg c10] at H
    exact absurd H (by simp)
   rw [if_pos c10] at H
   have c10b0 := eq_true c10
   have c10z0 := eq_true (show (t6.size + 1) + t7.size ≤ 9223372036854775807 by have h_ := c10; simp only [ByteArray.size_append] at h_; exact h_)
   have c10z2 : (9223372036854775807 < (t6.size + 1) + t7.size) = False := eq_false (Nat.not_lt.2 (show (t6.size + 1) + t7.size ≤ 9223372036854775807 by have h_ := c10; simp only [ByteArray.size_append] at h_; exact h_))
   have c10b1 : decide ((t6 ++ (⟨#[61]⟩ : ByteArray)).size + t7.size ≤ 9223372036854775807) = true := decide_eq_true c10
   try have c10b2 : (9223372036854775807 < (t6 ++ (⟨#[61]⟩ : ByteArray)).size + t7.size) = False := eq_false (Nat.not_lt.2 c10)
   by_cases c11 : x3_1.length < 8796093022208
   rotate_left
   ·rw [if_neg c11] at H
    exact absurd H (by simp)
   rw [if_pos c11] at H
   have LMc11 := Aside0.mk c11
   clear c11
   obtain ⟨y8, hy8⟩ : ∃ y_ : List ByteArray, y_ = (x3_1 ++ [(t6 ++ (⟨#[61]⟩ : ByteArray)) ++ t7]) := ⟨_, rfl⟩
   replace H : (impl_BufText.l0 k1 l0 y8 l0 (l0.length : Int) (wrap64 (x9_1 + 1))) = some r := by first | (rw [hy8]; with_reducible exact H) | (have H2_ := (Option.bind_some _ _).symm.trans H; rw [hy8]; with_reducible exact H2_) | (have H2_ := (Option.bind_some _ _).symm.trans H; with_reducible exact H2_) | with_reducible exact H | (rw [hy8]; exact H) | exact H
   have Ny8 := Aside0.mk hy8
   clear hy8
   have H' := Aside0.mk H
   clear H
   have p4 : 0 ≤ (x9_1 : Int) := od_
   have q4 : x9_1 < (l0.length : Int) := od_
   obtain ⟨ad4, e4, hx4_0, hx4_1⟩ := at_T119 HR0.out x9_1 p4 q4
   cases e4
   replace hx4_0 := (HB.out.cell (World.block_lt_of_cell? w _ hx4_0)).trans hx4_0
   replace hx4_1 := (HB.out.cell (World.block_lt_of_cell? w _ hx4_1)).trans hx4_1
   replace p4 := eq_true p4
   replace q4 := eq_true q4
   try go_wp2_with (first | ((with_reducible refine gate_dst (N := 5) rfl ?_); refine box_event ?hg (N := 5) ?hd (cs := #[.int .i64 0, .int .i64 0]) (t := 119) ?hr ?_; (case hd => rfl); (case hg => rfl); (case hr => exact hr_); intro gb5 hg w12 hbox hb; have n0_ := Aside0.mk (Kd.R_below (rx_ HO_3.out) hb); have n1_ := bs_ hb; have n2_ := Aside0.mk (hbox); have n3_ := ge_ (w := w) hg; have n4_ := ge_ (w := w) hg; clear HO_3; clear HB; have HO_3 := n0_; have HB := n1_; have BK5 := n2_; have GW5 := n3_; have GE5 := n4_; clear n0_ n1_ n2_ n3_ n4_; clear hb hbox hg; obtain ⟨hcz13_0, hcz13_1, hfz13_0, hfz13_1⟩ := bc2_ BK5.out))
   have n0_ : Aside0 (Kd.R Kd.string 9 ((w12.setCell ⟨gb5, 0, none⟩ (.int .i64 ((rd_T119 l0 x9_1).f0))).setCell ⟨gb5, 1, none⟩ (.int .i64 ((rd_T119 l0 x9_1).f1))) w.heap.size (fun _ => True) u3 x3_1) := ⟨by (with_reducible repeat (first | apply Kd.R_alloc | apply Kd.R_drewN | apply Kd.R_drew)); exact Kd.R_mono (Kd.R_far (p := ⟨gb5, 1, none⟩) (Kd.R_far (p := ⟨gb5, 0, none⟩) (Kd.R_types HO_3.out BK5.out (by decide)) (fun _ hk => hk.2) (.int .i64 ((rd_T119 l0 x9_1).f0))) (fun _ hk => hk.2) (.int .i64 ((rd_T119 l0 x9_1).f1))) (fun _ hk => trivial)⟩
   have n1_ : Aside0 (((w12.setCell ⟨gb5, 0, none⟩ (.int .i64 ((rd_T119 l0 x9_1).f0))).setCell ⟨gb5, 1, none⟩ (.int .i64 ((rd_T119 l0 x9_1).f1))).heap[gb5]? = some (.cells #[.int .i64 ((rd_T119 l0 x9_1).f0), .int .i64 ((rd_T119 l0 x9_1).f1)] 119 (0, 0))) := ⟨by (with_reducible repeat (first | refine blk_drewN ?_ _ | refine blk_drew ?_ | refine blk_alloc ?_ _)); refine blk_put (cs := #[.int .i64 ((rd_T119 l0 x9_1).f0), .int .i64 0]) ?_ 1 _ rfl; (with_reducible repeat (first | refine blk_drewN ?_ _ | refine blk_drew ?_ | refine blk_alloc ?_ _)); refine blk_put (cs := #[.int .i64 0, .int .i64 0]) ?_ 0 _ rfl; (with_reducible repeat (first | refine blk_drewN ?_ _ | refine blk_drew ?_ | refine blk_alloc ?_ _)); exact BK5.out⟩
   have n2_ : Aside0 (Below w.heap.size w ((w12.setCell ⟨gb5, 0, none⟩ (.int .i64 ((rd_T119 l0 x9_1).f0))).setCell ⟨gb5, 1, none⟩ (.int .i64 ((rd_T119 l0 x9_1).f1)))) := ⟨bw_⟩
   (try clear HO_3)
   (try clear BK5)
   (try clear HB)
   generalize ((w12.setCell ⟨gb5, 0, none⟩ (.int .i64 ((rd_T119 l0 x9_1).f0))).setCell ⟨gb5, 1, none⟩ (.int .i64 ((rd_T119 l0 x9_1).f1))) = w14 at n0_ n1_ n2_ ⊢
   have HO_3 := n0_
   have BK5 := n1_
   have HB := n2_
   clear n0_ n1_ n2_
   have n0_ := Aside0.mk (Kd.R_drew HO_3.out)
   have n1_ := Aside0.mk (blk_drew BK5.out)
   have n2_ := Aside0.mk (below_drew1 HB.out)
   clear HO_3
   clear BK5
   clear HB
   have HO_3 := n0_
   have BK5 := n1_
   have HB := n2_
   clear n0_ n1_ n2_
   refine start_ (n := 12) (S := fun w' => w'.cell? ⟨gb5, 0, none⟩ = some (.int .i64 ((rd_T119 l0 x9_1).f0)) ∧ w'.cell? ⟨gb5, 1, none⟩ = some (.int .i64 ((rd_T119 l0 x9_1).f1))) (ds := []) #[false, false, false, false, false, false, false, false, false, false, false, false] (by kernel_rfl) rfl rfl ⟨(blk_cell BK5.out 0).trans rfl, (blk_cell BK5.out 1).trans rfl⟩ (fun hHeld => ?_); refine with_tabW impl_BufText.tab5 impl_BufText.bits5 (fun HT_ HW_ => ?_)
   generalize w14.drew = w15 at HO_3 BK5 HB hHeld ⊢
   refine pure_ (i := 0) (N := some 13) (bm_ 12 1) rfl rfl (any_of HT_.out kr_) (fun _ _ _ h => h) (Or.inl ⟨rfl, yi_⟩) pu_ ?_
   refine pure_ (i := 1) (N := some 14) (bm_ 12 3) rfl rfl (any_of HT_.out kr_) (fun _ _ _ h => h) (Or.inl ⟨rfl, yi_⟩) pu_ ?_
   refine pure_ (i := 5) (N := some 18) (bm_ 12 35) rfl rfl (any_of HT_.out kr_) (fun _ _ _ h => h) (Or.inl ⟨rfl, yi_⟩) pu_ ?_
   refine take_ (i := 2) (N := some 15) (v := ?_) (a' := ?_) (bm_ 12 39) rfl rfl (take_ofW HT_.out HW_.out (by kernel_rfl)) (fun _ _ _ h => h) (Or.inl ⟨by rfl, ?_⟩) hHeld ?_ ?_
   rotate_left
   ·rintro w' ⟨s0, s1⟩
    go_simp
    with_reducible rfl
   rotate_left
   ·exact pu_
   refine take_ (i := 6) (N := some 19) (v := ?_) (a' := ?_) (bm_ 12 103) rfl rfl (take_ofW HT_.out HW_.out (by kernel_rfl)) (fun _ _ _ h => h) (Or.inl ⟨by rfl, ?_⟩) hHeld ?_ ?_
   rotate_left
   ·rintro w' ⟨s0, s1⟩
    go_simp
    with_reducible rfl
   rotate_left
   ·exact pu_
   refine one_ (i := 3) (N := some 16) (bm_ 12 111) rfl rfl (one_of HT_.out (by kernel_rfl)) (by decide) (fun K hK => ?_)
   refine goes_ Tryd.func93 (by kernel_rfl) rfl #[.int .i64 ((rd_T119 l0 x9_1).f0)] (by rfl) rfl rfl ar_ ?_
   with_reducible refine (strconv_Itoa.calls (hE_ := ee_) ((rd_T119 l0 x9_1).f0) t6 _ A7.out).mono ?_
   rintro e w16 ⟨rfl, hb⟩
   refine ⟨_, rfl, ?_⟩
   have n0_ := Aside0.mk (Kd.R_below (rx_ HO_3.out) hb)
   have n1_ := bb_ BK5.out hb
   have n2_ := bs_ hb
   clear HO_3
   clear BK5
   clear HB
   have HO_3 := n0_
   have BK5 := n1_
   have HB := n2_
   clear n0_ n1_ n2_
   (try clear hb)
   (try clear hb2)
   (try clear hk)
   (try clear hi)
   refine hK.out _ _ ⟨(blk_cell BK5.out 0).trans rfl, (blk_cell BK5.out 1).trans rfl⟩ (fun hHeld => ?_)
   clear hK K
   refine norm_ (a' := ?_) ?_ ?_
   rotate_left
   ·show Act.put _ (some 16) _ = _
    simp only [Act.put, List.setIfInBounds_toArray, List.set_cons_zero, List.set_cons_succ, i64_w, i32_w]
    rfl
   refine pure_ (i := 4) (N := some 17) (bm_ 12 127) rfl rfl (any_of HT_.out kr_) (fun _ _ _ h => h) (Or.inl ⟨rfl, yi_⟩) pu_ ?_
   refine one_ (i := 7) (N := some 20) (bm_ 12 255) rfl rfl (one_of HT_.out (by kernel_rfl)) (by decide) (fun K hK => ?_)
   refine goes_ Tryd.func93 (by kernel_rfl) rfl #[.int .i64 ((rd_T119 l0 x9_1).f1)] (by rfl) rfl rfl ar_ ?_
   with_reducible refine (strconv_Itoa.calls (hE_ := ee_) ((rd_T119 l0 x9_1).f1) t7 _ A9.out).mono ?_
   rintro e w17 ⟨rfl, hb⟩
   refine ⟨_, rfl, ?_⟩
   have n0_ := Aside0.mk (Kd.R_below (rx_ HO_3.out) hb)
   have n1_ := bb_ BK5.out hb
   have n2_ := bs_ hb
   clear HO_3
   clear BK5
   clear HB
   have HO_3 := n0_
   have BK5 := n1_
   have HB := n2_
   clear n0_ n1_ n2_
   (try clear hb)
   (try clear hb2)
   (try clear hk)
   (try clear hi)
   refine hK.out _ _ ⟨(blk_cell BK5.out 0).trans rfl, (blk_cell BK5.out 1).trans rfl⟩ (fun hHeld => ?_)
   clear hK K
   refine norm_ (a' := ?_) ?_ ?_
   rotate_left
   ·show Act.put _ (some 20) _ = _
    simp only [Act.put, List.setIfInBounds_toArray, List.set_cons_zero, List.set_cons_succ, i64_w, i32_w]
    rfl
   refine pure_ (i := 8) (N := some 21) (bm_ 12 511) rfl rfl (any_of HT_.out kr_) (fun _ _ _ h => h) (Or.inl ⟨rfl, yi_⟩) pu_ ?_
   refine one_ (i := 9) (N := some 22) (bm_ 12 1023) rfl rfl (one_of HT_.out (by kernel_rfl)) (by decide) (fun K hK => ?_)
   refine value_ (w1 := ?_) (v := ?_) (by rfl) rfl ?_ ?_
   rotate_left 2
   ·go_simp
    constructor
    ·rfl
    ·rfl
   refine hK.out _ _ ⟨(blk_cell (blk_alloc BK5.out _) 0).trans rfl, (blk_cell (blk_alloc BK5.out _) 1).trans rfl⟩ (fun hHeld => ?_)
   clear hK K
   refine norm_ (a' := ?_) ?_ ?_
   rotate_left
   ·show Act.put _ (some 22) _ = _
    simp only [Act.put, List.setIfInBounds_toArray, List.set_cons_zero, List.set_cons_succ, i64_w, i32_w]
    rfl
   refine one_ (i := 10) (N := some 23) (bm_ 12 2047) rfl rfl (one_of HT_.out (by kernel_rfl)) (by decide) (fun K hK => ?_)
   refine Kd.R_append_step Kd.string (w0 := w) w.heap.size (by rfl) (.tmp 13) (.tmp 22) 101 9 (.string ⟨#[]⟩) 16 rfl Tryd.underlying101 info9 rfl (by decide) (by omega) u3 x3_1 ((t6 ++ (⟨#[61]⟩ : ByteArray)) ++ t7) [.string ((t6 ++ (⟨#[61]⟩ : ByteArray)) ++ t7)] (fun _ => True) (fun _ => False) rfl rfl ?aP (fun _ hk => hk.elim) ?aF ?aO ?aB ?aS ?aL ?_
   (case aP => exact rfl)
   (case aB => exact bw_)
   (case aF => exact (fun _ _ => trivial))
   (case aO => exact (rx_ HO_3.out))
   (case aS => exact (below_size bw_))
   (case aL => have := LMc11.out; omega)
   intro v9 w18 ho hb hg hat
   rw [← Ny8.out] at ho
   have n0_ := Aside0.mk (blk_grown (g := gb5) (o := .cells #[.int .i64 ((rd_T119 l0 x9_1).f0), .int .i64 ((rd_T119 l0 x9_1).f1)] 119 (0, 0)) bk_ hg (Kd.R_ne HO_3.out BK5.out (by decide)))
   have n1_ := Aside0.mk (hb)
   have n2_ := Aside0.mk (ho)
   clear BK5
   clear HB
   clear HO_3
   have BK5 := n0_
   have HB := n1_
   have HO10 := n2_
   clear n0_ n1_ n2_
   clear ho hb hg hat
   refine hK.out _ _ ⟨(blk_cell BK5.out 0).trans rfl, (blk_cell BK5.out 1).trans rfl⟩ (fun hHeld => ?_)
   clear hK K
   refine norm_ (a' := ?_) ?_ ?_
   rotate_left
   ·show Act.put _ (some 23) _ = _
    simp only [Act.put, List.setIfInBounds_toArray, List.set_cons_zero, List.set_cons_succ, i64_w, i32_w]
    rfl
   refine pure_ (i := 11) (N := some 3) (bm_ 12 4095) rfl rfl (any_of HT_.out kr_) (fun _ _ _ h => h) (Or.inl ⟨rfl, yi_⟩) pu_ ?_
   refine done_ (done_of HT_.out (by kernel_rfl)) ?_
   try go_wp2
   go_roundg k1
   case measure => have := HK1.out; omega
   case rel => exact ⟨(y8), (wrap64 (x9_1 + 1)), sd_, H', ⟨by have := HK1.out; omega⟩, ⟨by (with_reducible repeat (first | apply Kd.R_alloc | apply Kd.R_drewN | apply Kd.R_drew)); exact HO10.out⟩, ⟨bw_⟩⟩

/-! ### laws_eqSlot: function 99 -/
def laws_eqSlot.f (a0_0 : Int) (a0_1 : Int) (a1_0 : Int) (a1_1 : Int) : Option (Bool) := if a0_0 = a1_0 then (if a0_1 = a1_1 then (some true) else (some false)) else (some false)
set_option maxHeartbeats 8000000 in
set_option maxRecDepth 100000 in
theorem laws_eqSlot.calls (a0_0 : Int) (a0_1 : Int) (a1_0 : Int) (a1_1 : Int) (r : Bool) (w : World) (h : laws_eqSlot.f a0_0 a0_1 a1_0 a1_1 = some r) :
  Calls Tryd.prog 99 #[.agg #[.int .i64 a0_0, .int .i64 a0_1], .agg #[.int .i64 a1_0, .int .i64 a1_1]] w fun e w' => e = .returned (.bool r) ∧ Below w.heap.size w w' := by
 have hu119 := Tryd.underlying119
 have HB := Aside0.mk (Below.refl w.heap.size w)
 have H : (if a0_0 = a1_0 then (if a0_1 = a1_1 then (some true) else (some false)) else (some false)) = some r := h
 clear h
 by_cases c3 : a0_0 = a1_0
 rotate_left
 ·rw [if_neg c3] at H
  have c3b0 : (a0_0 == a1_0) = false := beq_eq_false_iff_ne.mpr c3
  have c3b1 : (a0_0 != a1_0) = true := bne_iff_ne.mpr c3
  obtain rfl := Option.some.inj H
  go_enter Tryd.func99, Tryd.ntmps99
  go_wp2_with (first | ((with_reducible refine gate_dst (N := 2) rfl ?_); refine box_event ?hg (N := 2) ?hd (cs := #[.int .i64 a0_0, .int .i64 a0_1]) (t := 119) ?hr ?_; (case hd => rfl); (case hg => rfl); (case hr => exact hr_); intro gb1 hg w15 hbox hb; have n0_ := bs_ hb; have n1_ := Aside0.mk (hbox); have n2_ := ge_ (w := w) hg; have n3_ := ge_ (w := w) hg; clear HB; have HB := n0_; have BK1 := n1_; have GW1 := n2_; have GE1 := n3_; clear n0_ n1_ n2_ n3_; clear hb hbox hg) | ((with_reducible refine gate_dst (N := 3) rfl ?_); refine box_event ?hg (N := 3) ?hd (cs := #[.int .i64 a1_0, .int .i64 a1_1]) (t := 119) ?hr ?_; (case hd => rfl); (case hg => rfl); (case hr => exact hr_); intro gb2 hg w16 hbox hb; have n0_ := bb_ BK1.out hb; have n1_ := bs_ hb; have n2_ := Aside0.mk (hbox); have n3_ := ge_ (w := w) hg; have n4_ := ge_ (w := w) hg; have n5_ := nl_ BK1.out hg; have n6_ := nr_ BK1.out hg; clear BK1; clear HB; have BK1 := n0_; have HB := n1_; have BK2 := n2_; have GW2 := n3_; have GE2 := n4_; have NB1_2 := n5_; have NB2_1 := n6_; clear n0_ n1_ n2_ n3_ n4_ n5_ n6_; clear hb hbox hg; have hnb17 := NB1_2.out; have hnc17 := NB2_1.out; obtain ⟨hcz18_0, hcz18_1, hfz18_0, hfz18_1⟩ := bc2_ BK1.out; obtain ⟨hcz19_0, hcz19_1, hfz19_0, hfz19_1⟩ := bc2_ BK2.out))
  go_ret
  exact ⟨rr_, bw_⟩
 rw [if_pos c3] at H
 have c3b0 : (a0_0 == a1_0) = true := beq_iff_eq.mpr c3
 have c3b1 : (a0_0 != a1_0) = false := bne_eq_false_iff_eq.mpr c3
 clear c3
 by_cases c4 : a0_1 = a1_1
 rotate_left
 ·rw [if_neg c4] at H
  have c4b0 : (a0_1 == a1_1) = false := beq_eq_false_iff_ne.mpr c4
  have c4b1 : (a0_1 != a1_1) = true := bne_iff_ne.mpr c4
  obtain rfl := Option.some.inj H
  go_enter Tryd.func99, Tryd.ntmps99
  go_wp2_with (first | ((with_reducible refine gate_dst (N := 2) rfl ?_); refine box_event ?hg (N := 2) ?hd (cs := #[.int .i64 a0_0, .int .i64 a0_1]) (t := 119) ?hr ?_; (case hd => rfl); (case hg => rfl); (case hr => exact hr_); intro gb1 hg w10 hbox hb; have n0_ := bs_ hb; have n1_ := Aside0.mk (hbox); have n2_ := ge_ (w := w) hg; have n3_ := ge_ (w := w) hg; clear HB; have HB := n0_; have BK1 := n1_; have GW1 := n2_; have GE1 := n3_; clear n0_ n1_ n2_ n3_; clear hb hbox hg) | ((with_reducible refine gate_dst (N := 3) rfl ?_); refine box_event ?hg (N := 3) ?hd (cs := #[.int .i64 a1_0, .int .i64 a1_1]) (t := 119) ?hr ?_; (case hd => rfl); (case hg => rfl); (case hr => exact hr_); intro gb2 hg w11 hbox hb; have n0_ := bb_ BK1.out hb; have n1_ := bs_ hb; have n2_ := Aside0.mk (hbox); have n3_ := ge_ (w := w) hg; have n4_ := ge_ (w := w) hg; have n5_ := nl_ BK1.out hg; have n6_ := nr_ BK1.out hg; clear BK1; clear HB; have BK1 := n0_; have HB := n1_; have BK2 := n2_; have GW2 := n3_; have GE2 := n4_; have NB1_2 := n5_; have NB2_1 := n6_; clear n0_ n1_ n2_ n3_ n4_ n5_ n6_; clear hb hbox hg; have hnb12 := NB1_2.out; have hnc12 := NB2_1.out; obtain ⟨hcz13_0, hcz13_1, hfz13_0, hfz13_1⟩ := bc2_ BK1.out; obtain ⟨hcz14_0, hcz14_1, hfz14_0, hfz14_1⟩ := bc2_ BK2.out))
  go_ret
  exact ⟨rr_, bw_⟩
 rw [if_pos c4] at H
 have c4b0 : (a0_1 == a1_1) = true := beq_iff_eq.mpr c4
 have c4b1 : (a0_1 != a1_1) = false := bne_eq_false_iff_eq.mpr c4
 clear c4
 obtain rfl := Option.some.inj H
 go_enter Tryd.func99, Tryd.ntmps99
 go_wp2_with (first | ((with_reducible refine gate_dst (N := 2) rfl ?_); refine box_event ?hg (N := 2) ?hd (cs := #[.int .i64 a0_0, .int .i64 a0_1]) (t := 119) ?hr ?_; (case hd => rfl); (case hg => rfl); (case hr => exact hr_); intro gb1 hg w5 hbox hb; have n0_ := bs_ hb; have n1_ := Aside0.mk (hbox); have n2_ := ge_ (w := w) hg; have n3_ := ge_ (w := w) hg; clear HB; have HB := n0_; have BK1 := n1_; have GW1 := n2_; have GE1 := n3_; clear n0_ n1_ n2_ n3_; clear hb hbox hg) | ((with_reducible refine gate_dst (N := 3) rfl ?_); refine box_event ?hg (N := 3) ?hd (cs := #[.int .i64 a1_0, .int .i64 a1_1]) (t := 119) ?hr ?_; (case hd => rfl); (case hg => rfl); (case hr => exact hr_); intro gb2 hg w6 hbox hb; have n0_ := bb_ BK1.out hb; have n1_ := bs_ hb; have n2_ := Aside0.mk (hbox); have n3_ := ge_ (w := w) hg; have n4_ := ge_ (w := w) hg; have n5_ := nl_ BK1.out hg; have n6_ := nr_ BK1.out hg; clear BK1; clear HB; have BK1 := n0_; have HB := n1_; have BK2 := n2_; have GW2 := n3_; have GE2 := n4_; have NB1_2 := n5_; have NB2_1 := n6_; clear n0_ n1_ n2_ n3_ n4_ n5_ n6_; clear hb hbox hg; have hnb7 := NB1_2.out; have hnc7 := NB2_1.out; obtain ⟨hcz8_0, hcz8_1, hfz8_0, hfz8_1⟩ := bc2_ BK1.out; obtain ⟨hcz9_0, hcz9_1, hfz9_0, hfz9_1⟩ := bc2_ BK2.out))
 go_ret
 exact ⟨rr_, bw_⟩

end Go.Proofs.YtchpopocnaoabaaDoor.P
