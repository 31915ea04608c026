-- Written by mp.py (the session's own driver over the kit's printer) for the seat YtbgclnjnngolmaaDoor.
import Derived.Test.YtbgclnjnngolmaaDoorK
import Derived.Test.YtbgclnjnngolmaaDoorE
import Derived.Test.YtbgclnjnngolmaaDoorPimplInstrText
import Derived.Test.YtbgclnjnngolmaaDoorPslicesContainsstringstring
import Derived.Test.YtbgclnjnngolmaaDoorPstringsJoin
import Derived.Test.YtbgclnjnngolmaaDoorEnv
namespace Go.Proofs.YtbgclnjnngolmaaDoor.P
open Go.RowKit Go.Proofs.YtbgclnjnngolmaaDoorW.PrintWords Go.Proofs.YtbgclnjnngolmaaDoorW.PrintLast Go.Proofs.YtbgclnjnngolmaaDoorW.PrintMore
attribute [local go_sem] max2_int min2_int max_two min_two max_three min_three max_four min_four
set_option linter.unusedVariables false
set_option linter.unusedSimpArgs false

/-! ### impl_CodeText: function 7 -/
def impl_CodeText.l0 : Nat → List (S37) → List ByteArray → List (S37) → Int → Int → Option (ByteArray × Bool)
 | 0, _, _, _, _, _ => none
 | k + 1, x0, x4, x8, x9, x10 => if x10 < x9 then (if 0 ≤ x10 then (if x10 < (x8.length : Int) then ((impl_InstrText.f k ((rd_T37 x8 x10).f0) ((rd_T37 x8 x10).f1) ((rd_T37 x8 x10).f2) ((rd_T37 x8 x10).f3)).bind fun t6 => (if x4.length < 8796093022208 then (impl_CodeText.l0 k x0 (x4 ++ [t6]) x8 x9 (wrap64 (x10 + 1))) else (none))) else (none)) else (none)) else (if (x0.length : Int) > 16 then (some ((⟨#[]⟩ : ByteArray), false)) else ((slices_Contains_string_string.f x4 (⟨#[]⟩ : ByteArray)).bind fun t10 => (if t10 = true then (some ((⟨#[]⟩ : ByteArray), false)) else ((strings_Join.f x4 (⟨#[59, 32]⟩ : ByteArray)).bind fun t11 => (some (t11, true))))))
def impl_CodeText.f (k : Nat) (l0 : List (S37)) : Option (ByteArray × Bool) := impl_CodeText.l0 k l0 (([] : List ByteArray)) l0 (l0.length : Int) 0
theorem impl_CodeText.mono_l : ∀ k, (∀ y0 y1 y2 y3 y4, LeO (impl_CodeText.l0 k y0 y1 y2 y3 y4) (impl_CodeText.l0 (k + 1) y0 y1 y2 y3 y4))
 | 0 => fun _ _ _ _ _ r h => by simp [impl_CodeText.l0] at h
 | k + 1 => by
  have ih0 := impl_CodeText.mono_l k
  ·intro y0 y1 y2 y3 y4
   unfold impl_CodeText.l0
   repeat' first | (with_reducible first | exact ih0 _ _ _ _ _ | exact impl_InstrText.mono _ _ _ _ _ | exact lr_ | exact ln_ | refine LeO.ite ?_ ?_ | refine LeO.bind ?_ (fun _ => ?_)) | exact ih0 _ _ _ _ _ | exact impl_InstrText.mono _ _ _ _ _ | exact ln_ | refine LeO.ite ?_ ?_ | refine LeO.bind ?_ (fun _ => ?_)
theorem impl_CodeText.mono : ∀ a0 k, LeO (impl_CodeText.f k a0) (impl_CodeText.f (k + 1) a0) := by
 intro a0 k
 have ih0 := impl_CodeText.mono_l k
 unfold impl_CodeText.f
 repeat' first | (with_reducible first | exact ih0 _ _ _ _ _ | exact impl_InstrText.mono _ _ _ _ _ | exact lr_ | exact ln_ | refine LeO.ite ?_ ?_ | refine LeO.bind ?_ (fun _ => ?_)) | exact ih0 _ _ _ _ _ | exact impl_InstrText.mono _ _ _ _ _ | exact ln_ | refine LeO.ite ?_ ?_ | refine LeO.bind ?_ (fun _ => ?_)
set_option maxHeartbeats 8000000 in
set_option maxRecDepth 100000 in
theorem impl_CodeText.calls (k : Nat) (A0 : Option Addr) (c0 : Nat) (l0 : List (S37)) (r1 : ByteArray) (r2 : Bool) (w : World) (hE_ : EnvOk false w) (hr0 : Kd.C k37 w A0 l0.length l0) (hc0 : l0.length ≤ c0) (h : impl_CodeText.f k l0 = some (r1, r2)) :
  Calls Tryd.prog 7 #[.slice A0 l0.length c0] w fun e w' => e = .returned (.tuple #[.string r1, .bool r2]) ∧ Below w.heap.size w w' := by
 have HE_ := Aside0.mk hE_
 clear hE_
 have hu37 := Tryd.underlying37
 have HR0 := Aside0.mk hr0
 have HC0 := Aside0.mk hc0
 clear hr0 hc0
 have HB := Aside0.mk (Below.refl w.heap.size w)
 have H : (impl_CodeText.l0 k l0 (([] : List ByteArray)) l0 (l0.length : Int) 0) = some (r1, r2) := h
 clear h
 obtain ⟨y1, hy1⟩ : ∃ y_ : List ByteArray, y_ = (([] : List ByteArray)) := ⟨_, rfl⟩
 replace H : (impl_CodeText.l0 k l0 y1 l0 (l0.length : Int) 0) = some (r1, r2) := by first | (rw [hy1]; with_reducible exact H) | (have H2_ := (Option.bind_some _ _).symm.trans H; rw [hy1]; with_reducible exact H2_) | (have H2_ := (Option.bind_some _ _).symm.trans H; with_reducible exact H2_) | with_reducible exact H | (rw [hy1]; exact H) | exact H
 have Ny1 := Aside0.mk hy1
 clear hy1
 have H' := Aside0.mk H
 clear H
 go_enter Tryd.func7, Tryd.ntmps7
 go_wp2_with (first | ((with_reducible refine gate_dst (N := 7) rfl ?_); refine Kd.R_lit Kd.string _ 9 ?hg (N := 7) ?hd (xs := ([] : List ByteArray)) (inner := []) (ok := fun _ => True) (okp := fun _ => True) ?hr ?hp (fun _ hk => hk) trivial (Below.refl _ _) (Nat.le_refl _) (by simp) ?_; (case hd => rfl); (case hg => rfl); (case hr => first | (go_simp; done) | (go_simp; rfl)); (case hp => exact (Reps.none _ _)); intro v2 w2 ho3 hb hg_ hnew_; clear hg_ hnew_; (first | rw [← Ny1.out] at ho3 | (simp only [Int.reduceToNat] at ho3; rw [← Ny1.out] at ho3)); have n0_ := Aside0.mk (Kd.R_lower ho3 (below_size bw_)); have n1_ := bs_ hb; clear HB; have HO3 := n0_; have HB := n1_; clear n0_ n1_; clear hb ho3))
 go_loopg [4, 10] k (fun kq v4 v10 w' => ∃ (x4_1 : List ByteArray) (x10_1 : Int), v10 = .int .i64 x10_1 ∧ Aside0 (impl_CodeText.l0 kq l0 x4_1 l0 (l0.length : Int) x10_1 = some (r1, r2)) ∧ Aside0 (kq ≤ k) ∧ Aside0 (Kd.R Kd.string 9 w' w.heap.size (fun _ => True) v4 x4_1) ∧ Aside0 (Below w.heap.size w w'))
 case atStart => exact ⟨(y1), (0), sd_, H', ⟨Nat.le_refl _⟩, ⟨by (with_reducible repeat (first | apply Kd.R_alloc | apply Kd.R_drewN | apply Kd.R_drew)); exact HO3.out⟩, ⟨bw_⟩⟩
 case round =>
  clear H'
  try clear p2
  obtain ⟨x4_1, x10_1, rfl, HA, HK1, HO_4, HB⟩ := hrel
  cases gk with
  | zero => exact absurd HA.out (by simp [impl_CodeText.l0])
  | succ k1 =>
   have H := HA.out
   clear HA
   simp only [impl_CodeText.l0] at H
   by_cases c4 : x10_1 < (l0.length : Int)
   ·rw [if_pos c4] at H
    have c4b0 : decide (x10_1 < (l0.length : Int)) = true := decide_eq_true c4
    clear c4
    by_cases c5 : 0 ≤ x10_1
    rotate_left
    ·rw [if_neg c5] at H
     exact absurd H (by simp)
    rw [if_pos c5] at H
    have c5b0 : decide (0 ≤ x10_1) = true := decide_eq_true c5
    clear c5
    by_cases c6 : x10_1 < (l0.length : Int)
    rotate_left
    ·rw [if_neg c6] at H
     exact absurd H (by simp)
    rw [if_pos c6] at H
    have c6b0 : decide (x10_1 < (l0.length : Int)) = true := decide_eq_true c6
    clear c6
    replace H := Option.bind_eq_some_iff.mp H
    obtain ⟨t6, A70, H⟩ := H
    replace H : (if x4_1.length < 8796093022208 then (impl_CodeText.l0 k1 l0 (x4_1 ++ [t6]) l0 (l0.length : Int) (wrap64 (x10_1 + 1))) else (none)) = some (r1, r2) := H
    have A7 := Aside0.mk A70
    clear A70
    by_cases c8 : x4_1.length < 8796093022208
    rotate_left
    ·rw [if_neg c8] at H
     exact absurd H (by simp)
    rw [if_pos c8] at H
    have LMc8 := Aside0.mk c8
    clear c8
    obtain ⟨y7, hy7⟩ : ∃ y_ : List ByteArray, y_ = (x4_1 ++ [t6]) := ⟨_, rfl⟩
    replace H : (impl_CodeText.l0 k1 l0 y7 l0 (l0.length : Int) (wrap64 (x10_1 + 1))) = some (r1, r2) := by first | (rw [hy7]; with_reducible exact H) | (have H2_ := (Option.bind_some _ _).symm.trans H; rw [hy7]; with_reducible exact H2_) | (have H2_ := (Option.bind_some _ _).symm.trans H; with_reducible exact H2_) | with_reducible exact H | (rw [hy7]; exact H) | exact H
    have Ny7 := Aside0.mk hy7
    clear hy7
    have H' := Aside0.mk H
    clear H
    have p4 : 0 ≤ (x10_1 : Int) := od_
    have q4 : x10_1 < (l0.length : Int) := od_
    obtain ⟨ad4, e4, hx4_0, hx4_1, hx4_2, hx4_3⟩ := at_T37 HR0.out x10_1 p4 q4
    cases e4
    replace hx4_0 := (HB.out.cell (World.block_lt_of_cell? w _ hx4_0)).trans hx4_0
    replace hx4_1 := (HB.out.cell (World.block_lt_of_cell? w _ hx4_1)).trans hx4_1
    replace hx4_2 := (HB.out.cell (World.block_lt_of_cell? w _ hx4_2)).trans hx4_2
    replace hx4_3 := (HB.out.cell (World.block_lt_of_cell? w _ hx4_3)).trans hx4_3
    replace p4 := eq_true p4
    replace q4 := eq_true q4
    go_wp2_with (first | ((with_reducible refine gate_dst (N := 6) rfl ?_); refine box_event ?hg (N := 6) ?hd (cs := #[.int .i64 0, .int .i64 0, .int .i64 0, .int .i64 0]) (t := 37) ?hr ?_; (case hd => rfl); (case hg => rfl); (case hr => exact hrr_); intro gb5 hg w9 hbox hb; have n0_ := Aside0.mk (Kd.R_below (rx_ HO_4.out) hb); have n1_ := bs_ hb; have n2_ := Aside0.mk (hbox); have n3_ := ge_ (w := w) hg; have n4_ := ge_ (w := w) hg; clear HO_4; clear HB; have HO_4 := n0_; have HB := n1_; have BK5 := n2_; have GW5 := n3_; have GE5 := n4_; clear n0_ n1_ n2_ n3_ n4_; clear hb hbox hg; obtain ⟨hcz10_0, hcz10_1, hcz10_2, hcz10_3, hfz10_0, hfz10_1, hfz10_2, hfz10_3⟩ := bc4_ BK5.out) | ((with_reducible refine gate_callee (f := 19) rfl ?_); refine goesL_ (some 16) rfl rfl Tryd.func19 (by kernel_rfl) rfl #[.agg #[.int .i64 ((rd_T37 l0 x10_1).f0), .int .i64 ((rd_T37 l0 x10_1).f1), .int .i64 ((rd_T37 l0 x10_1).f2), .int .i64 ((rd_T37 l0 x10_1).f3)]] rfl ar_ ?_; (with_reducible refine (impl_InstrText.calls (hE_ := ee_) k1 ((rd_T37 l0 x10_1).f0) ((rd_T37 l0 x10_1).f1) ((rd_T37 l0 x10_1).f2) ((rd_T37 l0 x10_1).f3) t6 _ A7.out).mono ?_); rintro e w11 ⟨rfl, hb⟩; refine ⟨_, rfl, ?_⟩; have n0_ := Aside0.mk (Kd.R_below (by (with_reducible repeat (first | apply Kd.R_alloc | apply Kd.R_drewN | apply Kd.R_drew)); exact (Kd.R_mono (Kd.R_far (p := ⟨gb5, 3, none⟩) (Kd.R_far (p := ⟨gb5, 2, none⟩) (Kd.R_far (p := ⟨gb5, 1, none⟩) (Kd.R_far (p := ⟨gb5, 0, none⟩) (Kd.R_types HO_4.out BK5.out (by decide)) (fun _ hk => hk.2) (.int .i64 ((rd_T37 l0 x10_1).f0))) (fun _ hk => hk.2) (.int .i64 ((rd_T37 l0 x10_1).f1))) (fun _ hk => hk.2) (.int .i64 ((rd_T37 l0 x10_1).f2))) (fun _ hk => hk.2) (.int .i64 ((rd_T37 l0 x10_1).f3))) (fun _ h_ => h_.1))) hb); have n1_ := Aside0.mk (blk_below (g := gb5) (o := .cells #[.int .i64 ((rd_T37 l0 x10_1).f0), .int .i64 ((rd_T37 l0 x10_1).f1), .int .i64 ((rd_T37 l0 x10_1).f2), .int .i64 ((rd_T37 l0 x10_1).f3)] 37 (0, 0)) (by (with_reducible repeat (first | refine blk_drewN ?_ _ | refine blk_drew ?_ | refine blk_alloc ?_ _)); refine blk_put (cs := #[.int .i64 ((rd_T37 l0 x10_1).f0), .int .i64 ((rd_T37 l0 x10_1).f1), .int .i64 ((rd_T37 l0 x10_1).f2), .int .i64 0]) ?_ 3 _ rfl; (with_reducible repeat (first | refine blk_drewN ?_ _ | refine blk_drew ?_ | refine blk_alloc ?_ _)); refine blk_put (cs := #[.int .i64 ((rd_T37 l0 x10_1).f0), .int .i64 ((rd_T37 l0 x10_1).f1), .int .i64 0, .int .i64 0]) ?_ 2 _ rfl; (with_reducible repeat (first | refine blk_drewN ?_ _ | refine blk_drew ?_ | refine blk_alloc ?_ _)); refine blk_put (cs := #[.int .i64 ((rd_T37 l0 x10_1).f0), .int .i64 0, .int .i64 0, .int .i64 0]) ?_ 1 _ rfl; (with_reducible repeat (first | refine blk_drewN ?_ _ | refine blk_drew ?_ | refine blk_alloc ?_ _)); refine blk_put (cs := #[.int .i64 0, .int .i64 0, .int .i64 0, .int .i64 0]) ?_ 0 _ rfl; (with_reducible repeat (first | refine blk_drewN ?_ _ | refine blk_drew ?_ | refine blk_alloc ?_ _)); exact BK5.out) hb); have n2_ := bs_ hb; clear HO_4; clear BK5; clear HB; have HO_4 := n0_; have BK5 := n1_; have HB := n2_; clear n0_ n1_ n2_; (try clear hb); (try clear hb2); (try clear hk); (try clear hi)) | ((with_reducible refine gate_builtin (b := .append) (xs := #[.tmp 14, .tmp 17]) rfl ?_); at_builtin; refine Kd.R_append Kd.string (w0 := w) w.heap.size rfl (.tmp 14) (.tmp 17) 46 9 (.string ⟨#[]⟩) 16 rfl Tryd.underlying46 info9 rfl (by decide) (by omega) u4 x4_1 t6 [.string t6] (fun _ => True) (fun _ => False) rfl rfl ?aP (fun _ hk => hk.elim) ?aF ?aO ?aB ?aS ?aL ?_; (case aP => exact rfl); (case aB => exact bw_); (case aF => exact (fun _ _ => trivial)); (case aO => exact (rx_ HO_4.out)); (case aS => exact (below_size bw_)); (case aL => have := LMc8.out; omega); intro v8 w12 ho hb hg hat; rw [← Ny7.out] at ho; have n0_ := Aside0.mk (blk_grown (g := gb5) (o := .cells #[.int .i64 ((rd_T37 l0 x10_1).f0), .int .i64 ((rd_T37 l0 x10_1).f1), .int .i64 ((rd_T37 l0 x10_1).f2), .int .i64 ((rd_T37 l0 x10_1).f3)] 37 (0, 0)) bk_ hg (Kd.R_ne HO_4.out BK5.out (by decide))); have n1_ := Aside0.mk (hb); have n2_ := Aside0.mk (ho); clear BK5; clear HB; clear HO_4; have BK5 := n0_; have HB := n1_; have HO9 := n2_; clear n0_ n1_ n2_; clear ho hb hg hat))
    go_roundg k1
    case measure => have := HK1.out; omega
    case rel => exact ⟨(y7), (wrap64 (x10_1 + 1)), sd_, H', ⟨by have := HK1.out; omega⟩, ⟨by (with_reducible repeat (first | apply Kd.R_alloc | apply Kd.R_drewN | apply Kd.R_drew)); exact HO9.out⟩, ⟨bw_⟩⟩
   rw [if_neg c4] at H
   have c4b0 : decide (x10_1 < (l0.length : Int)) = false := decide_eq_false c4
   clear c4
   by_cases c13 : (l0.length : Int) > 16
   ·rw [if_pos c13] at H
    have c13b0 : decide (16 < (l0.length : Int)) = true := decide_eq_true c13
    have c13b1 : decide (16 < l0.length) = true := decide_eq_true (by omega)
    clear c13
    simp only [Option.some.injEq, Prod.mk.injEq] at H
    obtain ⟨rfl, rfl⟩ := H
    go_wp2
    go_ret2
    exact ⟨rr_, bw_⟩
   rw [if_neg c13] at H
   have c13b0 : decide (16 < (l0.length : Int)) = false := decide_eq_false c13
   have c13b1 : decide (16 < l0.length) = false := decide_eq_false (by omega)
   clear c13
   replace H := Option.bind_eq_some_iff.mp H
   obtain ⟨t10, A140, H⟩ := H
   replace H : (if t10 = true then (some ((⟨#[]⟩ : ByteArray), false)) else ((strings_Join.f x4_1 (⟨#[59, 32]⟩ : ByteArray)).bind fun t11 => (some (t11, true)))) = some (r1, r2) := H
   have A14 := Aside0.mk A140
   clear A140
   by_cases c15 : t10 = true
   ·subst c15
    have H1 : (some ((⟨#[]⟩ : ByteArray), false)) = some (r1, r2) := by rw [if_pos rfl] at H; exact H
    clear H
    have H := H1
    clear H1
    simp only [Option.some.injEq, Prod.mk.injEq] at H
    obtain ⟨rfl, rfl⟩ := H
    obtain ⟨Ao16, co16, eo16⟩ := Kd.R_slice HO_4.out
    subst eo16
    go_wp2_with (first | (go_at_call 20; (with_reducible refine (slices_Contains_string_string.calls (hs_ := js_) _ _ x4_1 (⟨#[]⟩ : ByteArray) true _ ?side1 ?side2 A14.out).mono ?_); (case side1 => repeat (first | exact (Kd.R_reads' HO_4.out).2.2 | (with_reducible refine Kd.C_alloc ?_ _) | (with_reducible refine Kd.C_drewN ?_ _) | (with_reducible refine Kd.C_drew ?_))); (case side2 => exact (Kd.R_reads' HO_4.out).2.1); rintro e w17 ⟨rfl, hb⟩; have n0_ := Aside0.mk (Kd.R_below (rx_ HO_4.out) hb); have n1_ := bs_ hb; clear HO_4; clear HB; have HO_4 := n0_; have HB := n1_; clear n0_ n1_; (try clear hb); (try clear hb2); (try clear hk); (try clear hi)))
    go_ret2
    exact ⟨rr_, bw_⟩
   replace c15 := Bool.eq_false_iff.mpr c15
   subst c15
   have H1 : ((strings_Join.f x4_1 (⟨#[59, 32]⟩ : ByteArray)).bind fun t11 => (some (t11, true))) = some (r1, r2) := by rw [if_neg (show ¬ (false = true) by decide)] at H; exact H
   clear H
   have H := H1
   clear H1
   replace H := Option.bind_eq_some_iff.mp H
   obtain ⟨t11, A180, H⟩ := H
   replace H : (some (t11, true)) = some (r1, r2) := H
   have A18 := Aside0.mk A180
   clear A180
   simp only [Option.some.injEq, Prod.mk.injEq] at H
   obtain ⟨rfl, rfl⟩ := H
   obtain ⟨Ao19, co19, eo19⟩ := Kd.R_slice HO_4.out
   subst eo19
   go_wp2_with (first | (go_at_call 20; (with_reducible refine (slices_Contains_string_string.calls (hs_ := js_) _ _ x4_1 (⟨#[]⟩ : ByteArray) false _ ?side1 ?side2 A14.out).mono ?_); (case side1 => repeat (first | exact (Kd.R_reads' HO_4.out).2.2 | (with_reducible refine Kd.C_alloc ?_ _) | (with_reducible refine Kd.C_drewN ?_ _) | (with_reducible refine Kd.C_drew ?_))); (case side2 => exact (Kd.R_reads' HO_4.out).2.1); rintro e w20 ⟨rfl, hb⟩; have n0_ := Aside0.mk (Kd.R_below (rx_ HO_4.out) hb); have n1_ := bs_ hb; clear HO_4; clear HB; have HO_4 := n0_; have HB := n1_; clear n0_ n1_; (try clear hb); (try clear hb2); (try clear hk); (try clear hi)) | ((with_reducible refine gate_callee (f := 21) rfl ?_); refine goesL_ (some 28) rfl rfl Tryd.func21 (by kernel_rfl) rfl #[.slice Ao19 x4_1.length co19, .string (⟨#[59, 32]⟩ : ByteArray)] rfl ar_ ?_; (with_reducible refine (strings_Join.calls (hs_ := js_) _ _ x4_1 (⟨#[59, 32]⟩ : ByteArray) t11 _ ?side1 ?side2 A18.out).mono ?_); (case side1 => repeat (first | exact (Kd.R_reads' HO_4.out).2.2 | (with_reducible refine Kd.C_alloc ?_ _) | (with_reducible refine Kd.C_drewN ?_ _) | (with_reducible refine Kd.C_drew ?_))); (case side2 => exact (Kd.R_reads' HO_4.out).2.1); rintro e w21 ⟨rfl, hb⟩; refine ⟨_, rfl, ?_⟩; have n0_ := Aside0.mk (Kd.R_below (rx_ HO_4.out) hb); have n1_ := bs_ hb; clear HO_4; clear HB; have HO_4 := n0_; have HB := n1_; clear n0_ n1_; (try clear hb); (try clear hb2); (try clear hk); (try clear hi)))
   go_ret2
   exact ⟨rr_, bw_⟩

end Go.Proofs.YtbgclnjnngolmaaDoor.P
