-- Written by mp.py (the session's own driver over the kit's printer) for the seat YtchpopocnaoabaaDoor.
import Derived.Test.YtchpopocnaoabaaDoorK
import Derived.Test.YtchpopocnaoabaaDoorE
import Derived.Test.YtchpopocnaoabaaDoorPspecl01In
import Derived.Test.YtchpopocnaoabaaDoorPspecl01Num
import Derived.Test.YtchpopocnaoabaaDoorPspecl02Form
import Derived.Test.YtchpopocnaoabaaDoorPspecl02Word
namespace Go.Proofs.YtchpopocnaoabaaDoor.P
open Go.RowKit Go.Proofs.YtchpopocnaoabaaDoorW.PrintWords Go.Proofs.YtchpopocnaoabaaDoorW.PrintLast Go.Proofs.YtchpopocnaoabaaDoorW.PrintMore
attribute [local go_sem] max2_int min2_int max_two min_two max_three min_three max_four min_four
set_option linter.unusedVariables false
set_option linter.unusedSimpArgs false

/-! ### spec_InstrText: function 29 -/
def spec_InstrText.l0 : Nat → ByteArray → ByteArray → Int → Int → Int → Int → Int → Option (ByteArray)
 | 0, _, _, _, _, _, _, _ => none
 | k + 1, x3, x4, x5, x2000, x2001, x2002, x2003 => if x5 < (x4.size : Int) then (if 0 ≤ x5 then (if (bt x4 x5) = 114 then (if x3.size + 1 ≤ 9223372036854775807 then ((spec_l01Num.f k x2001).bind fun t5 => (if (x3 ++ (⟨#[32]⟩ : ByteArray)).size + t5.size ≤ 9223372036854775807 then (spec_InstrText.l0 k ((x3 ++ (⟨#[32]⟩ : ByteArray)) ++ t5) x4 (wrap64 (x5 + 1)) x2000 x2001 x2002 x2003) else (none))) else (none)) else (if (bt x4 x5) = 115 then (if x3.size + 1 ≤ 9223372036854775807 then ((spec_l01Num.f k x2002).bind fun t6 => (if (x3 ++ (⟨#[32]⟩ : ByteArray)).size + t6.size ≤ 9223372036854775807 then (spec_InstrText.l0 k ((x3 ++ (⟨#[32]⟩ : ByteArray)) ++ t6) x4 (wrap64 (x5 + 1)) x2000 x2001 x2002 x2003) else (none))) else (none)) else (if (bt x4 x5) = 110 then (if x3.size + 1 ≤ 9223372036854775807 then ((spec_l01Num.f k x2003).bind fun t7 => (if (x3 ++ (⟨#[32]⟩ : ByteArray)).size + t7.size ≤ 9223372036854775807 then (spec_InstrText.l0 k ((x3 ++ (⟨#[32]⟩ : ByteArray)) ++ t7) x4 (wrap64 (x5 + 1)) x2000 x2001 x2002 x2003) else (none))) else (none)) else (spec_InstrText.l0 k x3 x4 (wrap64 (x5 + 1)) x2000 x2001 x2002 x2003)))) else (none)) else (some x3)
def spec_InstrText.f (k : Nat) (a0_0 : Int) (a0_1 : Int) (a0_2 : Int) (a0_3 : Int) : Option (ByteArray) := (spec_l01In.f a0_0 0 8).bind fun t2 => (if t2 = true then ((spec_l02Word.f a0_0).bind fun t3 => ((spec_l02Form.f a0_0).bind fun t4 => (spec_InstrText.l0 k t3 t4 0 a0_0 a0_1 a0_2 a0_3))) else (some (⟨#[]⟩ : ByteArray)))
theorem spec_InstrText.mono_l : ∀ k, (∀ y0 y1 y2 y3 y4 y5 y6, LeO (spec_InstrText.l0 k y0 y1 y2 y3 y4 y5 y6) (spec_InstrText.l0 (k + 1) y0 y1 y2 y3 y4 y5 y6))
 | 0 => fun _ _ _ _ _ _ _ r h => by simp [spec_InstrText.l0] at h
 | k + 1 => by
  have ih0 := spec_InstrText.mono_l k
  ·intro y0 y1 y2 y3 y4 y5 y6
   unfold spec_InstrText.l0
   repeat' first | (with_reducible first | exact ih0 _ _ _ _ _ _ _ | exact spec_l01Num.mono _ _ | exact lr_ | exact ln_ | refine LeO.ite ?_ ?_ | refine LeO.bind ?_ (fun _ => ?_)) | exact ih0 _ _ _ _ _ _ _ | exact spec_l01Num.mono _ _ | exact ln_ | refine LeO.ite ?_ ?_ | refine LeO.bind ?_ (fun _ => ?_)
theorem spec_InstrText.mono : ∀ a0 a1 a2 a3 k, LeO (spec_InstrText.f k a0 a1 a2 a3) (spec_InstrText.f (k + 1) a0 a1 a2 a3) := by
 intro a0 a1 a2 a3 k
 have ih0 := spec_InstrText.mono_l k
 unfold spec_InstrText.f
 repeat' first | (with_reducible first | exact ih0 _ _ _ _ _ _ _ | exact spec_l01Num.mono _ _ | exact lr_ | exact ln_ | refine LeO.ite ?_ ?_ | refine LeO.bind ?_ (fun _ => ?_)) | exact ih0 _ _ _ _ _ _ _ | exact spec_l01Num.mono _ _ | exact ln_ | refine LeO.ite ?_ ?_ | refine LeO.bind ?_ (fun _ => ?_)
set_option maxHeartbeats 8000000 in
set_option maxRecDepth 100000 in
theorem spec_InstrText.calls (k : Nat) (a0_0 : Int) (a0_1 : Int) (a0_2 : Int) (a0_3 : Int) (r : ByteArray) (w : World) (h : spec_InstrText.f k a0_0 a0_1 a0_2 a0_3 = some r) :
  Calls Tryd.prog 29 #[.agg #[.int .i64 a0_0, .int .i64 a0_1, .int .i64 a0_2, .int .i64 a0_3]] w fun e w' => e = .returned (.string r) ∧ Below w.heap.size w w' := by
 have hu37 := Tryd.underlying37
 have HB := Aside0.mk (Below.refl w.heap.size w)
 have H : ((spec_l01In.f a0_0 0 8).bind fun t2 => (if t2 = true then ((spec_l02Word.f a0_0).bind fun t3 => ((spec_l02Form.f a0_0).bind fun t4 => (spec_InstrText.l0 k t3 t4 0 a0_0 a0_1 a0_2 a0_3))) else (some (⟨#[]⟩ : ByteArray)))) = some r := h
 clear h
 replace H := Option.bind_eq_some_iff.mp H
 obtain ⟨t2, A20, H⟩ := H
 replace H : (if t2 = true then ((spec_l02Word.f a0_0).bind fun t3 => ((spec_l02Form.f a0_0).bind fun t4 => (spec_InstrText.l0 k t3 t4 0 a0_0 a0_1 a0_2 a0_3))) else (some (⟨#[]⟩ : ByteArray))) = some r := H
 have A2 := Aside0.mk A20
 clear A20
 by_cases c3 : t2 = true
 rotate_left
 ·replace c3 := Bool.eq_false_iff.mpr c3
  subst c3
  have H1 : (some (⟨#[]⟩ : ByteArray)) = some r := by rw [if_neg (show ¬ (false = true) by decide)] at H; exact H
  clear H
  have H := H1
  clear H1
  obtain rfl := Option.some.inj H
  go_enter Tryd.func29, Tryd.ntmps29
  go_wp2_with (first | ((with_reducible refine gate_dst (N := 1) rfl ?_); refine box_event ?hg (N := 1) ?hd (cs := #[.int .i64 a0_0, .int .i64 a0_1, .int .i64 a0_2, .int .i64 a0_3]) (t := 37) ?hr ?_; (case hd => rfl); (case hg => rfl); (case hr => exact hrr_); intro gb1 hg w32 hbox hb; have n0_ := bs_ hb; have n1_ := Aside0.mk (hbox); have n2_ := ge_ (w := w) hg; have n3_ := ge_ (w := w) hg; clear HB; have HB := n0_; have BK1 := n1_; have GW1 := n2_; have GE1 := n3_; clear n0_ n1_ n2_ n3_; clear hb hbox hg; obtain ⟨hcz33_0, hcz33_1, hcz33_2, hcz33_3, hfz33_0, hfz33_1, hfz33_2, hfz33_3⟩ := bc4_ BK1.out) | ((with_reducible refine gate_callee (f := 75) rfl ?_); refine goesL_ (some 8) rfl rfl Tryd.func75 (by kernel_rfl) rfl #[.int .i64 a0_0, .int .i64 0, .int .i64 8] rfl ar_ ?_; (with_reducible refine (spec_l01In.calls a0_0 0 8 false _ A2.out).mono ?_); rintro e w' ⟨rfl, ⟨nd, rfl⟩⟩; refine ⟨_, rfl, ?_⟩))
  go_ret
  exact ⟨rr_, bw_⟩
 subst c3
 have H1 : ((spec_l02Word.f a0_0).bind fun t3 => ((spec_l02Form.f a0_0).bind fun t4 => (spec_InstrText.l0 k t3 t4 0 a0_0 a0_1 a0_2 a0_3))) = some r := by rw [if_pos rfl] at H; exact H
 clear H
 have H := H1
 clear H1
 replace H := Option.bind_eq_some_iff.mp H
 obtain ⟨t3, A40, H⟩ := H
 replace H : ((spec_l02Form.f a0_0).bind fun t4 => (spec_InstrText.l0 k t3 t4 0 a0_0 a0_1 a0_2 a0_3)) = some r := H
 have A4 := Aside0.mk A40
 clear A40
 replace H := Option.bind_eq_some_iff.mp H
 obtain ⟨t4, A50, H⟩ := H
 replace H : (spec_InstrText.l0 k t3 t4 0 a0_0 a0_1 a0_2 a0_3) = some r := H
 have A5 := Aside0.mk A50
 clear A50
 have H' := Aside0.mk H
 clear H
 go_enter Tryd.func29, Tryd.ntmps29
 go_wp2_with (first | ((with_reducible refine gate_dst (N := 1) rfl ?_); refine box_event ?hg (N := 1) ?hd (cs := #[.int .i64 a0_0, .int .i64 a0_1, .int .i64 a0_2, .int .i64 a0_3]) (t := 37) ?hr ?_; (case hd => rfl); (case hg => rfl); (case hr => exact hrr_); intro gb1 hg w6 hbox hb; have n0_ := bs_ hb; have n1_ := Aside0.mk (hbox); have n2_ := ge_ (w := w) hg; have n3_ := ge_ (w := w) hg; clear HB; have HB := n0_; have BK1 := n1_; have GW1 := n2_; have GE1 := n3_; clear n0_ n1_ n2_ n3_; clear hb hbox hg; obtain ⟨hcz7_0, hcz7_1, hcz7_2, hcz7_3, hfz7_0, hfz7_1, hfz7_2, hfz7_3⟩ := bc4_ BK1.out) | ((with_reducible refine gate_callee (f := 75) rfl ?_); refine goesL_ (some 8) rfl rfl Tryd.func75 (by kernel_rfl) rfl #[.int .i64 a0_0, .int .i64 0, .int .i64 8] rfl ar_ ?_; (with_reducible refine (spec_l01In.calls a0_0 0 8 true _ A2.out).mono ?_); rintro e w' ⟨rfl, ⟨nd, rfl⟩⟩; refine ⟨_, rfl, ?_⟩) | ((with_reducible refine gate_callee (f := 87) rfl ?_); refine goesL_ (some 12) rfl rfl Tryd.func87 (by kernel_rfl) rfl #[.int .i64 a0_0] rfl ar_ ?_; (with_reducible refine (spec_l02Word.calls a0_0 t3 _ A4.out).mono ?_); rintro e w8 ⟨rfl, hb⟩; refine ⟨_, rfl, ?_⟩; have n0_ := bb_ BK1.out hb; have n1_ := bs_ hb; clear BK1; clear HB; have BK1 := n0_; have HB := n1_; clear n0_ n1_; (try clear hb); (try clear hb2); (try clear hk); (try clear hi); obtain ⟨hcz9_0, hcz9_1, hcz9_2, hcz9_3, hfz9_0, hfz9_1, hfz9_2, hfz9_3⟩ := bc4_ BK1.out) | ((with_reducible refine gate_callee (f := 88) rfl ?_); refine goesL_ (some 15) rfl rfl Tryd.func88 (by kernel_rfl) rfl #[.int .i64 a0_0] rfl ar_ ?_; (with_reducible refine (spec_l02Form.calls a0_0 t4 _ A5.out).mono ?_); rintro e w10 ⟨rfl, hb⟩; refine ⟨_, rfl, ?_⟩; have n0_ := bb_ BK1.out hb; have n1_ := bs_ hb; clear BK1; clear HB; have BK1 := n0_; have HB := n1_; clear n0_ n1_; (try clear hb); (try clear hb2); (try clear hk); (try clear hi)))
 go_loopg [3, 5] k (fun kq v3 v5 w' => ∃ (x3_1 : ByteArray) (x5_1 : Int), v3 = .string x3_1 ∧ v5 = .int .i64 x5_1 ∧ Aside0 (spec_InstrText.l0 kq x3_1 t4 x5_1 a0_0 a0_1 a0_2 a0_3 = some r) ∧ Aside0 (kq ≤ k) ∧ Aside0 (w'.heap[gb1]? = some (.cells #[.int .i64 a0_0, .int .i64 a0_1, .int .i64 a0_2, .int .i64 a0_3] 37 (0, 0))) ∧ Aside0 (Below w.heap.size w w'))
 case atStart => exact ⟨(t3), (0), sd_, sd_, H', ⟨Nat.le_refl _⟩, ⟨bk_⟩, ⟨bw_⟩⟩
 case round =>
  clear H'
  try clear c2
  try clear p2
  try clear c3
  try clear c7
  try clear c8
  try clear hcz7_0 hcz7_1 hcz7_2 hcz7_3
  try clear hcz9_0 hcz9_1 hcz9_2 hcz9_3
  try clear hfz7_0 hfz7_1 hfz7_2 hfz7_3
  try clear hfz9_0 hfz9_1 hfz9_2 hfz9_3
  obtain ⟨x3_1, x5_1, rfl, rfl, HA, HK1, BK1, HB⟩ := hrel
  cases gk with
  | zero => exact absurd HA.out (by simp [spec_InstrText.l0])
  | succ k1 =>
   have H := HA.out
   clear HA
   simp only [spec_InstrText.l0] at H
   by_cases c11 : x5_1 < (t4.size : Int)
   rotate_left
   ·rw [if_neg c11] at H
    have c11b0 : decide (x5_1 < (t4.size : Int)) = false := decide_eq_false c11
    clear c11
    obtain rfl := Option.some.inj H
    go_wp2
    go_ret
    exact ⟨rr_, bw_⟩
   rw [if_pos c11] at H
   have c11b0 : decide (x5_1 < (t4.size : Int)) = true := decide_eq_true c11
   clear c11
   by_cases c12 : 0 ≤ x5_1
   rotate_left
   ·rw [if_neg c12] at H
    exact absurd H (by simp)
   rw [if_pos c12] at H
   have c12b0 : decide (0 ≤ x5_1) = true := decide_eq_true c12
   clear c12
   by_cases c14 : (bt t4 x5_1) = 114
   ·rw [if_pos c14] at H
    have c14b0 : ((bt t4 x5_1) == 114) = true := beq_iff_eq.mpr c14
    have c14b1 : ((bt t4 x5_1) != 114) = false := bne_eq_false_iff_eq.mpr c14
    clear c14
    by_cases c15 : x3_1.size + 1 ≤ 9223372036854775807
    rotate_left
    ·rw [if_neg c15] at H
     exact absurd H (by simp)
    rw [if_pos c15] at H
    have c15b0 := eq_true c15
    have c15b1 : decide (x3_1.size + 1 ≤ 9223372036854775807) = true := decide_eq_true c15
    try have c15b2 : (9223372036854775807 < x3_1.size + 1) = False := eq_false (Nat.not_lt.2 c15)
    replace H := Option.bind_eq_some_iff.mp H
    obtain ⟨t5, A160, H⟩ := H
    replace H : (if (x3_1 ++ (⟨#[32]⟩ : ByteArray)).size + t5.size ≤ 9223372036854775807 then (spec_InstrText.l0 k1 ((x3_1 ++ (⟨#[32]⟩ : ByteArray)) ++ t5) t4 (wrap64 (x5_1 + 1)) a0_0 a0_1 a0_2 a0_3) else (none)) = some r := H
    have A16 := Aside0.mk A160
    clear A160
    by_cases c17 : (x3_1 ++ (⟨#[32]⟩ : ByteArray)).size + t5.size ≤ 9223372036854775807
    rotate_left
    ·rw [if_neg c17] at H
     exact absurd H (by simp)
    rw [if_pos c17] at H
    have c17b0 := eq_true c17
    have c17z0 := eq_true (show (x3_1.size + 1) + t5.size ≤ 9223372036854775807 by have h_ := c17; simp only [ByteArray.size_append] at h_; exact h_)
    have c17z2 : (9223372036854775807 < (x3_1.size + 1) + t5.size) = False := eq_false (Nat.not_lt.2 (show (x3_1.size + 1) + t5.size ≤ 9223372036854775807 by have h_ := c17; simp only [ByteArray.size_append] at h_; exact h_))
    have c17b1 : decide ((x3_1 ++ (⟨#[32]⟩ : ByteArray)).size + t5.size ≤ 9223372036854775807) = true := decide_eq_true c17
    try have c17b2 : (9223372036854775807 < (x3_1 ++ (⟨#[32]⟩ : ByteArray)).size + t5.size) = False := eq_false (Nat.not_lt.2 c17)
    have H' := Aside0.mk H
    clear H
    have p13 : 0 ≤ (x5_1 : Int) := od_
    have q13 : x5_1 < (t4.size : Int) := od_
    have hx13 := bt_at t4 x5_1
    replace p13 := eq_true p13
    replace q13 := eq_true q13
    obtain ⟨hcz18_0, hcz18_1, hcz18_2, hcz18_3, hfz18_0, hfz18_1, hfz18_2, hfz18_3⟩ := bc4_ BK1.out
    go_wp2_with (first | ((with_reducible refine gate_callee (f := 89) rfl ?_); refine goesL_ (some 31) rfl rfl Tryd.func89 (by kernel_rfl) rfl #[.int .i64 a0_1] rfl ar_ ?_; (with_reducible refine (spec_l01Num.calls k1 a0_1 t5 _ A16.out).mono ?_); rintro e w19 ⟨rfl, hb⟩; refine ⟨_, rfl, ?_⟩; have n0_ := bb_ BK1.out hb; have n1_ := bs_ hb; clear BK1; clear HB; have BK1 := n0_; have HB := n1_; clear n0_ n1_; (try clear hb); (try clear hb2); (try clear hk); (try clear hi)))
    go_roundg k1
    case measure => have := HK1.out; omega
    case rel => exact ⟨((x3_1 ++ (⟨#[32]⟩ : ByteArray)) ++ t5), (wrap64 (x5_1 + 1)), sd_, sd_, H', ⟨by have := HK1.out; omega⟩, ⟨bk_⟩, ⟨bw_⟩⟩
   rw [if_neg c14] at H
   have c14b0 : ((bt t4 x5_1) == 114) = false := beq_eq_false_iff_ne.mpr c14
   have c14b1 : ((bt t4 x5_1) != 114) = true := bne_iff_ne.mpr c14
   by_cases c20 : (bt t4 x5_1) = 115
   ·rw [if_pos c20] at H
    have c20b0 : ((bt t4 x5_1) == 115) = true := beq_iff_eq.mpr c20
    have c20b1 : ((bt t4 x5_1) != 115) = false := bne_eq_false_iff_eq.mpr c20
    clear c20
    by_cases c21 : x3_1.size + 1 ≤ 9223372036854775807
    rotate_left
    ·rw [if_neg c21] at H
     exact absurd H (by simp)
    rw [if_pos c21] at H
    have c21b0 := eq_true c21
    have c21b1 : decide (x3_1.size + 1 ≤ 9223372036854775807) = true := decide_eq_true c21
    try have c21b2 : (9223372036854775807 < x3_1.size + 1) = False := eq_false (Nat.not_lt.2 c21)
    replace H := Option.bind_eq_some_iff.mp H
    obtain ⟨t6, A220, H⟩ := H
    replace H : (if (x3_1 ++ (⟨#[32]⟩ : ByteArray)).size + t6.size ≤ 9223372036854775807 then (spec_InstrText.l0 k1 ((x3_1 ++ (⟨#[32]⟩ : ByteArray)) ++ t6) t4 (wrap64 (x5_1 + 1)) a0_0 a0_1 a0_2 a0_3) else (none)) = some r := H
    have A22 := Aside0.mk A220
    clear A220
    by_cases c23 : (x3_1 ++ (⟨#[32]⟩ : ByteArray)).size + t6.size ≤ 9223372036854775807
    rotate_left
    ·rw [if_neg c23] at H
     exact absurd H (by simp)
    rw [if_pos c23] at H
    have c23b0 := eq_true c23
    have c23z0 := eq_true (show (x3_1.size + 1) + t6.size ≤ 9223372036854775807 by have h_ := c23; simp only [ByteArray.size_append] at h_; exact h_)
    have c23z2 : (9223372036854775807 < (x3_1.size + 1) + t6.size) = False := eq_false (Nat.not_lt.2 (show (x3_1.size + 1) + t6.size ≤ 9223372036854775807 by have h_ := c23; simp only [ByteArray.size_append] at h_; exact h_))
    have c23b1 : decide ((x3_1 ++ (⟨#[32]⟩ : ByteArray)).size + t6.size ≤ 9223372036854775807) = true := decide_eq_true c23
    try have c23b2 : (9223372036854775807 < (x3_1 ++ (⟨#[32]⟩ : ByteArray)).size + t6.size) = False := eq_false (Nat.not_lt.2 c23)
    have H' := Aside0.mk H
    clear H
    have p13 : 0 ≤ (x5_1 : Int) := od_
    have q13 : x5_1 < (t4.size : Int) := od_
    have hx13 := bt_at t4 x5_1
    replace p13 := eq_true p13
    replace q13 := eq_true q13
    obtain ⟨hcz24_0, hcz24_1, hcz24_2, hcz24_3, hfz24_0, hfz24_1, hfz24_2, hfz24_3⟩ := bc4_ BK1.out
    go_wp2_with (first | ((with_reducible refine gate_callee (f := 89) rfl ?_); refine goesL_ (some 39) rfl rfl Tryd.func89 (by kernel_rfl) rfl #[.int .i64 a0_2] rfl ar_ ?_; (with_reducible refine (spec_l01Num.calls k1 a0_2 t6 _ A22.out).mono ?_); rintro e w25 ⟨rfl, hb⟩; refine ⟨_, rfl, ?_⟩; have n0_ := bb_ BK1.out hb; have n1_ := bs_ hb; clear BK1; clear HB; have BK1 := n0_; have HB := n1_; clear n0_ n1_; (try clear hb); (try clear hb2); (try clear hk); (try clear hi)))
    go_roundg k1
    case measure => have := HK1.out; omega
    case rel => exact ⟨((x3_1 ++ (⟨#[32]⟩ : ByteArray)) ++ t6), (wrap64 (x5_1 + 1)), sd_, sd_, H', ⟨by have := HK1.out; omega⟩, ⟨bk_⟩, ⟨bw_⟩⟩
   rw [if_neg c20] at H
   have c20b0 : ((bt t4 x5_1) == 115) = false := beq_eq_false_iff_ne.mpr c20
   have c20b1 : ((bt t4 x5_1) != 115) = true := bne_iff_ne.mpr c20
   by_cases c26 : (bt t4 x5_1) = 110
   rotate_left
   ·rw [if_neg c26] at H
    have c26b0 : ((bt t4 x5_1) == 110) = false := beq_eq_false_iff_ne.mpr c26
    have c26b1 : ((bt t4 x5_1) != 110) = true := bne_iff_ne.mpr c26
    have H' := Aside0.mk H
    clear H
    have p13 : 0 ≤ (x5_1 : Int) := od_
    have q13 : x5_1 < (t4.size : Int) := od_
    have hx13 := bt_at t4 x5_1
    replace p13 := eq_true p13
    replace q13 := eq_true q13
    go_wp2
    go_roundg k1
    case measure => have := HK1.out; omega
    case rel => exact ⟨(x3_1), (wrap64 (x5_1 + 1)), sd_, sd_, H', ⟨by have := HK1.out; omega⟩, ⟨bk_⟩, ⟨bw_⟩⟩
   rw [if_pos c26] at H
   have c26b0 : ((bt t4 x5_1) == 110) = true := beq_iff_eq.mpr c26
   have c26b1 : ((bt t4 x5_1) != 110) = false := bne_eq_false_iff_eq.mpr c26
   clear c26
   by_cases c27 : x3_1.size + 1 ≤ 9223372036854775807
   rotate_left
   ·rw [if_neg c27] at H
    exact absurd H (by simp)
   rw [if_pos c27] at H
   have c27b0 := eq_true c27
   have c27b1 : decide (x3_1.size + 1 ≤ 9223372036854775807) = true := decide_eq_true c27
   try have c27b2 : (9223372036854775807 < x3_1.size + 1) = False := eq_false (Nat.not_lt.2 c27)
   replace H := Option.bind_eq_some_iff.mp H
   obtain ⟨t7, A280, H⟩ := H
   replace H : (if (x3_1 ++ (⟨#[32]⟩ : ByteArray)).size + t7.size ≤ 9223372036854775807 then (spec_InstrText.l0 k1 ((x3_1 ++ (⟨#[32]⟩ : ByteArray)) ++ t7) t4 (wrap64 (x5_1 + 1)) a0_0 a0_1 a0_2 a0_3) else (none)) = some r := H
   have A28 := Aside0.mk A280
   clear A280
   by_cases c29 : (x3_1 ++ (⟨#[32]⟩ : ByteArray)).size + t7.size ≤ 9223372036854775807
   rotate_left
   ·rw [if_neg c29] at H
    exact absurd H (by simp)
   rw [if_pos c29] at H
   have c29b0 := eq_true c29
   have c29z0 := eq_true (show (x3_1.size + 1) + t7.size ≤ 9223372036854775807 by have h_ := c29; simp only [ByteArray.size_append] at h_; exact h_)
   have c29z2 : (9223372036854775807 < (x3_1.size + 1) + t7.size) = False := eq_false (Nat.not_lt.2 (show (x3_1.size + 1) + t7.size ≤ 9223372036854775807 by have h_ := c29; simp only [ByteArray.size_append] at h_; exact h_))
   have c29b1 : decide ((x3_1 ++ (⟨#[32]⟩ : ByteArray)).size + t7.size ≤ 9223372036854775807) = true := decide_eq_true c29
   try have c29b2 : (9223372036854775807 < (x3_1 ++ (⟨#[32]⟩ : ByteArray)).size + t7.size) = False := eq_false (Nat.not_lt.2 c29)
   have H' := Aside0.mk H
   clear H
   have p13 : 0 ≤ (x5_1 : Int) := od_
   have q13 : x5_1 < (t4.size : Int) := od_
   have hx13 := bt_at t4 x5_1
   replace p13 := eq_true p13
   replace q13 := eq_true q13
   obtain ⟨hcz30_0, hcz30_1, hcz30_2, hcz30_3, hfz30_0, hfz30_1, hfz30_2, hfz30_3⟩ := bc4_ BK1.out
   go_wp2_with (first | ((with_reducible refine gate_callee (f := 89) rfl ?_); refine goesL_ (some 47) rfl rfl Tryd.func89 (by kernel_rfl) rfl #[.int .i64 a0_3] rfl ar_ ?_; (with_reducible refine (spec_l01Num.calls k1 a0_3 t7 _ A28.out).mono ?_); rintro e w31 ⟨rfl, hb⟩; refine ⟨_, rfl, ?_⟩; have n0_ := bb_ BK1.out hb; have n1_ := bs_ hb; clear BK1; clear HB; have BK1 := n0_; have HB := n1_; clear n0_ n1_; (try clear hb); (try clear hb2); (try clear hk); (try clear hi)))
   go_roundg k1
   case measure => have := HK1.out; omega
   case rel => exact ⟨((x3_1 ++ (⟨#[32]⟩ : ByteArray)) ++ t7), (wrap64 (x5_1 + 1)), sd_, sd_, H', ⟨by have := HK1.out; omega⟩, ⟨bk_⟩, ⟨bw_⟩⟩

/-! ### laws_toInstr: function 30 -/
def laws_toInstr.f (a0_0 : Int) (a0_1 : Int) (a0_2 : Int) (a0_3 : Int) : Option (Int × Int × Int × Int) := some (a0_0, a0_1, a0_2, a0_3)
set_option maxHeartbeats 8000000 in
set_option maxRecDepth 100000 in
theorem laws_toInstr.calls (a0_0 : Int) (a0_1 : Int) (a0_2 : Int) (a0_3 : Int) (r1 : Int) (r2 : Int) (r3 : Int) (r4 : Int) (w : World) (h : laws_toInstr.f a0_0 a0_1 a0_2 a0_3 = some (r1, r2, r3, r4)) :
  Calls Tryd.prog 30 #[.agg #[.int .i64 a0_0, .int .i64 a0_1, .int .i64 a0_2, .int .i64 a0_3]] w fun e w' => e = .returned (.agg #[.int .i64 r1, .int .i64 r2, .int .i64 r3, .int .i64 r4]) ∧ Below w.heap.size w w' := by
 have hu44 := Tryd.underlying44
 have hu37 := Tryd.underlying37
 have HB := Aside0.mk (Below.refl w.heap.size w)
 have H : (some (a0_0, a0_1, a0_2, a0_3)) = some (r1, r2, r3, r4) := h
 clear h
 simp only [Option.some.injEq, Prod.mk.injEq] at H
 obtain ⟨rfl, rfl, rfl, rfl⟩ := H
 go_enter Tryd.func30, Tryd.ntmps30
 go_wp2_with (first | ((with_reducible refine gate_dst (N := 1) rfl ?_); refine box_event ?hg (N := 1) ?hd (cs := #[.int .i64 a0_0, .int .i64 a0_1, .int .i64 a0_2, .int .i64 a0_3]) (t := 44) ?hr ?_; (case hd => rfl); (case hg => rfl); (case hr => exact hrr_); intro gb1 hg w2 hbox hb; have n0_ := bs_ hb; have n1_ := Aside0.mk (hbox); have n2_ := ge_ (w := w) hg; have n3_ := ge_ (w := w) hg; clear HB; have HB := n0_; have BK1 := n1_; have GW1 := n2_; have GE1 := n3_; clear n0_ n1_ n2_ n3_; clear hb hbox hg) | ((with_reducible refine gate_dst (N := 2) rfl ?_); refine box_event ?hg (N := 2) ?hd (cs := #[.int .i64 0, .int .i64 0, .int .i64 0, .int .i64 0]) (t := 37) ?hr ?_; (case hd => rfl); (case hg => rfl); (case hr => exact hrr_); intro gb2 hg w3 hbox hb; have n0_ := bb_ BK1.out hb; have n1_ := bs_ hb; have n2_ := Aside0.mk (hbox); have n3_ := ge_ (w := w) hg; have n4_ := ge_ (w := w) hg; have n5_ := nl_ BK1.out hg; have n6_ := nr_ BK1.out hg; clear BK1; clear HB; have BK1 := n0_; have HB := n1_; have BK2 := n2_; have GW2 := n3_; have GE2 := n4_; have NB1_2 := n5_; have NB2_1 := n6_; clear n0_ n1_ n2_ n3_ n4_ n5_ n6_; clear hb hbox hg) | ((with_reducible refine gate_dst (N := 3) rfl ?_); refine box_event ?hg (N := 3) ?hd (cs := #[.int .i64 0, .int .i64 0, .int .i64 0, .int .i64 0]) (t := 37) ?hr ?_; (case hd => rfl); (case hg => rfl); (case hr => exact hrr_); intro gb3 hg w4 hbox hb; have n0_ := bb_ BK1.out hb; have n1_ := bb_ BK2.out hb; have n2_ := bs_ hb; have n3_ := Aside0.mk (hbox); have n4_ := ge_ (w := w) hg; have n5_ := ge_ (w := w) hg; have n6_ := nl_ BK1.out hg; have n7_ := nr_ BK1.out hg; have n8_ := nl_ BK2.out hg; have n9_ := nr_ BK2.out hg; clear BK1; clear BK2; clear HB; have BK1 := n0_; have BK2 := n1_; have HB := n2_; have BK3 := n3_; have GW3 := n4_; have GE3 := n5_; have NB1_3 := n6_; have NB3_1 := n7_; have NB2_3 := n8_; have NB3_2 := n9_; clear n0_ n1_ n2_ n3_ n4_ n5_ n6_ n7_ n8_ n9_; clear hb hbox hg; have hnb5 := NB1_2.out; have hnc5 := NB2_1.out; have hnb6 := NB1_3.out; have hnc6 := NB3_1.out; obtain ⟨hcz7_0, hcz7_1, hcz7_2, hcz7_3, hfz7_0, hfz7_1, hfz7_2, hfz7_3⟩ := bc4_ BK1.out; have hnb8 := NB3_2.out; have hnc8 := NB2_3.out; obtain ⟨hcz9_0, hcz9_1, hcz9_2, hcz9_3, hfz9_0, hfz9_1, hfz9_2, hfz9_3⟩ := bc4_ BK3.out; obtain ⟨hcz10_0, hcz10_1, hcz10_2, hcz10_3, hfz10_0, hfz10_1, hfz10_2, hfz10_3⟩ := bc4_ BK2.out))
 refine bodyPost_ret (results_cell_row rfl _ _ gb2 37 #[.int .i64 a0_0, .int .i64 a0_1, .int .i64 a0_2, .int .i64 a0_3] (0, 0) _ rfl (by (with_reducible repeat (first | refine blk_drewN ?_ _ | refine blk_drew ?_ | refine blk_alloc ?_ _)); refine blk_put (cs := #[.int .i64 a0_0, .int .i64 a0_1, .int .i64 a0_2, .int .i64 0]) ?_ 3 _ rfl; (with_reducible repeat (first | refine blk_drewN ?_ _ | refine blk_drew ?_ | refine blk_alloc ?_ _)); refine blk_put (cs := #[.int .i64 a0_0, .int .i64 a0_1, .int .i64 0, .int .i64 0]) ?_ 2 _ rfl; (with_reducible repeat (first | refine blk_drewN ?_ _ | refine blk_drew ?_ | refine blk_alloc ?_ _)); refine blk_put (cs := #[.int .i64 a0_0, .int .i64 0, .int .i64 0, .int .i64 0]) ?_ 1 _ rfl; (with_reducible repeat (first | refine blk_drewN ?_ _ | refine blk_drew ?_ | refine blk_alloc ?_ _)); refine blk_put (cs := #[.int .i64 0, .int .i64 0, .int .i64 0, .int .i64 0]) ?_ 0 _ rfl; (with_reducible repeat (first | refine blk_drewN ?_ _ | refine blk_drew ?_ | refine blk_alloc ?_ _)); refine blk_far ?_ NB2_3.out _; (with_reducible repeat (first | refine blk_drewN ?_ _ | refine blk_drew ?_ | refine blk_alloc ?_ _)); refine blk_far ?_ NB2_3.out _; (with_reducible repeat (first | refine blk_drewN ?_ _ | refine blk_drew ?_ | refine blk_alloc ?_ _)); refine blk_far ?_ NB2_3.out _; (with_reducible repeat (first | refine blk_drewN ?_ _ | refine blk_drew ?_ | refine blk_alloc ?_ _)); refine blk_far ?_ NB2_3.out _; (with_reducible repeat (first | refine blk_drewN ?_ _ | refine blk_drew ?_ | refine blk_alloc ?_ _)); exact BK2.out) Tryd.underlying37 rfl (by kernel_rfl)) rfl ?_
 exact ⟨rr_, bw_⟩

end Go.Proofs.YtchpopocnaoabaaDoor.P
