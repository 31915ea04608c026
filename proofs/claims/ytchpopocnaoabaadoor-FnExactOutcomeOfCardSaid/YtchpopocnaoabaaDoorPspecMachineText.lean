-- Written by mp.py (the session's own driver over the kit's printer) for the seat YtchpopocnaoabaaDoor.
import Derived.Test.YtchpopocnaoabaaDoorK
import Derived.Test.YtchpopocnaoabaaDoorPlawsszIntS
import Derived.Test.YtchpopocnaoabaaDoorPspecBufText
import Derived.Test.YtchpopocnaoabaaDoorPspecl01In
import Derived.Test.YtchpopocnaoabaaDoorPspecl04Shown
namespace Go.Proofs.YtchpopocnaoabaaDoor.P
open Go.RowKit Go.Proofs.YtchpopocnaoabaaDoorW.PrintWords Go.Proofs.YtchpopocnaoabaaDoorW.PrintLast Go.Proofs.YtchpopocnaoabaaDoorW.PrintMore
attribute [local go_sem] max2_int min2_int max_two min_two max_three min_three max_four min_four
set_option linter.unusedVariables false
set_option linter.unusedSimpArgs false

/-! ### spec_MachineText: function 55 -/
mutual
def spec_MachineText.l0 : Nat → ByteArray → Int → List Int → List (S133) → Option (ByteArray)
 | 0, _, _, _, _ => none
 | k + 1, x3, x4, x2000, x2001 => if x4 < (x2001.length : Int) then (if x3.size + 1 ≤ 9223372036854775807 then (if 0 ≤ x4 then ((spec_l01Num.f k ((rd_T133 x2001 x4).f0)).bind fun t5 => (if (x3 ++ (⟨#[116]⟩ : ByteArray)).size + t5.size ≤ 9223372036854775807 then (spec_MachineText.l1 k ((x3 ++ (⟨#[116]⟩ : ByteArray)) ++ t5) x4 0 x2000 x2001) else (none))) else (none)) else (none)) else ((spec_MemText.f k x2000).bind fun t3 => (if x3.size + t3.size ≤ 9223372036854775807 then (some (x3 ++ t3)) else (none)))
def spec_MachineText.l1 : Nat → ByteArray → Int → Int → List Int → List (S133) → Option (ByteArray)
 | 0, _, _, _, _, _ => none
 | k + 1, x3, x4, x5, x2000, x2001 => if 0 ≤ x4 then (if x4 < (x2001.length : Int) then (if x5 < (((rd_T133 x2001 x4).f1).length : Int) then (if x3.size + 1 ≤ 9223372036854775807 then (if 0 ≤ x5 then ((spec_l01Num.f k (rd ((rd_T133 x2001 x4).f1) x5)).bind fun t9 => (if (x3 ++ (⟨#[32]⟩ : ByteArray)).size + t9.size ≤ 9223372036854775807 then (spec_MachineText.l1 k ((x3 ++ (⟨#[32]⟩ : ByteArray)) ++ t9) x4 (wrap64 (x5 + 1)) x2000 x2001) else (none))) else (none)) else (none)) else (if x3.size + 1 ≤ 9223372036854775807 then ((spec_BufText.f k ((rd_T133 x2001 x4).f2)).bind fun t11 => (if (x3 ++ (⟨#[32]⟩ : ByteArray)).size + t11.size ≤ 9223372036854775807 then (if ((x3 ++ (⟨#[32]⟩ : ByteArray)) ++ t11).size + 3 ≤ 9223372036854775807 then (spec_MachineText.l0 k (((x3 ++ (⟨#[32]⟩ : ByteArray)) ++ t11) ++ (⟨#[32, 124, 32]⟩ : ByteArray)) (wrap64 (x4 + 1)) x2000 x2001) else (none)) else (none))) else (none))) else (none)) else (none)
end
def spec_MachineText.f (k : Nat) (l0_0 : List Int) (l0_1 : List (S133)) : Option (ByteArray) := (spec_l04Shown.f k l0_0 l0_1).bind fun t2 => (if t2 = true then (spec_MachineText.l0 k (⟨#[]⟩ : ByteArray) 0 l0_0 l0_1) else (some (⟨#[]⟩ : ByteArray)))
theorem spec_MachineText.mono_l : ∀ k, (∀ y0 y1 y2 y3, LeO (spec_MachineText.l0 k y0 y1 y2 y3) (spec_MachineText.l0 (k + 1) y0 y1 y2 y3)) ∧ (∀ y0 y1 y2 y3 y4, LeO (spec_MachineText.l1 k y0 y1 y2 y3 y4) (spec_MachineText.l1 (k + 1) y0 y1 y2 y3 y4))
 | 0 => ⟨fun _ _ _ _ r h => by simp [spec_MachineText.l0] at h, fun _ _ _ _ _ r h => by simp [spec_MachineText.l1] at h⟩
 | k + 1 => by
  obtain ⟨ih0, ih1⟩ := spec_MachineText.mono_l k
  refine ⟨?_, ?_⟩
  ·intro y0 y1 y2 y3
   unfold spec_MachineText.l0
   repeat' first | (with_reducible first | exact ih0 _ _ _ _ | exact ih1 _ _ _ _ _ | exact spec_BufText.mono _ _ | exact spec_MemText.mono _ _ | exact spec_l01Num.mono _ _ | exact spec_l04Shown.mono _ _ _ | exact lr_ | exact ln_ | refine LeO.ite ?_ ?_ | refine LeO.bind ?_ (fun _ => ?_)) | exact ih0 _ _ _ _ | exact ih1 _ _ _ _ _ | exact spec_BufText.mono _ _ | exact spec_MemText.mono _ _ | exact spec_l01Num.mono _ _ | exact spec_l04Shown.mono _ _ _ | exact ln_ | refine LeO.ite ?_ ?_ | refine LeO.bind ?_ (fun _ => ?_)
  ·intro y0 y1 y2 y3 y4
   unfold spec_MachineText.l1
   repeat' first | (with_reducible first | exact ih0 _ _ _ _ | exact ih1 _ _ _ _ _ | exact spec_BufText.mono _ _ | exact spec_MemText.mono _ _ | exact spec_l01Num.mono _ _ | exact spec_l04Shown.mono _ _ _ | exact lr_ | exact ln_ | refine LeO.ite ?_ ?_ | refine LeO.bind ?_ (fun _ => ?_)) | exact ih0 _ _ _ _ | exact ih1 _ _ _ _ _ | exact spec_BufText.mono _ _ | exact spec_MemText.mono _ _ | exact spec_l01Num.mono _ _ | exact spec_l04Shown.mono _ _ _ | exact ln_ | refine LeO.ite ?_ ?_ | refine LeO.bind ?_ (fun _ => ?_)
theorem spec_MachineText.mono : ∀ a0 a1 k, LeO (spec_MachineText.f k a0 a1) (spec_MachineText.f (k + 1) a0 a1) := by
 intro a0 a1 k
 obtain ⟨ih0, ih1⟩ := spec_MachineText.mono_l k
 unfold spec_MachineText.f
 repeat' first | (with_reducible first | exact ih0 _ _ _ _ | exact ih1 _ _ _ _ _ | exact spec_BufText.mono _ _ | exact spec_MemText.mono _ _ | exact spec_l01Num.mono _ _ | exact spec_l04Shown.mono _ _ _ | exact lr_ | exact ln_ | refine LeO.ite ?_ ?_ | refine LeO.bind ?_ (fun _ => ?_)) | exact ih0 _ _ _ _ | exact ih1 _ _ _ _ _ | exact spec_BufText.mono _ _ | exact spec_MemText.mono _ _ | exact spec_l01Num.mono _ _ | exact spec_l04Shown.mono _ _ _ | exact ln_ | refine LeO.ite ?_ ?_ | refine LeO.bind ?_ (fun _ => ?_)
set_option maxHeartbeats 8000000 in
set_option maxRecDepth 100000 in
theorem spec_MachineText.calls (k : Nat) (A0_0 : Option Addr) (c0_0 : Nat) (l0_0 : List Int) (A0_1 : Option Addr) (c0_1 : Nat) (l0_1 : List (S133)) (r : ByteArray) (w : World) (hr0_0 : Kd.C (Kd.int .i64) w A0_0 l0_0.length l0_0) (hc0_0 : l0_0.length ≤ c0_0) (hr0_1 : Kd.C k133 w A0_1 l0_1.length l0_1) (hc0_1 : l0_1.length ≤ c0_1) (h : spec_MachineText.f k l0_0 l0_1 = some r) :
  Calls Tryd.prog 55 #[.agg #[.slice A0_0 l0_0.length c0_0, .slice A0_1 l0_1.length c0_1]] w fun e w' => e = .returned (.string r) ∧ Below w.heap.size w w' := by
 have hu80 := Tryd.underlying80
 have hu60 := Tryd.underlying60
 have HR0_0 := Aside0.mk hr0_0
 have HC0_0 := Aside0.mk hc0_0
 clear hr0_0 hc0_0
 have HR0_1 := Aside0.mk hr0_1
 have HC0_1 := Aside0.mk hc0_1
 clear hr0_1 hc0_1
 have HB := Aside0.mk (Below.refl w.heap.size w)
 have H : ((spec_l04Shown.f k l0_0 l0_1).bind fun t2 => (if t2 = true then (spec_MachineText.l0 k (⟨#[]⟩ : ByteArray) 0 l0_0 l0_1) else (some (⟨#[]⟩ : ByteArray)))) = some r := h
 clear h
 replace H := Option.bind_eq_some_iff.mp H
 obtain ⟨t2, A20, H⟩ := H
 replace H : (if t2 = true then (spec_MachineText.l0 k (⟨#[]⟩ : ByteArray) 0 l0_0 l0_1) else (some (⟨#[]⟩ : ByteArray))) = some r := H
 have A2 := Aside0.mk A20
 clear A20
 by_cases c3 : t2 = true
 rotate_left
 ·replace c3 := Bool.eq_false_iff.mpr c3
  subst c3
  have H1 : (some (⟨#[]⟩ : ByteArray)) = some r := by rw [if_neg (show ¬ (false = true) by decide)] at H; exact H
  clear H
  have H := H1
  clear H1
  obtain rfl := Option.some.inj H
  go_enter Tryd.func55, Tryd.ntmps55
  go_wp2_with (first | ((with_reducible refine gate_dst (N := 1) rfl ?_); refine box_event ?hg (N := 1) ?hd (cs := #[.slice A0_0 l0_0.length c0_0, .slice A0_1 l0_1.length c0_1]) (t := 80) ?hr ?_; (case hd => rfl); (case hg => rfl); (case hr => exact hr_); intro gb1 hg w33 hbox hb; have n0_ := bs_ hb; have n1_ := Aside0.mk (hbox); have n2_ := ge_ (w := w) hg; have n3_ := ge_ (w := w) hg; clear HB; have HB := n0_; have BK1 := n1_; have GW1 := n2_; have GE1 := n3_; clear n0_ n1_ n2_ n3_; clear hb hbox hg; obtain ⟨hcz34_0, hcz34_1, hfz34_0, hfz34_1⟩ := bc2_ BK1.out) | ((with_reducible refine gate_callee (f := 110) rfl ?_); refine goesL_ (some 7) rfl rfl Tryd.func110 (by kernel_rfl) rfl #[.agg #[.slice A0_0 l0_0.length c0_0, .slice A0_1 l0_1.length c0_1]] rfl ar_ ?_; (with_reducible refine (spec_l04Shown.calls k _ _ l0_0 _ _ l0_1 false _ ?side1 ?side2 ?side3 ?side4 A2.out).mono ?_); (case side1 => exact cb_); (case side2 => exact HC0_0.out); (case side3 => exact cb_); (case side4 => exact HC0_1.out); rintro e w35 ⟨rfl, hb⟩; refine ⟨_, rfl, ?_⟩; have n0_ := bb_ BK1.out hb; have n1_ := bs_ hb; clear BK1; clear HB; have BK1 := n0_; have HB := n1_; clear n0_ n1_; (try clear hb); (try clear hb2); (try clear hk); (try clear hi)))
  go_ret
  exact ⟨rr_, bw_⟩
 subst c3
 have H1 : (spec_MachineText.l0 k (⟨#[]⟩ : ByteArray) 0 l0_0 l0_1) = some r := by rw [if_pos rfl] at H; exact H
 clear H
 have H := H1
 clear H1
 have H' := Aside0.mk H
 clear H
 go_enter Tryd.func55, Tryd.ntmps55
 go_wp2_with (first | ((with_reducible refine gate_dst (N := 1) rfl ?_); refine box_event ?hg (N := 1) ?hd (cs := #[.slice A0_0 l0_0.length c0_0, .slice A0_1 l0_1.length c0_1]) (t := 80) ?hr ?_; (case hd => rfl); (case hg => rfl); (case hr => exact hr_); intro gb1 hg w4 hbox hb; have n0_ := bs_ hb; have n1_ := Aside0.mk (hbox); have n2_ := ge_ (w := w) hg; have n3_ := ge_ (w := w) hg; clear HB; have HB := n0_; have BK1 := n1_; have GW1 := n2_; have GE1 := n3_; clear n0_ n1_ n2_ n3_; clear hb hbox hg; obtain ⟨hcz5_0, hcz5_1, hfz5_0, hfz5_1⟩ := bc2_ BK1.out) | ((with_reducible refine gate_callee (f := 110) rfl ?_); refine goesL_ (some 7) rfl rfl Tryd.func110 (by kernel_rfl) rfl #[.agg #[.slice A0_0 l0_0.length c0_0, .slice A0_1 l0_1.length c0_1]] rfl ar_ ?_; (with_reducible refine (spec_l04Shown.calls k _ _ l0_0 _ _ l0_1 true _ ?side1 ?side2 ?side3 ?side4 A2.out).mono ?_); (case side1 => exact cb_); (case side2 => exact HC0_0.out); (case side3 => exact cb_); (case side4 => exact HC0_1.out); rintro e w6 ⟨rfl, hb⟩; refine ⟨_, rfl, ?_⟩; have n0_ := bb_ BK1.out hb; have n1_ := bs_ hb; clear BK1; clear HB; have BK1 := n0_; have HB := n1_; clear n0_ n1_; (try clear hb); (try clear hb2); (try clear hk); (try clear hi)))
 go_loopg [3, 4] k (fun kq v3 v4 w' => ∃ (x3_1 : ByteArray) (x4_1 : Int), v3 = .string x3_1 ∧ v4 = .int .i64 x4_1 ∧ Aside0 (spec_MachineText.l0 kq x3_1 x4_1 l0_0 l0_1 = some r) ∧ Aside0 (kq ≤ k) ∧ Aside0 (w'.heap[gb1]? = some (.cells #[(.slice A0_0 l0_0.length c0_0), (.slice A0_1 l0_1.length c0_1)] 80 (0, 0))) ∧ Aside0 (Below w.heap.size w w'))
 case atStart => exact ⟨((⟨#[]⟩ : ByteArray)), (0), sd_, sd_, H', ⟨Nat.le_refl _⟩, ⟨bk_⟩, ⟨bw_⟩⟩
 case round =>
  clear H'
  try clear c1
  try clear p2
  try clear c3
  try clear c5
  try clear hcz5_0 hcz5_1
  try clear hfz5_0 hfz5_1
  obtain ⟨x3_1, x4_1, rfl, rfl, HA, HK1, BK1, HB⟩ := hrel
  cases gk with
  | zero => exact absurd HA.out (by simp [spec_MachineText.l0])
  | succ k1 =>
   have H := HA.out
   clear HA
   simp only [spec_MachineText.l0] at H
   by_cases c7 : x4_1 < (l0_1.length : Int)
   rotate_left
   ·rw [if_neg c7] at H
    have c7b0 : decide (x4_1 < (l0_1.length : Int)) = false := decide_eq_false c7
    clear c7
    replace H := Option.bind_eq_some_iff.mp H
    obtain ⟨t3, A290, H⟩ := H
    replace H : (if x3_1.size + t3.size ≤ 9223372036854775807 then (some (x3_1 ++ t3)) else (none)) = some r := H
    have A29 := Aside0.mk A290
    clear A290
    by_cases c30 : x3_1.size + t3.size ≤ 9223372036854775807
    rotate_left
    ·rw [if_neg c30] at H
     exact absurd H (by simp)
    rw [if_pos c30] at H
    have c30b0 := eq_true c30
    have c30b1 : decide (x3_1.size + t3.size ≤ 9223372036854775807) = true := decide_eq_true c30
    try have c30b2 : (9223372036854775807 < x3_1.size + t3.size) = False := eq_false (Nat.not_lt.2 c30)
    obtain rfl := Option.some.inj H
    obtain ⟨hcz31_0, hcz31_1, hfz31_0, hfz31_1⟩ := bc2_ BK1.out
    go_wp2_with (first | ((with_reducible refine gate_callee (f := 38) rfl ?_); refine goesL_ (some 64) rfl rfl Tryd.func38 (by kernel_rfl) rfl #[.agg #[.slice A0_0 l0_0.length c0_0]] rfl ar_ ?_; (with_reducible refine (spec_MemText.calls k1 _ _ l0_0 t3 _ ?side1 ?side2 A29.out).mono ?_); (case side1 => exact cb_); (case side2 => exact HC0_0.out); rintro e w32 ⟨rfl, hb⟩; refine ⟨_, rfl, ?_⟩; have n0_ := bb_ BK1.out hb; have n1_ := bs_ hb; clear BK1; clear HB; have BK1 := n0_; have HB := n1_; clear n0_ n1_; (try clear hb); (try clear hb2); (try clear hk); (try clear hi)))
    go_ret
    exact ⟨rr_, bw_⟩
   rw [if_pos c7] at H
   have c7b0 : decide (x4_1 < (l0_1.length : Int)) = true := decide_eq_true c7
   clear c7
   by_cases c8 : x3_1.size + 1 ≤ 9223372036854775807
   rotate_left
   ·rw [if_neg c8] at H
    exact absurd H (by simp)
   rw [if_pos c8] at H
   have c8b0 := eq_true c8
   have c8b1 : decide (x3_1.size + 1 ≤ 9223372036854775807) = true := decide_eq_true c8
   try have c8b2 : (9223372036854775807 < x3_1.size + 1) = False := eq_false (Nat.not_lt.2 c8)
   by_cases c9 : 0 ≤ x4_1
   rotate_left
   ·rw [if_neg c9] at H
    exact absurd H (by simp)
   rw [if_pos c9] at H
   have c9b0 : decide (0 ≤ x4_1) = true := decide_eq_true c9
   clear c9
   replace H := Option.bind_eq_some_iff.mp H
   obtain ⟨t5, A100, H⟩ := H
   replace H : (if (x3_1 ++ (⟨#[116]⟩ : ByteArray)).size + t5.size ≤ 9223372036854775807 then (spec_MachineText.l1 k1 ((x3_1 ++ (⟨#[116]⟩ : ByteArray)) ++ t5) x4_1 0 l0_0 l0_1) else (none)) = some r := H
   have A10 := Aside0.mk A100
   clear A100
   by_cases c11 : (x3_1 ++ (⟨#[116]⟩ : ByteArray)).size + t5.size ≤ 9223372036854775807
   rotate_left
   ·rw [if_neg c11] at H
    exact absurd H (by simp)
   rw [if_pos c11] at H
   have c11b0 := eq_true c11
   have c11z0 := eq_true (show (x3_1.size + 1) + t5.size ≤ 9223372036854775807 by have h_ := c11; simp only [ByteArray.size_append] at h_; exact h_)
   have c11z2 : (9223372036854775807 < (x3_1.size + 1) + t5.size) = False := eq_false (Nat.not_lt.2 (show (x3_1.size + 1) + t5.size ≤ 9223372036854775807 by have h_ := c11; simp only [ByteArray.size_append] at h_; exact h_))
   have c11b1 : decide ((x3_1 ++ (⟨#[116]⟩ : ByteArray)).size + t5.size ≤ 9223372036854775807) = true := decide_eq_true c11
   try have c11b2 : (9223372036854775807 < (x3_1 ++ (⟨#[116]⟩ : ByteArray)).size + t5.size) = False := eq_false (Nat.not_lt.2 c11)
   have H' := Aside0.mk H
   clear H
   obtain ⟨hcz12_0, hcz12_1, hfz12_0, hfz12_1⟩ := bc2_ BK1.out
   have p4 : 0 ≤ (x4_1 : Int) := od_
   have q4 : x4_1 < (l0_1.length : Int) := od_
   obtain ⟨ad4, A4_1, c4_1, A4_2, c4_2, e4, hx4_0, hx4_1, hx4_2, hl4_1, hi4_1, hl4_2, hi4_2⟩ := at_T133 HR0_1.out x4_1 p4 q4
   cases e4
   replace hx4_0 := (HB.out.cell (World.block_lt_of_cell? w _ hx4_0)).trans hx4_0
   replace hx4_1 := (HB.out.cell (World.block_lt_of_cell? w _ hx4_1)).trans hx4_1
   replace hx4_2 := (HB.out.cell (World.block_lt_of_cell? w _ hx4_2)).trans hx4_2
   have HR4_1 := Aside0.mk hi4_1
   have HC4_1 := Aside0.mk hl4_1
   clear hi4_1 hl4_1
   have HR4_2 := Aside0.mk hi4_2
   have HC4_2 := Aside0.mk hl4_2
   clear hi4_2 hl4_2
   replace p4 := eq_true p4
   replace q4 := eq_true q4
   go_wp2_with (first | ((with_reducible refine gate_callee (f := 89) rfl ?_); refine goesL_ (some 24) rfl rfl Tryd.func89 (by kernel_rfl) rfl #[.int .i64 ((rd_T133 l0_1 x4_1).f0)] rfl ar_ ?_; (with_reducible refine (spec_l01Num.calls k1 ((rd_T133 l0_1 x4_1).f0) t5 _ A10.out).mono ?_); rintro e w13 ⟨rfl, hb⟩; refine ⟨_, rfl, ?_⟩; have n0_ := bb_ BK1.out hb; have n1_ := bs_ hb; clear BK1; clear HB; have BK1 := n0_; have HB := n1_; clear n0_ n1_; (try clear hb); (try clear hb2); (try clear hk); (try clear hi)))
   go_loopg [3, 5] k1 (fun kq v3 v5 w' => ∃ (x3_2 : ByteArray) (x5_2 : Int), v3 = .string x3_2 ∧ v5 = .int .i64 x5_2 ∧ Aside0 (spec_MachineText.l1 kq x3_2 x4_1 x5_2 l0_0 l0_1 = some r) ∧ Aside0 (kq ≤ k1) ∧ Aside0 (w'.heap[gb1]? = some (.cells #[(.slice A0_0 l0_0.length c0_0), (.slice (some ad4) l0_1.length c0_1)] 80 (0, 0))) ∧ Aside0 (Below w.heap.size w w'))
   case atStart => exact ⟨((x3_1 ++ (⟨#[116]⟩ : ByteArray)) ++ t5), (0), sd_, sd_, H', ⟨Nat.le_refl _⟩, ⟨bk_⟩, ⟨bw_⟩⟩
   case round =>
    clear H'
    try clear c1
    try clear p2
    try clear c3
    try clear c4
    try clear p4
    try clear q4
    try clear hx4
    try clear c5
    try clear c7
    try clear c7b0
    try clear c8
    try clear c8b0
    try clear c8b1
    try clear c8b2
    try clear c9
    try clear c9b0
    try clear c11
    try clear c11b0
    try clear c11b1
    try clear c11b2
    try clear hcz12_0 hcz12_1
    try clear hcz5_0 hcz5_1
    try clear hfz12_0 hfz12_1
    try clear hfz5_0 hfz5_1
    try clear hx4_0
    try clear hx4_1
    try clear hx4_2
    try clear p2
    try clear p4
    try clear q4
    obtain ⟨x3_2, x5_2, rfl, rfl, HA, HK2, BK1, HB⟩ := hrel
    cases gk with
    | zero => exact absurd HA.out (by simp [spec_MachineText.l1])
    | succ k2 =>
     have H := HA.out
     clear HA
     simp only [spec_MachineText.l1] at H
     by_cases c14 : 0 ≤ x4_1
     rotate_left
     ·rw [if_neg c14] at H
      exact absurd H (by simp)
     rw [if_pos c14] at H
     have c14b0 : decide (0 ≤ x4_1) = true := decide_eq_true c14
     clear c14
     by_cases c15 : x4_1 < (l0_1.length : Int)
     rotate_left
     ·rw [if_neg c15] at H
      exact absurd H (by simp)
     rw [if_pos c15] at H
     have c15b0 : decide (x4_1 < (l0_1.length : Int)) = true := decide_eq_true c15
     clear c15
     by_cases c16 : x5_2 < (((rd_T133 l0_1 x4_1).f1).length : Int)
     rotate_left
     ·rw [if_neg c16] at H
      have c16b0 : decide (x5_2 < (((rd_T133 l0_1 x4_1).f1).length : Int)) = false := decide_eq_false c16
      clear c16
      by_cases c23 : x3_2.size + 1 ≤ 9223372036854775807
      rotate_left
      ·rw [if_neg c23] at H
       exact absurd H (by simp)
      rw [if_pos c23] at H
      have c23b0 := eq_true c23
      have c23b1 : decide (x3_2.size + 1 ≤ 9223372036854775807) = true := decide_eq_true c23
      try have c23b2 : (9223372036854775807 < x3_2.size + 1) = False := eq_false (Nat.not_lt.2 c23)
      replace H := Option.bind_eq_some_iff.mp H
      obtain ⟨t11, A240, H⟩ := H
      replace H : (if (x3_2 ++ (⟨#[32]⟩ : ByteArray)).size + t11.size ≤ 9223372036854775807 then (if ((x3_2 ++ (⟨#[32]⟩ : ByteArray)) ++ t11).size + 3 ≤ 9223372036854775807 then (spec_MachineText.l0 k2 (((x3_2 ++ (⟨#[32]⟩ : ByteArray)) ++ t11) ++ (⟨#[32, 124, 32]⟩ : ByteArray)) (wrap64 (x4_1 + 1)) l0_0 l0_1) else (none)) else (none)) = some r := H
      have A24 := Aside0.mk A240
      clear A240
      by_cases c25 : (x3_2 ++ (⟨#[32]⟩ : ByteArray)).size + t11.size ≤ 9223372036854775807
      rotate_left
      ·rw [if_neg c25] at H
       exact absurd H (by simp)
      rw [if_pos c25] at H
      have c25b0 := eq_true c25
      have c25z0 := eq_true (show (x3_2.size + 1) + t11.size ≤ 9223372036854775807 by have h_ := c25; simp only [ByteArray.size_append] at h_; exact h_)
      have c25z2 : (9223372036854775807 < (x3_2.size + 1) + t11.size) = False := eq_false (Nat.not_lt.2 (show (x3_2.size + 1) + t11.size ≤ 9223372036854775807 by have h_ := c25; simp only [ByteArray.size_append] at h_; exact h_))
      have c25b1 : decide ((x3_2 ++ (⟨#[32]⟩ : ByteArray)).size + t11.size ≤ 9223372036854775807) = true := decide_eq_true c25
      try have c25b2 : (9223372036854775807 < (x3_2 ++ (⟨#[32]⟩ : ByteArray)).size + t11.size) = False := eq_false (Nat.not_lt.2 c25)
      by_cases c26 : ((x3_2 ++ (⟨#[32]⟩ : ByteArray)) ++ t11).size + 3 ≤ 9223372036854775807
      rotate_left
      ·rw [if_neg c26] at H
       exact absurd H (by simp)
      rw [if_pos c26] at H
      have c26b0 := eq_true c26
      have c26z0 := eq_true (show (x3_2.size + 1 + t11.size) + 3 ≤ 9223372036854775807 by have h_ := c26; simp only [ByteArray.size_append] at h_; exact h_)
      have c26z2 : (9223372036854775807 < (x3_2.size + 1 + t11.size) + 3) = False := eq_false (Nat.not_lt.2 (show (x3_2.size + 1 + t11.size) + 3 ≤ 9223372036854775807 by have h_ := c26; simp only [ByteArray.size_append] at h_; exact h_))
      have c26b1 : decide (((x3_2 ++ (⟨#[32]⟩ : ByteArray)) ++ t11).size + 3 ≤ 9223372036854775807) = true := decide_eq_true c26
      try have c26b2 : (9223372036854775807 < ((x3_2 ++ (⟨#[32]⟩ : ByteArray)) ++ t11).size + 3) = False := eq_false (Nat.not_lt.2 c26)
      have H' := Aside0.mk H
      clear H
      obtain ⟨hcz27_0, hcz27_1, hfz27_0, hfz27_1⟩ := bc2_ BK1.out
      have p6 : 0 ≤ (x4_1 : Int) := od_
      have q6 : x4_1 < (l0_1.length : Int) := od_
      obtain ⟨ad6, A6_1, c6_1, A6_2, c6_2, e6, hx6_0, hx6_1, hx6_2, hl6_1, hi6_1, hl6_2, hi6_2⟩ := at_T133 HR0_1.out x4_1 p6 q6
      obtain rfl : ad4 = ad6 := (by injection e6)
      replace hx6_0 := (HB.out.cell (World.block_lt_of_cell? w _ hx6_0)).trans hx6_0
      replace hx6_1 := (HB.out.cell (World.block_lt_of_cell? w _ hx6_1)).trans hx6_1
      replace hx6_2 := (HB.out.cell (World.block_lt_of_cell? w _ hx6_2)).trans hx6_2
      have HR6_1 := Aside0.mk hi6_1
      have HC6_1 := Aside0.mk hl6_1
      clear hi6_1 hl6_1
      have HR6_2 := Aside0.mk hi6_2
      have HC6_2 := Aside0.mk hl6_2
      clear hi6_2 hl6_2
      replace p6 := eq_true p6
      replace q6 := eq_true q6
      have p10 : 0 ≤ (x4_1 : Int) := od_
      have q10 : x4_1 < (l0_1.length : Int) := od_
      obtain ⟨ad10, A10_1, c10_1, A10_2, c10_2, e10, hx10_0, hx10_1, hx10_2, hl10_1, hi10_1, hl10_2, hi10_2⟩ := at_T133 HR0_1.out x4_1 p10 q10
      obtain rfl : ad4 = ad10 := (by injection e10)
      replace hx10_0 := (HB.out.cell (World.block_lt_of_cell? w _ hx10_0)).trans hx10_0
      replace hx10_1 := (HB.out.cell (World.block_lt_of_cell? w _ hx10_1)).trans hx10_1
      replace hx10_2 := (HB.out.cell (World.block_lt_of_cell? w _ hx10_2)).trans hx10_2
      have HR10_1 := Aside0.mk hi10_1
      have HC10_1 := Aside0.mk hl10_1
      clear hi10_1 hl10_1
      have HR10_2 := Aside0.mk hi10_2
      have HC10_2 := Aside0.mk hl10_2
      clear hi10_2 hl10_2
      replace p10 := eq_true p10
      replace q10 := eq_true q10
      have ea_ := Option.some.inj (hx6_1.symm.trans hx10_1)
      injection ea_ with ea_ en_ ec_
      subst ea_
      subst ec_
      clear en_
      have ea_ := Option.some.inj (hx6_2.symm.trans hx10_2)
      injection ea_ with ea_ en_ ec_
      subst ea_
      subst ec_
      clear en_
      go_wp2_with (first | ((with_reducible refine gate_callee (f := 33) rfl ?_); refine goesL_ (some 58) rfl rfl Tryd.func33 (by kernel_rfl) rfl #[.slice A6_2 ((rd_T133 l0_1 x4_1).f2).length c6_2] rfl ar_ ?_; (with_reducible refine (spec_BufText.calls k2 _ _ ((rd_T133 l0_1 x4_1).f2) t11 _ ?side1 ?side2 A24.out).mono ?_); (case side1 => exact cb_); (case side2 => exact HC10_2.out); rintro e w28 ⟨rfl, hb⟩; refine ⟨_, rfl, ?_⟩; have n0_ := bb_ BK1.out hb; have n1_ := bs_ hb; clear BK1; clear HB; have BK1 := n0_; have HB := n1_; clear n0_ n1_; (try clear hb); (try clear hb2); (try clear hk); (try clear hi)))
      go_roundg k2
      case measure => have := HK1.out; have := HK2.out; omega
      case rel => exact ⟨(((x3_2 ++ (⟨#[32]⟩ : ByteArray)) ++ t11) ++ (⟨#[32, 124, 32]⟩ : ByteArray)), (wrap64 (x4_1 + 1)), sd_, sd_, H', ⟨by have := HK1.out; have := HK2.out; omega⟩, ⟨bk_⟩, ⟨bw_⟩⟩
     rw [if_pos c16] at H
     have c16b0 : decide (x5_2 < (((rd_T133 l0_1 x4_1).f1).length : Int)) = true := decide_eq_true c16
     clear c16
     by_cases c17 : x3_2.size + 1 ≤ 9223372036854775807
     rotate_left
     ·rw [if_neg c17] at H
      exact absurd H (by simp)
     rw [if_pos c17] at H
     have c17b0 := eq_true c17
     have c17b1 : decide (x3_2.size + 1 ≤ 9223372036854775807) = true := decide_eq_true c17
     try have c17b2 : (9223372036854775807 < x3_2.size + 1) = False := eq_false (Nat.not_lt.2 c17)
     by_cases c18 : 0 ≤ x5_2
     rotate_left
     ·rw [if_neg c18] at H
      exact absurd H (by simp)
     rw [if_pos c18] at H
     have c18b0 : decide (0 ≤ x5_2) = true := decide_eq_true c18
     clear c18
     replace H := Option.bind_eq_some_iff.mp H
     obtain ⟨t9, A190, H⟩ := H
     replace H : (if (x3_2 ++ (⟨#[32]⟩ : ByteArray)).size + t9.size ≤ 9223372036854775807 then (spec_MachineText.l1 k2 ((x3_2 ++ (⟨#[32]⟩ : ByteArray)) ++ t9) x4_1 (wrap64 (x5_2 + 1)) l0_0 l0_1) else (none)) = some r := H
     have A19 := Aside0.mk A190
     clear A190
     by_cases c20 : (x3_2 ++ (⟨#[32]⟩ : ByteArray)).size + t9.size ≤ 9223372036854775807
     rotate_left
     ·rw [if_neg c20] at H
      exact absurd H (by simp)
     rw [if_pos c20] at H
     have c20b0 := eq_true c20
     have c20z0 := eq_true (show (x3_2.size + 1) + t9.size ≤ 9223372036854775807 by have h_ := c20; simp only [ByteArray.size_append] at h_; exact h_)
     have c20z2 : (9223372036854775807 < (x3_2.size + 1) + t9.size) = False := eq_false (Nat.not_lt.2 (show (x3_2.size + 1) + t9.size ≤ 9223372036854775807 by have h_ := c20; simp only [ByteArray.size_append] at h_; exact h_))
     have c20b1 : decide ((x3_2 ++ (⟨#[32]⟩ : ByteArray)).size + t9.size ≤ 9223372036854775807) = true := decide_eq_true c20
     try have c20b2 : (9223372036854775807 < (x3_2 ++ (⟨#[32]⟩ : ByteArray)).size + t9.size) = False := eq_false (Nat.not_lt.2 c20)
     have H' := Aside0.mk H
     clear H
     obtain ⟨hcz21_0, hcz21_1, hfz21_0, hfz21_1⟩ := bc2_ BK1.out
     have p6 : 0 ≤ (x4_1 : Int) := od_
     have q6 : x4_1 < (l0_1.length : Int) := od_
     obtain ⟨ad6, A6_1, c6_1, A6_2, c6_2, e6, hx6_0, hx6_1, hx6_2, hl6_1, hi6_1, hl6_2, hi6_2⟩ := at_T133 HR0_1.out x4_1 p6 q6
     obtain rfl : ad4 = ad6 := (by injection e6)
     replace hx6_0 := (HB.out.cell (World.block_lt_of_cell? w _ hx6_0)).trans hx6_0
     replace hx6_1 := (HB.out.cell (World.block_lt_of_cell? w _ hx6_1)).trans hx6_1
     replace hx6_2 := (HB.out.cell (World.block_lt_of_cell? w _ hx6_2)).trans hx6_2
     have HR6_1 := Aside0.mk hi6_1
     have HC6_1 := Aside0.mk hl6_1
     clear hi6_1 hl6_1
     have HR6_2 := Aside0.mk hi6_2
     have HC6_2 := Aside0.mk hl6_2
     clear hi6_2 hl6_2
     replace p6 := eq_true p6
     replace q6 := eq_true q6
     have p7 : 0 ≤ (x4_1 : Int) := od_
     have q7 : x4_1 < (l0_1.length : Int) := od_
     obtain ⟨ad7, A7_1, c7_1, A7_2, c7_2, e7, hx7_0, hx7_1, hx7_2, hl7_1, hi7_1, hl7_2, hi7_2⟩ := at_T133 HR0_1.out x4_1 p7 q7
     obtain rfl : ad4 = ad7 := (by injection e7)
     replace hx7_0 := (HB.out.cell (World.block_lt_of_cell? w _ hx7_0)).trans hx7_0
     replace hx7_1 := (HB.out.cell (World.block_lt_of_cell? w _ hx7_1)).trans hx7_1
     replace hx7_2 := (HB.out.cell (World.block_lt_of_cell? w _ hx7_2)).trans hx7_2
     have HR7_1 := Aside0.mk hi7_1
     have HC7_1 := Aside0.mk hl7_1
     clear hi7_1 hl7_1
     have HR7_2 := Aside0.mk hi7_2
     have HC7_2 := Aside0.mk hl7_2
     clear hi7_2 hl7_2
     replace p7 := eq_true p7
     replace q7 := eq_true q7
     have ea_ := Option.some.inj (hx6_1.symm.trans hx7_1)
     injection ea_ with ea_ en_ ec_
     subst ea_
     subst ec_
     clear en_
     have ea_ := Option.some.inj (hx6_2.symm.trans hx7_2)
     injection ea_ with ea_ en_ ec_
     subst ea_
     subst ec_
     clear en_
     have p8 : 0 ≤ (x5_2 : Int) := od_
     have q8 : x5_2 < (((rd_T133 l0_1 x4_1).f1).length : Int) := od_
     obtain ⟨ad8, e8, hx8_0⟩ := Kd.at_int HR7_1.out x5_2 p8 q8
     cases e8
     replace hx8_0 := (HB.out.cell (World.block_lt_of_cell? w _ hx8_0)).trans hx8_0
     replace p8 := eq_true p8
     replace q8 := eq_true q8
     go_wp2_with (first | ((with_reducible refine gate_callee (f := 89) rfl ?_); refine goesL_ (some 48) rfl rfl Tryd.func89 (by kernel_rfl) rfl #[.int .i64 (rd ((rd_T133 l0_1 x4_1).f1) x5_2)] rfl ar_ ?_; (with_reducible refine (spec_l01Num.calls k2 (rd ((rd_T133 l0_1 x4_1).f1) x5_2) t9 _ A19.out).mono ?_); rintro e w22 ⟨rfl, hb⟩; refine ⟨_, rfl, ?_⟩; have n0_ := bb_ BK1.out hb; have n1_ := bs_ hb; clear BK1; clear HB; have BK1 := n0_; have HB := n1_; clear n0_ n1_; (try clear hb); (try clear hb2); (try clear hk); (try clear hi)))
     go_roundg k2
     case measure => have := HK1.out; have := HK2.out; omega
     case rel => exact ⟨((x3_2 ++ (⟨#[32]⟩ : ByteArray)) ++ t9), (wrap64 (x5_2 + 1)), sd_, sd_, H', ⟨by have := HK1.out; have := HK2.out; omega⟩, ⟨bk_⟩, ⟨bw_⟩⟩

end Go.Proofs.YtchpopocnaoabaaDoor.P
