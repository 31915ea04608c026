-- Written by mp.py (the session's own driver over the kit's printer) for the seat YtchpopocnaoabaaDoor.
import Derived.Test.YtchpopocnaoabaaDoorK
import Derived.Test.YtchpopocnaoabaaDoorPimplMachineText
import Derived.Test.YtchpopocnaoabaaDoorPimplMemOk
import Derived.Test.YtchpopocnaoabaaDoorPlawsszIntS
import Derived.Test.YtchpopocnaoabaaDoorPspecl04Shown
import Derived.Test.YtchpopocnaoabaaDoorEnv
namespace Go.Proofs.YtchpopocnaoabaaDoor.P
open Go.RowKit Go.Proofs.YtchpopocnaoabaaDoorW.PrintWords Go.Proofs.YtchpopocnaoabaaDoorW.PrintLast Go.Proofs.YtchpopocnaoabaaDoorW.PrintMore
attribute [local go_sem] max2_int min2_int max_two min_two max_three min_three max_four min_four
set_option linter.unusedVariables false
set_option linter.unusedSimpArgs false

/-! ### spec_OutcomeOf: function 51 -/
def spec_OutcomeOf.l0 : Nat → ByteArray → Int → List Int → List (S133) → Option (ByteArray)
 | 0, _, _, _, _ => none
 | k + 1, x3, x4, x2000, x2001 => if x4 < (x2001.length : Int) then (if 0 ≤ x4 then ((spec_l01Line.f k ((rd_T133 x2001 x4).f1)).bind fun t4 => (if x3.size + t4.size ≤ 9223372036854775807 then (if (x3 ++ t4).size + 3 ≤ 9223372036854775807 then (spec_OutcomeOf.l0 k ((x3 ++ t4) ++ (⟨#[32, 124, 32]⟩ : ByteArray)) (wrap64 (x4 + 1)) x2000 x2001) else (none)) else (none))) else (none)) else ((spec_MemText.f k x2000).bind fun t5 => (if x3.size + t5.size ≤ 9223372036854775807 then (some (x3 ++ t5)) else (none)))
def spec_OutcomeOf.f (k : Nat) (l0_0 : List Int) (l0_1 : List (S133)) : Option (ByteArray) := (spec_l04Shown.f k l0_0 l0_1).bind fun t2 => (if t2 = true then (spec_OutcomeOf.l0 k (⟨#[]⟩ : ByteArray) 0 l0_0 l0_1) else (some (⟨#[]⟩ : ByteArray)))
theorem spec_OutcomeOf.mono_l : ∀ k, (∀ y0 y1 y2 y3, LeO (spec_OutcomeOf.l0 k y0 y1 y2 y3) (spec_OutcomeOf.l0 (k + 1) y0 y1 y2 y3))
 | 0 => fun _ _ _ _ r h => by simp [spec_OutcomeOf.l0] at h
 | k + 1 => by
  have ih0 := spec_OutcomeOf.mono_l k
  ·intro y0 y1 y2 y3
   unfold spec_OutcomeOf.l0
   repeat' first | (with_reducible first | exact ih0 _ _ _ _ | exact spec_MemText.mono _ _ | exact spec_l01Line.mono _ _ | exact spec_l04Shown.mono _ _ _ | exact lr_ | exact ln_ | refine LeO.ite ?_ ?_ | refine LeO.bind ?_ (fun _ => ?_)) | exact ih0 _ _ _ _ | exact spec_MemText.mono _ _ | exact spec_l01Line.mono _ _ | exact spec_l04Shown.mono _ _ _ | exact ln_ | refine LeO.ite ?_ ?_ | refine LeO.bind ?_ (fun _ => ?_)
theorem spec_OutcomeOf.mono : ∀ a0 a1 k, LeO (spec_OutcomeOf.f k a0 a1) (spec_OutcomeOf.f (k + 1) a0 a1) := by
 intro a0 a1 k
 have ih0 := spec_OutcomeOf.mono_l k
 unfold spec_OutcomeOf.f
 repeat' first | (with_reducible first | exact ih0 _ _ _ _ | exact spec_MemText.mono _ _ | exact spec_l01Line.mono _ _ | exact spec_l04Shown.mono _ _ _ | exact lr_ | exact ln_ | refine LeO.ite ?_ ?_ | refine LeO.bind ?_ (fun _ => ?_)) | exact ih0 _ _ _ _ | exact spec_MemText.mono _ _ | exact spec_l01Line.mono _ _ | exact spec_l04Shown.mono _ _ _ | exact ln_ | refine LeO.ite ?_ ?_ | refine LeO.bind ?_ (fun _ => ?_)
set_option maxHeartbeats 8000000 in
set_option maxRecDepth 100000 in
theorem spec_OutcomeOf.calls (k : Nat) (A0_0 : Option Addr) (c0_0 : Nat) (l0_0 : List Int) (A0_1 : Option Addr) (c0_1 : Nat) (l0_1 : List (S133)) (r : ByteArray) (w : World) (hr0_0 : Kd.C (Kd.int .i64) w A0_0 l0_0.length l0_0) (hc0_0 : l0_0.length ≤ c0_0) (hr0_1 : Kd.C k133 w A0_1 l0_1.length l0_1) (hc0_1 : l0_1.length ≤ c0_1) (h : spec_OutcomeOf.f k l0_0 l0_1 = some r) :
  Calls Tryd.prog 51 #[.agg #[.slice A0_0 l0_0.length c0_0, .slice A0_1 l0_1.length c0_1]] w fun e w' => e = .returned (.string r) ∧ Below w.heap.size w w' := by
 have hu80 := Tryd.underlying80
 have hu60 := Tryd.underlying60
 have HR0_0 := Aside0.mk hr0_0
 have HC0_0 := Aside0.mk hc0_0
 clear hr0_0 hc0_0
 have HR0_1 := Aside0.mk hr0_1
 have HC0_1 := Aside0.mk hc0_1
 clear hr0_1 hc0_1
 have HB := Aside0.mk (Below.refl w.heap.size w)
 have H : ((spec_l04Shown.f k l0_0 l0_1).bind fun t2 => (if t2 = true then (spec_OutcomeOf.l0 k (⟨#[]⟩ : ByteArray) 0 l0_0 l0_1) else (some (⟨#[]⟩ : ByteArray)))) = some r := h
 clear h
 replace H := Option.bind_eq_some_iff.mp H
 obtain ⟨t2, A20, H⟩ := H
 replace H : (if t2 = true then (spec_OutcomeOf.l0 k (⟨#[]⟩ : ByteArray) 0 l0_0 l0_1) else (some (⟨#[]⟩ : ByteArray))) = some r := H
 have A2 := Aside0.mk A20
 clear A20
 by_cases c3 : t2 = true
 rotate_left
 ·replace c3 := Bool.eq_false_iff.mpr c3
  subst c3
  have H1 : (some (⟨#[]⟩ : ByteArray)) = some r := by rw [if_neg (show ¬ (false = true) by decide)] at H; exact H
  clear H
  have H := H1
  clear H1
  obtain rfl := Option.some.inj H
  go_enter Tryd.func51, Tryd.ntmps51
  go_wp2_with (first | ((with_reducible refine gate_dst (N := 1) rfl ?_); refine box_event ?hg (N := 1) ?hd (cs := #[.slice A0_0 l0_0.length c0_0, .slice A0_1 l0_1.length c0_1]) (t := 80) ?hr ?_; (case hd => rfl); (case hg => rfl); (case hr => exact hr_); intro gb1 hg w18 hbox hb; have n0_ := bs_ hb; have n1_ := Aside0.mk (hbox); have n2_ := ge_ (w := w) hg; have n3_ := ge_ (w := w) hg; clear HB; have HB := n0_; have BK1 := n1_; have GW1 := n2_; have GE1 := n3_; clear n0_ n1_ n2_ n3_; clear hb hbox hg; obtain ⟨hcz19_0, hcz19_1, hfz19_0, hfz19_1⟩ := bc2_ BK1.out) | ((with_reducible refine gate_callee (f := 110) rfl ?_); refine goesL_ (some 6) rfl rfl Tryd.func110 (by kernel_rfl) rfl #[.agg #[.slice A0_0 l0_0.length c0_0, .slice A0_1 l0_1.length c0_1]] rfl ar_ ?_; (with_reducible refine (spec_l04Shown.calls k _ _ l0_0 _ _ l0_1 false _ ?side1 ?side2 ?side3 ?side4 A2.out).mono ?_); (case side1 => exact cb_); (case side2 => exact HC0_0.out); (case side3 => exact cb_); (case side4 => exact HC0_1.out); rintro e w20 ⟨rfl, hb⟩; refine ⟨_, rfl, ?_⟩; have n0_ := bb_ BK1.out hb; have n1_ := bs_ hb; clear BK1; clear HB; have BK1 := n0_; have HB := n1_; clear n0_ n1_; (try clear hb); (try clear hb2); (try clear hk); (try clear hi)))
  go_ret
  exact ⟨rr_, bw_⟩
 subst c3
 have H1 : (spec_OutcomeOf.l0 k (⟨#[]⟩ : ByteArray) 0 l0_0 l0_1) = some r := by rw [if_pos rfl] at H; exact H
 clear H
 have H := H1
 clear H1
 have H' := Aside0.mk H
 clear H
 go_enter Tryd.func51, Tryd.ntmps51
 go_wp2_with (first | ((with_reducible refine gate_dst (N := 1) rfl ?_); refine box_event ?hg (N := 1) ?hd (cs := #[.slice A0_0 l0_0.length c0_0, .slice A0_1 l0_1.length c0_1]) (t := 80) ?hr ?_; (case hd => rfl); (case hg => rfl); (case hr => exact hr_); intro gb1 hg w4 hbox hb; have n0_ := bs_ hb; have n1_ := Aside0.mk (hbox); have n2_ := ge_ (w := w) hg; have n3_ := ge_ (w := w) hg; clear HB; have HB := n0_; have BK1 := n1_; have GW1 := n2_; have GE1 := n3_; clear n0_ n1_ n2_ n3_; clear hb hbox hg; obtain ⟨hcz5_0, hcz5_1, hfz5_0, hfz5_1⟩ := bc2_ BK1.out) | ((with_reducible refine gate_callee (f := 110) rfl ?_); refine goesL_ (some 6) rfl rfl Tryd.func110 (by kernel_rfl) rfl #[.agg #[.slice A0_0 l0_0.length c0_0, .slice A0_1 l0_1.length c0_1]] rfl ar_ ?_; (with_reducible refine (spec_l04Shown.calls k _ _ l0_0 _ _ l0_1 true _ ?side1 ?side2 ?side3 ?side4 A2.out).mono ?_); (case side1 => exact cb_); (case side2 => exact HC0_0.out); (case side3 => exact cb_); (case side4 => exact HC0_1.out); rintro e w6 ⟨rfl, hb⟩; refine ⟨_, rfl, ?_⟩; have n0_ := bb_ BK1.out hb; have n1_ := bs_ hb; clear BK1; clear HB; have BK1 := n0_; have HB := n1_; clear n0_ n1_; (try clear hb); (try clear hb2); (try clear hk); (try clear hi)))
 go_loopg [3, 4] k (fun kq v3 v4 w' => ∃ (x3_1 : ByteArray) (x4_1 : Int), v3 = .string x3_1 ∧ v4 = .int .i64 x4_1 ∧ Aside0 (spec_OutcomeOf.l0 kq x3_1 x4_1 l0_0 l0_1 = some r) ∧ Aside0 (kq ≤ k) ∧ Aside0 (w'.heap[gb1]? = some (.cells #[(.slice A0_0 l0_0.length c0_0), (.slice A0_1 l0_1.length c0_1)] 80 (0, 0))) ∧ Aside0 (Below w.heap.size w w'))
 case atStart => exact ⟨((⟨#[]⟩ : ByteArray)), (0), sd_, sd_, H', ⟨Nat.le_refl _⟩, ⟨bk_⟩, ⟨bw_⟩⟩
 case round =>
  clear H'
  try clear c1
  try clear p2
  try clear c3
  try clear c5
  try clear hcz5_0 hcz5_1
  try clear hfz5_0 hfz5_1
  obtain ⟨x3_1, x4_1, rfl, rfl, HA, HK1, BK1, HB⟩ := hrel
  cases gk with
  | zero => exact absurd HA.out (by simp [spec_OutcomeOf.l0])
  | succ k1 =>
   have H := HA.out
   clear HA
   simp only [spec_OutcomeOf.l0] at H
   by_cases c7 : x4_1 < (l0_1.length : Int)
   rotate_left
   ·rw [if_neg c7] at H
    have c7b0 : decide (x4_1 < (l0_1.length : Int)) = false := decide_eq_false c7
    clear c7
    replace H := Option.bind_eq_some_iff.mp H
    obtain ⟨t5, A140, H⟩ := H
    replace H : (if x3_1.size + t5.size ≤ 9223372036854775807 then (some (x3_1 ++ t5)) else (none)) = some r := H
    have A14 := Aside0.mk A140
    clear A140
    by_cases c15 : x3_1.size + t5.size ≤ 9223372036854775807
    rotate_left
    ·rw [if_neg c15] at H
     exact absurd H (by simp)
    rw [if_pos c15] at H
    have c15b0 := eq_true c15
    have c15b1 : decide (x3_1.size + t5.size ≤ 9223372036854775807) = true := decide_eq_true c15
    try have c15b2 : (9223372036854775807 < x3_1.size + t5.size) = False := eq_false (Nat.not_lt.2 c15)
    obtain rfl := Option.some.inj H
    obtain ⟨hcz16_0, hcz16_1, hfz16_0, hfz16_1⟩ := bc2_ BK1.out
    go_wp2_with (first | ((with_reducible refine gate_callee (f := 38) rfl ?_); refine goesL_ (some 28) rfl rfl Tryd.func38 (by kernel_rfl) rfl #[.agg #[.slice A0_0 l0_0.length c0_0]] rfl ar_ ?_; (with_reducible refine (spec_MemText.calls k1 _ _ l0_0 t5 _ ?side1 ?side2 A14.out).mono ?_); (case side1 => exact cb_); (case side2 => exact HC0_0.out); rintro e w17 ⟨rfl, hb⟩; refine ⟨_, rfl, ?_⟩; have n0_ := bb_ BK1.out hb; have n1_ := bs_ hb; clear BK1; clear HB; have BK1 := n0_; have HB := n1_; clear n0_ n1_; (try clear hb); (try clear hb2); (try clear hk); (try clear hi)))
    go_ret
    exact ⟨rr_, bw_⟩
   rw [if_pos c7] at H
   have c7b0 : decide (x4_1 < (l0_1.length : Int)) = true := decide_eq_true c7
   clear c7
   by_cases c8 : 0 ≤ x4_1
   rotate_left
   ·rw [if_neg c8] at H
    exact absurd H (by simp)
   rw [if_pos c8] at H
   have c8b0 : decide (0 ≤ x4_1) = true := decide_eq_true c8
   clear c8
   replace H := Option.bind_eq_some_iff.mp H
   obtain ⟨t4, A90, H⟩ := H
   replace H : (if x3_1.size + t4.size ≤ 9223372036854775807 then (if (x3_1 ++ t4).size + 3 ≤ 9223372036854775807 then (spec_OutcomeOf.l0 k1 ((x3_1 ++ t4) ++ (⟨#[32, 124, 32]⟩ : ByteArray)) (wrap64 (x4_1 + 1)) l0_0 l0_1) else (none)) else (none)) = some r := H
   have A9 := Aside0.mk A90
   clear A90
   by_cases c10 : x3_1.size + t4.size ≤ 9223372036854775807
   rotate_left
   ·rw [if_neg c10] at H
    exact absurd H (by simp)
   rw [if_pos c10] at H
   have c10b0 := eq_true c10
   have c10b1 : decide (x3_1.size + t4.size ≤ 9223372036854775807) = true := decide_eq_true c10
   try have c10b2 : (9223372036854775807 < x3_1.size + t4.size) = False := eq_false (Nat.not_lt.2 c10)
   by_cases c11 : (x3_1 ++ t4).size + 3 ≤ 9223372036854775807
   rotate_left
   ·rw [if_neg c11] at H
    exact absurd H (by simp)
   rw [if_pos c11] at H
   have c11b0 := eq_true c11
   have c11z0 := eq_true (show (x3_1.size + t4.size) + 3 ≤ 9223372036854775807 by have h_ := c11; simp only [ByteArray.size_append] at h_; exact h_)
   have c11z2 : (9223372036854775807 < (x3_1.size + t4.size) + 3) = False := eq_false (Nat.not_lt.2 (show (x3_1.size + t4.size) + 3 ≤ 9223372036854775807 by have h_ := c11; simp only [ByteArray.size_append] at h_; exact h_))
   have c11b1 : decide ((x3_1 ++ t4).size + 3 ≤ 9223372036854775807) = true := decide_eq_true c11
   try have c11b2 : (9223372036854775807 < (x3_1 ++ t4).size + 3) = False := eq_false (Nat.not_lt.2 c11)
   have H' := Aside0.mk H
   clear H
   obtain ⟨hcz12_0, hcz12_1, hfz12_0, hfz12_1⟩ := bc2_ BK1.out
   have p3 : 0 ≤ (x4_1 : Int) := od_
   have q3 : x4_1 < (l0_1.length : Int) := od_
   obtain ⟨ad3, A3_1, c3_1, A3_2, c3_2, e3, hx3_0, hx3_1, hx3_2, hl3_1, hi3_1, hl3_2, hi3_2⟩ := at_T133 HR0_1.out x4_1 p3 q3
   cases e3
   replace hx3_0 := (HB.out.cell (World.block_lt_of_cell? w _ hx3_0)).trans hx3_0
   replace hx3_1 := (HB.out.cell (World.block_lt_of_cell? w _ hx3_1)).trans hx3_1
   replace hx3_2 := (HB.out.cell (World.block_lt_of_cell? w _ hx3_2)).trans hx3_2
   have HR3_1 := Aside0.mk hi3_1
   have HC3_1 := Aside0.mk hl3_1
   clear hi3_1 hl3_1
   have HR3_2 := Aside0.mk hi3_2
   have HC3_2 := Aside0.mk hl3_2
   clear hi3_2 hl3_2
   replace p3 := eq_true p3
   replace q3 := eq_true q3
   go_wp2_with (first | ((with_reducible refine gate_callee (f := 101) rfl ?_); refine goesL_ (some 22) rfl rfl Tryd.func101 (by kernel_rfl) rfl #[.slice A3_1 ((rd_T133 l0_1 x4_1).f1).length c3_1] rfl ar_ ?_; (with_reducible refine (spec_l01Line.calls k1 _ _ ((rd_T133 l0_1 x4_1).f1) t4 _ ?side1 ?side2 A9.out).mono ?_); (case side1 => exact cb_); (case side2 => exact HC3_1.out); rintro e w13 ⟨rfl, hb⟩; refine ⟨_, rfl, ?_⟩; have n0_ := bb_ BK1.out hb; have n1_ := bs_ hb; clear BK1; clear HB; have BK1 := n0_; have HB := n1_; clear n0_ n1_; (try clear hb); (try clear hb2); (try clear hk); (try clear hi)))
   go_roundg k1
   case measure => have := HK1.out; omega
   case rel => exact ⟨((x3_1 ++ t4) ++ (⟨#[32, 124, 32]⟩ : ByteArray)), (wrap64 (x4_1 + 1)), sd_, sd_, H', ⟨by have := HK1.out; omega⟩, ⟨bk_⟩, ⟨bw_⟩⟩

/-! ### impl_OutcomeOf: function 53 -/
def impl_OutcomeOf.l0 : Nat → ByteArray → List (S133) → Int → Int → List Int → List (S133) → Option (ByteArray)
 | 0, _, _, _, _, _, _ => none
 | k + 1, x3, x10, x11, x12, x2000, x2001 => if x12 < x11 then (if 0 ≤ x12 then (if x12 < (x10.length : Int) then ((impl_spaced.f k ((rd_T133 x10 x12).f1)).bind fun t5 => (if t5.size + 3 ≤ 9223372036854775807 then (if x3.size + (t5 ++ (⟨#[32, 124, 32]⟩ : ByteArray)).size ≤ 9223372036854775807 then (impl_OutcomeOf.l0 k (x3 ++ (t5 ++ (⟨#[32, 124, 32]⟩ : ByteArray))) x10 x11 (wrap64 (x12 + 1)) x2000 x2001) else (none)) else (none))) else (none)) else (none)) else ((impl_MemText.f k x2000).bind fun t6 => (if x3.size + t6.size ≤ 9223372036854775807 then (some (x3 ++ t6)) else (none)))
def impl_OutcomeOf.f (k : Nat) (l0_0 : List Int) (l0_1 : List (S133)) : Option (ByteArray) := (impl_MachineText.f k l0_0 l0_1).bind fun t2 => (if t2.toList = ([] : List UInt8) then (some (⟨#[]⟩ : ByteArray)) else (impl_OutcomeOf.l0 k (⟨#[]⟩ : ByteArray) l0_1 (l0_1.length : Int) 0 l0_0 l0_1))
theorem impl_OutcomeOf.mono_l : ∀ k, (∀ y0 y1 y2 y3 y4 y5, LeO (impl_OutcomeOf.l0 k y0 y1 y2 y3 y4 y5) (impl_OutcomeOf.l0 (k + 1) y0 y1 y2 y3 y4 y5))
 | 0 => fun _ _ _ _ _ _ r h => by simp [impl_OutcomeOf.l0] at h
 | k + 1 => by
  have ih0 := impl_OutcomeOf.mono_l k
  ·intro y0 y1 y2 y3 y4 y5
   unfold impl_OutcomeOf.l0
   repeat' first | (with_reducible first | exact ih0 _ _ _ _ _ _ | exact impl_MachineText.mono _ _ _ | exact impl_MemText.mono _ _ | exact impl_spaced.mono _ _ | exact lr_ | exact ln_ | refine LeO.ite ?_ ?_ | refine LeO.bind ?_ (fun _ => ?_)) | exact ih0 _ _ _ _ _ _ | exact impl_MachineText.mono _ _ _ | exact impl_MemText.mono _ _ | exact impl_spaced.mono _ _ | exact ln_ | refine LeO.ite ?_ ?_ | refine LeO.bind ?_ (fun _ => ?_)
theorem impl_OutcomeOf.mono : ∀ a0 a1 k, LeO (impl_OutcomeOf.f k a0 a1) (impl_OutcomeOf.f (k + 1) a0 a1) := by
 intro a0 a1 k
 have ih0 := impl_OutcomeOf.mono_l k
 unfold impl_OutcomeOf.f
 repeat' first | (with_reducible first | exact ih0 _ _ _ _ _ _ | exact impl_MachineText.mono _ _ _ | exact impl_MemText.mono _ _ | exact impl_spaced.mono _ _ | exact lr_ | exact ln_ | refine LeO.ite ?_ ?_ | refine LeO.bind ?_ (fun _ => ?_)) | exact ih0 _ _ _ _ _ _ | exact impl_MachineText.mono _ _ _ | exact impl_MemText.mono _ _ | exact impl_spaced.mono _ _ | exact ln_ | refine LeO.ite ?_ ?_ | refine LeO.bind ?_ (fun _ => ?_)
set_option maxHeartbeats 8000000 in
set_option maxRecDepth 100000 in
theorem impl_OutcomeOf.calls (k : Nat) (A0_0 : Option Addr) (c0_0 : Nat) (l0_0 : List Int) (A0_1 : Option Addr) (c0_1 : Nat) (l0_1 : List (S133)) (r : ByteArray) (w : World) (hE_ : EnvOk false w) (hr0_0 : Kd.C (Kd.int .i64) w A0_0 l0_0.length l0_0) (hc0_0 : l0_0.length ≤ c0_0) (hr0_1 : Kd.C k133 w A0_1 l0_1.length l0_1) (hc0_1 : l0_1.length ≤ c0_1) (h : impl_OutcomeOf.f k l0_0 l0_1 = some r) :
  Calls Tryd.prog 53 #[.agg #[.slice A0_0 l0_0.length c0_0, .slice A0_1 l0_1.length c0_1]] w fun e w' => e = .returned (.string r) ∧ Below w.heap.size w w' := by
 have HE_ := Aside0.mk hE_
 clear hE_
 have hu80 := Tryd.underlying80
 have hu133 := Tryd.underlying133
 have hu60 := Tryd.underlying60
 have HR0_0 := Aside0.mk hr0_0
 have HC0_0 := Aside0.mk hc0_0
 clear hr0_0 hc0_0
 have HR0_1 := Aside0.mk hr0_1
 have HC0_1 := Aside0.mk hc0_1
 clear hr0_1 hc0_1
 have HB := Aside0.mk (Below.refl w.heap.size w)
 have H : ((impl_MachineText.f k l0_0 l0_1).bind fun t2 => (if t2.toList = ([] : List UInt8) then (some (⟨#[]⟩ : ByteArray)) else (impl_OutcomeOf.l0 k (⟨#[]⟩ : ByteArray) l0_1 (l0_1.length : Int) 0 l0_0 l0_1))) = some r := h
 clear h
 replace H := Option.bind_eq_some_iff.mp H
 obtain ⟨t2, A20, H⟩ := H
 replace H : (if t2.toList = ([] : List UInt8) then (some (⟨#[]⟩ : ByteArray)) else (impl_OutcomeOf.l0 k (⟨#[]⟩ : ByteArray) l0_1 (l0_1.length : Int) 0 l0_0 l0_1)) = some r := H
 have A2 := Aside0.mk A20
 clear A20
 by_cases c3 : t2.toList = ([] : List UInt8)
 ·rw [if_pos c3] at H
  have c3b0 : (t2.toList == ([] : List UInt8)) = true := beq_iff_eq.mpr c3
  have c3b1 : (t2.toList != ([] : List UInt8)) = false := bne_eq_false_iff_eq.mpr c3
  clear c3
  obtain rfl := Option.some.inj H
  go_enter Tryd.func53, Tryd.ntmps53
  go_wp2_with (first | ((with_reducible refine gate_dst (N := 1) rfl ?_); refine box_event ?hg (N := 1) ?hd (cs := #[.slice A0_0 l0_0.length c0_0, .slice A0_1 l0_1.length c0_1]) (t := 80) ?hr ?_; (case hd => rfl); (case hg => rfl); (case hr => exact hr_); intro gb1 hg w4 hbox hb; have n0_ := bs_ hb; have n1_ := Aside0.mk (hbox); have n2_ := ge_ (w := w) hg; have n3_ := ge_ (w := w) hg; clear HB; have HB := n0_; have BK1 := n1_; have GW1 := n2_; have GE1 := n3_; clear n0_ n1_ n2_ n3_; clear hb hbox hg; obtain ⟨hcz5_0, hcz5_1, hfz5_0, hfz5_1⟩ := bc2_ BK1.out) | ((with_reducible refine gate_callee (f := 56) rfl ?_); refine goesL_ (some 7) rfl rfl Tryd.func56 (by kernel_rfl) rfl #[.agg #[.slice A0_0 l0_0.length c0_0, .slice A0_1 l0_1.length c0_1]] rfl ar_ ?_; (with_reducible refine (impl_MachineText.calls (hE_ := ee_) k _ _ l0_0 _ _ l0_1 t2 _ ?side1 ?side2 ?side3 ?side4 A2.out).mono ?_); (case side1 => exact cb_); (case side2 => exact HC0_0.out); (case side3 => exact cb_); (case side4 => exact HC0_1.out); rintro e w6 ⟨rfl, hb⟩; refine ⟨_, rfl, ?_⟩; have n0_ := bb_ BK1.out hb; have n1_ := bs_ hb; clear BK1; clear HB; have BK1 := n0_; have HB := n1_; clear n0_ n1_; (try clear hb); (try clear hb2); (try clear hk); (try clear hi)))
  go_ret
  exact ⟨rr_, bw_⟩
 rw [if_neg c3] at H
 have c3b0 : (t2.toList == ([] : List UInt8)) = false := beq_eq_false_iff_ne.mpr c3
 have c3b1 : (t2.toList != ([] : List UInt8)) = true := bne_iff_ne.mpr c3
 have H' := Aside0.mk H
 clear H
 go_enter Tryd.func53, Tryd.ntmps53
 go_wp2_with (first | ((with_reducible refine gate_dst (N := 1) rfl ?_); refine box_event ?hg (N := 1) ?hd (cs := #[.slice A0_0 l0_0.length c0_0, .slice A0_1 l0_1.length c0_1]) (t := 80) ?hr ?_; (case hd => rfl); (case hg => rfl); (case hr => exact hr_); intro gb1 hg w7 hbox hb; have n0_ := bs_ hb; have n1_ := Aside0.mk (hbox); have n2_ := ge_ (w := w) hg; have n3_ := ge_ (w := w) hg; clear HB; have HB := n0_; have BK1 := n1_; have GW1 := n2_; have GE1 := n3_; clear n0_ n1_ n2_ n3_; clear hb hbox hg; obtain ⟨hcz8_0, hcz8_1, hfz8_0, hfz8_1⟩ := bc2_ BK1.out) | ((with_reducible refine gate_callee (f := 56) rfl ?_); refine goesL_ (some 7) rfl rfl Tryd.func56 (by kernel_rfl) rfl #[.agg #[.slice A0_0 l0_0.length c0_0, .slice A0_1 l0_1.length c0_1]] rfl ar_ ?_; (with_reducible refine (impl_MachineText.calls (hE_ := ee_) k _ _ l0_0 _ _ l0_1 t2 _ ?side1 ?side2 ?side3 ?side4 A2.out).mono ?_); (case side1 => exact cb_); (case side2 => exact HC0_0.out); (case side3 => exact cb_); (case side4 => exact HC0_1.out); rintro e w9 ⟨rfl, hb⟩; refine ⟨_, rfl, ?_⟩; have n0_ := bb_ BK1.out hb; have n1_ := bs_ hb; clear BK1; clear HB; have BK1 := n0_; have HB := n1_; clear n0_ n1_; (try clear hb); (try clear hb2); (try clear hk); (try clear hi); obtain ⟨hcz10_0, hcz10_1, hfz10_0, hfz10_1⟩ := bc2_ BK1.out))
 go_loopg [3, 12] k (fun kq v3 v12 w' => ∃ (x3_1 : ByteArray) (x12_1 : Int), v3 = .string x3_1 ∧ v12 = .int .i64 x12_1 ∧ Aside0 (impl_OutcomeOf.l0 kq x3_1 l0_1 (l0_1.length : Int) x12_1 l0_0 l0_1 = some r) ∧ Aside0 (kq ≤ k) ∧ Aside0 (w'.heap[gb1]? = some (.cells #[(.slice A0_0 l0_0.length c0_0), (.slice A0_1 l0_1.length c0_1)] 80 (0, 0))) ∧ Aside0 (Below w.heap.size w w'))
 case atStart => exact ⟨((⟨#[]⟩ : ByteArray)), (0), sd_, sd_, H', ⟨Nat.le_refl _⟩, ⟨bk_⟩, ⟨bw_⟩⟩
 case round =>
  clear H'
  try clear p2
  try clear c3
  try clear c3b0
  try clear c3b1
  try clear c5
  try clear hcz10_0 hcz10_1
  try clear hcz5_0 hcz5_1
  try clear hcz8_0 hcz8_1
  try clear hfz10_0 hfz10_1
  try clear hfz5_0 hfz5_1
  try clear hfz8_0 hfz8_1
  obtain ⟨x3_1, x12_1, rfl, rfl, HA, HK1, BK1, HB⟩ := hrel
  cases gk with
  | zero => exact absurd HA.out (by simp [impl_OutcomeOf.l0])
  | succ k1 =>
   have H := HA.out
   clear HA
   simp only [impl_OutcomeOf.l0] at H
   by_cases c11 : x12_1 < (l0_1.length : Int)
   rotate_left
   ·rw [if_neg c11] at H
    have c11b0 : decide (x12_1 < (l0_1.length : Int)) = false := decide_eq_false c11
    clear c11
    replace H := Option.bind_eq_some_iff.mp H
    obtain ⟨t6, A210, H⟩ := H
    replace H : (if x3_1.size + t6.size ≤ 9223372036854775807 then (some (x3_1 ++ t6)) else (none)) = some r := H
    have A21 := Aside0.mk A210
    clear A210
    by_cases c22 : x3_1.size + t6.size ≤ 9223372036854775807
    rotate_left
    ·rw [if_neg c22] at H
     exact absurd H (by simp)
    rw [if_pos c22] at H
    have c22b0 := eq_true c22
    have c22b1 : decide (x3_1.size + t6.size ≤ 9223372036854775807) = true := decide_eq_true c22
    try have c22b2 : (9223372036854775807 < x3_1.size + t6.size) = False := eq_false (Nat.not_lt.2 c22)
    obtain rfl := Option.some.inj H
    obtain ⟨hcz23_0, hcz23_1, hfz23_0, hfz23_1⟩ := bc2_ BK1.out
    go_wp2_with (first | ((with_reducible refine gate_callee (f := 40) rfl ?_); refine goesL_ (some 26) rfl rfl Tryd.func40 (by kernel_rfl) rfl #[.agg #[.slice A0_0 l0_0.length c0_0]] rfl ar_ ?_; (with_reducible refine (impl_MemText.calls (hE_ := ee_) k1 _ _ l0_0 t6 _ ?side1 ?side2 A21.out).mono ?_); (case side1 => exact cb_); (case side2 => exact HC0_0.out); rintro e w24 ⟨rfl, hb⟩; refine ⟨_, rfl, ?_⟩; have n0_ := bb_ BK1.out hb; have n1_ := bs_ hb; clear BK1; clear HB; have BK1 := n0_; have HB := n1_; clear n0_ n1_; (try clear hb); (try clear hb2); (try clear hk); (try clear hi)))
    go_ret
    exact ⟨rr_, bw_⟩
   rw [if_pos c11] at H
   have c11b0 : decide (x12_1 < (l0_1.length : Int)) = true := decide_eq_true c11
   clear c11
   by_cases c12 : 0 ≤ x12_1
   rotate_left
   ·rw [if_neg c12] at H
    exact absurd H (by simp)
   rw [if_pos c12] at H
   have c12b0 : decide (0 ≤ x12_1) = true := decide_eq_true c12
   clear c12
   by_cases c13 : x12_1 < (l0_1.length : Int)
   rotate_left
   ·rw [if_neg c13] at H
    exact absurd H (by simp)
   rw [if_pos c13] at H
   have c13b0 : decide (x12_1 < (l0_1.length : Int)) = true := decide_eq_true c13
   clear c13
   replace H := Option.bind_eq_some_iff.mp H
   obtain ⟨t5, A140, H⟩ := H
   replace H : (if t5.size + 3 ≤ 9223372036854775807 then (if x3_1.size + (t5 ++ (⟨#[32, 124, 32]⟩ : ByteArray)).size ≤ 9223372036854775807 then (impl_OutcomeOf.l0 k1 (x3_1 ++ (t5 ++ (⟨#[32, 124, 32]⟩ : ByteArray))) l0_1 (l0_1.length : Int) (wrap64 (x12_1 + 1)) l0_0 l0_1) else (none)) else (none)) = some r := H
   have A14 := Aside0.mk A140
   clear A140
   by_cases c15 : t5.size + 3 ≤ 9223372036854775807
   rotate_left
   ·rw [if_neg c15] at H
    exact absurd H (by simp)
   rw [if_pos c15] at H
   have c15b0 := eq_true c15
   have c15b1 : decide (t5.size + 3 ≤ 9223372036854775807) = true := decide_eq_true c15
   try have c15b2 : (9223372036854775807 < t5.size + 3) = False := eq_false (Nat.not_lt.2 c15)
   by_cases c16 : x3_1.size + (t5 ++ (⟨#[32, 124, 32]⟩ : ByteArray)).size ≤ 9223372036854775807
   rotate_left
   ·rw [if_neg c16] at H
    exact absurd H (by simp)
   rw [if_pos c16] at H
   have c16b0 := eq_true c16
   have c16z0 := eq_true (show x3_1.size + (t5.size + 3) ≤ 9223372036854775807 by have h_ := c16; simp only [ByteArray.size_append] at h_; exact h_)
   have c16z2 : (9223372036854775807 < x3_1.size + (t5.size + 3)) = False := eq_false (Nat.not_lt.2 (show x3_1.size + (t5.size + 3) ≤ 9223372036854775807 by have h_ := c16; simp only [ByteArray.size_append] at h_; exact h_))
   have c16b1 : decide (x3_1.size + (t5 ++ (⟨#[32, 124, 32]⟩ : ByteArray)).size ≤ 9223372036854775807) = true := decide_eq_true c16
   try have c16b2 : (9223372036854775807 < x3_1.size + (t5 ++ (⟨#[32, 124, 32]⟩ : ByteArray)).size) = False := eq_false (Nat.not_lt.2 c16)
   have H' := Aside0.mk H
   clear H
   have p3 : 0 ≤ (x12_1 : Int) := od_
   have q3 : x12_1 < (l0_1.length : Int) := od_
   obtain ⟨ad3, A3_1, c3_1, A3_2, c3_2, e3, hx3_0, hx3_1, hx3_2, hl3_1, hi3_1, hl3_2, hi3_2⟩ := at_T133 HR0_1.out x12_1 p3 q3
   cases e3
   replace hx3_0 := (HB.out.cell (World.block_lt_of_cell? w _ hx3_0)).trans hx3_0
   replace hx3_1 := (HB.out.cell (World.block_lt_of_cell? w _ hx3_1)).trans hx3_1
   replace hx3_2 := (HB.out.cell (World.block_lt_of_cell? w _ hx3_2)).trans hx3_2
   have HR3_1 := Aside0.mk hi3_1
   have HC3_1 := Aside0.mk hl3_1
   clear hi3_1 hl3_1
   have HR3_2 := Aside0.mk hi3_2
   have HC3_2 := Aside0.mk hl3_2
   clear hi3_2 hl3_2
   replace p3 := eq_true p3
   replace q3 := eq_true q3
   go_wp2_with (first | ((with_reducible refine gate_dst (N := 5) rfl ?_); refine box_event ?hg (N := 5) ?hd (cs := #[.int .i64 0, .slice none 0 0, .slice none 0 0]) (t := 133) ?hr ?_; (case hd => rfl); (case hg => rfl); (case hr => exact hr_); intro gb4 hg w17 hbox hb; have n0_ := bb_ BK1.out hb; have n1_ := bs_ hb; have n2_ := Aside0.mk (hbox); have n3_ := ge_ (w := w) hg; have n4_ := ge_ (w := w) hg; have n5_ := nl_ BK1.out hg; have n6_ := nr_ BK1.out hg; clear BK1; clear HB; have BK1 := n0_; have HB := n1_; have BK4 := n2_; have GW4 := n3_; have GE4 := n4_; have NB1_4 := n5_; have NB4_1 := n6_; clear n0_ n1_ n2_ n3_ n4_ n5_ n6_; clear hb hbox hg; have hnb18 := NB4_1.out; have hnc18 := NB1_4.out; obtain ⟨hcz19_0, hcz19_1, hcz19_2, hfz19_0, hfz19_1, hfz19_2⟩ := bc3_ BK4.out) | ((with_reducible refine gate_callee (f := 104) rfl ?_); refine goesL_ (some 19) rfl rfl Tryd.func104 (by kernel_rfl) rfl #[.slice A3_1 ((rd_T133 l0_1 x12_1).f1).length c3_1] rfl ar_ ?_; (with_reducible refine (impl_spaced.calls (hE_ := ee_) k1 _ _ ((rd_T133 l0_1 x12_1).f1) t5 _ ?side1 ?side2 A14.out).mono ?_); (case side1 => exact Kd.C_below HR3_1.out bw_); (case side2 => exact HC3_1.out); rintro e w20 ⟨rfl, hb⟩; refine ⟨_, rfl, ?_⟩; have n0_ := Aside0.mk (blk_below (g := gb1) (o := .cells #[.slice A0_0 l0_0.length c0_0, .slice (some ad3) l0_1.length c0_1] 80 (0, 0)) (by (with_reducible repeat (first | refine blk_drewN ?_ _ | refine blk_drew ?_ | refine blk_alloc ?_ _)); refine blk_far ?_ NB1_4.out _; (with_reducible repeat (first | refine blk_drewN ?_ _ | refine blk_drew ?_ | refine blk_alloc ?_ _)); refine blk_far ?_ NB1_4.out _; (with_reducible repeat (first | refine blk_drewN ?_ _ | refine blk_drew ?_ | refine blk_alloc ?_ _)); refine blk_far ?_ NB1_4.out _; (with_reducible repeat (first | refine blk_drewN ?_ _ | refine blk_drew ?_ | refine blk_alloc ?_ _)); exact BK1.out) hb); have n1_ := Aside0.mk (blk_below (g := gb4) (o := .cells #[.int .i64 ((rd_T133 l0_1 x12_1).f0), .slice A3_1 ((rd_T133 l0_1 x12_1).f1).length c3_1, .slice A3_2 ((rd_T133 l0_1 x12_1).f2).length c3_2] 133 (0, 0)) (by (with_reducible repeat (first | refine blk_drewN ?_ _ | refine blk_drew ?_ | refine blk_alloc ?_ _)); refine blk_put (cs := #[.int .i64 ((rd_T133 l0_1 x12_1).f0), .slice A3_1 ((rd_T133 l0_1 x12_1).f1).length c3_1, .slice none 0 0]) ?_ 2 _ rfl; (with_reducible repeat (first | refine blk_drewN ?_ _ | refine blk_drew ?_ | refine blk_alloc ?_ _)); refine blk_put (cs := #[.int .i64 ((rd_T133 l0_1 x12_1).f0), .slice none 0 0, .slice none 0 0]) ?_ 1 _ rfl; (with_reducible repeat (first | refine blk_drewN ?_ _ | refine blk_drew ?_ | refine blk_alloc ?_ _)); refine blk_put (cs := #[.int .i64 0, .slice none 0 0, .slice none 0 0]) ?_ 0 _ rfl; (with_reducible repeat (first | refine blk_drewN ?_ _ | refine blk_drew ?_ | refine blk_alloc ?_ _)); exact BK4.out) hb); have n2_ := bs_ hb; clear BK1; clear BK4; clear HB; have BK1 := n0_; have BK4 := n1_; have HB := n2_; clear n0_ n1_ n2_; (try clear hb); (try clear hb2); (try clear hk); (try clear hi)))
   go_roundg k1
   case measure => have := HK1.out; omega
   case rel => exact ⟨(x3_1 ++ (t5 ++ (⟨#[32, 124, 32]⟩ : ByteArray))), (wrap64 (x12_1 + 1)), sd_, sd_, H', ⟨by have := HK1.out; omega⟩, ⟨bk_⟩, ⟨bw_⟩⟩

end Go.Proofs.YtchpopocnaoabaaDoor.P
