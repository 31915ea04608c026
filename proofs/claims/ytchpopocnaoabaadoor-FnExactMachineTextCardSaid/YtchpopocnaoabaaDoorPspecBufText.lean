-- Written by mp.py (the session's own driver over the kit's printer) for the seat YtchpopocnaoabaaDoor.
import Derived.Test.YtchpopocnaoabaaDoorK
import Derived.Test.YtchpopocnaoabaaDoorPlawsszSlotS
import Derived.Test.YtchpopocnaoabaaDoorPspecl01In
namespace Go.Proofs.YtchpopocnaoabaaDoor.P
open Go.RowKit Go.Proofs.YtchpopocnaoabaaDoorW.PrintWords Go.Proofs.YtchpopocnaoabaaDoorW.PrintLast Go.Proofs.YtchpopocnaoabaaDoorW.PrintMore
attribute [local go_sem] max2_int min2_int max_two min_two max_three min_three max_four min_four
set_option linter.unusedVariables false
set_option linter.unusedSimpArgs false

/-! ### spec_BufText: function 33 -/
def spec_BufText.l0 : Nat → List (S119) → ByteArray → Int → Option (ByteArray)
 | 0, _, _, _ => none
 | k + 1, x0, x3, x4 => if x4 < (x0.length : Int) then (if x4 > 0 then (if x3.size + 1 ≤ 9223372036854775807 then (if 0 ≤ x4 then ((spec_l01Num.f k ((rd_T119 x0 x4).f0)).bind fun t3 => (if (x3 ++ (⟨#[32]⟩ : ByteArray)).size + t3.size ≤ 9223372036854775807 then (if ((x3 ++ (⟨#[32]⟩ : ByteArray)) ++ t3).size + 1 ≤ 9223372036854775807 then ((spec_l01Num.f k ((rd_T119 x0 x4).f1)).bind fun t5 => (if (((x3 ++ (⟨#[32]⟩ : ByteArray)) ++ t3) ++ (⟨#[61]⟩ : ByteArray)).size + t5.size ≤ 9223372036854775807 then (spec_BufText.l0 k x0 ((((x3 ++ (⟨#[32]⟩ : ByteArray)) ++ t3) ++ (⟨#[61]⟩ : ByteArray)) ++ t5) (wrap64 (x4 + 1))) else (none))) else (none)) else (none))) else (none)) else (none)) else (if 0 ≤ x4 then ((spec_l01Num.f k ((rd_T119 x0 x4).f0)).bind fun t7 => (if x3.size + t7.size ≤ 9223372036854775807 then (if (x3 ++ t7).size + 1 ≤ 9223372036854775807 then ((spec_l01Num.f k ((rd_T119 x0 x4).f1)).bind fun t9 => (if ((x3 ++ t7) ++ (⟨#[61]⟩ : ByteArray)).size + t9.size ≤ 9223372036854775807 then (spec_BufText.l0 k x0 (((x3 ++ t7) ++ (⟨#[61]⟩ : ByteArray)) ++ t9) (wrap64 (x4 + 1))) else (none))) else (none)) else (none))) else (none))) else (some x3)
def spec_BufText.f (k : Nat) (l0 : List (S119)) : Option (ByteArray) := (spec_BufOk.f k l0).bind fun t1 => (if t1 = true then (if (l0.length : Int) = 0 then (some (⟨#[45]⟩ : ByteArray)) else (spec_BufText.l0 k l0 (⟨#[]⟩ : ByteArray) 0)) else (some (⟨#[]⟩ : ByteArray)))
theorem spec_BufText.mono_l : ∀ k, (∀ y0 y1 y2, LeO (spec_BufText.l0 k y0 y1 y2) (spec_BufText.l0 (k + 1) y0 y1 y2))
 | 0 => fun _ _ _ r h => by simp [spec_BufText.l0] at h
 | k + 1 => by
  have ih0 := spec_BufText.mono_l k
  ·intro y0 y1 y2
   unfold spec_BufText.l0
   repeat' first | (with_reducible first | exact ih0 _ _ _ | exact spec_BufOk.mono _ _ | exact spec_l01Num.mono _ _ | exact lr_ | exact ln_ | refine LeO.ite ?_ ?_ | refine LeO.bind ?_ (fun _ => ?_)) | exact ih0 _ _ _ | exact spec_BufOk.mono _ _ | exact spec_l01Num.mono _ _ | exact ln_ | refine LeO.ite ?_ ?_ | refine LeO.bind ?_ (fun _ => ?_)
theorem spec_BufText.mono : ∀ a0 k, LeO (spec_BufText.f k a0) (spec_BufText.f (k + 1) a0) := by
 intro a0 k
 have ih0 := spec_BufText.mono_l k
 unfold spec_BufText.f
 repeat' first | (with_reducible first | exact ih0 _ _ _ | exact spec_BufOk.mono _ _ | exact spec_l01Num.mono _ _ | exact lr_ | exact ln_ | refine LeO.ite ?_ ?_ | refine LeO.bind ?_ (fun _ => ?_)) | exact ih0 _ _ _ | exact spec_BufOk.mono _ _ | exact spec_l01Num.mono _ _ | exact ln_ | refine LeO.ite ?_ ?_ | refine LeO.bind ?_ (fun _ => ?_)
def spec_BufText.T11 : Bool × List (List Nat × List Nat) := (true, [([], []), ([], []), ([], []), ([1, 2], [1, 2]), ([3], [3]), ([4], [4]), ([5], [5]), ([0, 6], [0, 6]), ([7], [7]), ([], []), ([], []), ([9, 10], [9, 10]), ([11], [11]), ([12], [12]), ([13, 6], [13]), ([8, 14], [8, 14]), ([15, 14, 0, 1, 2, 3, 4, 5, 6, 7, 8, 9, 10, 11, 12, 13, 14, 15], [0, 15])])
def spec_BufText.B11 : List Nat := [0, 0, 0, 6, 14, 30, 62, 127, 255, 0, 0, 1536, 3584, 7680, 15998, 32767, 65535]
theorem spec_BufText.tab11 : rtab .any (opsOf Tryd.f33 11) = spec_BufText.T11 := by kernel_rfl
theorem spec_BufText.bits11 : waitsOk spec_BufText.T11.2 spec_BufText.B11 = true := by kernel_rfl
set_option maxHeartbeats 8000000 in
set_option maxRecDepth 100000 in
theorem spec_BufText.calls (k : Nat) (A0 : Option Addr) (c0 : Nat) (l0 : List (S119)) (r : ByteArray) (w : World) (hr0 : Kd.C k119 w A0 l0.length l0) (hc0 : l0.length ≤ c0) (h : spec_BufText.f k l0 = some r) :
  Calls Tryd.prog 33 #[.slice A0 l0.length c0] w fun e w' => e = .returned (.string r) ∧ Below w.heap.size w w' := by
 have HR0 := Aside0.mk hr0
 have HC0 := Aside0.mk hc0
 clear hr0 hc0
 have HB := Aside0.mk (Below.refl w.heap.size w)
 have H : ((spec_BufOk.f k l0).bind fun t1 => (if t1 = true then (if (l0.length : Int) = 0 then (some (⟨#[45]⟩ : ByteArray)) else (spec_BufText.l0 k l0 (⟨#[]⟩ : ByteArray) 0)) else (some (⟨#[]⟩ : ByteArray)))) = some r := h
 clear h
 replace H := Option.bind_eq_some_iff.mp H
 obtain ⟨t1, A20, H⟩ := H
 replace H : (if t1 = true then (if (l0.length : Int) = 0 then (some (⟨#[45]⟩ : ByteArray)) else (spec_BufText.l0 k l0 (⟨#[]⟩ : ByteArray) 0)) else (some (⟨#[]⟩ : ByteArray))) = some r := H
 have A2 := Aside0.mk A20
 clear A20
 by_cases c3 : t1 = true
 rotate_left
 ·replace c3 := Bool.eq_false_iff.mpr c3
  subst c3
  have H1 : (some (⟨#[]⟩ : ByteArray)) = some r := by rw [if_neg (show ¬ (false = true) by decide)] at H; exact H
  clear H
  have H := H1
  clear H1
  obtain rfl := Option.some.inj H
  go_enter Tryd.func33, Tryd.ntmps33
  go_wp2_with (first | ((with_reducible refine gate_callee (f := 96) rfl ?_); refine goesL_ (some 6) rfl rfl Tryd.func96 (by kernel_rfl) rfl #[.slice A0 l0.length c0] rfl ar_ ?_; (with_reducible refine (spec_BufOk.calls k _ _ l0 false _ ?side1 ?side2 A2.out).mono ?_); (case side1 => repeat (first | exact HR0.out | (with_reducible refine Kd.C_alloc ?_ _) | (with_reducible refine Kd.C_drewN ?_ _) | (with_reducible refine Kd.C_drew ?_))); (case side2 => exact HC0.out); rintro e w' ⟨rfl, ⟨nd, rfl⟩⟩; refine ⟨_, rfl, ?_⟩))
  go_ret
  exact ⟨rr_, bw_⟩
 subst c3
 have H1 : (if (l0.length : Int) = 0 then (some (⟨#[45]⟩ : ByteArray)) else (spec_BufText.l0 k l0 (⟨#[]⟩ : ByteArray) 0)) = some r := by rw [if_pos rfl] at H; exact H
 clear H
 have H := H1
 clear H1
 by_cases c4 : (l0.length : Int) = 0
 ·rw [if_pos c4] at H
  have c4b0 : ((l0.length : Int) == 0) = true := beq_iff_eq.mpr c4
  have c4b1 : ((l0.length : Int) != 0) = false := bne_eq_false_iff_eq.mpr c4
  clear c4
  obtain rfl := Option.some.inj H
  go_enter Tryd.func33, Tryd.ntmps33
  go_wp2_with (first | ((with_reducible refine gate_callee (f := 96) rfl ?_); refine goesL_ (some 6) rfl rfl Tryd.func96 (by kernel_rfl) rfl #[.slice A0 l0.length c0] rfl ar_ ?_; (with_reducible refine (spec_BufOk.calls k _ _ l0 true _ ?side1 ?side2 A2.out).mono ?_); (case side1 => repeat (first | exact HR0.out | (with_reducible refine Kd.C_alloc ?_ _) | (with_reducible refine Kd.C_drewN ?_ _) | (with_reducible refine Kd.C_drew ?_))); (case side2 => exact HC0.out); rintro e w' ⟨rfl, ⟨nd, rfl⟩⟩; refine ⟨_, rfl, ?_⟩))
  go_ret
  exact ⟨rr_, bw_⟩
 rw [if_neg c4] at H
 have c4b0 : ((l0.length : Int) == 0) = false := beq_eq_false_iff_ne.mpr c4
 have c4b1 : ((l0.length : Int) != 0) = true := bne_iff_ne.mpr c4
 have c4b2 : ¬ (l0 = []) := fun h_ => c4 (by rw [h_]; rfl)
 have H' := Aside0.mk H
 clear H
 go_enter Tryd.func33, Tryd.ntmps33
 go_wp2_with (first | ((with_reducible refine gate_callee (f := 96) rfl ?_); refine goesL_ (some 6) rfl rfl Tryd.func96 (by kernel_rfl) rfl #[.slice A0 l0.length c0] rfl ar_ ?_; (with_reducible refine (spec_BufOk.calls k _ _ l0 true _ ?side1 ?side2 A2.out).mono ?_); (case side1 => repeat (first | exact HR0.out | (with_reducible refine Kd.C_alloc ?_ _) | (with_reducible refine Kd.C_drewN ?_ _) | (with_reducible refine Kd.C_drew ?_))); (case side2 => exact HC0.out); rintro e w' ⟨rfl, ⟨nd, rfl⟩⟩; refine ⟨_, rfl, ?_⟩))
 go_loopg [3, 4] k (fun kq v3 v4 w' => ∃ (x3_1 : ByteArray) (x4_1 : Int), v3 = .string x3_1 ∧ v4 = .int .i64 x4_1 ∧ Aside0 (spec_BufText.l0 kq l0 x3_1 x4_1 = some r) ∧ Aside0 (kq ≤ k) ∧ Aside0 (Below w.heap.size w w'))
 case atStart => exact ⟨((⟨#[]⟩ : ByteArray)), (0), sd_, sd_, H', ⟨Nat.le_refl _⟩, ⟨bw_⟩⟩
 case round =>
  clear H'
  try clear p2
  try clear c3
  try clear c4
  try clear c4b0
  try clear c4b1
  try clear c4b2
  obtain ⟨x3_1, x4_1, rfl, rfl, HA, HK1, HB⟩ := hrel
  cases gk with
  | zero => exact absurd HA.out (by simp [spec_BufText.l0])
  | succ k1 =>
   have H := HA.out
   clear HA
   simp only [spec_BufText.l0] at H
   by_cases c5 : x4_1 < (l0.length : Int)
   rotate_left
   ·rw [if_neg c5] at H
    have c5b0 : decide (x4_1 < (l0.length : Int)) = false := decide_eq_false c5
    clear c5
    obtain rfl := Option.some.inj H
    go_wp2
    go_ret
    exact ⟨rr_, bw_⟩
   rw [if_pos c5] at H
   have c5b0 : decide (x4_1 < (l0.length : Int)) = true := decide_eq_true c5
   clear c5
   by_cases c6 : x4_1 > 0
   rotate_left
   ·rw [if_neg c6] at H
    have c6b0 : decide (0 < x4_1) = false := decide_eq_false c6
    clear c6
    by_cases c17 : 0 ≤ x4_1
    rotate_left
    ·rw [if_neg c17] at H
     exact absurd H (by simp)
    rw [if_pos c17] at H
    have c17b0 : decide (0 ≤ x4_1) = true := decide_eq_true c17
    clear c17
    replace H := Option.bind_eq_some_iff.mp H
    obtain ⟨t7, A180, H⟩ := H
    replace H : (if x3_1.size + t7.size ≤ 9223372036854775807 then (if (x3_1 ++ t7).size + 1 ≤ 9223372036854775807 then ((spec_l01Num.f k1 ((rd_T119 l0 x4_1).f1)).bind fun t9 => (if ((x3_1 ++ t7) ++ (⟨#[61]⟩ : ByteArray)).size + t9.size ≤ 9223372036854775807 then (spec_BufText.l0 k1 l0 (((x3_1 ++ t7) ++ (⟨#[61]⟩ : ByteArray)) ++ t9) (wrap64 (x4_1 + 1))) else (none))) else (none)) else (none)) = some r := H
    have A18 := Aside0.mk A180
    clear A180
    by_cases c19 : x3_1.size + t7.size ≤ 9223372036854775807
    rotate_left
    ·rw [if_neg c19] at H
     exact absurd H (by simp)
    rw [if_pos c19] at H
    have c19b0 := eq_true c19
    have c19b1 : decide (x3_1.size + t7.size ≤ 9223372036854775807) = true := decide_eq_true c19
    try have c19b2 : (9223372036854775807 < x3_1.size + t7.size) = False := eq_false (Nat.not_lt.2 c19)
    by_cases c20 : (x3_1 ++ t7).size + 1 ≤ 9223372036854775807
    rotate_left
    ·rw [if_neg c20] at H
     exact absurd H (by simp)
    rw [if_pos c20] at H
    have c20b0 := eq_true c20
    have c20z0 := eq_true (show (x3_1.size + t7.size) + 1 ≤ 9223372036854775807 by have h_ := c20; simp only [ByteArray.size_append] at h_; exact h_)
    have c20z2 : (9223372036854775807 < (x3_1.size + t7.size) + 1) = False := eq_false (Nat.not_lt.2 (show (x3_1.size + t7.size) + 1 ≤ 9223372036854775807 by have h_ := c20; simp only [ByteArray.size_append] at h_; exact h_))
    have c20b1 : decide ((x3_1 ++ t7).size + 1 ≤ 9223372036854775807) = true := decide_eq_true c20
    try have c20b2 : (9223372036854775807 < (x3_1 ++ t7).size + 1) = False := eq_false (Nat.not_lt.2 c20)
    replace H := Option.bind_eq_some_iff.mp H
    obtain ⟨t9, A210, H⟩ := H
    replace H : (if ((x3_1 ++ t7) ++ (⟨#[61]⟩ : ByteArray)).size + t9.size ≤ 9223372036854775807 then (spec_BufText.l0 k1 l0 (((x3_1 ++ t7) ++ (⟨#[61]⟩ : ByteArray)) ++ t9) (wrap64 (x4_1 + 1))) else (none)) = some r := H
    have A21 := Aside0.mk A210
    clear A210
    by_cases c22 : ((x3_1 ++ t7) ++ (⟨#[61]⟩ : ByteArray)).size + t9.size ≤ 9223372036854775807
    rotate_left
    ·rw [if_neg c22] at H
     exact absurd H (by simp)
    rw [if_pos c22] at H
    have c22b0 := eq_true c22
    have c22z0 := eq_true (show (x3_1.size + t7.size + 1) + t9.size ≤ 9223372036854775807 by have h_ := c22; simp only [ByteArray.size_append] at h_; exact h_)
    have c22z2 : (9223372036854775807 < (x3_1.size + t7.size + 1) + t9.size) = False := eq_false (Nat.not_lt.2 (show (x3_1.size + t7.size + 1) + t9.size ≤ 9223372036854775807 by have h_ := c22; simp only [ByteArray.size_append] at h_; exact h_))
    have c22b1 : decide (((x3_1 ++ t7) ++ (⟨#[61]⟩ : ByteArray)).size + t9.size ≤ 9223372036854775807) = true := decide_eq_true c22
    try have c22b2 : (9223372036854775807 < ((x3_1 ++ t7) ++ (⟨#[61]⟩ : ByteArray)).size + t9.size) = False := eq_false (Nat.not_lt.2 c22)
    have H' := Aside0.mk H
    clear H
    try go_wp2
    have n0_ := Aside0.mk (below_drew1 HB.out)
    clear HB
    have HB := n0_
    clear n0_
    have p6 : 0 ≤ (x4_1 : Int) := od_
    have q6 : x4_1 < (l0.length : Int) := od_
    obtain ⟨ad6, e6, hx6_0, hx6_1⟩ := at_T119 HR0.out x4_1 p6 q6
    have hw6_1 := hx6_1
    have hw6_0 := hx6_0
    cases e6
    replace hx6_0 := (HB.out.cell (World.block_lt_of_cell? w _ hx6_0)).trans hx6_0
    replace hx6_1 := (HB.out.cell (World.block_lt_of_cell? w _ hx6_1)).trans hx6_1
    replace p6 := eq_true p6
    replace q6 := eq_true q6
    have p8 : 0 ≤ (x4_1 : Int) := od_
    have q8 : x4_1 < (l0.length : Int) := od_
    obtain ⟨ad8, e8, hx8_0, hx8_1⟩ := at_T119 HR0.out x4_1 p8 q8
    have hw8_1 := hx8_1
    have hw8_0 := hx8_0
    obtain rfl : ad6 = ad8 := (by injection e8)
    replace hx8_0 := (HB.out.cell (World.block_lt_of_cell? w _ hx8_0)).trans hx8_0
    replace hx8_1 := (HB.out.cell (World.block_lt_of_cell? w _ hx8_1)).trans hx8_1
    replace p8 := eq_true p8
    replace q8 := eq_true q8
    refine start_ (n := 17) (S := fun w' => w'.cell? (ad6.add ((x4_1).toNat * 2)) = some (.int .i64 ((rd_T119 l0 x4_1).f0)) ∧ w'.cell? ⟨(ad6.add ((x4_1).toNat * 2)).block, (ad6.add ((x4_1).toNat * 2)).off + 1, none⟩ = some (.int .i64 ((rd_T119 l0 x4_1).f1)) ∧ w'.cell? (ad6.add ((x4_1).toNat * 2)) = some (.int .i64 ((rd_T119 l0 x4_1).f0)) ∧ w'.cell? ⟨(ad6.add ((x4_1).toNat * 2)).block, (ad6.add ((x4_1).toNat * 2)).off + 1, none⟩ = some (.int .i64 ((rd_T119 l0 x4_1).f1))) (ds := []) #[false, false, false, false, false, false, false, false, false, false, false, false, false, false, false, false, false] (by kernel_rfl) rfl rfl ⟨((HB.out.cell (World.block_lt_of_cell? w _ hw6_0)).trans hw6_0), ((HB.out.cell (World.block_lt_of_cell? w _ hw6_1)).trans hw6_1), ((HB.out.cell (World.block_lt_of_cell? w _ hw8_0)).trans hw8_0), ((HB.out.cell (World.block_lt_of_cell? w _ hw8_1)).trans hw8_1)⟩ (fun hHeld => ?_); refine with_tabW spec_BufText.tab11 spec_BufText.bits11 (fun HT_ HW_ => ?_)
    generalize wr.drew = w23 at HB hx6_0 hx6_1 hx8_0 hx8_1 hHeld ⊢
    refine pure_ (i := 0) (N := some 21) (bm_ 17 1) rfl rfl (any_of HT_.out kr_) (fun _ _ _ h => h) (Or.inl ⟨rfl, yi_⟩) pu_ ?_
    refine pure_ (i := 1) (N := some 22) (bm_ 17 3) rfl rfl (any_of HT_.out kr_) (fun _ _ _ h => h) (Or.inl ⟨rfl, yi_⟩) pu_ ?_
    refine pure_ (i := 2) (N := some 23) (bm_ 17 7) rfl rfl (any_of HT_.out kr_) (fun _ _ _ h => h) (Or.inl ⟨rfl, yi_⟩) pu_ ?_
    refine pure_ (i := 3) (N := some 24) (bm_ 17 15) rfl rfl (any_of HT_.out kr_) (fun _ _ _ h => h) (Or.inl ⟨rfl, yi_⟩) pu_ ?_
    refine pure_ (i := 4) (N := some 25) (bm_ 17 31) rfl rfl (any_of HT_.out kr_) (fun _ _ _ h => h) (Or.inl ⟨rfl, yi_⟩) pu_ ?_
    refine pure_ (i := 9) (N := some 30) (bm_ 17 543) rfl rfl (any_of HT_.out kr_) (fun _ _ _ h => h) (Or.inl ⟨rfl, yi_⟩) pu_ ?_
    refine pure_ (i := 10) (N := some 31) (bm_ 17 1567) rfl rfl (any_of HT_.out kr_) (fun _ _ _ h => h) (Or.inl ⟨rfl, yi_⟩) pu_ ?_
    refine pure_ (i := 11) (N := some 32) (bm_ 17 3615) rfl rfl (any_of HT_.out kr_) (fun _ _ _ h => h) (Or.inl ⟨rfl, yi_⟩) pu_ ?_
    refine pure_ (i := 12) (N := some 33) (bm_ 17 7711) rfl rfl (any_of HT_.out kr_) (fun _ _ _ h => h) (Or.inl ⟨rfl, yi_⟩) pu_ ?_
    refine take_ (i := 5) (N := some 26) (v := ?_) (a' := ?_) (bm_ 17 7743) rfl rfl (take_ofW HT_.out HW_.out (by kernel_rfl)) (fun _ _ _ h => h) (Or.inl ⟨by rfl, ?_⟩) hHeld ?_ ?_
    rotate_left
    ·rintro w' ⟨s0, s1, s2, s3⟩
     go_simp
     with_reducible rfl
    rotate_left
    ·exact pu_
    refine take_ (i := 13) (N := some 34) (v := ?_) (a' := ?_) (bm_ 17 15935) rfl rfl (take_ofW HT_.out HW_.out (by kernel_rfl)) (fun _ _ _ h => h) (Or.inl ⟨by rfl, ?_⟩) hHeld ?_ ?_
    rotate_left
    ·rintro w' ⟨s0, s1, s2, s3⟩
     go_simp
     with_reducible rfl
    rotate_left
    ·exact pu_
    refine one_ (i := 6) (N := some 27) (bm_ 17 15999) rfl rfl (one_of HT_.out (by kernel_rfl)) (by decide) (fun K hK => ?_)
    refine goes_ Tryd.func89 (by kernel_rfl) rfl #[.int .i64 ((rd_T119 l0 x4_1).f0)] (by rfl) rfl rfl ar_ ?_
    with_reducible refine (spec_l01Num.calls k1 ((rd_T119 l0 x4_1).f0) t7 _ A18.out).mono ?_
    rintro e w24 ⟨rfl, hb⟩
    refine ⟨_, rfl, ?_⟩
    have n0_ := bs_ hb
    clear HB
    have HB := n0_
    clear n0_
    (try clear hb)
    (try clear hb2)
    (try clear hk)
    (try clear hi)
    refine hK.out _ _ ⟨((HB.out.cell (World.block_lt_of_cell? w _ hw6_0)).trans hw6_0), ((HB.out.cell (World.block_lt_of_cell? w _ hw6_1)).trans hw6_1), ((HB.out.cell (World.block_lt_of_cell? w _ hw8_0)).trans hw8_0), ((HB.out.cell (World.block_lt_of_cell? w _ hw8_1)).trans hw8_1)⟩ (fun hHeld => ?_)
    clear hK K
    refine norm_ (a' := ?_) ?_ ?_
    rotate_left
    ·show Act.put _ (some 27) _ = _
     simp only [Act.put, List.setIfInBounds_toArray, List.set_cons_zero, List.set_cons_succ, i64_w, i32_w]
     rfl
    refine pure_ (i := 7) (N := some 28) (bm_ 17 16127) rfl rfl (any_of HT_.out kr_) (fun _ _ _ h => h) (Or.inl ⟨rfl, yi_⟩) pu_ ?_
    refine pure_ (i := 8) (N := some 29) (bm_ 17 16383) rfl rfl (any_of HT_.out kr_) (fun _ _ _ h => h) (Or.inl ⟨rfl, yi_⟩) pu_ ?_
    refine one_ (i := 14) (N := some 35) (bm_ 17 32767) rfl rfl (one_of HT_.out (by kernel_rfl)) (by decide) (fun K hK => ?_)
    refine goes_ Tryd.func89 (by kernel_rfl) rfl #[.int .i64 ((rd_T119 l0 x4_1).f1)] (by rfl) rfl rfl ar_ ?_
    with_reducible refine (spec_l01Num.calls k1 ((rd_T119 l0 x4_1).f1) t9 _ A21.out).mono ?_
    rintro e w25 ⟨rfl, hb⟩
    refine ⟨_, rfl, ?_⟩
    have n0_ := bs_ hb
    clear HB
    have HB := n0_
    clear n0_
    (try clear hb)
    (try clear hb2)
    (try clear hk)
    (try clear hi)
    refine hK.out _ _ ⟨((HB.out.cell (World.block_lt_of_cell? w _ hw6_0)).trans hw6_0), ((HB.out.cell (World.block_lt_of_cell? w _ hw6_1)).trans hw6_1), ((HB.out.cell (World.block_lt_of_cell? w _ hw8_0)).trans hw8_0), ((HB.out.cell (World.block_lt_of_cell? w _ hw8_1)).trans hw8_1)⟩ (fun hHeld => ?_)
    clear hK K
    refine norm_ (a' := ?_) ?_ ?_
    rotate_left
    ·show Act.put _ (some 35) _ = _
     simp only [Act.put, List.setIfInBounds_toArray, List.set_cons_zero, List.set_cons_succ, i64_w, i32_w]
     rfl
    refine pure_ (i := 15) (N := some 36) (bm_ 17 65535) rfl rfl (any_of HT_.out kr_) (fun _ _ _ h => h) (Or.inl ⟨rfl, yi_⟩) pu_ ?_
    refine pure_ (i := 16) (N := some 3) (bm_ 17 131071) rfl rfl (any_of HT_.out kr_) (fun _ _ _ h => h) (Or.inl ⟨rfl, yi_⟩) pu_ ?_
    refine done_ (done_of HT_.out (by kernel_rfl)) ?_
    try go_wp2
    go_roundg k1
    case measure => have := HK1.out; omega
    case rel => exact ⟨(((x3_1 ++ t7) ++ (⟨#[61]⟩ : ByteArray)) ++ t9), (wrap64 (x4_1 + 1)), sd_, sd_, H', ⟨by have := HK1.out; omega⟩, ⟨bw_⟩⟩
   rw [if_pos c6] at H
   have c6b0 : decide (0 < x4_1) = true := decide_eq_true c6
   clear c6
   by_cases c7 : x3_1.size + 1 ≤ 9223372036854775807
   rotate_left
   ·rw [if_neg c7] at H
    exact absurd H (by simp)
   rw [if_pos c7] at H
   have c7b0 := eq_true c7
   have c7b1 : decide (x3_1.size + 1 ≤ 9223372036854775807) = true := decide_eq_true c7
   try have c7b2 : (9223372036854775807 < x3_1.size + 1) = False := eq_false (Nat.not_lt.2 c7)
   by_cases c8 : 0 ≤ x4_1
   rotate_left
   ·rw [if_neg c8] at H
    exact absurd H (by simp)
   rw [if_pos c8] at H
   have c8b0 : decide (0 ≤ x4_1) = true := decide_eq_true c8
   clear c8
   replace H := Option.bind_eq_some_iff.mp H
   obtain ⟨t3, A90, H⟩ := H
   replace H : (if (x3_1 ++ (⟨#[32]⟩ : ByteArray)).size + t3.size ≤ 9223372036854775807 then (if ((x3_1 ++ (⟨#[32]⟩ : ByteArray)) ++ t3).size + 1 ≤ 9223372036854775807 then ((spec_l01Num.f k1 ((rd_T119 l0 x4_1).f1)).bind fun t5 => (if (((x3_1 ++ (⟨#[32]⟩ : ByteArray)) ++ t3) ++ (⟨#[61]⟩ : ByteArray)).size + t5.size ≤ 9223372036854775807 then (spec_BufText.l0 k1 l0 ((((x3_1 ++ (⟨#[32]⟩ : ByteArray)) ++ t3) ++ (⟨#[61]⟩ : ByteArray)) ++ t5) (wrap64 (x4_1 + 1))) else (none))) else (none)) else (none)) = some r := H
   have A9 := Aside0.mk A90
   clear A90
   by_cases c10 : (x3_1 ++ (⟨#[32]⟩ : ByteArray)).size + t3.size ≤ 9223372036854775807
   rotate_left
   ·rw [if_neg c10] at H
    exact absurd H (by simp)
   rw [if_pos c10] at H
   have c10b0 := eq_true c10
   have c10z0 := eq_true (show (x3_1.size + 1) + t3.size ≤ 9223372036854775807 by have h_ := c10; simp only [ByteArray.size_append] at h_; exact h_)
   have c10z2 : (9223372036854775807 < (x3_1.size + 1) + t3.size) = False := eq_false (Nat.not_lt.2 (show (x3_1.size + 1) + t3.size ≤ 9223372036854775807 by have h_ := c10; simp only [ByteArray.size_append] at h_; exact h_))
   have c10b1 : decide ((x3_1 ++ (⟨#[32]⟩ : ByteArray)).size + t3.size ≤ 9223372036854775807) = true := decide_eq_true c10
   try have c10b2 : (9223372036854775807 < (x3_1 ++ (⟨#[32]⟩ : ByteArray)).size + t3.size) = False := eq_false (Nat.not_lt.2 c10)
   by_cases c11 : ((x3_1 ++ (⟨#[32]⟩ : ByteArray)) ++ t3).size + 1 ≤ 9223372036854775807
   rotate_left
   ·rw [if_neg c11] at H
    exact absurd H (by simp)
   rw [if_pos c11] at H
   have c11b0 := eq_true c11
   have c11z0 := eq_true (show (x3_1.size + 1 + t3.size) + 1 ≤ 9223372036854775807 by have h_ := c11; simp only [ByteArray.size_append] at h_; exact h_)
   have c11z2 : (9223372036854775807 < (x3_1.size + 1 + t3.size) + 1) = False := eq_false (Nat.not_lt.2 (show (x3_1.size + 1 + t3.size) + 1 ≤ 9223372036854775807 by have h_ := c11; simp only [ByteArray.size_append] at h_; exact h_))
   have c11b1 : decide (((x3_1 ++ (⟨#[32]⟩ : ByteArray)) ++ t3).size + 1 ≤ 9223372036854775807) = true := decide_eq_true c11
   try have c11b2 : (9223372036854775807 < ((x3_1 ++ (⟨#[32]⟩ : ByteArray)) ++ t3).size + 1) = False := eq_false (Nat.not_lt.2 c11)
   replace H := Option.bind_eq_some_iff.mp H
   obtain ⟨t5, A120, H⟩ := H
   replace H : (if (((x3_1 ++ (⟨#[32]⟩ : ByteArray)) ++ t3) ++ (⟨#[61]⟩ : ByteArray)).size + t5.size ≤ 9223372036854775807 then (spec_BufText.l0 k1 l0 ((((x3_1 ++ (⟨#[32]⟩ : ByteArray)) ++ t3) ++ (⟨#[61]⟩ : ByteArray)) ++ t5) (wrap64 (x4_1 + 1))) else (none)) = some r := H
   have A12 := Aside0.mk A120
   clear A120
   by_cases c13 : (((x3_1 ++ (⟨#[32]⟩ : ByteArray)) ++ t3) ++ (⟨#[61]⟩ : ByteArray)).size + t5.size ≤ 9223372036854775807
   rotate_left
   ·rw [if_neg c13] at H
    exact absurd H (by simp)
   rw [if_pos c13] at H
   have c13b0 := eq_true c13
   have c13z0 := eq_true (show (x3_1.size + 1 + t3.size + 1) + t5.size ≤ 9223372036854775807 by have h_ := c13; simp only [ByteArray.size_append] at h_; exact h_)
   have c13z2 : (9223372036854775807 < (x3_1.size + 1 + t3.size + 1) + t5.size) = False := eq_false (Nat.not_lt.2 (show (x3_1.size + 1 + t3.size + 1) + t5.size ≤ 9223372036854775807 by have h_ := c13; simp only [ByteArray.size_append] at h_; exact h_))
   have c13b1 : decide ((((x3_1 ++ (⟨#[32]⟩ : ByteArray)) ++ t3) ++ (⟨#[61]⟩ : ByteArray)).size + t5.size ≤ 9223372036854775807) = true := decide_eq_true c13
   try have c13b2 : (9223372036854775807 < (((x3_1 ++ (⟨#[32]⟩ : ByteArray)) ++ t3) ++ (⟨#[61]⟩ : ByteArray)).size + t5.size) = False := eq_false (Nat.not_lt.2 c13)
   have H' := Aside0.mk H
   clear H
   try go_wp2
   have n0_ := Aside0.mk (below_drew1 HB.out)
   clear HB
   have HB := n0_
   clear n0_
   have p2 : 0 ≤ (x4_1 : Int) := od_
   have q2 : x4_1 < (l0.length : Int) := od_
   obtain ⟨ad2, e2, hx2_0, hx2_1⟩ := at_T119 HR0.out x4_1 p2 q2
   have hw2_1 := hx2_1
   have hw2_0 := hx2_0
   cases e2
   replace hx2_0 := (HB.out.cell (World.block_lt_of_cell? w _ hx2_0)).trans hx2_0
   replace hx2_1 := (HB.out.cell (World.block_lt_of_cell? w _ hx2_1)).trans hx2_1
   replace p2 := eq_true p2
   replace q2 := eq_true q2
   have p4 : 0 ≤ (x4_1 : Int) := od_
   have q4 : x4_1 < (l0.length : Int) := od_
   obtain ⟨ad4, e4, hx4_0, hx4_1⟩ := at_T119 HR0.out x4_1 p4 q4
   have hw4_1 := hx4_1
   have hw4_0 := hx4_0
   obtain rfl : ad2 = ad4 := (by injection e4)
   replace hx4_0 := (HB.out.cell (World.block_lt_of_cell? w _ hx4_0)).trans hx4_0
   replace hx4_1 := (HB.out.cell (World.block_lt_of_cell? w _ hx4_1)).trans hx4_1
   replace p4 := eq_true p4
   replace q4 := eq_true q4
   refine start_ (n := 17) (S := fun w' => w'.cell? (ad2.add ((x4_1).toNat * 2)) = some (.int .i64 ((rd_T119 l0 x4_1).f0)) ∧ w'.cell? ⟨(ad2.add ((x4_1).toNat * 2)).block, (ad2.add ((x4_1).toNat * 2)).off + 1, none⟩ = some (.int .i64 ((rd_T119 l0 x4_1).f1)) ∧ w'.cell? (ad2.add ((x4_1).toNat * 2)) = some (.int .i64 ((rd_T119 l0 x4_1).f0)) ∧ w'.cell? ⟨(ad2.add ((x4_1).toNat * 2)).block, (ad2.add ((x4_1).toNat * 2)).off + 1, none⟩ = some (.int .i64 ((rd_T119 l0 x4_1).f1))) (ds := []) #[false, false, false, false, false, false, false, false, false, false, false, false, false, false, false, false, false] (by kernel_rfl) rfl rfl ⟨((HB.out.cell (World.block_lt_of_cell? w _ hw2_0)).trans hw2_0), ((HB.out.cell (World.block_lt_of_cell? w _ hw2_1)).trans hw2_1), ((HB.out.cell (World.block_lt_of_cell? w _ hw4_0)).trans hw4_0), ((HB.out.cell (World.block_lt_of_cell? w _ hw4_1)).trans hw4_1)⟩ (fun hHeld => ?_); refine with_tabW spec_BufText.tab11 spec_BufText.bits11 (fun HT_ HW_ => ?_)
   generalize wr.drew = w14 at HB hx2_0 hx2_1 hx4_0 hx4_1 hHeld ⊢
   refine pure_ (i := 0) (N := some 21) (bm_ 17 1) rfl rfl (any_of HT_.out kr_) (fun _ _ _ h => h) (Or.inl ⟨rfl, yi_⟩) pu_ ?_
   refine pure_ (i := 1) (N := some 22) (bm_ 17 3) rfl rfl (any_of HT_.out kr_) (fun _ _ _ h => h) (Or.inl ⟨rfl, yi_⟩) pu_ ?_
   refine pure_ (i := 2) (N := some 23) (bm_ 17 7) rfl rfl (any_of HT_.out kr_) (fun _ _ _ h => h) (Or.inl ⟨rfl, yi_⟩) pu_ ?_
   refine pure_ (i := 3) (N := some 24) (bm_ 17 15) rfl rfl (any_of HT_.out kr_) (fun _ _ _ h => h) (Or.inl ⟨rfl, yi_⟩) pu_ ?_
   refine pure_ (i := 4) (N := some 25) (bm_ 17 31) rfl rfl (any_of HT_.out kr_) (fun _ _ _ h => h) (Or.inl ⟨rfl, yi_⟩) pu_ ?_
   refine pure_ (i := 9) (N := some 30) (bm_ 17 543) rfl rfl (any_of HT_.out kr_) (fun _ _ _ h => h) (Or.inl ⟨rfl, yi_⟩) pu_ ?_
   refine pure_ (i := 10) (N := some 31) (bm_ 17 1567) rfl rfl (any_of HT_.out kr_) (fun _ _ _ h => h) (Or.inl ⟨rfl, yi_⟩) pu_ ?_
   refine pure_ (i := 11) (N := some 32) (bm_ 17 3615) rfl rfl (any_of HT_.out kr_) (fun _ _ _ h => h) (Or.inl ⟨rfl, yi_⟩) pu_ ?_
   refine pure_ (i := 12) (N := some 33) (bm_ 17 7711) rfl rfl (any_of HT_.out kr_) (fun _ _ _ h => h) (Or.inl ⟨rfl, yi_⟩) pu_ ?_
   refine take_ (i := 5) (N := some 26) (v := ?_) (a' := ?_) (bm_ 17 7743) rfl rfl (take_ofW HT_.out HW_.out (by kernel_rfl)) (fun _ _ _ h => h) (Or.inl ⟨by rfl, ?_⟩) hHeld ?_ ?_
   rotate_left
   ·rintro w' ⟨s0, s1, s2, s3⟩
    go_simp
    with_reducible rfl
   rotate_left
   ·exact pu_
   refine take_ (i := 13) (N := some 34) (v := ?_) (a' := ?_) (bm_ 17 15935) rfl rfl (take_ofW HT_.out HW_.out (by kernel_rfl)) (fun _ _ _ h => h) (Or.inl ⟨by rfl, ?_⟩) hHeld ?_ ?_
   rotate_left
   ·rintro w' ⟨s0, s1, s2, s3⟩
    go_simp
    with_reducible rfl
   rotate_left
   ·exact pu_
   refine one_ (i := 6) (N := some 27) (bm_ 17 15999) rfl rfl (one_of HT_.out (by kernel_rfl)) (by decide) (fun K hK => ?_)
   refine goes_ Tryd.func89 (by kernel_rfl) rfl #[.int .i64 ((rd_T119 l0 x4_1).f0)] (by rfl) rfl rfl ar_ ?_
   with_reducible refine (spec_l01Num.calls k1 ((rd_T119 l0 x4_1).f0) t3 _ A9.out).mono ?_
   rintro e w15 ⟨rfl, hb⟩
   refine ⟨_, rfl, ?_⟩
   have n0_ := bs_ hb
   clear HB
   have HB := n0_
   clear n0_
   (try clear hb)
   (try clear hb2)
   (try clear hk)
   (try clear hi)
   refine hK.out _ _ ⟨((HB.out.cell (World.block_lt_of_cell? w _ hw2_0)).trans hw2_0), ((HB.out.cell (World.block_lt_of_cell? w _ hw2_1)).trans hw2_1), ((HB.out.cell (World.block_lt_of_cell? w _ hw4_0)).trans hw4_0), ((HB.out.cell (World.block_lt_of_cell? w _ hw4_1)).trans hw4_1)⟩ (fun hHeld => ?_)
   clear hK K
   refine norm_ (a' := ?_) ?_ ?_
   rotate_left
   ·show Act.put _ (some 27) _ = _
    simp only [Act.put, List.setIfInBounds_toArray, List.set_cons_zero, List.set_cons_succ, i64_w, i32_w]
    rfl
   refine pure_ (i := 7) (N := some 28) (bm_ 17 16127) rfl rfl (any_of HT_.out kr_) (fun _ _ _ h => h) (Or.inl ⟨rfl, yi_⟩) pu_ ?_
   refine pure_ (i := 8) (N := some 29) (bm_ 17 16383) rfl rfl (any_of HT_.out kr_) (fun _ _ _ h => h) (Or.inl ⟨rfl, yi_⟩) pu_ ?_
   refine one_ (i := 14) (N := some 35) (bm_ 17 32767) rfl rfl (one_of HT_.out (by kernel_rfl)) (by decide) (fun K hK => ?_)
   refine goes_ Tryd.func89 (by kernel_rfl) rfl #[.int .i64 ((rd_T119 l0 x4_1).f1)] (by rfl) rfl rfl ar_ ?_
   with_reducible refine (spec_l01Num.calls k1 ((rd_T119 l0 x4_1).f1) t5 _ A12.out).mono ?_
   rintro e w16 ⟨rfl, hb⟩
   refine ⟨_, rfl, ?_⟩
   have n0_ := bs_ hb
   clear HB
   have HB := n0_
   clear n0_
   (try clear hb)
   (try clear hb2)
   (try clear hk)
   (try clear hi)
   refine hK.out _ _ ⟨((HB.out.cell (World.block_lt_of_cell? w _ hw2_0)).trans hw2_0), ((HB.out.cell (World.block_lt_of_cell? w _ hw2_1)).trans hw2_1), ((HB.out.cell (World.block_lt_of_cell? w _ hw4_0)).trans hw4_0), ((HB.out.cell (World.block_lt_of_cell? w _ hw4_1)).trans hw4_1)⟩ (fun hHeld => ?_)
   clear hK K
   refine norm_ (a' := ?_) ?_ ?_
   rotate_left
   ·show Act.put _ (some 35) _ = _
    simp only [Act.put, List.setIfInBounds_toArray, List.set_cons_zero, List.set_cons_succ, i64_w, i32_w]
    rfl
   refine pure_ (i := 15) (N := some 36) (bm_ 17 65535) rfl rfl (any_of HT_.out kr_) (fun _ _ _ h => h) (Or.inl ⟨rfl, yi_⟩) pu_ ?_
   refine pure_ (i := 16) (N := some 3) (bm_ 17 131071) rfl rfl (any_of HT_.out kr_) (fun _ _ _ h => h) (Or.inl ⟨rfl, yi_⟩) pu_ ?_
   refine done_ (done_of HT_.out (by kernel_rfl)) ?_
   try go_wp2
   go_roundg k1
   case measure => have := HK1.out; omega
   case rel => exact ⟨((((x3_1 ++ (⟨#[32]⟩ : ByteArray)) ++ t3) ++ (⟨#[61]⟩ : ByteArray)) ++ t5), (wrap64 (x4_1 + 1)), sd_, sd_, H', ⟨by have := HK1.out; omega⟩, ⟨bw_⟩⟩

end Go.Proofs.YtchpopocnaoabaaDoor.P
