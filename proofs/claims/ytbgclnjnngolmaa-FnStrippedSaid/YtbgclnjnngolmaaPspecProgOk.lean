-- Written by mp.py (the session's own driver over the kit's printer) for the seat Ytbgclnjnngolmaa.
import Derived.Test.YtbgclnjnngolmaaK
import Derived.Test.YtbgclnjnngolmaaE
import Derived.Test.YtbgclnjnngolmaaPlawsbig
import Derived.Test.YtbgclnjnngolmaaPspecInstrOk
namespace Go.Proofs.Ytbgclnjnngolmaa.P
open Go.RowKit Go.Proofs.YtbgclnjnngolmaaW.PrintWords Go.Proofs.YtbgclnjnngolmaaW.PrintLast Go.Proofs.YtbgclnjnngolmaaW.PrintMore
attribute [local go_sem] max2_int min2_int max_two min_two max_three min_three max_four min_four
set_option linter.unusedVariables false
set_option linter.unusedSimpArgs false

/-! ### spec_ProgOk: function 16 -/
mutual
def spec_ProgOk.j0 : Nat → Bool → Int → List (List (S50)) → Option (Bool)
 | 0, _, _, _ => none
 | k + 1, x15, x2000, x2001 => if x15 = true then (some false) else (spec_ProgOk.l0 k 0 x2000 x2001)
def spec_ProgOk.l0 : Nat → Int → Int → List (List (S50)) → Option (Bool)
 | 0, _, _, _ => none
 | k + 1, x3, x2000, x2001 => if x3 < (x2001.length : Int) then (if 0 ≤ x3 then (if ((rd_L4 x2001 x3).length : Int) > 16 then (some false) else (spec_ProgOk.l1 k x3 0 x2000 x2001)) else (none)) else (some true)
def spec_ProgOk.l1 : Nat → Int → Int → Int → List (List (S50)) → Option (Bool)
 | 0, _, _, _, _ => none
 | k + 1, x3, x4, x2000, x2001 => if 0 ≤ x3 then (if x3 < (x2001.length : Int) then (if x4 < ((rd_L4 x2001 x3).length : Int) then (if 0 ≤ x4 then ((spec_InstrOk.f k ((rd_T50 (rd_L4 x2001 x3) x4).f0) ((rd_T50 (rd_L4 x2001 x3) x4).f1) ((rd_T50 (rd_L4 x2001 x3) x4).f2) ((rd_T50 (rd_L4 x2001 x3) x4).f3) x2000 ((rd_L4 x2001 x3).length : Int)).bind fun t9 => (if t9 = true then (spec_ProgOk.l1 k x3 (wrap64 (x4 + 1)) x2000 x2001) else (some false))) else (none)) else (spec_ProgOk.l0 k (wrap64 (x3 + 1)) x2000 x2001)) else (none)) else (none)
end
def spec_ProgOk.f (k : Nat) (a0_0 : Int) (l0_1 : List (List (S50))) : Option (Bool) := (spec_l01In.f a0_0 1 16).bind fun t2 => (if t2 = true then ((spec_l01In.f (l0_1.length : Int) 1 3).bind fun t3 => (spec_ProgOk.j0 k (!t3) a0_0 l0_1)) else (spec_ProgOk.j0 k true a0_0 l0_1))
theorem spec_ProgOk.mono_l : ∀ k, (∀ y0 y1 y2, LeO (spec_ProgOk.j0 k y0 y1 y2) (spec_ProgOk.j0 (k + 1) y0 y1 y2)) ∧ (∀ y0 y1 y2, LeO (spec_ProgOk.l0 k y0 y1 y2) (spec_ProgOk.l0 (k + 1) y0 y1 y2)) ∧ (∀ y0 y1 y2 y3, LeO (spec_ProgOk.l1 k y0 y1 y2 y3) (spec_ProgOk.l1 (k + 1) y0 y1 y2 y3))
 | 0 => ⟨fun _ _ _ r h => by simp [spec_ProgOk.j0] at h, fun _ _ _ r h => by simp [spec_ProgOk.l0] at h, fun _ _ _ _ r h => by simp [spec_ProgOk.l1] at h⟩
 | k + 1 => by
  obtain ⟨ih0, ih1, ih2⟩ := spec_ProgOk.mono_l k
  refine ⟨?_, ?_, ?_⟩
  ·intro y0 y1 y2
   unfold spec_ProgOk.j0
   repeat' first | (with_reducible first | exact ih0 _ _ _ | exact ih1 _ _ _ | exact ih2 _ _ _ _ | exact spec_InstrOk.mono _ _ _ _ _ _ _ | exact lr_ | exact ln_ | refine LeO.ite ?_ ?_ | refine LeO.bind ?_ (fun _ => ?_)) | exact ih0 _ _ _ | exact ih1 _ _ _ | exact ih2 _ _ _ _ | exact spec_InstrOk.mono _ _ _ _ _ _ _ | exact ln_ | refine LeO.ite ?_ ?_ | refine LeO.bind ?_ (fun _ => ?_)
  ·intro y0 y1 y2
   unfold spec_ProgOk.l0
   repeat' first | (with_reducible first | exact ih0 _ _ _ | exact ih1 _ _ _ | exact ih2 _ _ _ _ | exact spec_InstrOk.mono _ _ _ _ _ _ _ | exact lr_ | exact ln_ | refine LeO.ite ?_ ?_ | refine LeO.bind ?_ (fun _ => ?_)) | exact ih0 _ _ _ | exact ih1 _ _ _ | exact ih2 _ _ _ _ | exact spec_InstrOk.mono _ _ _ _ _ _ _ | exact ln_ | refine LeO.ite ?_ ?_ | refine LeO.bind ?_ (fun _ => ?_)
  ·intro y0 y1 y2 y3
   unfold spec_ProgOk.l1
   repeat' first | (with_reducible first | exact ih0 _ _ _ | exact ih1 _ _ _ | exact ih2 _ _ _ _ | exact spec_InstrOk.mono _ _ _ _ _ _ _ | exact lr_ | exact ln_ | refine LeO.ite ?_ ?_ | refine LeO.bind ?_ (fun _ => ?_)) | exact ih0 _ _ _ | exact ih1 _ _ _ | exact ih2 _ _ _ _ | exact spec_InstrOk.mono _ _ _ _ _ _ _ | exact ln_ | refine LeO.ite ?_ ?_ | refine LeO.bind ?_ (fun _ => ?_)
theorem spec_ProgOk.mono : ∀ a0 a1 k, LeO (spec_ProgOk.f k a0 a1) (spec_ProgOk.f (k + 1) a0 a1) := by
 intro a0 a1 k
 obtain ⟨ih0, ih1, ih2⟩ := spec_ProgOk.mono_l k
 unfold spec_ProgOk.f
 repeat' first | (with_reducible first | exact ih0 _ _ _ | exact ih1 _ _ _ | exact ih2 _ _ _ _ | exact spec_InstrOk.mono _ _ _ _ _ _ _ | exact lr_ | exact ln_ | refine LeO.ite ?_ ?_ | refine LeO.bind ?_ (fun _ => ?_)) | exact ih0 _ _ _ | exact ih1 _ _ _ | exact ih2 _ _ _ _ | exact spec_InstrOk.mono _ _ _ _ _ _ _ | exact ln_ | refine LeO.ite ?_ ?_ | refine LeO.bind ?_ (fun _ => ?_)
def spec_ProgOk.T11 : Bool × List (List Nat × List Nat) := (true, [([], []), ([0], [0]), ([], []), ([1, 2], [1, 2]), ([3], [3]), ([], []), ([4, 5], [4, 5]), ([6], [6]), ([], []), ([8], [8]), ([], []), ([10], [10]), ([], []), ([11, 12], [11, 12]), ([13], [13]), ([14], [14]), ([7, 9, 15], [7, 9, 15]), ([16], [16])])
def spec_ProgOk.B11 : List Nat := [0, 1, 0, 7, 15, 0, 63, 127, 0, 256, 0, 1024, 0, 7168, 15360, 31744, 65535, 131071]
theorem spec_ProgOk.tab11 : rtab .any (opsOf Try.f16 11) = spec_ProgOk.T11 := by kernel_rfl
theorem spec_ProgOk.bits11 : waitsOk spec_ProgOk.T11.2 spec_ProgOk.B11 = true := by kernel_rfl
set_option maxHeartbeats 8000000 in
set_option maxRecDepth 100000 in
theorem spec_ProgOk.calls (k : Nat) (a0_0 : Int) (A0_1 : Option Addr) (c0_1 : Nat) (l0_1 : List (List (S50))) (r : Bool) (w : World) (hr0_1 : Kd.C (Kd.slice 50 k50) w A0_1 l0_1.length l0_1) (hc0_1 : l0_1.length ≤ c0_1) (h : spec_ProgOk.f k a0_0 l0_1 = some r) :
  Calls Try.prog 16 #[.agg #[.int .i64 a0_0, .slice A0_1 l0_1.length c0_1]] w fun e w' => e = .returned (.bool r) ∧ Below w.heap.size w w' := by
 have hu26 := Try.underlying26
 have hu50 := Try.underlying50
 have HR0_1 := am_ hr0_1
 have HC0_1 := am_ hc0_1
 clear hr0_1 hc0_1
 have HB := am_ (Below.refl w.heap.size w)
 have H : ((spec_l01In.f a0_0 1 16).bind fun t2 => (if t2 = true then ((spec_l01In.f (l0_1.length : Int) 1 3).bind fun t3 => (spec_ProgOk.j0 k (!t3) a0_0 l0_1)) else (spec_ProgOk.j0 k true a0_0 l0_1))) = some r := h
 clear h
 have HC2 := am_ H
 clear H
 go_enter Try.func16, Try.ntmps16
 go_upto_region 1 with (first | ((with_reducible refine gate_dst (N := 1) rfl ?_); (try (refine gate_guard (by rfl) ?_; dsimp only)); refine box_event ?hg (N := 1) ?hd (cs := #[.int .i64 a0_0, .slice A0_1 l0_1.length c0_1]) (t := 26) ?hr ?_; (case hd => rfl); (case hg => rfl); (case hr => exact hrr_); intro gb1 hg w3 hbox hb; have n0_ := bs_ hb; have n1_ := am_ (hbox); have n2_ := ge_ (w := w) hg; have n3_ := ge_ (w := w) hg; clear HB; have HB := n0_; have BK1 := n1_; have GW1 := n2_; have GE1 := n3_; clear n0_ n1_ n2_ n3_; clear hb hbox hg))
 (try simp only [Act.put, List.setIfInBounds_toArray, List.set_cons_zero, List.set_cons_succ])
 go_cut [15] (fun v15 wc => ∃ (kq : Nat) (x15_1 : Bool), v15 = .bool x15_1 ∧ Aside0 (spec_ProgOk.j0 kq x15_1 a0_0 l0_1 = some r) ∧ Aside0 (kq ≤ k) ∧ Aside0 (wc.heap[gb1]? = some (.cells #[.int .i64 a0_0, (.slice A0_1 l0_1.length c0_1)] 26 (0, 0))) ∧ Aside0 (Below w.heap.size w wc))
 case first =>
  have H := HC2.out
  clear HC2
  replace H := Option.bind_eq_some_iff.mp H
  obtain ⟨t2, A40, H⟩ := H
  replace H : (if t2 = true then ((spec_l01In.f (l0_1.length : Int) 1 3).bind fun t3 => (spec_ProgOk.j0 k (!t3) a0_0 l0_1)) else (spec_ProgOk.j0 k true a0_0 l0_1)) = some r := H
  have A4 := am_ A40
  clear A40
  by_cases c5 : t2 = true
  rotate_left
  ·replace c5 := Bool.eq_false_iff.mpr c5
   subst c5
   have H1 : (spec_ProgOk.j0 k true a0_0 l0_1) = some r := by rw [if_neg (show ¬ (false = true) by decide)] at H; exact H
   clear H
   have H := H1
   clear H1
   have H' := am_ H
   clear H
   obtain ⟨hcz8_0, hcz8_1, hfz8_0, hfz8_1⟩ := bc2_ BK1.out
   go_wp2_with (first | ((with_reducible refine gate_callee (f := 31) rfl ?_); refine goesL_ (some 7) rfl rfl Try.func31 kr_ rfl #[.int .i64 a0_0, .int .i64 1, .int .i64 16] rfl ar_ ?_; (with_reducible refine (spec_l01In.calls a0_0 1 16 false _ A4.out).mono ?_); rintro e w' ⟨rfl, ⟨nd, rfl⟩⟩; refine ⟨_, rfl, ?_⟩))
   go_meet
   case rel => exact ⟨_, (true), sd_, H', ⟨by first | omega | exact Nat.le_refl _⟩, ⟨bk_⟩, ⟨bw_⟩⟩
  subst c5
  have H1 : ((spec_l01In.f (l0_1.length : Int) 1 3).bind fun t3 => (spec_ProgOk.j0 k (!t3) a0_0 l0_1)) = some r := by rw [if_pos rfl] at H; exact H
  clear H
  have H := H1
  clear H1
  replace H := Option.bind_eq_some_iff.mp H
  obtain ⟨t3, A60, H⟩ := H
  replace H : (spec_ProgOk.j0 k (!t3) a0_0 l0_1) = some r := H
  have A6 := am_ A60
  clear A60
  have H' := am_ H
  clear H
  obtain ⟨hcz7_0, hcz7_1, hfz7_0, hfz7_1⟩ := bc2_ BK1.out
  go_wp2_with (first | ((with_reducible refine gate_callee (f := 31) rfl ?_); refine goesL_ (some 7) rfl rfl Try.func31 kr_ rfl #[.int .i64 a0_0, .int .i64 1, .int .i64 16] rfl ar_ ?_; (with_reducible refine (spec_l01In.calls a0_0 1 16 true _ A4.out).mono ?_); rintro e w' ⟨rfl, ⟨nd, rfl⟩⟩; refine ⟨_, rfl, ?_⟩) | (go_at_call 31; (with_reducible refine (spec_l01In.calls (l0_1.length : Int) 1 3 t3 _ A6.out).mono ?_); rintro e w' ⟨rfl, ⟨nd, rfl⟩⟩))
  go_meet
  case rel => exact ⟨_, (!t3), sd_, H', ⟨by first | omega | exact Nat.le_refl _⟩, ⟨bk_⟩, ⟨bw_⟩⟩
 case rest =>
  clear HC2
  try clear c5
  try clear hcz7_0 hcz7_1
  try clear hcz8_0 hcz8_1
  try clear hfz7_0 hfz7_1
  try clear hfz8_0 hfz8_1
  obtain ⟨kq, x15_1, rfl, HA, HJ1, BK1, HB⟩ := hcut
  cases kq with
  | zero => exact absurd HA.out (by simp [spec_ProgOk.j0])
  | succ kj1 =>
   have H := HA.out
   clear HA
   simp only [spec_ProgOk.j0] at H
   by_cases c9 : x15_1 = true
   ·subst c9
    have H1 : (some false) = some r := by rw [if_pos rfl] at H; exact H
    clear H
    have H := H1
    clear H1
    obtain rfl := Option.some.inj H
    go_wp2
    go_ret
    exact ⟨rr_, bw_⟩
   replace c9 := Bool.eq_false_iff.mpr c9
   subst c9
   have H1 : (spec_ProgOk.l0 kj1 0 a0_0 l0_1) = some r := by rw [if_neg (show ¬ (false = true) by decide)] at H; exact H
   clear H
   have H := H1
   clear H1
   have H' := am_ H
   clear H
   go_wp2
   go_loopg [3] kj1 (fun kq v3 w' => ∃ (x3_2 : Int), v3 = .int .i64 x3_2 ∧ Aside0 (spec_ProgOk.l0 kq x3_2 a0_0 l0_1 = some r) ∧ Aside0 (kq ≤ kj1) ∧ Aside0 (w'.heap[gb1]? = some (.cells #[.int .i64 a0_0, (.slice A0_1 l0_1.length c0_1)] 26 (0, 0))) ∧ Aside0 (Below w.heap.size w w'))
   case atStart => exact ⟨(0), sd_, H', ⟨Nat.le_refl _⟩, ⟨bk_⟩, ⟨bw_⟩⟩
   case round =>
    clear H'
    try clear c5
    try clear c9
    try clear hcz7_0 hcz7_1
    try clear hcz8_0 hcz8_1
    try clear hfz7_0 hfz7_1
    try clear hfz8_0 hfz8_1
    obtain ⟨x3_2, rfl, HA, HK2, BK1, HB⟩ := hrel
    cases gk with
    | zero => exact absurd HA.out (by simp [spec_ProgOk.l0])
    | succ k2 =>
     have H := HA.out
     clear HA
     simp only [spec_ProgOk.l0] at H
     by_cases c10 : x3_2 < (l0_1.length : Int)
     rotate_left
     ·rw [if_neg c10] at H
      have c10b0 : decide (x3_2 < (l0_1.length : Int)) = false := decide_eq_false c10
      clear c10
      obtain rfl := Option.some.inj H
      obtain ⟨hcz28_0, hcz28_1, hfz28_0, hfz28_1⟩ := bc2_ BK1.out
      go_wp2
      go_ret
      exact ⟨rr_, bw_⟩
     rw [if_pos c10] at H
     have c10b0 : decide (x3_2 < (l0_1.length : Int)) = true := decide_eq_true c10
     clear c10
     by_cases c11 : 0 ≤ x3_2
     rotate_left
     ·rw [if_neg c11] at H
      exact absurd H (by simp)
     rw [if_pos c11] at H
     have c11b0 : decide (0 ≤ x3_2) = true := decide_eq_true c11
     clear c11
     by_cases c12 : ((rd_L4 l0_1 x3_2).length : Int) > 16
     ·rw [if_pos c12] at H
      have c12b0 : decide (16 < ((rd_L4 l0_1 x3_2).length : Int)) = true := decide_eq_true c12
      have c12b1 : decide (16 < (rd_L4 l0_1 x3_2).length) = true := decide_eq_true (by omega)
      clear c12
      obtain rfl := Option.some.inj H
      obtain ⟨hcz13_0, hcz13_1, hfz13_0, hfz13_1⟩ := bc2_ BK1.out
      have p4 : 0 ≤ (x3_2 : Int) := od_
      have q4 : x3_2 < (l0_1.length : Int) := od_
      obtain ⟨ad4, A4_0, c4_0, e4, hx4_0, hl4_0, hi4_0⟩ := at_L4 HR0_1.out x3_2 p4 q4
      cases e4
      replace hx4_0 := (HB.out.cell (World.block_lt_of_cell? w _ hx4_0)).trans hx4_0
      have HR4_0 := am_ hi4_0
      have HC4_0 := am_ hl4_0
      clear hi4_0 hl4_0
      replace p4 := eq_true p4
      replace q4 := eq_true q4
      go_wp2
      go_ret
      exact ⟨rr_, bw_⟩
     rw [if_neg c12] at H
     have c12b0 : decide (16 < ((rd_L4 l0_1 x3_2).length : Int)) = false := decide_eq_false c12
     have c12b1 : decide (16 < (rd_L4 l0_1 x3_2).length) = false := decide_eq_false (by omega)
     clear c12
     have H' := am_ H
     clear H
     obtain ⟨hcz14_0, hcz14_1, hfz14_0, hfz14_1⟩ := bc2_ BK1.out
     have p4 : 0 ≤ (x3_2 : Int) := od_
     have q4 : x3_2 < (l0_1.length : Int) := od_
     obtain ⟨ad4, A4_0, c4_0, e4, hx4_0, hl4_0, hi4_0⟩ := at_L4 HR0_1.out x3_2 p4 q4
     cases e4
     replace hx4_0 := (HB.out.cell (World.block_lt_of_cell? w _ hx4_0)).trans hx4_0
     have HR4_0 := am_ hi4_0
     have HC4_0 := am_ hl4_0
     clear hi4_0 hl4_0
     replace p4 := eq_true p4
     replace q4 := eq_true q4
     go_wp2
     go_loopg [4] k2 (fun kq v4 w' => ∃ (x4_3 : Int), v4 = .int .i64 x4_3 ∧ Aside0 (spec_ProgOk.l1 kq x3_2 x4_3 a0_0 l0_1 = some r) ∧ Aside0 (kq ≤ k2) ∧ Aside0 (w'.heap[gb1]? = some (.cells #[.int .i64 a0_0, (.slice (some ad4) l0_1.length c0_1)] 26 (0, 0))) ∧ Aside0 (Below w.heap.size w w'))
     case atStart => exact ⟨(0), sd_, H', ⟨Nat.le_refl _⟩, ⟨bk_⟩, ⟨bw_⟩⟩
     case round =>
      clear H'
      try clear p4
      try clear q4
      try clear c5
      try clear c9
      try clear c10
      try clear c10b0
      try clear c11
      try clear c11b0
      try clear c12
      try clear c12b0
      try clear c12b1
      try clear hcz13_0 hcz13_1
      try clear hcz14_0 hcz14_1
      try clear hcz7_0 hcz7_1
      try clear hcz8_0 hcz8_1
      try clear hfz13_0 hfz13_1
      try clear hfz14_0 hfz14_1
      try clear hfz7_0 hfz7_1
      try clear hfz8_0 hfz8_1
      try clear hx4_0
      try clear p4
      try clear q4
      obtain ⟨x4_3, rfl, HA, HK3, BK1, HB⟩ := hrel
      cases gk with
      | zero => exact absurd HA.out (by simp [spec_ProgOk.l1])
      | succ k3 =>
       have H := HA.out
       clear HA
       simp only [spec_ProgOk.l1] at H
       by_cases c15 : 0 ≤ x3_2
       rotate_left
       ·rw [if_neg c15] at H
        exact absurd H (by simp)
       rw [if_pos c15] at H
       have c15b0 : decide (0 ≤ x3_2) = true := decide_eq_true c15
       clear c15
       by_cases c16 : x3_2 < (l0_1.length : Int)
       rotate_left
       ·rw [if_neg c16] at H
        exact absurd H (by simp)
       rw [if_pos c16] at H
       have c16b0 : decide (x3_2 < (l0_1.length : Int)) = true := decide_eq_true c16
       clear c16
       by_cases c17 : x4_3 < ((rd_L4 l0_1 x3_2).length : Int)
       rotate_left
       ·rw [if_neg c17] at H
        have c17b0 : decide (x4_3 < ((rd_L4 l0_1 x3_2).length : Int)) = false := decide_eq_false c17
        clear c17
        have H' := am_ H
        clear H
        obtain ⟨hcz27_0, hcz27_1, hfz27_0, hfz27_1⟩ := bc2_ BK1.out
        have p5 : 0 ≤ (x3_2 : Int) := od_
        have q5 : x3_2 < (l0_1.length : Int) := od_
        obtain ⟨ad5, A5_0, c5_0, e5, hx5_0, hl5_0, hi5_0⟩ := at_L4 HR0_1.out x3_2 p5 q5
        obtain rfl : ad4 = ad5 := (by injection e5)
        replace hx5_0 := (HB.out.cell (World.block_lt_of_cell? w _ hx5_0)).trans hx5_0
        have HR5_0 := am_ hi5_0
        have HC5_0 := am_ hl5_0
        clear hi5_0 hl5_0
        replace p5 := eq_true p5
        replace q5 := eq_true q5
        go_wp2
        go_roundg k3
        case measure => have := HJ1.out; have := HK2.out; have := HK3.out; omega
        case rel => exact ⟨(wrap64 (x3_2 + 1)), sd_, H', ⟨by have := HJ1.out; have := HK2.out; have := HK3.out; omega⟩, ⟨bk_⟩, ⟨bw_⟩⟩
       rw [if_pos c17] at H
       have c17b0 : decide (x4_3 < ((rd_L4 l0_1 x3_2).length : Int)) = true := decide_eq_true c17
       clear c17
       by_cases c18 : 0 ≤ x4_3
       rotate_left
       ·rw [if_neg c18] at H
        exact absurd H (by simp)
       rw [if_pos c18] at H
       have c18b0 : decide (0 ≤ x4_3) = true := decide_eq_true c18
       clear c18
       replace H := Option.bind_eq_some_iff.mp H
       obtain ⟨t9, A190, H⟩ := H
       replace H : (if t9 = true then (spec_ProgOk.l1 k3 x3_2 (wrap64 (x4_3 + 1)) a0_0 l0_1) else (some false)) = some r := H
       have A19 := am_ A190
       clear A190
       by_cases c20 : t9 = true
       rotate_left
       ·replace c20 := Bool.eq_false_iff.mpr c20
        subst c20
        have H1 : (some false) = some r := by rw [if_neg (show ¬ (false = true) by decide)] at H; exact H
        clear H
        have H := H1
        clear H1
        obtain rfl := Option.some.inj H
        obtain ⟨hcz24_0, hcz24_1, hfz24_0, hfz24_1⟩ := bc2_ BK1.out
        have p5 : 0 ≤ (x3_2 : Int) := od_
        have q5 : x3_2 < (l0_1.length : Int) := od_
        obtain ⟨ad5, A5_0, c5_0, e5, hx5_0, hl5_0, hi5_0⟩ := at_L4 HR0_1.out x3_2 p5 q5
        obtain rfl : ad4 = ad5 := (by injection e5)
        replace hx5_0 := (HB.out.cell (World.block_lt_of_cell? w _ hx5_0)).trans hx5_0
        have HR5_0 := am_ hi5_0
        have HC5_0 := am_ hl5_0
        clear hi5_0 hl5_0
        replace p5 := eq_true p5
        replace q5 := eq_true q5
        try go_wp2
        have n0_ := am_ (blk_drew BK1.out)
        have n1_ := am_ (below_drew1 HB.out)
        clear BK1
        clear HB
        have BK1 := n0_
        have HB := n1_
        clear n0_ n1_
        have p6 : 0 ≤ (x3_2 : Int) := od_
        have q6 : x3_2 < (l0_1.length : Int) := od_
        obtain ⟨ad6, A6_0, c6_0, e6, hx6_0, hl6_0, hi6_0⟩ := at_L4 HR0_1.out x3_2 p6 q6
        have hw6_0 := hx6_0
        obtain rfl : ad4 = ad6 := (by injection e6)
        replace hx6_0 := (HB.out.cell (World.block_lt_of_cell? w _ hx6_0)).trans hx6_0
        have HR6_0 := am_ hi6_0
        have HC6_0 := am_ hl6_0
        clear hi6_0 hl6_0
        replace p6 := eq_true p6
        replace q6 := eq_true q6
        have p7 : 0 ≤ (x4_3 : Int) := od_
        have q7 : x4_3 < ((rd_L4 l0_1 x3_2).length : Int) := od_
        obtain ⟨ad7, e7, hx7_0, hx7_1, hx7_2, hx7_3⟩ := at_T50 HR6_0.out x4_3 p7 q7
        have hw7_3 := hx7_3
        have hw7_2 := hx7_2
        have hw7_1 := hx7_1
        have hw7_0 := hx7_0
        cases e7
        replace hx7_0 := (HB.out.cell (World.block_lt_of_cell? w _ hx7_0)).trans hx7_0
        replace hx7_1 := (HB.out.cell (World.block_lt_of_cell? w _ hx7_1)).trans hx7_1
        replace hx7_2 := (HB.out.cell (World.block_lt_of_cell? w _ hx7_2)).trans hx7_2
        replace hx7_3 := (HB.out.cell (World.block_lt_of_cell? w _ hx7_3)).trans hx7_3
        replace p7 := eq_true p7
        replace q7 := eq_true q7
        have p8 : 0 ≤ (x3_2 : Int) := od_
        have q8 : x3_2 < (l0_1.length : Int) := od_
        obtain ⟨ad8, A8_0, c8_0, e8, hx8_0, hl8_0, hi8_0⟩ := at_L4 HR0_1.out x3_2 p8 q8
        have hw8_0 := hx8_0
        obtain rfl : ad4 = ad8 := (by injection e8)
        replace hx8_0 := (HB.out.cell (World.block_lt_of_cell? w _ hx8_0)).trans hx8_0
        have HR8_0 := am_ hi8_0
        have HC8_0 := am_ hl8_0
        clear hi8_0 hl8_0
        replace p8 := eq_true p8
        replace q8 := eq_true q8
        have ea_ := Option.some.inj (hx6_0.symm.trans hx8_0)
        injection ea_ with ea_ en_ ec_
        subst ea_
        subst ec_
        clear en_
        refine start_ (n := 18) (S := fun w' => w'.cell? ⟨gb1, 0, none⟩ = some (.int .i64 a0_0) ∧ w'.cell? ⟨gb1, 1, none⟩ = some (.slice (some ad4) l0_1.length c0_1) ∧ w'.cell? (ad4.add (x3_2).toNat) = some (.slice (some ad7) (rd_L4 l0_1 x3_2).length c6_0) ∧ w'.cell? (ad7.add ((x4_3).toNat * 4)) = some (.int .i64 ((rd_T50 (rd_L4 l0_1 x3_2) x4_3).f0)) ∧ w'.cell? ⟨(ad7.add ((x4_3).toNat * 4)).block, (ad7.add ((x4_3).toNat * 4)).off + 1, none⟩ = some (.int .i64 ((rd_T50 (rd_L4 l0_1 x3_2) x4_3).f1)) ∧ w'.cell? ⟨(ad7.add ((x4_3).toNat * 4)).block, (ad7.add ((x4_3).toNat * 4)).off + 2, none⟩ = some (.int .i64 ((rd_T50 (rd_L4 l0_1 x3_2) x4_3).f2)) ∧ w'.cell? ⟨(ad7.add ((x4_3).toNat * 4)).block, (ad7.add ((x4_3).toNat * 4)).off + 3, none⟩ = some (.int .i64 ((rd_T50 (rd_L4 l0_1 x3_2) x4_3).f3)) ∧ w'.cell? (ad4.add (x3_2).toNat) = some (.slice (some ad7) (rd_L4 l0_1 x3_2).length c6_0)) (ds := []) (bm_ 18 0) kr_ rfl rfl ⟨(blk_cell BK1.out 0).trans rfl, (blk_cell BK1.out 1).trans rfl, ((HB.out.cell (World.block_lt_of_cell? w _ hw6_0)).trans hw6_0), ((HB.out.cell (World.block_lt_of_cell? w _ hw7_0)).trans hw7_0), ((HB.out.cell (World.block_lt_of_cell? w _ hw7_1)).trans hw7_1), ((HB.out.cell (World.block_lt_of_cell? w _ hw7_2)).trans hw7_2), ((HB.out.cell (World.block_lt_of_cell? w _ hw7_3)).trans hw7_3), ((HB.out.cell (World.block_lt_of_cell? w _ hw8_0)).trans hw8_0)⟩ (fun hHeld => ?_); refine with_tabW spec_ProgOk.tab11 spec_ProgOk.bits11 (fun HT_ HW_ => ?_)
        generalize wr.drew = w25 at BK1 HB HR6_0 HR8_0 hx6_0 hx7_0 hx7_1 hx7_2 hx7_3 hx8_0 hHeld ⊢
        refine pure_ (i := 0) (N := some 40) (bm_ 18 1) rfl rfl (any_of HT_.out kr_) (fun _ _ _ h => h) (Or.inl ⟨rfl, yi_⟩) pu_ ?_
        refine pure_ (i := 2) (N := some 42) (bm_ 18 5) rfl rfl (any_of HT_.out kr_) (fun _ _ _ h => h) (Or.inl ⟨rfl, yi_⟩) pu_ ?_
        refine pure_ (i := 5) (N := some 45) (bm_ 18 37) rfl rfl (any_of HT_.out kr_) (fun _ _ _ h => h) (Or.inl ⟨rfl, yi_⟩) pu_ ?_
        refine pure_ (i := 8) (N := some 48) (bm_ 18 293) rfl rfl (any_of HT_.out kr_) (fun _ _ _ h => h) (Or.inl ⟨rfl, yi_⟩) pu_ ?_
        refine pure_ (i := 10) (N := some 50) (bm_ 18 1317) rfl rfl (any_of HT_.out kr_) (fun _ _ _ h => h) (Or.inl ⟨rfl, yi_⟩) pu_ ?_
        refine pure_ (i := 12) (N := some 52) (bm_ 18 5413) rfl rfl (any_of HT_.out kr_) (fun _ _ _ h => h) (Or.inl ⟨rfl, yi_⟩) pu_ ?_
        refine take_ (i := 1) (N := some 41) (v := ?_) (a' := ?_) (bm_ 18 5415) rfl rfl (take_ofW HT_.out HW_.out kr_) (fun _ _ _ h => h) (Or.inl ⟨by rfl, ?_⟩) hHeld ?_ ?_
        rotate_left
        ·rintro w' ⟨s0, s1, s2, s3, s4, s5, s6, s7⟩
         go_simp
         with_reducible rfl
        rotate_left
        ·exact pu_
        refine pure_ (i := 3) (N := some 43) (bm_ 18 5423) rfl rfl (any_of HT_.out kr_) (fun _ _ _ h => h) (Or.inl ⟨rfl, yi_⟩) pu_ ?_
        refine take_ (i := 4) (N := some 44) (v := ?_) (a' := ?_) (bm_ 18 5439) rfl rfl (take_ofW HT_.out HW_.out kr_) (fun _ _ _ h => h) (Or.inl ⟨by rfl, ?_⟩) hHeld ?_ ?_
        rotate_left
        ·rintro w' ⟨s0, s1, s2, s3, s4, s5, s6, s7⟩
         go_simp
         with_reducible rfl
        rotate_left
        ·exact pu_
        refine pure_ (i := 6) (N := some 46) (bm_ 18 5503) rfl rfl (any_of HT_.out kr_) (fun _ _ _ h => h) (Or.inl ⟨rfl, yi_⟩) pu_ ?_
        refine take_ (i := 7) (N := some 47) (v := ?_) (a' := ?_) (bm_ 18 5631) rfl rfl (take_ofW HT_.out HW_.out kr_) (fun _ _ _ h => h) (Or.inl ⟨by rfl, ?_⟩) hHeld ?_ ?_
        rotate_left
        ·rintro w' ⟨s0, s1, s2, s3, s4, s5, s6, s7⟩
         go_simp
         with_reducible rfl
        rotate_left
        ·exact pu_
        refine take_ (i := 9) (N := some 49) (v := ?_) (a' := ?_) (bm_ 18 6143) rfl rfl (take_ofW HT_.out HW_.out kr_) (fun _ _ _ h => h) (Or.inl ⟨by rfl, ?_⟩) hHeld ?_ ?_
        rotate_left
        ·rintro w' ⟨s0, s1, s2, s3, s4, s5, s6, s7⟩
         go_simp
         with_reducible rfl
        rotate_left
        ·exact pu_
        refine take_ (i := 11) (N := some 51) (v := ?_) (a' := ?_) (bm_ 18 8191) rfl rfl (take_ofW HT_.out HW_.out kr_) (fun _ _ _ h => h) (Or.inl ⟨by rfl, ?_⟩) hHeld ?_ ?_
        rotate_left
        ·rintro w' ⟨s0, s1, s2, s3, s4, s5, s6, s7⟩
         go_simp
         with_reducible rfl
        rotate_left
        ·exact pu_
        refine pure_ (i := 13) (N := some 53) (bm_ 18 16383) rfl rfl (any_of HT_.out kr_) (fun _ _ _ h => h) (Or.inl ⟨rfl, yi_⟩) pu_ ?_
        refine take_ (i := 14) (N := some 54) (v := ?_) (a' := ?_) (bm_ 18 32767) rfl rfl (take_ofW HT_.out HW_.out kr_) (fun _ _ _ h => h) (Or.inl ⟨by rfl, ?_⟩) hHeld ?_ ?_
        rotate_left
        ·rintro w' ⟨s0, s1, s2, s3, s4, s5, s6, s7⟩
         go_simp
         with_reducible rfl
        rotate_left
        ·exact pu_
        refine pure_ (i := 15) (N := some 55) (bm_ 18 65535) rfl rfl (any_of HT_.out kr_) (fun _ _ _ h => h) (Or.inl ⟨rfl, yi_⟩) pu_ ?_
        refine one_ (i := 16) (N := some 56) (bm_ 18 131071) rfl rfl (one_of HT_.out kr_) (by decide) (fun K hK => ?_)
        refine goes_ Try.func32 kr_ rfl #[.agg #[.int .i64 ((rd_T50 (rd_L4 l0_1 x3_2) x4_3).f0), .int .i64 ((rd_T50 (rd_L4 l0_1 x3_2) x4_3).f1), .int .i64 ((rd_T50 (rd_L4 l0_1 x3_2) x4_3).f2), .int .i64 ((rd_T50 (rd_L4 l0_1 x3_2) x4_3).f3)], .int .i64 a0_0, .int .i64 ((rd_L4 l0_1 x3_2).length : Int)] (by rfl) rfl rfl ar_ ?_
        with_reducible refine (spec_InstrOk.calls k3 ((rd_T50 (rd_L4 l0_1 x3_2) x4_3).f0) ((rd_T50 (rd_L4 l0_1 x3_2) x4_3).f1) ((rd_T50 (rd_L4 l0_1 x3_2) x4_3).f2) ((rd_T50 (rd_L4 l0_1 x3_2) x4_3).f3) a0_0 ((rd_L4 l0_1 x3_2).length : Int) false _ A19.out).mono ?_
        rintro e w26 ⟨rfl, hb⟩
        refine ⟨_, rfl, ?_⟩
        have n0_ := bb_ BK1.out hb
        have n1_ := bs_ hb
        clear BK1
        clear HB
        have BK1 := n0_
        have HB := n1_
        clear n0_ n1_
        (try clear hb)
        (try clear hb2)
        (try clear hk)
        (try clear hi)
        refine hK.out _ _ ⟨(blk_cell BK1.out 0).trans rfl, (blk_cell BK1.out 1).trans rfl, ((HB.out.cell (World.block_lt_of_cell? w _ hw6_0)).trans hw6_0), ((HB.out.cell (World.block_lt_of_cell? w _ hw7_0)).trans hw7_0), ((HB.out.cell (World.block_lt_of_cell? w _ hw7_1)).trans hw7_1), ((HB.out.cell (World.block_lt_of_cell? w _ hw7_2)).trans hw7_2), ((HB.out.cell (World.block_lt_of_cell? w _ hw7_3)).trans hw7_3), ((HB.out.cell (World.block_lt_of_cell? w _ hw8_0)).trans hw8_0)⟩ (fun hHeld => ?_)
        clear hK K
        refine norm_ (a' := ?_) ?_ ?_
        rotate_left
        ·show Act.put _ (some 56) _ = _
         simp only [Act.put, List.setIfInBounds_toArray, List.set_cons_zero, List.set_cons_succ, i64_w, i32_w]
         rfl
        refine pure_ (i := 17) (N := some 57) (bm_ 18 262143) rfl rfl (any_of HT_.out kr_) (fun _ _ _ h => h) (Or.inl ⟨rfl, yi_⟩) pu_ ?_
        refine done_ (done_of HT_.out kr_) ?_
        try go_wp2
        go_ret
        exact ⟨rr_, bw_⟩
       subst c20
       have H1 : (spec_ProgOk.l1 k3 x3_2 (wrap64 (x4_3 + 1)) a0_0 l0_1) = some r := by rw [if_pos rfl] at H; exact H
       clear H
       have H := H1
       clear H1
       have H' := am_ H
       clear H
       obtain ⟨hcz21_0, hcz21_1, hfz21_0, hfz21_1⟩ := bc2_ BK1.out
       have p5 : 0 ≤ (x3_2 : Int) := od_
       have q5 : x3_2 < (l0_1.length : Int) := od_
       obtain ⟨ad5, A5_0, c5_0, e5, hx5_0, hl5_0, hi5_0⟩ := at_L4 HR0_1.out x3_2 p5 q5
       obtain rfl : ad4 = ad5 := (by injection e5)
       replace hx5_0 := (HB.out.cell (World.block_lt_of_cell? w _ hx5_0)).trans hx5_0
       have HR5_0 := am_ hi5_0
       have HC5_0 := am_ hl5_0
       clear hi5_0 hl5_0
       replace p5 := eq_true p5
       replace q5 := eq_true q5
       try go_wp2
       have n0_ := am_ (blk_drew BK1.out)
       have n1_ := am_ (below_drew1 HB.out)
       clear BK1
       clear HB
       have BK1 := n0_
       have HB := n1_
       clear n0_ n1_
       have p6 : 0 ≤ (x3_2 : Int) := od_
       have q6 : x3_2 < (l0_1.length : Int) := od_
       obtain ⟨ad6, A6_0, c6_0, e6, hx6_0, hl6_0, hi6_0⟩ := at_L4 HR0_1.out x3_2 p6 q6
       have hw6_0 := hx6_0
       obtain rfl : ad4 = ad6 := (by injection e6)
       replace hx6_0 := (HB.out.cell (World.block_lt_of_cell? w _ hx6_0)).trans hx6_0
       have HR6_0 := am_ hi6_0
       have HC6_0 := am_ hl6_0
       clear hi6_0 hl6_0
       replace p6 := eq_true p6
       replace q6 := eq_true q6
       have p7 : 0 ≤ (x4_3 : Int) := od_
       have q7 : x4_3 < ((rd_L4 l0_1 x3_2).length : Int) := od_
       obtain ⟨ad7, e7, hx7_0, hx7_1, hx7_2, hx7_3⟩ := at_T50 HR6_0.out x4_3 p7 q7
       have hw7_3 := hx7_3
       have hw7_2 := hx7_2
       have hw7_1 := hx7_1
       have hw7_0 := hx7_0
       cases e7
       replace hx7_0 := (HB.out.cell (World.block_lt_of_cell? w _ hx7_0)).trans hx7_0
       replace hx7_1 := (HB.out.cell (World.block_lt_of_cell? w _ hx7_1)).trans hx7_1
       replace hx7_2 := (HB.out.cell (World.block_lt_of_cell? w _ hx7_2)).trans hx7_2
       replace hx7_3 := (HB.out.cell (World.block_lt_of_cell? w _ hx7_3)).trans hx7_3
       replace p7 := eq_true p7
       replace q7 := eq_true q7
       have p8 : 0 ≤ (x3_2 : Int) := od_
       have q8 : x3_2 < (l0_1.length : Int) := od_
       obtain ⟨ad8, A8_0, c8_0, e8, hx8_0, hl8_0, hi8_0⟩ := at_L4 HR0_1.out x3_2 p8 q8
       have hw8_0 := hx8_0
       obtain rfl : ad4 = ad8 := (by injection e8)
       replace hx8_0 := (HB.out.cell (World.block_lt_of_cell? w _ hx8_0)).trans hx8_0
       have HR8_0 := am_ hi8_0
       have HC8_0 := am_ hl8_0
       clear hi8_0 hl8_0
       replace p8 := eq_true p8
       replace q8 := eq_true q8
       have ea_ := Option.some.inj (hx6_0.symm.trans hx8_0)
       injection ea_ with ea_ en_ ec_
       subst ea_
       subst ec_
       clear en_
       refine start_ (n := 18) (S := fun w' => w'.cell? ⟨gb1, 0, none⟩ = some (.int .i64 a0_0) ∧ w'.cell? ⟨gb1, 1, none⟩ = some (.slice (some ad4) l0_1.length c0_1) ∧ w'.cell? (ad4.add (x3_2).toNat) = some (.slice (some ad7) (rd_L4 l0_1 x3_2).length c6_0) ∧ w'.cell? (ad7.add ((x4_3).toNat * 4)) = some (.int .i64 ((rd_T50 (rd_L4 l0_1 x3_2) x4_3).f0)) ∧ w'.cell? ⟨(ad7.add ((x4_3).toNat * 4)).block, (ad7.add ((x4_3).toNat * 4)).off + 1, none⟩ = some (.int .i64 ((rd_T50 (rd_L4 l0_1 x3_2) x4_3).f1)) ∧ w'.cell? ⟨(ad7.add ((x4_3).toNat * 4)).block, (ad7.add ((x4_3).toNat * 4)).off + 2, none⟩ = some (.int .i64 ((rd_T50 (rd_L4 l0_1 x3_2) x4_3).f2)) ∧ w'.cell? ⟨(ad7.add ((x4_3).toNat * 4)).block, (ad7.add ((x4_3).toNat * 4)).off + 3, none⟩ = some (.int .i64 ((rd_T50 (rd_L4 l0_1 x3_2) x4_3).f3)) ∧ w'.cell? (ad4.add (x3_2).toNat) = some (.slice (some ad7) (rd_L4 l0_1 x3_2).length c6_0)) (ds := []) (bm_ 18 0) kr_ rfl rfl ⟨(blk_cell BK1.out 0).trans rfl, (blk_cell BK1.out 1).trans rfl, ((HB.out.cell (World.block_lt_of_cell? w _ hw6_0)).trans hw6_0), ((HB.out.cell (World.block_lt_of_cell? w _ hw7_0)).trans hw7_0), ((HB.out.cell (World.block_lt_of_cell? w _ hw7_1)).trans hw7_1), ((HB.out.cell (World.block_lt_of_cell? w _ hw7_2)).trans hw7_2), ((HB.out.cell (World.block_lt_of_cell? w _ hw7_3)).trans hw7_3), ((HB.out.cell (World.block_lt_of_cell? w _ hw8_0)).trans hw8_0)⟩ (fun hHeld => ?_); refine with_tabW spec_ProgOk.tab11 spec_ProgOk.bits11 (fun HT_ HW_ => ?_)
       generalize wr.drew = w22 at BK1 HB HR6_0 HR8_0 hx6_0 hx7_0 hx7_1 hx7_2 hx7_3 hx8_0 hHeld ⊢
       refine pure_ (i := 0) (N := some 40) (bm_ 18 1) rfl rfl (any_of HT_.out kr_) (fun _ _ _ h => h) (Or.inl ⟨rfl, yi_⟩) pu_ ?_
       refine pure_ (i := 2) (N := some 42) (bm_ 18 5) rfl rfl (any_of HT_.out kr_) (fun _ _ _ h => h) (Or.inl ⟨rfl, yi_⟩) pu_ ?_
       refine pure_ (i := 5) (N := some 45) (bm_ 18 37) rfl rfl (any_of HT_.out kr_) (fun _ _ _ h => h) (Or.inl ⟨rfl, yi_⟩) pu_ ?_
       refine pure_ (i := 8) (N := some 48) (bm_ 18 293) rfl rfl (any_of HT_.out kr_) (fun _ _ _ h => h) (Or.inl ⟨rfl, yi_⟩) pu_ ?_
       refine pure_ (i := 10) (N := some 50) (bm_ 18 1317) rfl rfl (any_of HT_.out kr_) (fun _ _ _ h => h) (Or.inl ⟨rfl, yi_⟩) pu_ ?_
       refine pure_ (i := 12) (N := some 52) (bm_ 18 5413) rfl rfl (any_of HT_.out kr_) (fun _ _ _ h => h) (Or.inl ⟨rfl, yi_⟩) pu_ ?_
       refine take_ (i := 1) (N := some 41) (v := ?_) (a' := ?_) (bm_ 18 5415) rfl rfl (take_ofW HT_.out HW_.out kr_) (fun _ _ _ h => h) (Or.inl ⟨by rfl, ?_⟩) hHeld ?_ ?_
       rotate_left
       ·rintro w' ⟨s0, s1, s2, s3, s4, s5, s6, s7⟩
        go_simp
        with_reducible rfl
       rotate_left
       ·exact pu_
       refine pure_ (i := 3) (N := some 43) (bm_ 18 5423) rfl rfl (any_of HT_.out kr_) (fun _ _ _ h => h) (Or.inl ⟨rfl, yi_⟩) pu_ ?_
       refine take_ (i := 4) (N := some 44) (v := ?_) (a' := ?_) (bm_ 18 5439) rfl rfl (take_ofW HT_.out HW_.out kr_) (fun _ _ _ h => h) (Or.inl ⟨by rfl, ?_⟩) hHeld ?_ ?_
       rotate_left
       ·rintro w' ⟨s0, s1, s2, s3, s4, s5, s6, s7⟩
        go_simp
        with_reducible rfl
       rotate_left
       ·exact pu_
       refine pure_ (i := 6) (N := some 46) (bm_ 18 5503) rfl rfl (any_of HT_.out kr_) (fun _ _ _ h => h) (Or.inl ⟨rfl, yi_⟩) pu_ ?_
       refine take_ (i := 7) (N := some 47) (v := ?_) (a' := ?_) (bm_ 18 5631) rfl rfl (take_ofW HT_.out HW_.out kr_) (fun _ _ _ h => h) (Or.inl ⟨by rfl, ?_⟩) hHeld ?_ ?_
       rotate_left
       ·rintro w' ⟨s0, s1, s2, s3, s4, s5, s6, s7⟩
        go_simp
        with_reducible rfl
       rotate_left
       ·exact pu_
       refine take_ (i := 9) (N := some 49) (v := ?_) (a' := ?_) (bm_ 18 6143) rfl rfl (take_ofW HT_.out HW_.out kr_) (fun _ _ _ h => h) (Or.inl ⟨by rfl, ?_⟩) hHeld ?_ ?_
       rotate_left
       ·rintro w' ⟨s0, s1, s2, s3, s4, s5, s6, s7⟩
        go_simp
        with_reducible rfl
       rotate_left
       ·exact pu_
       refine take_ (i := 11) (N := some 51) (v := ?_) (a' := ?_) (bm_ 18 8191) rfl rfl (take_ofW HT_.out HW_.out kr_) (fun _ _ _ h => h) (Or.inl ⟨by rfl, ?_⟩) hHeld ?_ ?_
       rotate_left
       ·rintro w' ⟨s0, s1, s2, s3, s4, s5, s6, s7⟩
        go_simp
        with_reducible rfl
       rotate_left
       ·exact pu_
       refine pure_ (i := 13) (N := some 53) (bm_ 18 16383) rfl rfl (any_of HT_.out kr_) (fun _ _ _ h => h) (Or.inl ⟨rfl, yi_⟩) pu_ ?_
       refine take_ (i := 14) (N := some 54) (v := ?_) (a' := ?_) (bm_ 18 32767) rfl rfl (take_ofW HT_.out HW_.out kr_) (fun _ _ _ h => h) (Or.inl ⟨by rfl, ?_⟩) hHeld ?_ ?_
       rotate_left
       ·rintro w' ⟨s0, s1, s2, s3, s4, s5, s6, s7⟩
        go_simp
        with_reducible rfl
       rotate_left
       ·exact pu_
       refine pure_ (i := 15) (N := some 55) (bm_ 18 65535) rfl rfl (any_of HT_.out kr_) (fun _ _ _ h => h) (Or.inl ⟨rfl, yi_⟩) pu_ ?_
       refine one_ (i := 16) (N := some 56) (bm_ 18 131071) rfl rfl (one_of HT_.out kr_) (by decide) (fun K hK => ?_)
       refine goes_ Try.func32 kr_ rfl #[.agg #[.int .i64 ((rd_T50 (rd_L4 l0_1 x3_2) x4_3).f0), .int .i64 ((rd_T50 (rd_L4 l0_1 x3_2) x4_3).f1), .int .i64 ((rd_T50 (rd_L4 l0_1 x3_2) x4_3).f2), .int .i64 ((rd_T50 (rd_L4 l0_1 x3_2) x4_3).f3)], .int .i64 a0_0, .int .i64 ((rd_L4 l0_1 x3_2).length : Int)] (by rfl) rfl rfl ar_ ?_
       with_reducible refine (spec_InstrOk.calls k3 ((rd_T50 (rd_L4 l0_1 x3_2) x4_3).f0) ((rd_T50 (rd_L4 l0_1 x3_2) x4_3).f1) ((rd_T50 (rd_L4 l0_1 x3_2) x4_3).f2) ((rd_T50 (rd_L4 l0_1 x3_2) x4_3).f3) a0_0 ((rd_L4 l0_1 x3_2).length : Int) true _ A19.out).mono ?_
       rintro e w23 ⟨rfl, hb⟩
       refine ⟨_, rfl, ?_⟩
       have n0_ := bb_ BK1.out hb
       have n1_ := bs_ hb
       clear BK1
       clear HB
       have BK1 := n0_
       have HB := n1_
       clear n0_ n1_
       (try clear hb)
       (try clear hb2)
       (try clear hk)
       (try clear hi)
       refine hK.out _ _ ⟨(blk_cell BK1.out 0).trans rfl, (blk_cell BK1.out 1).trans rfl, ((HB.out.cell (World.block_lt_of_cell? w _ hw6_0)).trans hw6_0), ((HB.out.cell (World.block_lt_of_cell? w _ hw7_0)).trans hw7_0), ((HB.out.cell (World.block_lt_of_cell? w _ hw7_1)).trans hw7_1), ((HB.out.cell (World.block_lt_of_cell? w _ hw7_2)).trans hw7_2), ((HB.out.cell (World.block_lt_of_cell? w _ hw7_3)).trans hw7_3), ((HB.out.cell (World.block_lt_of_cell? w _ hw8_0)).trans hw8_0)⟩ (fun hHeld => ?_)
       clear hK K
       refine norm_ (a' := ?_) ?_ ?_
       rotate_left
       ·show Act.put _ (some 56) _ = _
        simp only [Act.put, List.setIfInBounds_toArray, List.set_cons_zero, List.set_cons_succ, i64_w, i32_w]
        rfl
       refine pure_ (i := 17) (N := some 57) (bm_ 18 262143) rfl rfl (any_of HT_.out kr_) (fun _ _ _ h => h) (Or.inl ⟨rfl, yi_⟩) pu_ ?_
       refine done_ (done_of HT_.out kr_) ?_
       try go_wp2
       go_roundg k3
       case measure => have := HJ1.out; have := HK2.out; have := HK3.out; omega
       case rel => exact ⟨(wrap64 (x4_3 + 1)), sd_, H', ⟨by have := HJ1.out; have := HK2.out; have := HK3.out; omega⟩, ⟨bk_⟩, ⟨bw_⟩⟩

end Go.Proofs.Ytbgclnjnngolmaa.P
