-- Written by mp.py (the session's own driver over the kit's printer) for the seat YtbgclnjnngolmaaGreatDoor.
import Derived.Test.YtbgclnjnngolmaaGreatDoorK
import Derived.Test.YtbgclnjnngolmaaGreatDoorPspecAskText
import Derived.Test.YtbgclnjnngolmaaGreatDoorPspecl01Parts
import Derived.Test.YtbgclnjnngolmaaGreatDoorPspecl06Atom
namespace Go.Proofs.YtbgclnjnngolmaaGreatDoor.P
open Go.RowKit Go.Proofs.YtbgclnjnngolmaaGreatDoorW.PrintWords Go.Proofs.YtbgclnjnngolmaaGreatDoorW.PrintLast Go.Proofs.YtbgclnjnngolmaaGreatDoorW.PrintMore
attribute [local go_sem] max2_int min2_int max_two min_two max_three min_three max_four min_four
set_option linter.unusedVariables false
set_option linter.unusedSimpArgs false

/-! ### spec_ParseAsk: function 12 -/
def spec_ParseAsk.l0 : Nat → ByteArray → List (S46) → List ByteArray → Int → Option ((List (S46)) × Bool)
 | 0, _, _, _, _ => none
 | k + 1, x0, x4, x5, x6 => if x6 < (x5.length : Int) then (if (Int.tmod x6 2) = 1 then (if 0 ≤ x6 then (if (rdOf ByteArray.empty x5 x6).toList = ([38] : List UInt8) then (spec_ParseAsk.l0 k x0 x4 x5 (wrap64 (x6 + 1))) else (some (([] : List (S46)), false))) else (none)) else (if 0 ≤ x6 then ((spec_l06Atom.f k (rdOf ByteArray.empty x5 x6)).bind fun bt11 => (if bt11.2.2.2.2 = true then (if x4.length < 4398046511104 then (spec_ParseAsk.l0 k x0 (x4 ++ [(⟨bt11.1, bt11.2.1, bt11.2.2.1, bt11.2.2.2.1⟩ : S46)]) x5 (wrap64 (x6 + 1))) else (none)) else (some (([] : List (S46)), false)))) else (none))) else ((spec_AskText.f k x4).bind fun bt7 => (if bt7.2 = true then (if bt7.1.toList = x0.toList then (some (x4, true)) else (some (([] : List (S46)), false))) else (some (([] : List (S46)), false))))
def spec_ParseAsk.f (k : Nat) (a0 : ByteArray) : Option ((List (S46)) × Bool) := if a0.toList = ([] : List UInt8) then (some (([] : List (S46)), true)) else (if (a0.size : Int) > 320 then (some (([] : List (S46)), false)) else ((spec_l01Parts.f k a0 32).bind fun t4 => (spec_ParseAsk.l0 k a0 (([] : List (S46))) t4 0)))
theorem spec_ParseAsk.mono_l : ∀ k, (∀ y0 y1 y2 y3, LeO (spec_ParseAsk.l0 k y0 y1 y2 y3) (spec_ParseAsk.l0 (k + 1) y0 y1 y2 y3))
 | 0 => fun _ _ _ _ r h => by simp [spec_ParseAsk.l0] at h
 | k + 1 => by
  have ih0 := spec_ParseAsk.mono_l k
  ·intro y0 y1 y2 y3
   unfold spec_ParseAsk.l0
   repeat' first | (with_reducible first | exact ih0 _ _ _ _ | exact spec_AskText.mono _ _ | exact spec_l01Parts.mono _ _ _ | exact spec_l06Atom.mono _ _ | exact lr_ | exact ln_ | refine LeO.ite ?_ ?_ | refine LeO.bind ?_ (fun _ => ?_)) | exact ih0 _ _ _ _ | exact spec_AskText.mono _ _ | exact spec_l01Parts.mono _ _ _ | exact spec_l06Atom.mono _ _ | exact ln_ | refine LeO.ite ?_ ?_ | refine LeO.bind ?_ (fun _ => ?_)
theorem spec_ParseAsk.mono : ∀ a0 k, LeO (spec_ParseAsk.f k a0) (spec_ParseAsk.f (k + 1) a0) := by
 intro a0 k
 have ih0 := spec_ParseAsk.mono_l k
 unfold spec_ParseAsk.f
 repeat' first | (with_reducible first | exact ih0 _ _ _ _ | exact spec_AskText.mono _ _ | exact spec_l01Parts.mono _ _ _ | exact spec_l06Atom.mono _ _ | exact lr_ | exact ln_ | refine LeO.ite ?_ ?_ | refine LeO.bind ?_ (fun _ => ?_)) | exact ih0 _ _ _ _ | exact spec_AskText.mono _ _ | exact spec_l01Parts.mono _ _ _ | exact spec_l06Atom.mono _ _ | exact ln_ | refine LeO.ite ?_ ?_ | refine LeO.bind ?_ (fun _ => ?_)
set_option maxHeartbeats 8000000 in
set_option maxRecDepth 100000 in
theorem spec_ParseAsk.calls (k : Nat) (a0 : ByteArray) (r1 : List (S46)) (r2 : Bool) (w : World) (h : spec_ParseAsk.f k a0 = some (r1, r2)) :
  Calls Tryz.prog 12 #[.string a0] w fun e w' => ∃ v0_ : Value, e = .returned (.tuple #[v0_, .bool r2]) ∧ Kd.R k46 46 w' w.heap.size (fun _ => True) v0_ r1 ∧ Below w.heap.size w w' := by
 have hu46 := Tryz.underlying46
 have HB := Aside0.mk (Below.refl w.heap.size w)
 have H : (if a0.toList = ([] : List UInt8) then (some (([] : List (S46)), true)) else (if (a0.size : Int) > 320 then (some (([] : List (S46)), false)) else ((spec_l01Parts.f k a0 32).bind fun t4 => (spec_ParseAsk.l0 k a0 (([] : List (S46))) t4 0)))) = some (r1, r2) := h
 clear h
 obtain ⟨y1, hy1⟩ : ∃ y_ : List (S46), y_ = (([] : List (S46))) := ⟨_, rfl⟩
 replace H : (if a0.toList = ([] : List UInt8) then (some (([] : List (S46)), true)) else (if (a0.size : Int) > 320 then (some (([] : List (S46)), false)) else ((spec_l01Parts.f k a0 32).bind fun t4 => (spec_ParseAsk.l0 k a0 y1 t4 0)))) = some (r1, r2) := by first | (rw [hy1]; with_reducible exact H) | (have H2_ := (Option.bind_some _ _).symm.trans H; rw [hy1]; with_reducible exact H2_) | (have H2_ := (Option.bind_some _ _).symm.trans H; with_reducible exact H2_) | with_reducible exact H | (rw [hy1]; exact H) | exact H
 have Ny1 := Aside0.mk hy1
 clear hy1
 by_cases c2 : a0.toList = ([] : List UInt8)
 ·rw [if_pos c2] at H
  have c2b0 : (a0.toList == ([] : List UInt8)) = true := beq_iff_eq.mpr c2
  have c2b1 : (a0.toList != ([] : List UInt8)) = false := bne_eq_false_iff_eq.mpr c2
  clear c2
  simp only [Option.some.injEq, Prod.mk.injEq] at H
  obtain ⟨rfl, rfl⟩ := H
  go_enter Tryz.func12, Tryz.ntmps12
  go_wp2_with (first | ((with_reducible refine gate_dst (N := 11) rfl ?_); refine Kd.R_lit k46 _ 46 ?hg (N := 11) ?hd (xs := ([] : List (S46))) (inner := []) (ok := fun _ => True) (okp := fun _ => True) ?hr ?hp (fun _ hk => hk) trivial (Below.refl _ _) (Nat.le_refl _) (by simp) ?_; (case hd => rfl); (case hg => rfl); (case hr => first | (go_simp; done) | (go_simp; rfl)); (case hp => exact (Reps.none _ _)); intro v2 w3 ho4 hb hg_ hnew_; clear hg_ hnew_; (first | rw [← Ny1.out] at ho4 | (simp only [Int.reduceToNat] at ho4; rw [← Ny1.out] at ho4)); have n0_ := Aside0.mk (Kd.R_lower ho4 (below_size bw_)); have n1_ := bs_ hb; clear HB; have HO3 := n0_; have HB := n1_; clear n0_ n1_; clear hb ho4))
  go_ret2
  exact ⟨_, rr_, by first | exact Kd.R_nil _ _ _ _ _ | exact Kd.N_nil _ _ _ _ _ | exact Kd.V_nil _ _ _ _ _ | exact Kd.Q_nil _ _ _ _ _ | exact Kd.S_nil _ _ _ _ _, bw_⟩
 rw [if_neg c2] at H
 have c2b0 : (a0.toList == ([] : List UInt8)) = false := beq_eq_false_iff_ne.mpr c2
 have c2b1 : (a0.toList != ([] : List UInt8)) = true := bne_iff_ne.mpr c2
 by_cases c5 : (a0.size : Int) > 320
 ·rw [if_pos c5] at H
  have c5b0 : decide (320 < (a0.size : Int)) = true := decide_eq_true c5
  have c5b1 : decide (320 < a0.size) = true := decide_eq_true (by omega)
  clear c5
  simp only [Option.some.injEq, Prod.mk.injEq] at H
  obtain ⟨rfl, rfl⟩ := H
  go_enter Tryz.func12, Tryz.ntmps12
  go_wp2_with (first | ((with_reducible refine gate_dst (N := 11) rfl ?_); refine Kd.R_lit k46 _ 46 ?hg (N := 11) ?hd (xs := ([] : List (S46))) (inner := []) (ok := fun _ => True) (okp := fun _ => True) ?hr ?hp (fun _ hk => hk) trivial (Below.refl _ _) (Nat.le_refl _) (by simp) ?_; (case hd => rfl); (case hg => rfl); (case hr => first | (go_simp; done) | (go_simp; rfl)); (case hp => exact (Reps.none _ _)); intro v2 w6 ho7 hb hg_ hnew_; clear hg_ hnew_; (first | rw [← Ny1.out] at ho7 | (simp only [Int.reduceToNat] at ho7; rw [← Ny1.out] at ho7)); have n0_ := Aside0.mk (Kd.R_lower ho7 (below_size bw_)); have n1_ := bs_ hb; clear HB; have HO3 := n0_; have HB := n1_; clear n0_ n1_; clear hb ho7))
  go_ret2
  exact ⟨_, rr_, by first | exact Kd.R_nil _ _ _ _ _ | exact Kd.N_nil _ _ _ _ _ | exact Kd.V_nil _ _ _ _ _ | exact Kd.Q_nil _ _ _ _ _ | exact Kd.S_nil _ _ _ _ _, bw_⟩
 rw [if_neg c5] at H
 have c5b0 : decide (320 < (a0.size : Int)) = false := decide_eq_false c5
 have c5b1 : decide (320 < a0.size) = false := decide_eq_false (by omega)
 clear c5
 replace H := Option.bind_eq_some_iff.mp H
 obtain ⟨t4, A80, H⟩ := H
 replace H : (spec_ParseAsk.l0 k a0 y1 t4 0) = some (r1, r2) := H
 have A8 := Aside0.mk A80
 clear A80
 have H' := Aside0.mk H
 clear H
 go_enter Tryz.func12, Tryz.ntmps12
 go_wp2_with (first | ((with_reducible refine gate_dst (N := 11) rfl ?_); refine Kd.R_lit k46 _ 46 ?hg (N := 11) ?hd (xs := ([] : List (S46))) (inner := []) (ok := fun _ => True) (okp := fun _ => True) ?hr ?hp (fun _ hk => hk) trivial (Below.refl _ _) (Nat.le_refl _) (by simp) ?_; (case hd => rfl); (case hg => rfl); (case hr => first | (go_simp; done) | (go_simp; rfl)); (case hp => exact (Reps.none _ _)); intro v2 w9 ho10 hb hg_ hnew_; clear hg_ hnew_; (first | rw [← Ny1.out] at ho10 | (simp only [Int.reduceToNat] at ho10; rw [← Ny1.out] at ho10)); have n0_ := Aside0.mk (Kd.R_lower ho10 (below_size bw_)); have n1_ := bs_ hb; clear HB; have HO3 := n0_; have HB := n1_; clear n0_ n1_; clear hb ho10) | ((with_reducible refine gate_callee (f := 21) rfl ?_); refine goesL_ (some 18) rfl rfl Tryz.func21 (by kernel_rfl) rfl #[.string a0, .int .u8 32] rfl ar_ ?_; (with_reducible refine (spec_l01Parts.calls k a0 32 t4 _ A8.out).mono ?_); rintro e w11 ⟨v5, rfl, ho0, hb⟩; refine ⟨_, rfl, ?_⟩; have n0_ := Aside0.mk (Kd.R_below (rx_ HO3.out) hb); have n1_ := Aside0.mk (Kd.R_lower ho0 (below_size bw_)); have n2_ := bs_ hb; clear HO3; clear HB; have HO3 := n0_; have HO6 := n1_; have HB := n2_; clear n0_ n1_ n2_; (try clear hb); (try clear hb2); (try clear hk); (try clear hi); (try clear ho0)))
 go_loopg [4, 6] k (fun kq v4 v6 w' => ∃ (x4_1 : List (S46)) (x6_1 : Int), v6 = .int .i64 x6_1 ∧ Aside0 (spec_ParseAsk.l0 kq a0 x4_1 t4 x6_1 = some (r1, r2)) ∧ Aside0 (kq ≤ k) ∧ Aside0 (Kd.R k46 46 w' w.heap.size (fun _ => True) v4 x4_1) ∧ Aside0 (Kd.R Kd.string 9 w' w.heap.size (fun _ => True) v5 t4) ∧ Aside0 (Below w.heap.size w w'))
 case atStart => exact ⟨(y1), (0), sd_, H', ⟨Nat.le_refl _⟩, ⟨by (with_reducible repeat (first | apply Kd.R_alloc | apply Kd.R_drewN | apply Kd.R_drew)); exact HO3.out⟩, ⟨by (with_reducible repeat (first | apply Kd.R_alloc | apply Kd.R_drewN | apply Kd.R_drew)); exact HO6.out⟩, ⟨bw_⟩⟩
 case round =>
  clear H'
  try clear c1
  try clear c2
  try clear c2b0
  try clear c2b1
  try clear p2
  try clear c5
  try clear c5b0
  try clear c5b1
  obtain ⟨x4_1, x6_1, rfl, HA, HK1, HO_4, HO_5, HB⟩ := hrel
  cases gk with
  | zero => exact absurd HA.out (by simp [spec_ParseAsk.l0])
  | succ k1 =>
   have H := HA.out
   clear HA
   simp only [spec_ParseAsk.l0] at H
   by_cases c12 : x6_1 < (t4.length : Int)
   rotate_left
   ·rw [if_neg c12] at H
    have c12b0 : decide (x6_1 < (t4.length : Int)) = false := decide_eq_false c12
    clear c12
    replace H := Option.bind_eq_some_iff.mp H
    obtain ⟨⟨t7, t8⟩, A310, H⟩ := H
    replace H : (if t8 = true then (if t7.toList = a0.toList then (some (x4_1, true)) else (some (([] : List (S46)), false))) else (some (([] : List (S46)), false))) = some (r1, r2) := H
    have A31 := Aside0.mk A310
    clear A310
    by_cases c32 : t8 = true
    rotate_left
    ·replace c32 := Bool.eq_false_iff.mpr c32
     subst c32
     have H1 : (some (([] : List (S46)), false)) = some (r1, r2) := by rw [if_neg (show ¬ (false = true) by decide)] at H; exact H
     clear H
     have H := H1
     clear H1
     simp only [Option.some.injEq, Prod.mk.injEq] at H
     obtain ⟨rfl, rfl⟩ := H
     obtain ⟨Ao40, co40, eo40⟩ := Kd.R_slice HO_5.out
     subst eo40
     obtain ⟨Ao41, co41, eo41⟩ := Kd.R_slice HO_4.out
     subst eo41
     go_wp2_with (first | ((with_reducible refine gate_callee (f := 23) rfl ?_); refine goesL_ (some 49) rfl rfl Tryz.func23 (by kernel_rfl) rfl #[.slice Ao41 x4_1.length co41] rfl ar_ ?_; (with_reducible refine (spec_AskText.calls k1 _ _ x4_1 t7 false _ ?side1 ?side2 A31.out).mono ?_); (case side1 => repeat (first | exact (Kd.R_reads' HO_4.out).2.2 | (with_reducible refine Kd.C_alloc ?_ _) | (with_reducible refine Kd.C_drewN ?_ _) | (with_reducible refine Kd.C_drew ?_))); (case side2 => exact (Kd.R_reads' HO_4.out).2.1); rintro e w42 ⟨rfl, hb⟩; refine ⟨_, rfl, ?_⟩; have n0_ := Aside0.mk (Kd.R_below (rx_ HO_4.out) hb); have n1_ := Aside0.mk (Kd.R_below (rx_ HO_5.out) hb); have n2_ := bs_ hb; clear HO_4; clear HO_5; clear HB; have HO_4 := n0_; have HO_5 := n1_; have HB := n2_; clear n0_ n1_ n2_; (try clear hb); (try clear hb2); (try clear hk); (try clear hi)))
     go_ret2
     exact ⟨_, rr_, by first | exact Kd.R_nil _ _ _ _ _ | exact Kd.N_nil _ _ _ _ _ | exact Kd.V_nil _ _ _ _ _ | exact Kd.Q_nil _ _ _ _ _ | exact Kd.S_nil _ _ _ _ _, bw_⟩
    subst c32
    have H1 : (if t7.toList = a0.toList then (some (x4_1, true)) else (some (([] : List (S46)), false))) = some (r1, r2) := by rw [if_pos rfl] at H; exact H
    clear H
    have H := H1
    clear H1
    by_cases c33 : t7.toList = a0.toList
    rotate_left
    ·rw [if_neg c33] at H
     have c33b0 : (t7.toList == a0.toList) = false := beq_eq_false_iff_ne.mpr c33
     have c33b1 : (t7.toList != a0.toList) = true := bne_iff_ne.mpr c33
     simp only [Option.some.injEq, Prod.mk.injEq] at H
     obtain ⟨rfl, rfl⟩ := H
     obtain ⟨Ao37, co37, eo37⟩ := Kd.R_slice HO_5.out
     subst eo37
     obtain ⟨Ao38, co38, eo38⟩ := Kd.R_slice HO_4.out
     subst eo38
     go_wp2_with (first | ((with_reducible refine gate_callee (f := 23) rfl ?_); refine goesL_ (some 49) rfl rfl Tryz.func23 (by kernel_rfl) rfl #[.slice Ao38 x4_1.length co38] rfl ar_ ?_; (with_reducible refine (spec_AskText.calls k1 _ _ x4_1 t7 true _ ?side1 ?side2 A31.out).mono ?_); (case side1 => repeat (first | exact (Kd.R_reads' HO_4.out).2.2 | (with_reducible refine Kd.C_alloc ?_ _) | (with_reducible refine Kd.C_drewN ?_ _) | (with_reducible refine Kd.C_drew ?_))); (case side2 => exact (Kd.R_reads' HO_4.out).2.1); rintro e w39 ⟨rfl, hb⟩; refine ⟨_, rfl, ?_⟩; have n0_ := Aside0.mk (Kd.R_below (rx_ HO_4.out) hb); have n1_ := Aside0.mk (Kd.R_below (rx_ HO_5.out) hb); have n2_ := bs_ hb; clear HO_4; clear HO_5; clear HB; have HO_4 := n0_; have HO_5 := n1_; have HB := n2_; clear n0_ n1_ n2_; (try clear hb); (try clear hb2); (try clear hk); (try clear hi)))
     go_ret2
     exact ⟨_, rr_, by first | exact Kd.R_nil _ _ _ _ _ | exact Kd.N_nil _ _ _ _ _ | exact Kd.V_nil _ _ _ _ _ | exact Kd.Q_nil _ _ _ _ _ | exact Kd.S_nil _ _ _ _ _, bw_⟩
    rw [if_pos c33] at H
    have c33b0 : (t7.toList == a0.toList) = true := beq_iff_eq.mpr c33
    have c33b1 : (t7.toList != a0.toList) = false := bne_eq_false_iff_eq.mpr c33
    clear c33
    simp only [Option.some.injEq, Prod.mk.injEq] at H
    obtain ⟨rfl, rfl⟩ := H
    obtain ⟨Ao34, co34, eo34⟩ := Kd.R_slice HO_5.out
    subst eo34
    obtain ⟨Ao35, co35, eo35⟩ := Kd.R_slice HO_4.out
    subst eo35
    go_wp2_with (first | ((with_reducible refine gate_callee (f := 23) rfl ?_); refine goesL_ (some 49) rfl rfl Tryz.func23 (by kernel_rfl) rfl #[.slice Ao35 x4_1.length co35] rfl ar_ ?_; (with_reducible refine (spec_AskText.calls k1 _ _ x4_1 t7 true _ ?side1 ?side2 A31.out).mono ?_); (case side1 => repeat (first | exact (Kd.R_reads' HO_4.out).2.2 | (with_reducible refine Kd.C_alloc ?_ _) | (with_reducible refine Kd.C_drewN ?_ _) | (with_reducible refine Kd.C_drew ?_))); (case side2 => exact (Kd.R_reads' HO_4.out).2.1); rintro e w36 ⟨rfl, hb⟩; refine ⟨_, rfl, ?_⟩; have n0_ := Aside0.mk (Kd.R_below (rx_ HO_4.out) hb); have n1_ := Aside0.mk (Kd.R_below (rx_ HO_5.out) hb); have n2_ := bs_ hb; clear HO_4; clear HO_5; clear HB; have HO_4 := n0_; have HO_5 := n1_; have HB := n2_; clear n0_ n1_ n2_; (try clear hb); (try clear hb2); (try clear hk); (try clear hi)))
    go_ret2
    exact ⟨_, rr_, by (with_reducible repeat (first | apply Kd.R_alloc | apply Kd.R_drewN | apply Kd.R_drew)); exact HO_4.out, bw_⟩
   rw [if_pos c12] at H
   have c12b0 : decide (x6_1 < (t4.length : Int)) = true := decide_eq_true c12
   clear c12
   by_cases c13 : (Int.tmod x6_1 2) = 1
   ·rw [if_pos c13] at H
    have c13b0 : ((Int.tmod x6_1 2) == 1) = true := beq_iff_eq.mpr c13
    have c13b1 : ((Int.tmod x6_1 2) != 1) = false := bne_eq_false_iff_eq.mpr c13
    clear c13
    by_cases c14 : 0 ≤ x6_1
    rotate_left
    ·rw [if_neg c14] at H
     exact absurd H (by simp)
    rw [if_pos c14] at H
    have c14b0 : decide (0 ≤ x6_1) = true := decide_eq_true c14
    clear c14
    by_cases c15 : (rdOf ByteArray.empty t4 x6_1).toList = ([38] : List UInt8)
    rotate_left
    ·rw [if_neg c15] at H
     have c15b0 : ((rdOf ByteArray.empty t4 x6_1).toList == ([38] : List UInt8)) = false := beq_eq_false_iff_ne.mpr c15
     have c15b1 : ((rdOf ByteArray.empty t4 x6_1).toList != ([38] : List UInt8)) = true := bne_iff_ne.mpr c15
     simp only [Option.some.injEq, Prod.mk.injEq] at H
     obtain ⟨rfl, rfl⟩ := H
     obtain ⟨Ao17, co17, eo17⟩ := Kd.R_slice HO_5.out
     subst eo17
     have p9 : 0 ≤ (x6_1 : Int) := od_
     have q9 : x6_1 < (t4.length : Int) := od_
     obtain ⟨ad9, e9, hx9_0⟩ := Kd.at_string (Kd.R_reads' HO_5.out).2.2 x6_1 p9 q9
     cases e9
     replace p9 := eq_true p9
     replace q9 := eq_true q9
     go_wp2
     go_ret2
     exact ⟨_, rr_, by first | exact Kd.R_nil _ _ _ _ _ | exact Kd.N_nil _ _ _ _ _ | exact Kd.V_nil _ _ _ _ _ | exact Kd.Q_nil _ _ _ _ _ | exact Kd.S_nil _ _ _ _ _, bw_⟩
    rw [if_pos c15] at H
    have c15b0 : ((rdOf ByteArray.empty t4 x6_1).toList == ([38] : List UInt8)) = true := beq_iff_eq.mpr c15
    have c15b1 : ((rdOf ByteArray.empty t4 x6_1).toList != ([38] : List UInt8)) = false := bne_eq_false_iff_eq.mpr c15
    clear c15
    have H' := Aside0.mk H
    clear H
    obtain ⟨Ao16, co16, eo16⟩ := Kd.R_slice HO_5.out
    subst eo16
    have p9 : 0 ≤ (x6_1 : Int) := od_
    have q9 : x6_1 < (t4.length : Int) := od_
    obtain ⟨ad9, e9, hx9_0⟩ := Kd.at_string (Kd.R_reads' HO_5.out).2.2 x6_1 p9 q9
    cases e9
    replace p9 := eq_true p9
    replace q9 := eq_true q9
    go_wp2
    go_roundg k1
    case measure => have := HK1.out; omega
    case rel => exact ⟨(x4_1), (wrap64 (x6_1 + 1)), sd_, H', ⟨by have := HK1.out; omega⟩, ⟨by (with_reducible repeat (first | apply Kd.R_alloc | apply Kd.R_drewN | apply Kd.R_drew)); exact HO_4.out⟩, ⟨by (with_reducible repeat (first | apply Kd.R_alloc | apply Kd.R_drewN | apply Kd.R_drew)); exact HO_5.out⟩, ⟨bw_⟩⟩
   rw [if_neg c13] at H
   have c13b0 : ((Int.tmod x6_1 2) == 1) = false := beq_eq_false_iff_ne.mpr c13
   have c13b1 : ((Int.tmod x6_1 2) != 1) = true := bne_iff_ne.mpr c13
   by_cases c18 : 0 ≤ x6_1
   rotate_left
   ·rw [if_neg c18] at H
    exact absurd H (by simp)
   rw [if_pos c18] at H
   have c18b0 : decide (0 ≤ x6_1) = true := decide_eq_true c18
   clear c18
   replace H := Option.bind_eq_some_iff.mp H
   obtain ⟨⟨t11, t12, t13, t14, t15⟩, A190, H⟩ := H
   replace H : (if t15 = true then (if x4_1.length < 4398046511104 then (spec_ParseAsk.l0 k1 a0 (x4_1 ++ [(⟨t11, t12, t13, t14⟩ : S46)]) t4 (wrap64 (x6_1 + 1))) else (none)) else (some (([] : List (S46)), false))) = some (r1, r2) := H
   have A19 := Aside0.mk A190
   clear A190
   by_cases c20 : t15 = true
   rotate_left
   ·replace c20 := Bool.eq_false_iff.mpr c20
    subst c20
    have H1 : (some (([] : List (S46)), false)) = some (r1, r2) := by rw [if_neg (show ¬ (false = true) by decide)] at H; exact H
    clear H
    have H := H1
    clear H1
    simp only [Option.some.injEq, Prod.mk.injEq] at H
    obtain ⟨rfl, rfl⟩ := H
    obtain ⟨Ao27, co27, eo27⟩ := Kd.R_slice HO_5.out
    subst eo27
    have p10 : 0 ≤ (x6_1 : Int) := od_
    have q10 : x6_1 < (t4.length : Int) := od_
    obtain ⟨ad10, e10, hx10_0⟩ := Kd.at_string (Kd.R_reads' HO_5.out).2.2 x6_1 p10 q10
    cases e10
    replace p10 := eq_true p10
    replace q10 := eq_true q10
    go_wp2_with (first | ((with_reducible refine gate_callee (f := 22) rfl ?_); refine goesL_ (some 38) rfl rfl Tryz.func22 (by kernel_rfl) rfl #[.string (rdOf ByteArray.empty t4 x6_1)] rfl ar_ ?_; (with_reducible refine (spec_l06Atom.calls k1 (rdOf ByteArray.empty t4 x6_1) t11 t12 t13 t14 false _ A19.out).mono ?_); rintro e w28 ⟨rfl, hb⟩; refine ⟨_, rfl, ?_⟩; have n0_ := Aside0.mk (Kd.R_below (rx_ HO_4.out) hb); have n1_ := Aside0.mk (Kd.R_below (rx_ HO_5.out) hb); have n2_ := bs_ hb; clear HO_4; clear HO_5; clear HB; have HO_4 := n0_; have HO_5 := n1_; have HB := n2_; clear n0_ n1_ n2_; (try clear hb); (try clear hb2); (try clear hk); (try clear hi)) | ((with_reducible refine gate_dst (N := 7) rfl ?_); refine box_event ?hg (N := 7) ?hd (cs := #[.int .i64 0, .int .i64 0, .int .i64 0, .int .i64 0]) (t := 46) ?hr ?_; (case hd => rfl); (case hg => rfl); (case hr => exact hrr_); intro gb16 hg w29 hbox hb; have n0_ := Aside0.mk (Kd.R_below (Kd.R_elderB (rx_ HO_4.out) gb16 (Nat.le_of_eq hg.symm)) hb); have n1_ := Aside0.mk (Kd.R_below (rx_ HO_5.out) hb); have n2_ := bs_ hb; have n3_ := Aside0.mk (hbox); have n4_ := ge_ (w := w) hg; have n5_ := ge_ (w := w) hg; clear HO_4; clear HO_5; clear HB; have HO_4 := n0_; have HO_5 := n1_; have HB := n2_; have BK16 := n3_; have GW16 := n4_; have GE16 := n5_; clear n0_ n1_ n2_ n3_ n4_ n5_; clear hb hbox hg; obtain ⟨hcz30_0, hcz30_1, hcz30_2, hcz30_3, hfz30_0, hfz30_1, hfz30_2, hfz30_3⟩ := bc4_ BK16.out))
    go_ret2
    exact ⟨_, rr_, by first | exact Kd.R_nil _ _ _ _ _ | exact Kd.N_nil _ _ _ _ _ | exact Kd.V_nil _ _ _ _ _ | exact Kd.Q_nil _ _ _ _ _ | exact Kd.S_nil _ _ _ _ _, bw_⟩
   subst c20
   have H1 : (if x4_1.length < 4398046511104 then (spec_ParseAsk.l0 k1 a0 (x4_1 ++ [(⟨t11, t12, t13, t14⟩ : S46)]) t4 (wrap64 (x6_1 + 1))) else (none)) = some (r1, r2) := by rw [if_pos rfl] at H; exact H
   clear H
   have H := H1
   clear H1
   by_cases c21 : x4_1.length < 4398046511104
   rotate_left
   ·rw [if_neg c21] at H
    exact absurd H (by simp)
   rw [if_pos c21] at H
   have LMc21 := Aside0.mk c21
   clear c21
   obtain ⟨y17, hy17⟩ : ∃ y_ : List (S46), y_ = (x4_1 ++ [(⟨t11, t12, t13, t14⟩ : S46)]) := ⟨_, rfl⟩
   replace H : (spec_ParseAsk.l0 k1 a0 y17 t4 (wrap64 (x6_1 + 1))) = some (r1, r2) := by first | (rw [hy17]; with_reducible exact H) | (have H2_ := (Option.bind_some _ _).symm.trans H; rw [hy17]; with_reducible exact H2_) | (have H2_ := (Option.bind_some _ _).symm.trans H; with_reducible exact H2_) | with_reducible exact H | (rw [hy17]; exact H) | exact H
   have Ny17 := Aside0.mk hy17
   clear hy17
   have H' := Aside0.mk H
   clear H
   obtain ⟨Ao22, co22, eo22⟩ := Kd.R_slice HO_5.out
   subst eo22
   have p10 : 0 ≤ (x6_1 : Int) := od_
   have q10 : x6_1 < (t4.length : Int) := od_
   obtain ⟨ad10, e10, hx10_0⟩ := Kd.at_string (Kd.R_reads' HO_5.out).2.2 x6_1 p10 q10
   cases e10
   replace p10 := eq_true p10
   replace q10 := eq_true q10
   go_wp2_with (first | ((with_reducible refine gate_callee (f := 22) rfl ?_); refine goesL_ (some 38) rfl rfl Tryz.func22 (by kernel_rfl) rfl #[.string (rdOf ByteArray.empty t4 x6_1)] rfl ar_ ?_; (with_reducible refine (spec_l06Atom.calls k1 (rdOf ByteArray.empty t4 x6_1) t11 t12 t13 t14 true _ A19.out).mono ?_); rintro e w23 ⟨rfl, hb⟩; refine ⟨_, rfl, ?_⟩; have n0_ := Aside0.mk (Kd.R_below (rx_ HO_4.out) hb); have n1_ := Aside0.mk (Kd.R_below (rx_ HO_5.out) hb); have n2_ := bs_ hb; clear HO_4; clear HO_5; clear HB; have HO_4 := n0_; have HO_5 := n1_; have HB := n2_; clear n0_ n1_ n2_; (try clear hb); (try clear hb2); (try clear hk); (try clear hi)) | ((with_reducible refine gate_dst (N := 7) rfl ?_); refine box_event ?hg (N := 7) ?hd (cs := #[.int .i64 0, .int .i64 0, .int .i64 0, .int .i64 0]) (t := 46) ?hr ?_; (case hd => rfl); (case hg => rfl); (case hr => exact hrr_); intro gb16 hg w24 hbox hb; have n0_ := Aside0.mk (Kd.R_below (Kd.R_elderB (rx_ HO_4.out) gb16 (Nat.le_of_eq hg.symm)) hb); have n1_ := Aside0.mk (Kd.R_below (rx_ HO_5.out) hb); have n2_ := bs_ hb; have n3_ := Aside0.mk (hbox); have n4_ := ge_ (w := w) hg; have n5_ := ge_ (w := w) hg; clear HO_4; clear HO_5; clear HB; have HO_4 := n0_; have HO_5 := n1_; have HB := n2_; have BK16 := n3_; have GW16 := n4_; have GE16 := n5_; clear n0_ n1_ n2_ n3_ n4_ n5_; clear hb hbox hg; obtain ⟨hcz25_0, hcz25_1, hcz25_2, hcz25_3, hfz25_0, hfz25_1, hfz25_2, hfz25_3⟩ := bc4_ BK16.out) | ((with_reducible refine gate_builtin (b := .append) (xs := #[.tmp 43, .tmp 45]) rfl ?_); at_builtin; refine Kd.R_append k46 (w0 := w) w.heap.size rfl (.tmp 43) (.tmp 45) 25 46 (.agg #[(.int .i64 0), (.int .i64 0), (.int .i64 0), (.int .i64 0)]) 32 rfl Tryz.underlying25 info46 rfl (by decide) (by omega) u4 x4_1 (⟨t11, t12, t13, t14⟩ : S46) [.int .i64 t11, .int .i64 t12, .int .i64 t13, .int .i64 t14] (fun k_ => k_ ≠ gb16) (fun _ => False) rfl (by first | (go_simp; done) | (go_simp; rfl)) ?aP (fun _ hk => hk.elim) ?aF ?aO ?aB ?aS ?aL ?_; (case aP => exact k46_mkM _ _ _ (⟨t11, t12, t13, t14⟩ : S46)); (case aB => exact bw_); (case aF => exact (fun k_ hk => Kd.freshB (g := gb16) (o := .cells #[.int .i64 t11, .int .i64 t12, .int .i64 t13, .int .i64 t14] 46 (0, 0)) (by (with_reducible repeat (first | refine blk_drewN ?_ _ | refine blk_drew ?_ | refine blk_alloc ?_ _)); refine blk_put (cs := #[.int .i64 t11, .int .i64 t12, .int .i64 t13, .int .i64 0]) ?_ 3 _ rfl; (with_reducible repeat (first | refine blk_drewN ?_ _ | refine blk_drew ?_ | refine blk_alloc ?_ _)); refine blk_put (cs := #[.int .i64 t11, .int .i64 t12, .int .i64 0, .int .i64 0]) ?_ 2 _ rfl; (with_reducible repeat (first | refine blk_drewN ?_ _ | refine blk_drew ?_ | refine blk_alloc ?_ _)); refine blk_put (cs := #[.int .i64 t11, .int .i64 0, .int .i64 0, .int .i64 0]) ?_ 1 _ rfl; (with_reducible repeat (first | refine blk_drewN ?_ _ | refine blk_drew ?_ | refine blk_alloc ?_ _)); refine blk_put (cs := #[.int .i64 0, .int .i64 0, .int .i64 0, .int .i64 0]) ?_ 0 _ rfl; (with_reducible repeat (first | refine blk_drewN ?_ _ | refine blk_drew ?_ | refine blk_alloc ?_ _)); exact BK16.out) k_ hk)); (case aO => exact (by (with_reducible repeat (first | apply Kd.R_alloc | apply Kd.R_drewN | apply Kd.R_drew)); exact Kd.R_mono (Kd.R_far (p := ⟨gb16, 3, none⟩) (Kd.R_far (p := ⟨gb16, 2, none⟩) (Kd.R_far (p := ⟨gb16, 1, none⟩) (Kd.R_far (p := ⟨gb16, 0, none⟩) (Kd.R_mono HO_4.out (fun k_ hk => (⟨hk, hk.2⟩ : _ ∧ k_ ≠ gb16))) (fun _ hk => hk.2) (.int .i64 t11)) (fun _ hk => hk.2) (.int .i64 t12)) (fun _ hk => hk.2) (.int .i64 t13)) (fun _ hk => hk.2) (.int .i64 t14)) (fun _ hk => hk.1.2))); (case aS => exact (below_size bw_)); (case aL => have := LMc21.out; omega); intro v18 w26 ho hb hg hat; rw [← Ny17.out] at ho; have n0_ := Aside0.mk (Kd.R_over' (by (with_reducible repeat (first | apply Kd.R_alloc | apply Kd.R_drewN | apply Kd.R_drew)); exact (Kd.R_mono (Kd.R_far (p := ⟨gb16, 3, none⟩) (Kd.R_far (p := ⟨gb16, 2, none⟩) (Kd.R_far (p := ⟨gb16, 1, none⟩) (Kd.R_far (p := ⟨gb16, 0, none⟩) (Kd.R_types HO_5.out BK16.out (by decide)) (fun _ hk => hk.2) (.int .i64 t11)) (fun _ hk => hk.2) (.int .i64 t12)) (fun _ hk => hk.2) (.int .i64 t13)) (fun _ hk => hk.2) (.int .i64 t14)) (fun _ h_ => h_.1))) (Kd.R_typed (by (with_reducible repeat (first | apply Kd.R_alloc | apply Kd.R_drewN | apply Kd.R_drew)); exact (Kd.R_mono (Kd.R_far (p := ⟨gb16, 3, none⟩) (Kd.R_far (p := ⟨gb16, 2, none⟩) (Kd.R_far (p := ⟨gb16, 1, none⟩) (Kd.R_far (p := ⟨gb16, 0, none⟩) (Kd.R_mono HO_4.out (fun k_ hk => (⟨hk, hk.2⟩ : _ ∧ k_ ≠ gb16))) (fun _ hk => hk.2) (.int .i64 t11)) (fun _ hk => hk.2) (.int .i64 t12)) (fun _ hk => hk.2) (.int .i64 t13)) (fun _ hk => hk.2) (.int .i64 t14)) (fun _ h_ => h_.1)))) (by decide) hg); have n1_ := Aside0.mk (blk_grown (g := gb16) (o := .cells #[.int .i64 t11, .int .i64 t12, .int .i64 t13, .int .i64 t14] 46 (0, 0)) (by (with_reducible repeat (first | refine blk_drewN ?_ _ | refine blk_drew ?_ | refine blk_alloc ?_ _)); refine blk_put (cs := #[.int .i64 t11, .int .i64 t12, .int .i64 t13, .int .i64 0]) ?_ 3 _ rfl; (with_reducible repeat (first | refine blk_drewN ?_ _ | refine blk_drew ?_ | refine blk_alloc ?_ _)); refine blk_put (cs := #[.int .i64 t11, .int .i64 t12, .int .i64 0, .int .i64 0]) ?_ 2 _ rfl; (with_reducible repeat (first | refine blk_drewN ?_ _ | refine blk_drew ?_ | refine blk_alloc ?_ _)); refine blk_put (cs := #[.int .i64 t11, .int .i64 0, .int .i64 0, .int .i64 0]) ?_ 1 _ rfl; (with_reducible repeat (first | refine blk_drewN ?_ _ | refine blk_drew ?_ | refine blk_alloc ?_ _)); refine blk_put (cs := #[.int .i64 0, .int .i64 0, .int .i64 0, .int .i64 0]) ?_ 0 _ rfl; (with_reducible repeat (first | refine blk_drewN ?_ _ | refine blk_drew ?_ | refine blk_alloc ?_ _)); exact BK16.out) hg (Kd.R_away HO_4.out (fun _ hk => hk.2))); have n2_ := Aside0.mk (hb); have n3_ := Aside0.mk (ho); clear HO_5; clear BK16; clear HB; clear HO_4; have HO_5 := n0_; have BK16 := n1_; have HB := n2_; have HO19 := n3_; clear n0_ n1_ n2_ n3_; clear ho hb hg hat))
   go_roundg k1
   case measure => have := HK1.out; omega
   case rel => exact ⟨(y17), (wrap64 (x6_1 + 1)), sd_, H', ⟨by have := HK1.out; omega⟩, ⟨by (with_reducible repeat (first | apply Kd.R_alloc | apply Kd.R_drewN | apply Kd.R_drew)); exact Kd.R_mono HO19.out (fun _ hk => trivial)⟩, ⟨by (with_reducible repeat (first | apply Kd.R_alloc | apply Kd.R_drewN | apply Kd.R_drew)); exact HO_5.out⟩, ⟨bw_⟩⟩

/-! ### spec_l02Form: function 50 -/
def spec_l02Form.f (a0 : Int) : Option (ByteArray) := (some (([(⟨#[114, 110]⟩ : ByteArray), (⟨#[114, 115]⟩ : ByteArray), (⟨#[114, 110]⟩ : ByteArray), (⟨#[114, 110]⟩ : ByteArray), (⟨#[]⟩ : ByteArray), (⟨#[114, 115, 110]⟩ : ByteArray), (⟨#[114, 110]⟩ : ByteArray), (⟨#[114, 115, 110]⟩ : ByteArray), (⟨#[114, 115]⟩ : ByteArray)] : List ByteArray) : List ByteArray)).bind fun y1 => ((spec_l01In.f a0 0 8).bind fun t4 => (if t4 = true then (if 0 ≤ a0 then (if a0 < (y1.length : Int) then (some (rdOf ByteArray.empty y1 a0)) else (none)) else (none)) else (some (⟨#[63]⟩ : ByteArray))))
set_option maxHeartbeats 8000000 in
set_option maxRecDepth 100000 in
theorem spec_l02Form.calls (a0 : Int) (r : ByteArray) (w : World) (h : spec_l02Form.f a0 = some r) :
  Calls Tryz.prog 50 #[.int .i64 a0] w fun e w' => e = .returned (.string r) ∧ Below w.heap.size w w' := by
 have HB := Aside0.mk (Below.refl w.heap.size w)
 have H : ((some (([(⟨#[114, 110]⟩ : ByteArray), (⟨#[114, 115]⟩ : ByteArray), (⟨#[114, 110]⟩ : ByteArray), (⟨#[114, 110]⟩ : ByteArray), (⟨#[]⟩ : ByteArray), (⟨#[114, 115, 110]⟩ : ByteArray), (⟨#[114, 110]⟩ : ByteArray), (⟨#[114, 115, 110]⟩ : ByteArray), (⟨#[114, 115]⟩ : ByteArray)] : List ByteArray) : List ByteArray)).bind fun y1 => ((spec_l01In.f a0 0 8).bind fun t4 => (if t4 = true then (if 0 ≤ a0 then (if a0 < (y1.length : Int) then (some (rdOf ByteArray.empty y1 a0)) else (none)) else (none)) else (some (⟨#[63]⟩ : ByteArray))))) = some r := h
 clear h
 obtain ⟨y1, hy1⟩ : ∃ y_ : List ByteArray, y_ = (([(⟨#[114, 110]⟩ : ByteArray), (⟨#[114, 115]⟩ : ByteArray), (⟨#[114, 110]⟩ : ByteArray), (⟨#[114, 110]⟩ : ByteArray), (⟨#[]⟩ : ByteArray), (⟨#[114, 115, 110]⟩ : ByteArray), (⟨#[114, 110]⟩ : ByteArray), (⟨#[114, 115, 110]⟩ : ByteArray), (⟨#[114, 115]⟩ : ByteArray)] : List ByteArray)) := ⟨_, rfl⟩
 replace H : ((spec_l01In.f a0 0 8).bind fun t4 => (if t4 = true then (if 0 ≤ a0 then (if a0 < (y1.length : Int) then (some (rdOf ByteArray.empty y1 a0)) else (none)) else (none)) else (some (⟨#[63]⟩ : ByteArray)))) = some r := by first | (rw [hy1]; with_reducible exact H) | (have H2_ := (Option.bind_some _ _).symm.trans H; rw [hy1]; with_reducible exact H2_) | (have H2_ := (Option.bind_some _ _).symm.trans H; with_reducible exact H2_) | with_reducible exact H | (rw [hy1]; exact H) | exact H
 have Ny1 := Aside0.mk hy1
 clear hy1
 replace H := Option.bind_eq_some_iff.mp H
 obtain ⟨t4, A20, H⟩ := H
 replace H : (if t4 = true then (if 0 ≤ a0 then (if a0 < (y1.length : Int) then (some (rdOf ByteArray.empty y1 a0)) else (none)) else (none)) else (some (⟨#[63]⟩ : ByteArray))) = some r := H
 have A2 := Aside0.mk A20
 clear A20
 by_cases c3 : t4 = true
 rotate_left
 ·replace c3 := Bool.eq_false_iff.mpr c3
  subst c3
  have H1 : (some (⟨#[63]⟩ : ByteArray)) = some r := by rw [if_neg (show ¬ (false = true) by decide)] at H; exact H
  clear H
  have H := H1
  clear H1
  obtain rfl := Option.some.inj H
  go_enter Tryz.func50, Tryz.ntmps50
  go_wp2_with (first | ((with_reducible refine gate_dst (N := 4) rfl ?_); refine Kd.R_lit Kd.string _ 9 ?hg (N := 4) ?hd (xs := ([(⟨#[114, 110]⟩ : ByteArray), (⟨#[114, 115]⟩ : ByteArray), (⟨#[114, 110]⟩ : ByteArray), (⟨#[114, 110]⟩ : ByteArray), (⟨#[]⟩ : ByteArray), (⟨#[114, 115, 110]⟩ : ByteArray), (⟨#[114, 110]⟩ : ByteArray), (⟨#[114, 115, 110]⟩ : ByteArray), (⟨#[114, 115]⟩ : ByteArray)] : List ByteArray)) (inner := [.string (⟨#[114, 110]⟩ : ByteArray), .string (⟨#[114, 115]⟩ : ByteArray), .string (⟨#[114, 110]⟩ : ByteArray), .string (⟨#[114, 110]⟩ : ByteArray), .string (⟨#[]⟩ : ByteArray), .string (⟨#[114, 115, 110]⟩ : ByteArray), .string (⟨#[114, 110]⟩ : ByteArray), .string (⟨#[114, 115, 110]⟩ : ByteArray), .string (⟨#[114, 115]⟩ : ByteArray)]) (ok := fun _ => True) (okp := fun _ => True) ?hr ?hp (fun _ hk => hk) trivial (Below.refl _ _) (Nat.le_refl _) (by simp) ?_; (case hd => rfl); (case hg => rfl); (case hr => first | (go_simp; done) | (go_simp; rfl)); (case hp => exact (Reps.one (show Kd.M Kd.string _ _ _ (⟨#[114, 110]⟩ : ByteArray) [.string (⟨#[114, 110]⟩ : ByteArray)] from rfl) (Reps.one (show Kd.M Kd.string _ _ _ (⟨#[114, 115]⟩ : ByteArray) [.string (⟨#[114, 115]⟩ : ByteArray)] from rfl) (Reps.one (show Kd.M Kd.string _ _ _ (⟨#[114, 110]⟩ : ByteArray) [.string (⟨#[114, 110]⟩ : ByteArray)] from rfl) (Reps.one (show Kd.M Kd.string _ _ _ (⟨#[114, 110]⟩ : ByteArray) [.string (⟨#[114, 110]⟩ : ByteArray)] from rfl) (Reps.one (show Kd.M Kd.string _ _ _ (⟨#[]⟩ : ByteArray) [.string (⟨#[]⟩ : ByteArray)] from rfl) (Reps.one (show Kd.M Kd.string _ _ _ (⟨#[114, 115, 110]⟩ : ByteArray) [.string (⟨#[114, 115, 110]⟩ : ByteArray)] from rfl) (Reps.one (show Kd.M Kd.string _ _ _ (⟨#[114, 110]⟩ : ByteArray) [.string (⟨#[114, 110]⟩ : ByteArray)] from rfl) (Reps.one (show Kd.M Kd.string _ _ _ (⟨#[114, 115, 110]⟩ : ByteArray) [.string (⟨#[114, 115, 110]⟩ : ByteArray)] from rfl) (Reps.one (show Kd.M Kd.string _ _ _ (⟨#[114, 115]⟩ : ByteArray) [.string (⟨#[114, 115]⟩ : ByteArray)] from rfl) (Reps.none _ _))))))))))); intro v2 w9 ho10 hb hg_ hnew_; clear hg_ hnew_; (first | rw [← Ny1.out] at ho10 | (simp only [Int.reduceToNat] at ho10; rw [← Ny1.out] at ho10)); have n0_ := Aside0.mk (Kd.R_lower ho10 (below_size bw_)); have n1_ := bs_ hb; clear HB; have HO3 := n0_; have HB := n1_; clear n0_ n1_; clear hb ho10) | ((with_reducible refine gate_callee (f := 32) rfl ?_); refine goesL_ (some 6) rfl rfl Tryz.func32 (by kernel_rfl) rfl #[.int .i64 a0, .int .i64 0, .int .i64 8] rfl ar_ ?_; (with_reducible refine (spec_l01In.calls a0 0 8 false _ A2.out).mono ?_); rintro e w' ⟨rfl, ⟨nd, rfl⟩⟩; refine ⟨_, rfl, ?_⟩))
  go_ret
  exact ⟨rr_, bw_⟩
 subst c3
 have H1 : (if 0 ≤ a0 then (if a0 < (y1.length : Int) then (some (rdOf ByteArray.empty y1 a0)) else (none)) else (none)) = some r := by rw [if_pos rfl] at H; exact H
 clear H
 have H := H1
 clear H1
 by_cases c4 : 0 ≤ a0
 rotate_left
 ·rw [if_neg c4] at H
  exact absurd H (by simp)
 rw [if_pos c4] at H
 have c4b0 : decide (0 ≤ a0) = true := decide_eq_true c4
 clear c4
 by_cases c5 : a0 < (y1.length : Int)
 rotate_left
 ·rw [if_neg c5] at H
  exact absurd H (by simp)
 rw [if_pos c5] at H
 have c5b0 : decide (a0 < (y1.length : Int)) = true := decide_eq_true c5
 clear c5
 obtain rfl := Option.some.inj H
 go_enter Tryz.func50, Tryz.ntmps50
 go_wp2_with (first | ((with_reducible refine gate_dst (N := 4) rfl ?_); refine Kd.R_lit Kd.string _ 9 ?hg (N := 4) ?hd (xs := ([(⟨#[114, 110]⟩ : ByteArray), (⟨#[114, 115]⟩ : ByteArray), (⟨#[114, 110]⟩ : ByteArray), (⟨#[114, 110]⟩ : ByteArray), (⟨#[]⟩ : ByteArray), (⟨#[114, 115, 110]⟩ : ByteArray), (⟨#[114, 110]⟩ : ByteArray), (⟨#[114, 115, 110]⟩ : ByteArray), (⟨#[114, 115]⟩ : ByteArray)] : List ByteArray)) (inner := [.string (⟨#[114, 110]⟩ : ByteArray), .string (⟨#[114, 115]⟩ : ByteArray), .string (⟨#[114, 110]⟩ : ByteArray), .string (⟨#[114, 110]⟩ : ByteArray), .string (⟨#[]⟩ : ByteArray), .string (⟨#[114, 115, 110]⟩ : ByteArray), .string (⟨#[114, 110]⟩ : ByteArray), .string (⟨#[114, 115, 110]⟩ : ByteArray), .string (⟨#[114, 115]⟩ : ByteArray)]) (ok := fun _ => True) (okp := fun _ => True) ?hr ?hp (fun _ hk => hk) trivial (Below.refl _ _) (Nat.le_refl _) (by simp) ?_; (case hd => rfl); (case hg => rfl); (case hr => first | (go_simp; done) | (go_simp; rfl)); (case hp => exact (Reps.one (show Kd.M Kd.string _ _ _ (⟨#[114, 110]⟩ : ByteArray) [.string (⟨#[114, 110]⟩ : ByteArray)] from rfl) (Reps.one (show Kd.M Kd.string _ _ _ (⟨#[114, 115]⟩ : ByteArray) [.string (⟨#[114, 115]⟩ : ByteArray)] from rfl) (Reps.one (show Kd.M Kd.string _ _ _ (⟨#[114, 110]⟩ : ByteArray) [.string (⟨#[114, 110]⟩ : ByteArray)] from rfl) (Reps.one (show Kd.M Kd.string _ _ _ (⟨#[114, 110]⟩ : ByteArray) [.string (⟨#[114, 110]⟩ : ByteArray)] from rfl) (Reps.one (show Kd.M Kd.string _ _ _ (⟨#[]⟩ : ByteArray) [.string (⟨#[]⟩ : ByteArray)] from rfl) (Reps.one (show Kd.M Kd.string _ _ _ (⟨#[114, 115, 110]⟩ : ByteArray) [.string (⟨#[114, 115, 110]⟩ : ByteArray)] from rfl) (Reps.one (show Kd.M Kd.string _ _ _ (⟨#[114, 110]⟩ : ByteArray) [.string (⟨#[114, 110]⟩ : ByteArray)] from rfl) (Reps.one (show Kd.M Kd.string _ _ _ (⟨#[114, 115, 110]⟩ : ByteArray) [.string (⟨#[114, 115, 110]⟩ : ByteArray)] from rfl) (Reps.one (show Kd.M Kd.string _ _ _ (⟨#[114, 115]⟩ : ByteArray) [.string (⟨#[114, 115]⟩ : ByteArray)] from rfl) (Reps.none _ _))))))))))); intro v2 w6 ho7 hb hg_ hnew_; clear hg_ hnew_; (first | rw [← Ny1.out] at ho7 | (simp only [Int.reduceToNat] at ho7; rw [← Ny1.out] at ho7)); have n0_ := Aside0.mk (Kd.R_lower ho7 (below_size bw_)); have n1_ := bs_ hb; clear HB; have HO3 := n0_; have HB := n1_; clear n0_ n1_; clear hb ho7) | ((with_reducible refine gate_callee (f := 32) rfl ?_); refine goesL_ (some 6) rfl rfl Tryz.func32 (by kernel_rfl) rfl #[.int .i64 a0, .int .i64 0, .int .i64 8] rfl ar_ ?_; (with_reducible refine (spec_l01In.calls a0 0 8 true _ A2.out).mono ?_); rintro e w' ⟨rfl, ⟨nd, rfl⟩⟩; refine ⟨_, rfl, ?_⟩; obtain ⟨Ao8, co8, eo8⟩ := Kd.R_slice HO3.out; subst eo8; have p5 : 0 ≤ (a0 : Int) := od_; have q5 : a0 < (y1.length : Int) := od_; obtain ⟨ad5, e5, hx5_0⟩ := Kd.at_string (Kd.R_reads' HO3.out).2.2 a0 p5 q5; cases e5; replace p5 := eq_true p5; replace q5 := eq_true q5))
 go_ret
 exact ⟨rr_, bw_⟩

/-! ### spec_l02Word: function 51 -/
def spec_l02Word.f (a0 : Int) : Option (ByteArray) := (some (([(⟨#[115, 101, 116]⟩ : ByteArray), (⟨#[97, 100, 100]⟩ : ByteArray), (⟨#[108, 111, 97, 100]⟩ : ByteArray), (⟨#[115, 116, 111, 114, 101]⟩ : ByteArray), (⟨#[102, 101, 110, 99, 101]⟩ : ByteArray), (⟨#[99, 97, 115]⟩ : ByteArray), (⟨#[106, 122]⟩ : ByteArray), (⟨#[115, 119, 97, 112]⟩ : ByteArray), (⟨#[115, 117, 98]⟩ : ByteArray)] : List ByteArray) : List ByteArray)).bind fun y1 => (if 0 ≤ a0 then (if a0 < (y1.length : Int) then (some (rdOf ByteArray.empty y1 a0)) else (none)) else (none))
set_option maxHeartbeats 8000000 in
set_option maxRecDepth 100000 in
theorem spec_l02Word.calls (a0 : Int) (r : ByteArray) (w : World) (h : spec_l02Word.f a0 = some r) :
  Calls Tryz.prog 51 #[.int .i64 a0] w fun e w' => e = .returned (.string r) ∧ Below w.heap.size w w' := by
 have HB := Aside0.mk (Below.refl w.heap.size w)
 have H : ((some (([(⟨#[115, 101, 116]⟩ : ByteArray), (⟨#[97, 100, 100]⟩ : ByteArray), (⟨#[108, 111, 97, 100]⟩ : ByteArray), (⟨#[115, 116, 111, 114, 101]⟩ : ByteArray), (⟨#[102, 101, 110, 99, 101]⟩ : ByteArray), (⟨#[99, 97, 115]⟩ : ByteArray), (⟨#[106, 122]⟩ : ByteArray), (⟨#[115, 119, 97, 112]⟩ : ByteArray), (⟨#[115, 117, 98]⟩ : ByteArray)] : List ByteArray) : List ByteArray)).bind fun y1 => (if 0 ≤ a0 then (if a0 < (y1.length : Int) then (some (rdOf ByteArray.empty y1 a0)) else (none)) else (none))) = some r := h
 clear h
 obtain ⟨y1, hy1⟩ : ∃ y_ : List ByteArray, y_ = (([(⟨#[115, 101, 116]⟩ : ByteArray), (⟨#[97, 100, 100]⟩ : ByteArray), (⟨#[108, 111, 97, 100]⟩ : ByteArray), (⟨#[115, 116, 111, 114, 101]⟩ : ByteArray), (⟨#[102, 101, 110, 99, 101]⟩ : ByteArray), (⟨#[99, 97, 115]⟩ : ByteArray), (⟨#[106, 122]⟩ : ByteArray), (⟨#[115, 119, 97, 112]⟩ : ByteArray), (⟨#[115, 117, 98]⟩ : ByteArray)] : List ByteArray)) := ⟨_, rfl⟩
 replace H : (if 0 ≤ a0 then (if a0 < (y1.length : Int) then (some (rdOf ByteArray.empty y1 a0)) else (none)) else (none)) = some r := by first | (rw [hy1]; with_reducible exact H) | (have H2_ := (Option.bind_some _ _).symm.trans H; rw [hy1]; with_reducible exact H2_) | (have H2_ := (Option.bind_some _ _).symm.trans H; with_reducible exact H2_) | with_reducible exact H | (rw [hy1]; exact H) | exact H
 have Ny1 := Aside0.mk hy1
 clear hy1
 by_cases c2 : 0 ≤ a0
 rotate_left
 ·rw [if_neg c2] at H
  exact absurd H (by simp)
 rw [if_pos c2] at H
 have c2b0 : decide (0 ≤ a0) = true := decide_eq_true c2
 clear c2
 by_cases c3 : a0 < (y1.length : Int)
 rotate_left
 ·rw [if_neg c3] at H
  exact absurd H (by simp)
 rw [if_pos c3] at H
 have c3b0 : decide (a0 < (y1.length : Int)) = true := decide_eq_true c3
 clear c3
 obtain rfl := Option.some.inj H
 go_enter Tryz.func51, Tryz.ntmps51
 go_wp2_with (first | ((with_reducible refine gate_dst (N := 4) rfl ?_); refine Kd.R_lit Kd.string _ 9 ?hg (N := 4) ?hd (xs := ([(⟨#[115, 101, 116]⟩ : ByteArray), (⟨#[97, 100, 100]⟩ : ByteArray), (⟨#[108, 111, 97, 100]⟩ : ByteArray), (⟨#[115, 116, 111, 114, 101]⟩ : ByteArray), (⟨#[102, 101, 110, 99, 101]⟩ : ByteArray), (⟨#[99, 97, 115]⟩ : ByteArray), (⟨#[106, 122]⟩ : ByteArray), (⟨#[115, 119, 97, 112]⟩ : ByteArray), (⟨#[115, 117, 98]⟩ : ByteArray)] : List ByteArray)) (inner := [.string (⟨#[115, 101, 116]⟩ : ByteArray), .string (⟨#[97, 100, 100]⟩ : ByteArray), .string (⟨#[108, 111, 97, 100]⟩ : ByteArray), .string (⟨#[115, 116, 111, 114, 101]⟩ : ByteArray), .string (⟨#[102, 101, 110, 99, 101]⟩ : ByteArray), .string (⟨#[99, 97, 115]⟩ : ByteArray), .string (⟨#[106, 122]⟩ : ByteArray), .string (⟨#[115, 119, 97, 112]⟩ : ByteArray), .string (⟨#[115, 117, 98]⟩ : ByteArray)]) (ok := fun _ => True) (okp := fun _ => True) ?hr ?hp (fun _ hk => hk) trivial (Below.refl _ _) (Nat.le_refl _) (by simp) ?_; (case hd => rfl); (case hg => rfl); (case hr => first | (go_simp; done) | (go_simp; rfl)); (case hp => exact (Reps.one (show Kd.M Kd.string _ _ _ (⟨#[115, 101, 116]⟩ : ByteArray) [.string (⟨#[115, 101, 116]⟩ : ByteArray)] from rfl) (Reps.one (show Kd.M Kd.string _ _ _ (⟨#[97, 100, 100]⟩ : ByteArray) [.string (⟨#[97, 100, 100]⟩ : ByteArray)] from rfl) (Reps.one (show Kd.M Kd.string _ _ _ (⟨#[108, 111, 97, 100]⟩ : ByteArray) [.string (⟨#[108, 111, 97, 100]⟩ : ByteArray)] from rfl) (Reps.one (show Kd.M Kd.string _ _ _ (⟨#[115, 116, 111, 114, 101]⟩ : ByteArray) [.string (⟨#[115, 116, 111, 114, 101]⟩ : ByteArray)] from rfl) (Reps.one (show Kd.M Kd.string _ _ _ (⟨#[102, 101, 110, 99, 101]⟩ : ByteArray) [.string (⟨#[102, 101, 110, 99, 101]⟩ : ByteArray)] from rfl) (Reps.one (show Kd.M Kd.string _ _ _ (⟨#[99, 97, 115]⟩ : ByteArray) [.string (⟨#[99, 97, 115]⟩ : ByteArray)] from rfl) (Reps.one (show Kd.M Kd.string _ _ _ (⟨#[106, 122]⟩ : ByteArray) [.string (⟨#[106, 122]⟩ : ByteArray)] from rfl) (Reps.one (show Kd.M Kd.string _ _ _ (⟨#[115, 119, 97, 112]⟩ : ByteArray) [.string (⟨#[115, 119, 97, 112]⟩ : ByteArray)] from rfl) (Reps.one (show Kd.M Kd.string _ _ _ (⟨#[115, 117, 98]⟩ : ByteArray) [.string (⟨#[115, 117, 98]⟩ : ByteArray)] from rfl) (Reps.none _ _))))))))))); intro v2 w4 ho5 hb hg_ hnew_; clear hg_ hnew_; (first | rw [← Ny1.out] at ho5 | (simp only [Int.reduceToNat] at ho5; rw [← Ny1.out] at ho5)); have n0_ := Aside0.mk (Kd.R_lower ho5 (below_size bw_)); have n1_ := bs_ hb; clear HB; have HO3 := n0_; have HB := n1_; clear n0_ n1_; clear hb ho5; obtain ⟨Ao6, co6, eo6⟩ := Kd.R_slice HO3.out; subst eo6; have p4 : 0 ≤ (a0 : Int) := od_; have q4 : a0 < (y1.length : Int) := od_; obtain ⟨ad4, e4, hx4_0⟩ := Kd.at_string (Kd.R_reads' HO3.out).2.2 a0 p4 q4; cases e4; replace p4 := eq_true p4; replace q4 := eq_true q4))
 go_ret
 exact ⟨rr_, bw_⟩

end Go.Proofs.YtbgclnjnngolmaaGreatDoor.P
