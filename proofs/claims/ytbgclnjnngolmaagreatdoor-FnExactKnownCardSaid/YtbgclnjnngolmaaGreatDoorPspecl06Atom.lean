-- Written by mp.py (the session's own driver over the kit's printer) for the seat YtbgclnjnngolmaaGreatDoor.
import Derived.Test.YtbgclnjnngolmaaGreatDoorK
import Derived.Test.YtbgclnjnngolmaaGreatDoorPspecl01Parts
namespace Go.Proofs.YtbgclnjnngolmaaGreatDoor.P
open Go.RowKit Go.Proofs.YtbgclnjnngolmaaGreatDoorW.PrintWords Go.Proofs.YtbgclnjnngolmaaGreatDoorW.PrintLast Go.Proofs.YtbgclnjnngolmaaGreatDoorW.PrintMore
attribute [local go_sem] max2_int min2_int max_two min_two max_three min_three max_four min_four
set_option linter.unusedVariables false
set_option linter.unusedSimpArgs false

/-! ### spec_l06Atom: function 22 -/
def spec_l06Atom.j0 : Nat → Int → ByteArray → Int → Bool → Option (Int × Int × Int × Int × Bool)
 | 0, _, _, _, _ => none
 | k + 1, x5, x7, x8, x50 => if x50 = true then (if 1 ≤ (wrap64 (x8 - 1)) then (if (wrap64 (x8 - 1)) ≤ (x7.size : Int) then ((spec_l01Read.f k (x7.extract 1 ((wrap64 (x8 - 1)) : Int).toNat)).bind fun bt9 => (some (1, 0, bt9.1, x5, bt9.2))) else (none)) else (none)) else ((spec_l01Parts.f k x7 58).bind fun t11 => (if (t11.length : Int) = 2 then (if 0 < (t11.length : Int) then ((spec_l01Read.f k (rdOf ByteArray.empty t11 0)).bind fun bt15 => (if 1 < (t11.length : Int) then ((spec_l01Read.f k (rdOf ByteArray.empty t11 1)).bind fun bt18 => (if bt15.2 = true then (some (0, bt15.1, bt18.1, x5, bt18.2)) else (some (0, bt15.1, bt18.1, x5, false)))) else (none))) else (none)) else (some (0, 0, 0, 0, false))))
def spec_l06Atom.f (k : Nat) (a0 : ByteArray) : Option (Int × Int × Int × Int × Bool) := (spec_l01Parts.f k a0 61).bind fun t2 => (if (t2.length : Int) = 2 then (if 1 < (t2.length : Int) then ((spec_l01Read.f k (rdOf ByteArray.empty t2 1)).bind fun bt6 => (if bt6.2 = true then (if 0 < (t2.length : Int) then (if ((rdOf ByteArray.empty t2 0).size : Int) > 2 then (if 0 < ((rdOf ByteArray.empty t2 0).size : Int) then (if (bt (rdOf ByteArray.empty t2 0) 0) = 91 then (if 0 ≤ (wrap64 (((rdOf ByteArray.empty t2 0).size : Int) - 1)) then (if (wrap64 (((rdOf ByteArray.empty t2 0).size : Int) - 1)) < ((rdOf ByteArray.empty t2 0).size : Int) then (spec_l06Atom.j0 k bt6.1 (rdOf ByteArray.empty t2 0) ((rdOf ByteArray.empty t2 0).size : Int) ((bt (rdOf ByteArray.empty t2 0) (wrap64 (((rdOf ByteArray.empty t2 0).size : Int) - 1))) == 93)) else (none)) else (none)) else (spec_l06Atom.j0 k bt6.1 (rdOf ByteArray.empty t2 0) ((rdOf ByteArray.empty t2 0).size : Int) false)) else (none)) else (spec_l06Atom.j0 k bt6.1 (rdOf ByteArray.empty t2 0) ((rdOf ByteArray.empty t2 0).size : Int) false)) else (none)) else (some (0, 0, 0, 0, false)))) else (none)) else (some (0, 0, 0, 0, false)))
theorem spec_l06Atom.mono_l : ∀ k, (∀ y0 y1 y2 y3, LeO (spec_l06Atom.j0 k y0 y1 y2 y3) (spec_l06Atom.j0 (k + 1) y0 y1 y2 y3))
 | 0 => fun _ _ _ _ r h => by simp [spec_l06Atom.j0] at h
 | k + 1 => by
  have ih0 := spec_l06Atom.mono_l k
  ·intro y0 y1 y2 y3
   unfold spec_l06Atom.j0
   repeat' first | (with_reducible first | exact ih0 _ _ _ _ | exact spec_l01Parts.mono _ _ _ | exact spec_l01Read.mono _ _ | exact lr_ | exact ln_ | refine LeO.ite ?_ ?_ | refine LeO.bind ?_ (fun _ => ?_)) | exact ih0 _ _ _ _ | exact spec_l01Parts.mono _ _ _ | exact spec_l01Read.mono _ _ | exact ln_ | refine LeO.ite ?_ ?_ | refine LeO.bind ?_ (fun _ => ?_)
theorem spec_l06Atom.mono : ∀ a0 k, LeO (spec_l06Atom.f k a0) (spec_l06Atom.f (k + 1) a0) := by
 intro a0 k
 have ih0 := spec_l06Atom.mono_l k
 unfold spec_l06Atom.f
 repeat' first | (with_reducible first | exact ih0 _ _ _ _ | exact spec_l01Parts.mono _ _ _ | exact spec_l01Read.mono _ _ | exact lr_ | exact ln_ | refine LeO.ite ?_ ?_ | refine LeO.bind ?_ (fun _ => ?_)) | exact ih0 _ _ _ _ | exact spec_l01Parts.mono _ _ _ | exact spec_l01Read.mono _ _ | exact ln_ | refine LeO.ite ?_ ?_ | refine LeO.bind ?_ (fun _ => ?_)
set_option maxHeartbeats 8000000 in
set_option maxRecDepth 100000 in
theorem spec_l06Atom.calls (k : Nat) (a0 : ByteArray) (r1 : Int) (r2 : Int) (r3 : Int) (r4 : Int) (r5 : Bool) (w : World) (h : spec_l06Atom.f k a0 = some (r1, r2, r3, r4, r5)) :
  Calls Tryz.prog 22 #[.string a0] w fun e w' => e = .returned (.tuple #[.agg #[.int .i64 r1, .int .i64 r2, .int .i64 r3, .int .i64 r4], .bool r5]) ∧ Below w.heap.size w w' := by
 have hu46 := Tryz.underlying46
 have HB := Aside0.mk (Below.refl w.heap.size w)
 have H : ((spec_l01Parts.f k a0 61).bind fun t2 => (if (t2.length : Int) = 2 then (if 1 < (t2.length : Int) then ((spec_l01Read.f k (rdOf ByteArray.empty t2 1)).bind fun bt6 => (if bt6.2 = true then (if 0 < (t2.length : Int) then (if ((rdOf ByteArray.empty t2 0).size : Int) > 2 then (if 0 < ((rdOf ByteArray.empty t2 0).size : Int) then (if (bt (rdOf ByteArray.empty t2 0) 0) = 91 then (if 0 ≤ (wrap64 (((rdOf ByteArray.empty t2 0).size : Int) - 1)) then (if (wrap64 (((rdOf ByteArray.empty t2 0).size : Int) - 1)) < ((rdOf ByteArray.empty t2 0).size : Int) then (spec_l06Atom.j0 k bt6.1 (rdOf ByteArray.empty t2 0) ((rdOf ByteArray.empty t2 0).size : Int) ((bt (rdOf ByteArray.empty t2 0) (wrap64 (((rdOf ByteArray.empty t2 0).size : Int) - 1))) == 93)) else (none)) else (none)) else (spec_l06Atom.j0 k bt6.1 (rdOf ByteArray.empty t2 0) ((rdOf ByteArray.empty t2 0).size : Int) false)) else (none)) else (spec_l06Atom.j0 k bt6.1 (rdOf ByteArray.empty t2 0) ((rdOf ByteArray.empty t2 0).size : Int) false)) else (none)) else (some (0, 0, 0, 0, false)))) else (none)) else (some (0, 0, 0, 0, false)))) = some (r1, r2, r3, r4, r5) := h
 clear h
 replace H := Option.bind_eq_some_iff.mp H
 obtain ⟨t2, A20, H⟩ := H
 replace H : (if (t2.length : Int) = 2 then (if 1 < (t2.length : Int) then ((spec_l01Read.f k (rdOf ByteArray.empty t2 1)).bind fun bt6 => (if bt6.2 = true then (if 0 < (t2.length : Int) then (if ((rdOf ByteArray.empty t2 0).size : Int) > 2 then (if 0 < ((rdOf ByteArray.empty t2 0).size : Int) then (if (bt (rdOf ByteArray.empty t2 0) 0) = 91 then (if 0 ≤ (wrap64 (((rdOf ByteArray.empty t2 0).size : Int) - 1)) then (if (wrap64 (((rdOf ByteArray.empty t2 0).size : Int) - 1)) < ((rdOf ByteArray.empty t2 0).size : Int) then (spec_l06Atom.j0 k bt6.1 (rdOf ByteArray.empty t2 0) ((rdOf ByteArray.empty t2 0).size : Int) ((bt (rdOf ByteArray.empty t2 0) (wrap64 (((rdOf ByteArray.empty t2 0).size : Int) - 1))) == 93)) else (none)) else (none)) else (spec_l06Atom.j0 k bt6.1 (rdOf ByteArray.empty t2 0) ((rdOf ByteArray.empty t2 0).size : Int) false)) else (none)) else (spec_l06Atom.j0 k bt6.1 (rdOf ByteArray.empty t2 0) ((rdOf ByteArray.empty t2 0).size : Int) false)) else (none)) else (some (0, 0, 0, 0, false)))) else (none)) else (some (0, 0, 0, 0, false))) = some (r1, r2, r3, r4, r5) := H
 have A2 := Aside0.mk A20
 clear A20
 by_cases c3 : (t2.length : Int) = 2
 rotate_left
 ·rw [if_neg c3] at H
  have c3b0 : ((t2.length : Int) == 2) = false := beq_eq_false_iff_ne.mpr c3
  have c3b1 : ((t2.length : Int) != 2) = true := bne_iff_ne.mpr c3
  simp only [Option.some.injEq, Prod.mk.injEq] at H
  obtain ⟨rfl, rfl, rfl, rfl, rfl⟩ := H
  go_enter Tryz.func22, Tryz.ntmps22
  go_wp2_with (first | ((with_reducible refine gate_dst (N := 2) rfl ?_); refine box_event ?hg (N := 2) ?hd (cs := #[.int .i64 0, .int .i64 0, .int .i64 0, .int .i64 0]) (t := 46) ?hr ?_; (case hd => rfl); (case hg => rfl); (case hr => exact hrr_); intro gb1 hg w52 hbox hb; have n0_ := bs_ hb; have n1_ := Aside0.mk (hbox); have n2_ := ge_ (w := w) hg; have n3_ := ge_ (w := w) hg; clear HB; have HB := n0_; have BK1 := n1_; have GW1 := n2_; have GE1 := n3_; clear n0_ n1_ n2_ n3_; clear hb hbox hg) | ((with_reducible refine gate_callee (f := 21) rfl ?_); refine goesL_ (some 17) rfl rfl Tryz.func21 (by kernel_rfl) rfl #[.string a0, .int .u8 61] rfl ar_ ?_; (with_reducible refine (spec_l01Parts.calls k a0 61 t2 _ A2.out).mono ?_); rintro e w53 ⟨v3, rfl, ho0, hb⟩; refine ⟨_, rfl, ?_⟩; have n0_ := Aside0.mk (Kd.R_lower ho0 (below_size bw_)); have n1_ := bb_ BK1.out hb; have n2_ := bs_ hb; clear BK1; clear HB; have HO4 := n0_; have BK1 := n1_; have HB := n2_; clear n0_ n1_ n2_; (try clear hb); (try clear hb2); (try clear hk); (try clear hi); (try clear ho0); obtain ⟨Ao54, co54, eo54⟩ := Kd.R_slice HO4.out; subst eo54; obtain ⟨hcz55_0, hcz55_1, hcz55_2, hcz55_3, hfz55_0, hfz55_1, hfz55_2, hfz55_3⟩ := bc4_ BK1.out))
  refine bodyPost_ret (results_ct rfl _ _ gb1 46 #[.int .i64 0, .int .i64 0, .int .i64 0, .int .i64 0] (0, 0) _ rfl (by (with_reducible repeat (first | refine blk_drewN ?_ _ | refine blk_drew ?_ | refine blk_alloc ?_ _)); refine blk_put (cs := #[.int .i64 0, .int .i64 0, .int .i64 0, .int .i64 0]) ?_ 3 _ rfl; (with_reducible repeat (first | refine blk_drewN ?_ _ | refine blk_drew ?_ | refine blk_alloc ?_ _)); refine blk_put (cs := #[.int .i64 0, .int .i64 0, .int .i64 0, .int .i64 0]) ?_ 2 _ rfl; (with_reducible repeat (first | refine blk_drewN ?_ _ | refine blk_drew ?_ | refine blk_alloc ?_ _)); refine blk_put (cs := #[.int .i64 0, .int .i64 0, .int .i64 0, .int .i64 0]) ?_ 1 _ rfl; (with_reducible repeat (first | refine blk_drewN ?_ _ | refine blk_drew ?_ | refine blk_alloc ?_ _)); refine blk_put (cs := #[.int .i64 0, .int .i64 0, .int .i64 0, .int .i64 0]) ?_ 0 _ rfl; (with_reducible repeat (first | refine blk_drewN ?_ _ | refine blk_drew ?_ | refine blk_alloc ?_ _)); exact BK1.out) Tryz.underlying46 rfl (by kernel_rfl)) rfl ?_
  exact ⟨rr_, bw_⟩
 rw [if_pos c3] at H
 have c3b0 : ((t2.length : Int) == 2) = true := beq_iff_eq.mpr c3
 have c3b1 : ((t2.length : Int) != 2) = false := bne_eq_false_iff_eq.mpr c3
 clear c3
 by_cases c4 : 1 < (t2.length : Int)
 rotate_left
 ·rw [if_neg c4] at H
  exact absurd H (by simp)
 rw [if_pos c4] at H
 have c4b0 : decide (1 < (t2.length : Int)) = true := decide_eq_true c4
 have c4b1 : decide (1 < t2.length) = true := decide_eq_true (by omega)
 clear c4
 replace H := Option.bind_eq_some_iff.mp H
 obtain ⟨⟨t6, t7⟩, A50, H⟩ := H
 replace H : (if t7 = true then (if 0 < (t2.length : Int) then (if ((rdOf ByteArray.empty t2 0).size : Int) > 2 then (if 0 < ((rdOf ByteArray.empty t2 0).size : Int) then (if (bt (rdOf ByteArray.empty t2 0) 0) = 91 then (if 0 ≤ (wrap64 (((rdOf ByteArray.empty t2 0).size : Int) - 1)) then (if (wrap64 (((rdOf ByteArray.empty t2 0).size : Int) - 1)) < ((rdOf ByteArray.empty t2 0).size : Int) then (spec_l06Atom.j0 k t6 (rdOf ByteArray.empty t2 0) ((rdOf ByteArray.empty t2 0).size : Int) ((bt (rdOf ByteArray.empty t2 0) (wrap64 (((rdOf ByteArray.empty t2 0).size : Int) - 1))) == 93)) else (none)) else (none)) else (spec_l06Atom.j0 k t6 (rdOf ByteArray.empty t2 0) ((rdOf ByteArray.empty t2 0).size : Int) false)) else (none)) else (spec_l06Atom.j0 k t6 (rdOf ByteArray.empty t2 0) ((rdOf ByteArray.empty t2 0).size : Int) false)) else (none)) else (some (0, 0, 0, 0, false))) = some (r1, r2, r3, r4, r5) := H
 have A5 := Aside0.mk A50
 clear A50
 by_cases c6 : t7 = true
 rotate_left
 ·replace c6 := Bool.eq_false_iff.mpr c6
  subst c6
  have H1 : (some (0, 0, 0, 0, false)) = some (r1, r2, r3, r4, r5) := by rw [if_neg (show ¬ (false = true) by decide)] at H; exact H
  clear H
  have H := H1
  clear H1
  simp only [Option.some.injEq, Prod.mk.injEq] at H
  obtain ⟨rfl, rfl, rfl, rfl, rfl⟩ := H
  go_enter Tryz.func22, Tryz.ntmps22
  go_wp2_with (first | ((with_reducible refine gate_dst (N := 2) rfl ?_); refine box_event ?hg (N := 2) ?hd (cs := #[.int .i64 0, .int .i64 0, .int .i64 0, .int .i64 0]) (t := 46) ?hr ?_; (case hd => rfl); (case hg => rfl); (case hr => exact hrr_); intro gb1 hg w47 hbox hb; have n0_ := bs_ hb; have n1_ := Aside0.mk (hbox); have n2_ := ge_ (w := w) hg; have n3_ := ge_ (w := w) hg; clear HB; have HB := n0_; have BK1 := n1_; have GW1 := n2_; have GE1 := n3_; clear n0_ n1_ n2_ n3_; clear hb hbox hg) | ((with_reducible refine gate_callee (f := 21) rfl ?_); refine goesL_ (some 17) rfl rfl Tryz.func21 (by kernel_rfl) rfl #[.string a0, .int .u8 61] rfl ar_ ?_; (with_reducible refine (spec_l01Parts.calls k a0 61 t2 _ A2.out).mono ?_); rintro e w48 ⟨v3, rfl, ho0, hb⟩; refine ⟨_, rfl, ?_⟩; have n0_ := Aside0.mk (Kd.R_lower ho0 (below_size bw_)); have n1_ := bb_ BK1.out hb; have n2_ := bs_ hb; clear BK1; clear HB; have HO4 := n0_; have BK1 := n1_; have HB := n2_; clear n0_ n1_ n2_; (try clear hb); (try clear hb2); (try clear hk); (try clear hi); (try clear ho0); obtain ⟨Ao49, co49, eo49⟩ := Kd.R_slice HO4.out; subst eo49; have p5 : 0 ≤ (1 : Int) := (by omega); have q5 : 1 < (t2.length : Int) := od_; obtain ⟨ad5, e5, hx5_0⟩ := Kd.at_string (Kd.R_reads' HO4.out).2.2 1 p5 q5; cases e5; (try simp only [show (1 : Int).toNat = 1 from rfl, Nat.reduceMul, Nat.reduceEqDiff, Go.Addr.add, ↓reduceIte] at hx5_0); have qi5 : (1 < t2.length) = True := eq_true (by omega); (try rw [show ((1 : Int)).toNat = 1 from rfl] at hx5_0); replace p5 := eq_true p5; replace q5 := eq_true q5) | ((with_reducible refine gate_callee (f := 31) rfl ?_); refine goesL_ (some 26) rfl rfl Tryz.func31 (by kernel_rfl) rfl #[.string (rdOf ByteArray.empty t2 1)] rfl ar_ ?_; (with_reducible refine (spec_l01Read.calls k (rdOf ByteArray.empty t2 1) t6 false _ A5.out).mono ?_); rintro e w50 ⟨rfl, hb⟩; refine ⟨_, rfl, ?_⟩; have n0_ := Aside0.mk (Kd.R_below (rx_ HO4.out) hb); have n1_ := bb_ BK1.out hb; have n2_ := bs_ hb; clear HO4; clear BK1; clear HB; have HO4 := n0_; have BK1 := n1_; have HB := n2_; clear n0_ n1_ n2_; (try clear hb); (try clear hb2); (try clear hk); (try clear hi); obtain ⟨hcz51_0, hcz51_1, hcz51_2, hcz51_3, hfz51_0, hfz51_1, hfz51_2, hfz51_3⟩ := bc4_ BK1.out))
  refine bodyPost_ret (results_ct rfl _ _ gb1 46 #[.int .i64 0, .int .i64 0, .int .i64 0, .int .i64 0] (0, 0) _ rfl (by (with_reducible repeat (first | refine blk_drewN ?_ _ | refine blk_drew ?_ | refine blk_alloc ?_ _)); refine blk_put (cs := #[.int .i64 0, .int .i64 0, .int .i64 0, .int .i64 0]) ?_ 3 _ rfl; (with_reducible repeat (first | refine blk_drewN ?_ _ | refine blk_drew ?_ | refine blk_alloc ?_ _)); refine blk_put (cs := #[.int .i64 0, .int .i64 0, .int .i64 0, .int .i64 0]) ?_ 2 _ rfl; (with_reducible repeat (first | refine blk_drewN ?_ _ | refine blk_drew ?_ | refine blk_alloc ?_ _)); refine blk_put (cs := #[.int .i64 0, .int .i64 0, .int .i64 0, .int .i64 0]) ?_ 1 _ rfl; (with_reducible repeat (first | refine blk_drewN ?_ _ | refine blk_drew ?_ | refine blk_alloc ?_ _)); refine blk_put (cs := #[.int .i64 0, .int .i64 0, .int .i64 0, .int .i64 0]) ?_ 0 _ rfl; (with_reducible repeat (first | refine blk_drewN ?_ _ | refine blk_drew ?_ | refine blk_alloc ?_ _)); exact BK1.out) Tryz.underlying46 rfl (by kernel_rfl)) rfl ?_
  exact ⟨rr_, bw_⟩
 subst c6
 have H1 : (if 0 < (t2.length : Int) then (if ((rdOf ByteArray.empty t2 0).size : Int) > 2 then (if 0 < ((rdOf ByteArray.empty t2 0).size : Int) then (if (bt (rdOf ByteArray.empty t2 0) 0) = 91 then (if 0 ≤ (wrap64 (((rdOf ByteArray.empty t2 0).size : Int) - 1)) then (if (wrap64 (((rdOf ByteArray.empty t2 0).size : Int) - 1)) < ((rdOf ByteArray.empty t2 0).size : Int) then (spec_l06Atom.j0 k t6 (rdOf ByteArray.empty t2 0) ((rdOf ByteArray.empty t2 0).size : Int) ((bt (rdOf ByteArray.empty t2 0) (wrap64 (((rdOf ByteArray.empty t2 0).size : Int) - 1))) == 93)) else (none)) else (none)) else (spec_l06Atom.j0 k t6 (rdOf ByteArray.empty t2 0) ((rdOf ByteArray.empty t2 0).size : Int) false)) else (none)) else (spec_l06Atom.j0 k t6 (rdOf ByteArray.empty t2 0) ((rdOf ByteArray.empty t2 0).size : Int) false)) else (none)) = some (r1, r2, r3, r4, r5) := by rw [if_pos rfl] at H; exact H
 clear H
 have H := H1
 clear H1
 by_cases c7 : 0 < (t2.length : Int)
 rotate_left
 ·rw [if_neg c7] at H
  exact absurd H (by simp)
 rw [if_pos c7] at H
 have c7b0 : decide (0 < (t2.length : Int)) = true := decide_eq_true c7
 have c7b1 : decide (0 < t2.length) = true := decide_eq_true (by omega)
 clear c7
 have HC8 := Aside0.mk H
 clear H
 go_enter Tryz.func22, Tryz.ntmps22
 go_upto_region 9 with (first | ((with_reducible refine gate_dst (N := 2) rfl ?_); refine box_event ?hg (N := 2) ?hd (cs := #[.int .i64 0, .int .i64 0, .int .i64 0, .int .i64 0]) (t := 46) ?hr ?_; (case hd => rfl); (case hg => rfl); (case hr => exact hrr_); intro gb1 hg w9 hbox hb; have n0_ := bs_ hb; have n1_ := Aside0.mk (hbox); have n2_ := ge_ (w := w) hg; have n3_ := ge_ (w := w) hg; clear HB; have HB := n0_; have BK1 := n1_; have GW1 := n2_; have GE1 := n3_; clear n0_ n1_ n2_ n3_; clear hb hbox hg) | ((with_reducible refine gate_callee (f := 21) rfl ?_); refine goesL_ (some 17) rfl rfl Tryz.func21 (by kernel_rfl) rfl #[.string a0, .int .u8 61] rfl ar_ ?_; (with_reducible refine (spec_l01Parts.calls k a0 61 t2 _ A2.out).mono ?_); rintro e w10 ⟨v3, rfl, ho0, hb⟩; refine ⟨_, rfl, ?_⟩; have n0_ := Aside0.mk (Kd.R_lower ho0 (below_size bw_)); have n1_ := bb_ BK1.out hb; have n2_ := bs_ hb; clear BK1; clear HB; have HO4 := n0_; have BK1 := n1_; have HB := n2_; clear n0_ n1_ n2_; (try clear hb); (try clear hb2); (try clear hk); (try clear hi); (try clear ho0); obtain ⟨Ao11, co11, eo11⟩ := Kd.R_slice HO4.out; subst eo11; have p5 : 0 ≤ (1 : Int) := (by omega); have q5 : 1 < (t2.length : Int) := od_; obtain ⟨ad5, e5, hx5_0⟩ := Kd.at_string (Kd.R_reads' HO4.out).2.2 1 p5 q5; cases e5; (try simp only [show (1 : Int).toNat = 1 from rfl, Nat.reduceMul, Nat.reduceEqDiff, Go.Addr.add, ↓reduceIte] at hx5_0); have qi5 : (1 < t2.length) = True := eq_true (by omega); (try rw [show ((1 : Int)).toNat = 1 from rfl] at hx5_0); replace p5 := eq_true p5; replace q5 := eq_true q5) | ((with_reducible refine gate_callee (f := 31) rfl ?_); refine goesL_ (some 26) rfl rfl Tryz.func31 (by kernel_rfl) rfl #[.string (rdOf ByteArray.empty t2 1)] rfl ar_ ?_; (with_reducible refine (spec_l01Read.calls k (rdOf ByteArray.empty t2 1) t6 true _ A5.out).mono ?_); rintro e w12 ⟨rfl, hb⟩; refine ⟨_, rfl, ?_⟩; have n0_ := Aside0.mk (Kd.R_below (rx_ HO4.out) hb); have n1_ := bb_ BK1.out hb; have n2_ := bs_ hb; clear HO4; clear BK1; clear HB; have HO4 := n0_; have BK1 := n1_; have HB := n2_; clear n0_ n1_ n2_; (try clear hb); (try clear hb2); (try clear hk); (try clear hi); have p8 : 0 ≤ (0 : Int) := (by omega); have q8 : 0 < (t2.length : Int) := od_; obtain ⟨ad8, e8, hx8_0⟩ := Kd.at_string (Kd.R_reads' HO4.out).2.2 0 p8 q8; obtain rfl : ad5 = ad8 := (by injection e8); have qi8 : (0 < t2.length) = True := eq_true (by omega); (try rw [show ((0 : Int)).toNat = 0 from rfl] at hx8_0); (try rw [Addr.add_zero'] at hx8_0); replace p8 := eq_true p8; replace q8 := eq_true q8))
 (try simp only [Act.put, List.setIfInBounds_toArray, List.set_cons_zero, List.set_cons_succ])
 go_cut [50] (fun v50 wc => ∃ (kq : Nat) (x50_7 : Bool), v50 = .bool x50_7 ∧ Aside0 (spec_l06Atom.j0 kq t6 (rdOf ByteArray.empty t2 0) ((rdOf ByteArray.empty t2 0).size : Int) x50_7 = some (r1, r2, r3, r4, r5)) ∧ Aside0 (kq ≤ k) ∧ Aside0 (wc.heap[gb1]? = some (.cells #[.int .i64 0, .int .i64 0, .int .i64 0, .int .i64 0] 46 (0, 0))) ∧ Aside0 (Below w.heap.size w wc))
 case first =>
  have H := HC8.out
  clear HC8
  by_cases c13 : ((rdOf ByteArray.empty t2 0).size : Int) > 2
  rotate_left
  ·rw [if_neg c13] at H
   have c13b0 : decide (2 < ((rdOf ByteArray.empty t2 0).size : Int)) = false := decide_eq_false c13
   have c13b1 : decide (2 < (rdOf ByteArray.empty t2 0).size) = false := decide_eq_false (by omega)
   clear c13
   (first | rw [c13b0] | (simp only [i64_w, i32_w]; rw [c13b0]) | skip)
   have H' := Aside0.mk H
   clear H
   go_wp2
   go_meet
   case rel => exact ⟨_, (false), sd_, H', ⟨by first | omega | exact Nat.le_refl _⟩, ⟨bk_⟩, ⟨bw_⟩⟩
  rw [if_pos c13] at H
  have c13b0 : decide (2 < ((rdOf ByteArray.empty t2 0).size : Int)) = true := decide_eq_true c13
  have c13b1 : decide (2 < (rdOf ByteArray.empty t2 0).size) = true := decide_eq_true (by omega)
  clear c13
  (first | rw [c13b0] | (simp only [i64_w, i32_w]; rw [c13b0]) | skip)
  by_cases c14 : 0 < ((rdOf ByteArray.empty t2 0).size : Int)
  rotate_left
  ·rw [if_neg c14] at H
   exact absurd H (by simp)
  rw [if_pos c14] at H
  have c14b0 : decide (0 < ((rdOf ByteArray.empty t2 0).size : Int)) = true := decide_eq_true c14
  have c14b1 : decide (0 < (rdOf ByteArray.empty t2 0).size) = true := decide_eq_true (by omega)
  clear c14
  by_cases c16 : (bt (rdOf ByteArray.empty t2 0) 0) = 91
  rotate_left
  ·rw [if_neg c16] at H
   have c16b0 : ((bt (rdOf ByteArray.empty t2 0) 0) == 91) = false := beq_eq_false_iff_ne.mpr c16
   have c16b1 : ((bt (rdOf ByteArray.empty t2 0) 0) != 91) = true := bne_iff_ne.mpr c16
   have H' := Aside0.mk H
   clear H
   have p15 : 0 ≤ (0 : Int) := (by omega)
   have q15 : 0 < (rdOf ByteArray.empty t2 0).size := (by have : (0 : Int) < ((rdOf ByteArray.empty t2 0).size : Int) := od_; omega)
   have hx15 : ∀ h : 0 < (rdOf ByteArray.empty t2 0).size, (((rdOf ByteArray.empty t2 0)[0]'h).toNat : Int) = bt (rdOf ByteArray.empty t2 0) 0 := bt_at (rdOf ByteArray.empty t2 0) 0
   clear p15
   have qi15 : (0 < ((rdOf ByteArray.empty t2 0).size : Int)) = True := eq_true (od_)
   replace q15 := eq_true q15
   go_wp2
   go_meet
   case rel => exact ⟨_, (false), sd_, H', ⟨by first | omega | exact Nat.le_refl _⟩, ⟨bk_⟩, ⟨bw_⟩⟩
  rw [if_pos c16] at H
  have c16b0 : ((bt (rdOf ByteArray.empty t2 0) 0) == 91) = true := beq_iff_eq.mpr c16
  have c16b1 : ((bt (rdOf ByteArray.empty t2 0) 0) != 91) = false := bne_eq_false_iff_eq.mpr c16
  clear c16
  obtain ⟨ji17, hji17⟩ : ∃ j_ : Int, (wrap64 (((rdOf ByteArray.empty t2 0).size : Int) - 1)) = j_ := ⟨_, rfl⟩
  replace H : (if 0 ≤ (ji17) then (if (ji17) < ((rdOf ByteArray.empty t2 0).size : Int) then (spec_l06Atom.j0 k t6 (rdOf ByteArray.empty t2 0) ((rdOf ByteArray.empty t2 0).size : Int) ((bt (rdOf ByteArray.empty t2 0) (ji17)) == 93)) else (none)) else (none)) = some (r1, r2, r3, r4, r5) := by first | (rw [hji17] at H; exact H) | (simp only [hji17] at H ⊢; exact H)
  have hji17w : (IntKind.i64.wrap (((rdOf ByteArray.empty t2 0).size : Int) - 1)) = ji17 := (i64_w _).trans hji17
  by_cases c18 : 0 ≤ (ji17)
  rotate_left
  ·rw [if_neg c18] at H
   exact absurd H (by simp)
  rw [if_pos c18] at H
  have c18b0 : decide (0 ≤ (ji17)) = true := decide_eq_true c18
  clear c18
  by_cases c19 : (ji17) < ((rdOf ByteArray.empty t2 0).size : Int)
  rotate_left
  ·rw [if_neg c19] at H
   exact absurd H (by simp)
  rw [if_pos c19] at H
  have c19b0 : decide ((ji17) < ((rdOf ByteArray.empty t2 0).size : Int)) = true := decide_eq_true c19
  clear c19
  have H' := Aside0.mk H
  clear H
  have p15 : 0 ≤ (0 : Int) := (by omega)
  have q15 : 0 < (rdOf ByteArray.empty t2 0).size := (by have : (0 : Int) < ((rdOf ByteArray.empty t2 0).size : Int) := od_; omega)
  have hx15 : ∀ h : 0 < (rdOf ByteArray.empty t2 0).size, (((rdOf ByteArray.empty t2 0)[0]'h).toNat : Int) = bt (rdOf ByteArray.empty t2 0) 0 := bt_at (rdOf ByteArray.empty t2 0) 0
  clear p15
  have qi15 : (0 < ((rdOf ByteArray.empty t2 0).size : Int)) = True := eq_true (od_)
  replace q15 := eq_true q15
  have p20 : 0 ≤ ((ji17) : Int) := od_
  have q20 : (ji17) < ((rdOf ByteArray.empty t2 0).size : Int) := od_
  have hx20 := bt_at (rdOf ByteArray.empty t2 0) (ji17)
  replace p20 := eq_true p20
  replace q20 := eq_true q20
  go_wp2
  go_meet
  case rel => exact ⟨_, (((bt (rdOf ByteArray.empty t2 0) (ji17)) == 93)), (by first | rfl | (simp; done) | (simp only [← hji17] <;> (first | rfl | simp)) | (simp [*]; done)), H', ⟨by first | omega | exact Nat.le_refl _⟩, ⟨bk_⟩, ⟨bw_⟩⟩
 case rest =>
  clear HC8
  try clear c1
  try clear p1
  try clear q1
  try clear hx1
  try clear qi1
  try clear c2
  try clear p2
  try clear q2
  try clear hx2
  try clear c3
  try clear c3b0
  try clear c3b1
  try clear c4
  try clear c4b0
  try clear c4b1
  try clear p5
  try clear q5
  try clear hx5
  try clear qi5
  try clear c6
  try clear p6
  try clear c7
  try clear c7b0
  try clear c7b1
  try clear p8
  try clear q8
  try clear hx8
  try clear qi8
  try clear c13
  try clear c13b0
  try clear c13b1
  try clear c14
  try clear c14b0
  try clear c14b1
  try clear p15
  try clear q15
  try clear hx15
  try clear qi15
  try clear c16
  try clear c16b0
  try clear c16b1
  try clear c18
  try clear c18b0
  try clear c19
  try clear c19b0
  try clear p20
  try clear q20
  try clear hx20
  try clear hx5_0
  try clear hx8_0
  try clear p15
  try clear p20
  try clear p5
  try clear p8
  try clear q15
  try clear q20
  try clear q5
  try clear q8
  obtain ⟨kq, x50_7, rfl, HA, HJ7, BK1, HB⟩ := hcut
  cases kq with
  | zero => exact absurd HA.out (by simp [spec_l06Atom.j0])
  | succ kj7 =>
   have H := HA.out
   clear HA
   simp only [spec_l06Atom.j0] at H
   by_cases c21 : x50_7 = true
   ·subst c21
    have H1 : (if 1 ≤ (wrap64 (((rdOf ByteArray.empty t2 0).size : Int) - 1)) then (if (wrap64 (((rdOf ByteArray.empty t2 0).size : Int) - 1)) ≤ ((rdOf ByteArray.empty t2 0).size : Int) then ((spec_l01Read.f kj7 ((rdOf ByteArray.empty t2 0).extract 1 ((wrap64 (((rdOf ByteArray.empty t2 0).size : Int) - 1)) : Int).toNat)).bind fun bt9 => (some (1, 0, bt9.1, t6, bt9.2))) else (none)) else (none)) = some (r1, r2, r3, r4, r5) := by rw [if_pos rfl] at H; exact H
    clear H
    have H := H1
    clear H1
    by_cases c22 : 1 ≤ (wrap64 (((rdOf ByteArray.empty t2 0).size : Int) - 1))
    rotate_left
    ·rw [if_neg c22] at H
     exact absurd H (by simp)
    rw [if_pos c22] at H
    have c22b0 := eq_true c22
    have c22b1 : decide (1 ≤ (wrap64 (((rdOf ByteArray.empty t2 0).size : Int) - 1))) = true := decide_eq_true c22
    clear c22
    by_cases c23 : (wrap64 (((rdOf ByteArray.empty t2 0).size : Int) - 1)) ≤ ((rdOf ByteArray.empty t2 0).size : Int)
    rotate_left
    ·rw [if_neg c23] at H
     exact absurd H (by simp)
    rw [if_pos c23] at H
    have c23b0 := eq_true c23
    have c23b1 : decide ((wrap64 (((rdOf ByteArray.empty t2 0).size : Int) - 1)) ≤ ((rdOf ByteArray.empty t2 0).size : Int)) = true := decide_eq_true c23
    clear c23
    replace H := Option.bind_eq_some_iff.mp H
    obtain ⟨⟨t9, t10⟩, A240, H⟩ := H
    replace H : (some (1, 0, t9, t6, t10)) = some (r1, r2, r3, r4, r5) := H
    have A24 := Aside0.mk A240
    clear A240
    simp only [Option.some.injEq, Prod.mk.injEq] at H
    obtain ⟨rfl, rfl, rfl, rfl, rfl⟩ := H
    go_wp2_with (first | ((with_reducible refine gate_callee (f := 31) rfl ?_); refine goesL_ (some 56) rfl rfl Tryz.func31 (by kernel_rfl) rfl #[.string ((rdOf ByteArray.empty t2 0).extract 1 ((wrap64 (((rdOf ByteArray.empty t2 0).size : Int) - 1)) : Int).toNat)] rfl ar_ ?_; (with_reducible refine (spec_l01Read.calls kj7 ((rdOf ByteArray.empty t2 0).extract 1 ((wrap64 (((rdOf ByteArray.empty t2 0).size : Int) - 1)) : Int).toNat) t9 t10 _ A24.out).mono ?_); rintro e w25 ⟨rfl, hb⟩; refine ⟨_, rfl, ?_⟩; have n0_ := bb_ BK1.out hb; have n1_ := bs_ hb; clear BK1; clear HB; have BK1 := n0_; have HB := n1_; clear n0_ n1_; (try clear hb); (try clear hb2); (try clear hk); (try clear hi); obtain ⟨hcz26_0, hcz26_1, hcz26_2, hcz26_3, hfz26_0, hfz26_1, hfz26_2, hfz26_3⟩ := bc4_ BK1.out))
    refine bodyPost_ret (results_ct rfl _ _ gb1 46 #[.int .i64 1, .int .i64 0, .int .i64 t9, .int .i64 t6] (0, 0) _ rfl (by (with_reducible repeat (first | refine blk_drewN ?_ _ | refine blk_drew ?_ | refine blk_alloc ?_ _)); refine blk_put (cs := #[.int .i64 1, .int .i64 0, .int .i64 t9, .int .i64 0]) ?_ 3 _ rfl; (with_reducible repeat (first | refine blk_drewN ?_ _ | refine blk_drew ?_ | refine blk_alloc ?_ _)); refine blk_put (cs := #[.int .i64 1, .int .i64 0, .int .i64 0, .int .i64 0]) ?_ 2 _ rfl; (with_reducible repeat (first | refine blk_drewN ?_ _ | refine blk_drew ?_ | refine blk_alloc ?_ _)); refine blk_put (cs := #[.int .i64 1, .int .i64 0, .int .i64 0, .int .i64 0]) ?_ 1 _ rfl; (with_reducible repeat (first | refine blk_drewN ?_ _ | refine blk_drew ?_ | refine blk_alloc ?_ _)); refine blk_put (cs := #[.int .i64 0, .int .i64 0, .int .i64 0, .int .i64 0]) ?_ 0 _ rfl; (with_reducible repeat (first | refine blk_drewN ?_ _ | refine blk_drew ?_ | refine blk_alloc ?_ _)); exact BK1.out) Tryz.underlying46 rfl (by kernel_rfl)) rfl ?_
    exact ⟨rr_, bw_⟩
   replace c21 := Bool.eq_false_iff.mpr c21
   subst c21
   have H1 : ((spec_l01Parts.f kj7 (rdOf ByteArray.empty t2 0) 58).bind fun t11 => (if (t11.length : Int) = 2 then (if 0 < (t11.length : Int) then ((spec_l01Read.f kj7 (rdOf ByteArray.empty t11 0)).bind fun bt15 => (if 1 < (t11.length : Int) then ((spec_l01Read.f kj7 (rdOf ByteArray.empty t11 1)).bind fun bt18 => (if bt15.2 = true then (some (0, bt15.1, bt18.1, t6, bt18.2)) else (some (0, bt15.1, bt18.1, t6, false)))) else (none))) else (none)) else (some (0, 0, 0, 0, false)))) = some (r1, r2, r3, r4, r5) := by rw [if_neg (show ¬ (false = true) by decide)] at H; exact H
   clear H
   have H := H1
   clear H1
   replace H := Option.bind_eq_some_iff.mp H
   obtain ⟨t11, A270, H⟩ := H
   replace H : (if (t11.length : Int) = 2 then (if 0 < (t11.length : Int) then ((spec_l01Read.f kj7 (rdOf ByteArray.empty t11 0)).bind fun bt15 => (if 1 < (t11.length : Int) then ((spec_l01Read.f kj7 (rdOf ByteArray.empty t11 1)).bind fun bt18 => (if bt15.2 = true then (some (0, bt15.1, bt18.1, t6, bt18.2)) else (some (0, bt15.1, bt18.1, t6, false)))) else (none))) else (none)) else (some (0, 0, 0, 0, false))) = some (r1, r2, r3, r4, r5) := H
   have A27 := Aside0.mk A270
   clear A270
   by_cases c28 : (t11.length : Int) = 2
   rotate_left
   ·rw [if_neg c28] at H
    have c28b0 : ((t11.length : Int) == 2) = false := beq_eq_false_iff_ne.mpr c28
    have c28b1 : ((t11.length : Int) != 2) = true := bne_iff_ne.mpr c28
    simp only [Option.some.injEq, Prod.mk.injEq] at H
    obtain ⟨rfl, rfl, rfl, rfl, rfl⟩ := H
    go_wp2_with (first | ((with_reducible refine gate_callee (f := 21) rfl ?_); refine goesL_ (some 64) rfl rfl Tryz.func21 (by kernel_rfl) rfl #[.string (rdOf ByteArray.empty t2 0), .int .u8 58] rfl ar_ ?_; (with_reducible refine (spec_l01Parts.calls kj7 (rdOf ByteArray.empty t2 0) 58 t11 _ A27.out).mono ?_); rintro e w44 ⟨v12, rfl, ho0, hb⟩; refine ⟨_, rfl, ?_⟩; have n0_ := Aside0.mk (Kd.R_lower ho0 (below_size bw_)); have n1_ := bb_ BK1.out hb; have n2_ := bs_ hb; clear BK1; clear HB; have HO13 := n0_; have BK1 := n1_; have HB := n2_; clear n0_ n1_ n2_; (try clear hb); (try clear hb2); (try clear hk); (try clear hi); (try clear ho0); obtain ⟨Ao45, co45, eo45⟩ := Kd.R_slice HO13.out; subst eo45; obtain ⟨hcz46_0, hcz46_1, hcz46_2, hcz46_3, hfz46_0, hfz46_1, hfz46_2, hfz46_3⟩ := bc4_ BK1.out))
    refine bodyPost_ret (results_ct rfl _ _ gb1 46 #[.int .i64 0, .int .i64 0, .int .i64 0, .int .i64 0] (0, 0) _ rfl (by (with_reducible repeat (first | refine blk_drewN ?_ _ | refine blk_drew ?_ | refine blk_alloc ?_ _)); refine blk_put (cs := #[.int .i64 0, .int .i64 0, .int .i64 0, .int .i64 0]) ?_ 3 _ rfl; (with_reducible repeat (first | refine blk_drewN ?_ _ | refine blk_drew ?_ | refine blk_alloc ?_ _)); refine blk_put (cs := #[.int .i64 0, .int .i64 0, .int .i64 0, .int .i64 0]) ?_ 2 _ rfl; (with_reducible repeat (first | refine blk_drewN ?_ _ | refine blk_drew ?_ | refine blk_alloc ?_ _)); refine blk_put (cs := #[.int .i64 0, .int .i64 0, .int .i64 0, .int .i64 0]) ?_ 1 _ rfl; (with_reducible repeat (first | refine blk_drewN ?_ _ | refine blk_drew ?_ | refine blk_alloc ?_ _)); refine blk_put (cs := #[.int .i64 0, .int .i64 0, .int .i64 0, .int .i64 0]) ?_ 0 _ rfl; (with_reducible repeat (first | refine blk_drewN ?_ _ | refine blk_drew ?_ | refine blk_alloc ?_ _)); exact BK1.out) Tryz.underlying46 rfl (by kernel_rfl)) rfl ?_
    exact ⟨rr_, bw_⟩
   rw [if_pos c28] at H
   have c28b0 : ((t11.length : Int) == 2) = true := beq_iff_eq.mpr c28
   have c28b1 : ((t11.length : Int) != 2) = false := bne_eq_false_iff_eq.mpr c28
   clear c28
   by_cases c29 : 0 < (t11.length : Int)
   rotate_left
   ·rw [if_neg c29] at H
    exact absurd H (by simp)
   rw [if_pos c29] at H
   have c29b0 : decide (0 < (t11.length : Int)) = true := decide_eq_true c29
   have c29b1 : decide (0 < t11.length) = true := decide_eq_true (by omega)
   clear c29
   replace H := Option.bind_eq_some_iff.mp H
   obtain ⟨⟨t15, t16⟩, A300, H⟩ := H
   replace H : (if 1 < (t11.length : Int) then ((spec_l01Read.f kj7 (rdOf ByteArray.empty t11 1)).bind fun bt18 => (if t16 = true then (some (0, t15, bt18.1, t6, bt18.2)) else (some (0, t15, bt18.1, t6, false)))) else (none)) = some (r1, r2, r3, r4, r5) := H
   have A30 := Aside0.mk A300
   clear A300
   by_cases c31 : 1 < (t11.length : Int)
   rotate_left
   ·rw [if_neg c31] at H
    exact absurd H (by simp)
   rw [if_pos c31] at H
   have c31b0 : decide (1 < (t11.length : Int)) = true := decide_eq_true c31
   have c31b1 : decide (1 < t11.length) = true := decide_eq_true (by omega)
   clear c31
   replace H := Option.bind_eq_some_iff.mp H
   obtain ⟨⟨t18, t19⟩, A320, H⟩ := H
   replace H : (if t16 = true then (some (0, t15, t18, t6, t19)) else (some (0, t15, t18, t6, false))) = some (r1, r2, r3, r4, r5) := H
   have A32 := Aside0.mk A320
   clear A320
   by_cases c33 : t16 = true
   ·subst c33
    have H1 : (some (0, t15, t18, t6, t19)) = some (r1, r2, r3, r4, r5) := by rw [if_pos rfl] at H; exact H
    clear H
    have H := H1
    clear H1
    simp only [Option.some.injEq, Prod.mk.injEq] at H
    obtain ⟨rfl, rfl, rfl, rfl, rfl⟩ := H
    go_wp2_with (first | ((with_reducible refine gate_callee (f := 21) rfl ?_); refine goesL_ (some 64) rfl rfl Tryz.func21 (by kernel_rfl) rfl #[.string (rdOf ByteArray.empty t2 0), .int .u8 58] rfl ar_ ?_; (with_reducible refine (spec_l01Parts.calls kj7 (rdOf ByteArray.empty t2 0) 58 t11 _ A27.out).mono ?_); rintro e w34 ⟨v12, rfl, ho0, hb⟩; refine ⟨_, rfl, ?_⟩; have n0_ := Aside0.mk (Kd.R_lower ho0 (below_size bw_)); have n1_ := bb_ BK1.out hb; have n2_ := bs_ hb; clear BK1; clear HB; have HO13 := n0_; have BK1 := n1_; have HB := n2_; clear n0_ n1_ n2_; (try clear hb); (try clear hb2); (try clear hk); (try clear hi); (try clear ho0); obtain ⟨Ao35, co35, eo35⟩ := Kd.R_slice HO13.out; subst eo35; have p14 : 0 ≤ (0 : Int) := (by omega); have q14 : 0 < (t11.length : Int) := od_; obtain ⟨ad14, e14, hx14_0⟩ := Kd.at_string (Kd.R_reads' HO13.out).2.2 0 p14 q14; cases e14; have qi14 : (0 < t11.length) = True := eq_true (by omega); (try rw [show ((0 : Int)).toNat = 0 from rfl] at hx14_0); (try rw [Addr.add_zero'] at hx14_0); replace p14 := eq_true p14; replace q14 := eq_true q14) | ((with_reducible refine gate_callee (f := 31) rfl ?_); refine goesL_ (some 73) rfl rfl Tryz.func31 (by kernel_rfl) rfl #[.string (rdOf ByteArray.empty t11 0)] rfl ar_ ?_; (with_reducible refine (spec_l01Read.calls kj7 (rdOf ByteArray.empty t11 0) t15 true _ A30.out).mono ?_); rintro e w36 ⟨rfl, hb⟩; refine ⟨_, rfl, ?_⟩; have n0_ := Aside0.mk (Kd.R_below (rx_ HO13.out) hb); have n1_ := bb_ BK1.out hb; have n2_ := bs_ hb; clear HO13; clear BK1; clear HB; have HO13 := n0_; have BK1 := n1_; have HB := n2_; clear n0_ n1_ n2_; (try clear hb); (try clear hb2); (try clear hk); (try clear hi); have p17 : 0 ≤ (1 : Int) := (by omega); have q17 : 1 < (t11.length : Int) := od_; obtain ⟨ad17, e17, hx17_0⟩ := Kd.at_string (Kd.R_reads' HO13.out).2.2 1 p17 q17; obtain rfl : ad14 = ad17 := (by injection e17); (try simp only [show (1 : Int).toNat = 1 from rfl, Nat.reduceMul, Nat.reduceEqDiff, Go.Addr.add, ↓reduceIte] at hx17_0); have qi17 : (1 < t11.length) = True := eq_true (by omega); (try rw [show ((1 : Int)).toNat = 1 from rfl] at hx17_0); replace p17 := eq_true p17; replace q17 := eq_true q17) | ((with_reducible refine gate_callee (f := 31) rfl ?_); refine goesL_ (some 80) rfl rfl Tryz.func31 (by kernel_rfl) rfl #[.string (rdOf ByteArray.empty t11 1)] rfl ar_ ?_; (with_reducible refine (spec_l01Read.calls kj7 (rdOf ByteArray.empty t11 1) t18 t19 _ A32.out).mono ?_); rintro e w37 ⟨rfl, hb⟩; refine ⟨_, rfl, ?_⟩; have n0_ := Aside0.mk (Kd.R_below (rx_ HO13.out) hb); have n1_ := bb_ BK1.out hb; have n2_ := bs_ hb; clear HO13; clear BK1; clear HB; have HO13 := n0_; have BK1 := n1_; have HB := n2_; clear n0_ n1_ n2_; (try clear hb); (try clear hb2); (try clear hk); (try clear hi); obtain ⟨hcz38_0, hcz38_1, hcz38_2, hcz38_3, hfz38_0, hfz38_1, hfz38_2, hfz38_3⟩ := bc4_ BK1.out))
    refine bodyPost_ret (results_ct rfl _ _ gb1 46 #[.int .i64 0, .int .i64 t15, .int .i64 t18, .int .i64 t6] (0, 0) _ rfl (by (with_reducible repeat (first | refine blk_drewN ?_ _ | refine blk_drew ?_ | refine blk_alloc ?_ _)); refine blk_put (cs := #[.int .i64 0, .int .i64 t15, .int .i64 t18, .int .i64 0]) ?_ 3 _ rfl; (with_reducible repeat (first | refine blk_drewN ?_ _ | refine blk_drew ?_ | refine blk_alloc ?_ _)); refine blk_put (cs := #[.int .i64 0, .int .i64 t15, .int .i64 0, .int .i64 0]) ?_ 2 _ rfl; (with_reducible repeat (first | refine blk_drewN ?_ _ | refine blk_drew ?_ | refine blk_alloc ?_ _)); refine blk_put (cs := #[.int .i64 0, .int .i64 0, .int .i64 0, .int .i64 0]) ?_ 1 _ rfl; (with_reducible repeat (first | refine blk_drewN ?_ _ | refine blk_drew ?_ | refine blk_alloc ?_ _)); refine blk_put (cs := #[.int .i64 0, .int .i64 0, .int .i64 0, .int .i64 0]) ?_ 0 _ rfl; (with_reducible repeat (first | refine blk_drewN ?_ _ | refine blk_drew ?_ | refine blk_alloc ?_ _)); exact BK1.out) Tryz.underlying46 rfl (by kernel_rfl)) rfl ?_
    exact ⟨rr_, bw_⟩
   replace c33 := Bool.eq_false_iff.mpr c33
   subst c33
   have H1 : (some (0, t15, t18, t6, false)) = some (r1, r2, r3, r4, r5) := by rw [if_neg (show ¬ (false = true) by decide)] at H; exact H
   clear H
   have H := H1
   clear H1
   simp only [Option.some.injEq, Prod.mk.injEq] at H
   obtain ⟨rfl, rfl, rfl, rfl, rfl⟩ := H
   go_wp2_with (first | ((with_reducible refine gate_callee (f := 21) rfl ?_); refine goesL_ (some 64) rfl rfl Tryz.func21 (by kernel_rfl) rfl #[.string (rdOf ByteArray.empty t2 0), .int .u8 58] rfl ar_ ?_; (with_reducible refine (spec_l01Parts.calls kj7 (rdOf ByteArray.empty t2 0) 58 t11 _ A27.out).mono ?_); rintro e w39 ⟨v12, rfl, ho0, hb⟩; refine ⟨_, rfl, ?_⟩; have n0_ := Aside0.mk (Kd.R_lower ho0 (below_size bw_)); have n1_ := bb_ BK1.out hb; have n2_ := bs_ hb; clear BK1; clear HB; have HO13 := n0_; have BK1 := n1_; have HB := n2_; clear n0_ n1_ n2_; (try clear hb); (try clear hb2); (try clear hk); (try clear hi); (try clear ho0); obtain ⟨Ao40, co40, eo40⟩ := Kd.R_slice HO13.out; subst eo40; have p14 : 0 ≤ (0 : Int) := (by omega); have q14 : 0 < (t11.length : Int) := od_; obtain ⟨ad14, e14, hx14_0⟩ := Kd.at_string (Kd.R_reads' HO13.out).2.2 0 p14 q14; cases e14; have qi14 : (0 < t11.length) = True := eq_true (by omega); (try rw [show ((0 : Int)).toNat = 0 from rfl] at hx14_0); (try rw [Addr.add_zero'] at hx14_0); replace p14 := eq_true p14; replace q14 := eq_true q14) | ((with_reducible refine gate_callee (f := 31) rfl ?_); refine goesL_ (some 73) rfl rfl Tryz.func31 (by kernel_rfl) rfl #[.string (rdOf ByteArray.empty t11 0)] rfl ar_ ?_; (with_reducible refine (spec_l01Read.calls kj7 (rdOf ByteArray.empty t11 0) t15 false _ A30.out).mono ?_); rintro e w41 ⟨rfl, hb⟩; refine ⟨_, rfl, ?_⟩; have n0_ := Aside0.mk (Kd.R_below (rx_ HO13.out) hb); have n1_ := bb_ BK1.out hb; have n2_ := bs_ hb; clear HO13; clear BK1; clear HB; have HO13 := n0_; have BK1 := n1_; have HB := n2_; clear n0_ n1_ n2_; (try clear hb); (try clear hb2); (try clear hk); (try clear hi); have p17 : 0 ≤ (1 : Int) := (by omega); have q17 : 1 < (t11.length : Int) := od_; obtain ⟨ad17, e17, hx17_0⟩ := Kd.at_string (Kd.R_reads' HO13.out).2.2 1 p17 q17; obtain rfl : ad14 = ad17 := (by injection e17); (try simp only [show (1 : Int).toNat = 1 from rfl, Nat.reduceMul, Nat.reduceEqDiff, Go.Addr.add, ↓reduceIte] at hx17_0); have qi17 : (1 < t11.length) = True := eq_true (by omega); (try rw [show ((1 : Int)).toNat = 1 from rfl] at hx17_0); replace p17 := eq_true p17; replace q17 := eq_true q17) | ((with_reducible refine gate_callee (f := 31) rfl ?_); refine goesL_ (some 80) rfl rfl Tryz.func31 (by kernel_rfl) rfl #[.string (rdOf ByteArray.empty t11 1)] rfl ar_ ?_; (with_reducible refine (spec_l01Read.calls kj7 (rdOf ByteArray.empty t11 1) t18 t19 _ A32.out).mono ?_); rintro e w42 ⟨rfl, hb⟩; refine ⟨_, rfl, ?_⟩; have n0_ := Aside0.mk (Kd.R_below (rx_ HO13.out) hb); have n1_ := bb_ BK1.out hb; have n2_ := bs_ hb; clear HO13; clear BK1; clear HB; have HO13 := n0_; have BK1 := n1_; have HB := n2_; clear n0_ n1_ n2_; (try clear hb); (try clear hb2); (try clear hk); (try clear hi); obtain ⟨hcz43_0, hcz43_1, hcz43_2, hcz43_3, hfz43_0, hfz43_1, hfz43_2, hfz43_3⟩ := bc4_ BK1.out))
   refine bodyPost_ret (results_ct rfl _ _ gb1 46 #[.int .i64 0, .int .i64 t15, .int .i64 t18, .int .i64 t6] (0, 0) _ rfl (by (with_reducible repeat (first | refine blk_drewN ?_ _ | refine blk_drew ?_ | refine blk_alloc ?_ _)); refine blk_put (cs := #[.int .i64 0, .int .i64 t15, .int .i64 t18, .int .i64 0]) ?_ 3 _ rfl; (with_reducible repeat (first | refine blk_drewN ?_ _ | refine blk_drew ?_ | refine blk_alloc ?_ _)); refine blk_put (cs := #[.int .i64 0, .int .i64 t15, .int .i64 0, .int .i64 0]) ?_ 2 _ rfl; (with_reducible repeat (first | refine blk_drewN ?_ _ | refine blk_drew ?_ | refine blk_alloc ?_ _)); refine blk_put (cs := #[.int .i64 0, .int .i64 0, .int .i64 0, .int .i64 0]) ?_ 1 _ rfl; (with_reducible repeat (first | refine blk_drewN ?_ _ | refine blk_drew ?_ | refine blk_alloc ?_ _)); refine blk_put (cs := #[.int .i64 0, .int .i64 0, .int .i64 0, .int .i64 0]) ?_ 0 _ rfl; (with_reducible repeat (first | refine blk_drewN ?_ _ | refine blk_drew ?_ | refine blk_alloc ?_ _)); exact BK1.out) Tryz.underlying46 rfl (by kernel_rfl)) rfl ?_
   exact ⟨rr_, bw_⟩

end Go.Proofs.YtbgclnjnngolmaaGreatDoor.P
