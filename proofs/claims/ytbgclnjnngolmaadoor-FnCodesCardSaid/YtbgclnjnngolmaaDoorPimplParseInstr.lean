-- Written by mp.py (the session's own driver over the kit's printer) for the seat YtbgclnjnngolmaaDoor.
import Derived.Test.YtbgclnjnngolmaaDoorK
import Derived.Test.YtbgclnjnngolmaaDoorE
import Derived.Test.YtbgclnjnngolmaaDoorPimplInstrText
import Derived.Test.YtbgclnjnngolmaaDoorPimplInstrusesS
import Derived.Test.YtbgclnjnngolmaaDoorPimplwithin
import Derived.Test.YtbgclnjnngolmaaDoorPslicesIndexstringstring
import Derived.Test.YtbgclnjnngolmaaDoorPstrconvAtoi
import Derived.Test.YtbgclnjnngolmaaDoorPstringsSplit
import Derived.Test.YtbgclnjnngolmaaDoorEnv
namespace Go.Proofs.YtbgclnjnngolmaaDoor.P
open Go.RowKit Go.Proofs.YtbgclnjnngolmaaDoorW.PrintWords Go.Proofs.YtbgclnjnngolmaaDoorW.PrintLast Go.Proofs.YtbgclnjnngolmaaDoorW.PrintMore
attribute [local go_sem] max2_int min2_int max_two min_two max_three min_three max_four min_four
set_option linter.unusedVariables false
set_option linter.unusedSimpArgs false

/-! ### impl_ParseInstr: function 23 -/
mutual
def impl_ParseInstr.l0 : Nat → ByteArray → List ByteArray → List Int → List ByteArray → Int → Int → Option (Int × Int × Int × Int × Bool)
 | 0, _, _, _, _, _, _ => none
 | k + 1, x0, x4, x5, x19, x20, x21 => if x21 < x20 then (if 0 ≤ x21 then (if x21 < (x19.length : Int) then ((strconv_Atoi.f (rdOf ByteArray.empty x19 x21)).bind fun bt13 => (if bt13.2 = true then (some (0, 0, 0, 0, false)) else ((impl_within.f bt13.1 (-1000000) 1000000).bind fun t15 => (if t15 = true then (if x5.length < 17592186044416 then (impl_ParseInstr.l0 k x0 x4 (x5 ++ [bt13.1]) x19 x20 (wrap64 (x21 + 1))) else (none)) else (some (0, 0, 0, 0, false)))))) else (none)) else (none)) else ((impl_mnemonics.f).bind fun t19 => (if 0 < (x4.length : Int) then ((slices_Index_string_string.f t19 (rdOf ByteArray.empty x4 0)).bind fun t23 => ((some (([0, 0, 0] : List Int) : List Int)).bind fun y25 => (if x5.length + y25.length < 17592186044416 then ((some (x5 ++ y25 : List Int)).bind fun y28 => ((impl_Instr_usesR.f t23 0 0 0).bind fun t31 => (if t31 = true then (if 0 < (y28.length : Int) then (if 1 ≤ (y28.length : Int) then (impl_ParseInstr.j1 k x0 (y28.drop (1 : Int).toNat) t23 (rd y28 0) 0 0) else (none)) else (none)) else (impl_ParseInstr.j1 k x0 y28 t23 0 0 0)))) else (none)))) else (none)))
def impl_ParseInstr.j1 : Nat → ByteArray → List Int → Int → Int → Int → Int → Option (Int × Int × Int × Int × Bool)
 | 0, _, _, _, _, _, _ => none
 | k + 1, x0, x5, x25000, x25001, x25002, x25003 => (impl_Instr_usesS.f x25000 x25001 x25002 x25003).bind fun t36 => (if t36 = true then (if 0 < (x5.length : Int) then (if 1 ≤ (x5.length : Int) then (impl_ParseInstr.j2 k x0 (x5.drop (1 : Int).toNat) x25000 x25001 (rd x5 0) x25003) else (none)) else (none)) else (impl_ParseInstr.j2 k x0 x5 x25000 x25001 x25002 x25003))
def impl_ParseInstr.j2 : Nat → ByteArray → List Int → Int → Int → Int → Int → Option (Int × Int × Int × Int × Bool)
 | 0, _, _, _, _, _, _ => none
 | k + 1, x0, x5, x25000, x25001, x25002, x25003 => (impl_Instr_usesN.f x25000 x25001 x25002 x25003).bind fun t41 => (if t41 = true then (if 0 < (x5.length : Int) then (if x0.toList = ([] : List UInt8) then (some (0, 0, 0, 0, false)) else ((impl_InstrText.f k x25000 x25001 x25002 (rd x5 0)).bind fun t43 => (if t43.toList = x0.toList then (some (x25000, x25001, x25002, rd x5 0, true)) else (some (0, 0, 0, 0, false))))) else (none)) else (if x0.toList = ([] : List UInt8) then (some (0, 0, 0, 0, false)) else ((impl_InstrText.f k x25000 x25001 x25002 x25003).bind fun t44 => (if t44.toList = x0.toList then (some (x25000, x25001, x25002, x25003, true)) else (some (0, 0, 0, 0, false))))))
end
def impl_ParseInstr.f (k : Nat) (a0 : ByteArray) : Option (Int × Int × Int × Int × Bool) := if (a0.size : Int) > 60 then (some (0, 0, 0, 0, false)) else ((strings_Split.f a0 (⟨#[32]⟩ : ByteArray)).bind fun t2 => (if 1 ≤ (t2.length : Int) then ((some (t2.drop 1 : List ByteArray)).bind fun y8 => (impl_ParseInstr.l0 k a0 t2 (([] : List Int)) y8 (y8.length : Int) 0)) else (none)))
theorem impl_ParseInstr.mono_l : ∀ k, (∀ y0 y1 y2 y3 y4 y5, LeO (impl_ParseInstr.l0 k y0 y1 y2 y3 y4 y5) (impl_ParseInstr.l0 (k + 1) y0 y1 y2 y3 y4 y5)) ∧ (∀ y0 y1 y2 y3 y4 y5, LeO (impl_ParseInstr.j1 k y0 y1 y2 y3 y4 y5) (impl_ParseInstr.j1 (k + 1) y0 y1 y2 y3 y4 y5)) ∧ (∀ y0 y1 y2 y3 y4 y5, LeO (impl_ParseInstr.j2 k y0 y1 y2 y3 y4 y5) (impl_ParseInstr.j2 (k + 1) y0 y1 y2 y3 y4 y5))
 | 0 => ⟨fun _ _ _ _ _ _ r h => by simp [impl_ParseInstr.l0] at h, fun _ _ _ _ _ _ r h => by simp [impl_ParseInstr.j1] at h, fun _ _ _ _ _ _ r h => by simp [impl_ParseInstr.j2] at h⟩
 | k + 1 => by
  obtain ⟨ih0, ih1, ih2⟩ := impl_ParseInstr.mono_l k
  refine ⟨?_, ?_, ?_⟩
  ·intro y0 y1 y2 y3 y4 y5
   unfold impl_ParseInstr.l0
   repeat' first | (with_reducible first | exact ih0 _ _ _ _ _ _ | exact ih1 _ _ _ _ _ _ | exact ih2 _ _ _ _ _ _ | exact impl_InstrText.mono _ _ _ _ _ | exact lr_ | exact ln_ | refine LeO.ite ?_ ?_ | refine LeO.bind ?_ (fun _ => ?_)) | exact ih0 _ _ _ _ _ _ | exact ih1 _ _ _ _ _ _ | exact ih2 _ _ _ _ _ _ | exact impl_InstrText.mono _ _ _ _ _ | exact ln_ | refine LeO.ite ?_ ?_ | refine LeO.bind ?_ (fun _ => ?_)
  ·intro y0 y1 y2 y3 y4 y5
   unfold impl_ParseInstr.j1
   repeat' first | (with_reducible first | exact ih0 _ _ _ _ _ _ | exact ih1 _ _ _ _ _ _ | exact ih2 _ _ _ _ _ _ | exact impl_InstrText.mono _ _ _ _ _ | exact lr_ | exact ln_ | refine LeO.ite ?_ ?_ | refine LeO.bind ?_ (fun _ => ?_)) | exact ih0 _ _ _ _ _ _ | exact ih1 _ _ _ _ _ _ | exact ih2 _ _ _ _ _ _ | exact impl_InstrText.mono _ _ _ _ _ | exact ln_ | refine LeO.ite ?_ ?_ | refine LeO.bind ?_ (fun _ => ?_)
  ·intro y0 y1 y2 y3 y4 y5
   unfold impl_ParseInstr.j2
   repeat' first | (with_reducible first | exact ih0 _ _ _ _ _ _ | exact ih1 _ _ _ _ _ _ | exact ih2 _ _ _ _ _ _ | exact impl_InstrText.mono _ _ _ _ _ | exact lr_ | exact ln_ | refine LeO.ite ?_ ?_ | refine LeO.bind ?_ (fun _ => ?_)) | exact ih0 _ _ _ _ _ _ | exact ih1 _ _ _ _ _ _ | exact ih2 _ _ _ _ _ _ | exact impl_InstrText.mono _ _ _ _ _ | exact ln_ | refine LeO.ite ?_ ?_ | refine LeO.bind ?_ (fun _ => ?_)
theorem impl_ParseInstr.mono : ∀ a0 k, LeO (impl_ParseInstr.f k a0) (impl_ParseInstr.f (k + 1) a0) := by
 intro a0 k
 obtain ⟨ih0, ih1, ih2⟩ := impl_ParseInstr.mono_l k
 unfold impl_ParseInstr.f
 repeat' first | (with_reducible first | exact ih0 _ _ _ _ _ _ | exact ih1 _ _ _ _ _ _ | exact ih2 _ _ _ _ _ _ | exact impl_InstrText.mono _ _ _ _ _ | exact lr_ | exact ln_ | refine LeO.ite ?_ ?_ | refine LeO.bind ?_ (fun _ => ?_)) | exact ih0 _ _ _ _ _ _ | exact ih1 _ _ _ _ _ _ | exact ih2 _ _ _ _ _ _ | exact impl_InstrText.mono _ _ _ _ _ | exact ln_ | refine LeO.ite ?_ ?_ | refine LeO.bind ?_ (fun _ => ?_)
def impl_ParseInstr.T12 : Bool × List (List Nat × List Nat) := (true, [([], []), ([], []), ([1], [1]), ([2], [2]), ([0, 3, 0], [0, 3]), ([4], [4]), ([], []), ([6, 5, 4, 0, 1, 2, 3, 4, 5, 6], [5, 6])])
def impl_ParseInstr.B12 : List Nat := [0, 0, 2, 6, 15, 31, 0, 127]
theorem impl_ParseInstr.tab12 : rtab .any (opsOf Tryd.f23 12) = impl_ParseInstr.T12 := by kernel_rfl
theorem impl_ParseInstr.bits12 : waitsOk impl_ParseInstr.T12.2 impl_ParseInstr.B12 = true := by kernel_rfl
def impl_ParseInstr.T15 : Bool × List (List Nat × List Nat) := (true, [([], []), ([0], [0]), ([1], [1]), ([], []), ([3], [3]), ([0, 1, 2], []), ([5, 2, 0, 1, 2], [2, 5]), ([4, 6, 0, 1, 2, 3, 4, 5, 6], [0, 3, 4])])
def impl_ParseInstr.B15 : List Nat := [0, 1, 3, 0, 8, 7, 39, 127]
theorem impl_ParseInstr.tab15 : rtab .any (opsOf Tryd.f23 15) = impl_ParseInstr.T15 := by kernel_rfl
theorem impl_ParseInstr.bits15 : waitsOk impl_ParseInstr.T15.2 impl_ParseInstr.B15 = true := by kernel_rfl
def impl_ParseInstr.T17 : Bool × List (List Nat × List Nat) := (true, [([], []), ([0], [0]), ([1], [1]), ([], []), ([3], [3]), ([0, 1, 2], []), ([5, 2, 0, 1, 2], [2, 5]), ([4, 6, 0, 1, 2, 3, 4, 5, 6], [0, 3, 4])])
def impl_ParseInstr.B17 : List Nat := [0, 1, 3, 0, 8, 7, 39, 127]
theorem impl_ParseInstr.tab17 : rtab .any (opsOf Tryd.f23 17) = impl_ParseInstr.T17 := by kernel_rfl
theorem impl_ParseInstr.bits17 : waitsOk impl_ParseInstr.T17.2 impl_ParseInstr.B17 = true := by kernel_rfl
set_option maxHeartbeats 8000000 in
set_option maxRecDepth 100000 in
theorem impl_ParseInstr.calls (k : Nat) (a0 : ByteArray) (r1 : Int) (r2 : Int) (r3 : Int) (r4 : Int) (r5 : Bool) (w : World) (hE_ : EnvOk true w) (h : impl_ParseInstr.f k a0 = some (r1, r2, r3, r4, r5)) :
  Calls Tryd.prog 23 #[.string a0] w fun e w' => e = .returned (.tuple #[.agg #[.int .i64 r1, .int .i64 r2, .int .i64 r3, .int .i64 r4], .bool r5]) ∧ Below w.heap.size w w' := by
 have HE_ := Aside0.mk hE_
 clear hE_
 have hu37 := Tryd.underlying37
 have HB := Aside0.mk (Below.refl w.heap.size w)
 have H : (if (a0.size : Int) > 60 then (some (0, 0, 0, 0, false)) else ((strings_Split.f a0 (⟨#[32]⟩ : ByteArray)).bind fun t2 => (if 1 ≤ (t2.length : Int) then ((some (t2.drop 1 : List ByteArray)).bind fun y8 => (impl_ParseInstr.l0 k a0 t2 (([] : List Int)) y8 (y8.length : Int) 0)) else (none)))) = some (r1, r2, r3, r4, r5) := h
 clear h
 by_cases c2 : (a0.size : Int) > 60
 ·rw [if_pos c2] at H
  have c2b0 : decide (60 < (a0.size : Int)) = true := decide_eq_true c2
  have c2b1 : decide (60 < a0.size) = true := decide_eq_true (by omega)
  clear c2
  simp only [Option.some.injEq, Prod.mk.injEq] at H
  obtain ⟨rfl, rfl, rfl, rfl, rfl⟩ := H
  go_enter Tryd.func23, Tryd.ntmps23
  go_wp2_with (first | ((with_reducible refine gate_dst (N := 2) rfl ?_); refine box_event ?hg (N := 2) ?hd (cs := #[.int .i64 0, .int .i64 0, .int .i64 0, .int .i64 0]) (t := 37) ?hr ?_; (case hd => rfl); (case hg => rfl); (case hr => exact hrr_); intro gb1 hg w3 hbox hb; have n0_ := bs_ hb; have n1_ := Aside0.mk (hbox); have n2_ := ge_ (w := w) hg; have n3_ := ge_ (w := w) hg; clear HB; have HB := n0_; have BK1 := n1_; have GW1 := n2_; have GE1 := n3_; clear n0_ n1_ n2_ n3_; clear hb hbox hg; obtain ⟨hcz4_0, hcz4_1, hcz4_2, hcz4_3, hfz4_0, hfz4_1, hfz4_2, hfz4_3⟩ := bc4_ BK1.out))
  refine bodyPost_ret (results_ct rfl _ _ gb1 37 #[.int .i64 0, .int .i64 0, .int .i64 0, .int .i64 0] (0, 0) _ rfl (by (with_reducible repeat (first | refine blk_drewN ?_ _ | refine blk_drew ?_ | refine blk_alloc ?_ _)); refine blk_put (cs := #[.int .i64 0, .int .i64 0, .int .i64 0, .int .i64 0]) ?_ 3 _ rfl; (with_reducible repeat (first | refine blk_drewN ?_ _ | refine blk_drew ?_ | refine blk_alloc ?_ _)); refine blk_put (cs := #[.int .i64 0, .int .i64 0, .int .i64 0, .int .i64 0]) ?_ 2 _ rfl; (with_reducible repeat (first | refine blk_drewN ?_ _ | refine blk_drew ?_ | refine blk_alloc ?_ _)); refine blk_put (cs := #[.int .i64 0, .int .i64 0, .int .i64 0, .int .i64 0]) ?_ 1 _ rfl; (with_reducible repeat (first | refine blk_drewN ?_ _ | refine blk_drew ?_ | refine blk_alloc ?_ _)); refine blk_put (cs := #[.int .i64 0, .int .i64 0, .int .i64 0, .int .i64 0]) ?_ 0 _ rfl; (with_reducible repeat (first | refine blk_drewN ?_ _ | refine blk_drew ?_ | refine blk_alloc ?_ _)); exact BK1.out) Tryd.underlying37 rfl (by kernel_rfl)) rfl ?_
  exact ⟨rr_, bw_⟩
 rw [if_neg c2] at H
 have c2b0 : decide (60 < (a0.size : Int)) = false := decide_eq_false c2
 have c2b1 : decide (60 < a0.size) = false := decide_eq_false (by omega)
 clear c2
 replace H := Option.bind_eq_some_iff.mp H
 obtain ⟨t2, A50, H⟩ := H
 replace H : (if 1 ≤ (t2.length : Int) then ((some (t2.drop 1 : List ByteArray)).bind fun y8 => (impl_ParseInstr.l0 k a0 t2 (([] : List Int)) y8 (y8.length : Int) 0)) else (none)) = some (r1, r2, r3, r4, r5) := H
 have A5 := Aside0.mk A50
 clear A50
 obtain ⟨y5, hy5⟩ : ∃ y_ : List Int, y_ = (([] : List Int)) := ⟨_, rfl⟩
 replace H : (if 1 ≤ (t2.length : Int) then ((some (t2.drop 1 : List ByteArray)).bind fun y8 => (impl_ParseInstr.l0 k a0 t2 y5 y8 (y8.length : Int) 0)) else (none)) = some (r1, r2, r3, r4, r5) := by first | (rw [hy5]; with_reducible exact H) | (have H2_ := (Option.bind_some _ _).symm.trans H; rw [hy5]; with_reducible exact H2_) | (have H2_ := (Option.bind_some _ _).symm.trans H; with_reducible exact H2_) | with_reducible exact H | (rw [hy5]; exact H) | exact H
 have Ny5 := Aside0.mk hy5
 clear hy5
 by_cases c6 : 1 ≤ (t2.length : Int)
 rotate_left
 ·rw [if_neg c6] at H
  exact absurd H (by simp)
 rw [if_pos c6] at H
 have c6b0 := eq_true c6
 have c6b1 : decide (1 ≤ (t2.length : Int)) = true := decide_eq_true c6
 clear c6
 obtain ⟨y8, hy8⟩ : ∃ y_ : List ByteArray, y_ = (t2.drop 1) := ⟨_, rfl⟩
 replace H : (impl_ParseInstr.l0 k a0 t2 y5 y8 (y8.length : Int) 0) = some (r1, r2, r3, r4, r5) := by first | (rw [hy8]; with_reducible exact H) | (have H2_ := (Option.bind_some _ _).symm.trans H; rw [hy8]; with_reducible exact H2_) | (have H2_ := (Option.bind_some _ _).symm.trans H; with_reducible exact H2_) | with_reducible exact H | (rw [hy8]; exact H) | exact H
 have Ny8 := Aside0.mk hy8
 clear hy8
 have H' := Aside0.mk H
 clear H
 go_enter Tryd.func23, Tryd.ntmps23
 go_wp2_with (first | ((with_reducible refine gate_dst (N := 2) rfl ?_); refine box_event ?hg (N := 2) ?hd (cs := #[.int .i64 0, .int .i64 0, .int .i64 0, .int .i64 0]) (t := 37) ?hr ?_; (case hd => rfl); (case hg => rfl); (case hr => exact hrr_); intro gb1 hg w7 hbox hb; have n0_ := bs_ hb; have n1_ := Aside0.mk (hbox); have n2_ := ge_ (w := w) hg; have n3_ := ge_ (w := w) hg; clear HB; have HB := n0_; have BK1 := n1_; have GW1 := n2_; have GE1 := n3_; clear n0_ n1_ n2_ n3_; clear hb hbox hg) | ((with_reducible refine gate_callee (f := 44) rfl ?_); refine goesL_ (some 16) rfl rfl Tryd.func44 (by kernel_rfl) rfl #[.string a0, .string (⟨#[32]⟩ : ByteArray)] rfl ar_ ?_; (with_reducible refine (strings_Split.calls (hE_ := ee_) a0 (⟨#[32]⟩ : ByteArray) t2 _ A5.out).mono ?_); rintro e w8 ⟨v3, rfl, ho0, hb⟩; refine ⟨_, rfl, ?_⟩; have n0_ := Aside0.mk (Kd.R_lower ho0 (below_size bw_)); have n1_ := bb_ BK1.out hb; have n2_ := bs_ hb; clear BK1; clear HB; have HO4 := n0_; have BK1 := n1_; have HB := n2_; clear n0_ n1_ n2_; (try clear hb); (try clear hb2); (try clear hk); (try clear hi); (try clear ho0)) | ((with_reducible refine gate_dst (N := 17) rfl ?_); refine Kd.R_lit (Kd.int .i64) _ 3 ?hg (N := 17) ?hd (xs := ([] : List Int)) (inner := []) (ok := fun _ => True) (okp := fun _ => True) ?hr ?hp (fun _ hk => hk) trivial (Below.refl _ _) (Nat.le_refl _) (by simp) ?_; (case hd => rfl); (case hg => rfl); (case hr => first | (go_simp; done) | (go_simp; rfl)); (case hp => exact (Reps.none _ _)); intro v6 w9 ho10 hb hg_ hnew_; clear hg_ hnew_; (first | rw [← Ny5.out] at ho10 | (simp only [Int.reduceToNat] at ho10; rw [← Ny5.out] at ho10)); have n0_ := Aside0.mk (Kd.R_below (rx_ HO4.out) hb); have n1_ := Aside0.mk (Kd.R_lower ho10 (below_size bw_)); have n2_ := bb_ BK1.out hb; have n3_ := bs_ hb; clear HO4; clear BK1; clear HB; have HO4 := n0_; have HO7 := n1_; have BK1 := n2_; have HB := n3_; clear n0_ n1_ n2_ n3_; clear hb ho10; obtain ⟨Ao12, co12, eo12⟩ := Kd.R_slice HO4.out; subst eo12; have q11 : (1 : Int) ≤ ((t2.length : Int) : Int) := od_; obtain ⟨i011, hi011, _, hsz11, _⟩ := info_parts info9; have hroom11 : t2.length ≤ co12 := (Kd.R_reads' HO4.out).2.1; have hC11 : Kd.C Kd.string _ Ao12 t2.length t2 := (Kd.R_reads' HO4.out).2.2; have hcut11 := cut_from (P := Tryd.prog) 46 9 .i64 Tryd.underlying46 hi011 1 hsz11 Ao12 t2.length co12 1 (by omega) q11; have hr11 := Kd.C_drop (m := (1 : Int).toNat) (c := co12) hC11 (by omega) hroom11; obtain ⟨A11, hA11⟩ : ∃ A1, A1 = (if co12 = (1 : Int).toNat then Ao12 else (Ao12 : Option Addr).map (·.add ((1 : Int).toNat * 1))) := ⟨_, rfl⟩; obtain ⟨c11, hc11⟩ : ∃ c1, c1 = co12 - (1 : Int).toNat := ⟨_, rfl⟩; have hy11 : y8.length = t2.length - (1 : Int).toNat := (by rw [Ny8.out, List.length_drop] <;> omega); rw [show (t2).drop (1 : Int).toNat = y8 from Ny8.out.symm] at hr11; replace hr11 : Kd.C Kd.string _ A11 y8.length y8 := (by rw [hA11]; exact hr11); rw [← hy11, ← hA11, ← hc11] at hcut11; have HR11 := Aside0.mk hr11; have HC11 := Aside0.mk (show y8.length ≤ c11 from by rw [hy11, hc11]; exact Nat.sub_le_sub_right hroom11 _); clear hr11 hC11 hroom11 hi011 hsz11 hc11; have KY11 := Aside0.mk hy11; have KA11 := Aside0.mk hA11; clear hy11 hA11; have KL11 := Aside0.mk (show 1 ≤ t2.length from by omega); replace q11 := eq_true q11))
 go_loopg [5, 21] k (fun kq v5 v21 w' => ∃ (x5_1 : List Int) (x21_1 : Int) (x2000_1 : Int) (x2001_1 : Int) (x2002_1 : Int) (x2003_1 : Int), v21 = .int .i64 x21_1 ∧ Aside0 (impl_ParseInstr.l0 kq a0 t2 x5_1 y8 (y8.length : Int) x21_1 = some (r1, r2, r3, r4, r5)) ∧ Aside0 (kq ≤ k) ∧ Aside0 (Kd.R Kd.string 9 w' w.heap.size (fun _ => True) (.slice Ao12 t2.length co12) t2) ∧ Aside0 (Kd.R (Kd.int .i64) 3 w' w.heap.size (fun _ => True) v5 x5_1) ∧ Aside0 (w'.heap[gb1]? = some (.cells #[.int .i64 x2000_1, .int .i64 x2001_1, .int .i64 x2002_1, .int .i64 x2003_1] 37 (0, 0))) ∧ Aside0 (Below w.heap.size w w'))
 case atStart => exact ⟨(y5), (0), (0), (0), (0), (0), sd_, H', ⟨Nat.le_refl _⟩, ⟨by (with_reducible repeat (first | apply Kd.R_alloc | apply Kd.R_drewN | apply Kd.R_drew)); exact HO4.out⟩, ⟨by (with_reducible repeat (first | apply Kd.R_alloc | apply Kd.R_drewN | apply Kd.R_drew)); exact HO7.out⟩, ⟨bk_⟩, ⟨bw_⟩⟩
 case round =>
  clear H'
  try clear c1
  try clear q1
  try clear c2
  try clear c2b0
  try clear c2b1
  try clear p2
  try clear c4
  try clear c6
  try clear c6b0
  try clear c6b1
  try clear c11
  try clear q11
  try clear hcz4_0 hcz4_1 hcz4_2 hcz4_3
  try clear hfz4_0 hfz4_1 hfz4_2 hfz4_3
  try clear q11
  obtain ⟨x5_1, x21_1, x2000_1, x2001_1, x2002_1, x2003_1, rfl, HA, HK1, HO_4, HO_5, BK1, HB⟩ := hrel
  cases gk with
  | zero => exact absurd HA.out (by simp [impl_ParseInstr.l0])
  | succ k1 =>
   have H := HA.out
   clear HA
   simp only [impl_ParseInstr.l0] at H
   by_cases c13 : x21_1 < (y8.length : Int)
   ·rw [if_pos c13] at H
    have c13b0 : decide (x21_1 < (y8.length : Int)) = true := decide_eq_true c13
    clear c13
    by_cases c14 : 0 ≤ x21_1
    rotate_left
    ·rw [if_neg c14] at H
     exact absurd H (by simp)
    rw [if_pos c14] at H
    have c14b0 : decide (0 ≤ x21_1) = true := decide_eq_true c14
    clear c14
    by_cases c15 : x21_1 < (y8.length : Int)
    rotate_left
    ·rw [if_neg c15] at H
     exact absurd H (by simp)
    rw [if_pos c15] at H
    have c15b0 : decide (x21_1 < (y8.length : Int)) = true := decide_eq_true c15
    clear c15
    replace H := Option.bind_eq_some_iff.mp H
    obtain ⟨⟨t13, t14⟩, A160, H⟩ := H
    replace H : (if t14 = true then (some (0, 0, 0, 0, false)) else ((impl_within.f t13 (-1000000) 1000000).bind fun t15 => (if t15 = true then (if x5_1.length < 17592186044416 then (impl_ParseInstr.l0 k1 a0 t2 (x5_1 ++ [t13]) y8 (y8.length : Int) (wrap64 (x21_1 + 1))) else (none)) else (some (0, 0, 0, 0, false))))) = some (r1, r2, r3, r4, r5) := H
    have A16 := Aside0.mk A160
    clear A160
    by_cases c17 : t14 = true
    ·subst c17
     have H1 : (some (0, 0, 0, 0, false)) = some (r1, r2, r3, r4, r5) := by rw [if_pos rfl] at H; exact H
     clear H
     have H := H1
     clear H1
     simp only [Option.some.injEq, Prod.mk.injEq] at H
     obtain ⟨rfl, rfl, rfl, rfl, rfl⟩ := H
     have p12 : 0 ≤ (x21_1 : Int) := od_
     have q12 : x21_1 < (y8.length : Int) := od_
     have hz11 := Kd.C_drop (m := (1 : Int).toNat) (c := co12) (Kd.R_reads' HO_4.out).2.2 (by have := KL11.out; omega) (Kd.R_reads' HO_4.out).2.1
     rw [show (t2).drop (1 : Int).toNat = y8 from Ny8.out.symm] at hz11
     replace hz11 : Kd.C Kd.string _ A11 y8.length y8 := (by rw [KA11.out]; exact hz11)
     obtain ⟨ad12, e12, hx12_0⟩ := Kd.at_string hz11 x21_1 p12 q12
     cases e12
     replace p12 := eq_true p12
     replace q12 := eq_true q12
     go_wp2_with (first | ((with_reducible refine gate_callee (f := 45) rfl ?_); refine goesL_ (some 27) rfl rfl Tryd.func45 (by kernel_rfl) rfl #[.string (rdOf ByteArray.empty y8 x21_1)] rfl ar_ ?_; (with_reducible refine (strconv_Atoi.calls (hE_ := ee_) (rdOf ByteArray.empty y8 x21_1) t13 true _ A16.out).mono ?_); rintro e w18 ⟨ev_, rfl, hq_, hgd_, hb⟩; refine ⟨_, rfl, ?_⟩; have n0_ := Aside0.mk (Kd.R_below (rx_ HO_4.out) hb); have n1_ := Aside0.mk (Kd.R_below (rx_ HO_5.out) hb); have n2_ := bb_ BK1.out hb; have n3_ := bs_ hb; clear HO_4; clear HO_5; clear BK1; clear HB; have HO_4 := n0_; have HO_5 := n1_; have BK1 := n2_; have HB := n3_; clear n0_ n1_ n2_ n3_; (try clear hb); (try clear hb2); (try clear hk); (try clear hi); obtain ⟨hcz19_0, hcz19_1, hcz19_2, hcz19_3, hfz19_0, hfz19_1, hfz19_2, hfz19_3⟩ := bc4_ BK1.out))
     refine bodyPost_ret (results_ct rfl _ _ gb1 37 #[.int .i64 0, .int .i64 0, .int .i64 0, .int .i64 0] (0, 0) _ rfl (by (with_reducible repeat (first | refine blk_drewN ?_ _ | refine blk_drew ?_ | refine blk_alloc ?_ _)); refine blk_put (cs := #[.int .i64 0, .int .i64 0, .int .i64 0, .int .i64 x2003_1]) ?_ 3 _ rfl; (with_reducible repeat (first | refine blk_drewN ?_ _ | refine blk_drew ?_ | refine blk_alloc ?_ _)); refine blk_put (cs := #[.int .i64 0, .int .i64 0, .int .i64 x2002_1, .int .i64 x2003_1]) ?_ 2 _ rfl; (with_reducible repeat (first | refine blk_drewN ?_ _ | refine blk_drew ?_ | refine blk_alloc ?_ _)); refine blk_put (cs := #[.int .i64 0, .int .i64 x2001_1, .int .i64 x2002_1, .int .i64 x2003_1]) ?_ 1 _ rfl; (with_reducible repeat (first | refine blk_drewN ?_ _ | refine blk_drew ?_ | refine blk_alloc ?_ _)); refine blk_put (cs := #[.int .i64 x2000_1, .int .i64 x2001_1, .int .i64 x2002_1, .int .i64 x2003_1]) ?_ 0 _ rfl; (with_reducible repeat (first | refine blk_drewN ?_ _ | refine blk_drew ?_ | refine blk_alloc ?_ _)); exact BK1.out) Tryd.underlying37 rfl (by kernel_rfl)) rfl ?_
     exact ⟨rr_, bw_⟩
    replace c17 := Bool.eq_false_iff.mpr c17
    subst c17
    have H1 : ((impl_within.f t13 (-1000000) 1000000).bind fun t15 => (if t15 = true then (if x5_1.length < 17592186044416 then (impl_ParseInstr.l0 k1 a0 t2 (x5_1 ++ [t13]) y8 (y8.length : Int) (wrap64 (x21_1 + 1))) else (none)) else (some (0, 0, 0, 0, false)))) = some (r1, r2, r3, r4, r5) := by rw [if_neg (show ¬ (false = true) by decide)] at H; exact H
    clear H
    have H := H1
    clear H1
    replace H := Option.bind_eq_some_iff.mp H
    obtain ⟨t15, A200, H⟩ := H
    replace H : (if t15 = true then (if x5_1.length < 17592186044416 then (impl_ParseInstr.l0 k1 a0 t2 (x5_1 ++ [t13]) y8 (y8.length : Int) (wrap64 (x21_1 + 1))) else (none)) else (some (0, 0, 0, 0, false))) = some (r1, r2, r3, r4, r5) := H
    have A20 := Aside0.mk A200
    clear A200
    by_cases c21 : t15 = true
    rotate_left
    ·replace c21 := Bool.eq_false_iff.mpr c21
     subst c21
     have H1 : (some (0, 0, 0, 0, false)) = some (r1, r2, r3, r4, r5) := by rw [if_neg (show ¬ (false = true) by decide)] at H; exact H
     clear H
     have H := H1
     clear H1
     simp only [Option.some.injEq, Prod.mk.injEq] at H
     obtain ⟨rfl, rfl, rfl, rfl, rfl⟩ := H
     have p12 : 0 ≤ (x21_1 : Int) := od_
     have q12 : x21_1 < (y8.length : Int) := od_
     have hz11 := Kd.C_drop (m := (1 : Int).toNat) (c := co12) (Kd.R_reads' HO_4.out).2.2 (by have := KL11.out; omega) (Kd.R_reads' HO_4.out).2.1
     rw [show (t2).drop (1 : Int).toNat = y8 from Ny8.out.symm] at hz11
     replace hz11 : Kd.C Kd.string _ A11 y8.length y8 := (by rw [KA11.out]; exact hz11)
     obtain ⟨ad12, e12, hx12_0⟩ := Kd.at_string hz11 x21_1 p12 q12
     cases e12
     replace p12 := eq_true p12
     replace q12 := eq_true q12
     go_wp2_with (first | ((with_reducible refine gate_callee (f := 45) rfl ?_); refine goesL_ (some 27) rfl rfl Tryd.func45 (by kernel_rfl) rfl #[.string (rdOf ByteArray.empty y8 x21_1)] rfl ar_ ?_; (with_reducible refine (strconv_Atoi.calls (hE_ := ee_) (rdOf ByteArray.empty y8 x21_1) t13 false _ A16.out).mono ?_); rintro e w25 ⟨ev_, rfl, hq_, hgd_, hb⟩; refine ⟨_, rfl, ?_⟩; have n0_ := Aside0.mk (Kd.R_below (rx_ HO_4.out) hb); have n1_ := Aside0.mk (Kd.R_below (rx_ HO_5.out) hb); have n2_ := bb_ BK1.out hb; have n3_ := bs_ hb; clear HO_4; clear HO_5; clear BK1; clear HB; have HO_4 := n0_; have HO_5 := n1_; have BK1 := n2_; have HB := n3_; clear n0_ n1_ n2_ n3_; (try clear hb); (try clear hb2); (try clear hk); (try clear hi)) | (go_at_call 33; (with_reducible refine (impl_within.calls t13 (-1000000) 1000000 false _ A20.out).mono ?_); rintro e w' ⟨rfl, ⟨nd, rfl⟩⟩; (try (rw [drewN_self w25]; generalize hq_ : World.drewN w25 _ = w25; have n0_ : Aside0 (Kd.R Kd.string 9 w25 w.heap.size (fun _ => True) (.slice Ao12 t2.length co12) t2) := ⟨by rw [← hq_]; exact (rx_ HO_4.out)⟩; have n1_ : Aside0 (Kd.R (Kd.int .i64) 3 w25 w.heap.size (fun _ => True) u5 x5_1) := ⟨by rw [← hq_]; exact (rx_ HO_5.out)⟩; have n2_ : Aside0 (w25.heap[gb1]? = some (.cells #[.int .i64 x2000_1, .int .i64 x2001_1, .int .i64 x2002_1, .int .i64 x2003_1] 37 (0, 0))) := ⟨by rw [← hq_]; exact bk_⟩; have n3_ : Aside0 (Below w.heap.size w w25) := ⟨by rw [← hq_]; exact bw_⟩; clear HO_4 HO_5 BK1 HB hq_; have HO_4 := n0_; have HO_5 := n1_; have BK1 := n2_; have HB := n3_; clear n0_ n1_ n2_ n3_)); obtain ⟨hcz26_0, hcz26_1, hcz26_2, hcz26_3, hfz26_0, hfz26_1, hfz26_2, hfz26_3⟩ := bc4_ BK1.out))
     refine bodyPost_ret (results_ct rfl _ _ gb1 37 #[.int .i64 0, .int .i64 0, .int .i64 0, .int .i64 0] (0, 0) _ rfl (by (with_reducible repeat (first | refine blk_drewN ?_ _ | refine blk_drew ?_ | refine blk_alloc ?_ _)); refine blk_put (cs := #[.int .i64 0, .int .i64 0, .int .i64 0, .int .i64 x2003_1]) ?_ 3 _ rfl; (with_reducible repeat (first | refine blk_drewN ?_ _ | refine blk_drew ?_ | refine blk_alloc ?_ _)); refine blk_put (cs := #[.int .i64 0, .int .i64 0, .int .i64 x2002_1, .int .i64 x2003_1]) ?_ 2 _ rfl; (with_reducible repeat (first | refine blk_drewN ?_ _ | refine blk_drew ?_ | refine blk_alloc ?_ _)); refine blk_put (cs := #[.int .i64 0, .int .i64 x2001_1, .int .i64 x2002_1, .int .i64 x2003_1]) ?_ 1 _ rfl; (with_reducible repeat (first | refine blk_drewN ?_ _ | refine blk_drew ?_ | refine blk_alloc ?_ _)); refine blk_put (cs := #[.int .i64 x2000_1, .int .i64 x2001_1, .int .i64 x2002_1, .int .i64 x2003_1]) ?_ 0 _ rfl; (with_reducible repeat (first | refine blk_drewN ?_ _ | refine blk_drew ?_ | refine blk_alloc ?_ _)); exact BK1.out) Tryd.underlying37 rfl (by kernel_rfl)) rfl ?_
     exact ⟨rr_, bw_⟩
    subst c21
    have H1 : (if x5_1.length < 17592186044416 then (impl_ParseInstr.l0 k1 a0 t2 (x5_1 ++ [t13]) y8 (y8.length : Int) (wrap64 (x21_1 + 1))) else (none)) = some (r1, r2, r3, r4, r5) := by rw [if_pos rfl] at H; exact H
    clear H
    have H := H1
    clear H1
    by_cases c22 : x5_1.length < 17592186044416
    rotate_left
    ·rw [if_neg c22] at H
     exact absurd H (by simp)
    rw [if_pos c22] at H
    have LMc22 := Aside0.mk c22
    clear c22
    obtain ⟨y16, hy16⟩ : ∃ y_ : List Int, y_ = (x5_1 ++ [t13]) := ⟨_, rfl⟩
    replace H : (impl_ParseInstr.l0 k1 a0 t2 y16 y8 (y8.length : Int) (wrap64 (x21_1 + 1))) = some (r1, r2, r3, r4, r5) := by first | (rw [hy16]; with_reducible exact H) | (have H2_ := (Option.bind_some _ _).symm.trans H; rw [hy16]; with_reducible exact H2_) | (have H2_ := (Option.bind_some _ _).symm.trans H; with_reducible exact H2_) | with_reducible exact H | (rw [hy16]; exact H) | exact H
    have Ny16 := Aside0.mk hy16
    clear hy16
    have H' := Aside0.mk H
    clear H
    have p12 : 0 ≤ (x21_1 : Int) := od_
    have q12 : x21_1 < (y8.length : Int) := od_
    have hz11 := Kd.C_drop (m := (1 : Int).toNat) (c := co12) (Kd.R_reads' HO_4.out).2.2 (by have := KL11.out; omega) (Kd.R_reads' HO_4.out).2.1
    rw [show (t2).drop (1 : Int).toNat = y8 from Ny8.out.symm] at hz11
    replace hz11 : Kd.C Kd.string _ A11 y8.length y8 := (by rw [KA11.out]; exact hz11)
    obtain ⟨ad12, e12, hx12_0⟩ := Kd.at_string hz11 x21_1 p12 q12
    cases e12
    replace p12 := eq_true p12
    replace q12 := eq_true q12
    go_wp2_with (first | ((with_reducible refine gate_callee (f := 45) rfl ?_); refine goesL_ (some 27) rfl rfl Tryd.func45 (by kernel_rfl) rfl #[.string (rdOf ByteArray.empty y8 x21_1)] rfl ar_ ?_; (with_reducible refine (strconv_Atoi.calls (hE_ := ee_) (rdOf ByteArray.empty y8 x21_1) t13 false _ A16.out).mono ?_); rintro e w23 ⟨ev_, rfl, hq_, hgd_, hb⟩; refine ⟨_, rfl, ?_⟩; have n0_ := Aside0.mk (Kd.R_below (rx_ HO_4.out) hb); have n1_ := Aside0.mk (Kd.R_below (rx_ HO_5.out) hb); have n2_ := bb_ BK1.out hb; have n3_ := bs_ hb; clear HO_4; clear HO_5; clear BK1; clear HB; have HO_4 := n0_; have HO_5 := n1_; have BK1 := n2_; have HB := n3_; clear n0_ n1_ n2_ n3_; (try clear hb); (try clear hb2); (try clear hk); (try clear hi)) | (go_at_call 33; (with_reducible refine (impl_within.calls t13 (-1000000) 1000000 true _ A20.out).mono ?_); rintro e w' ⟨rfl, ⟨nd, rfl⟩⟩) | ((with_reducible refine gate_builtin (b := .append) (xs := #[.tmp 38, .tmp 40]) rfl ?_); at_builtin; refine Kd.R_append (Kd.int .i64) (w0 := w) w.heap.size rfl (.tmp 38) (.tmp 40) 53 3 (.int .i64 0) 8 rfl Tryd.underlying53 info3 rfl (by decide) (by omega) u5 x5_1 t13 [.int .i64 t13] (fun _ => True) (fun _ => False) rfl rfl ?aP (fun _ hk => hk.elim) ?aF ?aO ?aB ?aS ?aL ?_; (case aP => exact rfl); (case aB => exact bw_); (case aF => exact (fun _ _ => trivial)); (case aO => exact (rx_ HO_5.out)); (case aS => exact (below_size bw_)); (case aL => have := LMc22.out; omega); intro v17 w24 ho hb hg hat; rw [← Ny16.out] at ho; have n0_ := Aside0.mk (Kd.R_over' (rx_ HO_4.out) (Kd.R_typed (rx_ HO_5.out)) (by decide) hg); have n1_ := Aside0.mk (blk_grown (g := gb1) (o := .cells #[.int .i64 x2000_1, .int .i64 x2001_1, .int .i64 x2002_1, .int .i64 x2003_1] 37 (0, 0)) bk_ hg (Kd.R_ne HO_5.out BK1.out (by decide))); have n2_ := Aside0.mk (hb); have n3_ := Aside0.mk (ho); clear HO_4; clear BK1; clear HB; clear HO_5; have HO_4 := n0_; have BK1 := n1_; have HB := n2_; have HO18 := n3_; clear n0_ n1_ n2_ n3_; clear ho hb hg hat))
    go_roundg k1
    case measure => have := HK1.out; omega
    case rel => exact ⟨(y16), (wrap64 (x21_1 + 1)), (x2000_1), (x2001_1), (x2002_1), (x2003_1), sd_, H', ⟨by have := HK1.out; omega⟩, ⟨by (with_reducible repeat (first | apply Kd.R_alloc | apply Kd.R_drewN | apply Kd.R_drew)); exact HO_4.out⟩, ⟨by (with_reducible repeat (first | apply Kd.R_alloc | apply Kd.R_drewN | apply Kd.R_drew)); exact HO18.out⟩, ⟨bk_⟩, ⟨bw_⟩⟩
   rw [if_neg c13] at H
   have c13b0 : decide (x21_1 < (y8.length : Int)) = false := decide_eq_false c13
   clear c13
   replace H := Option.bind_eq_some_iff.mp H
   obtain ⟨t19, A270, H⟩ := H
   replace H : (if 0 < (t2.length : Int) then ((slices_Index_string_string.f t19 (rdOf ByteArray.empty t2 0)).bind fun t23 => ((some (([0, 0, 0] : List Int) : List Int)).bind fun y25 => (if x5_1.length + y25.length < 17592186044416 then ((some (x5_1 ++ y25 : List Int)).bind fun y28 => ((impl_Instr_usesR.f t23 0 0 0).bind fun t31 => (if t31 = true then (if 0 < (y28.length : Int) then (if 1 ≤ (y28.length : Int) then (impl_ParseInstr.j1 k1 a0 (y28.drop (1 : Int).toNat) t23 (rd y28 0) 0 0) else (none)) else (none)) else (impl_ParseInstr.j1 k1 a0 y28 t23 0 0 0)))) else (none)))) else (none)) = some (r1, r2, r3, r4, r5) := H
   have A27 := Aside0.mk A270
   clear A270
   by_cases c28 : 0 < (t2.length : Int)
   rotate_left
   ·rw [if_neg c28] at H
    exact absurd H (by simp)
   rw [if_pos c28] at H
   have c28b0 : decide (0 < (t2.length : Int)) = true := decide_eq_true c28
   have c28b1 : decide (0 < t2.length) = true := decide_eq_true (by omega)
   clear c28
   replace H := Option.bind_eq_some_iff.mp H
   obtain ⟨t23, A290, H⟩ := H
   replace H : ((some (([0, 0, 0] : List Int) : List Int)).bind fun y25 => (if x5_1.length + y25.length < 17592186044416 then ((some (x5_1 ++ y25 : List Int)).bind fun y28 => ((impl_Instr_usesR.f t23 0 0 0).bind fun t31 => (if t31 = true then (if 0 < (y28.length : Int) then (if 1 ≤ (y28.length : Int) then (impl_ParseInstr.j1 k1 a0 (y28.drop (1 : Int).toNat) t23 (rd y28 0) 0 0) else (none)) else (none)) else (impl_ParseInstr.j1 k1 a0 y28 t23 0 0 0)))) else (none))) = some (r1, r2, r3, r4, r5) := H
   have A29 := Aside0.mk A290
   clear A290
   obtain ⟨y25, hy25⟩ : ∃ y_ : List Int, y_ = (([0, 0, 0] : List Int)) := ⟨_, rfl⟩
   replace H : (if x5_1.length + y25.length < 17592186044416 then ((some (x5_1 ++ y25 : List Int)).bind fun y28 => ((impl_Instr_usesR.f t23 0 0 0).bind fun t31 => (if t31 = true then (if 0 < (y28.length : Int) then (if 1 ≤ (y28.length : Int) then (impl_ParseInstr.j1 k1 a0 (y28.drop (1 : Int).toNat) t23 (rd y28 0) 0 0) else (none)) else (none)) else (impl_ParseInstr.j1 k1 a0 y28 t23 0 0 0)))) else (none)) = some (r1, r2, r3, r4, r5) := by first | (rw [hy25]; with_reducible exact H) | (have H2_ := (Option.bind_some _ _).symm.trans H; rw [hy25]; with_reducible exact H2_) | (have H2_ := (Option.bind_some _ _).symm.trans H; with_reducible exact H2_) | with_reducible exact H | (rw [hy25]; exact H) | exact H
   have Ny25 := Aside0.mk hy25
   clear hy25
   by_cases c30 : x5_1.length + y25.length < 17592186044416
   rotate_left
   ·rw [if_neg c30] at H
    exact absurd H (by simp)
   rw [if_pos c30] at H
   have LMc30 := Aside0.mk c30
   clear c30
   obtain ⟨y28, hy28⟩ : ∃ y_ : List Int, y_ = (x5_1 ++ y25) := ⟨_, rfl⟩
   replace H : ((impl_Instr_usesR.f t23 0 0 0).bind fun t31 => (if t31 = true then (if 0 < (y28.length : Int) then (if 1 ≤ (y28.length : Int) then (impl_ParseInstr.j1 k1 a0 (y28.drop (1 : Int).toNat) t23 (rd y28 0) 0 0) else (none)) else (none)) else (impl_ParseInstr.j1 k1 a0 y28 t23 0 0 0))) = some (r1, r2, r3, r4, r5) := by first | (rw [hy28]; with_reducible exact H) | (have H2_ := (Option.bind_some _ _).symm.trans H; rw [hy28]; with_reducible exact H2_) | (have H2_ := (Option.bind_some _ _).symm.trans H; with_reducible exact H2_) | with_reducible exact H | (rw [hy28]; exact H) | exact H
   have Ny28 := Aside0.mk hy28
   clear hy28
   replace H := Option.bind_eq_some_iff.mp H
   obtain ⟨t31, A310, H⟩ := H
   replace H : (if t31 = true then (if 0 < (y28.length : Int) then (if 1 ≤ (y28.length : Int) then (impl_ParseInstr.j1 k1 a0 (y28.drop (1 : Int).toNat) t23 (rd y28 0) 0 0) else (none)) else (none)) else (impl_ParseInstr.j1 k1 a0 y28 t23 0 0 0)) = some (r1, r2, r3, r4, r5) := H
   have A31 := Aside0.mk A310
   clear A310
   have HC32 := Aside0.mk H
   clear H
   try go_wp2
   have n0_ := Aside0.mk (Kd.R_drew HO_4.out)
   have n1_ := Aside0.mk (Kd.R_drew HO_5.out)
   have n2_ := Aside0.mk (blk_drew BK1.out)
   have n3_ := Aside0.mk (below_drew1 HB.out)
   clear HO_4
   clear HO_5
   clear BK1
   clear HB
   have HO_4 := n0_
   have HO_5 := n1_
   have BK1 := n2_
   have HB := n3_
   clear n0_ n1_ n2_ n3_
   have p22 : 0 ≤ (0 : Int) := (by omega)
   have q22 : 0 < (t2.length : Int) := od_
   obtain ⟨ad22, e22, hx22_0⟩ := Kd.at_string (Kd.R_reads' HO_4.out).2.2 0 p22 q22
   cases e22
   have qi22 : (0 < t2.length) = True := eq_true (by omega)
   (try rw [show ((0 : Int)).toNat = 0 from rfl] at hx22_0)
   (try rw [Addr.add_zero'] at hx22_0)
   replace p22 := eq_true p22
   replace q22 := eq_true q22
   refine start_ (n := 8) (S := fun w' => w'.cell? ad22 = some (.string (rdOf ByteArray.empty t2 0))) (ds := []) #[false, false, false, false, false, false, false, false] (by kernel_rfl) rfl rfl (hx22_0) (fun hHeld => ?_); refine with_tabW impl_ParseInstr.tab12 impl_ParseInstr.bits12 (fun HT_ HW_ => ?_)
   generalize wr.drew = w33 at HO_4 HO_5 BK1 HB hx22_0 hHeld ⊢
   refine pure_ (i := 1) (N := some 44) (bm_ 8 2) rfl rfl (any_of HT_.out kr_) (fun _ _ _ h => h) (Or.inl ⟨rfl, yi_⟩) pu_ ?_
   refine pure_ (i := 2) (N := some 45) (bm_ 8 6) rfl rfl (any_of HT_.out kr_) (fun _ _ _ h => h) (Or.inl ⟨rfl, yi_⟩) pu_ ?_
   refine take_ (i := 3) (N := some 46) (v := ?_) (a' := ?_) (bm_ 8 14) rfl rfl (take_ofW HT_.out HW_.out (by kernel_rfl)) (fun _ _ _ h => h) (Or.inl ⟨by rfl, ?_⟩) hHeld ?_ ?_
   rotate_left
   ·intro w' s0
    go_simp
    with_reducible rfl
   rotate_left
   ·exact pu_
   refine join_ (σ := Value × Nat) 1 #[true, true, true, true, true, true, true, false] (fun s_ => [(43, s_.1), (47, .int .i64 t23), (10, .pointer (some ⟨s_.2, 0, none⟩)), (48, .agg #[.int .i64 t23, .int .i64 0, .int .i64 0, .int .i64 0])]) (fun s_ w' => (w'.cell? ad22 = some (.string (rdOf ByteArray.empty t2 0))) ∧ (Kd.R Kd.string 9 w' w.heap.size (fun k_ => some k_ ≠ (.slice (some ad22) t2.length co12 : Value).ownBlock) s_.1 t19) ∧ (Kd.R Kd.string 9 w' w.heap.size (fun k_ => some k_ ≠ (s_.1 : Value).ownBlock) (.slice (some ad22) t2.length co12) t2) ∧ (Kd.R (Kd.int .i64) 3 w' w.heap.size (fun _ => True) u5 x5_1) ∧ (w'.heap[gb1]? = some (.cells #[.int .i64 x2000_1, .int .i64 x2001_1, .int .i64 x2002_1, .int .i64 x2003_1] 37 (0, 0))) ∧ (w'.heap[s_.2]? = some (.cells #[.int .i64 0, .int .i64 0, .int .i64 0, .int .i64 0] 37 (0, 0))) ∧ (w.heap.size ≤ s_.2) ∧ (w.heap.size ≤ s_.2) ∧ (gb1 ≠ s_.2) ∧ (s_.2 ≠ gb1) ∧ (Below w.heap.size w w')) ?_ ?_
   rotate_left
   ·intro hCont
    refine two_ (i := 0) (j := 6) (Ni := some 43) (Nj := some 10) #[true, true, true, true, false, false, false, false] #[false, true, true, true, false, false, true, false] rfl rfl rfl rfl (two_of HT_.out (by kernel_rfl)) (by decide) (by decide) (fun K hK => ?_) (fun K hK => ?_)
    ·skip
     refine goes_ Tryd.func34 (by kernel_rfl) rfl #[] (by rfl) rfl rfl ar_ ?_
     with_reducible refine (impl_mnemonics.calls  t19 _ A27.out).mono ?_
     rintro e w34 ⟨v20, rfl, ho0, hb⟩
     have HS0_ := (hb.cell (World.block_lt_of_cell? _ _ (hHeld))).trans (hHeld)
     refine ⟨_, rfl, ?_⟩
     have n0_ := Aside0.mk (Kd.R_elder' (rx_ HO_4.out) (Kd.R_base ho0) hb)
     have n1_ := Aside0.mk (Kd.R_below (rx_ HO_5.out) hb)
     have n2_ := Aside0.mk (Kd.R_lower (Kd.R_new' ho0 (Kd.R_lt (rx_ HO_4.out))) (below_size bw_))
     have n3_ := bb_ BK1.out hb
     have n4_ := bs_ hb
     clear HO_4
     clear HO_5
     clear BK1
     clear HB
     have HO_4 := n0_
     have HO_5 := n1_
     have HO21 := n2_
     have BK1 := n3_
     have HB := n4_
     clear n0_ n1_ n2_ n3_ n4_
     (try clear hb)
     (try clear hb2)
     (try clear hk)
     (try clear hi)
     (try clear ho0)
     obtain ⟨Ao35, co35, eo35⟩ := Kd.R_slice HO21.out
     (first | subst eo35 | (injection eo35 with f1_ f2_ f3_; have f4_ := f1_.symm; have f5_ := f3_.symm; clear f1_ f2_ f3_; subst f4_; subst f5_))
     refine hK.out _ _ (HS0_) (fun hHeld => ?_)
     clear hK K
     refine norm_ (a' := ?_) ?_ ?_
     rotate_left
     ·show Act.put _ (some 43) _ = _
      simp only [Act.put, List.setIfInBounds_toArray, List.set_cons_zero, List.set_cons_succ, i64_w, i32_w]
      rfl
     refine two_ (i := 4) (j := 6) (Ni := some 47) (Nj := some 10) #[true, true, true, true, true, false, false, false] #[true, true, true, true, false, false, true, false] rfl rfl rfl rfl (two_of HT_.out (by kernel_rfl)) (by decide) (by decide) (fun K hK => ?_) (fun K hK => ?_)
     ·skip
      refine goes_ Tryd.func39 (by kernel_rfl) rfl #[.slice Ao35 t19.length co35, .string (rdOf ByteArray.empty t2 0)] (by rfl) rfl rfl ar_ ?_
      with_reducible refine (slices_Index_string_string.calls (hs_ := js_) _ _ t19 (rdOf ByteArray.empty t2 0) t23 _ ?side1 ?side2 A29.out).mono ?_
      (case side1 => repeat (first | exact (Kd.R_reads' HO21.out).2.2 | (with_reducible refine Kd.C_alloc ?_ _) | (with_reducible refine Kd.C_drewN ?_ _) | (with_reducible refine Kd.C_drew ?_)))
      (case side2 => exact (Kd.R_reads' HO21.out).2.1)
      rintro e w36 ⟨rfl, hb⟩
      have HS0_ := (hb.cell (World.block_lt_of_cell? _ _ (hHeld))).trans (hHeld)
      refine ⟨_, rfl, ?_⟩
      have n0_ := Aside0.mk (Kd.R_below (rx_ HO_4.out) hb)
      have n1_ := Aside0.mk (Kd.R_below (rx_ HO_5.out) hb)
      have n2_ := Aside0.mk (Kd.R_below (rx_ HO21.out) hb)
      have n3_ := bb_ BK1.out hb
      have n4_ := bs_ hb
      clear HO_4
      clear HO_5
      clear HO21
      clear BK1
      clear HB
      have HO_4 := n0_
      have HO_5 := n1_
      have HO21 := n2_
      have BK1 := n3_
      have HB := n4_
      clear n0_ n1_ n2_ n3_ n4_
      (try clear hb)
      (try clear hb2)
      (try clear hk)
      (try clear hi)
      refine hK.out _ _ (HS0_) (fun hHeld => ?_)
      clear hK K
      refine norm_ (a' := ?_) ?_ ?_
      rotate_left
      ·show Act.put _ (some 47) _ = _
       simp only [Act.put, List.setIfInBounds_toArray, List.set_cons_zero, List.set_cons_succ, i64_w, i32_w]
       rfl
      refine pure_ (i := 5) (N := some 48) (bm_ 8 63) rfl rfl (any_of HT_.out kr_) (fun _ _ _ h => h) (Or.inl ⟨rfl, yi_⟩) pu_ ?_
      refine one_ (i := 6) (N := some 10) (bm_ 8 127) rfl rfl (one_of HT_.out (by kernel_rfl)) (by decide) (fun K hK => ?_)
      refine box_step ?hg (N := 10) ?hd (cs := #[.int .i64 0, .int .i64 0, .int .i64 0, .int .i64 0]) (t := 37) ?hr ?_; (case hd => rfl); (case hg => rfl); (case hr => first | (go_simp; done) | (go_simp; rfl))
      intro gb24 hg w37 hbox hb
      have HS0_ := (hb.cell (World.block_lt_of_cell? _ _ (hHeld))).trans (hHeld)
      have n0_ := Aside0.mk (Kd.R_below (rx_ HO_4.out) hb)
      have n1_ := Aside0.mk (Kd.R_below (rx_ HO_5.out) hb)
      have n2_ := Aside0.mk (Kd.R_below (rx_ HO21.out) hb)
      have n3_ := bb_ BK1.out hb
      have n4_ := bs_ hb
      have n5_ := Aside0.mk (hbox)
      have n6_ := ge_ (w := w) hg
      have n7_ := ge_ (w := w) hg
      have n8_ := nl_ BK1.out hg
      have n9_ := nr_ BK1.out hg
      clear HO_4
      clear HO_5
      clear HO21
      clear BK1
      clear HB
      have HO_4 := n0_
      have HO_5 := n1_
      have HO21 := n2_
      have BK1 := n3_
      have HB := n4_
      have BK24 := n5_
      have GW24 := n6_
      have GE24 := n7_
      have NB1_24 := n8_
      have NB24_1 := n9_
      clear n0_ n1_ n2_ n3_ n4_ n5_ n6_ n7_ n8_ n9_
      clear hb hbox hg
      refine hK.out _ _ (HS0_) (fun hHeld => ?_)
      clear hK K
      refine norm_ (a' := ?_) ?_ ?_
      rotate_left
      ·show Act.put _ (some 10) _ = _
       simp only [Act.put, List.setIfInBounds_toArray, List.set_cons_zero, List.set_cons_succ, i64_w, i32_w]
       rfl
      exact norm_ (by simp only [putAll, Act.put, List.setIfInBounds_toArray, List.set_cons_zero, List.set_cons_succ]) (hCont (.slice Ao35 t19.length co35, gb24) _ ⟨hHeld, (by (with_reducible repeat (first | apply Kd.R_alloc | apply Kd.R_drewN | apply Kd.R_drew)); exact Kd.R_mono HO21.out (fun _ hk => hk.2)), (by (with_reducible repeat (first | apply Kd.R_alloc | apply Kd.R_drewN | apply Kd.R_drew)); exact Kd.R_mono HO_4.out (fun _ hk => hk.2)), (rx_ HO_5.out), bk_, bk_, GW24.out, GE24.out, NB1_24.out, NB24_1.out, bw_⟩)
     ·skip
      refine box_step ?hg (N := 10) ?hd (cs := #[.int .i64 0, .int .i64 0, .int .i64 0, .int .i64 0]) (t := 37) ?hr ?_; (case hd => rfl); (case hg => rfl); (case hr => first | (go_simp; done) | (go_simp; rfl))
      intro gb24 hg w35 hbox hb
      have HS0_ := (hb.cell (World.block_lt_of_cell? _ _ (hHeld))).trans (hHeld)
      have n0_ := Aside0.mk (Kd.R_below (rx_ HO_4.out) hb)
      have n1_ := Aside0.mk (Kd.R_below (rx_ HO_5.out) hb)
      have n2_ := Aside0.mk (Kd.R_below (rx_ HO21.out) hb)
      have n3_ := bb_ BK1.out hb
      have n4_ := bs_ hb
      have n5_ := Aside0.mk (hbox)
      have n6_ := ge_ (w := w) hg
      have n7_ := ge_ (w := w) hg
      have n8_ := nl_ BK1.out hg
      have n9_ := nr_ BK1.out hg
      clear HO_4
      clear HO_5
      clear HO21
      clear BK1
      clear HB
      have HO_4 := n0_
      have HO_5 := n1_
      have HO21 := n2_
      have BK1 := n3_
      have HB := n4_
      have BK24 := n5_
      have GW24 := n6_
      have GE24 := n7_
      have NB1_24 := n8_
      have NB24_1 := n9_
      clear n0_ n1_ n2_ n3_ n4_ n5_ n6_ n7_ n8_ n9_
      clear hb hbox hg
      obtain ⟨Ao36, co36, eo36⟩ := Kd.R_slice HO21.out
      (first | subst eo36 | (injection eo36 with f1_ f2_ f3_; have f4_ := f1_.symm; have f5_ := f3_.symm; clear f1_ f2_ f3_; subst f4_; subst f5_))
      refine hK.out _ _ (HS0_) (fun hHeld => ?_)
      clear hK K
      refine norm_ (a' := ?_) ?_ ?_
      rotate_left
      ·show Act.put _ (some 10) _ = _
       simp only [Act.put, List.setIfInBounds_toArray, List.set_cons_zero, List.set_cons_succ, i64_w, i32_w]
       rfl
      refine one_ (i := 4) (N := some 47) (bm_ 8 95) rfl rfl (one_of HT_.out (by kernel_rfl)) (by decide) (fun K hK => ?_)
      refine goes_ Tryd.func39 (by kernel_rfl) rfl #[.slice Ao36 t19.length co36, .string (rdOf ByteArray.empty t2 0)] (by rfl) rfl rfl ar_ ?_
      with_reducible refine (slices_Index_string_string.calls (hs_ := js_) _ _ t19 (rdOf ByteArray.empty t2 0) t23 _ ?side1 ?side2 A29.out).mono ?_
      (case side1 => repeat (first | exact (Kd.R_reads' HO21.out).2.2 | (with_reducible refine Kd.C_alloc ?_ _) | (with_reducible refine Kd.C_drewN ?_ _) | (with_reducible refine Kd.C_drew ?_)))
      (case side2 => exact (Kd.R_reads' HO21.out).2.1)
      rintro e w37 ⟨rfl, hb⟩
      have HS0_ := (hb.cell (World.block_lt_of_cell? _ _ (hHeld))).trans (hHeld)
      refine ⟨_, rfl, ?_⟩
      have n0_ := Aside0.mk (Kd.R_below (rx_ HO_4.out) hb)
      have n1_ := Aside0.mk (Kd.R_below (rx_ HO_5.out) hb)
      have n2_ := Aside0.mk (Kd.R_below (rx_ HO21.out) hb)
      have n3_ := bb_ BK1.out hb
      have n4_ := bb_ BK24.out hb
      have n5_ := bs_ hb
      clear HO_4
      clear HO_5
      clear HO21
      clear BK1
      clear BK24
      clear HB
      have HO_4 := n0_
      have HO_5 := n1_
      have HO21 := n2_
      have BK1 := n3_
      have BK24 := n4_
      have HB := n5_
      clear n0_ n1_ n2_ n3_ n4_ n5_
      (try clear hb)
      (try clear hb2)
      (try clear hk)
      (try clear hi)
      refine hK.out _ _ (HS0_) (fun hHeld => ?_)
      clear hK K
      refine norm_ (a' := ?_) ?_ ?_
      rotate_left
      ·show Act.put _ (some 47) _ = _
       simp only [Act.put, List.setIfInBounds_toArray, List.set_cons_zero, List.set_cons_succ, i64_w, i32_w]
       rfl
      refine pure_ (i := 5) (N := some 48) (bm_ 8 127) rfl rfl (any_of HT_.out kr_) (fun _ _ _ h => h) (Or.inl ⟨rfl, yi_⟩) pu_ ?_
      exact norm_ (by simp only [putAll, Act.put, List.setIfInBounds_toArray, List.set_cons_zero, List.set_cons_succ]) (hCont (.slice Ao36 t19.length co36, gb24) _ ⟨hHeld, (by (with_reducible repeat (first | apply Kd.R_alloc | apply Kd.R_drewN | apply Kd.R_drew)); exact Kd.R_mono HO21.out (fun _ hk => hk.2)), (by (with_reducible repeat (first | apply Kd.R_alloc | apply Kd.R_drewN | apply Kd.R_drew)); exact Kd.R_mono HO_4.out (fun _ hk => hk.2)), (rx_ HO_5.out), bk_, bk_, GW24.out, GE24.out, NB1_24.out, NB24_1.out, bw_⟩)
    ·skip
     refine box_step ?hg (N := 10) ?hd (cs := #[.int .i64 0, .int .i64 0, .int .i64 0, .int .i64 0]) (t := 37) ?hr ?_; (case hd => rfl); (case hg => rfl); (case hr => first | (go_simp; done) | (go_simp; rfl))
     intro gb24 hg w34 hbox hb
     have HS0_ := (hb.cell (World.block_lt_of_cell? _ _ (hHeld))).trans (hHeld)
     have n0_ := Aside0.mk (Kd.R_below (rx_ HO_4.out) hb)
     have n1_ := Aside0.mk (Kd.R_below (rx_ HO_5.out) hb)
     have n2_ := bb_ BK1.out hb
     have n3_ := bs_ hb
     have n4_ := Aside0.mk (hbox)
     have n5_ := ge_ (w := w) hg
     have n6_ := ge_ (w := w) hg
     have n7_ := nl_ BK1.out hg
     have n8_ := nr_ BK1.out hg
     clear HO_4
     clear HO_5
     clear BK1
     clear HB
     have HO_4 := n0_
     have HO_5 := n1_
     have BK1 := n2_
     have HB := n3_
     have BK24 := n4_
     have GW24 := n5_
     have GE24 := n6_
     have NB1_24 := n7_
     have NB24_1 := n8_
     clear n0_ n1_ n2_ n3_ n4_ n5_ n6_ n7_ n8_
     clear hb hbox hg
     refine hK.out _ _ (HS0_) (fun hHeld => ?_)
     clear hK K
     refine norm_ (a' := ?_) ?_ ?_
     rotate_left
     ·show Act.put _ (some 10) _ = _
      simp only [Act.put, List.setIfInBounds_toArray, List.set_cons_zero, List.set_cons_succ, i64_w, i32_w]
      rfl
     refine one_ (i := 0) (N := some 43) (bm_ 8 79) rfl rfl (one_of HT_.out (by kernel_rfl)) (by decide) (fun K hK => ?_)
     refine goes_ Tryd.func34 (by kernel_rfl) rfl #[] (by rfl) rfl rfl ar_ ?_
     with_reducible refine (impl_mnemonics.calls  t19 _ A27.out).mono ?_
     rintro e w35 ⟨v20, rfl, ho0, hb⟩
     have HS0_ := (hb.cell (World.block_lt_of_cell? _ _ (hHeld))).trans (hHeld)
     refine ⟨_, rfl, ?_⟩
     have n0_ := Aside0.mk (Kd.R_elder' (rx_ HO_4.out) (Kd.R_base ho0) hb)
     have n1_ := Aside0.mk (Kd.R_below (rx_ HO_5.out) hb)
     have n2_ := Aside0.mk (Kd.R_lower (Kd.R_new' ho0 (Kd.R_lt (rx_ HO_4.out))) (below_size bw_))
     have n3_ := bb_ BK1.out hb
     have n4_ := bb_ BK24.out hb
     have n5_ := bs_ hb
     clear HO_4
     clear HO_5
     clear BK1
     clear BK24
     clear HB
     have HO_4 := n0_
     have HO_5 := n1_
     have HO21 := n2_
     have BK1 := n3_
     have BK24 := n4_
     have HB := n5_
     clear n0_ n1_ n2_ n3_ n4_ n5_
     (try clear hb)
     (try clear hb2)
     (try clear hk)
     (try clear hi)
     (try clear ho0)
     obtain ⟨Ao36, co36, eo36⟩ := Kd.R_slice HO21.out
     (first | subst eo36 | (injection eo36 with f1_ f2_ f3_; have f4_ := f1_.symm; have f5_ := f3_.symm; clear f1_ f2_ f3_; subst f4_; subst f5_))
     refine hK.out _ _ (HS0_) (fun hHeld => ?_)
     clear hK K
     refine norm_ (a' := ?_) ?_ ?_
     rotate_left
     ·show Act.put _ (some 43) _ = _
      simp only [Act.put, List.setIfInBounds_toArray, List.set_cons_zero, List.set_cons_succ, i64_w, i32_w]
      rfl
     refine one_ (i := 4) (N := some 47) (bm_ 8 95) rfl rfl (one_of HT_.out (by kernel_rfl)) (by decide) (fun K hK => ?_)
     refine goes_ Tryd.func39 (by kernel_rfl) rfl #[.slice Ao36 t19.length co36, .string (rdOf ByteArray.empty t2 0)] (by rfl) rfl rfl ar_ ?_
     with_reducible refine (slices_Index_string_string.calls (hs_ := js_) _ _ t19 (rdOf ByteArray.empty t2 0) t23 _ ?side1 ?side2 A29.out).mono ?_
     (case side1 => repeat (first | exact (Kd.R_reads' HO21.out).2.2 | (with_reducible refine Kd.C_alloc ?_ _) | (with_reducible refine Kd.C_drewN ?_ _) | (with_reducible refine Kd.C_drew ?_)))
     (case side2 => exact (Kd.R_reads' HO21.out).2.1)
     rintro e w37 ⟨rfl, hb⟩
     have HS0_ := (hb.cell (World.block_lt_of_cell? _ _ (hHeld))).trans (hHeld)
     refine ⟨_, rfl, ?_⟩
     have n0_ := Aside0.mk (Kd.R_below (rx_ HO_4.out) hb)
     have n1_ := Aside0.mk (Kd.R_below (rx_ HO_5.out) hb)
     have n2_ := Aside0.mk (Kd.R_below (rx_ HO21.out) hb)
     have n3_ := bb_ BK1.out hb
     have n4_ := bb_ BK24.out hb
     have n5_ := bs_ hb
     clear HO_4
     clear HO_5
     clear HO21
     clear BK1
     clear BK24
     clear HB
     have HO_4 := n0_
     have HO_5 := n1_
     have HO21 := n2_
     have BK1 := n3_
     have BK24 := n4_
     have HB := n5_
     clear n0_ n1_ n2_ n3_ n4_ n5_
     (try clear hb)
     (try clear hb2)
     (try clear hk)
     (try clear hi)
     refine hK.out _ _ (HS0_) (fun hHeld => ?_)
     clear hK K
     refine norm_ (a' := ?_) ?_ ?_
     rotate_left
     ·show Act.put _ (some 47) _ = _
      simp only [Act.put, List.setIfInBounds_toArray, List.set_cons_zero, List.set_cons_succ, i64_w, i32_w]
      rfl
     refine pure_ (i := 5) (N := some 48) (bm_ 8 127) rfl rfl (any_of HT_.out kr_) (fun _ _ _ h => h) (Or.inl ⟨rfl, yi_⟩) pu_ ?_
     exact norm_ (by simp only [putAll, Act.put, List.setIfInBounds_toArray, List.set_cons_zero, List.set_cons_succ]) (hCont (.slice Ao36 t19.length co36, gb24) _ ⟨hHeld, (by (with_reducible repeat (first | apply Kd.R_alloc | apply Kd.R_drewN | apply Kd.R_drew)); exact Kd.R_mono HO21.out (fun _ hk => hk.2)), (by (with_reducible repeat (first | apply Kd.R_alloc | apply Kd.R_drewN | apply Kd.R_drew)); exact Kd.R_mono HO_4.out (fun _ hk => hk.2)), (rx_ HO_5.out), bk_, bk_, GW24.out, GE24.out, NB1_24.out, NB24_1.out, bw_⟩)
   rintro ⟨v20, gb24⟩ w38 ⟨hS_, h0_, h1_, h2_, h3_, h4_, h5_, h6_, h7_, h8_, h9_⟩
   have n0_ : Aside0 (Kd.R Kd.string 9 w38 w.heap.size (fun k_ => some k_ ≠ (.slice (some ad22) t2.length co12 : Value).ownBlock) v20 t19) := ⟨h0_⟩
   have n1_ : Aside0 (Kd.R Kd.string 9 w38 w.heap.size (fun k_ => some k_ ≠ (v20 : Value).ownBlock) (.slice (some ad22) t2.length co12) t2) := ⟨h1_⟩
   have n2_ : Aside0 (Kd.R (Kd.int .i64) 3 w38 w.heap.size (fun _ => True) u5 x5_1) := ⟨h2_⟩
   have n3_ : Aside0 (w38.heap[gb1]? = some (.cells #[.int .i64 x2000_1, .int .i64 x2001_1, .int .i64 x2002_1, .int .i64 x2003_1] 37 (0, 0))) := ⟨h3_⟩
   have n4_ : Aside0 (w38.heap[gb24]? = some (.cells #[.int .i64 0, .int .i64 0, .int .i64 0, .int .i64 0] 37 (0, 0))) := ⟨h4_⟩
   have n5_ : Aside0 (w.heap.size ≤ gb24) := ⟨h5_⟩
   have n6_ : Aside0 (w.heap.size ≤ gb24) := ⟨h6_⟩
   have n7_ : Aside0 (gb1 ≠ gb24) := ⟨h7_⟩
   have n8_ : Aside0 (gb24 ≠ gb1) := ⟨h8_⟩
   have n9_ : Aside0 (Below w.heap.size w w38) := ⟨h9_⟩
   clear HO_4
   clear HO_5
   clear BK1
   clear HB
   clear h0_ h1_ h2_ h3_ h4_ h5_ h6_ h7_ h8_ h9_
   have HO21 := n0_
   have HO_4 := n1_
   have HO_5 := n2_
   have BK1 := n3_
   have BK24 := n4_
   have GW24 := n5_
   have GE24 := n6_
   have NB1_24 := n7_
   have NB24_1 := n8_
   have HB := n9_
   clear n0_ n1_ n2_ n3_ n4_ n5_ n6_ n7_ n8_ n9_
   have hHeld : w38.cell? ad22 = some (.string (rdOf ByteArray.empty t2 0)) := hS_
   refine norm_ (a' := ?_) ?_ ?_
   rotate_left
   ·simp only [putAll, Act.put, List.setIfInBounds_toArray, List.set_cons_zero, List.set_cons_succ]
    rfl
   refine one_ (i := 7) (N := none) (bm_ 8 255) rfl rfl (one_of HT_.out (by kernel_rfl)) (by decide) (fun K hK => ?_)
   have hs39 : w38.cell? ⟨gb24, 0, none⟩ = some (.int .i64 0) := (blk_cell BK24.out 0).trans rfl
   have hfs39 := blk_frozen BK24.out 0
   have hns39_0 := NB1_24.out
   have hms39_0 := NB24_1.out
   have hs40 : w38.cell? ⟨gb24, 1, none⟩ = some (.int .i64 0) := (blk_cell BK24.out 1).trans rfl
   have hfs40 := blk_frozen BK24.out 1
   have hns40_0 := NB1_24.out
   have hms40_0 := NB24_1.out
   have hs41 : w38.cell? ⟨gb24, 2, none⟩ = some (.int .i64 0) := (blk_cell BK24.out 2).trans rfl
   have hfs41 := blk_frozen BK24.out 2
   have hns41_0 := NB1_24.out
   have hms41_0 := NB24_1.out
   have hs42 : w38.cell? ⟨gb24, 3, none⟩ = some (.int .i64 0) := (blk_cell BK24.out 3).trans rfl
   have hfs42 := blk_frozen BK24.out 3
   have hns42_0 := NB1_24.out
   have hms42_0 := NB24_1.out
   refine skip_ (w1 := ?_) (by rfl) rfl ?_ ?_
   rotate_left
   ·go_simp
    rfl
   refine hK.out _ _ (((cell_far (p := ⟨gb24, _, none⟩) (by first | exact Kd.own_blk (Kd.R_ne HO_4.out BK24.out (by decide)) | (rw [add_block]; exact Kd.own_blk (Kd.R_ne HO_4.out BK24.out (by decide))) | (show (Addr.add _ _).block ≠ _; rw [add_block]; exact Kd.own_blk (Kd.R_ne HO_4.out BK24.out (by decide))) | (dsimp only; exact Kd.own_blk (Kd.R_ne HO_4.out BK24.out (by decide)))) _).trans (((cell_far (p := ⟨gb24, _, none⟩) (by first | exact Kd.own_blk (Kd.R_ne HO_4.out BK24.out (by decide)) | (rw [add_block]; exact Kd.own_blk (Kd.R_ne HO_4.out BK24.out (by decide))) | (show (Addr.add _ _).block ≠ _; rw [add_block]; exact Kd.own_blk (Kd.R_ne HO_4.out BK24.out (by decide))) | (dsimp only; exact Kd.own_blk (Kd.R_ne HO_4.out BK24.out (by decide)))) _).trans (((cell_far (p := ⟨gb24, _, none⟩) (by first | exact Kd.own_blk (Kd.R_ne HO_4.out BK24.out (by decide)) | (rw [add_block]; exact Kd.own_blk (Kd.R_ne HO_4.out BK24.out (by decide))) | (show (Addr.add _ _).block ≠ _; rw [add_block]; exact Kd.own_blk (Kd.R_ne HO_4.out BK24.out (by decide))) | (dsimp only; exact Kd.own_blk (Kd.R_ne HO_4.out BK24.out (by decide)))) _).trans (((cell_far (p := ⟨gb24, _, none⟩) (by first | exact Kd.own_blk (Kd.R_ne HO_4.out BK24.out (by decide)) | (rw [add_block]; exact Kd.own_blk (Kd.R_ne HO_4.out BK24.out (by decide))) | (show (Addr.add _ _).block ≠ _; rw [add_block]; exact Kd.own_blk (Kd.R_ne HO_4.out BK24.out (by decide))) | (dsimp only; exact Kd.own_blk (Kd.R_ne HO_4.out BK24.out (by decide)))) _).trans (hHeld))))))))) (fun hHeld => ?_)
   clear hK K
   refine done_ (done_of HT_.out (by kernel_rfl)) ?_
   go_upto_if 53 with (first | ((with_reducible refine gate_dst (N := 50) rfl ?_); refine Kd.R_lit (Kd.int .i64) _ 3 ?hg (N := 50) ?hd (xs := ([0, 0, 0] : List Int)) (inner := [.int .i64 0, .int .i64 0, .int .i64 0]) (ok := fun _ => True) (okp := fun _ => True) ?hr ?hp (fun _ hk => hk) trivial (Below.refl _ _) (Nat.le_refl _) (by simp) ?_; (case hd => rfl); (case hg => rfl); (case hr => first | (go_simp; done) | (go_simp; rfl)); (case hp => exact (Reps.one (show Kd.M (Kd.int .i64) _ _ _ 0 [.int .i64 0] from rfl) (Reps.one (show Kd.M (Kd.int .i64) _ _ _ 0 [.int .i64 0] from rfl) (Reps.one (show Kd.M (Kd.int .i64) _ _ _ 0 [.int .i64 0] from rfl) (Reps.none _ _))))); intro v26 w43 ho44 hb hg_ hnew_; clear hg_ hnew_; (first | rw [← Ny25.out] at ho44 | (simp only [Int.reduceToNat] at ho44; rw [← Ny25.out] at ho44)); have n0_ := Aside0.mk (Kd.R_below (by (with_reducible repeat (first | apply Kd.R_alloc | apply Kd.R_drewN | apply Kd.R_drew)); exact (Kd.R_mono (Kd.R_far (p := ⟨gb24, 3, none⟩) (Kd.R_far (p := ⟨gb24, 2, none⟩) (Kd.R_far (p := ⟨gb24, 1, none⟩) (Kd.R_far (p := ⟨gb24, 0, none⟩) (Kd.R_types HO_4.out BK24.out (by decide)) (fun _ hk => hk.2) (.int .i64 t23)) (fun _ hk => hk.2) (.int .i64 0)) (fun _ hk => hk.2) (.int .i64 0)) (fun _ hk => hk.2) (.int .i64 0)) (fun _ h_ => h_.1))) hb); have n1_ := Aside0.mk (Kd.R_elder' (by (with_reducible repeat (first | apply Kd.R_alloc | apply Kd.R_drewN | apply Kd.R_drew)); exact (Kd.R_mono (Kd.R_far (p := ⟨gb24, 3, none⟩) (Kd.R_far (p := ⟨gb24, 2, none⟩) (Kd.R_far (p := ⟨gb24, 1, none⟩) (Kd.R_far (p := ⟨gb24, 0, none⟩) (Kd.R_types HO_5.out BK24.out (by decide)) (fun _ hk => hk.2) (.int .i64 t23)) (fun _ hk => hk.2) (.int .i64 0)) (fun _ hk => hk.2) (.int .i64 0)) (fun _ hk => hk.2) (.int .i64 0)) (fun _ h_ => h_.1))) (Kd.R_base ho44) hb); have n2_ := Aside0.mk (Kd.R_below (by (with_reducible repeat (first | apply Kd.R_alloc | apply Kd.R_drewN | apply Kd.R_drew)); exact (Kd.R_mono (Kd.R_far (p := ⟨gb24, 3, none⟩) (Kd.R_far (p := ⟨gb24, 2, none⟩) (Kd.R_far (p := ⟨gb24, 1, none⟩) (Kd.R_far (p := ⟨gb24, 0, none⟩) (Kd.R_types HO21.out BK24.out (by decide)) (fun _ hk => hk.2) (.int .i64 t23)) (fun _ hk => hk.2) (.int .i64 0)) (fun _ hk => hk.2) (.int .i64 0)) (fun _ hk => hk.2) (.int .i64 0)) (fun _ h_ => h_.1))) hb); have n3_ := Aside0.mk (Kd.R_lower (Kd.R_new' ho44 (Kd.R_lt (by (with_reducible repeat (first | apply Kd.R_alloc | apply Kd.R_drewN | apply Kd.R_drew)); exact (Kd.R_mono (Kd.R_far (p := ⟨gb24, 3, none⟩) (Kd.R_far (p := ⟨gb24, 2, none⟩) (Kd.R_far (p := ⟨gb24, 1, none⟩) (Kd.R_far (p := ⟨gb24, 0, none⟩) (Kd.R_types HO_5.out BK24.out (by decide)) (fun _ hk => hk.2) (.int .i64 t23)) (fun _ hk => hk.2) (.int .i64 0)) (fun _ hk => hk.2) (.int .i64 0)) (fun _ hk => hk.2) (.int .i64 0)) (fun _ h_ => h_.1))))) (below_size bw_)); have n4_ := Aside0.mk (blk_below (g := gb1) (o := .cells #[.int .i64 x2000_1, .int .i64 x2001_1, .int .i64 x2002_1, .int .i64 x2003_1] 37 (0, 0)) (by (with_reducible repeat (first | refine blk_drewN ?_ _ | refine blk_drew ?_ | refine blk_alloc ?_ _)); refine blk_far ?_ NB1_24.out _; (with_reducible repeat (first | refine blk_drewN ?_ _ | refine blk_drew ?_ | refine blk_alloc ?_ _)); refine blk_far ?_ NB1_24.out _; (with_reducible repeat (first | refine blk_drewN ?_ _ | refine blk_drew ?_ | refine blk_alloc ?_ _)); refine blk_far ?_ NB1_24.out _; (with_reducible repeat (first | refine blk_drewN ?_ _ | refine blk_drew ?_ | refine blk_alloc ?_ _)); refine blk_far ?_ NB1_24.out _; (with_reducible repeat (first | refine blk_drewN ?_ _ | refine blk_drew ?_ | refine blk_alloc ?_ _)); exact BK1.out) hb); have n5_ := Aside0.mk (blk_below (g := gb24) (o := .cells #[.int .i64 t23, .int .i64 0, .int .i64 0, .int .i64 0] 37 (0, 0)) (by (with_reducible repeat (first | refine blk_drewN ?_ _ | refine blk_drew ?_ | refine blk_alloc ?_ _)); refine blk_put (cs := #[.int .i64 t23, .int .i64 0, .int .i64 0, .int .i64 0]) ?_ 3 _ rfl; (with_reducible repeat (first | refine blk_drewN ?_ _ | refine blk_drew ?_ | refine blk_alloc ?_ _)); refine blk_put (cs := #[.int .i64 t23, .int .i64 0, .int .i64 0, .int .i64 0]) ?_ 2 _ rfl; (with_reducible repeat (first | refine blk_drewN ?_ _ | refine blk_drew ?_ | refine blk_alloc ?_ _)); refine blk_put (cs := #[.int .i64 t23, .int .i64 0, .int .i64 0, .int .i64 0]) ?_ 1 _ rfl; (with_reducible repeat (first | refine blk_drewN ?_ _ | refine blk_drew ?_ | refine blk_alloc ?_ _)); refine blk_put (cs := #[.int .i64 0, .int .i64 0, .int .i64 0, .int .i64 0]) ?_ 0 _ rfl; (with_reducible repeat (first | refine blk_drewN ?_ _ | refine blk_drew ?_ | refine blk_alloc ?_ _)); exact BK24.out) hb); have n6_ := bs_ hb; clear HO_4; clear HO_5; clear HO21; clear BK1; clear BK24; clear HB; have HO_4 := n0_; have HO_5 := n1_; have HO21 := n2_; have HO27 := n3_; have BK1 := n4_; have BK24 := n5_; have HB := n6_; clear n0_ n1_ n2_ n3_ n4_ n5_ n6_; clear hb ho44; obtain ⟨Ao46, co46, eo46⟩ := Kd.R_slice HO27.out; subst eo46) | ((with_reducible refine gate_builtin (b := .append) (xs := #[.tmp 49, .tmp 50]) rfl ?_); at_builtin; refine Kd.R_append_rows (Kd.int .i64) (w0 := w) w.heap.size rfl (.tmp 49) (.tmp 50) 53 3 (.int .i64 0) 8 rfl Tryd.underlying53 info3 rfl (by decide) (by omega) u5 x5_1 y25 _ _ _ (fun k_ => some k_ ≠ (.slice Ao46 y25.length co46 : Value).ownBlock) (fun _ => False) rfl rfl ?aO ?aR (fun _ _ h => h) (fun _ h => h.elim) ?aF ?aB ?aS ?aL ?_; (case aR => repeat (first | exact (Kd.R_reads' HO27.out).2.2 | (with_reducible refine Kd.C_alloc ?_ _) | (with_reducible refine Kd.C_drewN ?_ _) | (with_reducible refine Kd.C_drew ?_))); (case aB => exact bw_); (case aF => exact (fun k_ hk => Kd.fresh' (Kd.R_lt (rx_ HO27.out)) k_ hk)); (case aO => exact (by (with_reducible repeat (first | apply Kd.R_alloc | apply Kd.R_drewN | apply Kd.R_drew)); exact Kd.R_mono HO_5.out (fun _ hk => hk.2))); (case aS => exact (below_size bw_)); (case aL => have := LMc30.out; omega); intro v29 w45 ho hb hg hat; rw [← Ny28.out] at ho; have n0_ := Aside0.mk (Kd.R_over' (rx_ HO_4.out) (Kd.R_typed (rx_ HO_5.out)) (by decide) hg); have n1_ := Aside0.mk (blk_grown (g := gb1) (o := .cells #[.int .i64 x2000_1, .int .i64 x2001_1, .int .i64 x2002_1, .int .i64 x2003_1] 37 (0, 0)) bk_ hg (Kd.R_ne HO_5.out BK1.out (by decide))); have n2_ := Aside0.mk (Kd.R_over' (rx_ HO21.out) (Kd.R_typed (rx_ HO_5.out)) (by decide) hg); have n3_ := Aside0.mk (blk_grown (g := gb24) (o := .cells #[.int .i64 t23, .int .i64 0, .int .i64 0, .int .i64 0] 37 (0, 0)) bk_ hg (Kd.R_ne HO_5.out BK24.out (by decide))); have n4_ := Aside0.mk (Kd.R_after (ok := (fun _ => True)) (rx_ HO27.out) hg hat); have n5_ := Aside0.mk (hb); have n6_ := Aside0.mk (ho); clear HO_4; clear BK1; clear HO21; clear BK24; clear HO27; clear HB; clear HO_5; have HO_4 := n0_; have BK1 := n1_; have HO21 := n2_; have BK24 := n3_; have HO27 := n4_; have HB := n5_; have HO30 := n6_; clear n0_ n1_ n2_ n3_ n4_ n5_ n6_; clear ho hb hg hat; have hnb47 := NB24_1.out; have hnc47 := NB1_24.out; obtain ⟨hcz48_0, hcz48_1, hcz48_2, hcz48_3, hfz48_0, hfz48_1, hfz48_2, hfz48_3⟩ := bc4_ BK24.out) | ((with_reducible refine gate_callee (f := 35) rfl ?_); refine goesL_ (some 53) rfl rfl Tryd.func35 (by kernel_rfl) rfl #[.agg #[.int .i64 t23, .int .i64 0, .int .i64 0, .int .i64 0]] rfl ar_ ?_; (with_reducible refine (impl_Instr_usesR.calls t23 0 0 0 t31 _ A31.out).mono ?_); rintro e w49 ⟨rfl, hb⟩; refine ⟨_, rfl, ?_⟩; have n0_ := Aside0.mk (Kd.R_below (rx_ HO_4.out) hb); have n1_ := Aside0.mk (Kd.R_below (rx_ HO21.out) hb); have n2_ := Aside0.mk (Kd.R_below (rx_ HO27.out) hb); have n3_ := Aside0.mk (Kd.R_below (rx_ HO30.out) hb); have n4_ := bb_ BK1.out hb; have n5_ := bb_ BK24.out hb; have n6_ := bs_ hb; clear HO_4; clear HO21; clear HO27; clear HO30; clear BK1; clear BK24; clear HB; have HO_4 := n0_; have HO21 := n1_; have HO27 := n2_; have HO30 := n3_; have BK1 := n4_; have BK24 := n5_; have HB := n6_; clear n0_ n1_ n2_ n3_ n4_ n5_ n6_; (try clear hb); (try clear hb2); (try clear hk); (try clear hi)))
   (try simp only [Act.put, List.setIfInBounds_toArray, List.set_cons_zero, List.set_cons_succ])
   go_cut [5] (fun v5 wc => ∃ (kq : Nat) (x5_31 : List Int) (x25001_31 : Int), Aside0 (impl_ParseInstr.j1 kq a0 x5_31 t23 x25001_31 0 0 = some (r1, r2, r3, r4, r5)) ∧ Aside0 (kq ≤ k1) ∧ Aside0 (Kd.Q (Kd.int .i64) 3 wc w.heap.size (fun _ => True) v5 x5_31) ∧ Aside0 (wc.heap[gb1]? = some (.cells #[.int .i64 x2000_1, .int .i64 x2001_1, .int .i64 x2002_1, .int .i64 x2003_1] 37 (0, 0))) ∧ Aside0 (wc.heap[gb24]? = some (.cells #[.int .i64 t23, .int .i64 x25001_31, .int .i64 0, .int .i64 0] 37 (0, 0))) ∧ Aside0 (Below w.heap.size w wc))
   case first =>
    have H := HC32.out
    clear HC32
    by_cases c50 : t31 = true
    rotate_left
    ·replace c50 := Bool.eq_false_iff.mpr c50
     subst c50
     have H1 : (impl_ParseInstr.j1 k1 a0 y28 t23 0 0 0) = some (r1, r2, r3, r4, r5) := by rw [if_neg (show ¬ (false = true) by decide)] at H; exact H
     clear H
     have H := H1
     clear H1
     have H' := Aside0.mk H
     clear H
     go_wp2
     go_meet
     case rel => exact ⟨_, (y28), (0), H', ⟨by have := HK1.out; first | omega | exact Nat.le_refl _⟩, ⟨Kd.Q_of_R (by (with_reducible repeat (first | apply Kd.R_alloc | apply Kd.R_drewN | apply Kd.R_drew)); exact Kd.R_mono HO30.out (fun _ hk => trivial))⟩, ⟨bk_⟩, ⟨bk_⟩, ⟨bw_⟩⟩
    subst c50
    have H1 : (if 0 < (y28.length : Int) then (if 1 ≤ (y28.length : Int) then (impl_ParseInstr.j1 k1 a0 (y28.drop (1 : Int).toNat) t23 (rd y28 0) 0 0) else (none)) else (none)) = some (r1, r2, r3, r4, r5) := by rw [if_pos rfl] at H; exact H
    clear H
    have H := H1
    clear H1
    by_cases c51 : 0 < (y28.length : Int)
    rotate_left
    ·rw [if_neg c51] at H
     exact absurd H (by simp)
    rw [if_pos c51] at H
    have c51b0 : decide (0 < (y28.length : Int)) = true := decide_eq_true c51
    have c51b1 : decide (0 < y28.length) = true := decide_eq_true (by omega)
    clear c51
    (first | rw [c51b0] | (simp only [i64_w, i32_w]; rw [c51b0]) | skip)
    by_cases c52 : 1 ≤ (y28.length : Int)
    rotate_left
    ·rw [if_neg c52] at H
     exact absurd H (by simp)
    rw [if_pos c52] at H
    have c52b0 := eq_true c52
    have c52b1 : decide (1 ≤ (y28.length : Int)) = true := decide_eq_true c52
    clear c52
    obtain ⟨y33, hy33⟩ : ∃ y_ : List Int, y_ = (y28.drop (1 : Int).toNat) := ⟨_, rfl⟩
    replace H : (impl_ParseInstr.j1 k1 a0 y33 t23 (rd y28 0) 0 0) = some (r1, r2, r3, r4, r5) := by first | (rw [hy33]; with_reducible exact H) | (have H2_ := (Option.bind_some _ _).symm.trans H; rw [hy33]; with_reducible exact H2_) | (have H2_ := (Option.bind_some _ _).symm.trans H; with_reducible exact H2_) | with_reducible exact H | (rw [hy33]; exact H) | exact H
    have Ny33 := Aside0.mk hy33
    clear hy33
    have H' := Aside0.mk H
    clear H
    try go_wp2
    have n0_ := Aside0.mk (Kd.R_drew HO_4.out)
    have n1_ := Aside0.mk (Kd.R_drew HO21.out)
    have n2_ := Aside0.mk (Kd.R_drew HO27.out)
    have n3_ := Aside0.mk (Kd.R_drew HO30.out)
    have n4_ := Aside0.mk (blk_drew BK1.out)
    have n5_ := Aside0.mk (blk_drew BK24.out)
    have n6_ := Aside0.mk (below_drew1 HB.out)
    clear HO_4
    clear HO21
    clear HO27
    clear HO30
    clear BK1
    clear BK24
    clear HB
    have HO_4 := n0_
    have HO21 := n1_
    have HO27 := n2_
    have HO30 := n3_
    have BK1 := n4_
    have BK24 := n5_
    have HB := n6_
    clear n0_ n1_ n2_ n3_ n4_ n5_ n6_
    obtain ⟨Ao54, co54, eo54⟩ := Kd.R_slice HO30.out
    (first | subst eo54 | (injection eo54 with f1_ f2_ f3_; have f4_ := f1_.symm; have f5_ := f3_.symm; clear f1_ f2_ f3_; subst f4_; subst f5_))
    have p32 : 0 ≤ (0 : Int) := (by omega)
    have q32 : 0 < (y28.length : Int) := od_
    obtain ⟨ad32, e32, hx32_0⟩ := Kd.at_int (Kd.R_reads' HO30.out).2.2 0 p32 q32
    cases e32
    have qi32 : (0 < y28.length) = True := eq_true (by omega)
    (try rw [show ((0 : Int)).toNat = 0 from rfl] at hx32_0)
    (try rw [Addr.add_zero'] at hx32_0)
    replace p32 := eq_true p32
    replace q32 := eq_true q32
    have q55 : (1 : Int) ≤ ((y28.length : Int) : Int) := od_
    obtain ⟨i055, hi055, _, hsz55, _⟩ := info_parts info3
    have hcut55 := cut_from (P := Tryd.prog) 53 3 .i64 Tryd.underlying53 hi055 1 hsz55 (some ad32) y28.length co54 1 (by omega) q55
    have hr55 := Kd.Q_drop (k := (1 : Int).toNat) (Kd.Q_of_R HO30.out) (by omega)
    obtain ⟨A55, hA55⟩ : ∃ A1, A1 = (if co54 = (1 : Int).toNat then (some ad32) else ((some ad32) : Option Addr).map (·.add ((1 : Int).toNat * 1))) := ⟨_, rfl⟩
    obtain ⟨c55, hc55⟩ : ∃ c1, c1 = co54 - (1 : Int).toNat := ⟨_, rfl⟩
    have hy55 : y33.length = y28.length - (1 : Int).toNat := (by rw [Ny33.out, List.length_drop])
    rw [← Ny33.out] at hr55
    rw [← hy55, ← hA55, ← hc55] at hcut55
    replace hr55 : Kd.Q (Kd.int .i64) 3 _ w.heap.size (fun k_ => some k_ ≠ (.slice Ao46 y25.length co46 : Value).ownBlock) (.slice A55 y33.length c55) y33 := (by rw [hA55, hc55, hy55]; exact hr55)
    have HE55 : Aside0 ((Value.slice A55 y33.length c55).ownBlock = (.slice (some ad32) y28.length co54 : Value).ownBlock) := ⟨by rw [hA55]; split <;> (cases ((some ad32) : Option Addr) <;> rfl)⟩
    have NE0_ := Aside0.mk (Kd.R_ne HO30.out BK24.out (by decide))
    clear hy55 hi055 hsz55 HO30 hA55 hc55
    have HO35 := Aside0.mk hr55
    clear hr55
    replace q55 := eq_true q55
    have n_ := Aside0.mk (Kd.R_mono (ok' := fun k_ => (True ∧ some k_ ≠ (.slice A55 y33.length c55 : Value).ownBlock)) HO27.out (fun k_ hk => ⟨trivial, (by rw [HE55.out]; exact hk.2)⟩))
    clear HO27
    have HO27 := n_
    clear n_
    refine start_ (n := 8) (S := fun w' => w'.cell? ad32 = some (.int .i64 (rd y28 0))) (ds := []) #[false, false, false, false, false, false, false, false] (by kernel_rfl) rfl rfl (hx32_0) (fun hHeld => ?_); refine with_tabW impl_ParseInstr.tab15 impl_ParseInstr.bits15 (fun HT_ HW_ => ?_)
    generalize w49.drew = w53 at HO_4 HO21 HO27 BK1 BK24 HB HO35 hx32_0 hHeld ⊢
    refine pure_ (i := 0) (N := some 54) (bm_ 8 1) rfl rfl (any_of HT_.out kr_) (fun _ _ _ h => h) (Or.inl ⟨rfl, yi_⟩) pu_ ?_
    refine pure_ (i := 1) (N := some 55) (bm_ 8 3) rfl rfl (any_of HT_.out kr_) (fun _ _ _ h => h) (Or.inl ⟨rfl, yi_⟩) pu_ ?_
    refine pure_ (i := 3) (N := some 57) (bm_ 8 11) rfl rfl (any_of HT_.out kr_) (fun _ _ _ h => h) (Or.inl ⟨rfl, yi_⟩) pu_ ?_
    refine pure_ (i := 4) (N := some 58) (bm_ 8 27) rfl rfl (any_of HT_.out kr_) (fun _ _ _ h => h) (Or.inl ⟨rfl, yi_⟩) pu_ ?_
    refine take_ (i := 2) (N := some 56) (v := ?_) (a' := ?_) (bm_ 8 31) rfl rfl (take_ofW HT_.out HW_.out (by kernel_rfl)) (fun _ _ _ h => h) (Or.inl ⟨by rfl, ?_⟩) hHeld ?_ ?_
    rotate_left
    ·intro w' s0
     go_simp
     with_reducible rfl
    rotate_left
    ·exact pu_
    refine pure_ (i := 5) (N := some 59) (bm_ 8 63) rfl rfl (any_of HT_.out kr_) (fun _ _ _ h => h) (Or.inl ⟨rfl, yi_⟩) pu_ ?_
    refine one_ (i := 6) (N := none) (bm_ 8 127) rfl rfl (one_of HT_.out (by kernel_rfl)) (by decide) (fun K hK => ?_)
    have hs56 : w53.cell? ⟨gb24, 1, none⟩ = some (.int .i64 0) := (blk_cell BK24.out 1).trans rfl
    have hfs56 := blk_frozen BK24.out 1
    have hns56_0 := NB1_24.out
    have hms56_0 := NB24_1.out
    refine skip_ (w1 := ?_) (by rfl) rfl ?_ ?_
    rotate_left
    ·go_simp
     rfl
    refine hK.out _ _ (((cell_far (p := ⟨gb24, _, none⟩) (by first | exact Kd.own_blk NE0_.out | (rw [add_block]; exact Kd.own_blk NE0_.out) | (show (Addr.add _ _).block ≠ _; rw [add_block]; exact Kd.own_blk NE0_.out) | (dsimp only; exact Kd.own_blk NE0_.out)) _).trans (hHeld))) (fun hHeld => ?_)
    clear hK K
    refine pure_ (i := 7) (N := some 5) (bm_ 8 255) rfl rfl (any_of HT_.out kr_) (fun _ _ _ h => h) (Or.inl ⟨rfl, yi_⟩) pu_ ?_
    refine done_ (done_of HT_.out (by kernel_rfl)) ?_
    try go_wp2
    go_meet
    case rel => exact ⟨_, (y33), (rd y28 0), H', ⟨by have := HK1.out; first | omega | exact Nat.le_refl _⟩, ⟨by (with_reducible repeat (first | apply Kd.Q_alloc | apply Kd.Q_drewN | apply Kd.Q_drew)); exact Kd.Q_mono (Kd.Q_far (p := ⟨gb24, 1, none⟩) (Kd.Q_types HO35.out BK24.out (by decide)) (fun _ hk => hk.2) (.int .i64 (rd y28 0))) (fun _ hk => trivial)⟩, ⟨by (with_reducible repeat (first | refine blk_drewN ?_ _ | refine blk_drew ?_ | refine blk_alloc ?_ _)); refine blk_far ?_ NB1_24.out _; (with_reducible repeat (first | refine blk_drewN ?_ _ | refine blk_drew ?_ | refine blk_alloc ?_ _)); exact BK1.out⟩, ⟨by (with_reducible repeat (first | refine blk_drewN ?_ _ | refine blk_drew ?_ | refine blk_alloc ?_ _)); refine blk_put (cs := #[.int .i64 t23, .int .i64 0, .int .i64 0, .int .i64 0]) ?_ 1 _ rfl; (with_reducible repeat (first | refine blk_drewN ?_ _ | refine blk_drew ?_ | refine blk_alloc ?_ _)); exact BK24.out⟩, ⟨bw_⟩⟩
   case rest =>
    clear HC32
    try clear c1
    try clear p2
    try clear q2
    try clear hx2
    try clear qi2
    try clear c3
    try clear p3
    try clear q3
    try clear hx3
    try clear qi3
    try clear c4
    try clear c5
    try clear q5
    try clear p22
    try clear q22
    try clear hx22
    try clear qi22
    try clear c30
    try clear p32
    try clear q32
    try clear hx32
    try clear qi32
    try clear c34
    try clear c35
    try clear c39
    try clear c47
    try clear c50
    try clear c51
    try clear c51b0
    try clear c51b1
    try clear c52
    try clear c52b0
    try clear c52b1
    try clear c55
    try clear q55
    try clear hcz48_0 hcz48_1 hcz48_2 hcz48_3
    try clear hfz48_0 hfz48_1 hfz48_2 hfz48_3
    try clear hx22_0
    try clear hx32_0
    try clear p22
    try clear p32
    try clear q22
    try clear q32
    try clear q55
    obtain ⟨kq, x5_31, x25001_31, HA, HJ31, HO_5, BK1, BK24, HB⟩ := hcut
    cases kq with
    | zero => exact absurd HA.out (by simp [impl_ParseInstr.j1])
    | succ kj31 =>
     have H := HA.out
     clear HA
     simp only [impl_ParseInstr.j1] at H
     replace H := Option.bind_eq_some_iff.mp H
     obtain ⟨t36, A570, H⟩ := H
     replace H : (if t36 = true then (if 0 < (x5_31.length : Int) then (if 1 ≤ (x5_31.length : Int) then (impl_ParseInstr.j2 kj31 a0 (x5_31.drop (1 : Int).toNat) t23 x25001_31 (rd x5_31 0) 0) else (none)) else (none)) else (impl_ParseInstr.j2 kj31 a0 x5_31 t23 x25001_31 0 0)) = some (r1, r2, r3, r4, r5) := H
     have A57 := Aside0.mk A570
     clear A570
     have HC58 := Aside0.mk H
     clear H
     have hnb59 := NB24_1.out
     have hnc59 := NB1_24.out
     obtain ⟨hcz60_0, hcz60_1, hcz60_2, hcz60_3, hfz60_0, hfz60_1, hfz60_2, hfz60_3⟩ := bc4_ BK24.out
     go_upto_if 61 with (first | ((with_reducible refine gate_callee (f := 37) rfl ?_); refine goesL_ (some 61) rfl rfl Tryd.func37 (by kernel_rfl) rfl #[.agg #[.int .i64 t23, .int .i64 x25001_31, .int .i64 0, .int .i64 0]] rfl ar_ ?_; (with_reducible refine (impl_Instr_usesS.calls t23 x25001_31 0 0 t36 _ A57.out).mono ?_); rintro e w61 ⟨rfl, hb⟩; refine ⟨_, rfl, ?_⟩; have n0_ := Aside0.mk (Kd.Q_below (by (with_reducible repeat (first | apply Kd.Q_alloc | apply Kd.Q_drewN | apply Kd.Q_drew)); exact HO_5.out) hb); have n1_ := bb_ BK1.out hb; have n2_ := bb_ BK24.out hb; have n3_ := bs_ hb; clear HO_5; clear BK1; clear BK24; clear HB; have HO_5 := n0_; have BK1 := n1_; have BK24 := n2_; have HB := n3_; clear n0_ n1_ n2_ n3_; (try clear hb); (try clear hb2); (try clear hk); (try clear hi)))
     (try simp only [Act.put, List.setIfInBounds_toArray, List.set_cons_zero, List.set_cons_succ])
     go_cut [5] (fun v5 wc => ∃ (kq : Nat) (x5_57 : List Int) (x25002_57 : Int), Aside0 (impl_ParseInstr.j2 kq a0 x5_57 t23 x25001_31 x25002_57 0 = some (r1, r2, r3, r4, r5)) ∧ Aside0 (kq ≤ kj31) ∧ Aside0 (Kd.Q (Kd.int .i64) 3 wc w.heap.size (fun _ => True) v5 x5_57) ∧ Aside0 (wc.heap[gb1]? = some (.cells #[.int .i64 x2000_1, .int .i64 x2001_1, .int .i64 x2002_1, .int .i64 x2003_1] 37 (0, 0))) ∧ Aside0 (wc.heap[gb24]? = some (.cells #[.int .i64 t23, .int .i64 x25001_31, .int .i64 x25002_57, .int .i64 0] 37 (0, 0))) ∧ Aside0 (Below w.heap.size w wc))
     case first =>
      have H := HC58.out
      clear HC58
      by_cases c62 : t36 = true
      rotate_left
      ·replace c62 := Bool.eq_false_iff.mpr c62
       subst c62
       have H1 : (impl_ParseInstr.j2 kj31 a0 x5_31 t23 x25001_31 0 0) = some (r1, r2, r3, r4, r5) := by rw [if_neg (show ¬ (false = true) by decide)] at H; exact H
       clear H
       have H := H1
       clear H1
       have H' := Aside0.mk H
       clear H
       go_wp2
       go_meet
       case rel => exact ⟨_, (x5_31), (0), H', ⟨by have := HK1.out; have := HJ31.out; first | omega | exact Nat.le_refl _⟩, ⟨by (with_reducible repeat (first | apply Kd.Q_alloc | apply Kd.Q_drewN | apply Kd.Q_drew)); exact HO_5.out⟩, ⟨bk_⟩, ⟨bk_⟩, ⟨bw_⟩⟩
      subst c62
      have H1 : (if 0 < (x5_31.length : Int) then (if 1 ≤ (x5_31.length : Int) then (impl_ParseInstr.j2 kj31 a0 (x5_31.drop (1 : Int).toNat) t23 x25001_31 (rd x5_31 0) 0) else (none)) else (none)) = some (r1, r2, r3, r4, r5) := by rw [if_pos rfl] at H; exact H
      clear H
      have H := H1
      clear H1
      by_cases c63 : 0 < (x5_31.length : Int)
      rotate_left
      ·rw [if_neg c63] at H
       exact absurd H (by simp)
      rw [if_pos c63] at H
      have c63b0 : decide (0 < (x5_31.length : Int)) = true := decide_eq_true c63
      have c63b1 : decide (0 < x5_31.length) = true := decide_eq_true (by omega)
      clear c63
      (first | rw [c63b0] | (simp only [i64_w, i32_w]; rw [c63b0]) | skip)
      by_cases c64 : 1 ≤ (x5_31.length : Int)
      rotate_left
      ·rw [if_neg c64] at H
       exact absurd H (by simp)
      rw [if_pos c64] at H
      have c64b0 := eq_true c64
      have c64b1 : decide (1 ≤ (x5_31.length : Int)) = true := decide_eq_true c64
      clear c64
      obtain ⟨y38, hy38⟩ : ∃ y_ : List Int, y_ = (x5_31.drop (1 : Int).toNat) := ⟨_, rfl⟩
      replace H : (impl_ParseInstr.j2 kj31 a0 y38 t23 x25001_31 (rd x5_31 0) 0) = some (r1, r2, r3, r4, r5) := by first | (rw [hy38]; with_reducible exact H) | (have H2_ := (Option.bind_some _ _).symm.trans H; rw [hy38]; with_reducible exact H2_) | (have H2_ := (Option.bind_some _ _).symm.trans H; with_reducible exact H2_) | with_reducible exact H | (rw [hy38]; exact H) | exact H
      have Ny38 := Aside0.mk hy38
      clear hy38
      have H' := Aside0.mk H
      clear H
      try go_wp2
      have n0_ := Aside0.mk (Kd.Q_drew HO_5.out)
      have n1_ := Aside0.mk (blk_drew BK1.out)
      have n2_ := Aside0.mk (blk_drew BK24.out)
      have n3_ := Aside0.mk (below_drew1 HB.out)
      clear HO_5
      clear BK1
      clear BK24
      clear HB
      have HO_5 := n0_
      have BK1 := n1_
      have BK24 := n2_
      have HB := n3_
      clear n0_ n1_ n2_ n3_
      obtain ⟨Ao66, co66, eo66, _⟩ := Kd.Q_slice HO_5.out
      (first | subst eo66 | (injection eo66 with f1_ f2_ f3_; have f4_ := f1_.symm; have f5_ := f3_.symm; clear f1_ f2_ f3_; subst f4_; subst f5_))
      have p37 : 0 ≤ (0 : Int) := (by omega)
      have q37 : 0 < (x5_31.length : Int) := od_
      obtain ⟨ad37, e37, hx37_0⟩ := Kd.at_int (Kd.Q_reads' HO_5.out).2.2 0 p37 q37
      cases e37
      have qi37 : (0 < x5_31.length) = True := eq_true (by omega)
      (try rw [show ((0 : Int)).toNat = 0 from rfl] at hx37_0)
      (try rw [Addr.add_zero'] at hx37_0)
      replace p37 := eq_true p37
      replace q37 := eq_true q37
      have q67 : (1 : Int) ≤ ((x5_31.length : Int) : Int) := od_
      obtain ⟨i067, hi067, _, hsz67, _⟩ := info_parts info3
      have hcut67 := cut_from (P := Tryd.prog) 53 3 .i64 Tryd.underlying53 hi067 1 hsz67 (some ad37) x5_31.length co66 1 (by omega) q67
      have hr67 := Kd.Q_drop (k := (1 : Int).toNat) HO_5.out (by omega)
      obtain ⟨A67, hA67⟩ : ∃ A1, A1 = (if co66 = (1 : Int).toNat then (some ad37) else ((some ad37) : Option Addr).map (·.add ((1 : Int).toNat * 1))) := ⟨_, rfl⟩
      obtain ⟨c67, hc67⟩ : ∃ c1, c1 = co66 - (1 : Int).toNat := ⟨_, rfl⟩
      have hy67 : y38.length = x5_31.length - (1 : Int).toNat := (by rw [Ny38.out, List.length_drop])
      rw [← Ny38.out] at hr67
      rw [← hy67, ← hA67, ← hc67] at hcut67
      replace hr67 : Kd.Q (Kd.int .i64) 3 _ w.heap.size (fun _ => True) (.slice A67 y38.length c67) y38 := (by rw [hA67, hc67, hy67]; exact hr67)
      have HE67 : Aside0 ((Value.slice A67 y38.length c67).ownBlock = (.slice (some ad37) x5_31.length co66 : Value).ownBlock) := ⟨by rw [hA67]; split <;> (cases ((some ad37) : Option Addr) <;> rfl)⟩
      have NE0_ := Aside0.mk (Kd.Q_ne HO_5.out BK24.out (by decide))
      clear hy67 hi067 hsz67 HO_5 hA67 hc67
      have HO40 := Aside0.mk hr67
      clear hr67
      replace q67 := eq_true q67
      refine start_ (n := 8) (S := fun w' => w'.cell? ad37 = some (.int .i64 (rd x5_31 0))) (ds := []) #[false, false, false, false, false, false, false, false] (by kernel_rfl) rfl rfl (hx37_0) (fun hHeld => ?_); refine with_tabW impl_ParseInstr.tab17 impl_ParseInstr.bits17 (fun HT_ HW_ => ?_)
      generalize w61.drew = w65 at BK1 BK24 HB HO40 hx37_0 hHeld ⊢
      refine pure_ (i := 0) (N := some 62) (bm_ 8 1) rfl rfl (any_of HT_.out kr_) (fun _ _ _ h => h) (Or.inl ⟨rfl, yi_⟩) pu_ ?_
      refine pure_ (i := 1) (N := some 63) (bm_ 8 3) rfl rfl (any_of HT_.out kr_) (fun _ _ _ h => h) (Or.inl ⟨rfl, yi_⟩) pu_ ?_
      refine pure_ (i := 3) (N := some 65) (bm_ 8 11) rfl rfl (any_of HT_.out kr_) (fun _ _ _ h => h) (Or.inl ⟨rfl, yi_⟩) pu_ ?_
      refine pure_ (i := 4) (N := some 66) (bm_ 8 27) rfl rfl (any_of HT_.out kr_) (fun _ _ _ h => h) (Or.inl ⟨rfl, yi_⟩) pu_ ?_
      refine take_ (i := 2) (N := some 64) (v := ?_) (a' := ?_) (bm_ 8 31) rfl rfl (take_ofW HT_.out HW_.out (by kernel_rfl)) (fun _ _ _ h => h) (Or.inl ⟨by rfl, ?_⟩) hHeld ?_ ?_
      rotate_left
      ·intro w' s0
       go_simp
       with_reducible rfl
      rotate_left
      ·exact pu_
      refine pure_ (i := 5) (N := some 67) (bm_ 8 63) rfl rfl (any_of HT_.out kr_) (fun _ _ _ h => h) (Or.inl ⟨rfl, yi_⟩) pu_ ?_
      refine one_ (i := 6) (N := none) (bm_ 8 127) rfl rfl (one_of HT_.out (by kernel_rfl)) (by decide) (fun K hK => ?_)
      have hs68 : w65.cell? ⟨gb24, 2, none⟩ = some (.int .i64 0) := (blk_cell BK24.out 2).trans rfl
      have hfs68 := blk_frozen BK24.out 2
      have hns68_0 := NB1_24.out
      have hms68_0 := NB24_1.out
      refine skip_ (w1 := ?_) (by rfl) rfl ?_ ?_
      rotate_left
      ·go_simp
       rfl
      refine hK.out _ _ (((cell_far (p := ⟨gb24, _, none⟩) (by first | exact Kd.own_blk NE0_.out | (rw [add_block]; exact Kd.own_blk NE0_.out) | (show (Addr.add _ _).block ≠ _; rw [add_block]; exact Kd.own_blk NE0_.out) | (dsimp only; exact Kd.own_blk NE0_.out)) _).trans (hHeld))) (fun hHeld => ?_)
      clear hK K
      refine pure_ (i := 7) (N := some 5) (bm_ 8 255) rfl rfl (any_of HT_.out kr_) (fun _ _ _ h => h) (Or.inl ⟨rfl, yi_⟩) pu_ ?_
      refine done_ (done_of HT_.out (by kernel_rfl)) ?_
      try go_wp2
      go_meet
      case rel => exact ⟨_, (y38), (rd x5_31 0), H', ⟨by have := HK1.out; have := HJ31.out; first | omega | exact Nat.le_refl _⟩, ⟨by (with_reducible repeat (first | apply Kd.Q_alloc | apply Kd.Q_drewN | apply Kd.Q_drew)); exact Kd.Q_mono (Kd.Q_far (p := ⟨gb24, 2, none⟩) (Kd.Q_types HO40.out BK24.out (by decide)) (fun _ hk => hk.2) (.int .i64 (rd x5_31 0))) (fun _ hk => trivial)⟩, ⟨by (with_reducible repeat (first | refine blk_drewN ?_ _ | refine blk_drew ?_ | refine blk_alloc ?_ _)); refine blk_far ?_ NB1_24.out _; (with_reducible repeat (first | refine blk_drewN ?_ _ | refine blk_drew ?_ | refine blk_alloc ?_ _)); exact BK1.out⟩, ⟨by (with_reducible repeat (first | refine blk_drewN ?_ _ | refine blk_drew ?_ | refine blk_alloc ?_ _)); refine blk_put (cs := #[.int .i64 t23, .int .i64 x25001_31, .int .i64 0, .int .i64 0]) ?_ 2 _ rfl; (with_reducible repeat (first | refine blk_drewN ?_ _ | refine blk_drew ?_ | refine blk_alloc ?_ _)); exact BK24.out⟩, ⟨bw_⟩⟩
     case rest =>
      clear HC58
      try clear c1
      try clear p2
      try clear q2
      try clear hx2
      try clear qi2
      try clear c3
      try clear p3
      try clear q3
      try clear hx3
      try clear qi3
      try clear c4
      try clear c5
      try clear q5
      try clear c6
      try clear q6
      try clear p22
      try clear q22
      try clear hx22
      try clear qi22
      try clear c30
      try clear p32
      try clear q32
      try clear hx32
      try clear qi32
      try clear c34
      try clear c35
      try clear c37
      try clear p37
      try clear q37
      try clear hx37
      try clear qi37
      try clear c39
      try clear c47
      try clear c50
      try clear c51
      try clear c51b0
      try clear c51b1
      try clear c52
      try clear c52b0
      try clear c52b1
      try clear c55
      try clear q55
      try clear c59
      try clear c62
      try clear c63
      try clear c63b0
      try clear c63b1
      try clear c64
      try clear c64b0
      try clear c64b1
      try clear c67
      try clear q67
      try clear hcz48_0 hcz48_1 hcz48_2 hcz48_3
      try clear hcz60_0 hcz60_1 hcz60_2 hcz60_3
      try clear hfz48_0 hfz48_1 hfz48_2 hfz48_3
      try clear hfz60_0 hfz60_1 hfz60_2 hfz60_3
      try clear hx22_0
      try clear hx32_0
      try clear hx37_0
      try clear p2
      try clear p22
      try clear p3
      try clear p32
      try clear p37
      try clear q2
      try clear q22
      try clear q3
      try clear q32
      try clear q37
      try clear q5
      try clear q55
      try clear q67
      obtain ⟨kq, x5_57, x25002_57, HA, HJ57, HO_5, BK1, BK24, HB⟩ := hcut
      cases kq with
      | zero => exact absurd HA.out (by simp [impl_ParseInstr.j2])
      | succ kj57 =>
       have H := HA.out
       clear HA
       simp only [impl_ParseInstr.j2] at H
       replace H := Option.bind_eq_some_iff.mp H
       obtain ⟨t41, A690, H⟩ := H
       replace H : (if t41 = true then (if 0 < (x5_57.length : Int) then (if a0.toList = ([] : List UInt8) then (some (0, 0, 0, 0, false)) else ((impl_InstrText.f kj57 t23 x25001_31 x25002_57 (rd x5_57 0)).bind fun t43 => (if t43.toList = a0.toList then (some (t23, x25001_31, x25002_57, rd x5_57 0, true)) else (some (0, 0, 0, 0, false))))) else (none)) else (if a0.toList = ([] : List UInt8) then (some (0, 0, 0, 0, false)) else ((impl_InstrText.f kj57 t23 x25001_31 x25002_57 0).bind fun t44 => (if t44.toList = a0.toList then (some (t23, x25001_31, x25002_57, 0, true)) else (some (0, 0, 0, 0, false)))))) = some (r1, r2, r3, r4, r5) := H
       have A69 := Aside0.mk A690
       clear A690
       by_cases c70 : t41 = true
       rotate_left
       ·replace c70 := Bool.eq_false_iff.mpr c70
        subst c70
        have H1 : (if a0.toList = ([] : List UInt8) then (some (0, 0, 0, 0, false)) else ((impl_InstrText.f kj57 t23 x25001_31 x25002_57 0).bind fun t44 => (if t44.toList = a0.toList then (some (t23, x25001_31, x25002_57, 0, true)) else (some (0, 0, 0, 0, false))))) = some (r1, r2, r3, r4, r5) := by rw [if_neg (show ¬ (false = true) by decide)] at H; exact H
        clear H
        have H := H1
        clear H1
        by_cases c96 : a0.toList = ([] : List UInt8)
        ·rw [if_pos c96] at H
         have c96b0 : (a0.toList == ([] : List UInt8)) = true := beq_iff_eq.mpr c96
         have c96b1 : (a0.toList != ([] : List UInt8)) = false := bne_eq_false_iff_eq.mpr c96
         clear c96
         simp only [Option.some.injEq, Prod.mk.injEq] at H
         obtain ⟨rfl, rfl, rfl, rfl, rfl⟩ := H
         have hnb97 := NB24_1.out
         have hnc97 := NB1_24.out
         obtain ⟨hcz98_0, hcz98_1, hcz98_2, hcz98_3, hfz98_0, hfz98_1, hfz98_2, hfz98_3⟩ := bc4_ BK24.out
         go_wp2_with (first | ((with_reducible refine gate_callee (f := 38) rfl ?_); refine goesL_ (some 69) rfl rfl Tryd.func38 (by kernel_rfl) rfl #[.agg #[.int .i64 t23, .int .i64 x25001_31, .int .i64 x25002_57, .int .i64 0]] rfl ar_ ?_; (with_reducible refine (impl_Instr_usesN.calls t23 x25001_31 x25002_57 0 false _ A69.out).mono ?_); rintro e w99 ⟨rfl, hb⟩; refine ⟨_, rfl, ?_⟩; have n0_ := Aside0.mk (Kd.Q_below (by (with_reducible repeat (first | apply Kd.Q_alloc | apply Kd.Q_drewN | apply Kd.Q_drew)); exact HO_5.out) hb); have n1_ := bb_ BK1.out hb; have n2_ := bb_ BK24.out hb; have n3_ := bs_ hb; clear HO_5; clear BK1; clear BK24; clear HB; have HO_5 := n0_; have BK1 := n1_; have BK24 := n2_; have HB := n3_; clear n0_ n1_ n2_ n3_; (try clear hb); (try clear hb2); (try clear hk); (try clear hi); obtain ⟨hcz100_0, hcz100_1, hcz100_2, hcz100_3, hfz100_0, hfz100_1, hfz100_2, hfz100_3⟩ := bc4_ BK1.out))
         refine bodyPost_ret (results_ct rfl _ _ gb1 37 #[.int .i64 0, .int .i64 0, .int .i64 0, .int .i64 0] (0, 0) _ rfl (by (with_reducible repeat (first | refine blk_drewN ?_ _ | refine blk_drew ?_ | refine blk_alloc ?_ _)); refine blk_put (cs := #[.int .i64 0, .int .i64 0, .int .i64 0, .int .i64 x2003_1]) ?_ 3 _ rfl; (with_reducible repeat (first | refine blk_drewN ?_ _ | refine blk_drew ?_ | refine blk_alloc ?_ _)); refine blk_put (cs := #[.int .i64 0, .int .i64 0, .int .i64 x2002_1, .int .i64 x2003_1]) ?_ 2 _ rfl; (with_reducible repeat (first | refine blk_drewN ?_ _ | refine blk_drew ?_ | refine blk_alloc ?_ _)); refine blk_put (cs := #[.int .i64 0, .int .i64 x2001_1, .int .i64 x2002_1, .int .i64 x2003_1]) ?_ 1 _ rfl; (with_reducible repeat (first | refine blk_drewN ?_ _ | refine blk_drew ?_ | refine blk_alloc ?_ _)); refine blk_put (cs := #[.int .i64 x2000_1, .int .i64 x2001_1, .int .i64 x2002_1, .int .i64 x2003_1]) ?_ 0 _ rfl; (with_reducible repeat (first | refine blk_drewN ?_ _ | refine blk_drew ?_ | refine blk_alloc ?_ _)); exact BK1.out) Tryd.underlying37 rfl (by kernel_rfl)) rfl ?_
         exact ⟨rr_, bw_⟩
        rw [if_neg c96] at H
        have c96b0 : (a0.toList == ([] : List UInt8)) = false := beq_eq_false_iff_ne.mpr c96
        have c96b1 : (a0.toList != ([] : List UInt8)) = true := bne_iff_ne.mpr c96
        replace H := Option.bind_eq_some_iff.mp H
        obtain ⟨t44, A1010, H⟩ := H
        replace H : (if t44.toList = a0.toList then (some (t23, x25001_31, x25002_57, 0, true)) else (some (0, 0, 0, 0, false))) = some (r1, r2, r3, r4, r5) := H
        have A101 := Aside0.mk A1010
        clear A1010
        by_cases c102 : t44.toList = a0.toList
        rotate_left
        ·rw [if_neg c102] at H
         have c102b0 : (t44.toList == a0.toList) = false := beq_eq_false_iff_ne.mpr c102
         have c102b1 : (t44.toList != a0.toList) = true := bne_iff_ne.mpr c102
         simp only [Option.some.injEq, Prod.mk.injEq] at H
         obtain ⟨rfl, rfl, rfl, rfl, rfl⟩ := H
         have hnb110 := NB24_1.out
         have hnc110 := NB1_24.out
         obtain ⟨hcz111_0, hcz111_1, hcz111_2, hcz111_3, hfz111_0, hfz111_1, hfz111_2, hfz111_3⟩ := bc4_ BK24.out
         go_wp2_with (first | ((with_reducible refine gate_callee (f := 38) rfl ?_); refine goesL_ (some 69) rfl rfl Tryd.func38 (by kernel_rfl) rfl #[.agg #[.int .i64 t23, .int .i64 x25001_31, .int .i64 x25002_57, .int .i64 0]] rfl ar_ ?_; (with_reducible refine (impl_Instr_usesN.calls t23 x25001_31 x25002_57 0 false _ A69.out).mono ?_); rintro e w112 ⟨rfl, hb⟩; refine ⟨_, rfl, ?_⟩; have n0_ := Aside0.mk (Kd.Q_below (by (with_reducible repeat (first | apply Kd.Q_alloc | apply Kd.Q_drewN | apply Kd.Q_drew)); exact HO_5.out) hb); have n1_ := bb_ BK1.out hb; have n2_ := bb_ BK24.out hb; have n3_ := bs_ hb; clear HO_5; clear BK1; clear BK24; clear HB; have HO_5 := n0_; have BK1 := n1_; have BK24 := n2_; have HB := n3_; clear n0_ n1_ n2_ n3_; (try clear hb); (try clear hb2); (try clear hk); (try clear hi); obtain ⟨hcz113_0, hcz113_1, hcz113_2, hcz113_3, hfz113_0, hfz113_1, hfz113_2, hfz113_3⟩ := bc4_ BK24.out) | (go_at_call 19; (with_reducible refine (impl_InstrText.calls (hE_ := ee_) kj57 t23 x25001_31 x25002_57 0 t44 _ A101.out).mono ?_); rintro e w114 ⟨rfl, hb⟩; have n0_ := Aside0.mk (Kd.Q_below (by (with_reducible repeat (first | apply Kd.Q_alloc | apply Kd.Q_drewN | apply Kd.Q_drew)); exact HO_5.out) hb); have n1_ := bb_ BK1.out hb; have n2_ := bb_ BK24.out hb; have n3_ := bs_ hb; clear HO_5; clear BK1; clear BK24; clear HB; have HO_5 := n0_; have BK1 := n1_; have BK24 := n2_; have HB := n3_; clear n0_ n1_ n2_ n3_; (try clear hb); (try clear hb2); (try clear hk); (try clear hi); obtain ⟨hcz115_0, hcz115_1, hcz115_2, hcz115_3, hfz115_0, hfz115_1, hfz115_2, hfz115_3⟩ := bc4_ BK1.out))
         refine bodyPost_ret (results_ct rfl _ _ gb1 37 #[.int .i64 0, .int .i64 0, .int .i64 0, .int .i64 0] (0, 0) _ rfl (by (with_reducible repeat (first | refine blk_drewN ?_ _ | refine blk_drew ?_ | refine blk_alloc ?_ _)); refine blk_put (cs := #[.int .i64 0, .int .i64 0, .int .i64 0, .int .i64 x2003_1]) ?_ 3 _ rfl; (with_reducible repeat (first | refine blk_drewN ?_ _ | refine blk_drew ?_ | refine blk_alloc ?_ _)); refine blk_put (cs := #[.int .i64 0, .int .i64 0, .int .i64 x2002_1, .int .i64 x2003_1]) ?_ 2 _ rfl; (with_reducible repeat (first | refine blk_drewN ?_ _ | refine blk_drew ?_ | refine blk_alloc ?_ _)); refine blk_put (cs := #[.int .i64 0, .int .i64 x2001_1, .int .i64 x2002_1, .int .i64 x2003_1]) ?_ 1 _ rfl; (with_reducible repeat (first | refine blk_drewN ?_ _ | refine blk_drew ?_ | refine blk_alloc ?_ _)); refine blk_put (cs := #[.int .i64 x2000_1, .int .i64 x2001_1, .int .i64 x2002_1, .int .i64 x2003_1]) ?_ 0 _ rfl; (with_reducible repeat (first | refine blk_drewN ?_ _ | refine blk_drew ?_ | refine blk_alloc ?_ _)); exact BK1.out) Tryd.underlying37 rfl (by kernel_rfl)) rfl ?_
         exact ⟨rr_, bw_⟩
        rw [if_pos c102] at H
        have c102b0 : (t44.toList == a0.toList) = true := beq_iff_eq.mpr c102
        have c102b1 : (t44.toList != a0.toList) = false := bne_eq_false_iff_eq.mpr c102
        clear c102
        simp only [Option.some.injEq, Prod.mk.injEq] at H
        obtain ⟨rfl, rfl, rfl, rfl, rfl⟩ := H
        have hnb103 := NB24_1.out
        have hnc103 := NB1_24.out
        obtain ⟨hcz104_0, hcz104_1, hcz104_2, hcz104_3, hfz104_0, hfz104_1, hfz104_2, hfz104_3⟩ := bc4_ BK24.out
        go_wp2_with (first | ((with_reducible refine gate_callee (f := 38) rfl ?_); refine goesL_ (some 69) rfl rfl Tryd.func38 (by kernel_rfl) rfl #[.agg #[.int .i64 t23, .int .i64 x25001_31, .int .i64 x25002_57, .int .i64 0]] rfl ar_ ?_; (with_reducible refine (impl_Instr_usesN.calls t23 x25001_31 x25002_57 0 false _ A69.out).mono ?_); rintro e w105 ⟨rfl, hb⟩; refine ⟨_, rfl, ?_⟩; have n0_ := Aside0.mk (Kd.Q_below (by (with_reducible repeat (first | apply Kd.Q_alloc | apply Kd.Q_drewN | apply Kd.Q_drew)); exact HO_5.out) hb); have n1_ := bb_ BK1.out hb; have n2_ := bb_ BK24.out hb; have n3_ := bs_ hb; clear HO_5; clear BK1; clear BK24; clear HB; have HO_5 := n0_; have BK1 := n1_; have BK24 := n2_; have HB := n3_; clear n0_ n1_ n2_ n3_; (try clear hb); (try clear hb2); (try clear hk); (try clear hi); obtain ⟨hcz106_0, hcz106_1, hcz106_2, hcz106_3, hfz106_0, hfz106_1, hfz106_2, hfz106_3⟩ := bc4_ BK24.out) | (go_at_call 19; (with_reducible refine (impl_InstrText.calls (hE_ := ee_) kj57 t23 x25001_31 x25002_57 0 t44 _ A101.out).mono ?_); rintro e w107 ⟨rfl, hb⟩; have n0_ := Aside0.mk (Kd.Q_below (by (with_reducible repeat (first | apply Kd.Q_alloc | apply Kd.Q_drewN | apply Kd.Q_drew)); exact HO_5.out) hb); have n1_ := bb_ BK1.out hb; have n2_ := bb_ BK24.out hb; have n3_ := bs_ hb; clear HO_5; clear BK1; clear BK24; clear HB; have HO_5 := n0_; have BK1 := n1_; have BK24 := n2_; have HB := n3_; clear n0_ n1_ n2_ n3_; (try clear hb); (try clear hb2); (try clear hk); (try clear hi); obtain ⟨hcz108_0, hcz108_1, hcz108_2, hcz108_3, hfz108_0, hfz108_1, hfz108_2, hfz108_3⟩ := bc4_ BK24.out; obtain ⟨hcz109_0, hcz109_1, hcz109_2, hcz109_3, hfz109_0, hfz109_1, hfz109_2, hfz109_3⟩ := bc4_ BK1.out))
        refine bodyPost_ret (results_ct rfl _ _ gb1 37 #[.int .i64 t23, .int .i64 x25001_31, .int .i64 x25002_57, .int .i64 0] (0, 0) _ rfl (by (with_reducible repeat (first | refine blk_drewN ?_ _ | refine blk_drew ?_ | refine blk_alloc ?_ _)); refine blk_put (cs := #[.int .i64 t23, .int .i64 x25001_31, .int .i64 x25002_57, .int .i64 x2003_1]) ?_ 3 _ rfl; (with_reducible repeat (first | refine blk_drewN ?_ _ | refine blk_drew ?_ | refine blk_alloc ?_ _)); refine blk_put (cs := #[.int .i64 t23, .int .i64 x25001_31, .int .i64 x2002_1, .int .i64 x2003_1]) ?_ 2 _ rfl; (with_reducible repeat (first | refine blk_drewN ?_ _ | refine blk_drew ?_ | refine blk_alloc ?_ _)); refine blk_put (cs := #[.int .i64 t23, .int .i64 x2001_1, .int .i64 x2002_1, .int .i64 x2003_1]) ?_ 1 _ rfl; (with_reducible repeat (first | refine blk_drewN ?_ _ | refine blk_drew ?_ | refine blk_alloc ?_ _)); refine blk_put (cs := #[.int .i64 x2000_1, .int .i64 x2001_1, .int .i64 x2002_1, .int .i64 x2003_1]) ?_ 0 _ rfl; (with_reducible repeat (first | refine blk_drewN ?_ _ | refine blk_drew ?_ | refine blk_alloc ?_ _)); exact BK1.out) Tryd.underlying37 rfl (by kernel_rfl)) rfl ?_
        exact ⟨rr_, bw_⟩
       subst c70
       have H1 : (if 0 < (x5_57.length : Int) then (if a0.toList = ([] : List UInt8) then (some (0, 0, 0, 0, false)) else ((impl_InstrText.f kj57 t23 x25001_31 x25002_57 (rd x5_57 0)).bind fun t43 => (if t43.toList = a0.toList then (some (t23, x25001_31, x25002_57, rd x5_57 0, true)) else (some (0, 0, 0, 0, false))))) else (none)) = some (r1, r2, r3, r4, r5) := by rw [if_pos rfl] at H; exact H
       clear H
       have H := H1
       clear H1
       by_cases c71 : 0 < (x5_57.length : Int)
       rotate_left
       ·rw [if_neg c71] at H
        exact absurd H (by simp)
       rw [if_pos c71] at H
       have c71b0 : decide (0 < (x5_57.length : Int)) = true := decide_eq_true c71
       have c71b1 : decide (0 < x5_57.length) = true := decide_eq_true (by omega)
       clear c71
       by_cases c72 : a0.toList = ([] : List UInt8)
       ·rw [if_pos c72] at H
        have c72b0 : (a0.toList == ([] : List UInt8)) = true := beq_iff_eq.mpr c72
        have c72b1 : (a0.toList != ([] : List UInt8)) = false := bne_eq_false_iff_eq.mpr c72
        clear c72
        simp only [Option.some.injEq, Prod.mk.injEq] at H
        obtain ⟨rfl, rfl, rfl, rfl, rfl⟩ := H
        have hnb73 := NB24_1.out
        have hnc73 := NB1_24.out
        obtain ⟨hcz74_0, hcz74_1, hcz74_2, hcz74_3, hfz74_0, hfz74_1, hfz74_2, hfz74_3⟩ := bc4_ BK24.out
        go_wp2_with (first | ((with_reducible refine gate_callee (f := 38) rfl ?_); refine goesL_ (some 69) rfl rfl Tryd.func38 (by kernel_rfl) rfl #[.agg #[.int .i64 t23, .int .i64 x25001_31, .int .i64 x25002_57, .int .i64 0]] rfl ar_ ?_; (with_reducible refine (impl_Instr_usesN.calls t23 x25001_31 x25002_57 0 true _ A69.out).mono ?_); rintro e w75 ⟨rfl, hb⟩; refine ⟨_, rfl, ?_⟩; have n0_ := Aside0.mk (Kd.Q_below (by (with_reducible repeat (first | apply Kd.Q_alloc | apply Kd.Q_drewN | apply Kd.Q_drew)); exact HO_5.out) hb); have n1_ := bb_ BK1.out hb; have n2_ := bb_ BK24.out hb; have n3_ := bs_ hb; clear HO_5; clear BK1; clear BK24; clear HB; have HO_5 := n0_; have BK1 := n1_; have BK24 := n2_; have HB := n3_; clear n0_ n1_ n2_ n3_; (try clear hb); (try clear hb2); (try clear hk); (try clear hi); obtain ⟨Ao76, co76, eo76, _⟩ := Kd.Q_slice HO_5.out; subst eo76; have p42 : 0 ≤ (0 : Int) := (by omega); have q42 : 0 < (x5_57.length : Int) := od_; obtain ⟨ad42, e42, hx42_0⟩ := Kd.at_int (Kd.Q_reads' HO_5.out).2.2 0 p42 q42; cases e42; have qi42 : (0 < x5_57.length) = True := eq_true (by omega); (try rw [show ((0 : Int)).toNat = 0 from rfl] at hx42_0); (try rw [Addr.add_zero'] at hx42_0); replace p42 := eq_true p42; replace q42 := eq_true q42; obtain ⟨hcz77_0, hcz77_1, hcz77_2, hcz77_3, hfz77_0, hfz77_1, hfz77_2, hfz77_3⟩ := bc4_ BK24.out; obtain ⟨hcz78_0, hcz78_1, hcz78_2, hcz78_3, hfz78_0, hfz78_1, hfz78_2, hfz78_3⟩ := bc4_ BK1.out))
        refine bodyPost_ret (results_ct rfl _ _ gb1 37 #[.int .i64 0, .int .i64 0, .int .i64 0, .int .i64 0] (0, 0) _ rfl (by (with_reducible repeat (first | refine blk_drewN ?_ _ | refine blk_drew ?_ | refine blk_alloc ?_ _)); refine blk_put (cs := #[.int .i64 0, .int .i64 0, .int .i64 0, .int .i64 x2003_1]) ?_ 3 _ rfl; (with_reducible repeat (first | refine blk_drewN ?_ _ | refine blk_drew ?_ | refine blk_alloc ?_ _)); refine blk_put (cs := #[.int .i64 0, .int .i64 0, .int .i64 x2002_1, .int .i64 x2003_1]) ?_ 2 _ rfl; (with_reducible repeat (first | refine blk_drewN ?_ _ | refine blk_drew ?_ | refine blk_alloc ?_ _)); refine blk_put (cs := #[.int .i64 0, .int .i64 x2001_1, .int .i64 x2002_1, .int .i64 x2003_1]) ?_ 1 _ rfl; (with_reducible repeat (first | refine blk_drewN ?_ _ | refine blk_drew ?_ | refine blk_alloc ?_ _)); refine blk_put (cs := #[.int .i64 x2000_1, .int .i64 x2001_1, .int .i64 x2002_1, .int .i64 x2003_1]) ?_ 0 _ rfl; (with_reducible repeat (first | refine blk_drewN ?_ _ | refine blk_drew ?_ | refine blk_alloc ?_ _)); refine blk_far ?_ NB1_24.out _; (with_reducible repeat (first | refine blk_drewN ?_ _ | refine blk_drew ?_ | refine blk_alloc ?_ _)); exact BK1.out) Tryd.underlying37 rfl (by kernel_rfl)) rfl ?_
        exact ⟨rr_, bw_⟩
       rw [if_neg c72] at H
       have c72b0 : (a0.toList == ([] : List UInt8)) = false := beq_eq_false_iff_ne.mpr c72
       have c72b1 : (a0.toList != ([] : List UInt8)) = true := bne_iff_ne.mpr c72
       replace H := Option.bind_eq_some_iff.mp H
       obtain ⟨t43, A790, H⟩ := H
       replace H : (if t43.toList = a0.toList then (some (t23, x25001_31, x25002_57, rd x5_57 0, true)) else (some (0, 0, 0, 0, false))) = some (r1, r2, r3, r4, r5) := H
       have A79 := Aside0.mk A790
       clear A790
       by_cases c80 : t43.toList = a0.toList
       rotate_left
       ·rw [if_neg c80] at H
        have c80b0 : (t43.toList == a0.toList) = false := beq_eq_false_iff_ne.mpr c80
        have c80b1 : (t43.toList != a0.toList) = true := bne_iff_ne.mpr c80
        simp only [Option.some.injEq, Prod.mk.injEq] at H
        obtain ⟨rfl, rfl, rfl, rfl, rfl⟩ := H
        have hnb89 := NB24_1.out
        have hnc89 := NB1_24.out
        obtain ⟨hcz90_0, hcz90_1, hcz90_2, hcz90_3, hfz90_0, hfz90_1, hfz90_2, hfz90_3⟩ := bc4_ BK24.out
        go_wp2_with (first | ((with_reducible refine gate_callee (f := 38) rfl ?_); refine goesL_ (some 69) rfl rfl Tryd.func38 (by kernel_rfl) rfl #[.agg #[.int .i64 t23, .int .i64 x25001_31, .int .i64 x25002_57, .int .i64 0]] rfl ar_ ?_; (with_reducible refine (impl_Instr_usesN.calls t23 x25001_31 x25002_57 0 true _ A69.out).mono ?_); rintro e w91 ⟨rfl, hb⟩; refine ⟨_, rfl, ?_⟩; have n0_ := Aside0.mk (Kd.Q_below (by (with_reducible repeat (first | apply Kd.Q_alloc | apply Kd.Q_drewN | apply Kd.Q_drew)); exact HO_5.out) hb); have n1_ := bb_ BK1.out hb; have n2_ := bb_ BK24.out hb; have n3_ := bs_ hb; clear HO_5; clear BK1; clear BK24; clear HB; have HO_5 := n0_; have BK1 := n1_; have BK24 := n2_; have HB := n3_; clear n0_ n1_ n2_ n3_; (try clear hb); (try clear hb2); (try clear hk); (try clear hi); obtain ⟨Ao92, co92, eo92, _⟩ := Kd.Q_slice HO_5.out; subst eo92; have p42 : 0 ≤ (0 : Int) := (by omega); have q42 : 0 < (x5_57.length : Int) := od_; obtain ⟨ad42, e42, hx42_0⟩ := Kd.at_int (Kd.Q_reads' HO_5.out).2.2 0 p42 q42; cases e42; have qi42 : (0 < x5_57.length) = True := eq_true (by omega); (try rw [show ((0 : Int)).toNat = 0 from rfl] at hx42_0); (try rw [Addr.add_zero'] at hx42_0); replace p42 := eq_true p42; replace q42 := eq_true q42; obtain ⟨hcz93_0, hcz93_1, hcz93_2, hcz93_3, hfz93_0, hfz93_1, hfz93_2, hfz93_3⟩ := bc4_ BK24.out) | (go_at_call 19; (with_reducible refine (impl_InstrText.calls (hE_ := ee_) kj57 t23 x25001_31 x25002_57 (rd x5_57 0) t43 _ A79.out).mono ?_); rintro e w94 ⟨rfl, hb⟩; have n0_ := Aside0.mk (Kd.Q_below (by (with_reducible repeat (first | apply Kd.Q_alloc | apply Kd.Q_drewN | apply Kd.Q_drew)); exact (Kd.Q_mono (Kd.Q_far (p := ⟨gb24, 3, none⟩) (Kd.Q_types HO_5.out BK24.out (by decide)) (fun _ hk => hk.2) (.int .i64 (rd x5_57 0))) (fun _ h_ => h_.1))) hb); have n1_ := Aside0.mk (blk_below (g := gb1) (o := .cells #[.int .i64 x2000_1, .int .i64 x2001_1, .int .i64 x2002_1, .int .i64 x2003_1] 37 (0, 0)) (by (with_reducible repeat (first | refine blk_drewN ?_ _ | refine blk_drew ?_ | refine blk_alloc ?_ _)); refine blk_far ?_ NB1_24.out _; (with_reducible repeat (first | refine blk_drewN ?_ _ | refine blk_drew ?_ | refine blk_alloc ?_ _)); exact BK1.out) hb); have n2_ := Aside0.mk (blk_below (g := gb24) (o := .cells #[.int .i64 t23, .int .i64 x25001_31, .int .i64 x25002_57, .int .i64 (rd x5_57 0)] 37 (0, 0)) (by (with_reducible repeat (first | refine blk_drewN ?_ _ | refine blk_drew ?_ | refine blk_alloc ?_ _)); refine blk_put (cs := #[.int .i64 t23, .int .i64 x25001_31, .int .i64 x25002_57, .int .i64 0]) ?_ 3 _ rfl; (with_reducible repeat (first | refine blk_drewN ?_ _ | refine blk_drew ?_ | refine blk_alloc ?_ _)); exact BK24.out) hb); have n3_ := bs_ hb; clear HO_5; clear BK1; clear BK24; clear HB; have HO_5 := n0_; have BK1 := n1_; have BK24 := n2_; have HB := n3_; clear n0_ n1_ n2_ n3_; (try clear hb); (try clear hb2); (try clear hk); (try clear hi); obtain ⟨hcz95_0, hcz95_1, hcz95_2, hcz95_3, hfz95_0, hfz95_1, hfz95_2, hfz95_3⟩ := bc4_ BK1.out))
        refine bodyPost_ret (results_ct rfl _ _ gb1 37 #[.int .i64 0, .int .i64 0, .int .i64 0, .int .i64 0] (0, 0) _ rfl (by (with_reducible repeat (first | refine blk_drewN ?_ _ | refine blk_drew ?_ | refine blk_alloc ?_ _)); refine blk_put (cs := #[.int .i64 0, .int .i64 0, .int .i64 0, .int .i64 x2003_1]) ?_ 3 _ rfl; (with_reducible repeat (first | refine blk_drewN ?_ _ | refine blk_drew ?_ | refine blk_alloc ?_ _)); refine blk_put (cs := #[.int .i64 0, .int .i64 0, .int .i64 x2002_1, .int .i64 x2003_1]) ?_ 2 _ rfl; (with_reducible repeat (first | refine blk_drewN ?_ _ | refine blk_drew ?_ | refine blk_alloc ?_ _)); refine blk_put (cs := #[.int .i64 0, .int .i64 x2001_1, .int .i64 x2002_1, .int .i64 x2003_1]) ?_ 1 _ rfl; (with_reducible repeat (first | refine blk_drewN ?_ _ | refine blk_drew ?_ | refine blk_alloc ?_ _)); refine blk_put (cs := #[.int .i64 x2000_1, .int .i64 x2001_1, .int .i64 x2002_1, .int .i64 x2003_1]) ?_ 0 _ rfl; (with_reducible repeat (first | refine blk_drewN ?_ _ | refine blk_drew ?_ | refine blk_alloc ?_ _)); exact BK1.out) Tryd.underlying37 rfl (by kernel_rfl)) rfl ?_
        exact ⟨rr_, bw_⟩
       rw [if_pos c80] at H
       have c80b0 : (t43.toList == a0.toList) = true := beq_iff_eq.mpr c80
       have c80b1 : (t43.toList != a0.toList) = false := bne_eq_false_iff_eq.mpr c80
       clear c80
       simp only [Option.some.injEq, Prod.mk.injEq] at H
       obtain ⟨rfl, rfl, rfl, rfl, rfl⟩ := H
       have hnb81 := NB24_1.out
       have hnc81 := NB1_24.out
       obtain ⟨hcz82_0, hcz82_1, hcz82_2, hcz82_3, hfz82_0, hfz82_1, hfz82_2, hfz82_3⟩ := bc4_ BK24.out
       go_wp2_with (first | ((with_reducible refine gate_callee (f := 38) rfl ?_); refine goesL_ (some 69) rfl rfl Tryd.func38 (by kernel_rfl) rfl #[.agg #[.int .i64 t23, .int .i64 x25001_31, .int .i64 x25002_57, .int .i64 0]] rfl ar_ ?_; (with_reducible refine (impl_Instr_usesN.calls t23 x25001_31 x25002_57 0 true _ A69.out).mono ?_); rintro e w83 ⟨rfl, hb⟩; refine ⟨_, rfl, ?_⟩; have n0_ := Aside0.mk (Kd.Q_below (by (with_reducible repeat (first | apply Kd.Q_alloc | apply Kd.Q_drewN | apply Kd.Q_drew)); exact HO_5.out) hb); have n1_ := bb_ BK1.out hb; have n2_ := bb_ BK24.out hb; have n3_ := bs_ hb; clear HO_5; clear BK1; clear BK24; clear HB; have HO_5 := n0_; have BK1 := n1_; have BK24 := n2_; have HB := n3_; clear n0_ n1_ n2_ n3_; (try clear hb); (try clear hb2); (try clear hk); (try clear hi); obtain ⟨Ao84, co84, eo84, _⟩ := Kd.Q_slice HO_5.out; subst eo84; have p42 : 0 ≤ (0 : Int) := (by omega); have q42 : 0 < (x5_57.length : Int) := od_; obtain ⟨ad42, e42, hx42_0⟩ := Kd.at_int (Kd.Q_reads' HO_5.out).2.2 0 p42 q42; cases e42; have qi42 : (0 < x5_57.length) = True := eq_true (by omega); (try rw [show ((0 : Int)).toNat = 0 from rfl] at hx42_0); (try rw [Addr.add_zero'] at hx42_0); replace p42 := eq_true p42; replace q42 := eq_true q42; obtain ⟨hcz85_0, hcz85_1, hcz85_2, hcz85_3, hfz85_0, hfz85_1, hfz85_2, hfz85_3⟩ := bc4_ BK24.out) | (go_at_call 19; (with_reducible refine (impl_InstrText.calls (hE_ := ee_) kj57 t23 x25001_31 x25002_57 (rd x5_57 0) t43 _ A79.out).mono ?_); rintro e w86 ⟨rfl, hb⟩; have n0_ := Aside0.mk (Kd.Q_below (by (with_reducible repeat (first | apply Kd.Q_alloc | apply Kd.Q_drewN | apply Kd.Q_drew)); exact (Kd.Q_mono (Kd.Q_far (p := ⟨gb24, 3, none⟩) (Kd.Q_types HO_5.out BK24.out (by decide)) (fun _ hk => hk.2) (.int .i64 (rd x5_57 0))) (fun _ h_ => h_.1))) hb); have n1_ := Aside0.mk (blk_below (g := gb1) (o := .cells #[.int .i64 x2000_1, .int .i64 x2001_1, .int .i64 x2002_1, .int .i64 x2003_1] 37 (0, 0)) (by (with_reducible repeat (first | refine blk_drewN ?_ _ | refine blk_drew ?_ | refine blk_alloc ?_ _)); refine blk_far ?_ NB1_24.out _; (with_reducible repeat (first | refine blk_drewN ?_ _ | refine blk_drew ?_ | refine blk_alloc ?_ _)); exact BK1.out) hb); have n2_ := Aside0.mk (blk_below (g := gb24) (o := .cells #[.int .i64 t23, .int .i64 x25001_31, .int .i64 x25002_57, .int .i64 (rd x5_57 0)] 37 (0, 0)) (by (with_reducible repeat (first | refine blk_drewN ?_ _ | refine blk_drew ?_ | refine blk_alloc ?_ _)); refine blk_put (cs := #[.int .i64 t23, .int .i64 x25001_31, .int .i64 x25002_57, .int .i64 0]) ?_ 3 _ rfl; (with_reducible repeat (first | refine blk_drewN ?_ _ | refine blk_drew ?_ | refine blk_alloc ?_ _)); exact BK24.out) hb); have n3_ := bs_ hb; clear HO_5; clear BK1; clear BK24; clear HB; have HO_5 := n0_; have BK1 := n1_; have BK24 := n2_; have HB := n3_; clear n0_ n1_ n2_ n3_; (try clear hb); (try clear hb2); (try clear hk); (try clear hi); obtain ⟨hcz87_0, hcz87_1, hcz87_2, hcz87_3, hfz87_0, hfz87_1, hfz87_2, hfz87_3⟩ := bc4_ BK24.out; obtain ⟨hcz88_0, hcz88_1, hcz88_2, hcz88_3, hfz88_0, hfz88_1, hfz88_2, hfz88_3⟩ := bc4_ BK1.out))
       refine bodyPost_ret (results_ct rfl _ _ gb1 37 #[.int .i64 t23, .int .i64 x25001_31, .int .i64 x25002_57, .int .i64 (rd x5_57 0)] (0, 0) _ rfl (by (with_reducible repeat (first | refine blk_drewN ?_ _ | refine blk_drew ?_ | refine blk_alloc ?_ _)); refine blk_put (cs := #[.int .i64 t23, .int .i64 x25001_31, .int .i64 x25002_57, .int .i64 x2003_1]) ?_ 3 _ rfl; (with_reducible repeat (first | refine blk_drewN ?_ _ | refine blk_drew ?_ | refine blk_alloc ?_ _)); refine blk_put (cs := #[.int .i64 t23, .int .i64 x25001_31, .int .i64 x2002_1, .int .i64 x2003_1]) ?_ 2 _ rfl; (with_reducible repeat (first | refine blk_drewN ?_ _ | refine blk_drew ?_ | refine blk_alloc ?_ _)); refine blk_put (cs := #[.int .i64 t23, .int .i64 x2001_1, .int .i64 x2002_1, .int .i64 x2003_1]) ?_ 1 _ rfl; (with_reducible repeat (first | refine blk_drewN ?_ _ | refine blk_drew ?_ | refine blk_alloc ?_ _)); refine blk_put (cs := #[.int .i64 x2000_1, .int .i64 x2001_1, .int .i64 x2002_1, .int .i64 x2003_1]) ?_ 0 _ rfl; (with_reducible repeat (first | refine blk_drewN ?_ _ | refine blk_drew ?_ | refine blk_alloc ?_ _)); exact BK1.out) Tryd.underlying37 rfl (by kernel_rfl)) rfl ?_
       exact ⟨rr_, bw_⟩

end Go.Proofs.YtbgclnjnngolmaaDoor.P
