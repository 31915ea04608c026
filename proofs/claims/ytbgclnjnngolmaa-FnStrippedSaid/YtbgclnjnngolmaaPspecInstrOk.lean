-- Written by mp.py (the session's own driver over the kit's printer) for the seat Ytbgclnjnngolmaa.
import Derived.Test.YtbgclnjnngolmaaK
import Derived.Test.YtbgclnjnngolmaaE
import Derived.Test.YtbgclnjnngolmaaPlawsbig
import Derived.Test.YtbgclnjnngolmaaPspecl02Named
namespace Go.Proofs.Ytbgclnjnngolmaa.P
open Go.RowKit Go.Proofs.YtbgclnjnngolmaaW.PrintWords Go.Proofs.YtbgclnjnngolmaaW.PrintLast Go.Proofs.YtbgclnjnngolmaaW.PrintMore
attribute [local go_sem] max2_int min2_int max_two min_two max_three min_three max_four min_four
set_option linter.unusedVariables false
set_option linter.unusedSimpArgs false

/-! ### spec_InstrOk: function 32 -/
mutual
def spec_InstrOk.j0 : Nat → Int → Int → Bool → Int → Int → Int → Int → Option (Bool)
 | 0, _, _, _, _, _, _, _ => none
 | k + 1, x1, x2, x20, x2000, x2001, x2002, x2003 => if x20 = true then (some false) else ((spec_l01In.f x2001 0 3).bind fun t5 => (if t5 = true then ((spec_l01In.f x2002 0 3).bind fun t6 => (spec_InstrOk.j1 k x1 x2 (!t6) x2000 x2001 x2002 x2003)) else (spec_InstrOk.j1 k x1 x2 true x2000 x2001 x2002 x2003)))
def spec_InstrOk.j1 : Nat → Int → Int → Bool → Int → Int → Int → Int → Option (Bool)
 | 0, _, _, _, _, _, _, _ => none
 | k + 1, x1, x2, x30, x2000, x2001, x2002, x2003 => if x30 = true then (some false) else ((spec_l02Named.f k x2000 114).bind fun t7 => (if t7 = true then ((spec_l02Named.f k x2000 115).bind fun t8 => (if t8 = true then ((spec_l02Named.f k x2000 110).bind fun t9 => (if t9 = true then (spec_InstrOk.j2 k x1 x2 false x2000 x2001 x2002 x2003) else (spec_InstrOk.j2 k x1 x2 (x2003 != 0) x2000 x2001 x2002 x2003))) else (if x2002 = 0 then ((spec_l02Named.f k x2000 110).bind fun t10 => (if t10 = true then (spec_InstrOk.j2 k x1 x2 false x2000 x2001 x2002 x2003) else (spec_InstrOk.j2 k x1 x2 (x2003 != 0) x2000 x2001 x2002 x2003))) else (spec_InstrOk.j2 k x1 x2 true x2000 x2001 x2002 x2003)))) else (if x2001 = 0 then ((spec_l02Named.f k x2000 115).bind fun t11 => (if t11 = true then ((spec_l02Named.f k x2000 110).bind fun t12 => (if t12 = true then (spec_InstrOk.j2 k x1 x2 false x2000 x2001 x2002 x2003) else (spec_InstrOk.j2 k x1 x2 (x2003 != 0) x2000 x2001 x2002 x2003))) else (if x2002 = 0 then ((spec_l02Named.f k x2000 110).bind fun t13 => (if t13 = true then (spec_InstrOk.j2 k x1 x2 false x2000 x2001 x2002 x2003) else (spec_InstrOk.j2 k x1 x2 (x2003 != 0) x2000 x2001 x2002 x2003))) else (spec_InstrOk.j2 k x1 x2 true x2000 x2001 x2002 x2003)))) else (spec_InstrOk.j2 k x1 x2 true x2000 x2001 x2002 x2003))))
def spec_InstrOk.j2 : Nat → Int → Int → Bool → Int → Int → Int → Int → Option (Bool)
 | 0, _, _, _, _, _, _, _ => none
 | k + 1, x1, x2, x61, x2000, x2001, x2002, x2003 => if x61 = true then (some false) else (if x2000 = 0 then ((spec_l01In.f x2003 (-1000) 1000).bind fun t14 => (some t14)) else (if x2000 = 2 then (spec_InstrOk.j3 k x1 x2 x2000 (x2000 == 2) x2000 x2001 x2002 x2003) else (if x2000 = 3 then (spec_InstrOk.j3 k x1 x2 x2000 (x2000 == 3) x2000 x2001 x2002 x2003) else (if x2000 = 5 then (spec_InstrOk.j3 k x1 x2 x2000 (x2000 == 5) x2000 x2001 x2002 x2003) else (spec_InstrOk.j3 k x1 x2 x2000 (x2000 == 7) x2000 x2001 x2002 x2003)))))
def spec_InstrOk.j3 : Nat → Int → Int → Int → Bool → Int → Int → Int → Int → Option (Bool)
 | 0, _, _, _, _, _, _, _, _ => none
 | k + 1, x1, x2, x63, x69, x2000, x2001, x2002, x2003 => if x69 = true then ((spec_l01In.f x2003 0 (wrap64 (x1 - 1))).bind fun t15 => (some t15)) else (if x63 = 6 then ((spec_l01In.f x2003 0 x2).bind fun t16 => (some t16)) else (some true))
end
def spec_InstrOk.f (k : Nat) (a0_0 : Int) (a0_1 : Int) (a0_2 : Int) (a0_3 : Int) (a1 : Int) (a2 : Int) : Option (Bool) := (spec_l01In.f a1 1 16).bind fun t2 => (if t2 = true then ((spec_l01In.f a2 0 16).bind fun t3 => (if t3 = true then ((spec_l01In.f a0_0 0 8).bind fun t4 => (spec_InstrOk.j0 k a1 a2 (!t4) a0_0 a0_1 a0_2 a0_3)) else (spec_InstrOk.j0 k a1 a2 true a0_0 a0_1 a0_2 a0_3))) else (spec_InstrOk.j0 k a1 a2 true a0_0 a0_1 a0_2 a0_3))
theorem spec_InstrOk.mono_l : ∀ k, (∀ y0 y1 y2 y3 y4 y5 y6, LeO (spec_InstrOk.j0 k y0 y1 y2 y3 y4 y5 y6) (spec_InstrOk.j0 (k + 1) y0 y1 y2 y3 y4 y5 y6)) ∧ (∀ y0 y1 y2 y3 y4 y5 y6, LeO (spec_InstrOk.j1 k y0 y1 y2 y3 y4 y5 y6) (spec_InstrOk.j1 (k + 1) y0 y1 y2 y3 y4 y5 y6)) ∧ (∀ y0 y1 y2 y3 y4 y5 y6, LeO (spec_InstrOk.j2 k y0 y1 y2 y3 y4 y5 y6) (spec_InstrOk.j2 (k + 1) y0 y1 y2 y3 y4 y5 y6)) ∧ (∀ y0 y1 y2 y3 y4 y5 y6 y7, LeO (spec_InstrOk.j3 k y0 y1 y2 y3 y4 y5 y6 y7) (spec_InstrOk.j3 (k + 1) y0 y1 y2 y3 y4 y5 y6 y7))
 | 0 => ⟨fun _ _ _ _ _ _ _ r h => by simp [spec_InstrOk.j0] at h, fun _ _ _ _ _ _ _ r h => by simp [spec_InstrOk.j1] at h, fun _ _ _ _ _ _ _ r h => by simp [spec_InstrOk.j2] at h, fun _ _ _ _ _ _ _ _ r h => by simp [spec_InstrOk.j3] at h⟩
 | k + 1 => by
  obtain ⟨ih0, ih1, ih2, ih3⟩ := spec_InstrOk.mono_l k
  refine ⟨?_, ?_, ?_, ?_⟩
  ·intro y0 y1 y2 y3 y4 y5 y6
   unfold spec_InstrOk.j0
   repeat' first | (with_reducible first | exact ih0 _ _ _ _ _ _ _ | exact ih1 _ _ _ _ _ _ _ | exact ih2 _ _ _ _ _ _ _ | exact ih3 _ _ _ _ _ _ _ _ | exact spec_l02Named.mono _ _ _ | exact lr_ | exact ln_ | refine LeO.ite ?_ ?_ | refine LeO.bind ?_ (fun _ => ?_)) | exact ih0 _ _ _ _ _ _ _ | exact ih1 _ _ _ _ _ _ _ | exact ih2 _ _ _ _ _ _ _ | exact ih3 _ _ _ _ _ _ _ _ | exact spec_l02Named.mono _ _ _ | exact ln_ | refine LeO.ite ?_ ?_ | refine LeO.bind ?_ (fun _ => ?_)
  ·intro y0 y1 y2 y3 y4 y5 y6
   unfold spec_InstrOk.j1
   repeat' first | (with_reducible first | exact ih0 _ _ _ _ _ _ _ | exact ih1 _ _ _ _ _ _ _ | exact ih2 _ _ _ _ _ _ _ | exact ih3 _ _ _ _ _ _ _ _ | exact spec_l02Named.mono _ _ _ | exact lr_ | exact ln_ | refine LeO.ite ?_ ?_ | refine LeO.bind ?_ (fun _ => ?_)) | exact ih0 _ _ _ _ _ _ _ | exact ih1 _ _ _ _ _ _ _ | exact ih2 _ _ _ _ _ _ _ | exact ih3 _ _ _ _ _ _ _ _ | exact spec_l02Named.mono _ _ _ | exact ln_ | refine LeO.ite ?_ ?_ | refine LeO.bind ?_ (fun _ => ?_)
  ·intro y0 y1 y2 y3 y4 y5 y6
   unfold spec_InstrOk.j2
   repeat' first | (with_reducible first | exact ih0 _ _ _ _ _ _ _ | exact ih1 _ _ _ _ _ _ _ | exact ih2 _ _ _ _ _ _ _ | exact ih3 _ _ _ _ _ _ _ _ | exact spec_l02Named.mono _ _ _ | exact lr_ | exact ln_ | refine LeO.ite ?_ ?_ | refine LeO.bind ?_ (fun _ => ?_)) | exact ih0 _ _ _ _ _ _ _ | exact ih1 _ _ _ _ _ _ _ | exact ih2 _ _ _ _ _ _ _ | exact ih3 _ _ _ _ _ _ _ _ | exact spec_l02Named.mono _ _ _ | exact ln_ | refine LeO.ite ?_ ?_ | refine LeO.bind ?_ (fun _ => ?_)
  ·intro y0 y1 y2 y3 y4 y5 y6 y7
   unfold spec_InstrOk.j3
   repeat' first | (with_reducible first | exact ih0 _ _ _ _ _ _ _ | exact ih1 _ _ _ _ _ _ _ | exact ih2 _ _ _ _ _ _ _ | exact ih3 _ _ _ _ _ _ _ _ | exact spec_l02Named.mono _ _ _ | exact lr_ | exact ln_ | refine LeO.ite ?_ ?_ | refine LeO.bind ?_ (fun _ => ?_)) | exact ih0 _ _ _ _ _ _ _ | exact ih1 _ _ _ _ _ _ _ | exact ih2 _ _ _ _ _ _ _ | exact ih3 _ _ _ _ _ _ _ _ | exact spec_l02Named.mono _ _ _ | exact ln_ | refine LeO.ite ?_ ?_ | refine LeO.bind ?_ (fun _ => ?_)
theorem spec_InstrOk.mono : ∀ a0 a1 a2 a3 a4 a5 k, LeO (spec_InstrOk.f k a0 a1 a2 a3 a4 a5) (spec_InstrOk.f (k + 1) a0 a1 a2 a3 a4 a5) := by
 intro a0 a1 a2 a3 a4 a5 k
 obtain ⟨ih0, ih1, ih2, ih3⟩ := spec_InstrOk.mono_l k
 unfold spec_InstrOk.f
 repeat' first | (with_reducible first | exact ih0 _ _ _ _ _ _ _ | exact ih1 _ _ _ _ _ _ _ | exact ih2 _ _ _ _ _ _ _ | exact ih3 _ _ _ _ _ _ _ _ | exact spec_l02Named.mono _ _ _ | exact lr_ | exact ln_ | refine LeO.ite ?_ ?_ | refine LeO.bind ?_ (fun _ => ?_)) | exact ih0 _ _ _ _ _ _ _ | exact ih1 _ _ _ _ _ _ _ | exact ih2 _ _ _ _ _ _ _ | exact ih3 _ _ _ _ _ _ _ _ | exact spec_l02Named.mono _ _ _ | exact ln_ | refine LeO.ite ?_ ?_ | refine LeO.bind ?_ (fun _ => ?_)
set_option maxHeartbeats 8000000 in
set_option maxRecDepth 100000 in
theorem spec_InstrOk.calls (k : Nat) (a0_0 : Int) (a0_1 : Int) (a0_2 : Int) (a0_3 : Int) (a1 : Int) (a2 : Int) (r : Bool) (w : World) (h : spec_InstrOk.f k a0_0 a0_1 a0_2 a0_3 a1 a2 = some r) :
  Calls Try.prog 32 #[.agg #[.int .i64 a0_0, .int .i64 a0_1, .int .i64 a0_2, .int .i64 a0_3], .int .i64 a1, .int .i64 a2] w fun e w' => e = .returned (.bool r) ∧ Below w.heap.size w w' := by
 have hu50 := Try.underlying50
 have HB := am_ (Below.refl w.heap.size w)
 have H : ((spec_l01In.f a1 1 16).bind fun t2 => (if t2 = true then ((spec_l01In.f a2 0 16).bind fun t3 => (if t3 = true then ((spec_l01In.f a0_0 0 8).bind fun t4 => (spec_InstrOk.j0 k a1 a2 (!t4) a0_0 a0_1 a0_2 a0_3)) else (spec_InstrOk.j0 k a1 a2 true a0_0 a0_1 a0_2 a0_3))) else (spec_InstrOk.j0 k a1 a2 true a0_0 a0_1 a0_2 a0_3))) = some r := h
 clear h
 have HC4 := am_ H
 clear H
 go_enter Try.func32, Try.ntmps32
 go_upto_region 1 with (first | ((with_reducible refine gate_dst (N := 3) rfl ?_); refine box_event ?hg (N := 3) ?hd (cs := #[.int .i64 a0_0, .int .i64 a0_1, .int .i64 a0_2, .int .i64 a0_3]) (t := 50) ?hr ?_; (case hd => rfl); (case hg => rfl); (case hr => exact hrr_); intro gb1 hg w5 hbox hb; have n0_ := bs_ hb; have n1_ := am_ (hbox); have n2_ := ge_ (w := w) hg; have n3_ := ge_ (w := w) hg; clear HB; have HB := n0_; have BK1 := n1_; have GW1 := n2_; have GE1 := n3_; clear n0_ n1_ n2_ n3_; clear hb hbox hg))
 (try simp only [Act.put, List.setIfInBounds_toArray, List.set_cons_zero, List.set_cons_succ])
 go_cut [20] (fun v20 wc => ∃ (kq : Nat) (x20_3 : Bool), v20 = .bool x20_3 ∧ Aside0 (spec_InstrOk.j0 kq a1 a2 x20_3 a0_0 a0_1 a0_2 a0_3 = some r) ∧ Aside0 (kq ≤ k) ∧ Aside0 (wc.heap[gb1]? = some (.cells #[.int .i64 a0_0, .int .i64 a0_1, .int .i64 a0_2, .int .i64 a0_3] 50 (0, 0))) ∧ Aside0 (Below w.heap.size w wc))
 case first =>
  have H := HC4.out
  clear HC4
  replace H := Option.bind_eq_some_iff.mp H
  obtain ⟨t2, A60, H⟩ := H
  replace H : (if t2 = true then ((spec_l01In.f a2 0 16).bind fun t3 => (if t3 = true then ((spec_l01In.f a0_0 0 8).bind fun t4 => (spec_InstrOk.j0 k a1 a2 (!t4) a0_0 a0_1 a0_2 a0_3)) else (spec_InstrOk.j0 k a1 a2 true a0_0 a0_1 a0_2 a0_3))) else (spec_InstrOk.j0 k a1 a2 true a0_0 a0_1 a0_2 a0_3)) = some r := H
  have A6 := am_ A60
  clear A60
  by_cases c7 : t2 = true
  rotate_left
  ·replace c7 := Bool.eq_false_iff.mpr c7
   subst c7
   have H1 : (spec_InstrOk.j0 k a1 a2 true a0_0 a0_1 a0_2 a0_3) = some r := by rw [if_neg (show ¬ (false = true) by decide)] at H; exact H
   clear H
   have H := H1
   clear H1
   have H' := am_ H
   clear H
   go_wp2_with (first | ((with_reducible refine gate_callee (f := 31) rfl ?_); refine goesL_ (some 8) rfl rfl Try.func31 kr_ rfl #[.int .i64 a1, .int .i64 1, .int .i64 16] rfl ar_ ?_; (with_reducible refine (spec_l01In.calls a1 1 16 false _ A6.out).mono ?_); rintro e w' ⟨rfl, ⟨nd, rfl⟩⟩; refine ⟨_, rfl, ?_⟩))
   go_meet
   case rel => exact ⟨_, (true), sd_, H', ⟨by first | omega | exact Nat.le_refl _⟩, ⟨bk_⟩, ⟨bw_⟩⟩
  subst c7
  have H1 : ((spec_l01In.f a2 0 16).bind fun t3 => (if t3 = true then ((spec_l01In.f a0_0 0 8).bind fun t4 => (spec_InstrOk.j0 k a1 a2 (!t4) a0_0 a0_1 a0_2 a0_3)) else (spec_InstrOk.j0 k a1 a2 true a0_0 a0_1 a0_2 a0_3))) = some r := by rw [if_pos rfl] at H; exact H
  clear H
  have H := H1
  clear H1
  replace H := Option.bind_eq_some_iff.mp H
  obtain ⟨t3, A80, H⟩ := H
  replace H : (if t3 = true then ((spec_l01In.f a0_0 0 8).bind fun t4 => (spec_InstrOk.j0 k a1 a2 (!t4) a0_0 a0_1 a0_2 a0_3)) else (spec_InstrOk.j0 k a1 a2 true a0_0 a0_1 a0_2 a0_3)) = some r := H
  have A8 := am_ A80
  clear A80
  by_cases c9 : t3 = true
  rotate_left
  ·replace c9 := Bool.eq_false_iff.mpr c9
   subst c9
   have H1 : (spec_InstrOk.j0 k a1 a2 true a0_0 a0_1 a0_2 a0_3) = some r := by rw [if_neg (show ¬ (false = true) by decide)] at H; exact H
   clear H
   have H := H1
   clear H1
   have H' := am_ H
   clear H
   go_wp2_with (first | ((with_reducible refine gate_callee (f := 31) rfl ?_); refine goesL_ (some 8) rfl rfl Try.func31 kr_ rfl #[.int .i64 a1, .int .i64 1, .int .i64 16] rfl ar_ ?_; (with_reducible refine (spec_l01In.calls a1 1 16 true _ A6.out).mono ?_); rintro e w' ⟨rfl, ⟨nd, rfl⟩⟩; refine ⟨_, rfl, ?_⟩) | (go_at_call 31; (with_reducible refine (spec_l01In.calls a2 0 16 false _ A8.out).mono ?_); rintro e w' ⟨rfl, ⟨nd, rfl⟩⟩))
   go_meet
   case rel => exact ⟨_, (true), sd_, H', ⟨by first | omega | exact Nat.le_refl _⟩, ⟨bk_⟩, ⟨bw_⟩⟩
  subst c9
  have H1 : ((spec_l01In.f a0_0 0 8).bind fun t4 => (spec_InstrOk.j0 k a1 a2 (!t4) a0_0 a0_1 a0_2 a0_3)) = some r := by rw [if_pos rfl] at H; exact H
  clear H
  have H := H1
  clear H1
  replace H := Option.bind_eq_some_iff.mp H
  obtain ⟨t4, A100, H⟩ := H
  replace H : (spec_InstrOk.j0 k a1 a2 (!t4) a0_0 a0_1 a0_2 a0_3) = some r := H
  have A10 := am_ A100
  clear A100
  have H' := am_ H
  clear H
  go_wp2_with (first | ((with_reducible refine gate_callee (f := 31) rfl ?_); refine goesL_ (some 8) rfl rfl Try.func31 kr_ rfl #[.int .i64 a1, .int .i64 1, .int .i64 16] rfl ar_ ?_; (with_reducible refine (spec_l01In.calls a1 1 16 true _ A6.out).mono ?_); rintro e w' ⟨rfl, ⟨nd, rfl⟩⟩; refine ⟨_, rfl, ?_⟩) | (go_at_call 31; (with_reducible refine (spec_l01In.calls a2 0 16 true _ A8.out).mono ?_); rintro e w' ⟨rfl, ⟨nd, rfl⟩⟩; obtain ⟨hcz11_0, hcz11_1, hcz11_2, hcz11_3, hfz11_0, hfz11_1, hfz11_2, hfz11_3⟩ := bc4_ BK1.out) | (go_at_call 31; (with_reducible refine (spec_l01In.calls a0_0 0 8 t4 _ A10.out).mono ?_); rintro e w' ⟨rfl, ⟨nd, rfl⟩⟩))
  go_meet
  case rel => exact ⟨_, (!t4), sd_, H', ⟨by first | omega | exact Nat.le_refl _⟩, ⟨bk_⟩, ⟨bw_⟩⟩
 case rest =>
  clear HC4
  try clear c7
  try clear c9
  try clear hcz11_0 hcz11_1 hcz11_2 hcz11_3
  try clear hfz11_0 hfz11_1 hfz11_2 hfz11_3
  obtain ⟨kq, x20_3, rfl, HA, HJ3, BK1, HB⟩ := hcut
  cases kq with
  | zero => exact absurd HA.out (by simp [spec_InstrOk.j0])
  | succ kj3 =>
   have H := HA.out
   clear HA
   simp only [spec_InstrOk.j0] at H
   by_cases c12 : x20_3 = true
   ·subst c12
    have H1 : (some false) = some r := by rw [if_pos rfl] at H; exact H
    clear H
    have H := H1
    clear H1
    obtain rfl := Option.some.inj H
    go_wp2
    go_ret
    exact ⟨rr_, bw_⟩
   replace c12 := Bool.eq_false_iff.mpr c12
   subst c12
   have H1 : ((spec_l01In.f a0_1 0 3).bind fun t5 => (if t5 = true then ((spec_l01In.f a0_2 0 3).bind fun t6 => (spec_InstrOk.j1 kj3 a1 a2 (!t6) a0_0 a0_1 a0_2 a0_3)) else (spec_InstrOk.j1 kj3 a1 a2 true a0_0 a0_1 a0_2 a0_3))) = some r := by rw [if_neg (show ¬ (false = true) by decide)] at H; exact H
   clear H
   have H := H1
   clear H1
   have HC13 := am_ H
   clear H
   go_upto_region 3 with (fail)
   go_cut [30] (fun v30 wc => ∃ (kq : Nat) (x30_12 : Bool), v30 = .bool x30_12 ∧ Aside0 (spec_InstrOk.j1 kq a1 a2 x30_12 a0_0 a0_1 a0_2 a0_3 = some r) ∧ Aside0 (kq ≤ kj3) ∧ Aside0 (wc.heap[gb1]? = some (.cells #[.int .i64 a0_0, .int .i64 a0_1, .int .i64 a0_2, .int .i64 a0_3] 50 (0, 0))) ∧ Aside0 (Below w.heap.size w wc))
   case first =>
    have H := HC13.out
    clear HC13
    replace H := Option.bind_eq_some_iff.mp H
    obtain ⟨t5, A140, H⟩ := H
    replace H : (if t5 = true then ((spec_l01In.f a0_2 0 3).bind fun t6 => (spec_InstrOk.j1 kj3 a1 a2 (!t6) a0_0 a0_1 a0_2 a0_3)) else (spec_InstrOk.j1 kj3 a1 a2 true a0_0 a0_1 a0_2 a0_3)) = some r := H
    have A14 := am_ A140
    clear A140
    by_cases c15 : t5 = true
    rotate_left
    ·replace c15 := Bool.eq_false_iff.mpr c15
     subst c15
     have H1 : (spec_InstrOk.j1 kj3 a1 a2 true a0_0 a0_1 a0_2 a0_3) = some r := by rw [if_neg (show ¬ (false = true) by decide)] at H; exact H
     clear H
     have H := H1
     clear H1
     have H' := am_ H
     clear H
     obtain ⟨hcz18_0, hcz18_1, hcz18_2, hcz18_3, hfz18_0, hfz18_1, hfz18_2, hfz18_3⟩ := bc4_ BK1.out
     go_wp2_with (first | ((with_reducible refine gate_callee (f := 31) rfl ?_); refine goesL_ (some 23) rfl rfl Try.func31 kr_ rfl #[.int .i64 a0_1, .int .i64 0, .int .i64 3] rfl ar_ ?_; (with_reducible refine (spec_l01In.calls a0_1 0 3 false _ A14.out).mono ?_); rintro e w' ⟨rfl, ⟨nd, rfl⟩⟩; refine ⟨_, rfl, ?_⟩))
     go_meet
     case rel => exact ⟨_, (true), sd_, H', ⟨by have := HJ3.out; first | omega | exact Nat.le_refl _⟩, ⟨bk_⟩, ⟨bw_⟩⟩
    subst c15
    have H1 : ((spec_l01In.f a0_2 0 3).bind fun t6 => (spec_InstrOk.j1 kj3 a1 a2 (!t6) a0_0 a0_1 a0_2 a0_3)) = some r := by rw [if_pos rfl] at H; exact H
    clear H
    have H := H1
    clear H1
    replace H := Option.bind_eq_some_iff.mp H
    obtain ⟨t6, A160, H⟩ := H
    replace H : (spec_InstrOk.j1 kj3 a1 a2 (!t6) a0_0 a0_1 a0_2 a0_3) = some r := H
    have A16 := am_ A160
    clear A160
    have H' := am_ H
    clear H
    obtain ⟨hcz17_0, hcz17_1, hcz17_2, hcz17_3, hfz17_0, hfz17_1, hfz17_2, hfz17_3⟩ := bc4_ BK1.out
    go_wp2_with (first | ((with_reducible refine gate_callee (f := 31) rfl ?_); refine goesL_ (some 23) rfl rfl Try.func31 kr_ rfl #[.int .i64 a0_1, .int .i64 0, .int .i64 3] rfl ar_ ?_; (with_reducible refine (spec_l01In.calls a0_1 0 3 true _ A14.out).mono ?_); rintro e w' ⟨rfl, ⟨nd, rfl⟩⟩; refine ⟨_, rfl, ?_⟩) | (go_at_call 31; (with_reducible refine (spec_l01In.calls a0_2 0 3 t6 _ A16.out).mono ?_); rintro e w' ⟨rfl, ⟨nd, rfl⟩⟩))
    go_meet
    case rel => exact ⟨_, (!t6), sd_, H', ⟨by have := HJ3.out; first | omega | exact Nat.le_refl _⟩, ⟨bk_⟩, ⟨bw_⟩⟩
   case rest =>
    clear HC13
    try clear c7
    try clear c9
    try clear c12
    try clear c15
    try clear hcz11_0 hcz11_1 hcz11_2 hcz11_3
    try clear hcz17_0 hcz17_1 hcz17_2 hcz17_3
    try clear hcz18_0 hcz18_1 hcz18_2 hcz18_3
    try clear hfz11_0 hfz11_1 hfz11_2 hfz11_3
    try clear hfz17_0 hfz17_1 hfz17_2 hfz17_3
    try clear hfz18_0 hfz18_1 hfz18_2 hfz18_3
    obtain ⟨kq, x30_12, rfl, HA, HJ12, BK1, HB⟩ := hcut
    cases kq with
    | zero => exact absurd HA.out (by simp [spec_InstrOk.j1])
    | succ kj12 =>
     have H := HA.out
     clear HA
     simp only [spec_InstrOk.j1] at H
     by_cases c19 : x30_12 = true
     ·subst c19
      have H1 : (some false) = some r := by rw [if_pos rfl] at H; exact H
      clear H
      have H := H1
      clear H1
      obtain rfl := Option.some.inj H
      go_wp2
      go_ret
      exact ⟨rr_, bw_⟩
     replace c19 := Bool.eq_false_iff.mpr c19
     subst c19
     have H1 : ((spec_l02Named.f kj12 a0_0 114).bind fun t7 => (if t7 = true then ((spec_l02Named.f kj12 a0_0 115).bind fun t8 => (if t8 = true then ((spec_l02Named.f kj12 a0_0 110).bind fun t9 => (if t9 = true then (spec_InstrOk.j2 kj12 a1 a2 false a0_0 a0_1 a0_2 a0_3) else (spec_InstrOk.j2 kj12 a1 a2 (a0_3 != 0) a0_0 a0_1 a0_2 a0_3))) else (if a0_2 = 0 then ((spec_l02Named.f kj12 a0_0 110).bind fun t10 => (if t10 = true then (spec_InstrOk.j2 kj12 a1 a2 false a0_0 a0_1 a0_2 a0_3) else (spec_InstrOk.j2 kj12 a1 a2 (a0_3 != 0) a0_0 a0_1 a0_2 a0_3))) else (spec_InstrOk.j2 kj12 a1 a2 true a0_0 a0_1 a0_2 a0_3)))) else (if a0_1 = 0 then ((spec_l02Named.f kj12 a0_0 115).bind fun t11 => (if t11 = true then ((spec_l02Named.f kj12 a0_0 110).bind fun t12 => (if t12 = true then (spec_InstrOk.j2 kj12 a1 a2 false a0_0 a0_1 a0_2 a0_3) else (spec_InstrOk.j2 kj12 a1 a2 (a0_3 != 0) a0_0 a0_1 a0_2 a0_3))) else (if a0_2 = 0 then ((spec_l02Named.f kj12 a0_0 110).bind fun t13 => (if t13 = true then (spec_InstrOk.j2 kj12 a1 a2 false a0_0 a0_1 a0_2 a0_3) else (spec_InstrOk.j2 kj12 a1 a2 (a0_3 != 0) a0_0 a0_1 a0_2 a0_3))) else (spec_InstrOk.j2 kj12 a1 a2 true a0_0 a0_1 a0_2 a0_3)))) else (spec_InstrOk.j2 kj12 a1 a2 true a0_0 a0_1 a0_2 a0_3)))) = some r := by rw [if_neg (show ¬ (false = true) by decide)] at H; exact H
     clear H
     have H := H1
     clear H1
     have HC20 := am_ H
     clear H
     go_upto_region 5 with (fail)
     go_cut [61] (fun v61 wc => ∃ (kq : Nat) (x61_19 : Bool), v61 = .bool x61_19 ∧ Aside0 (spec_InstrOk.j2 kq a1 a2 x61_19 a0_0 a0_1 a0_2 a0_3 = some r) ∧ Aside0 (kq ≤ kj12) ∧ Aside0 (wc.heap[gb1]? = some (.cells #[.int .i64 a0_0, .int .i64 a0_1, .int .i64 a0_2, .int .i64 a0_3] 50 (0, 0))) ∧ Aside0 (Below w.heap.size w wc))
     case first =>
      have H := HC20.out
      clear HC20
      replace H := Option.bind_eq_some_iff.mp H
      obtain ⟨t7, A210, H⟩ := H
      replace H : (if t7 = true then ((spec_l02Named.f kj12 a0_0 115).bind fun t8 => (if t8 = true then ((spec_l02Named.f kj12 a0_0 110).bind fun t9 => (if t9 = true then (spec_InstrOk.j2 kj12 a1 a2 false a0_0 a0_1 a0_2 a0_3) else (spec_InstrOk.j2 kj12 a1 a2 (a0_3 != 0) a0_0 a0_1 a0_2 a0_3))) else (if a0_2 = 0 then ((spec_l02Named.f kj12 a0_0 110).bind fun t10 => (if t10 = true then (spec_InstrOk.j2 kj12 a1 a2 false a0_0 a0_1 a0_2 a0_3) else (spec_InstrOk.j2 kj12 a1 a2 (a0_3 != 0) a0_0 a0_1 a0_2 a0_3))) else (spec_InstrOk.j2 kj12 a1 a2 true a0_0 a0_1 a0_2 a0_3)))) else (if a0_1 = 0 then ((spec_l02Named.f kj12 a0_0 115).bind fun t11 => (if t11 = true then ((spec_l02Named.f kj12 a0_0 110).bind fun t12 => (if t12 = true then (spec_InstrOk.j2 kj12 a1 a2 false a0_0 a0_1 a0_2 a0_3) else (spec_InstrOk.j2 kj12 a1 a2 (a0_3 != 0) a0_0 a0_1 a0_2 a0_3))) else (if a0_2 = 0 then ((spec_l02Named.f kj12 a0_0 110).bind fun t13 => (if t13 = true then (spec_InstrOk.j2 kj12 a1 a2 false a0_0 a0_1 a0_2 a0_3) else (spec_InstrOk.j2 kj12 a1 a2 (a0_3 != 0) a0_0 a0_1 a0_2 a0_3))) else (spec_InstrOk.j2 kj12 a1 a2 true a0_0 a0_1 a0_2 a0_3)))) else (spec_InstrOk.j2 kj12 a1 a2 true a0_0 a0_1 a0_2 a0_3))) = some r := H
      have A21 := am_ A210
      clear A210
      by_cases c22 : t7 = true
      ·subst c22
       have H1 : ((spec_l02Named.f kj12 a0_0 115).bind fun t8 => (if t8 = true then ((spec_l02Named.f kj12 a0_0 110).bind fun t9 => (if t9 = true then (spec_InstrOk.j2 kj12 a1 a2 false a0_0 a0_1 a0_2 a0_3) else (spec_InstrOk.j2 kj12 a1 a2 (a0_3 != 0) a0_0 a0_1 a0_2 a0_3))) else (if a0_2 = 0 then ((spec_l02Named.f kj12 a0_0 110).bind fun t10 => (if t10 = true then (spec_InstrOk.j2 kj12 a1 a2 false a0_0 a0_1 a0_2 a0_3) else (spec_InstrOk.j2 kj12 a1 a2 (a0_3 != 0) a0_0 a0_1 a0_2 a0_3))) else (spec_InstrOk.j2 kj12 a1 a2 true a0_0 a0_1 a0_2 a0_3)))) = some r := by rw [if_pos rfl] at H; exact H
       clear H
       have H := H1
       clear H1
       replace H := Option.bind_eq_some_iff.mp H
       obtain ⟨t8, A230, H⟩ := H
       replace H : (if t8 = true then ((spec_l02Named.f kj12 a0_0 110).bind fun t9 => (if t9 = true then (spec_InstrOk.j2 kj12 a1 a2 false a0_0 a0_1 a0_2 a0_3) else (spec_InstrOk.j2 kj12 a1 a2 (a0_3 != 0) a0_0 a0_1 a0_2 a0_3))) else (if a0_2 = 0 then ((spec_l02Named.f kj12 a0_0 110).bind fun t10 => (if t10 = true then (spec_InstrOk.j2 kj12 a1 a2 false a0_0 a0_1 a0_2 a0_3) else (spec_InstrOk.j2 kj12 a1 a2 (a0_3 != 0) a0_0 a0_1 a0_2 a0_3))) else (spec_InstrOk.j2 kj12 a1 a2 true a0_0 a0_1 a0_2 a0_3))) = some r := H
       have A23 := am_ A230
       clear A230
       by_cases c24 : t8 = true
       ·subst c24
        have H1 : ((spec_l02Named.f kj12 a0_0 110).bind fun t9 => (if t9 = true then (spec_InstrOk.j2 kj12 a1 a2 false a0_0 a0_1 a0_2 a0_3) else (spec_InstrOk.j2 kj12 a1 a2 (a0_3 != 0) a0_0 a0_1 a0_2 a0_3))) = some r := by rw [if_pos rfl] at H; exact H
        clear H
        have H := H1
        clear H1
        replace H := Option.bind_eq_some_iff.mp H
        obtain ⟨t9, A250, H⟩ := H
        replace H : (if t9 = true then (spec_InstrOk.j2 kj12 a1 a2 false a0_0 a0_1 a0_2 a0_3) else (spec_InstrOk.j2 kj12 a1 a2 (a0_3 != 0) a0_0 a0_1 a0_2 a0_3)) = some r := H
        have A25 := am_ A250
        clear A250
        by_cases c26 : t9 = true
        ·subst c26
         have H1 : (spec_InstrOk.j2 kj12 a1 a2 false a0_0 a0_1 a0_2 a0_3) = some r := by rw [if_pos rfl] at H; exact H
         clear H
         have H := H1
         clear H1
         have H' := am_ H
         clear H
         obtain ⟨hcz27_0, hcz27_1, hcz27_2, hcz27_3, hfz27_0, hfz27_1, hfz27_2, hfz27_3⟩ := bc4_ BK1.out
         go_wp2_with (first | ((with_reducible refine gate_callee (f := 45) rfl ?_); refine goesL_ (some 33) rfl rfl Try.func45 kr_ rfl #[.int .i64 a0_0, .int .u8 114] rfl ar_ ?_; (with_reducible refine (spec_l02Named.calls kj12 a0_0 114 true _ A21.out).mono ?_); rintro e w28 ⟨rfl, hb⟩; refine ⟨_, rfl, ?_⟩; have n0_ := bb_ BK1.out hb; have n1_ := bs_ hb; clear BK1; clear HB; have BK1 := n0_; have HB := n1_; clear n0_ n1_; (try clear hb); (try clear hb2); (try clear hk); (try clear hi); obtain ⟨hcz29_0, hcz29_1, hcz29_2, hcz29_3, hfz29_0, hfz29_1, hfz29_2, hfz29_3⟩ := bc4_ BK1.out) | (go_at_call 45; (with_reducible refine (spec_l02Named.calls kj12 a0_0 115 true _ A23.out).mono ?_); rintro e w30 ⟨rfl, hb⟩; have n0_ := bb_ BK1.out hb; have n1_ := bs_ hb; clear BK1; clear HB; have BK1 := n0_; have HB := n1_; clear n0_ n1_; (try clear hb); (try clear hb2); (try clear hk); (try clear hi); obtain ⟨hcz31_0, hcz31_1, hcz31_2, hcz31_3, hfz31_0, hfz31_1, hfz31_2, hfz31_3⟩ := bc4_ BK1.out) | (go_at_call 45; (with_reducible refine (spec_l02Named.calls kj12 a0_0 110 true _ A25.out).mono ?_); rintro e w32 ⟨rfl, hb⟩; have n0_ := bb_ BK1.out hb; have n1_ := bs_ hb; clear BK1; clear HB; have BK1 := n0_; have HB := n1_; clear n0_ n1_; (try clear hb); (try clear hb2); (try clear hk); (try clear hi)))
         go_meet
         case rel => exact ⟨_, (false), sd_, H', ⟨by have := HJ3.out; have := HJ12.out; first | omega | exact Nat.le_refl _⟩, ⟨bk_⟩, ⟨bw_⟩⟩
        replace c26 := Bool.eq_false_iff.mpr c26
        subst c26
        have H1 : (spec_InstrOk.j2 kj12 a1 a2 (a0_3 != 0) a0_0 a0_1 a0_2 a0_3) = some r := by rw [if_neg (show ¬ (false = true) by decide)] at H; exact H
        clear H
        have H := H1
        clear H1
        have H' := am_ H
        clear H
        obtain ⟨hcz33_0, hcz33_1, hcz33_2, hcz33_3, hfz33_0, hfz33_1, hfz33_2, hfz33_3⟩ := bc4_ BK1.out
        go_wp2_with (first | ((with_reducible refine gate_callee (f := 45) rfl ?_); refine goesL_ (some 33) rfl rfl Try.func45 kr_ rfl #[.int .i64 a0_0, .int .u8 114] rfl ar_ ?_; (with_reducible refine (spec_l02Named.calls kj12 a0_0 114 true _ A21.out).mono ?_); rintro e w34 ⟨rfl, hb⟩; refine ⟨_, rfl, ?_⟩; have n0_ := bb_ BK1.out hb; have n1_ := bs_ hb; clear BK1; clear HB; have BK1 := n0_; have HB := n1_; clear n0_ n1_; (try clear hb); (try clear hb2); (try clear hk); (try clear hi); obtain ⟨hcz35_0, hcz35_1, hcz35_2, hcz35_3, hfz35_0, hfz35_1, hfz35_2, hfz35_3⟩ := bc4_ BK1.out) | (go_at_call 45; (with_reducible refine (spec_l02Named.calls kj12 a0_0 115 true _ A23.out).mono ?_); rintro e w36 ⟨rfl, hb⟩; have n0_ := bb_ BK1.out hb; have n1_ := bs_ hb; clear BK1; clear HB; have BK1 := n0_; have HB := n1_; clear n0_ n1_; (try clear hb); (try clear hb2); (try clear hk); (try clear hi); obtain ⟨hcz37_0, hcz37_1, hcz37_2, hcz37_3, hfz37_0, hfz37_1, hfz37_2, hfz37_3⟩ := bc4_ BK1.out) | (go_at_call 45; (with_reducible refine (spec_l02Named.calls kj12 a0_0 110 false _ A25.out).mono ?_); rintro e w38 ⟨rfl, hb⟩; have n0_ := bb_ BK1.out hb; have n1_ := bs_ hb; clear BK1; clear HB; have BK1 := n0_; have HB := n1_; clear n0_ n1_; (try clear hb); (try clear hb2); (try clear hk); (try clear hi); obtain ⟨hcz39_0, hcz39_1, hcz39_2, hcz39_3, hfz39_0, hfz39_1, hfz39_2, hfz39_3⟩ := bc4_ BK1.out))
        go_meet
        case rel => exact ⟨_, ((a0_3 != 0)), sd_, H', ⟨by have := HJ3.out; have := HJ12.out; first | omega | exact Nat.le_refl _⟩, ⟨bk_⟩, ⟨bw_⟩⟩
       replace c24 := Bool.eq_false_iff.mpr c24
       subst c24
       have H1 : (if a0_2 = 0 then ((spec_l02Named.f kj12 a0_0 110).bind fun t10 => (if t10 = true then (spec_InstrOk.j2 kj12 a1 a2 false a0_0 a0_1 a0_2 a0_3) else (spec_InstrOk.j2 kj12 a1 a2 (a0_3 != 0) a0_0 a0_1 a0_2 a0_3))) else (spec_InstrOk.j2 kj12 a1 a2 true a0_0 a0_1 a0_2 a0_3)) = some r := by rw [if_neg (show ¬ (false = true) by decide)] at H; exact H
       clear H
       have H := H1
       clear H1
       by_cases c40 : a0_2 = 0
       rotate_left
       ·rw [if_neg c40] at H
        have c40b0 : (a0_2 == 0) = false := beq_eq_false_iff_ne.mpr c40
        have c40b1 : (a0_2 != 0) = true := bne_iff_ne.mpr c40
        (first | rw [c40b0] | (simp only [i64_w, i32_w]; rw [c40b0]) | skip)
        have H' := am_ H
        clear H
        obtain ⟨hcz56_0, hcz56_1, hcz56_2, hcz56_3, hfz56_0, hfz56_1, hfz56_2, hfz56_3⟩ := bc4_ BK1.out
        go_wp2_with (first | ((with_reducible refine gate_callee (f := 45) rfl ?_); refine goesL_ (some 33) rfl rfl Try.func45 kr_ rfl #[.int .i64 a0_0, .int .u8 114] rfl ar_ ?_; (with_reducible refine (spec_l02Named.calls kj12 a0_0 114 true _ A21.out).mono ?_); rintro e w57 ⟨rfl, hb⟩; refine ⟨_, rfl, ?_⟩; have n0_ := bb_ BK1.out hb; have n1_ := bs_ hb; clear BK1; clear HB; have BK1 := n0_; have HB := n1_; clear n0_ n1_; (try clear hb); (try clear hb2); (try clear hk); (try clear hi); obtain ⟨hcz58_0, hcz58_1, hcz58_2, hcz58_3, hfz58_0, hfz58_1, hfz58_2, hfz58_3⟩ := bc4_ BK1.out) | (go_at_call 45; (with_reducible refine (spec_l02Named.calls kj12 a0_0 115 false _ A23.out).mono ?_); rintro e w59 ⟨rfl, hb⟩; have n0_ := bb_ BK1.out hb; have n1_ := bs_ hb; clear BK1; clear HB; have BK1 := n0_; have HB := n1_; clear n0_ n1_; (try clear hb); (try clear hb2); (try clear hk); (try clear hi); obtain ⟨hcz60_0, hcz60_1, hcz60_2, hcz60_3, hfz60_0, hfz60_1, hfz60_2, hfz60_3⟩ := bc4_ BK1.out))
        go_meet
        case rel => exact ⟨_, (true), sd_, H', ⟨by have := HJ3.out; have := HJ12.out; first | omega | exact Nat.le_refl _⟩, ⟨bk_⟩, ⟨bw_⟩⟩
       rw [if_pos c40] at H
       have c40b0 : (a0_2 == 0) = true := beq_iff_eq.mpr c40
       have c40b1 : (a0_2 != 0) = false := bne_eq_false_iff_eq.mpr c40
       clear c40
       (first | rw [c40b0] | (simp only [i64_w, i32_w]; rw [c40b0]) | skip)
       replace H := Option.bind_eq_some_iff.mp H
       obtain ⟨t10, A410, H⟩ := H
       replace H : (if t10 = true then (spec_InstrOk.j2 kj12 a1 a2 false a0_0 a0_1 a0_2 a0_3) else (spec_InstrOk.j2 kj12 a1 a2 (a0_3 != 0) a0_0 a0_1 a0_2 a0_3)) = some r := H
       have A41 := am_ A410
       clear A410
       by_cases c42 : t10 = true
       ·subst c42
        have H1 : (spec_InstrOk.j2 kj12 a1 a2 false a0_0 a0_1 a0_2 a0_3) = some r := by rw [if_pos rfl] at H; exact H
        clear H
        have H := H1
        clear H1
        have H' := am_ H
        clear H
        obtain ⟨hcz43_0, hcz43_1, hcz43_2, hcz43_3, hfz43_0, hfz43_1, hfz43_2, hfz43_3⟩ := bc4_ BK1.out
        go_wp2_with (first | ((with_reducible refine gate_callee (f := 45) rfl ?_); refine goesL_ (some 33) rfl rfl Try.func45 kr_ rfl #[.int .i64 a0_0, .int .u8 114] rfl ar_ ?_; (with_reducible refine (spec_l02Named.calls kj12 a0_0 114 true _ A21.out).mono ?_); rintro e w44 ⟨rfl, hb⟩; refine ⟨_, rfl, ?_⟩; have n0_ := bb_ BK1.out hb; have n1_ := bs_ hb; clear BK1; clear HB; have BK1 := n0_; have HB := n1_; clear n0_ n1_; (try clear hb); (try clear hb2); (try clear hk); (try clear hi); obtain ⟨hcz45_0, hcz45_1, hcz45_2, hcz45_3, hfz45_0, hfz45_1, hfz45_2, hfz45_3⟩ := bc4_ BK1.out) | (go_at_call 45; (with_reducible refine (spec_l02Named.calls kj12 a0_0 115 false _ A23.out).mono ?_); rintro e w46 ⟨rfl, hb⟩; have n0_ := bb_ BK1.out hb; have n1_ := bs_ hb; clear BK1; clear HB; have BK1 := n0_; have HB := n1_; clear n0_ n1_; (try clear hb); (try clear hb2); (try clear hk); (try clear hi); obtain ⟨hcz47_0, hcz47_1, hcz47_2, hcz47_3, hfz47_0, hfz47_1, hfz47_2, hfz47_3⟩ := bc4_ BK1.out) | (go_at_call 45; (with_reducible refine (spec_l02Named.calls kj12 a0_0 110 true _ A41.out).mono ?_); rintro e w48 ⟨rfl, hb⟩; have n0_ := bb_ BK1.out hb; have n1_ := bs_ hb; clear BK1; clear HB; have BK1 := n0_; have HB := n1_; clear n0_ n1_; (try clear hb); (try clear hb2); (try clear hk); (try clear hi)))
        go_meet
        case rel => exact ⟨_, (false), sd_, H', ⟨by have := HJ3.out; have := HJ12.out; first | omega | exact Nat.le_refl _⟩, ⟨bk_⟩, ⟨bw_⟩⟩
       replace c42 := Bool.eq_false_iff.mpr c42
       subst c42
       have H1 : (spec_InstrOk.j2 kj12 a1 a2 (a0_3 != 0) a0_0 a0_1 a0_2 a0_3) = some r := by rw [if_neg (show ¬ (false = true) by decide)] at H; exact H
       clear H
       have H := H1
       clear H1
       have H' := am_ H
       clear H
       obtain ⟨hcz49_0, hcz49_1, hcz49_2, hcz49_3, hfz49_0, hfz49_1, hfz49_2, hfz49_3⟩ := bc4_ BK1.out
       go_wp2_with (first | ((with_reducible refine gate_callee (f := 45) rfl ?_); refine goesL_ (some 33) rfl rfl Try.func45 kr_ rfl #[.int .i64 a0_0, .int .u8 114] rfl ar_ ?_; (with_reducible refine (spec_l02Named.calls kj12 a0_0 114 true _ A21.out).mono ?_); rintro e w50 ⟨rfl, hb⟩; refine ⟨_, rfl, ?_⟩; have n0_ := bb_ BK1.out hb; have n1_ := bs_ hb; clear BK1; clear HB; have BK1 := n0_; have HB := n1_; clear n0_ n1_; (try clear hb); (try clear hb2); (try clear hk); (try clear hi); obtain ⟨hcz51_0, hcz51_1, hcz51_2, hcz51_3, hfz51_0, hfz51_1, hfz51_2, hfz51_3⟩ := bc4_ BK1.out) | (go_at_call 45; (with_reducible refine (spec_l02Named.calls kj12 a0_0 115 false _ A23.out).mono ?_); rintro e w52 ⟨rfl, hb⟩; have n0_ := bb_ BK1.out hb; have n1_ := bs_ hb; clear BK1; clear HB; have BK1 := n0_; have HB := n1_; clear n0_ n1_; (try clear hb); (try clear hb2); (try clear hk); (try clear hi); obtain ⟨hcz53_0, hcz53_1, hcz53_2, hcz53_3, hfz53_0, hfz53_1, hfz53_2, hfz53_3⟩ := bc4_ BK1.out) | (go_at_call 45; (with_reducible refine (spec_l02Named.calls kj12 a0_0 110 false _ A41.out).mono ?_); rintro e w54 ⟨rfl, hb⟩; have n0_ := bb_ BK1.out hb; have n1_ := bs_ hb; clear BK1; clear HB; have BK1 := n0_; have HB := n1_; clear n0_ n1_; (try clear hb); (try clear hb2); (try clear hk); (try clear hi); obtain ⟨hcz55_0, hcz55_1, hcz55_2, hcz55_3, hfz55_0, hfz55_1, hfz55_2, hfz55_3⟩ := bc4_ BK1.out))
       go_meet
       case rel => exact ⟨_, ((a0_3 != 0)), sd_, H', ⟨by have := HJ3.out; have := HJ12.out; first | omega | exact Nat.le_refl _⟩, ⟨bk_⟩, ⟨bw_⟩⟩
      replace c22 := Bool.eq_false_iff.mpr c22
      subst c22
      have H1 : (if a0_1 = 0 then ((spec_l02Named.f kj12 a0_0 115).bind fun t11 => (if t11 = true then ((spec_l02Named.f kj12 a0_0 110).bind fun t12 => (if t12 = true then (spec_InstrOk.j2 kj12 a1 a2 false a0_0 a0_1 a0_2 a0_3) else (spec_InstrOk.j2 kj12 a1 a2 (a0_3 != 0) a0_0 a0_1 a0_2 a0_3))) else (if a0_2 = 0 then ((spec_l02Named.f kj12 a0_0 110).bind fun t13 => (if t13 = true then (spec_InstrOk.j2 kj12 a1 a2 false a0_0 a0_1 a0_2 a0_3) else (spec_InstrOk.j2 kj12 a1 a2 (a0_3 != 0) a0_0 a0_1 a0_2 a0_3))) else (spec_InstrOk.j2 kj12 a1 a2 true a0_0 a0_1 a0_2 a0_3)))) else (spec_InstrOk.j2 kj12 a1 a2 true a0_0 a0_1 a0_2 a0_3)) = some r := by rw [if_neg (show ¬ (false = true) by decide)] at H; exact H
      clear H
      have H := H1
      clear H1
      by_cases c61 : a0_1 = 0
      rotate_left
      ·rw [if_neg c61] at H
       have c61b0 : (a0_1 == 0) = false := beq_eq_false_iff_ne.mpr c61
       have c61b1 : (a0_1 != 0) = true := bne_iff_ne.mpr c61
       have H' := am_ H
       clear H
       obtain ⟨hcz100_0, hcz100_1, hcz100_2, hcz100_3, hfz100_0, hfz100_1, hfz100_2, hfz100_3⟩ := bc4_ BK1.out
       go_wp2_with (first | ((with_reducible refine gate_callee (f := 45) rfl ?_); refine goesL_ (some 33) rfl rfl Try.func45 kr_ rfl #[.int .i64 a0_0, .int .u8 114] rfl ar_ ?_; (with_reducible refine (spec_l02Named.calls kj12 a0_0 114 false _ A21.out).mono ?_); rintro e w101 ⟨rfl, hb⟩; refine ⟨_, rfl, ?_⟩; have n0_ := bb_ BK1.out hb; have n1_ := bs_ hb; clear BK1; clear HB; have BK1 := n0_; have HB := n1_; clear n0_ n1_; (try clear hb); (try clear hb2); (try clear hk); (try clear hi); obtain ⟨hcz102_0, hcz102_1, hcz102_2, hcz102_3, hfz102_0, hfz102_1, hfz102_2, hfz102_3⟩ := bc4_ BK1.out))
       go_meet
       case rel => exact ⟨_, (true), sd_, H', ⟨by have := HJ3.out; have := HJ12.out; first | omega | exact Nat.le_refl _⟩, ⟨bk_⟩, ⟨bw_⟩⟩
      rw [if_pos c61] at H
      have c61b0 : (a0_1 == 0) = true := beq_iff_eq.mpr c61
      have c61b1 : (a0_1 != 0) = false := bne_eq_false_iff_eq.mpr c61
      clear c61
      replace H := Option.bind_eq_some_iff.mp H
      obtain ⟨t11, A620, H⟩ := H
      replace H : (if t11 = true then ((spec_l02Named.f kj12 a0_0 110).bind fun t12 => (if t12 = true then (spec_InstrOk.j2 kj12 a1 a2 false a0_0 a0_1 a0_2 a0_3) else (spec_InstrOk.j2 kj12 a1 a2 (a0_3 != 0) a0_0 a0_1 a0_2 a0_3))) else (if a0_2 = 0 then ((spec_l02Named.f kj12 a0_0 110).bind fun t13 => (if t13 = true then (spec_InstrOk.j2 kj12 a1 a2 false a0_0 a0_1 a0_2 a0_3) else (spec_InstrOk.j2 kj12 a1 a2 (a0_3 != 0) a0_0 a0_1 a0_2 a0_3))) else (spec_InstrOk.j2 kj12 a1 a2 true a0_0 a0_1 a0_2 a0_3))) = some r := H
      have A62 := am_ A620
      clear A620
      by_cases c63 : t11 = true
      ·subst c63
       have H1 : ((spec_l02Named.f kj12 a0_0 110).bind fun t12 => (if t12 = true then (spec_InstrOk.j2 kj12 a1 a2 false a0_0 a0_1 a0_2 a0_3) else (spec_InstrOk.j2 kj12 a1 a2 (a0_3 != 0) a0_0 a0_1 a0_2 a0_3))) = some r := by rw [if_pos rfl] at H; exact H
       clear H
       have H := H1
       clear H1
       replace H := Option.bind_eq_some_iff.mp H
       obtain ⟨t12, A640, H⟩ := H
       replace H : (if t12 = true then (spec_InstrOk.j2 kj12 a1 a2 false a0_0 a0_1 a0_2 a0_3) else (spec_InstrOk.j2 kj12 a1 a2 (a0_3 != 0) a0_0 a0_1 a0_2 a0_3)) = some r := H
       have A64 := am_ A640
       clear A640
       by_cases c65 : t12 = true
       ·subst c65
        have H1 : (spec_InstrOk.j2 kj12 a1 a2 false a0_0 a0_1 a0_2 a0_3) = some r := by rw [if_pos rfl] at H; exact H
        clear H
        have H := H1
        clear H1
        have H' := am_ H
        clear H
        obtain ⟨hcz66_0, hcz66_1, hcz66_2, hcz66_3, hfz66_0, hfz66_1, hfz66_2, hfz66_3⟩ := bc4_ BK1.out
        go_wp2_with (first | ((with_reducible refine gate_callee (f := 45) rfl ?_); refine goesL_ (some 33) rfl rfl Try.func45 kr_ rfl #[.int .i64 a0_0, .int .u8 114] rfl ar_ ?_; (with_reducible refine (spec_l02Named.calls kj12 a0_0 114 false _ A21.out).mono ?_); rintro e w67 ⟨rfl, hb⟩; refine ⟨_, rfl, ?_⟩; have n0_ := bb_ BK1.out hb; have n1_ := bs_ hb; clear BK1; clear HB; have BK1 := n0_; have HB := n1_; clear n0_ n1_; (try clear hb); (try clear hb2); (try clear hk); (try clear hi); obtain ⟨hcz68_0, hcz68_1, hcz68_2, hcz68_3, hfz68_0, hfz68_1, hfz68_2, hfz68_3⟩ := bc4_ BK1.out) | (go_at_call 45; (with_reducible refine (spec_l02Named.calls kj12 a0_0 115 true _ A62.out).mono ?_); rintro e w69 ⟨rfl, hb⟩; have n0_ := bb_ BK1.out hb; have n1_ := bs_ hb; clear BK1; clear HB; have BK1 := n0_; have HB := n1_; clear n0_ n1_; (try clear hb); (try clear hb2); (try clear hk); (try clear hi); obtain ⟨hcz70_0, hcz70_1, hcz70_2, hcz70_3, hfz70_0, hfz70_1, hfz70_2, hfz70_3⟩ := bc4_ BK1.out) | (go_at_call 45; (with_reducible refine (spec_l02Named.calls kj12 a0_0 110 true _ A64.out).mono ?_); rintro e w71 ⟨rfl, hb⟩; have n0_ := bb_ BK1.out hb; have n1_ := bs_ hb; clear BK1; clear HB; have BK1 := n0_; have HB := n1_; clear n0_ n1_; (try clear hb); (try clear hb2); (try clear hk); (try clear hi)))
        go_meet
        case rel => exact ⟨_, (false), sd_, H', ⟨by have := HJ3.out; have := HJ12.out; first | omega | exact Nat.le_refl _⟩, ⟨bk_⟩, ⟨bw_⟩⟩
       replace c65 := Bool.eq_false_iff.mpr c65
       subst c65
       have H1 : (spec_InstrOk.j2 kj12 a1 a2 (a0_3 != 0) a0_0 a0_1 a0_2 a0_3) = some r := by rw [if_neg (show ¬ (false = true) by decide)] at H; exact H
       clear H
       have H := H1
       clear H1
       have H' := am_ H
       clear H
       obtain ⟨hcz72_0, hcz72_1, hcz72_2, hcz72_3, hfz72_0, hfz72_1, hfz72_2, hfz72_3⟩ := bc4_ BK1.out
       go_wp2_with (first | ((with_reducible refine gate_callee (f := 45) rfl ?_); refine goesL_ (some 33) rfl rfl Try.func45 kr_ rfl #[.int .i64 a0_0, .int .u8 114] rfl ar_ ?_; (with_reducible refine (spec_l02Named.calls kj12 a0_0 114 false _ A21.out).mono ?_); rintro e w73 ⟨rfl, hb⟩; refine ⟨_, rfl, ?_⟩; have n0_ := bb_ BK1.out hb; have n1_ := bs_ hb; clear BK1; clear HB; have BK1 := n0_; have HB := n1_; clear n0_ n1_; (try clear hb); (try clear hb2); (try clear hk); (try clear hi); obtain ⟨hcz74_0, hcz74_1, hcz74_2, hcz74_3, hfz74_0, hfz74_1, hfz74_2, hfz74_3⟩ := bc4_ BK1.out) | (go_at_call 45; (with_reducible refine (spec_l02Named.calls kj12 a0_0 115 true _ A62.out).mono ?_); rintro e w75 ⟨rfl, hb⟩; have n0_ := bb_ BK1.out hb; have n1_ := bs_ hb; clear BK1; clear HB; have BK1 := n0_; have HB := n1_; clear n0_ n1_; (try clear hb); (try clear hb2); (try clear hk); (try clear hi); obtain ⟨hcz76_0, hcz76_1, hcz76_2, hcz76_3, hfz76_0, hfz76_1, hfz76_2, hfz76_3⟩ := bc4_ BK1.out) | (go_at_call 45; (with_reducible refine (spec_l02Named.calls kj12 a0_0 110 false _ A64.out).mono ?_); rintro e w77 ⟨rfl, hb⟩; have n0_ := bb_ BK1.out hb; have n1_ := bs_ hb; clear BK1; clear HB; have BK1 := n0_; have HB := n1_; clear n0_ n1_; (try clear hb); (try clear hb2); (try clear hk); (try clear hi); obtain ⟨hcz78_0, hcz78_1, hcz78_2, hcz78_3, hfz78_0, hfz78_1, hfz78_2, hfz78_3⟩ := bc4_ BK1.out))
       go_meet
       case rel => exact ⟨_, ((a0_3 != 0)), sd_, H', ⟨by have := HJ3.out; have := HJ12.out; first | omega | exact Nat.le_refl _⟩, ⟨bk_⟩, ⟨bw_⟩⟩
      replace c63 := Bool.eq_false_iff.mpr c63
      subst c63
      have H1 : (if a0_2 = 0 then ((spec_l02Named.f kj12 a0_0 110).bind fun t13 => (if t13 = true then (spec_InstrOk.j2 kj12 a1 a2 false a0_0 a0_1 a0_2 a0_3) else (spec_InstrOk.j2 kj12 a1 a2 (a0_3 != 0) a0_0 a0_1 a0_2 a0_3))) else (spec_InstrOk.j2 kj12 a1 a2 true a0_0 a0_1 a0_2 a0_3)) = some r := by rw [if_neg (show ¬ (false = true) by decide)] at H; exact H
      clear H
      have H := H1
      clear H1
      by_cases c79 : a0_2 = 0
      rotate_left
      ·rw [if_neg c79] at H
       have c79b0 : (a0_2 == 0) = false := beq_eq_false_iff_ne.mpr c79
       have c79b1 : (a0_2 != 0) = true := bne_iff_ne.mpr c79
       have H' := am_ H
       clear H
       obtain ⟨hcz95_0, hcz95_1, hcz95_2, hcz95_3, hfz95_0, hfz95_1, hfz95_2, hfz95_3⟩ := bc4_ BK1.out
       go_wp2_with (first | ((with_reducible refine gate_callee (f := 45) rfl ?_); refine goesL_ (some 33) rfl rfl Try.func45 kr_ rfl #[.int .i64 a0_0, .int .u8 114] rfl ar_ ?_; (with_reducible refine (spec_l02Named.calls kj12 a0_0 114 false _ A21.out).mono ?_); rintro e w96 ⟨rfl, hb⟩; refine ⟨_, rfl, ?_⟩; have n0_ := bb_ BK1.out hb; have n1_ := bs_ hb; clear BK1; clear HB; have BK1 := n0_; have HB := n1_; clear n0_ n1_; (try clear hb); (try clear hb2); (try clear hk); (try clear hi); obtain ⟨hcz97_0, hcz97_1, hcz97_2, hcz97_3, hfz97_0, hfz97_1, hfz97_2, hfz97_3⟩ := bc4_ BK1.out) | (go_at_call 45; (with_reducible refine (spec_l02Named.calls kj12 a0_0 115 false _ A62.out).mono ?_); rintro e w98 ⟨rfl, hb⟩; have n0_ := bb_ BK1.out hb; have n1_ := bs_ hb; clear BK1; clear HB; have BK1 := n0_; have HB := n1_; clear n0_ n1_; (try clear hb); (try clear hb2); (try clear hk); (try clear hi); obtain ⟨hcz99_0, hcz99_1, hcz99_2, hcz99_3, hfz99_0, hfz99_1, hfz99_2, hfz99_3⟩ := bc4_ BK1.out))
       go_meet
       case rel => exact ⟨_, (true), sd_, H', ⟨by have := HJ3.out; have := HJ12.out; first | omega | exact Nat.le_refl _⟩, ⟨bk_⟩, ⟨bw_⟩⟩
      rw [if_pos c79] at H
      have c79b0 : (a0_2 == 0) = true := beq_iff_eq.mpr c79
      have c79b1 : (a0_2 != 0) = false := bne_eq_false_iff_eq.mpr c79
      clear c79
      replace H := Option.bind_eq_some_iff.mp H
      obtain ⟨t13, A800, H⟩ := H
      replace H : (if t13 = true then (spec_InstrOk.j2 kj12 a1 a2 false a0_0 a0_1 a0_2 a0_3) else (spec_InstrOk.j2 kj12 a1 a2 (a0_3 != 0) a0_0 a0_1 a0_2 a0_3)) = some r := H
      have A80 := am_ A800
      clear A800
      by_cases c81 : t13 = true
      ·subst c81
       have H1 : (spec_InstrOk.j2 kj12 a1 a2 false a0_0 a0_1 a0_2 a0_3) = some r := by rw [if_pos rfl] at H; exact H
       clear H
       have H := H1
       clear H1
       have H' := am_ H
       clear H
       obtain ⟨hcz82_0, hcz82_1, hcz82_2, hcz82_3, hfz82_0, hfz82_1, hfz82_2, hfz82_3⟩ := bc4_ BK1.out
       go_wp2_with (first | ((with_reducible refine gate_callee (f := 45) rfl ?_); refine goesL_ (some 33) rfl rfl Try.func45 kr_ rfl #[.int .i64 a0_0, .int .u8 114] rfl ar_ ?_; (with_reducible refine (spec_l02Named.calls kj12 a0_0 114 false _ A21.out).mono ?_); rintro e w83 ⟨rfl, hb⟩; refine ⟨_, rfl, ?_⟩; have n0_ := bb_ BK1.out hb; have n1_ := bs_ hb; clear BK1; clear HB; have BK1 := n0_; have HB := n1_; clear n0_ n1_; (try clear hb); (try clear hb2); (try clear hk); (try clear hi); obtain ⟨hcz84_0, hcz84_1, hcz84_2, hcz84_3, hfz84_0, hfz84_1, hfz84_2, hfz84_3⟩ := bc4_ BK1.out) | (go_at_call 45; (with_reducible refine (spec_l02Named.calls kj12 a0_0 115 false _ A62.out).mono ?_); rintro e w85 ⟨rfl, hb⟩; have n0_ := bb_ BK1.out hb; have n1_ := bs_ hb; clear BK1; clear HB; have BK1 := n0_; have HB := n1_; clear n0_ n1_; (try clear hb); (try clear hb2); (try clear hk); (try clear hi); obtain ⟨hcz86_0, hcz86_1, hcz86_2, hcz86_3, hfz86_0, hfz86_1, hfz86_2, hfz86_3⟩ := bc4_ BK1.out) | (go_at_call 45; (with_reducible refine (spec_l02Named.calls kj12 a0_0 110 true _ A80.out).mono ?_); rintro e w87 ⟨rfl, hb⟩; have n0_ := bb_ BK1.out hb; have n1_ := bs_ hb; clear BK1; clear HB; have BK1 := n0_; have HB := n1_; clear n0_ n1_; (try clear hb); (try clear hb2); (try clear hk); (try clear hi)))
       go_meet
       case rel => exact ⟨_, (false), sd_, H', ⟨by have := HJ3.out; have := HJ12.out; first | omega | exact Nat.le_refl _⟩, ⟨bk_⟩, ⟨bw_⟩⟩
      replace c81 := Bool.eq_false_iff.mpr c81
      subst c81
      have H1 : (spec_InstrOk.j2 kj12 a1 a2 (a0_3 != 0) a0_0 a0_1 a0_2 a0_3) = some r := by rw [if_neg (show ¬ (false = true) by decide)] at H; exact H
      clear H
      have H := H1
      clear H1
      have H' := am_ H
      clear H
      obtain ⟨hcz88_0, hcz88_1, hcz88_2, hcz88_3, hfz88_0, hfz88_1, hfz88_2, hfz88_3⟩ := bc4_ BK1.out
      go_wp2_with (first | ((with_reducible refine gate_callee (f := 45) rfl ?_); refine goesL_ (some 33) rfl rfl Try.func45 kr_ rfl #[.int .i64 a0_0, .int .u8 114] rfl ar_ ?_; (with_reducible refine (spec_l02Named.calls kj12 a0_0 114 false _ A21.out).mono ?_); rintro e w89 ⟨rfl, hb⟩; refine ⟨_, rfl, ?_⟩; have n0_ := bb_ BK1.out hb; have n1_ := bs_ hb; clear BK1; clear HB; have BK1 := n0_; have HB := n1_; clear n0_ n1_; (try clear hb); (try clear hb2); (try clear hk); (try clear hi); obtain ⟨hcz90_0, hcz90_1, hcz90_2, hcz90_3, hfz90_0, hfz90_1, hfz90_2, hfz90_3⟩ := bc4_ BK1.out) | (go_at_call 45; (with_reducible refine (spec_l02Named.calls kj12 a0_0 115 false _ A62.out).mono ?_); rintro e w91 ⟨rfl, hb⟩; have n0_ := bb_ BK1.out hb; have n1_ := bs_ hb; clear BK1; clear HB; have BK1 := n0_; have HB := n1_; clear n0_ n1_; (try clear hb); (try clear hb2); (try clear hk); (try clear hi); obtain ⟨hcz92_0, hcz92_1, hcz92_2, hcz92_3, hfz92_0, hfz92_1, hfz92_2, hfz92_3⟩ := bc4_ BK1.out) | (go_at_call 45; (with_reducible refine (spec_l02Named.calls kj12 a0_0 110 false _ A80.out).mono ?_); rintro e w93 ⟨rfl, hb⟩; have n0_ := bb_ BK1.out hb; have n1_ := bs_ hb; clear BK1; clear HB; have BK1 := n0_; have HB := n1_; clear n0_ n1_; (try clear hb); (try clear hb2); (try clear hk); (try clear hi); obtain ⟨hcz94_0, hcz94_1, hcz94_2, hcz94_3, hfz94_0, hfz94_1, hfz94_2, hfz94_3⟩ := bc4_ BK1.out))
      go_meet
      case rel => exact ⟨_, ((a0_3 != 0)), sd_, H', ⟨by have := HJ3.out; have := HJ12.out; first | omega | exact Nat.le_refl _⟩, ⟨bk_⟩, ⟨bw_⟩⟩
     case rest =>
      clear HC20
      try clear c7
      try clear c9
      try clear c12
      try clear c15
      try clear c19
      try clear c22
      try clear c24
      try clear c26
      try clear c40
      try clear c40b0
      try clear c40b1
      try clear c42
      try clear c61
      try clear c61b0
      try clear c61b1
      try clear c63
      try clear c65
      try clear c79
      try clear c79b0
      try clear c79b1
      try clear c81
      try clear hcz100_0 hcz100_1 hcz100_2 hcz100_3
      try clear hcz102_0 hcz102_1 hcz102_2 hcz102_3
      try clear hcz11_0 hcz11_1 hcz11_2 hcz11_3
      try clear hcz17_0 hcz17_1 hcz17_2 hcz17_3
      try clear hcz18_0 hcz18_1 hcz18_2 hcz18_3
      try clear hcz27_0 hcz27_1 hcz27_2 hcz27_3
      try clear hcz29_0 hcz29_1 hcz29_2 hcz29_3
      try clear hcz31_0 hcz31_1 hcz31_2 hcz31_3
      try clear hcz33_0 hcz33_1 hcz33_2 hcz33_3
      try clear hcz35_0 hcz35_1 hcz35_2 hcz35_3
      try clear hcz37_0 hcz37_1 hcz37_2 hcz37_3
      try clear hcz39_0 hcz39_1 hcz39_2 hcz39_3
      try clear hcz43_0 hcz43_1 hcz43_2 hcz43_3
      try clear hcz45_0 hcz45_1 hcz45_2 hcz45_3
      try clear hcz47_0 hcz47_1 hcz47_2 hcz47_3
      try clear hcz49_0 hcz49_1 hcz49_2 hcz49_3
      try clear hcz51_0 hcz51_1 hcz51_2 hcz51_3
      try clear hcz53_0 hcz53_1 hcz53_2 hcz53_3
      try clear hcz55_0 hcz55_1 hcz55_2 hcz55_3
      try clear hcz56_0 hcz56_1 hcz56_2 hcz56_3
      try clear hcz58_0 hcz58_1 hcz58_2 hcz58_3
      try clear hcz60_0 hcz60_1 hcz60_2 hcz60_3
      try clear hcz66_0 hcz66_1 hcz66_2 hcz66_3
      try clear hcz68_0 hcz68_1 hcz68_2 hcz68_3
      try clear hcz70_0 hcz70_1 hcz70_2 hcz70_3
      try clear hcz72_0 hcz72_1 hcz72_2 hcz72_3
      try clear hcz74_0 hcz74_1 hcz74_2 hcz74_3
      try clear hcz76_0 hcz76_1 hcz76_2 hcz76_3
      try clear hcz78_0 hcz78_1 hcz78_2 hcz78_3
      try clear hcz82_0 hcz82_1 hcz82_2 hcz82_3
      try clear hcz84_0 hcz84_1 hcz84_2 hcz84_3
      try clear hcz86_0 hcz86_1 hcz86_2 hcz86_3
      try clear hcz88_0 hcz88_1 hcz88_2 hcz88_3
      try clear hcz90_0 hcz90_1 hcz90_2 hcz90_3
      try clear hcz92_0 hcz92_1 hcz92_2 hcz92_3
      try clear hcz94_0 hcz94_1 hcz94_2 hcz94_3
      try clear hcz95_0 hcz95_1 hcz95_2 hcz95_3
      try clear hcz97_0 hcz97_1 hcz97_2 hcz97_3
      try clear hcz99_0 hcz99_1 hcz99_2 hcz99_3
      try clear hfz100_0 hfz100_1 hfz100_2 hfz100_3
      try clear hfz102_0 hfz102_1 hfz102_2 hfz102_3
      try clear hfz11_0 hfz11_1 hfz11_2 hfz11_3
      try clear hfz17_0 hfz17_1 hfz17_2 hfz17_3
      try clear hfz18_0 hfz18_1 hfz18_2 hfz18_3
      try clear hfz27_0 hfz27_1 hfz27_2 hfz27_3
      try clear hfz29_0 hfz29_1 hfz29_2 hfz29_3
      try clear hfz31_0 hfz31_1 hfz31_2 hfz31_3
      try clear hfz33_0 hfz33_1 hfz33_2 hfz33_3
      try clear hfz35_0 hfz35_1 hfz35_2 hfz35_3
      try clear hfz37_0 hfz37_1 hfz37_2 hfz37_3
      try clear hfz39_0 hfz39_1 hfz39_2 hfz39_3
      try clear hfz43_0 hfz43_1 hfz43_2 hfz43_3
      try clear hfz45_0 hfz45_1 hfz45_2 hfz45_3
      try clear hfz47_0 hfz47_1 hfz47_2 hfz47_3
      try clear hfz49_0 hfz49_1 hfz49_2 hfz49_3
      try clear hfz51_0 hfz51_1 hfz51_2 hfz51_3
      try clear hfz53_0 hfz53_1 hfz53_2 hfz53_3
      try clear hfz55_0 hfz55_1 hfz55_2 hfz55_3
      try clear hfz56_0 hfz56_1 hfz56_2 hfz56_3
      try clear hfz58_0 hfz58_1 hfz58_2 hfz58_3
      try clear hfz60_0 hfz60_1 hfz60_2 hfz60_3
      try clear hfz66_0 hfz66_1 hfz66_2 hfz66_3
      try clear hfz68_0 hfz68_1 hfz68_2 hfz68_3
      try clear hfz70_0 hfz70_1 hfz70_2 hfz70_3
      try clear hfz72_0 hfz72_1 hfz72_2 hfz72_3
      try clear hfz74_0 hfz74_1 hfz74_2 hfz74_3
      try clear hfz76_0 hfz76_1 hfz76_2 hfz76_3
      try clear hfz78_0 hfz78_1 hfz78_2 hfz78_3
      try clear hfz82_0 hfz82_1 hfz82_2 hfz82_3
      try clear hfz84_0 hfz84_1 hfz84_2 hfz84_3
      try clear hfz86_0 hfz86_1 hfz86_2 hfz86_3
      try clear hfz88_0 hfz88_1 hfz88_2 hfz88_3
      try clear hfz90_0 hfz90_1 hfz90_2 hfz90_3
      try clear hfz92_0 hfz92_1 hfz92_2 hfz92_3
      try clear hfz94_0 hfz94_1 hfz94_2 hfz94_3
      try clear hfz95_0 hfz95_1 hfz95_2 hfz95_3
      try clear hfz97_0 hfz97_1 hfz97_2 hfz97_3
      try clear hfz99_0 hfz99_1 hfz99_2 hfz99_3
      obtain ⟨kq, x61_19, rfl, HA, HJ19, BK1, HB⟩ := hcut
      cases kq with
      | zero => exact absurd HA.out (by simp [spec_InstrOk.j2])
      | succ kj19 =>
       have H := HA.out
       clear HA
       simp only [spec_InstrOk.j2] at H
       by_cases c103 : x61_19 = true
       ·subst c103
        have H1 : (some false) = some r := by rw [if_pos rfl] at H; exact H
        clear H
        have H := H1
        clear H1
        obtain rfl := Option.some.inj H
        go_wp2
        go_ret
        exact ⟨rr_, bw_⟩
       replace c103 := Bool.eq_false_iff.mpr c103
       subst c103
       have H1 : (if a0_0 = 0 then ((spec_l01In.f a0_3 (-1000) 1000).bind fun t14 => (some t14)) else (if a0_0 = 2 then (spec_InstrOk.j3 kj19 a1 a2 a0_0 (a0_0 == 2) a0_0 a0_1 a0_2 a0_3) else (if a0_0 = 3 then (spec_InstrOk.j3 kj19 a1 a2 a0_0 (a0_0 == 3) a0_0 a0_1 a0_2 a0_3) else (if a0_0 = 5 then (spec_InstrOk.j3 kj19 a1 a2 a0_0 (a0_0 == 5) a0_0 a0_1 a0_2 a0_3) else (spec_InstrOk.j3 kj19 a1 a2 a0_0 (a0_0 == 7) a0_0 a0_1 a0_2 a0_3))))) = some r := by rw [if_neg (show ¬ (false = true) by decide)] at H; exact H
       clear H
       have H := H1
       clear H1
       by_cases c104 : a0_0 = 0
       ·rw [if_pos c104] at H
        have c104b0 : (a0_0 == 0) = true := beq_iff_eq.mpr c104
        have c104b1 : (a0_0 != 0) = false := bne_eq_false_iff_eq.mpr c104
        clear c104
        replace H := Option.bind_eq_some_iff.mp H
        obtain ⟨t14, A1050, H⟩ := H
        replace H : (some t14) = some r := H
        have A105 := am_ A1050
        clear A1050
        obtain rfl := Option.some.inj H
        obtain ⟨hcz106_0, hcz106_1, hcz106_2, hcz106_3, hfz106_0, hfz106_1, hfz106_2, hfz106_3⟩ := bc4_ BK1.out
        go_wp2_with (first | ((with_reducible refine gate_callee (f := 31) rfl ?_); refine goesL_ (some 68) rfl rfl Try.func31 kr_ rfl #[.int .i64 a0_3, .int .i64 (-1000), .int .i64 1000] rfl ar_ ?_; (with_reducible refine (spec_l01In.calls a0_3 (-1000) 1000 t14 _ A105.out).mono ?_); rintro e w' ⟨rfl, ⟨nd, rfl⟩⟩; refine ⟨_, rfl, ?_⟩))
        go_ret
        exact ⟨rr_, bw_⟩
       rw [if_neg c104] at H
       have c104b0 : (a0_0 == 0) = false := beq_eq_false_iff_ne.mpr c104
       have c104b1 : (a0_0 != 0) = true := bne_iff_ne.mpr c104
       have HC107 := am_ H
       clear H
       obtain ⟨hcz108_0, hcz108_1, hcz108_2, hcz108_3, hfz108_0, hfz108_1, hfz108_2, hfz108_3⟩ := bc4_ BK1.out
       go_upto_if 69 with (fail)
       go_cut [69] (fun v69 wc => ∃ (kq : Nat) (x69_106 : Bool), v69 = .bool x69_106 ∧ Aside0 (spec_InstrOk.j3 kq a1 a2 a0_0 x69_106 a0_0 a0_1 a0_2 a0_3 = some r) ∧ Aside0 (kq ≤ kj19) ∧ Aside0 (wc.heap[gb1]? = some (.cells #[.int .i64 a0_0, .int .i64 a0_1, .int .i64 a0_2, .int .i64 a0_3] 50 (0, 0))) ∧ Aside0 (Below w.heap.size w wc))
       case first =>
        have H := HC107.out
        clear HC107
        by_cases c109 : a0_0 = 2
        ·rw [if_pos c109] at H
         have c109b0 : (a0_0 == 2) = true := beq_iff_eq.mpr c109
         have c109b1 : (a0_0 != 2) = false := bne_eq_false_iff_eq.mpr c109
         clear c109
         (first | rw [c109b0] | (simp only [i64_w, i32_w]; rw [c109b0]) | skip)
         have H' := am_ H
         clear H
         go_wp2
         go_meet
         case rel => exact ⟨_, ((a0_0 == 2)), sd_, H', ⟨by have := HJ3.out; have := HJ12.out; have := HJ19.out; first | omega | exact Nat.le_refl _⟩, ⟨bk_⟩, ⟨bw_⟩⟩
        rw [if_neg c109] at H
        have c109b0 : (a0_0 == 2) = false := beq_eq_false_iff_ne.mpr c109
        have c109b1 : (a0_0 != 2) = true := bne_iff_ne.mpr c109
        (first | rw [c109b0] | (simp only [i64_w, i32_w]; rw [c109b0]) | skip)
        by_cases c110 : a0_0 = 3
        ·rw [if_pos c110] at H
         have c110b0 : (a0_0 == 3) = true := beq_iff_eq.mpr c110
         have c110b1 : (a0_0 != 3) = false := bne_eq_false_iff_eq.mpr c110
         clear c110
         have H' := am_ H
         clear H
         go_wp2
         go_meet
         case rel => exact ⟨_, ((a0_0 == 3)), sd_, H', ⟨by have := HJ3.out; have := HJ12.out; have := HJ19.out; first | omega | exact Nat.le_refl _⟩, ⟨bk_⟩, ⟨bw_⟩⟩
        rw [if_neg c110] at H
        have c110b0 : (a0_0 == 3) = false := beq_eq_false_iff_ne.mpr c110
        have c110b1 : (a0_0 != 3) = true := bne_iff_ne.mpr c110
        by_cases c111 : a0_0 = 5
        rotate_left
        ·rw [if_neg c111] at H
         have c111b0 : (a0_0 == 5) = false := beq_eq_false_iff_ne.mpr c111
         have c111b1 : (a0_0 != 5) = true := bne_iff_ne.mpr c111
         have H' := am_ H
         clear H
         go_wp2
         go_meet
         case rel => exact ⟨_, ((a0_0 == 7)), sd_, H', ⟨by have := HJ3.out; have := HJ12.out; have := HJ19.out; first | omega | exact Nat.le_refl _⟩, ⟨bk_⟩, ⟨bw_⟩⟩
        rw [if_pos c111] at H
        have c111b0 : (a0_0 == 5) = true := beq_iff_eq.mpr c111
        have c111b1 : (a0_0 != 5) = false := bne_eq_false_iff_eq.mpr c111
        clear c111
        have H' := am_ H
        clear H
        go_wp2
        go_meet
        case rel => exact ⟨_, ((a0_0 == 5)), sd_, H', ⟨by have := HJ3.out; have := HJ12.out; have := HJ19.out; first | omega | exact Nat.le_refl _⟩, ⟨bk_⟩, ⟨bw_⟩⟩
       case rest =>
        clear HC107
        try clear c7
        try clear c9
        try clear c12
        try clear c15
        try clear c19
        try clear c22
        try clear c24
        try clear c26
        try clear c40
        try clear c40b0
        try clear c40b1
        try clear c42
        try clear c61
        try clear c61b0
        try clear c61b1
        try clear c63
        try clear c65
        try clear c79
        try clear c79b0
        try clear c79b1
        try clear c81
        try clear c103
        try clear c104
        try clear c104b0
        try clear c104b1
        try clear c109
        try clear c109b0
        try clear c109b1
        try clear c110
        try clear c110b0
        try clear c110b1
        try clear c111
        try clear c111b0
        try clear c111b1
        try clear hcz100_0 hcz100_1 hcz100_2 hcz100_3
        try clear hcz102_0 hcz102_1 hcz102_2 hcz102_3
        try clear hcz106_0 hcz106_1 hcz106_2 hcz106_3
        try clear hcz108_0 hcz108_1 hcz108_2 hcz108_3
        try clear hcz11_0 hcz11_1 hcz11_2 hcz11_3
        try clear hcz17_0 hcz17_1 hcz17_2 hcz17_3
        try clear hcz18_0 hcz18_1 hcz18_2 hcz18_3
        try clear hcz27_0 hcz27_1 hcz27_2 hcz27_3
        try clear hcz29_0 hcz29_1 hcz29_2 hcz29_3
        try clear hcz31_0 hcz31_1 hcz31_2 hcz31_3
        try clear hcz33_0 hcz33_1 hcz33_2 hcz33_3
        try clear hcz35_0 hcz35_1 hcz35_2 hcz35_3
        try clear hcz37_0 hcz37_1 hcz37_2 hcz37_3
        try clear hcz39_0 hcz39_1 hcz39_2 hcz39_3
        try clear hcz43_0 hcz43_1 hcz43_2 hcz43_3
        try clear hcz45_0 hcz45_1 hcz45_2 hcz45_3
        try clear hcz47_0 hcz47_1 hcz47_2 hcz47_3
        try clear hcz49_0 hcz49_1 hcz49_2 hcz49_3
        try clear hcz51_0 hcz51_1 hcz51_2 hcz51_3
        try clear hcz53_0 hcz53_1 hcz53_2 hcz53_3
        try clear hcz55_0 hcz55_1 hcz55_2 hcz55_3
        try clear hcz56_0 hcz56_1 hcz56_2 hcz56_3
        try clear hcz58_0 hcz58_1 hcz58_2 hcz58_3
        try clear hcz60_0 hcz60_1 hcz60_2 hcz60_3
        try clear hcz66_0 hcz66_1 hcz66_2 hcz66_3
        try clear hcz68_0 hcz68_1 hcz68_2 hcz68_3
        try clear hcz70_0 hcz70_1 hcz70_2 hcz70_3
        try clear hcz72_0 hcz72_1 hcz72_2 hcz72_3
        try clear hcz74_0 hcz74_1 hcz74_2 hcz74_3
        try clear hcz76_0 hcz76_1 hcz76_2 hcz76_3
        try clear hcz78_0 hcz78_1 hcz78_2 hcz78_3
        try clear hcz82_0 hcz82_1 hcz82_2 hcz82_3
        try clear hcz84_0 hcz84_1 hcz84_2 hcz84_3
        try clear hcz86_0 hcz86_1 hcz86_2 hcz86_3
        try clear hcz88_0 hcz88_1 hcz88_2 hcz88_3
        try clear hcz90_0 hcz90_1 hcz90_2 hcz90_3
        try clear hcz92_0 hcz92_1 hcz92_2 hcz92_3
        try clear hcz94_0 hcz94_1 hcz94_2 hcz94_3
        try clear hcz95_0 hcz95_1 hcz95_2 hcz95_3
        try clear hcz97_0 hcz97_1 hcz97_2 hcz97_3
        try clear hcz99_0 hcz99_1 hcz99_2 hcz99_3
        try clear hfz100_0 hfz100_1 hfz100_2 hfz100_3
        try clear hfz102_0 hfz102_1 hfz102_2 hfz102_3
        try clear hfz106_0 hfz106_1 hfz106_2 hfz106_3
        try clear hfz108_0 hfz108_1 hfz108_2 hfz108_3
        try clear hfz11_0 hfz11_1 hfz11_2 hfz11_3
        try clear hfz17_0 hfz17_1 hfz17_2 hfz17_3
        try clear hfz18_0 hfz18_1 hfz18_2 hfz18_3
        try clear hfz27_0 hfz27_1 hfz27_2 hfz27_3
        try clear hfz29_0 hfz29_1 hfz29_2 hfz29_3
        try clear hfz31_0 hfz31_1 hfz31_2 hfz31_3
        try clear hfz33_0 hfz33_1 hfz33_2 hfz33_3
        try clear hfz35_0 hfz35_1 hfz35_2 hfz35_3
        try clear hfz37_0 hfz37_1 hfz37_2 hfz37_3
        try clear hfz39_0 hfz39_1 hfz39_2 hfz39_3
        try clear hfz43_0 hfz43_1 hfz43_2 hfz43_3
        try clear hfz45_0 hfz45_1 hfz45_2 hfz45_3
        try clear hfz47_0 hfz47_1 hfz47_2 hfz47_3
        try clear hfz49_0 hfz49_1 hfz49_2 hfz49_3
        try clear hfz51_0 hfz51_1 hfz51_2 hfz51_3
        try clear hfz53_0 hfz53_1 hfz53_2 hfz53_3
        try clear hfz55_0 hfz55_1 hfz55_2 hfz55_3
        try clear hfz56_0 hfz56_1 hfz56_2 hfz56_3
        try clear hfz58_0 hfz58_1 hfz58_2 hfz58_3
        try clear hfz60_0 hfz60_1 hfz60_2 hfz60_3
        try clear hfz66_0 hfz66_1 hfz66_2 hfz66_3
        try clear hfz68_0 hfz68_1 hfz68_2 hfz68_3
        try clear hfz70_0 hfz70_1 hfz70_2 hfz70_3
        try clear hfz72_0 hfz72_1 hfz72_2 hfz72_3
        try clear hfz74_0 hfz74_1 hfz74_2 hfz74_3
        try clear hfz76_0 hfz76_1 hfz76_2 hfz76_3
        try clear hfz78_0 hfz78_1 hfz78_2 hfz78_3
        try clear hfz82_0 hfz82_1 hfz82_2 hfz82_3
        try clear hfz84_0 hfz84_1 hfz84_2 hfz84_3
        try clear hfz86_0 hfz86_1 hfz86_2 hfz86_3
        try clear hfz88_0 hfz88_1 hfz88_2 hfz88_3
        try clear hfz90_0 hfz90_1 hfz90_2 hfz90_3
        try clear hfz92_0 hfz92_1 hfz92_2 hfz92_3
        try clear hfz94_0 hfz94_1 hfz94_2 hfz94_3
        try clear hfz95_0 hfz95_1 hfz95_2 hfz95_3
        try clear hfz97_0 hfz97_1 hfz97_2 hfz97_3
        try clear hfz99_0 hfz99_1 hfz99_2 hfz99_3
        obtain ⟨kq, x69_106, rfl, HA, HJ106, BK1, HB⟩ := hcut
        cases kq with
        | zero => exact absurd HA.out (by simp [spec_InstrOk.j3])
        | succ kj106 =>
         have H := HA.out
         clear HA
         simp only [spec_InstrOk.j3] at H
         by_cases c112 : x69_106 = true
         ·subst c112
          have H1 : ((spec_l01In.f a0_3 0 (wrap64 (a1 - 1))).bind fun t15 => (some t15)) = some r := by rw [if_pos rfl] at H; exact H
          clear H
          have H := H1
          clear H1
          replace H := Option.bind_eq_some_iff.mp H
          obtain ⟨t15, A1130, H⟩ := H
          replace H : (some t15) = some r := H
          have A113 := am_ A1130
          clear A1130
          obtain rfl := Option.some.inj H
          obtain ⟨hcz114_0, hcz114_1, hcz114_2, hcz114_3, hfz114_0, hfz114_1, hfz114_2, hfz114_3⟩ := bc4_ BK1.out
          go_wp2_with (first | ((with_reducible refine gate_callee (f := 31) rfl ?_); refine goesL_ (some 78) rfl rfl Try.func31 kr_ rfl #[.int .i64 a0_3, .int .i64 0, .int .i64 (wrap64 (a1 - 1))] rfl ar_ ?_; (with_reducible refine (spec_l01In.calls a0_3 0 (wrap64 (a1 - 1)) t15 _ A113.out).mono ?_); rintro e w' ⟨rfl, ⟨nd, rfl⟩⟩; refine ⟨_, rfl, ?_⟩))
          go_ret
          exact ⟨rr_, bw_⟩
         replace c112 := Bool.eq_false_iff.mpr c112
         subst c112
         have H1 : (if a0_0 = 6 then ((spec_l01In.f a0_3 0 a2).bind fun t16 => (some t16)) else (some true)) = some r := by rw [if_neg (show ¬ (false = true) by decide)] at H; exact H
         clear H
         have H := H1
         clear H1
         by_cases c115 : a0_0 = 6
         rotate_left
         ·rw [if_neg c115] at H
          have c115b0 : (a0_0 == 6) = false := beq_eq_false_iff_ne.mpr c115
          have c115b1 : (a0_0 != 6) = true := bne_iff_ne.mpr c115
          obtain rfl := Option.some.inj H
          go_wp2
          go_ret
          exact ⟨rr_, bw_⟩
         rw [if_pos c115] at H
         have c115b0 : (a0_0 == 6) = true := beq_iff_eq.mpr c115
         have c115b1 : (a0_0 != 6) = false := bne_eq_false_iff_eq.mpr c115
         clear c115
         replace H := Option.bind_eq_some_iff.mp H
         obtain ⟨t16, A1160, H⟩ := H
         replace H : (some t16) = some r := H
         have A116 := am_ A1160
         clear A1160
         obtain rfl := Option.some.inj H
         obtain ⟨hcz117_0, hcz117_1, hcz117_2, hcz117_3, hfz117_0, hfz117_1, hfz117_2, hfz117_3⟩ := bc4_ BK1.out
         go_wp2_with (first | ((with_reducible refine gate_callee (f := 31) rfl ?_); refine goesL_ (some 84) rfl rfl Try.func31 kr_ rfl #[.int .i64 a0_3, .int .i64 0, .int .i64 a2] rfl ar_ ?_; (with_reducible refine (spec_l01In.calls a0_3 0 a2 t16 _ A116.out).mono ?_); rintro e w' ⟨rfl, ⟨nd, rfl⟩⟩; refine ⟨_, rfl, ?_⟩))
         go_ret
         exact ⟨rr_, bw_⟩

end Go.Proofs.Ytbgclnjnngolmaa.P
