-- Written by mp.py (the session's own driver over the kit's printer) for the seat Ytbgclnjnngolmaa.
import Derived.Test.YtbgclnjnngolmaaK
import Derived.Test.YtbgclnjnngolmaaE
import Derived.Test.YtbgclnjnngolmaaPimplwithin
namespace Go.Proofs.Ytbgclnjnngolmaa.P
open Go.RowKit Go.Proofs.YtbgclnjnngolmaaW.PrintWords Go.Proofs.YtbgclnjnngolmaaW.PrintLast Go.Proofs.YtbgclnjnngolmaaW.PrintMore
attribute [local go_sem] max2_int min2_int max_two min_two max_three min_three max_four min_four
set_option linter.unusedVariables false
set_option linter.unusedSimpArgs false

/-! ### impl_InstrOk: function 36 -/
mutual
def impl_InstrOk.j0 : Nat → Int → Int → Bool → Int → Int → Int → Int → Option (Bool)
 | 0, _, _, _, _, _, _, _ => none
 | k + 1, x1, x2, x32, x2000, x2001, x2002, x2003 => if x32 = true then (some false) else ((impl_Instr_usesR.f x2000 x2001 x2002 x2003).bind fun t7 => (if t7 = true then ((impl_Instr_usesS.f x2000 x2001 x2002 x2003).bind fun t8 => (if t8 = true then (impl_InstrOk.j1 k x1 x2 false x2000 x2001 x2002 x2003) else (impl_InstrOk.j1 k x1 x2 (x2002 != 0) x2000 x2001 x2002 x2003))) else (if x2001 = 0 then ((impl_Instr_usesS.f x2000 x2001 x2002 x2003).bind fun t9 => (if t9 = true then (impl_InstrOk.j1 k x1 x2 false x2000 x2001 x2002 x2003) else (impl_InstrOk.j1 k x1 x2 (x2002 != 0) x2000 x2001 x2002 x2003))) else (impl_InstrOk.j1 k x1 x2 true x2000 x2001 x2002 x2003))))
def impl_InstrOk.j1 : Nat → Int → Int → Bool → Int → Int → Int → Int → Option (Bool)
 | 0, _, _, _, _, _, _, _ => none
 | k + 1, x1, x2, x50, x2000, x2001, x2002, x2003 => if x50 = true then (some false) else ((impl_Instr_usesN.f x2000 x2001 x2002 x2003).bind fun t10 => (if t10 = true then (if x2000 = 0 then ((impl_within.f x2003 (-1000) 1000).bind fun t11 => (some t11)) else (if x2000 = 6 then ((impl_within.f x2003 0 x2).bind fun t12 => (some t12)) else ((impl_within.f x2003 0 (wrap64 (x1 - 1))).bind fun t13 => (some t13)))) else (some (x2003 == 0))))
end
def impl_InstrOk.f (k : Nat) (a0_0 : Int) (a0_1 : Int) (a0_2 : Int) (a0_3 : Int) (a1 : Int) (a2 : Int) : Option (Bool) := (impl_within.f a1 1 16).bind fun t2 => (if t2 = true then ((impl_within.f a2 0 16).bind fun t3 => (if t3 = true then ((impl_within.f a0_0 0 8).bind fun t4 => (if t4 = true then ((impl_isRegister.f a0_1).bind fun t5 => (if t5 = true then ((impl_isRegister.f a0_2).bind fun t6 => (impl_InstrOk.j0 k a1 a2 (!t6) a0_0 a0_1 a0_2 a0_3)) else (impl_InstrOk.j0 k a1 a2 true a0_0 a0_1 a0_2 a0_3))) else (impl_InstrOk.j0 k a1 a2 true a0_0 a0_1 a0_2 a0_3))) else (impl_InstrOk.j0 k a1 a2 true a0_0 a0_1 a0_2 a0_3))) else (impl_InstrOk.j0 k a1 a2 true a0_0 a0_1 a0_2 a0_3))
theorem impl_InstrOk.mono_l : ∀ k, (∀ y0 y1 y2 y3 y4 y5 y6, LeO (impl_InstrOk.j0 k y0 y1 y2 y3 y4 y5 y6) (impl_InstrOk.j0 (k + 1) y0 y1 y2 y3 y4 y5 y6)) ∧ (∀ y0 y1 y2 y3 y4 y5 y6, LeO (impl_InstrOk.j1 k y0 y1 y2 y3 y4 y5 y6) (impl_InstrOk.j1 (k + 1) y0 y1 y2 y3 y4 y5 y6))
 | 0 => ⟨fun _ _ _ _ _ _ _ r h => by simp [impl_InstrOk.j0] at h, fun _ _ _ _ _ _ _ r h => by simp [impl_InstrOk.j1] at h⟩
 | k + 1 => by
  obtain ⟨ih0, ih1⟩ := impl_InstrOk.mono_l k
  refine ⟨?_, ?_⟩
  ·intro y0 y1 y2 y3 y4 y5 y6
   unfold impl_InstrOk.j0
   repeat' first | (with_reducible first | exact ih0 _ _ _ _ _ _ _ | exact ih1 _ _ _ _ _ _ _ | exact lr_ | exact ln_ | refine LeO.ite ?_ ?_ | refine LeO.bind ?_ (fun _ => ?_)) | exact ih0 _ _ _ _ _ _ _ | exact ih1 _ _ _ _ _ _ _ | exact ln_ | refine LeO.ite ?_ ?_ | refine LeO.bind ?_ (fun _ => ?_)
  ·intro y0 y1 y2 y3 y4 y5 y6
   unfold impl_InstrOk.j1
   repeat' first | (with_reducible first | exact ih0 _ _ _ _ _ _ _ | exact ih1 _ _ _ _ _ _ _ | exact lr_ | exact ln_ | refine LeO.ite ?_ ?_ | refine LeO.bind ?_ (fun _ => ?_)) | exact ih0 _ _ _ _ _ _ _ | exact ih1 _ _ _ _ _ _ _ | exact ln_ | refine LeO.ite ?_ ?_ | refine LeO.bind ?_ (fun _ => ?_)
theorem impl_InstrOk.mono : ∀ a0 a1 a2 a3 a4 a5 k, LeO (impl_InstrOk.f k a0 a1 a2 a3 a4 a5) (impl_InstrOk.f (k + 1) a0 a1 a2 a3 a4 a5) := by
 intro a0 a1 a2 a3 a4 a5 k
 obtain ⟨ih0, ih1⟩ := impl_InstrOk.mono_l k
 unfold impl_InstrOk.f
 repeat' first | (with_reducible first | exact ih0 _ _ _ _ _ _ _ | exact ih1 _ _ _ _ _ _ _ | exact lr_ | exact ln_ | refine LeO.ite ?_ ?_ | refine LeO.bind ?_ (fun _ => ?_)) | exact ih0 _ _ _ _ _ _ _ | exact ih1 _ _ _ _ _ _ _ | exact ln_ | refine LeO.ite ?_ ?_ | refine LeO.bind ?_ (fun _ => ?_)
set_option maxHeartbeats 8000000 in
set_option maxRecDepth 100000 in
theorem impl_InstrOk.calls (k : Nat) (a0_0 : Int) (a0_1 : Int) (a0_2 : Int) (a0_3 : Int) (a1 : Int) (a2 : Int) (r : Bool) (w : World) (h : impl_InstrOk.f k a0_0 a0_1 a0_2 a0_3 a1 a2 = some r) :
  Calls Try.prog 36 #[.agg #[.int .i64 a0_0, .int .i64 a0_1, .int .i64 a0_2, .int .i64 a0_3], .int .i64 a1, .int .i64 a2] w fun e w' => e = .returned (.bool r) ∧ Below w.heap.size w w' := by
 have hu50 := Try.underlying50
 have HB := am_ (Below.refl w.heap.size w)
 have H : ((impl_within.f a1 1 16).bind fun t2 => (if t2 = true then ((impl_within.f a2 0 16).bind fun t3 => (if t3 = true then ((impl_within.f a0_0 0 8).bind fun t4 => (if t4 = true then ((impl_isRegister.f a0_1).bind fun t5 => (if t5 = true then ((impl_isRegister.f a0_2).bind fun t6 => (impl_InstrOk.j0 k a1 a2 (!t6) a0_0 a0_1 a0_2 a0_3)) else (impl_InstrOk.j0 k a1 a2 true a0_0 a0_1 a0_2 a0_3))) else (impl_InstrOk.j0 k a1 a2 true a0_0 a0_1 a0_2 a0_3))) else (impl_InstrOk.j0 k a1 a2 true a0_0 a0_1 a0_2 a0_3))) else (impl_InstrOk.j0 k a1 a2 true a0_0 a0_1 a0_2 a0_3))) = some r := h
 clear h
 have HC4 := am_ H
 clear H
 go_enter Try.func36, Try.ntmps36
 go_upto_region 1 with (first | ((with_reducible refine gate_dst (N := 3) rfl ?_); refine box_event ?hg (N := 3) ?hd (cs := #[.int .i64 a0_0, .int .i64 a0_1, .int .i64 a0_2, .int .i64 a0_3]) (t := 50) ?hr ?_; (case hd => rfl); (case hg => rfl); (case hr => exact hrr_); intro gb1 hg w5 hbox hb; have n0_ := bs_ hb; have n1_ := am_ (hbox); have n2_ := ge_ (w := w) hg; have n3_ := ge_ (w := w) hg; clear HB; have HB := n0_; have BK1 := n1_; have GW1 := n2_; have GE1 := n3_; clear n0_ n1_ n2_ n3_; clear hb hbox hg))
 (try simp only [Act.put, List.setIfInBounds_toArray, List.set_cons_zero, List.set_cons_succ])
 go_cut [32] (fun v32 wc => ∃ (kq : Nat) (x32_3 : Bool), v32 = .bool x32_3 ∧ Aside0 (impl_InstrOk.j0 kq a1 a2 x32_3 a0_0 a0_1 a0_2 a0_3 = some r) ∧ Aside0 (kq ≤ k) ∧ Aside0 (wc.heap[gb1]? = some (.cells #[.int .i64 a0_0, .int .i64 a0_1, .int .i64 a0_2, .int .i64 a0_3] 50 (0, 0))) ∧ Aside0 (Below w.heap.size w wc))
 case first =>
  have H := HC4.out
  clear HC4
  replace H := Option.bind_eq_some_iff.mp H
  obtain ⟨t2, A60, H⟩ := H
  replace H : (if t2 = true then ((impl_within.f a2 0 16).bind fun t3 => (if t3 = true then ((impl_within.f a0_0 0 8).bind fun t4 => (if t4 = true then ((impl_isRegister.f a0_1).bind fun t5 => (if t5 = true then ((impl_isRegister.f a0_2).bind fun t6 => (impl_InstrOk.j0 k a1 a2 (!t6) a0_0 a0_1 a0_2 a0_3)) else (impl_InstrOk.j0 k a1 a2 true a0_0 a0_1 a0_2 a0_3))) else (impl_InstrOk.j0 k a1 a2 true a0_0 a0_1 a0_2 a0_3))) else (impl_InstrOk.j0 k a1 a2 true a0_0 a0_1 a0_2 a0_3))) else (impl_InstrOk.j0 k a1 a2 true a0_0 a0_1 a0_2 a0_3)) = some r := H
  have A6 := am_ A60
  clear A60
  by_cases c7 : t2 = true
  rotate_left
  ·replace c7 := Bool.eq_false_iff.mpr c7
   subst c7
   have H1 : (impl_InstrOk.j0 k a1 a2 true a0_0 a0_1 a0_2 a0_3) = some r := by rw [if_neg (show ¬ (false = true) by decide)] at H; exact H
   clear H
   have H := H1
   clear H1
   have H' := am_ H
   clear H
   go_wp2_with (first | ((with_reducible refine gate_callee (f := 33) rfl ?_); refine goesL_ (some 8) rfl rfl Try.func33 kr_ rfl #[.int .i64 a1, .int .i64 1, .int .i64 16] rfl ar_ ?_; (with_reducible refine (impl_within.calls a1 1 16 false _ A6.out).mono ?_); rintro e w' ⟨rfl, ⟨nd, rfl⟩⟩; refine ⟨_, rfl, ?_⟩))
   go_meet
   case rel => exact ⟨_, (true), sd_, H', ⟨by first | omega | exact Nat.le_refl _⟩, ⟨bk_⟩, ⟨bw_⟩⟩
  subst c7
  have H1 : ((impl_within.f a2 0 16).bind fun t3 => (if t3 = true then ((impl_within.f a0_0 0 8).bind fun t4 => (if t4 = true then ((impl_isRegister.f a0_1).bind fun t5 => (if t5 = true then ((impl_isRegister.f a0_2).bind fun t6 => (impl_InstrOk.j0 k a1 a2 (!t6) a0_0 a0_1 a0_2 a0_3)) else (impl_InstrOk.j0 k a1 a2 true a0_0 a0_1 a0_2 a0_3))) else (impl_InstrOk.j0 k a1 a2 true a0_0 a0_1 a0_2 a0_3))) else (impl_InstrOk.j0 k a1 a2 true a0_0 a0_1 a0_2 a0_3))) = some r := by rw [if_pos rfl] at H; exact H
  clear H
  have H := H1
  clear H1
  replace H := Option.bind_eq_some_iff.mp H
  obtain ⟨t3, A80, H⟩ := H
  replace H : (if t3 = true then ((impl_within.f a0_0 0 8).bind fun t4 => (if t4 = true then ((impl_isRegister.f a0_1).bind fun t5 => (if t5 = true then ((impl_isRegister.f a0_2).bind fun t6 => (impl_InstrOk.j0 k a1 a2 (!t6) a0_0 a0_1 a0_2 a0_3)) else (impl_InstrOk.j0 k a1 a2 true a0_0 a0_1 a0_2 a0_3))) else (impl_InstrOk.j0 k a1 a2 true a0_0 a0_1 a0_2 a0_3))) else (impl_InstrOk.j0 k a1 a2 true a0_0 a0_1 a0_2 a0_3)) = some r := H
  have A8 := am_ A80
  clear A80
  by_cases c9 : t3 = true
  rotate_left
  ·replace c9 := Bool.eq_false_iff.mpr c9
   subst c9
   have H1 : (impl_InstrOk.j0 k a1 a2 true a0_0 a0_1 a0_2 a0_3) = some r := by rw [if_neg (show ¬ (false = true) by decide)] at H; exact H
   clear H
   have H := H1
   clear H1
   have H' := am_ H
   clear H
   go_wp2_with (first | ((with_reducible refine gate_callee (f := 33) rfl ?_); refine goesL_ (some 8) rfl rfl Try.func33 kr_ rfl #[.int .i64 a1, .int .i64 1, .int .i64 16] rfl ar_ ?_; (with_reducible refine (impl_within.calls a1 1 16 true _ A6.out).mono ?_); rintro e w' ⟨rfl, ⟨nd, rfl⟩⟩; refine ⟨_, rfl, ?_⟩) | (go_at_call 33; (with_reducible refine (impl_within.calls a2 0 16 false _ A8.out).mono ?_); rintro e w' ⟨rfl, ⟨nd, rfl⟩⟩))
   go_meet
   case rel => exact ⟨_, (true), sd_, H', ⟨by first | omega | exact Nat.le_refl _⟩, ⟨bk_⟩, ⟨bw_⟩⟩
  subst c9
  have H1 : ((impl_within.f a0_0 0 8).bind fun t4 => (if t4 = true then ((impl_isRegister.f a0_1).bind fun t5 => (if t5 = true then ((impl_isRegister.f a0_2).bind fun t6 => (impl_InstrOk.j0 k a1 a2 (!t6) a0_0 a0_1 a0_2 a0_3)) else (impl_InstrOk.j0 k a1 a2 true a0_0 a0_1 a0_2 a0_3))) else (impl_InstrOk.j0 k a1 a2 true a0_0 a0_1 a0_2 a0_3))) = some r := by rw [if_pos rfl] at H; exact H
  clear H
  have H := H1
  clear H1
  replace H := Option.bind_eq_some_iff.mp H
  obtain ⟨t4, A100, H⟩ := H
  replace H : (if t4 = true then ((impl_isRegister.f a0_1).bind fun t5 => (if t5 = true then ((impl_isRegister.f a0_2).bind fun t6 => (impl_InstrOk.j0 k a1 a2 (!t6) a0_0 a0_1 a0_2 a0_3)) else (impl_InstrOk.j0 k a1 a2 true a0_0 a0_1 a0_2 a0_3))) else (impl_InstrOk.j0 k a1 a2 true a0_0 a0_1 a0_2 a0_3)) = some r := H
  have A10 := am_ A100
  clear A100
  by_cases c11 : t4 = true
  rotate_left
  ·replace c11 := Bool.eq_false_iff.mpr c11
   subst c11
   have H1 : (impl_InstrOk.j0 k a1 a2 true a0_0 a0_1 a0_2 a0_3) = some r := by rw [if_neg (show ¬ (false = true) by decide)] at H; exact H
   clear H
   have H := H1
   clear H1
   have H' := am_ H
   clear H
   go_wp2_with (first | ((with_reducible refine gate_callee (f := 33) rfl ?_); refine goesL_ (some 8) rfl rfl Try.func33 kr_ rfl #[.int .i64 a1, .int .i64 1, .int .i64 16] rfl ar_ ?_; (with_reducible refine (impl_within.calls a1 1 16 true _ A6.out).mono ?_); rintro e w' ⟨rfl, ⟨nd, rfl⟩⟩; refine ⟨_, rfl, ?_⟩) | (go_at_call 33; (with_reducible refine (impl_within.calls a2 0 16 true _ A8.out).mono ?_); rintro e w' ⟨rfl, ⟨nd, rfl⟩⟩; obtain ⟨hcz17_0, hcz17_1, hcz17_2, hcz17_3, hfz17_0, hfz17_1, hfz17_2, hfz17_3⟩ := bc4_ BK1.out) | (go_at_call 33; (with_reducible refine (impl_within.calls a0_0 0 8 false _ A10.out).mono ?_); rintro e w' ⟨rfl, ⟨nd, rfl⟩⟩))
   go_meet
   case rel => exact ⟨_, (true), sd_, H', ⟨by first | omega | exact Nat.le_refl _⟩, ⟨bk_⟩, ⟨bw_⟩⟩
  subst c11
  have H1 : ((impl_isRegister.f a0_1).bind fun t5 => (if t5 = true then ((impl_isRegister.f a0_2).bind fun t6 => (impl_InstrOk.j0 k a1 a2 (!t6) a0_0 a0_1 a0_2 a0_3)) else (impl_InstrOk.j0 k a1 a2 true a0_0 a0_1 a0_2 a0_3))) = some r := by rw [if_pos rfl] at H; exact H
  clear H
  have H := H1
  clear H1
  replace H := Option.bind_eq_some_iff.mp H
  obtain ⟨t5, A120, H⟩ := H
  replace H : (if t5 = true then ((impl_isRegister.f a0_2).bind fun t6 => (impl_InstrOk.j0 k a1 a2 (!t6) a0_0 a0_1 a0_2 a0_3)) else (impl_InstrOk.j0 k a1 a2 true a0_0 a0_1 a0_2 a0_3)) = some r := H
  have A12 := am_ A120
  clear A120
  by_cases c13 : t5 = true
  rotate_left
  ·replace c13 := Bool.eq_false_iff.mpr c13
   subst c13
   have H1 : (impl_InstrOk.j0 k a1 a2 true a0_0 a0_1 a0_2 a0_3) = some r := by rw [if_neg (show ¬ (false = true) by decide)] at H; exact H
   clear H
   have H := H1
   clear H1
   have H' := am_ H
   clear H
   go_wp2_with (first | ((with_reducible refine gate_callee (f := 33) rfl ?_); refine goesL_ (some 8) rfl rfl Try.func33 kr_ rfl #[.int .i64 a1, .int .i64 1, .int .i64 16] rfl ar_ ?_; (with_reducible refine (impl_within.calls a1 1 16 true _ A6.out).mono ?_); rintro e w' ⟨rfl, ⟨nd, rfl⟩⟩; refine ⟨_, rfl, ?_⟩) | (go_at_call 33; (with_reducible refine (impl_within.calls a2 0 16 true _ A8.out).mono ?_); rintro e w' ⟨rfl, ⟨nd, rfl⟩⟩; obtain ⟨hcz16_0, hcz16_1, hcz16_2, hcz16_3, hfz16_0, hfz16_1, hfz16_2, hfz16_3⟩ := bc4_ BK1.out) | (go_at_call 33; (with_reducible refine (impl_within.calls a0_0 0 8 true _ A10.out).mono ?_); rintro e w' ⟨rfl, ⟨nd, rfl⟩⟩) | (go_at_call 47; (with_reducible refine (impl_isRegister.calls a0_1 false _ A12.out).mono ?_); rintro e w' ⟨rfl, ⟨nd, rfl⟩⟩))
   go_meet
   case rel => exact ⟨_, (true), sd_, H', ⟨by first | omega | exact Nat.le_refl _⟩, ⟨bk_⟩, ⟨bw_⟩⟩
  subst c13
  have H1 : ((impl_isRegister.f a0_2).bind fun t6 => (impl_InstrOk.j0 k a1 a2 (!t6) a0_0 a0_1 a0_2 a0_3)) = some r := by rw [if_pos rfl] at H; exact H
  clear H
  have H := H1
  clear H1
  replace H := Option.bind_eq_some_iff.mp H
  obtain ⟨t6, A140, H⟩ := H
  replace H : (impl_InstrOk.j0 k a1 a2 (!t6) a0_0 a0_1 a0_2 a0_3) = some r := H
  have A14 := am_ A140
  clear A140
  have H' := am_ H
  clear H
  go_wp2_with (first | ((with_reducible refine gate_callee (f := 33) rfl ?_); refine goesL_ (some 8) rfl rfl Try.func33 kr_ rfl #[.int .i64 a1, .int .i64 1, .int .i64 16] rfl ar_ ?_; (with_reducible refine (impl_within.calls a1 1 16 true _ A6.out).mono ?_); rintro e w' ⟨rfl, ⟨nd, rfl⟩⟩; refine ⟨_, rfl, ?_⟩) | (go_at_call 33; (with_reducible refine (impl_within.calls a2 0 16 true _ A8.out).mono ?_); rintro e w' ⟨rfl, ⟨nd, rfl⟩⟩; obtain ⟨hcz15_0, hcz15_1, hcz15_2, hcz15_3, hfz15_0, hfz15_1, hfz15_2, hfz15_3⟩ := bc4_ BK1.out) | (go_at_call 33; (with_reducible refine (impl_within.calls a0_0 0 8 true _ A10.out).mono ?_); rintro e w' ⟨rfl, ⟨nd, rfl⟩⟩) | (go_at_call 47; (with_reducible refine (impl_isRegister.calls a0_1 true _ A12.out).mono ?_); rintro e w' ⟨rfl, ⟨nd, rfl⟩⟩) | (go_at_call 47; (with_reducible refine (impl_isRegister.calls a0_2 t6 _ A14.out).mono ?_); rintro e w' ⟨rfl, ⟨nd, rfl⟩⟩))
  go_meet
  case rel => exact ⟨_, (!t6), sd_, H', ⟨by first | omega | exact Nat.le_refl _⟩, ⟨bk_⟩, ⟨bw_⟩⟩
 case rest =>
  clear HC4
  try clear c7
  try clear c9
  try clear c11
  try clear c13
  try clear hcz15_0 hcz15_1 hcz15_2 hcz15_3
  try clear hcz16_0 hcz16_1 hcz16_2 hcz16_3
  try clear hcz17_0 hcz17_1 hcz17_2 hcz17_3
  try clear hfz15_0 hfz15_1 hfz15_2 hfz15_3
  try clear hfz16_0 hfz16_1 hfz16_2 hfz16_3
  try clear hfz17_0 hfz17_1 hfz17_2 hfz17_3
  obtain ⟨kq, x32_3, rfl, HA, HJ3, BK1, HB⟩ := hcut
  cases kq with
  | zero => exact absurd HA.out (by simp [impl_InstrOk.j0])
  | succ kj3 =>
   have H := HA.out
   clear HA
   simp only [impl_InstrOk.j0] at H
   by_cases c18 : x32_3 = true
   ·subst c18
    have H1 : (some false) = some r := by rw [if_pos rfl] at H; exact H
    clear H
    have H := H1
    clear H1
    obtain rfl := Option.some.inj H
    go_wp2
    go_ret
    exact ⟨rr_, bw_⟩
   replace c18 := Bool.eq_false_iff.mpr c18
   subst c18
   have H1 : ((impl_Instr_usesR.f a0_0 a0_1 a0_2 a0_3).bind fun t7 => (if t7 = true then ((impl_Instr_usesS.f a0_0 a0_1 a0_2 a0_3).bind fun t8 => (if t8 = true then (impl_InstrOk.j1 kj3 a1 a2 false a0_0 a0_1 a0_2 a0_3) else (impl_InstrOk.j1 kj3 a1 a2 (a0_2 != 0) a0_0 a0_1 a0_2 a0_3))) else (if a0_1 = 0 then ((impl_Instr_usesS.f a0_0 a0_1 a0_2 a0_3).bind fun t9 => (if t9 = true then (impl_InstrOk.j1 kj3 a1 a2 false a0_0 a0_1 a0_2 a0_3) else (impl_InstrOk.j1 kj3 a1 a2 (a0_2 != 0) a0_0 a0_1 a0_2 a0_3))) else (impl_InstrOk.j1 kj3 a1 a2 true a0_0 a0_1 a0_2 a0_3)))) = some r := by rw [if_neg (show ¬ (false = true) by decide)] at H; exact H
   clear H
   have H := H1
   clear H1
   have HC19 := am_ H
   clear H
   go_upto_region 3 with (fail)
   go_cut [50] (fun v50 wc => ∃ (kq : Nat) (x50_18 : Bool), v50 = .bool x50_18 ∧ Aside0 (impl_InstrOk.j1 kq a1 a2 x50_18 a0_0 a0_1 a0_2 a0_3 = some r) ∧ Aside0 (kq ≤ kj3) ∧ Aside0 (wc.heap[gb1]? = some (.cells #[.int .i64 a0_0, .int .i64 a0_1, .int .i64 a0_2, .int .i64 a0_3] 50 (0, 0))) ∧ Aside0 (Below w.heap.size w wc))
   case first =>
    have H := HC19.out
    clear HC19
    replace H := Option.bind_eq_some_iff.mp H
    obtain ⟨t7, A200, H⟩ := H
    replace H : (if t7 = true then ((impl_Instr_usesS.f a0_0 a0_1 a0_2 a0_3).bind fun t8 => (if t8 = true then (impl_InstrOk.j1 kj3 a1 a2 false a0_0 a0_1 a0_2 a0_3) else (impl_InstrOk.j1 kj3 a1 a2 (a0_2 != 0) a0_0 a0_1 a0_2 a0_3))) else (if a0_1 = 0 then ((impl_Instr_usesS.f a0_0 a0_1 a0_2 a0_3).bind fun t9 => (if t9 = true then (impl_InstrOk.j1 kj3 a1 a2 false a0_0 a0_1 a0_2 a0_3) else (impl_InstrOk.j1 kj3 a1 a2 (a0_2 != 0) a0_0 a0_1 a0_2 a0_3))) else (impl_InstrOk.j1 kj3 a1 a2 true a0_0 a0_1 a0_2 a0_3))) = some r := H
    have A20 := am_ A200
    clear A200
    by_cases c21 : t7 = true
    ·subst c21
     have H1 : ((impl_Instr_usesS.f a0_0 a0_1 a0_2 a0_3).bind fun t8 => (if t8 = true then (impl_InstrOk.j1 kj3 a1 a2 false a0_0 a0_1 a0_2 a0_3) else (impl_InstrOk.j1 kj3 a1 a2 (a0_2 != 0) a0_0 a0_1 a0_2 a0_3))) = some r := by rw [if_pos rfl] at H; exact H
     clear H
     have H := H1
     clear H1
     replace H := Option.bind_eq_some_iff.mp H
     obtain ⟨t8, A220, H⟩ := H
     replace H : (if t8 = true then (impl_InstrOk.j1 kj3 a1 a2 false a0_0 a0_1 a0_2 a0_3) else (impl_InstrOk.j1 kj3 a1 a2 (a0_2 != 0) a0_0 a0_1 a0_2 a0_3)) = some r := H
     have A22 := am_ A220
     clear A220
     by_cases c23 : t8 = true
     ·subst c23
      have H1 : (impl_InstrOk.j1 kj3 a1 a2 false a0_0 a0_1 a0_2 a0_3) = some r := by rw [if_pos rfl] at H; exact H
      clear H
      have H := H1
      clear H1
      have H' := am_ H
      clear H
      obtain ⟨hcz24_0, hcz24_1, hcz24_2, hcz24_3, hfz24_0, hfz24_1, hfz24_2, hfz24_3⟩ := bc4_ BK1.out
      go_wp2_with (first | ((with_reducible refine gate_callee (f := 48) rfl ?_); refine goesL_ (some 34) rfl rfl Try.func48 kr_ rfl #[.agg #[.int .i64 a0_0, .int .i64 a0_1, .int .i64 a0_2, .int .i64 a0_3]] rfl ar_ ?_; (with_reducible refine (impl_Instr_usesR.calls a0_0 a0_1 a0_2 a0_3 true _ A20.out).mono ?_); rintro e w25 ⟨rfl, hb⟩; refine ⟨_, rfl, ?_⟩; have n0_ := bb_ BK1.out hb; have n1_ := bs_ hb; clear BK1; clear HB; have BK1 := n0_; have HB := n1_; clear n0_ n1_; (try clear hb); (try clear hb2); (try clear hk); (try clear hi); obtain ⟨hcz26_0, hcz26_1, hcz26_2, hcz26_3, hfz26_0, hfz26_1, hfz26_2, hfz26_3⟩ := bc4_ BK1.out) | (go_at_call 49; (with_reducible refine (impl_Instr_usesS.calls a0_0 a0_1 a0_2 a0_3 true _ A22.out).mono ?_); rintro e w27 ⟨rfl, hb⟩; have n0_ := bb_ BK1.out hb; have n1_ := bs_ hb; clear BK1; clear HB; have BK1 := n0_; have HB := n1_; clear n0_ n1_; (try clear hb); (try clear hb2); (try clear hk); (try clear hi)))
      go_meet
      case rel => exact ⟨_, (false), sd_, H', ⟨by have := HJ3.out; first | omega | exact Nat.le_refl _⟩, ⟨bk_⟩, ⟨bw_⟩⟩
     replace c23 := Bool.eq_false_iff.mpr c23
     subst c23
     have H1 : (impl_InstrOk.j1 kj3 a1 a2 (a0_2 != 0) a0_0 a0_1 a0_2 a0_3) = some r := by rw [if_neg (show ¬ (false = true) by decide)] at H; exact H
     clear H
     have H := H1
     clear H1
     have H' := am_ H
     clear H
     obtain ⟨hcz28_0, hcz28_1, hcz28_2, hcz28_3, hfz28_0, hfz28_1, hfz28_2, hfz28_3⟩ := bc4_ BK1.out
     go_wp2_with (first | ((with_reducible refine gate_callee (f := 48) rfl ?_); refine goesL_ (some 34) rfl rfl Try.func48 kr_ rfl #[.agg #[.int .i64 a0_0, .int .i64 a0_1, .int .i64 a0_2, .int .i64 a0_3]] rfl ar_ ?_; (with_reducible refine (impl_Instr_usesR.calls a0_0 a0_1 a0_2 a0_3 true _ A20.out).mono ?_); rintro e w29 ⟨rfl, hb⟩; refine ⟨_, rfl, ?_⟩; have n0_ := bb_ BK1.out hb; have n1_ := bs_ hb; clear BK1; clear HB; have BK1 := n0_; have HB := n1_; clear n0_ n1_; (try clear hb); (try clear hb2); (try clear hk); (try clear hi); obtain ⟨hcz30_0, hcz30_1, hcz30_2, hcz30_3, hfz30_0, hfz30_1, hfz30_2, hfz30_3⟩ := bc4_ BK1.out) | (go_at_call 49; (with_reducible refine (impl_Instr_usesS.calls a0_0 a0_1 a0_2 a0_3 false _ A22.out).mono ?_); rintro e w31 ⟨rfl, hb⟩; have n0_ := bb_ BK1.out hb; have n1_ := bs_ hb; clear BK1; clear HB; have BK1 := n0_; have HB := n1_; clear n0_ n1_; (try clear hb); (try clear hb2); (try clear hk); (try clear hi); obtain ⟨hcz32_0, hcz32_1, hcz32_2, hcz32_3, hfz32_0, hfz32_1, hfz32_2, hfz32_3⟩ := bc4_ BK1.out))
     go_meet
     case rel => exact ⟨_, ((a0_2 != 0)), sd_, H', ⟨by have := HJ3.out; first | omega | exact Nat.le_refl _⟩, ⟨bk_⟩, ⟨bw_⟩⟩
    replace c21 := Bool.eq_false_iff.mpr c21
    subst c21
    have H1 : (if a0_1 = 0 then ((impl_Instr_usesS.f a0_0 a0_1 a0_2 a0_3).bind fun t9 => (if t9 = true then (impl_InstrOk.j1 kj3 a1 a2 false a0_0 a0_1 a0_2 a0_3) else (impl_InstrOk.j1 kj3 a1 a2 (a0_2 != 0) a0_0 a0_1 a0_2 a0_3))) else (impl_InstrOk.j1 kj3 a1 a2 true a0_0 a0_1 a0_2 a0_3)) = some r := by rw [if_neg (show ¬ (false = true) by decide)] at H; exact H
    clear H
    have H := H1
    clear H1
    by_cases c33 : a0_1 = 0
    rotate_left
    ·rw [if_neg c33] at H
     have c33b0 : (a0_1 == 0) = false := beq_eq_false_iff_ne.mpr c33
     have c33b1 : (a0_1 != 0) = true := bne_iff_ne.mpr c33
     (first | rw [c33b0] | (simp only [i64_w, i32_w]; rw [c33b0]) | skip)
     have H' := am_ H
     clear H
     obtain ⟨hcz45_0, hcz45_1, hcz45_2, hcz45_3, hfz45_0, hfz45_1, hfz45_2, hfz45_3⟩ := bc4_ BK1.out
     go_wp2_with (first | ((with_reducible refine gate_callee (f := 48) rfl ?_); refine goesL_ (some 34) rfl rfl Try.func48 kr_ rfl #[.agg #[.int .i64 a0_0, .int .i64 a0_1, .int .i64 a0_2, .int .i64 a0_3]] rfl ar_ ?_; (with_reducible refine (impl_Instr_usesR.calls a0_0 a0_1 a0_2 a0_3 false _ A20.out).mono ?_); rintro e w46 ⟨rfl, hb⟩; refine ⟨_, rfl, ?_⟩; have n0_ := bb_ BK1.out hb; have n1_ := bs_ hb; clear BK1; clear HB; have BK1 := n0_; have HB := n1_; clear n0_ n1_; (try clear hb); (try clear hb2); (try clear hk); (try clear hi); obtain ⟨hcz47_0, hcz47_1, hcz47_2, hcz47_3, hfz47_0, hfz47_1, hfz47_2, hfz47_3⟩ := bc4_ BK1.out))
     go_meet
     case rel => exact ⟨_, (true), sd_, H', ⟨by have := HJ3.out; first | omega | exact Nat.le_refl _⟩, ⟨bk_⟩, ⟨bw_⟩⟩
    rw [if_pos c33] at H
    have c33b0 : (a0_1 == 0) = true := beq_iff_eq.mpr c33
    have c33b1 : (a0_1 != 0) = false := bne_eq_false_iff_eq.mpr c33
    clear c33
    (first | rw [c33b0] | (simp only [i64_w, i32_w]; rw [c33b0]) | skip)
    replace H := Option.bind_eq_some_iff.mp H
    obtain ⟨t9, A340, H⟩ := H
    replace H : (if t9 = true then (impl_InstrOk.j1 kj3 a1 a2 false a0_0 a0_1 a0_2 a0_3) else (impl_InstrOk.j1 kj3 a1 a2 (a0_2 != 0) a0_0 a0_1 a0_2 a0_3)) = some r := H
    have A34 := am_ A340
    clear A340
    by_cases c35 : t9 = true
    ·subst c35
     have H1 : (impl_InstrOk.j1 kj3 a1 a2 false a0_0 a0_1 a0_2 a0_3) = some r := by rw [if_pos rfl] at H; exact H
     clear H
     have H := H1
     clear H1
     have H' := am_ H
     clear H
     obtain ⟨hcz36_0, hcz36_1, hcz36_2, hcz36_3, hfz36_0, hfz36_1, hfz36_2, hfz36_3⟩ := bc4_ BK1.out
     go_wp2_with (first | ((with_reducible refine gate_callee (f := 48) rfl ?_); refine goesL_ (some 34) rfl rfl Try.func48 kr_ rfl #[.agg #[.int .i64 a0_0, .int .i64 a0_1, .int .i64 a0_2, .int .i64 a0_3]] rfl ar_ ?_; (with_reducible refine (impl_Instr_usesR.calls a0_0 a0_1 a0_2 a0_3 false _ A20.out).mono ?_); rintro e w37 ⟨rfl, hb⟩; refine ⟨_, rfl, ?_⟩; have n0_ := bb_ BK1.out hb; have n1_ := bs_ hb; clear BK1; clear HB; have BK1 := n0_; have HB := n1_; clear n0_ n1_; (try clear hb); (try clear hb2); (try clear hk); (try clear hi); obtain ⟨hcz38_0, hcz38_1, hcz38_2, hcz38_3, hfz38_0, hfz38_1, hfz38_2, hfz38_3⟩ := bc4_ BK1.out) | (go_at_call 49; (with_reducible refine (impl_Instr_usesS.calls a0_0 a0_1 a0_2 a0_3 true _ A34.out).mono ?_); rintro e w39 ⟨rfl, hb⟩; have n0_ := bb_ BK1.out hb; have n1_ := bs_ hb; clear BK1; clear HB; have BK1 := n0_; have HB := n1_; clear n0_ n1_; (try clear hb); (try clear hb2); (try clear hk); (try clear hi)))
     go_meet
     case rel => exact ⟨_, (false), sd_, H', ⟨by have := HJ3.out; first | omega | exact Nat.le_refl _⟩, ⟨bk_⟩, ⟨bw_⟩⟩
    replace c35 := Bool.eq_false_iff.mpr c35
    subst c35
    have H1 : (impl_InstrOk.j1 kj3 a1 a2 (a0_2 != 0) a0_0 a0_1 a0_2 a0_3) = some r := by rw [if_neg (show ¬ (false = true) by decide)] at H; exact H
    clear H
    have H := H1
    clear H1
    have H' := am_ H
    clear H
    obtain ⟨hcz40_0, hcz40_1, hcz40_2, hcz40_3, hfz40_0, hfz40_1, hfz40_2, hfz40_3⟩ := bc4_ BK1.out
    go_wp2_with (first | ((with_reducible refine gate_callee (f := 48) rfl ?_); refine goesL_ (some 34) rfl rfl Try.func48 kr_ rfl #[.agg #[.int .i64 a0_0, .int .i64 a0_1, .int .i64 a0_2, .int .i64 a0_3]] rfl ar_ ?_; (with_reducible refine (impl_Instr_usesR.calls a0_0 a0_1 a0_2 a0_3 false _ A20.out).mono ?_); rintro e w41 ⟨rfl, hb⟩; refine ⟨_, rfl, ?_⟩; have n0_ := bb_ BK1.out hb; have n1_ := bs_ hb; clear BK1; clear HB; have BK1 := n0_; have HB := n1_; clear n0_ n1_; (try clear hb); (try clear hb2); (try clear hk); (try clear hi); obtain ⟨hcz42_0, hcz42_1, hcz42_2, hcz42_3, hfz42_0, hfz42_1, hfz42_2, hfz42_3⟩ := bc4_ BK1.out) | (go_at_call 49; (with_reducible refine (impl_Instr_usesS.calls a0_0 a0_1 a0_2 a0_3 false _ A34.out).mono ?_); rintro e w43 ⟨rfl, hb⟩; have n0_ := bb_ BK1.out hb; have n1_ := bs_ hb; clear BK1; clear HB; have BK1 := n0_; have HB := n1_; clear n0_ n1_; (try clear hb); (try clear hb2); (try clear hk); (try clear hi); obtain ⟨hcz44_0, hcz44_1, hcz44_2, hcz44_3, hfz44_0, hfz44_1, hfz44_2, hfz44_3⟩ := bc4_ BK1.out))
    go_meet
    case rel => exact ⟨_, ((a0_2 != 0)), sd_, H', ⟨by have := HJ3.out; first | omega | exact Nat.le_refl _⟩, ⟨bk_⟩, ⟨bw_⟩⟩
   case rest =>
    clear HC19
    try clear c7
    try clear c9
    try clear c11
    try clear c13
    try clear c18
    try clear c21
    try clear c23
    try clear c33
    try clear c33b0
    try clear c33b1
    try clear c35
    try clear hcz15_0 hcz15_1 hcz15_2 hcz15_3
    try clear hcz16_0 hcz16_1 hcz16_2 hcz16_3
    try clear hcz17_0 hcz17_1 hcz17_2 hcz17_3
    try clear hcz24_0 hcz24_1 hcz24_2 hcz24_3
    try clear hcz26_0 hcz26_1 hcz26_2 hcz26_3
    try clear hcz28_0 hcz28_1 hcz28_2 hcz28_3
    try clear hcz30_0 hcz30_1 hcz30_2 hcz30_3
    try clear hcz32_0 hcz32_1 hcz32_2 hcz32_3
    try clear hcz36_0 hcz36_1 hcz36_2 hcz36_3
    try clear hcz38_0 hcz38_1 hcz38_2 hcz38_3
    try clear hcz40_0 hcz40_1 hcz40_2 hcz40_3
    try clear hcz42_0 hcz42_1 hcz42_2 hcz42_3
    try clear hcz44_0 hcz44_1 hcz44_2 hcz44_3
    try clear hcz45_0 hcz45_1 hcz45_2 hcz45_3
    try clear hcz47_0 hcz47_1 hcz47_2 hcz47_3
    try clear hfz15_0 hfz15_1 hfz15_2 hfz15_3
    try clear hfz16_0 hfz16_1 hfz16_2 hfz16_3
    try clear hfz17_0 hfz17_1 hfz17_2 hfz17_3
    try clear hfz24_0 hfz24_1 hfz24_2 hfz24_3
    try clear hfz26_0 hfz26_1 hfz26_2 hfz26_3
    try clear hfz28_0 hfz28_1 hfz28_2 hfz28_3
    try clear hfz30_0 hfz30_1 hfz30_2 hfz30_3
    try clear hfz32_0 hfz32_1 hfz32_2 hfz32_3
    try clear hfz36_0 hfz36_1 hfz36_2 hfz36_3
    try clear hfz38_0 hfz38_1 hfz38_2 hfz38_3
    try clear hfz40_0 hfz40_1 hfz40_2 hfz40_3
    try clear hfz42_0 hfz42_1 hfz42_2 hfz42_3
    try clear hfz44_0 hfz44_1 hfz44_2 hfz44_3
    try clear hfz45_0 hfz45_1 hfz45_2 hfz45_3
    try clear hfz47_0 hfz47_1 hfz47_2 hfz47_3
    obtain ⟨kq, x50_18, rfl, HA, HJ18, BK1, HB⟩ := hcut
    cases kq with
    | zero => exact absurd HA.out (by simp [impl_InstrOk.j1])
    | succ kj18 =>
     have H := HA.out
     clear HA
     simp only [impl_InstrOk.j1] at H
     by_cases c48 : x50_18 = true
     ·subst c48
      have H1 : (some false) = some r := by rw [if_pos rfl] at H; exact H
      clear H
      have H := H1
      clear H1
      obtain rfl := Option.some.inj H
      go_wp2
      go_ret
      exact ⟨rr_, bw_⟩
     replace c48 := Bool.eq_false_iff.mpr c48
     subst c48
     have H1 : ((impl_Instr_usesN.f a0_0 a0_1 a0_2 a0_3).bind fun t10 => (if t10 = true then (if a0_0 = 0 then ((impl_within.f a0_3 (-1000) 1000).bind fun t11 => (some t11)) else (if a0_0 = 6 then ((impl_within.f a0_3 0 a2).bind fun t12 => (some t12)) else ((impl_within.f a0_3 0 (wrap64 (a1 - 1))).bind fun t13 => (some t13)))) else (some (a0_3 == 0)))) = some r := by rw [if_neg (show ¬ (false = true) by decide)] at H; exact H
     clear H
     have H := H1
     clear H1
     replace H := Option.bind_eq_some_iff.mp H
     obtain ⟨t10, A490, H⟩ := H
     replace H : (if t10 = true then (if a0_0 = 0 then ((impl_within.f a0_3 (-1000) 1000).bind fun t11 => (some t11)) else (if a0_0 = 6 then ((impl_within.f a0_3 0 a2).bind fun t12 => (some t12)) else ((impl_within.f a0_3 0 (wrap64 (a1 - 1))).bind fun t13 => (some t13)))) else (some (a0_3 == 0))) = some r := H
     have A49 := am_ A490
     clear A490
     by_cases c50 : t10 = true
     rotate_left
     ·replace c50 := Bool.eq_false_iff.mpr c50
      subst c50
      have H1 : (some (a0_3 == 0)) = some r := by rw [if_neg (show ¬ (false = true) by decide)] at H; exact H
      clear H
      have H := H1
      clear H1
      obtain rfl := Option.some.inj H
      obtain ⟨hcz65_0, hcz65_1, hcz65_2, hcz65_3, hfz65_0, hfz65_1, hfz65_2, hfz65_3⟩ := bc4_ BK1.out
      go_wp2_with (first | ((with_reducible refine gate_callee (f := 50) rfl ?_); refine goesL_ (some 53) rfl rfl Try.func50 kr_ rfl #[.agg #[.int .i64 a0_0, .int .i64 a0_1, .int .i64 a0_2, .int .i64 a0_3]] rfl ar_ ?_; (with_reducible refine (impl_Instr_usesN.calls a0_0 a0_1 a0_2 a0_3 false _ A49.out).mono ?_); rintro e w66 ⟨rfl, hb⟩; refine ⟨_, rfl, ?_⟩; have n0_ := bb_ BK1.out hb; have n1_ := bs_ hb; clear BK1; clear HB; have BK1 := n0_; have HB := n1_; clear n0_ n1_; (try clear hb); (try clear hb2); (try clear hk); (try clear hi); obtain ⟨hcz67_0, hcz67_1, hcz67_2, hcz67_3, hfz67_0, hfz67_1, hfz67_2, hfz67_3⟩ := bc4_ BK1.out))
      go_ret
      exact ⟨rr_, bw_⟩
     subst c50
     have H1 : (if a0_0 = 0 then ((impl_within.f a0_3 (-1000) 1000).bind fun t11 => (some t11)) else (if a0_0 = 6 then ((impl_within.f a0_3 0 a2).bind fun t12 => (some t12)) else ((impl_within.f a0_3 0 (wrap64 (a1 - 1))).bind fun t13 => (some t13)))) = some r := by rw [if_pos rfl] at H; exact H
     clear H
     have H := H1
     clear H1
     by_cases c51 : a0_0 = 0
     ·rw [if_pos c51] at H
      have c51b0 : (a0_0 == 0) = true := beq_iff_eq.mpr c51
      have c51b1 : (a0_0 != 0) = false := bne_eq_false_iff_eq.mpr c51
      clear c51
      replace H := Option.bind_eq_some_iff.mp H
      obtain ⟨t11, A520, H⟩ := H
      replace H : (some t11) = some r := H
      have A52 := am_ A520
      clear A520
      obtain rfl := Option.some.inj H
      obtain ⟨hcz53_0, hcz53_1, hcz53_2, hcz53_3, hfz53_0, hfz53_1, hfz53_2, hfz53_3⟩ := bc4_ BK1.out
      go_wp2_with (first | ((with_reducible refine gate_callee (f := 50) rfl ?_); refine goesL_ (some 53) rfl rfl Try.func50 kr_ rfl #[.agg #[.int .i64 a0_0, .int .i64 a0_1, .int .i64 a0_2, .int .i64 a0_3]] rfl ar_ ?_; (with_reducible refine (impl_Instr_usesN.calls a0_0 a0_1 a0_2 a0_3 true _ A49.out).mono ?_); rintro e w54 ⟨rfl, hb⟩; refine ⟨_, rfl, ?_⟩; have n0_ := bb_ BK1.out hb; have n1_ := bs_ hb; clear BK1; clear HB; have BK1 := n0_; have HB := n1_; clear n0_ n1_; (try clear hb); (try clear hb2); (try clear hk); (try clear hi); obtain ⟨hcz55_0, hcz55_1, hcz55_2, hcz55_3, hfz55_0, hfz55_1, hfz55_2, hfz55_3⟩ := bc4_ BK1.out) | ((with_reducible refine gate_callee (f := 33) rfl ?_); refine goesL_ (some 64) rfl rfl Try.func33 kr_ rfl #[.int .i64 a0_3, .int .i64 (-1000), .int .i64 1000] rfl ar_ ?_; (with_reducible refine (impl_within.calls a0_3 (-1000) 1000 t11 _ A52.out).mono ?_); rintro e w' ⟨rfl, ⟨nd, rfl⟩⟩; refine ⟨_, rfl, ?_⟩))
      go_ret
      exact ⟨rr_, bw_⟩
     rw [if_neg c51] at H
     have c51b0 : (a0_0 == 0) = false := beq_eq_false_iff_ne.mpr c51
     have c51b1 : (a0_0 != 0) = true := bne_iff_ne.mpr c51
     by_cases c56 : a0_0 = 6
     rotate_left
     ·rw [if_neg c56] at H
      have c56b0 : (a0_0 == 6) = false := beq_eq_false_iff_ne.mpr c56
      have c56b1 : (a0_0 != 6) = true := bne_iff_ne.mpr c56
      replace H := Option.bind_eq_some_iff.mp H
      obtain ⟨t13, A610, H⟩ := H
      replace H : (some t13) = some r := H
      have A61 := am_ A610
      clear A610
      obtain rfl := Option.some.inj H
      obtain ⟨hcz62_0, hcz62_1, hcz62_2, hcz62_3, hfz62_0, hfz62_1, hfz62_2, hfz62_3⟩ := bc4_ BK1.out
      go_wp2_with (first | ((with_reducible refine gate_callee (f := 50) rfl ?_); refine goesL_ (some 53) rfl rfl Try.func50 kr_ rfl #[.agg #[.int .i64 a0_0, .int .i64 a0_1, .int .i64 a0_2, .int .i64 a0_3]] rfl ar_ ?_; (with_reducible refine (impl_Instr_usesN.calls a0_0 a0_1 a0_2 a0_3 true _ A49.out).mono ?_); rintro e w63 ⟨rfl, hb⟩; refine ⟨_, rfl, ?_⟩; have n0_ := bb_ BK1.out hb; have n1_ := bs_ hb; clear BK1; clear HB; have BK1 := n0_; have HB := n1_; clear n0_ n1_; (try clear hb); (try clear hb2); (try clear hk); (try clear hi); obtain ⟨hcz64_0, hcz64_1, hcz64_2, hcz64_3, hfz64_0, hfz64_1, hfz64_2, hfz64_3⟩ := bc4_ BK1.out) | ((with_reducible refine gate_callee (f := 33) rfl ?_); refine goesL_ (some 77) rfl rfl Try.func33 kr_ rfl #[.int .i64 a0_3, .int .i64 0, .int .i64 (wrap64 (a1 - 1))] rfl ar_ ?_; (with_reducible refine (impl_within.calls a0_3 0 (wrap64 (a1 - 1)) t13 _ A61.out).mono ?_); rintro e w' ⟨rfl, ⟨nd, rfl⟩⟩; refine ⟨_, rfl, ?_⟩))
      go_ret
      exact ⟨rr_, bw_⟩
     rw [if_pos c56] at H
     have c56b0 : (a0_0 == 6) = true := beq_iff_eq.mpr c56
     have c56b1 : (a0_0 != 6) = false := bne_eq_false_iff_eq.mpr c56
     clear c56
     replace H := Option.bind_eq_some_iff.mp H
     obtain ⟨t12, A570, H⟩ := H
     replace H : (some t12) = some r := H
     have A57 := am_ A570
     clear A570
     obtain rfl := Option.some.inj H
     obtain ⟨hcz58_0, hcz58_1, hcz58_2, hcz58_3, hfz58_0, hfz58_1, hfz58_2, hfz58_3⟩ := bc4_ BK1.out
     go_wp2_with (first | ((with_reducible refine gate_callee (f := 50) rfl ?_); refine goesL_ (some 53) rfl rfl Try.func50 kr_ rfl #[.agg #[.int .i64 a0_0, .int .i64 a0_1, .int .i64 a0_2, .int .i64 a0_3]] rfl ar_ ?_; (with_reducible refine (impl_Instr_usesN.calls a0_0 a0_1 a0_2 a0_3 true _ A49.out).mono ?_); rintro e w59 ⟨rfl, hb⟩; refine ⟨_, rfl, ?_⟩; have n0_ := bb_ BK1.out hb; have n1_ := bs_ hb; clear BK1; clear HB; have BK1 := n0_; have HB := n1_; clear n0_ n1_; (try clear hb); (try clear hb2); (try clear hk); (try clear hi); obtain ⟨hcz60_0, hcz60_1, hcz60_2, hcz60_3, hfz60_0, hfz60_1, hfz60_2, hfz60_3⟩ := bc4_ BK1.out) | ((with_reducible refine gate_callee (f := 33) rfl ?_); refine goesL_ (some 72) rfl rfl Try.func33 kr_ rfl #[.int .i64 a0_3, .int .i64 0, .int .i64 a2] rfl ar_ ?_; (with_reducible refine (impl_within.calls a0_3 0 a2 t12 _ A57.out).mono ?_); rintro e w' ⟨rfl, ⟨nd, rfl⟩⟩; refine ⟨_, rfl, ?_⟩))
     go_ret
     exact ⟨rr_, bw_⟩

end Go.Proofs.Ytbgclnjnngolmaa.P
