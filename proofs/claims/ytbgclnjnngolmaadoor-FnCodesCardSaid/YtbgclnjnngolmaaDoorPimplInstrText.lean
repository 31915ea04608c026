-- Written by mp.py (the session's own driver over the kit's printer) for the seat YtbgclnjnngolmaaDoor.
import Derived.Test.YtbgclnjnngolmaaDoorK
import Derived.Test.YtbgclnjnngolmaaDoorE
import Derived.Test.YtbgclnjnngolmaaDoorPimplInstrusesS
import Derived.Test.YtbgclnjnngolmaaDoorPimplwithin
import Derived.Test.YtbgclnjnngolmaaDoorPstrconvItoa
import Derived.Test.YtbgclnjnngolmaaDoorPstringsJoin
import Derived.Test.YtbgclnjnngolmaaDoorEnv
namespace Go.Proofs.YtbgclnjnngolmaaDoor.P
open Go.RowKit Go.Proofs.YtbgclnjnngolmaaDoorW.PrintWords Go.Proofs.YtbgclnjnngolmaaDoorW.PrintLast Go.Proofs.YtbgclnjnngolmaaDoorW.PrintMore
attribute [local go_sem] max2_int min2_int max_two min_two max_three min_three max_four min_four
set_option linter.unusedVariables false
set_option linter.unusedSimpArgs false

/-! ### impl_InstrText: function 19 -/
mutual
def impl_InstrText.j0 : Nat → List ByteArray → Int → Int → Int → Int → Option (ByteArray)
 | 0, _, _, _, _, _ => none
 | k + 1, x3, x2000, x2001, x2002, x2003 => (impl_Instr_usesS.f x2000 x2001 x2002 x2003).bind fun t15 => (if t15 = true then ((strconv_Itoa.f x2002).bind fun t16 => (if x3.length < 8796093022208 then (impl_InstrText.j1 k (x3 ++ [t16]) x2000 x2001 x2002 x2003) else (none))) else (impl_InstrText.j1 k x3 x2000 x2001 x2002 x2003))
def impl_InstrText.j1 : Nat → List ByteArray → Int → Int → Int → Int → Option (ByteArray)
 | 0, _, _, _, _, _ => none
 | k + 1, x3, x2000, x2001, x2002, x2003 => (impl_Instr_usesN.f x2000 x2001 x2002 x2003).bind fun t20 => (if t20 = true then ((strconv_Itoa.f x2003).bind fun t21 => (if x3.length < 8796093022208 then ((strings_Join.f (x3 ++ [t21]) (⟨#[32]⟩ : ByteArray)).bind fun t25 => (some t25)) else (none))) else ((strings_Join.f x3 (⟨#[32]⟩ : ByteArray)).bind fun t26 => (some t26)))
end
def impl_InstrText.f (k : Nat) (a0_0 : Int) (a0_1 : Int) (a0_2 : Int) (a0_3 : Int) : Option (ByteArray) := (impl_within.f a0_0 0 8).bind fun t2 => (if t2 = true then ((impl_mnemonics.f).bind fun t3 => (if 0 ≤ a0_0 then (if a0_0 < (t3.length : Int) then ((some (([rdOf ByteArray.empty t3 a0_0] : List ByteArray) : List ByteArray)).bind fun y7 => ((impl_Instr_usesR.f a0_0 a0_1 a0_2 a0_3).bind fun t10 => (if t10 = true then ((strconv_Itoa.f a0_1).bind fun t11 => (if y7.length < 8796093022208 then (impl_InstrText.j0 k (y7 ++ [t11]) a0_0 a0_1 a0_2 a0_3) else (none))) else (impl_InstrText.j0 k y7 a0_0 a0_1 a0_2 a0_3)))) else (none)) else (none))) else (some (⟨#[]⟩ : ByteArray)))
theorem impl_InstrText.mono_l : ∀ k, (∀ y0 y1 y2 y3 y4, LeO (impl_InstrText.j0 k y0 y1 y2 y3 y4) (impl_InstrText.j0 (k + 1) y0 y1 y2 y3 y4)) ∧ (∀ y0 y1 y2 y3 y4, LeO (impl_InstrText.j1 k y0 y1 y2 y3 y4) (impl_InstrText.j1 (k + 1) y0 y1 y2 y3 y4))
 | 0 => ⟨fun _ _ _ _ _ r h => by simp [impl_InstrText.j0] at h, fun _ _ _ _ _ r h => by simp [impl_InstrText.j1] at h⟩
 | k + 1 => by
  obtain ⟨ih0, ih1⟩ := impl_InstrText.mono_l k
  refine ⟨?_, ?_⟩
  ·intro y0 y1 y2 y3 y4
   unfold impl_InstrText.j0
   repeat' first | (with_reducible first | exact ih0 _ _ _ _ _ | exact ih1 _ _ _ _ _ | exact lr_ | exact ln_ | refine LeO.ite ?_ ?_ | refine LeO.bind ?_ (fun _ => ?_)) | exact ih0 _ _ _ _ _ | exact ih1 _ _ _ _ _ | exact ln_ | refine LeO.ite ?_ ?_ | refine LeO.bind ?_ (fun _ => ?_)
  ·intro y0 y1 y2 y3 y4
   unfold impl_InstrText.j1
   repeat' first | (with_reducible first | exact ih0 _ _ _ _ _ | exact ih1 _ _ _ _ _ | exact lr_ | exact ln_ | refine LeO.ite ?_ ?_ | refine LeO.bind ?_ (fun _ => ?_)) | exact ih0 _ _ _ _ _ | exact ih1 _ _ _ _ _ | exact ln_ | refine LeO.ite ?_ ?_ | refine LeO.bind ?_ (fun _ => ?_)
theorem impl_InstrText.mono : ∀ a0 a1 a2 a3 k, LeO (impl_InstrText.f k a0 a1 a2 a3) (impl_InstrText.f (k + 1) a0 a1 a2 a3) := by
 intro a0 a1 a2 a3 k
 obtain ⟨ih0, ih1⟩ := impl_InstrText.mono_l k
 unfold impl_InstrText.f
 repeat' first | (with_reducible first | exact ih0 _ _ _ _ _ | exact ih1 _ _ _ _ _ | exact lr_ | exact ln_ | refine LeO.ite ?_ ?_ | refine LeO.bind ?_ (fun _ => ?_)) | exact ih0 _ _ _ _ _ | exact ih1 _ _ _ _ _ | exact ln_ | refine LeO.ite ?_ ?_ | refine LeO.bind ?_ (fun _ => ?_)
set_option maxHeartbeats 8000000 in
set_option maxRecDepth 100000 in
theorem impl_InstrText.calls (k : Nat) (a0_0 : Int) (a0_1 : Int) (a0_2 : Int) (a0_3 : Int) (r : ByteArray) (w : World) (hE_ : EnvOk false w) (h : impl_InstrText.f k a0_0 a0_1 a0_2 a0_3 = some r) :
  Calls Tryd.prog 19 #[.agg #[.int .i64 a0_0, .int .i64 a0_1, .int .i64 a0_2, .int .i64 a0_3]] w fun e w' => e = .returned (.string r) ∧ Below w.heap.size w w' := by
 have HE_ := Aside0.mk hE_
 clear hE_
 have hu37 := Tryd.underlying37
 have HB := Aside0.mk (Below.refl w.heap.size w)
 have H : ((impl_within.f a0_0 0 8).bind fun t2 => (if t2 = true then ((impl_mnemonics.f).bind fun t3 => (if 0 ≤ a0_0 then (if a0_0 < (t3.length : Int) then ((some (([rdOf ByteArray.empty t3 a0_0] : List ByteArray) : List ByteArray)).bind fun y7 => ((impl_Instr_usesR.f a0_0 a0_1 a0_2 a0_3).bind fun t10 => (if t10 = true then ((strconv_Itoa.f a0_1).bind fun t11 => (if y7.length < 8796093022208 then (impl_InstrText.j0 k (y7 ++ [t11]) a0_0 a0_1 a0_2 a0_3) else (none))) else (impl_InstrText.j0 k y7 a0_0 a0_1 a0_2 a0_3)))) else (none)) else (none))) else (some (⟨#[]⟩ : ByteArray)))) = some r := h
 clear h
 replace H := Option.bind_eq_some_iff.mp H
 obtain ⟨t2, A20, H⟩ := H
 replace H : (if t2 = true then ((impl_mnemonics.f).bind fun t3 => (if 0 ≤ a0_0 then (if a0_0 < (t3.length : Int) then ((some (([rdOf ByteArray.empty t3 a0_0] : List ByteArray) : List ByteArray)).bind fun y7 => ((impl_Instr_usesR.f a0_0 a0_1 a0_2 a0_3).bind fun t10 => (if t10 = true then ((strconv_Itoa.f a0_1).bind fun t11 => (if y7.length < 8796093022208 then (impl_InstrText.j0 k (y7 ++ [t11]) a0_0 a0_1 a0_2 a0_3) else (none))) else (impl_InstrText.j0 k y7 a0_0 a0_1 a0_2 a0_3)))) else (none)) else (none))) else (some (⟨#[]⟩ : ByteArray))) = some r := H
 have A2 := Aside0.mk A20
 clear A20
 by_cases c3 : t2 = true
 rotate_left
 ·replace c3 := Bool.eq_false_iff.mpr c3
  subst c3
  have H1 : (some (⟨#[]⟩ : ByteArray)) = some r := by rw [if_neg (show ¬ (false = true) by decide)] at H; exact H
  clear H
  have H := H1
  clear H1
  obtain rfl := Option.some.inj H
  go_enter Tryd.func19, Tryd.ntmps19
  go_wp2_with (first | ((with_reducible refine gate_dst (N := 1) rfl ?_); refine box_event ?hg (N := 1) ?hd (cs := #[.int .i64 a0_0, .int .i64 a0_1, .int .i64 a0_2, .int .i64 a0_3]) (t := 37) ?hr ?_; (case hd => rfl); (case hg => rfl); (case hr => exact hrr_); intro gb1 hg w51 hbox hb; have n0_ := bs_ hb; have n1_ := Aside0.mk (hbox); have n2_ := ge_ (w := w) hg; have n3_ := ge_ (w := w) hg; clear HB; have HB := n0_; have BK1 := n1_; have GW1 := n2_; have GE1 := n3_; clear n0_ n1_ n2_ n3_; clear hb hbox hg; obtain ⟨hcz52_0, hcz52_1, hcz52_2, hcz52_3, hfz52_0, hfz52_1, hfz52_2, hfz52_3⟩ := bc4_ BK1.out) | ((with_reducible refine gate_callee (f := 33) rfl ?_); refine goesL_ (some 6) rfl rfl Tryd.func33 (by kernel_rfl) rfl #[.int .i64 a0_0, .int .i64 0, .int .i64 8] rfl ar_ ?_; (with_reducible refine (impl_within.calls a0_0 0 8 false _ A2.out).mono ?_); rintro e w' ⟨rfl, ⟨nd, rfl⟩⟩; refine ⟨_, rfl, ?_⟩))
  go_ret
  exact ⟨rr_, bw_⟩
 subst c3
 have H1 : ((impl_mnemonics.f).bind fun t3 => (if 0 ≤ a0_0 then (if a0_0 < (t3.length : Int) then ((some (([rdOf ByteArray.empty t3 a0_0] : List ByteArray) : List ByteArray)).bind fun y7 => ((impl_Instr_usesR.f a0_0 a0_1 a0_2 a0_3).bind fun t10 => (if t10 = true then ((strconv_Itoa.f a0_1).bind fun t11 => (if y7.length < 8796093022208 then (impl_InstrText.j0 k (y7 ++ [t11]) a0_0 a0_1 a0_2 a0_3) else (none))) else (impl_InstrText.j0 k y7 a0_0 a0_1 a0_2 a0_3)))) else (none)) else (none))) = some r := by rw [if_pos rfl] at H; exact H
 clear H
 have H := H1
 clear H1
 replace H := Option.bind_eq_some_iff.mp H
 obtain ⟨t3, A40, H⟩ := H
 replace H : (if 0 ≤ a0_0 then (if a0_0 < (t3.length : Int) then ((some (([rdOf ByteArray.empty t3 a0_0] : List ByteArray) : List ByteArray)).bind fun y7 => ((impl_Instr_usesR.f a0_0 a0_1 a0_2 a0_3).bind fun t10 => (if t10 = true then ((strconv_Itoa.f a0_1).bind fun t11 => (if y7.length < 8796093022208 then (impl_InstrText.j0 k (y7 ++ [t11]) a0_0 a0_1 a0_2 a0_3) else (none))) else (impl_InstrText.j0 k y7 a0_0 a0_1 a0_2 a0_3)))) else (none)) else (none)) = some r := H
 have A4 := Aside0.mk A40
 clear A40
 by_cases c5 : 0 ≤ a0_0
 rotate_left
 ·rw [if_neg c5] at H
  exact absurd H (by simp)
 rw [if_pos c5] at H
 have c5b0 : decide (0 ≤ a0_0) = true := decide_eq_true c5
 clear c5
 by_cases c6 : a0_0 < (t3.length : Int)
 rotate_left
 ·rw [if_neg c6] at H
  exact absurd H (by simp)
 rw [if_pos c6] at H
 have c6b0 : decide (a0_0 < (t3.length : Int)) = true := decide_eq_true c6
 clear c6
 obtain ⟨y7, hy7⟩ : ∃ y_ : List ByteArray, y_ = (([rdOf ByteArray.empty t3 a0_0] : List ByteArray)) := ⟨_, rfl⟩
 replace H : ((impl_Instr_usesR.f a0_0 a0_1 a0_2 a0_3).bind fun t10 => (if t10 = true then ((strconv_Itoa.f a0_1).bind fun t11 => (if y7.length < 8796093022208 then (impl_InstrText.j0 k (y7 ++ [t11]) a0_0 a0_1 a0_2 a0_3) else (none))) else (impl_InstrText.j0 k y7 a0_0 a0_1 a0_2 a0_3))) = some r := by first | (rw [hy7]; with_reducible exact H) | (have H2_ := (Option.bind_some _ _).symm.trans H; rw [hy7]; with_reducible exact H2_) | (have H2_ := (Option.bind_some _ _).symm.trans H; with_reducible exact H2_) | with_reducible exact H | (rw [hy7]; exact H) | exact H
 have Ny7 := Aside0.mk hy7
 clear hy7
 replace H := Option.bind_eq_some_iff.mp H
 obtain ⟨t10, A70, H⟩ := H
 replace H : (if t10 = true then ((strconv_Itoa.f a0_1).bind fun t11 => (if y7.length < 8796093022208 then (impl_InstrText.j0 k (y7 ++ [t11]) a0_0 a0_1 a0_2 a0_3) else (none))) else (impl_InstrText.j0 k y7 a0_0 a0_1 a0_2 a0_3)) = some r := H
 have A7 := Aside0.mk A70
 clear A70
 have HC8 := Aside0.mk H
 clear H
 go_enter Tryd.func19, Tryd.ntmps19
 try go_wp2_with (first | ((with_reducible refine gate_dst (N := 1) rfl ?_); refine box_event ?hg (N := 1) ?hd (cs := #[.int .i64 a0_0, .int .i64 a0_1, .int .i64 a0_2, .int .i64 a0_3]) (t := 37) ?hr ?_; (case hd => rfl); (case hg => rfl); (case hr => exact hrr_); intro gb1 hg w9 hbox hb; have n0_ := bs_ hb; have n1_ := Aside0.mk (hbox); have n2_ := ge_ (w := w) hg; have n3_ := ge_ (w := w) hg; clear HB; have HB := n0_; have BK1 := n1_; have GW1 := n2_; have GE1 := n3_; clear n0_ n1_ n2_ n3_; clear hb hbox hg; obtain ⟨hcz10_0, hcz10_1, hcz10_2, hcz10_3, hfz10_0, hfz10_1, hfz10_2, hfz10_3⟩ := bc4_ BK1.out) | ((with_reducible refine gate_callee (f := 33) rfl ?_); refine goesL_ (some 6) rfl rfl Tryd.func33 (by kernel_rfl) rfl #[.int .i64 a0_0, .int .i64 0, .int .i64 8] rfl ar_ ?_; (with_reducible refine (impl_within.calls a0_0 0 8 true _ A2.out).mono ?_); rintro e w' ⟨rfl, ⟨nd, rfl⟩⟩; refine ⟨_, rfl, ?_⟩))
 (try (rw [drewN_self w9]; generalize hq_ : World.drewN w9 _ = w9; have n0_ : Aside0 (w9.heap[gb1]? = some (.cells #[.int .i64 a0_0, .int .i64 a0_1, .int .i64 a0_2, .int .i64 a0_3] 37 (0, 0))) := ⟨by rw [← hq_]; exact bk_⟩; have n1_ : Aside0 (Below w.heap.size w w9) := ⟨by rw [← hq_]; exact bw_⟩; clear BK1 HB hq_; have BK1 := n0_; have HB := n1_; clear n0_ n1_))
 have n0_ := Aside0.mk (blk_drew BK1.out)
 have n1_ := Aside0.mk (below_drew1 HB.out)
 clear BK1
 clear HB
 have BK1 := n0_
 have HB := n1_
 clear n0_ n1_
 refine start_ (n := 7) (S := fun w' => w'.cell? ⟨gb1, 0, none⟩ = some (.int .i64 a0_0) ∧ w'.cell? ⟨gb1, 1, none⟩ = some (.int .i64 a0_1) ∧ w'.cell? ⟨gb1, 2, none⟩ = some (.int .i64 a0_2) ∧ w'.cell? ⟨gb1, 3, none⟩ = some (.int .i64 a0_3)) (ds := []) #[false, false, false, false, false, false, false] (by kernel_rfl) rfl rfl ⟨(blk_cell BK1.out 0).trans rfl, (blk_cell BK1.out 1).trans rfl, (blk_cell BK1.out 2).trans rfl, (blk_cell BK1.out 3).trans rfl⟩ (fun hHeld => ?_)
 generalize w9.drew = w11 at BK1 HB hHeld ⊢
 refine pure_ (i := 1) (N := some 9) (v := ?_) (a' := ?_) (bm_ 7 2) rfl rfl (by kernel_rfl) (fun _ _ _ h => h) (Or.inl ⟨by rfl, ?_⟩) ?_ ?_
 rotate_left
 ·intro w'
  go_simp
  with_reducible rfl
 rotate_left
 ·exact pu_
 refine take_ (i := 2) (N := some 10) (v := ?_) (a' := ?_) (bm_ 7 6) rfl rfl (by kernel_rfl) (fun _ _ _ h => h) (Or.inl ⟨by rfl, ?_⟩) hHeld ?_ ?_
 rotate_left
 ·rintro w' ⟨s0, s1, s2, s3⟩
  go_simp
  with_reducible rfl
 rotate_left
 ·exact pu_
 refine one_ (i := 0) (N := some 8) (bm_ 7 7) rfl rfl (by kernel_rfl) (by decide) (fun K hK => ?_)
 refine goes_ Tryd.func34 (by kernel_rfl) rfl #[] (by rfl) rfl rfl ar_ ?_
 with_reducible refine (impl_mnemonics.calls  t3 _ A4.out).mono ?_
 rintro e w12 ⟨v4, rfl, ho0, hb⟩
 refine ⟨_, rfl, ?_⟩
 have n0_ := Aside0.mk (Kd.R_lower ho0 (below_size bw_))
 have n1_ := bb_ BK1.out hb
 have n2_ := bs_ hb
 clear BK1
 clear HB
 have HO5 := n0_
 have BK1 := n1_
 have HB := n2_
 clear n0_ n1_ n2_
 (try clear hb)
 (try clear hb2)
 (try clear hk)
 (try clear hi)
 (try clear ho0)
 obtain ⟨Ao13, co13, eo13⟩ := Kd.R_slice HO5.out
 (first | subst eo13 | (injection eo13 with f1_ f2_ f3_; have f4_ := f1_.symm; have f5_ := f3_.symm; clear f1_ f2_ f3_; subst f4_; subst f5_))
 have p6 : 0 ≤ (a0_0 : Int) := od_
 have q6 : a0_0 < (t3.length : Int) := od_
 obtain ⟨ad6, e6, hx6_0⟩ := Kd.at_string (Kd.R_reads' HO5.out).2.2 a0_0 p6 q6
 cases e6
 replace p6 := eq_true p6
 replace q6 := eq_true q6
 refine hK.out _ _ ⟨(blk_cell BK1.out 0).trans rfl, (blk_cell BK1.out 1).trans rfl, (blk_cell BK1.out 2).trans rfl, (blk_cell BK1.out 3).trans rfl⟩ (fun hHeld => ?_)
 clear hK K
 refine norm_ (a' := ?_) ?_ ?_
 rotate_left
 ·show Act.put _ (some 8) _ = _
  simp only [Act.put, List.setIfInBounds_toArray, List.set_cons_zero, List.set_cons_succ, i64_w, i32_w]
  rfl
 refine pure_ (i := 3) (N := some 11) (v := ?_) (a' := ?_) (bm_ 7 15) rfl rfl (by kernel_rfl) (fun _ _ _ h => h) (Or.inl ⟨by rfl, ?_⟩) ?_ ?_
 rotate_left
 ·intro w'
  go_simp
  with_reducible rfl
 rotate_left
 ·exact pu_
 refine one_ (i := 4) (N := some 12) (bm_ 7 31) rfl rfl (by kernel_rfl) (by decide) (fun K hK => ?_)
 refine event_step (v := .string (rdOf ByteArray.empty t3 a0_0)) rfl (by go_simp; rfl) ?_
 refine hK.out _ _ ⟨(blk_cell BK1.out 0).trans rfl, (blk_cell BK1.out 1).trans rfl, (blk_cell BK1.out 2).trans rfl, (blk_cell BK1.out 3).trans rfl⟩ (fun hHeld => ?_)
 clear hK K
 refine norm_ (a' := ?_) ?_ ?_
 rotate_left
 ·show Act.put _ (some 12) _ = _
  simp only [Act.put, List.setIfInBounds_toArray, List.set_cons_zero, List.set_cons_succ, i64_w, i32_w]
  rfl
 refine one_ (i := 5) (N := some 13) (bm_ 7 63) rfl rfl (by kernel_rfl) (by decide) (fun K hK => ?_)
 refine Kd.R_lit_step Kd.string _ 9 ?hg (N := 13) ?hd (xs := ([rdOf ByteArray.empty t3 a0_0] : List ByteArray)) (inner := [.string (rdOf ByteArray.empty t3 a0_0)]) (ok := fun _ => True) (okp := fun _ => True) ?hr ?hp (fun _ hk => hk) trivial (Below.refl _ _) (Nat.le_refl _) (by simp) ?_; (case hd => rfl); (case hg => rfl); (case hr => first | (go_simp; done) | (go_simp; rfl)); (case hp => exact (Reps.one (show Kd.M Kd.string _ _ _ (rdOf ByteArray.empty t3 a0_0) [.string (rdOf ByteArray.empty t3 a0_0)] from rfl) (Reps.none _ _)))
 intro v8 w14 ho15 hb hg_ hnew_
 clear hg_ hnew_
 (first | rw [← Ny7.out] at ho15 | (simp only [Int.reduceToNat] at ho15; rw [← Ny7.out] at ho15))
 have n0_ := Aside0.mk (Kd.R_elder' (rx_ HO5.out) (Kd.R_base ho15) hb)
 have n1_ := Aside0.mk (Kd.R_lower (Kd.R_new' ho15 (Kd.R_lt (rx_ HO5.out))) (below_size bw_))
 have n2_ := bb_ BK1.out hb
 have n3_ := bs_ hb
 clear HO5
 clear BK1
 clear HB
 have HO5 := n0_
 have HO9 := n1_
 have BK1 := n2_
 have HB := n3_
 clear n0_ n1_ n2_ n3_
 clear hb ho15
 refine hK.out _ _ ⟨(blk_cell BK1.out 0).trans rfl, (blk_cell BK1.out 1).trans rfl, (blk_cell BK1.out 2).trans rfl, (blk_cell BK1.out 3).trans rfl⟩ (fun hHeld => ?_)
 clear hK K
 refine norm_ (a' := ?_) ?_ ?_
 rotate_left
 ·show Act.put _ (some 13) _ = _
  simp only [Act.put, List.setIfInBounds_toArray, List.set_cons_zero, List.set_cons_succ, i64_w, i32_w]
  rfl
 refine pure_ (i := 6) (N := some 3) (v := ?_) (a' := ?_) (bm_ 7 127) rfl rfl (by kernel_rfl) (fun _ _ _ h => h) (Or.inl ⟨by rfl, ?_⟩) ?_ ?_
 rotate_left
 ·intro w'
  go_simp
  with_reducible rfl
 rotate_left
 ·exact pu_
 refine done_ (by kernel_rfl) ?_
 obtain ⟨hcz16_0, hcz16_1, hcz16_2, hcz16_3, hfz16_0, hfz16_1, hfz16_2, hfz16_3⟩ := bc4_ BK1.out
 go_upto_if 15 with (first | ((with_reducible refine gate_callee (f := 35) rfl ?_); refine goesL_ (some 15) rfl rfl Tryd.func35 (by kernel_rfl) rfl #[.agg #[.int .i64 a0_0, .int .i64 a0_1, .int .i64 a0_2, .int .i64 a0_3]] rfl ar_ ?_; (with_reducible refine (impl_Instr_usesR.calls a0_0 a0_1 a0_2 a0_3 t10 _ A7.out).mono ?_); rintro e w17 ⟨rfl, hb⟩; refine ⟨_, rfl, ?_⟩; have n0_ := Aside0.mk (Kd.R_below (rx_ HO5.out) hb); have n1_ := Aside0.mk (Kd.R_below (rx_ HO9.out) hb); have n2_ := bb_ BK1.out hb; have n3_ := bs_ hb; clear HO5; clear HO9; clear BK1; clear HB; have HO5 := n0_; have HO9 := n1_; have BK1 := n2_; have HB := n3_; clear n0_ n1_ n2_ n3_; (try clear hb); (try clear hb2); (try clear hk); (try clear hi)))
 (try simp only [Act.put, List.setIfInBounds_toArray, List.set_cons_zero, List.set_cons_succ])
 go_cut [3] (fun v3 wc => ∃ (kq : Nat) (x3_7 : List ByteArray), Aside0 (impl_InstrText.j0 kq x3_7 a0_0 a0_1 a0_2 a0_3 = some r) ∧ Aside0 (kq ≤ k) ∧ Aside0 (Kd.R Kd.string 9 wc w.heap.size (fun _ => True) v3 x3_7) ∧ Aside0 (wc.heap[gb1]? = some (.cells #[.int .i64 a0_0, .int .i64 a0_1, .int .i64 a0_2, .int .i64 a0_3] 37 (0, 0))) ∧ Aside0 (Below w.heap.size w wc))
 case first =>
  have H := HC8.out
  clear HC8
  by_cases c18 : t10 = true
  rotate_left
  ·replace c18 := Bool.eq_false_iff.mpr c18
   subst c18
   have H1 : (impl_InstrText.j0 k y7 a0_0 a0_1 a0_2 a0_3) = some r := by rw [if_neg (show ¬ (false = true) by decide)] at H; exact H
   clear H
   have H := H1
   clear H1
   have H' := Aside0.mk H
   clear H
   go_wp2
   go_meet
   case rel => exact ⟨_, (y7), H', ⟨by first | omega | exact Nat.le_refl _⟩, ⟨by (with_reducible repeat (first | apply Kd.R_alloc | apply Kd.R_drewN | apply Kd.R_drew)); exact Kd.R_mono HO9.out (fun _ hk => trivial)⟩, ⟨bk_⟩, ⟨bw_⟩⟩
  subst c18
  have H1 : ((strconv_Itoa.f a0_1).bind fun t11 => (if y7.length < 8796093022208 then (impl_InstrText.j0 k (y7 ++ [t11]) a0_0 a0_1 a0_2 a0_3) else (none))) = some r := by rw [if_pos rfl] at H; exact H
  clear H
  have H := H1
  clear H1
  replace H := Option.bind_eq_some_iff.mp H
  obtain ⟨t11, A190, H⟩ := H
  replace H : (if y7.length < 8796093022208 then (impl_InstrText.j0 k (y7 ++ [t11]) a0_0 a0_1 a0_2 a0_3) else (none)) = some r := H
  have A19 := Aside0.mk A190
  clear A190
  by_cases c20 : y7.length < 8796093022208
  rotate_left
  ·rw [if_neg c20] at H
   exact absurd H (by simp)
  rw [if_pos c20] at H
  have LMc20 := Aside0.mk c20
  clear c20
  obtain ⟨y12, hy12⟩ : ∃ y_ : List ByteArray, y_ = (y7 ++ [t11]) := ⟨_, rfl⟩
  replace H : (impl_InstrText.j0 k y12 a0_0 a0_1 a0_2 a0_3) = some r := by first | (rw [hy12]; with_reducible exact H) | (have H2_ := (Option.bind_some _ _).symm.trans H; rw [hy12]; with_reducible exact H2_) | (have H2_ := (Option.bind_some _ _).symm.trans H; with_reducible exact H2_) | with_reducible exact H | (rw [hy12]; exact H) | exact H
  have Ny12 := Aside0.mk hy12
  clear hy12
  have H' := Aside0.mk H
  clear H
  obtain ⟨hcz21_0, hcz21_1, hcz21_2, hcz21_3, hfz21_0, hfz21_1, hfz21_2, hfz21_3⟩ := bc4_ BK1.out
  go_wp2_with (first | ((with_reducible refine gate_callee (f := 36) rfl ?_); refine goesL_ (some 19) rfl rfl Tryd.func36 (by kernel_rfl) rfl #[.int .i64 a0_1] rfl ar_ ?_; (with_reducible refine (strconv_Itoa.calls (hE_ := ee_) a0_1 t11 _ A19.out).mono ?_); rintro e w22 ⟨rfl, hb⟩; refine ⟨_, rfl, ?_⟩; have n0_ := Aside0.mk (Kd.R_below (rx_ HO5.out) hb); have n1_ := Aside0.mk (Kd.R_below (rx_ HO9.out) hb); have n2_ := bb_ BK1.out hb; have n3_ := bs_ hb; clear HO5; clear HO9; clear BK1; clear HB; have HO5 := n0_; have HO9 := n1_; have BK1 := n2_; have HB := n3_; clear n0_ n1_ n2_ n3_; (try clear hb); (try clear hb2); (try clear hk); (try clear hi)) | ((with_reducible refine gate_builtin (b := .append) (xs := #[.tmp 16, .tmp 20]) rfl ?_); at_builtin; refine Kd.R_append Kd.string (w0 := w) w.heap.size rfl (.tmp 16) (.tmp 20) 46 9 (.string ⟨#[]⟩) 16 rfl Tryd.underlying46 info9 rfl (by decide) (by omega) v8 y7 t11 [.string t11] (fun k_ => some k_ ≠ (.slice (some ad6) t3.length co13 : Value).ownBlock) (fun _ => False) rfl rfl ?aP (fun _ hk => hk.elim) ?aF ?aO ?aB ?aS ?aL ?_; (case aP => exact rfl); (case aB => exact bw_); (case aF => exact (fun k_ hk => Kd.fresh' (Kd.R_lt (rx_ HO5.out)) k_ hk)); (case aO => exact (by (with_reducible repeat (first | apply Kd.R_alloc | apply Kd.R_drewN | apply Kd.R_drew)); exact Kd.R_mono HO9.out (fun _ hk => hk.2))); (case aS => exact (below_size bw_)); (case aL => have := LMc20.out; omega); intro v13 w23 ho hb hg hat; rw [← Ny12.out] at ho; have n0_ := Aside0.mk (blk_grown (g := gb1) (o := .cells #[.int .i64 a0_0, .int .i64 a0_1, .int .i64 a0_2, .int .i64 a0_3] 37 (0, 0)) bk_ hg (Kd.R_ne HO9.out BK1.out (by decide))); have n1_ := Aside0.mk (Kd.R_after (ok := (fun _ => True)) (rx_ HO5.out) hg hat); have n2_ := Aside0.mk (hb); have n3_ := Aside0.mk (ho); clear BK1; clear HO5; clear HB; clear HO9; have BK1 := n0_; have HO5 := n1_; have HB := n2_; have HO14 := n3_; clear n0_ n1_ n2_ n3_; clear ho hb hg hat))
  go_meet
  case rel => exact ⟨_, (y12), H', ⟨by first | omega | exact Nat.le_refl _⟩, ⟨by (with_reducible repeat (first | apply Kd.R_alloc | apply Kd.R_drewN | apply Kd.R_drew)); exact Kd.R_mono HO14.out (fun _ hk => trivial)⟩, ⟨bk_⟩, ⟨bw_⟩⟩
 case rest =>
  clear HC8
  try clear c1
  try clear c2
  try clear p2
  try clear c3
  try clear c5
  try clear c5b0
  try clear c6
  try clear c6b0
  try clear p6
  try clear q6
  try clear hx6
  try clear c18
  try clear c19
  try clear c20
  try clear hcz10_0 hcz10_1 hcz10_2 hcz10_3
  try clear hcz16_0 hcz16_1 hcz16_2 hcz16_3
  try clear hcz21_0 hcz21_1 hcz21_2 hcz21_3
  try clear hfz10_0 hfz10_1 hfz10_2 hfz10_3
  try clear hfz16_0 hfz16_1 hfz16_2 hfz16_3
  try clear hfz21_0 hfz21_1 hfz21_2 hfz21_3
  try clear hx6_0
  try clear p6
  try clear q6
  obtain ⟨kq, x3_7, HA, HJ7, HO_3, BK1, HB⟩ := hcut
  cases kq with
  | zero => exact absurd HA.out (by simp [impl_InstrText.j0])
  | succ kj7 =>
   have H := HA.out
   clear HA
   simp only [impl_InstrText.j0] at H
   replace H := Option.bind_eq_some_iff.mp H
   obtain ⟨t15, A240, H⟩ := H
   replace H : (if t15 = true then ((strconv_Itoa.f a0_2).bind fun t16 => (if x3_7.length < 8796093022208 then (impl_InstrText.j1 kj7 (x3_7 ++ [t16]) a0_0 a0_1 a0_2 a0_3) else (none))) else (impl_InstrText.j1 kj7 x3_7 a0_0 a0_1 a0_2 a0_3)) = some r := H
   have A24 := Aside0.mk A240
   clear A240
   have HC25 := Aside0.mk H
   clear H
   obtain ⟨hcz26_0, hcz26_1, hcz26_2, hcz26_3, hfz26_0, hfz26_1, hfz26_2, hfz26_3⟩ := bc4_ BK1.out
   go_upto_if 23 with (first | ((with_reducible refine gate_callee (f := 37) rfl ?_); refine goesL_ (some 23) rfl rfl Tryd.func37 (by kernel_rfl) rfl #[.agg #[.int .i64 a0_0, .int .i64 a0_1, .int .i64 a0_2, .int .i64 a0_3]] rfl ar_ ?_; (with_reducible refine (impl_Instr_usesS.calls a0_0 a0_1 a0_2 a0_3 t15 _ A24.out).mono ?_); rintro e w27 ⟨rfl, hb⟩; refine ⟨_, rfl, ?_⟩; have n0_ := Aside0.mk (Kd.R_below (rx_ HO_3.out) hb); have n1_ := bb_ BK1.out hb; have n2_ := bs_ hb; clear HO_3; clear BK1; clear HB; have HO_3 := n0_; have BK1 := n1_; have HB := n2_; clear n0_ n1_ n2_; (try clear hb); (try clear hb2); (try clear hk); (try clear hi)))
   (try simp only [Act.put, List.setIfInBounds_toArray, List.set_cons_zero, List.set_cons_succ])
   go_cut [3] (fun v3 wc => ∃ (kq : Nat) (x3_24 : List ByteArray), Aside0 (impl_InstrText.j1 kq x3_24 a0_0 a0_1 a0_2 a0_3 = some r) ∧ Aside0 (kq ≤ kj7) ∧ Aside0 (Kd.R Kd.string 9 wc w.heap.size (fun _ => True) v3 x3_24) ∧ Aside0 (wc.heap[gb1]? = some (.cells #[.int .i64 a0_0, .int .i64 a0_1, .int .i64 a0_2, .int .i64 a0_3] 37 (0, 0))) ∧ Aside0 (Below w.heap.size w wc))
   case first =>
    have H := HC25.out
    clear HC25
    by_cases c28 : t15 = true
    rotate_left
    ·replace c28 := Bool.eq_false_iff.mpr c28
     subst c28
     have H1 : (impl_InstrText.j1 kj7 x3_7 a0_0 a0_1 a0_2 a0_3) = some r := by rw [if_neg (show ¬ (false = true) by decide)] at H; exact H
     clear H
     have H := H1
     clear H1
     have H' := Aside0.mk H
     clear H
     go_wp2
     go_meet
     case rel => exact ⟨_, (x3_7), H', ⟨by have := HJ7.out; first | omega | exact Nat.le_refl _⟩, ⟨by (with_reducible repeat (first | apply Kd.R_alloc | apply Kd.R_drewN | apply Kd.R_drew)); exact HO_3.out⟩, ⟨bk_⟩, ⟨bw_⟩⟩
    subst c28
    have H1 : ((strconv_Itoa.f a0_2).bind fun t16 => (if x3_7.length < 8796093022208 then (impl_InstrText.j1 kj7 (x3_7 ++ [t16]) a0_0 a0_1 a0_2 a0_3) else (none))) = some r := by rw [if_pos rfl] at H; exact H
    clear H
    have H := H1
    clear H1
    replace H := Option.bind_eq_some_iff.mp H
    obtain ⟨t16, A290, H⟩ := H
    replace H : (if x3_7.length < 8796093022208 then (impl_InstrText.j1 kj7 (x3_7 ++ [t16]) a0_0 a0_1 a0_2 a0_3) else (none)) = some r := H
    have A29 := Aside0.mk A290
    clear A290
    by_cases c30 : x3_7.length < 8796093022208
    rotate_left
    ·rw [if_neg c30] at H
     exact absurd H (by simp)
    rw [if_pos c30] at H
    have LMc30 := Aside0.mk c30
    clear c30
    obtain ⟨y17, hy17⟩ : ∃ y_ : List ByteArray, y_ = (x3_7 ++ [t16]) := ⟨_, rfl⟩
    replace H : (impl_InstrText.j1 kj7 y17 a0_0 a0_1 a0_2 a0_3) = some r := by first | (rw [hy17]; with_reducible exact H) | (have H2_ := (Option.bind_some _ _).symm.trans H; rw [hy17]; with_reducible exact H2_) | (have H2_ := (Option.bind_some _ _).symm.trans H; with_reducible exact H2_) | with_reducible exact H | (rw [hy17]; exact H) | exact H
    have Ny17 := Aside0.mk hy17
    clear hy17
    have H' := Aside0.mk H
    clear H
    obtain ⟨hcz31_0, hcz31_1, hcz31_2, hcz31_3, hfz31_0, hfz31_1, hfz31_2, hfz31_3⟩ := bc4_ BK1.out
    go_wp2_with (first | ((with_reducible refine gate_callee (f := 36) rfl ?_); refine goesL_ (some 27) rfl rfl Tryd.func36 (by kernel_rfl) rfl #[.int .i64 a0_2] rfl ar_ ?_; (with_reducible refine (strconv_Itoa.calls (hE_ := ee_) a0_2 t16 _ A29.out).mono ?_); rintro e w32 ⟨rfl, hb⟩; refine ⟨_, rfl, ?_⟩; have n0_ := Aside0.mk (Kd.R_below (rx_ HO_3.out) hb); have n1_ := bb_ BK1.out hb; have n2_ := bs_ hb; clear HO_3; clear BK1; clear HB; have HO_3 := n0_; have BK1 := n1_; have HB := n2_; clear n0_ n1_ n2_; (try clear hb); (try clear hb2); (try clear hk); (try clear hi)) | ((with_reducible refine gate_builtin (b := .append) (xs := #[.tmp 24, .tmp 28]) rfl ?_); at_builtin; refine Kd.R_append Kd.string (w0 := w) w.heap.size rfl (.tmp 24) (.tmp 28) 46 9 (.string ⟨#[]⟩) 16 rfl Tryd.underlying46 info9 rfl (by decide) (by omega) u3 x3_7 t16 [.string t16] (fun _ => True) (fun _ => False) rfl rfl ?aP (fun _ hk => hk.elim) ?aF ?aO ?aB ?aS ?aL ?_; (case aP => exact rfl); (case aB => exact bw_); (case aF => exact (fun _ _ => trivial)); (case aO => exact (rx_ HO_3.out)); (case aS => exact (below_size bw_)); (case aL => have := LMc30.out; omega); intro v18 w33 ho hb hg hat; rw [← Ny17.out] at ho; have n0_ := Aside0.mk (blk_grown (g := gb1) (o := .cells #[.int .i64 a0_0, .int .i64 a0_1, .int .i64 a0_2, .int .i64 a0_3] 37 (0, 0)) bk_ hg (Kd.R_ne HO_3.out BK1.out (by decide))); have n1_ := Aside0.mk (hb); have n2_ := Aside0.mk (ho); clear BK1; clear HB; clear HO_3; have BK1 := n0_; have HB := n1_; have HO19 := n2_; clear n0_ n1_ n2_; clear ho hb hg hat))
    go_meet
    case rel => exact ⟨_, (y17), H', ⟨by have := HJ7.out; first | omega | exact Nat.le_refl _⟩, ⟨by (with_reducible repeat (first | apply Kd.R_alloc | apply Kd.R_drewN | apply Kd.R_drew)); exact HO19.out⟩, ⟨bk_⟩, ⟨bw_⟩⟩
   case rest =>
    clear HC25
    try clear c1
    try clear c2
    try clear p2
    try clear c3
    try clear c5
    try clear c5b0
    try clear c6
    try clear c6b0
    try clear p6
    try clear q6
    try clear hx6
    try clear c18
    try clear c19
    try clear c20
    try clear c28
    try clear c30
    try clear c33
    try clear hcz10_0 hcz10_1 hcz10_2 hcz10_3
    try clear hcz16_0 hcz16_1 hcz16_2 hcz16_3
    try clear hcz21_0 hcz21_1 hcz21_2 hcz21_3
    try clear hcz26_0 hcz26_1 hcz26_2 hcz26_3
    try clear hcz31_0 hcz31_1 hcz31_2 hcz31_3
    try clear hfz10_0 hfz10_1 hfz10_2 hfz10_3
    try clear hfz16_0 hfz16_1 hfz16_2 hfz16_3
    try clear hfz21_0 hfz21_1 hfz21_2 hfz21_3
    try clear hfz26_0 hfz26_1 hfz26_2 hfz26_3
    try clear hfz31_0 hfz31_1 hfz31_2 hfz31_3
    try clear hx6_0
    try clear p2
    try clear p6
    try clear q6
    obtain ⟨kq, x3_24, HA, HJ24, HO_3, BK1, HB⟩ := hcut
    cases kq with
    | zero => exact absurd HA.out (by simp [impl_InstrText.j1])
    | succ kj24 =>
     have H := HA.out
     clear HA
     simp only [impl_InstrText.j1] at H
     replace H := Option.bind_eq_some_iff.mp H
     obtain ⟨t20, A340, H⟩ := H
     replace H : (if t20 = true then ((strconv_Itoa.f a0_3).bind fun t21 => (if x3_24.length < 8796093022208 then ((strings_Join.f (x3_24 ++ [t21]) (⟨#[32]⟩ : ByteArray)).bind fun t25 => (some t25)) else (none))) else ((strings_Join.f x3_24 (⟨#[32]⟩ : ByteArray)).bind fun t26 => (some t26))) = some r := H
     have A34 := Aside0.mk A340
     clear A340
     by_cases c35 : t20 = true
     rotate_left
     ·replace c35 := Bool.eq_false_iff.mpr c35
      subst c35
      have H1 : ((strings_Join.f x3_24 (⟨#[32]⟩ : ByteArray)).bind fun t26 => (some t26)) = some r := by rw [if_neg (show ¬ (false = true) by decide)] at H; exact H
      clear H
      have H := H1
      clear H1
      replace H := Option.bind_eq_some_iff.mp H
      obtain ⟨t26, A460, H⟩ := H
      replace H : (some t26) = some r := H
      have A46 := Aside0.mk A460
      clear A460
      obtain rfl := Option.some.inj H
      obtain ⟨hcz47_0, hcz47_1, hcz47_2, hcz47_3, hfz47_0, hfz47_1, hfz47_2, hfz47_3⟩ := bc4_ BK1.out
      go_wp2_with (first | ((with_reducible refine gate_callee (f := 38) rfl ?_); refine goesL_ (some 31) rfl rfl Tryd.func38 (by kernel_rfl) rfl #[.agg #[.int .i64 a0_0, .int .i64 a0_1, .int .i64 a0_2, .int .i64 a0_3]] rfl ar_ ?_; (with_reducible refine (impl_Instr_usesN.calls a0_0 a0_1 a0_2 a0_3 false _ A34.out).mono ?_); rintro e w48 ⟨rfl, hb⟩; refine ⟨_, rfl, ?_⟩; have n0_ := Aside0.mk (Kd.R_below (rx_ HO_3.out) hb); have n1_ := bb_ BK1.out hb; have n2_ := bs_ hb; clear HO_3; clear BK1; clear HB; have HO_3 := n0_; have BK1 := n1_; have HB := n2_; clear n0_ n1_ n2_; (try clear hb); (try clear hb2); (try clear hk); (try clear hi); obtain ⟨Ao49, co49, eo49⟩ := Kd.R_slice HO_3.out; subst eo49) | ((with_reducible refine gate_callee (f := 21) rfl ?_); refine goesL_ (some 39) rfl rfl Tryd.func21 (by kernel_rfl) rfl #[.slice Ao49 x3_24.length co49, .string (⟨#[32]⟩ : ByteArray)] rfl ar_ ?_; (with_reducible refine (strings_Join.calls (hs_ := js_) _ _ x3_24 (⟨#[32]⟩ : ByteArray) t26 _ ?side1 ?side2 A46.out).mono ?_); (case side1 => repeat (first | exact (Kd.R_reads' HO_3.out).2.2 | (with_reducible refine Kd.C_alloc ?_ _) | (with_reducible refine Kd.C_drewN ?_ _) | (with_reducible refine Kd.C_drew ?_))); (case side2 => exact (Kd.R_reads' HO_3.out).2.1); rintro e w50 ⟨rfl, hb⟩; refine ⟨_, rfl, ?_⟩; have n0_ := Aside0.mk (Kd.R_below (rx_ HO_3.out) hb); have n1_ := bb_ BK1.out hb; have n2_ := bs_ hb; clear HO_3; clear BK1; clear HB; have HO_3 := n0_; have BK1 := n1_; have HB := n2_; clear n0_ n1_ n2_; (try clear hb); (try clear hb2); (try clear hk); (try clear hi)))
      go_ret
      exact ⟨rr_, bw_⟩
     subst c35
     have H1 : ((strconv_Itoa.f a0_3).bind fun t21 => (if x3_24.length < 8796093022208 then ((strings_Join.f (x3_24 ++ [t21]) (⟨#[32]⟩ : ByteArray)).bind fun t25 => (some t25)) else (none))) = some r := by rw [if_pos rfl] at H; exact H
     clear H
     have H := H1
     clear H1
     replace H := Option.bind_eq_some_iff.mp H
     obtain ⟨t21, A360, H⟩ := H
     replace H : (if x3_24.length < 8796093022208 then ((strings_Join.f (x3_24 ++ [t21]) (⟨#[32]⟩ : ByteArray)).bind fun t25 => (some t25)) else (none)) = some r := H
     have A36 := Aside0.mk A360
     clear A360
     by_cases c37 : x3_24.length < 8796093022208
     rotate_left
     ·rw [if_neg c37] at H
      exact absurd H (by simp)
     rw [if_pos c37] at H
     have LMc37 := Aside0.mk c37
     clear c37
     obtain ⟨y22, hy22⟩ : ∃ y_ : List ByteArray, y_ = (x3_24 ++ [t21]) := ⟨_, rfl⟩
     replace H : ((strings_Join.f y22 (⟨#[32]⟩ : ByteArray)).bind fun t25 => (some t25)) = some r := by first | (rw [hy22]; with_reducible exact H) | (have H2_ := (Option.bind_some _ _).symm.trans H; rw [hy22]; with_reducible exact H2_) | (have H2_ := (Option.bind_some _ _).symm.trans H; with_reducible exact H2_) | with_reducible exact H | (rw [hy22]; exact H) | exact H
     have Ny22 := Aside0.mk hy22
     clear hy22
     replace H := Option.bind_eq_some_iff.mp H
     obtain ⟨t25, A380, H⟩ := H
     replace H : (some t25) = some r := H
     have A38 := Aside0.mk A380
     clear A380
     obtain rfl := Option.some.inj H
     obtain ⟨hcz39_0, hcz39_1, hcz39_2, hcz39_3, hfz39_0, hfz39_1, hfz39_2, hfz39_3⟩ := bc4_ BK1.out
     go_wp2_with (first | ((with_reducible refine gate_callee (f := 38) rfl ?_); refine goesL_ (some 31) rfl rfl Tryd.func38 (by kernel_rfl) rfl #[.agg #[.int .i64 a0_0, .int .i64 a0_1, .int .i64 a0_2, .int .i64 a0_3]] rfl ar_ ?_; (with_reducible refine (impl_Instr_usesN.calls a0_0 a0_1 a0_2 a0_3 true _ A34.out).mono ?_); rintro e w40 ⟨rfl, hb⟩; refine ⟨_, rfl, ?_⟩; have n0_ := Aside0.mk (Kd.R_below (rx_ HO_3.out) hb); have n1_ := bb_ BK1.out hb; have n2_ := bs_ hb; clear HO_3; clear BK1; clear HB; have HO_3 := n0_; have BK1 := n1_; have HB := n2_; clear n0_ n1_ n2_; (try clear hb); (try clear hb2); (try clear hk); (try clear hi); obtain ⟨hcz41_0, hcz41_1, hcz41_2, hcz41_3, hfz41_0, hfz41_1, hfz41_2, hfz41_3⟩ := bc4_ BK1.out) | ((with_reducible refine gate_callee (f := 36) rfl ?_); refine goesL_ (some 35) rfl rfl Tryd.func36 (by kernel_rfl) rfl #[.int .i64 a0_3] rfl ar_ ?_; (with_reducible refine (strconv_Itoa.calls (hE_ := ee_) a0_3 t21 _ A36.out).mono ?_); rintro e w42 ⟨rfl, hb⟩; refine ⟨_, rfl, ?_⟩; have n0_ := Aside0.mk (Kd.R_below (rx_ HO_3.out) hb); have n1_ := bb_ BK1.out hb; have n2_ := bs_ hb; clear HO_3; clear BK1; clear HB; have HO_3 := n0_; have BK1 := n1_; have HB := n2_; clear n0_ n1_ n2_; (try clear hb); (try clear hb2); (try clear hk); (try clear hi)) | ((with_reducible refine gate_builtin (b := .append) (xs := #[.tmp 32, .tmp 36]) rfl ?_); at_builtin; refine Kd.R_append Kd.string (w0 := w) w.heap.size rfl (.tmp 32) (.tmp 36) 46 9 (.string ⟨#[]⟩) 16 rfl Tryd.underlying46 info9 rfl (by decide) (by omega) u3 x3_24 t21 [.string t21] (fun _ => True) (fun _ => False) rfl rfl ?aP (fun _ hk => hk.elim) ?aF ?aO ?aB ?aS ?aL ?_; (case aP => exact rfl); (case aB => exact bw_); (case aF => exact (fun _ _ => trivial)); (case aO => exact (rx_ HO_3.out)); (case aS => exact (below_size bw_)); (case aL => have := LMc37.out; omega); intro v23 w43 ho hb hg hat; rw [← Ny22.out] at ho; have n0_ := Aside0.mk (blk_grown (g := gb1) (o := .cells #[.int .i64 a0_0, .int .i64 a0_1, .int .i64 a0_2, .int .i64 a0_3] 37 (0, 0)) bk_ hg (Kd.R_ne HO_3.out BK1.out (by decide))); have n1_ := Aside0.mk (hb); have n2_ := Aside0.mk (ho); clear BK1; clear HB; clear HO_3; have BK1 := n0_; have HB := n1_; have HO24 := n2_; clear n0_ n1_ n2_; clear ho hb hg hat; obtain ⟨Ao44, co44, eo44⟩ := Kd.R_slice HO24.out; subst eo44) | ((with_reducible refine gate_callee (f := 21) rfl ?_); refine goesL_ (some 39) rfl rfl Tryd.func21 (by kernel_rfl) rfl #[.slice Ao44 y22.length co44, .string (⟨#[32]⟩ : ByteArray)] rfl ar_ ?_; (with_reducible refine (strings_Join.calls (hs_ := js_) _ _ y22 (⟨#[32]⟩ : ByteArray) t25 _ ?side1 ?side2 A38.out).mono ?_); (case side1 => repeat (first | exact (Kd.R_reads' HO24.out).2.2 | (with_reducible refine Kd.C_alloc ?_ _) | (with_reducible refine Kd.C_drewN ?_ _) | (with_reducible refine Kd.C_drew ?_))); (case side2 => exact (Kd.R_reads' HO24.out).2.1); rintro e w45 ⟨rfl, hb⟩; refine ⟨_, rfl, ?_⟩; have n0_ := Aside0.mk (Kd.R_below (rx_ HO24.out) hb); have n1_ := bb_ BK1.out hb; have n2_ := bs_ hb; clear HO24; clear BK1; clear HB; have HO24 := n0_; have BK1 := n1_; have HB := n2_; clear n0_ n1_ n2_; (try clear hb); (try clear hb2); (try clear hk); (try clear hi)))
     go_ret
     exact ⟨rr_, bw_⟩

end Go.Proofs.YtbgclnjnngolmaaDoor.P
