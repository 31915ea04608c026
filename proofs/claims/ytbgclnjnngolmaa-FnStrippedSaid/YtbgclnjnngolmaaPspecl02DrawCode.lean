-- Written by mp.py (the session's own driver over the kit's printer) for the seat Ytbgclnjnngolmaa.
import Derived.Test.YtbgclnjnngolmaaK
import Derived.Test.YtbgclnjnngolmaaE
import Derived.Test.YtbgclnjnngolmaaPspecl02DrawInstr
namespace Go.Proofs.Ytbgclnjnngolmaa.P
open Go.RowKit Go.Proofs.YtbgclnjnngolmaaW.PrintWords Go.Proofs.YtbgclnjnngolmaaW.PrintLast Go.Proofs.YtbgclnjnngolmaaW.PrintMore
attribute [local go_sem] max2_int min2_int max_two min_two max_three min_three max_four min_four
set_option linter.unusedVariables false
set_option linter.unusedSimpArgs false

/-! ### spec_l02DrawCode: function 30 -/
def spec_l02DrawCode.l0 : Nat → Int → Int → List (S50) → Int → List Int → Int → Int → Option ((List (S50)) × Int × Int)
 | 0, _, _, _, _, _, _, _ => none
 | k + 1, x1, x2, x7, x8, x1000, x1001, x1002 => if x8 < x2 then ((spec_l02DrawInstr.f k x1000 x1001 x1002 x1 x2).bind fun bt4 => (if x7.length < 4398046511104 then (spec_l02DrawCode.l0 k x1 x2 (x7 ++ [(⟨bt4.1, bt4.2.1, bt4.2.2.1, bt4.2.2.2.1⟩ : S50)]) (wrap64 (x8 + 1)) x1000 bt4.2.2.2.2.1 bt4.2.2.2.2.2) else (none))) else (some (x7, x1001, x1002))
def spec_l02DrawCode.f (k : Nat) (s0_0 : List Int) (s0_1 : Int) (s0_2 : Int) (a1 : Int) (a2 : Int) : Option ((List (S50)) × Int × Int) := spec_l02DrawCode.l0 k a1 a2 (([] : List (S50))) 0 s0_0 s0_1 s0_2
theorem spec_l02DrawCode.mono_l : ∀ k, (∀ y0 y1 y2 y3 y4 y5 y6, LeO (spec_l02DrawCode.l0 k y0 y1 y2 y3 y4 y5 y6) (spec_l02DrawCode.l0 (k + 1) y0 y1 y2 y3 y4 y5 y6))
 | 0 => fun _ _ _ _ _ _ _ r h => by simp [spec_l02DrawCode.l0] at h
 | k + 1 => by
  have ih0 := spec_l02DrawCode.mono_l k
  ·intro y0 y1 y2 y3 y4 y5 y6
   unfold spec_l02DrawCode.l0
   repeat' first | (with_reducible first | exact ih0 _ _ _ _ _ _ _ | exact spec_l02DrawInstr.mono _ _ _ _ _ _ | exact lr_ | exact ln_ | refine LeO.ite ?_ ?_ | refine LeO.bind ?_ (fun _ => ?_)) | exact ih0 _ _ _ _ _ _ _ | exact spec_l02DrawInstr.mono _ _ _ _ _ _ | exact ln_ | refine LeO.ite ?_ ?_ | refine LeO.bind ?_ (fun _ => ?_)
theorem spec_l02DrawCode.mono : ∀ a0 a1 a2 a3 a4 k, LeO (spec_l02DrawCode.f k a0 a1 a2 a3 a4) (spec_l02DrawCode.f (k + 1) a0 a1 a2 a3 a4) := by
 intro a0 a1 a2 a3 a4 k
 have ih0 := spec_l02DrawCode.mono_l k
 unfold spec_l02DrawCode.f
 repeat' first | (with_reducible first | exact ih0 _ _ _ _ _ _ _ | exact spec_l02DrawInstr.mono _ _ _ _ _ _ | exact lr_ | exact ln_ | refine LeO.ite ?_ ?_ | refine LeO.bind ?_ (fun _ => ?_)) | exact ih0 _ _ _ _ _ _ _ | exact spec_l02DrawInstr.mono _ _ _ _ _ _ | exact ln_ | refine LeO.ite ?_ ?_ | refine LeO.bind ?_ (fun _ => ?_)
set_option maxHeartbeats 8000000 in
set_option maxRecDepth 100000 in
theorem spec_l02DrawCode.calls (k : Nat) (g : Nat) (s0_0 : List Int) (s0_1 : Int) (s0_2 : Int) (a1 : Int) (a2 : Int) (r1 : List (S50)) (r2 : Int) (r3 : Int) (w0 w : World) (hI : IsS57 w0 w g s0_0 s0_1 s0_2) (hB : Below w0.heap.size w0 w) (h : spec_l02DrawCode.f k s0_0 s0_1 s0_2 a1 a2 = some (r1, r2, r3)) :
  Calls Try.prog 30 #[.pointer (some ⟨g, 0, none⟩), .int .i64 a1, .int .i64 a2] w fun e w' => ∃ v0_ : Value, e = .returned (v0_) ∧ Kd.R k50 50 w' w.heap.size (fun _ => True) v0_ r1 ∧ IsS57 w0 w' g s0_0 r2 r3 ∧ Below w0.heap.size w0 w' ∧ KeepBut w w' g none := by
 have HI0 := am_ hI
 have HK := am_ (KeepBut.refl w g none)
 have HL := am_ hB.size
 clear hI
 have HW0 := am_ hB.size
 have HB := am_ hB
 clear hB
 have H : (spec_l02DrawCode.l0 k a1 a2 (([] : List (S50))) 0 s0_0 s0_1 s0_2) = some (r1, r2, r3) := h
 clear h
 obtain ⟨y1, hy1⟩ : ∃ y_ : List (S50), y_ = (([] : List (S50))) := ⟨_, rfl⟩
 replace H : (spec_l02DrawCode.l0 k a1 a2 y1 0 s0_0 s0_1 s0_2) = some (r1, r2, r3) := rh_ hy1
 have Ny1 := am_ hy1
 clear hy1
 have H' := am_ H
 clear H
 go_enter Try.func30, Try.ntmps30
 go_wp2_with (first | ((with_reducible refine gate_dst (N := 9) rfl ?_); refine Kd.R_lit k50 _ 50 ?hg (N := 9) ?hd (xs := ([] : List (S50))) (inner := []) (ok := fun _ => True) (okp := fun _ => True) ?hr ?hp (fun _ hk => hk) trivial (Below.refl _ _) (Nat.le_refl _) (by simp) ?_; (case hd => rfl); (case hg => rfl); (case hr => first | (go_simp; done) | (go_simp; rfl)); (case hp => exact (Reps.none _ _)); intro v2 w4 ho5 hb hg_ hnew_; clear hg_ hnew_; (first | rw [← Ny1.out] at ho5 | (simp only [Int.reduceToNat] at ho5; rw [← Ny1.out] at ho5)); have n0_ := am_ (Kd.R_lower ho5 (keep_size (w := w) (g := g) (row := none) (kk_ HK.out))); have n1_ := am_ (IsS57.below (hi_ HI0.out) hb); have n2_ := am_ (KeepBut.trans (kk_ HK.out) (KeepBut.of_below hb g none) (.inl rfl)); have n3_ := am_ (below_step (bi_ HB.out HI0.out) hb); clear HI0; clear HK; clear HB; have HO3 := n0_; have HI0 := n1_; have HK := n2_; have HB := n3_; clear n0_ n1_ n2_ n3_; clear hb ho5))
 go_loopg [7, 8] k (fun kq v7 v8 w' => ∃ (x7_1 : List (S50)) (x8_1 : Int) (x1001_1 : Int) (x1002_1 : Int), v8 = .int .i64 x8_1 ∧ Aside0 (spec_l02DrawCode.l0 kq a1 a2 x7_1 x8_1 s0_0 x1001_1 x1002_1 = some (r1, r2, r3)) ∧ Aside0 (kq ≤ k) ∧ Aside0 (Kd.R k50 50 w' w.heap.size (fun _ => True) v7 x7_1) ∧ Aside0 (IsS57 w0 w' g s0_0 x1001_1 x1002_1) ∧ Aside0 (KeepBut w w' g none) ∧ Aside0 (Below w0.heap.size w0 w'))
 case atStart => exact ⟨(y1), (0), (s0_1), (s0_2), sd_, H', ⟨Nat.le_refl _⟩, ⟨by (with_reducible repeat (first | apply Kd.R_alloc | apply Kd.R_drewN | apply Kd.R_drew)); exact HO3.out⟩, ⟨(hi_ HI0.out)⟩, ⟨(kk_ HK.out)⟩, ⟨(bi_ HB.out HI0.out)⟩⟩
 case round =>
  clear H'
  obtain ⟨x7_1, x8_1, x1001_1, x1002_1, rfl, HA, HK1, HO_7, HI0, HK, HB⟩ := hrel
  cases gk with
  | zero => exact absurd HA.out (by simp [spec_l02DrawCode.l0])
  | succ k1 =>
   have H := HA.out
   clear HA
   simp only [spec_l02DrawCode.l0] at H
   by_cases c6 : x8_1 < a2
   rotate_left
   ·rw [if_neg c6] at H
    have c6b0 : decide (x8_1 < a2) = false := decide_eq_false c6
    clear c6
    simp only [Option.some.injEq, Prod.mk.injEq] at H
    obtain ⟨rfl, rfl, rfl⟩ := H
    go_wp2
    go_ret
    exact ⟨_, rr_, by (with_reducible repeat (first | apply Kd.R_alloc | apply Kd.R_drewN | apply Kd.R_drew)); exact HO_7.out, (hi_ HI0.out), (bi_ HB.out HI0.out), (kk_ HK.out)⟩
   rw [if_pos c6] at H
   have c6b0 : decide (x8_1 < a2) = true := decide_eq_true c6
   clear c6
   replace H := Option.bind_eq_some_iff.mp H
   obtain ⟨⟨t4, t5, t6, t7, t8, t9⟩, A70, H⟩ := H
   replace H : (if x7_1.length < 4398046511104 then (spec_l02DrawCode.l0 k1 a1 a2 (x7_1 ++ [(⟨t4, t5, t6, t7⟩ : S50)]) (wrap64 (x8_1 + 1)) s0_0 t8 t9) else (none)) = some (r1, r2, r3) := H
   have A7 := am_ A70
   clear A70
   by_cases c8 : x7_1.length < 4398046511104
   rotate_left
   ·rw [if_neg c8] at H
    exact absurd H (by simp)
   rw [if_pos c8] at H
   have LMc8 := am_ c8
   clear c8
   obtain ⟨y10, hy10⟩ : ∃ y_ : List (S50), y_ = (x7_1 ++ [(⟨t4, t5, t6, t7⟩ : S50)]) := ⟨_, rfl⟩
   replace H : (spec_l02DrawCode.l0 k1 a1 a2 y10 (wrap64 (x8_1 + 1)) s0_0 t8 t9) = some (r1, r2, r3) := rh_ hy10
   have Ny10 := am_ hy10
   clear hy10
   have H' := am_ H
   clear H
   go_wp2_with (first | ((with_reducible refine gate_callee (f := 44) rfl ?_); refine goesL_ (some 19) rfl rfl Try.func44 kr_ rfl #[.pointer (some ⟨g, 0, none⟩), .int .i64 a1, .int .i64 a2] rfl ar_ ?_; (with_reducible refine (spec_l02DrawInstr.calls k1 g s0_0 x1001_1 x1002_1 a1 a2 t4 t5 t6 t7 t8 t9 w0 _ ?side1 ?side2 A7.out).mono ?_); (case side1 => exact (hi_ HI0.out)); (case side2 => exact (bi_ HB.out HI0.out)); rintro e w9 ⟨rfl, hi, hb, hk⟩; refine ⟨_, rfl, ?_⟩; have n0_ := am_ (Kd.R_mono (Kd.R_keep (IsS57.apart (show IsS57 w0 _ g s0_0 x1001_1 x1002_1 from (hi_ HI0.out)) (rx_ HO_7.out) (by decide)) hk (fun _ h => h.2)) (fun _ h => h.1)); have n1_ := am_ (KeepBut.trans (kk_ HK.out) hk (.inl rfl)); have n2_ := am_ (hb); have n3_ := am_ (hi); clear HO_7; clear HK; clear HB; clear HI0; have HO_7 := n0_; have HK := n1_; have HB := n2_; have HI0 := n3_; clear n0_ n1_ n2_ n3_; (try clear hb); (try clear hb2); (try clear hk); (try clear hi)) | ((with_reducible refine gate_builtin (b := .append) (xs := #[.tmp 15, .tmp 20]) rfl ?_); at_builtin; refine Kd.R_append k50 w.heap.size rfl (.tmp 15) (.tmp 20) 46 50 (.agg #[(.int .i64 0), (.int .i64 0), (.int .i64 0), (.int .i64 0)]) 32 rfl Try.underlying46 info50 rfl (by decide) (by omega) u7 x7_1 (⟨t4, t5, t6, t7⟩ : S50) [.int .i64 t4, .int .i64 t5, .int .i64 t6, .int .i64 t7] (fun _ => True) (fun _ => False) rfl rfl ?aP (fun _ hk => hk.elim) ?aF ?aO (Below.refl _ _) ?aS ?aL ?_; (case aP => exact k50_mkM _ _ _ (⟨t4, t5, t6, t7⟩ : S50)); (case aF => exact (fun _ _ => trivial)); (case aO => exact (rx_ HO_7.out)); (case aS => exact (keep_size (w := w) (g := g) (row := none) (kk_ HK.out))); (case aL => have := LMc8.out; omega); intro v11 w10 ho hb hg hat; rw [← Ny10.out] at ho; have n0_ := am_ (IsS57.grown (hi_ HI0.out) hg (IsS57.own_ne HI0.out HO_7.out (by decide))); have n1_ := am_ (below_weaken (bi_ HB.out HI0.out) HL.out hb); have n2_ := am_ (KeepBut.trans (kk_ HK.out) (KeepBut.of_grown hg g) (Kd.R_base2 HO_7.out)); have n3_ := am_ (ho); clear HI0; clear HB; clear HK; clear HO_7; have HI0 := n0_; have HB := n1_; have HK := n2_; have HO12 := n3_; clear n0_ n1_ n2_ n3_; clear ho hb hg hat))
   go_roundg k1
   case measure => have := HK1.out; omega
   case rel => exact ⟨(y10), (wrap64 (x8_1 + 1)), (t8), (t9), sd_, H', ⟨by have := HK1.out; omega⟩, ⟨by (with_reducible repeat (first | apply Kd.R_alloc | apply Kd.R_drewN | apply Kd.R_drew)); exact HO12.out⟩, ⟨(hi_ HI0.out)⟩, ⟨(kk_ HK.out)⟩, ⟨(bi_ HB.out HI0.out)⟩⟩

end Go.Proofs.Ytbgclnjnngolmaa.P
