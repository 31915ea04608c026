-- Written by mp.py (the session's own driver over the kit's printer) for the seat YtbgclnjnngolmaaGreatDoor.
import Derived.Test.YtbgclnjnngolmaaGreatDoorK
import Derived.Test.YtbgclnjnngolmaaGreatDoorPspecParseCode
namespace Go.Proofs.YtbgclnjnngolmaaGreatDoor.P
open Go.RowKit Go.Proofs.YtbgclnjnngolmaaGreatDoorW.PrintWords Go.Proofs.YtbgclnjnngolmaaGreatDoorW.PrintLast Go.Proofs.YtbgclnjnngolmaaGreatDoorW.PrintMore
attribute [local go_sem] max2_int min2_int max_two min_two max_three min_three max_four min_four
set_option linter.unusedVariables false
set_option linter.unusedSimpArgs false

/-! ### spec_l06Codes: function 13 -/
def spec_l06Codes.l0 : Nat → List ByteArray → List (List (S55)) → Int → Option ((List (List (S55))))
 | 0, _, _, _ => none
 | k + 1, x0, x3, x4 => if x4 < (x0.length : Int) then (if 0 ≤ x4 then ((spec_ParseCode.f k (rdOf ByteArray.empty x0 x4)).bind fun bt5 => (if x3.length < 5864062014805 then (spec_l06Codes.l0 k x0 (x3 ++ [bt5.1]) (wrap64 (x4 + 1))) else (none))) else (none)) else (some x3)
def spec_l06Codes.f (k : Nat) (l0 : List ByteArray) : Option ((List (List (S55)))) := spec_l06Codes.l0 k l0 (([] : List (List (S55)))) 0
theorem spec_l06Codes.mono_l : ∀ k, (∀ y0 y1 y2, LeO (spec_l06Codes.l0 k y0 y1 y2) (spec_l06Codes.l0 (k + 1) y0 y1 y2))
 | 0 => fun _ _ _ r h => by simp [spec_l06Codes.l0] at h
 | k + 1 => by
  have ih0 := spec_l06Codes.mono_l k
  ·intro y0 y1 y2
   unfold spec_l06Codes.l0
   repeat' first | (with_reducible first | exact ih0 _ _ _ | exact spec_ParseCode.mono _ _ | exact lr_ | exact ln_ | refine LeO.ite ?_ ?_ | refine LeO.bind ?_ (fun _ => ?_)) | exact ih0 _ _ _ | exact spec_ParseCode.mono _ _ | exact ln_ | refine LeO.ite ?_ ?_ | refine LeO.bind ?_ (fun _ => ?_)
theorem spec_l06Codes.mono : ∀ a0 k, LeO (spec_l06Codes.f k a0) (spec_l06Codes.f (k + 1) a0) := by
 intro a0 k
 have ih0 := spec_l06Codes.mono_l k
 unfold spec_l06Codes.f
 repeat' first | (with_reducible first | exact ih0 _ _ _ | exact spec_ParseCode.mono _ _ | exact lr_ | exact ln_ | refine LeO.ite ?_ ?_ | refine LeO.bind ?_ (fun _ => ?_)) | exact ih0 _ _ _ | exact spec_ParseCode.mono _ _ | exact ln_ | refine LeO.ite ?_ ?_ | refine LeO.bind ?_ (fun _ => ?_)
set_option maxHeartbeats 8000000 in
set_option maxRecDepth 100000 in
theorem spec_l06Codes.calls (k : Nat) (A0 : Option Addr) (c0 : Nat) (l0 : List ByteArray) (r : List (List (S55))) (w : World) (hr0 : Kd.C Kd.string w A0 l0.length l0) (hc0 : l0.length ≤ c0) (h : spec_l06Codes.f k l0 = some r) :
  Calls Tryz.prog 13 #[.slice A0 l0.length c0] w fun e w' => ∃ v0_ : Value, e = .returned (v0_) ∧ Kd.S (Kd.slice 55 k55) 40 w' w.heap.size (fun _ => True) v0_ r ∧ Below w.heap.size w w' := by
 have HR0 := Aside0.mk hr0
 have HC0 := Aside0.mk hc0
 clear hr0 hc0
 have HB := Aside0.mk (Below.refl w.heap.size w)
 have H : (spec_l06Codes.l0 k l0 (([] : List (List (S55)))) 0) = some r := h
 clear h
 obtain ⟨y1, hy1⟩ : ∃ y_ : List (List (S55)), y_ = (([] : List (List (S55)))) := ⟨_, rfl⟩
 replace H : (spec_l06Codes.l0 k l0 y1 0) = some r := by first | (rw [hy1]; with_reducible exact H) | (have H2_ := (Option.bind_some _ _).symm.trans H; rw [hy1]; with_reducible exact H2_) | (have H2_ := (Option.bind_some _ _).symm.trans H; with_reducible exact H2_) | with_reducible exact H | (rw [hy1]; exact H) | exact H
 have Ny1 := Aside0.mk hy1
 clear hy1
 have H' := Aside0.mk H
 clear H
 go_enter Tryz.func13, Tryz.ntmps13
 go_wp2_with (first | ((with_reducible refine gate_dst (N := 7) rfl ?_); refine Kd.S_lit (Kd.slice 55 k55) _ 40 ?hg (N := 7) ?hd (xs := ([] : List (List (S55)))) (inner := []) (ok := fun _ => True) (okp := fun _ => True) ?hr ?hp (fun _ hk => hk) trivial (Below.refl _ _) (Nat.le_refl _) (by simp) ?_; (case hd => rfl); (case hg => rfl); (case hr => first | (go_simp; done) | (go_simp; rfl)); (case hp => exact (Reps.none _ _)); intro v2 w2 ho3 hb hg_ hnew_; clear hg_ hnew_; (first | rw [← Ny1.out] at ho3 | (simp only [Int.reduceToNat] at ho3; rw [← Ny1.out] at ho3)); have n0_ := Aside0.mk (Kd.S_lower ho3 (below_size bw_)); have n1_ := bs_ hb; clear HB; have HO3 := n0_; have HB := n1_; clear n0_ n1_; clear hb ho3))
 go_loopg [3, 4] k (fun kq v3 v4 w' => ∃ (x3_1 : List (List (S55))) (x4_1 : Int), v4 = .int .i64 x4_1 ∧ Aside0 (spec_l06Codes.l0 kq l0 x3_1 x4_1 = some r) ∧ Aside0 (kq ≤ k) ∧ Aside0 (Kd.S (Kd.slice 55 k55) 40 w' w.heap.size (fun _ => True) v3 x3_1) ∧ Aside0 (Below w.heap.size w w'))
 case atStart => exact ⟨(y1), (0), sd_, H', ⟨Nat.le_refl _⟩, ⟨by (with_reducible repeat (first | apply Kd.S_alloc | apply Kd.S_drewN | apply Kd.S_drew)); exact HO3.out⟩, ⟨bw_⟩⟩
 case round =>
  clear H'
  try clear c1
  try clear p2
  obtain ⟨x3_1, x4_1, rfl, HA, HK1, HO_3, HB⟩ := hrel
  cases gk with
  | zero => exact absurd HA.out (by simp [spec_l06Codes.l0])
  | succ k1 =>
   have H := HA.out
   clear HA
   simp only [spec_l06Codes.l0] at H
   by_cases c4 : x4_1 < (l0.length : Int)
   rotate_left
   ·rw [if_neg c4] at H
    have c4b0 : decide (x4_1 < (l0.length : Int)) = false := decide_eq_false c4
    clear c4
    obtain rfl := Option.some.inj H
    go_wp2
    go_ret
    exact ⟨_, rr_, by (with_reducible repeat (first | apply Kd.S_alloc | apply Kd.S_drewN | apply Kd.S_drew)); exact HO_3.out, bw_⟩
   rw [if_pos c4] at H
   have c4b0 : decide (x4_1 < (l0.length : Int)) = true := decide_eq_true c4
   clear c4
   by_cases c5 : 0 ≤ x4_1
   rotate_left
   ·rw [if_neg c5] at H
    exact absurd H (by simp)
   rw [if_pos c5] at H
   have c5b0 : decide (0 ≤ x4_1) = true := decide_eq_true c5
   clear c5
   replace H := Option.bind_eq_some_iff.mp H
   obtain ⟨⟨t5, t6⟩, A60, H⟩ := H
   replace H : (if x3_1.length < 5864062014805 then (spec_l06Codes.l0 k1 l0 (x3_1 ++ [t5]) (wrap64 (x4_1 + 1))) else (none)) = some r := H
   have A6 := Aside0.mk A60
   clear A60
   by_cases c7 : x3_1.length < 5864062014805
   rotate_left
   ·rw [if_neg c7] at H
    exact absurd H (by simp)
   rw [if_pos c7] at H
   have LMc7 := Aside0.mk c7
   clear c7
   obtain ⟨y9, hy9⟩ : ∃ y_ : List (List (S55)), y_ = (x3_1 ++ [t5]) := ⟨_, rfl⟩
   replace H : (spec_l06Codes.l0 k1 l0 y9 (wrap64 (x4_1 + 1))) = some r := by first | (rw [hy9]; with_reducible exact H) | (have H2_ := (Option.bind_some _ _).symm.trans H; rw [hy9]; with_reducible exact H2_) | (have H2_ := (Option.bind_some _ _).symm.trans H; with_reducible exact H2_) | with_reducible exact H | (rw [hy9]; exact H) | exact H
   have Ny9 := Aside0.mk hy9
   clear hy9
   have H' := Aside0.mk H
   clear H
   have p4 : 0 ≤ (x4_1 : Int) := od_
   have q4 : x4_1 < (l0.length : Int) := od_
   obtain ⟨ad4, e4, hx4_0⟩ := Kd.at_string HR0.out x4_1 p4 q4
   cases e4
   replace hx4_0 := (HB.out.cell (World.block_lt_of_cell? w _ hx4_0)).trans hx4_0
   replace p4 := eq_true p4
   replace q4 := eq_true q4
   go_wp2_with (first | ((with_reducible refine gate_callee (f := 24) rfl ?_); refine goesL_ (some 19) rfl rfl Tryz.func24 (by kernel_rfl) rfl #[.string (rdOf ByteArray.empty l0 x4_1)] rfl ar_ ?_; (with_reducible refine (spec_ParseCode.calls k1 (rdOf ByteArray.empty l0 x4_1) t5 t6 _ A6.out).mono ?_); rintro e w8 ⟨v7, rfl, ho0, hb⟩; refine ⟨_, rfl, ?_⟩; have n0_ := Aside0.mk (Kd.S_elder' (sx_ HO_3.out) (Kd.R_base ho0) hb); have n1_ := Aside0.mk (Kd.R_lower ho0 (below_size bw_)); have n2_ := bs_ hb; clear HO_3; clear HB; have HO_3 := n0_; have HO8 := n1_; have HB := n2_; clear n0_ n1_ n2_; (try clear hb); (try clear hb2); (try clear hk); (try clear hi); (try clear ho0); obtain ⟨Ao10, co10, eo10⟩ := Kd.R_slice HO8.out; subst eo10) | ((with_reducible refine gate_builtin (b := .append) (xs := #[.tmp 22, .tmp 24]) rfl ?_); at_builtin; refine Kd.S_append (Kd.slice 55 k55) (w0 := w) w.heap.size rfl (.tmp 22) (.tmp 24) 22 40 (.slice none 0 0) 24 rfl Tryz.underlying22 info40 rfl (by decide) (by omega) u3 x3_1 t5 [.slice Ao10 t5.length co10] (fun _ => True) (fun k_ => some k_ = (.slice Ao10 t5.length co10 : Value).ownBlock) rfl rfl ?aP (fun k_ hk_ => ((Kd.R_mono (ok' := fun k_ => ((fun _ => True)) k_ ∧ some k_ ≠ (u3 : Value).ownBlock) (Kd.R_apart' (HO8.out) (Kd.S_typed HO_3.out) (by decide)) (fun k_ hk => ⟨trivial, hk.2⟩))).1 k_ hk_.symm) ?aF ?aO ?aB ?aS ?aL ?_; (case aP => exact Kd.M_row (Kd.R_mono (Kd.R_tight rfl (Kd.R_mono (ok' := fun k_ => ((fun _ => True)) k_ ∧ some k_ ≠ (u3 : Value).ownBlock) (Kd.R_apart' (HO8.out) (Kd.S_typed HO_3.out) (by decide)) (fun k_ hk => ⟨trivial, hk.2⟩))) (fun _ h_ => h_))); (case aB => exact bw_); (case aF => exact (fun _ _ => trivial)); (case aO => exact (by (with_reducible repeat (first | apply Kd.S_alloc | apply Kd.S_drewN | apply Kd.S_drew)); exact Kd.S_mono HO_3.out (fun k_ hk => ⟨trivial, fun e_ => hk.2 e_⟩))); (case aS => exact (below_size bw_)); (case aL => have := LMc7.out; omega); intro v10 w9 ho hb hg hat; rw [← Ny9.out] at ho; have n0_ := Aside0.mk (hb); have n1_ := Aside0.mk (ho); clear HB; clear HO_3; clear HO8; have HB := n0_; have HO11 := n1_; clear n0_ n1_; clear ho hb hg hat))
   go_roundg k1
   case measure => have := HK1.out; omega
   case rel => exact ⟨(y9), (wrap64 (x4_1 + 1)), sd_, H', ⟨by have := HK1.out; omega⟩, ⟨by (with_reducible repeat (first | apply Kd.S_alloc | apply Kd.S_drewN | apply Kd.S_drew)); exact HO11.out⟩, ⟨bw_⟩⟩

end Go.Proofs.YtbgclnjnngolmaaGreatDoor.P
