-- Written by mp.py (the session's own driver over the kit's printer) for the seat Ytlfbdafghpmahaa.
import Derived.Test.YtlfbdafghpmahaaK
import Derived.Test.YtlfbdafghpmahaaE
namespace Go.Proofs.Ytlfbdafghpmahaa.P
open Go.RowKit Go.Proofs.YtlfbdafghpmahaaW.PrintWords Go.Proofs.YtlfbdafghpmahaaW.PrintLast Go.Proofs.YtlfbdafghpmahaaW.PrintMore
attribute [local go_sem] max2_int min2_int max_two min_two max_three min_three max_four min_four
set_option linter.unusedVariables false
set_option linter.unusedSimpArgs false

/-! ### spec_l01In: function 101 -/
def spec_l01In.f (a0 : Int) (a1 : Int) (a2 : Int) : Option (Bool) := if a1 ≤ a0 then (some (decide (a0 ≤ a2))) else (some false)
set_option maxHeartbeats 8000000 in
set_option maxRecDepth 100000 in
theorem spec_l01In.calls (a0 : Int) (a1 : Int) (a2 : Int) (r : Bool) (w : World) (h : spec_l01In.f a0 a1 a2 = some r) :
  Calls Try.prog 101 #[.int .i64 a0, .int .i64 a1, .int .i64 a2] w fun e w' => e = .returned (.bool r) ∧ Drawn0 w w' := by
 have H : (if a1 ≤ a0 then (some (decide (a0 ≤ a2))) else (some false)) = some r := h
 clear h
 by_cases c4 : a1 ≤ a0
 rotate_left
 ·rw [if_neg c4] at H
  have c4b0 : decide (a1 ≤ a0) = false := decide_eq_false c4
  clear c4
  obtain rfl := Option.some.inj H
  go_enter Try.func101, Try.ntmps101
  go_wp2
  go_ret
  exact ⟨sd_, by repeat (first | exact Drawn0.refl _ | apply Drawn0.step)⟩
 rw [if_pos c4] at H
 have c4b0 : decide (a1 ≤ a0) = true := decide_eq_true c4
 clear c4
 obtain rfl := Option.some.inj H
 go_enter Try.func101, Try.ntmps101
 go_wp2
 go_ret
 exact ⟨sd_, by repeat (first | exact Drawn0.refl _ | apply Drawn0.step)⟩

/-! ### spec_l02Form: function 164 -/
def spec_l02Form.f (a0 : Int) : Option (ByteArray) := (some (([(⟨#[114, 110]⟩ : ByteArray), (⟨#[114, 115]⟩ : ByteArray), (⟨#[114, 110]⟩ : ByteArray), (⟨#[114, 110]⟩ : ByteArray), (⟨#[]⟩ : ByteArray), (⟨#[114, 115, 110]⟩ : ByteArray), (⟨#[114, 110]⟩ : ByteArray), (⟨#[114, 115, 110]⟩ : ByteArray), (⟨#[114, 115]⟩ : ByteArray)] : List ByteArray) : List ByteArray)).bind fun y1 => ((spec_l01In.f a0 0 8).bind fun t4 => (if t4 = true then (if 0 ≤ a0 then (if a0 < (y1.length : Int) then (some (rdOf ByteArray.empty y1 a0)) else (none)) else (none)) else (some (⟨#[63]⟩ : ByteArray))))
set_option maxHeartbeats 8000000 in
set_option maxRecDepth 100000 in
theorem spec_l02Form.calls (a0 : Int) (r : ByteArray) (w : World) (h : spec_l02Form.f a0 = some r) :
  Calls Try.prog 164 #[.int .i64 a0] w fun e w' => e = .returned (.string r) ∧ Below w.heap.size w w' := by
 have HB := Aside0.mk (Below.refl w.heap.size w)
 have H : ((some (([(⟨#[114, 110]⟩ : ByteArray), (⟨#[114, 115]⟩ : ByteArray), (⟨#[114, 110]⟩ : ByteArray), (⟨#[114, 110]⟩ : ByteArray), (⟨#[]⟩ : ByteArray), (⟨#[114, 115, 110]⟩ : ByteArray), (⟨#[114, 110]⟩ : ByteArray), (⟨#[114, 115, 110]⟩ : ByteArray), (⟨#[114, 115]⟩ : ByteArray)] : List ByteArray) : List ByteArray)).bind fun y1 => ((spec_l01In.f a0 0 8).bind fun t4 => (if t4 = true then (if 0 ≤ a0 then (if a0 < (y1.length : Int) then (some (rdOf ByteArray.empty y1 a0)) else (none)) else (none)) else (some (⟨#[63]⟩ : ByteArray))))) = some r := h
 clear h
 obtain ⟨y1, hy1⟩ : ∃ y_ : List ByteArray, y_ = (([(⟨#[114, 110]⟩ : ByteArray), (⟨#[114, 115]⟩ : ByteArray), (⟨#[114, 110]⟩ : ByteArray), (⟨#[114, 110]⟩ : ByteArray), (⟨#[]⟩ : ByteArray), (⟨#[114, 115, 110]⟩ : ByteArray), (⟨#[114, 110]⟩ : ByteArray), (⟨#[114, 115, 110]⟩ : ByteArray), (⟨#[114, 115]⟩ : ByteArray)] : List ByteArray)) := ⟨_, rfl⟩
 replace H : ((spec_l01In.f a0 0 8).bind fun t4 => (if t4 = true then (if 0 ≤ a0 then (if a0 < (y1.length : Int) then (some (rdOf ByteArray.empty y1 a0)) else (none)) else (none)) else (some (⟨#[63]⟩ : ByteArray)))) = some r := by first | (rw [hy1]; with_reducible exact H) | (have H2_ := (Option.bind_some _ _).symm.trans H; rw [hy1]; with_reducible exact H2_) | (have H2_ := (Option.bind_some _ _).symm.trans H; with_reducible exact H2_) | with_reducible exact H | (rw [hy1]; exact H) | exact H
 have Ny1 := Aside0.mk hy1
 clear hy1
 replace H := Option.bind_eq_some_iff.mp H
 obtain ⟨t4, A20, H⟩ := H
 replace H : (if t4 = true then (if 0 ≤ a0 then (if a0 < (y1.length : Int) then (some (rdOf ByteArray.empty y1 a0)) else (none)) else (none)) else (some (⟨#[63]⟩ : ByteArray))) = some r := H
 have A2 := Aside0.mk A20
 clear A20
 by_cases c3 : t4 = true
 rotate_left
 ·replace c3 := Bool.eq_false_iff.mpr c3
  subst c3
  have H1 : (some (⟨#[63]⟩ : ByteArray)) = some r := by rw [if_neg (show ¬ (false = true) by decide)] at H; exact H
  clear H
  have H := H1
  clear H1
  obtain rfl := Option.some.inj H
  go_enter Try.func164, Try.ntmps164
  go_wp2_with (first | ((with_reducible refine gate_dst (N := 4) rfl ?_); refine Kd.R_lit Kd.string _ 9 ?hg (N := 4) ?hd (xs := ([(⟨#[114, 110]⟩ : ByteArray), (⟨#[114, 115]⟩ : ByteArray), (⟨#[114, 110]⟩ : ByteArray), (⟨#[114, 110]⟩ : ByteArray), (⟨#[]⟩ : ByteArray), (⟨#[114, 115, 110]⟩ : ByteArray), (⟨#[114, 110]⟩ : ByteArray), (⟨#[114, 115, 110]⟩ : ByteArray), (⟨#[114, 115]⟩ : ByteArray)] : List ByteArray)) (inner := [.string (⟨#[114, 110]⟩ : ByteArray), .string (⟨#[114, 115]⟩ : ByteArray), .string (⟨#[114, 110]⟩ : ByteArray), .string (⟨#[114, 110]⟩ : ByteArray), .string (⟨#[]⟩ : ByteArray), .string (⟨#[114, 115, 110]⟩ : ByteArray), .string (⟨#[114, 110]⟩ : ByteArray), .string (⟨#[114, 115, 110]⟩ : ByteArray), .string (⟨#[114, 115]⟩ : ByteArray)]) (ok := fun _ => True) (okp := fun _ => True) ?hr ?hp (fun _ hk => hk) trivial (Below.refl _ _) (Nat.le_refl _) (by simp) ?_; (case hd => rfl); (case hg => rfl); (case hr => first | (go_simp; done) | (go_simp; rfl)); (case hp => exact (Reps.one (show Kd.M Kd.string _ _ _ (⟨#[114, 110]⟩ : ByteArray) [.string (⟨#[114, 110]⟩ : ByteArray)] from rfl) (Reps.one (show Kd.M Kd.string _ _ _ (⟨#[114, 115]⟩ : ByteArray) [.string (⟨#[114, 115]⟩ : ByteArray)] from rfl) (Reps.one (show Kd.M Kd.string _ _ _ (⟨#[114, 110]⟩ : ByteArray) [.string (⟨#[114, 110]⟩ : ByteArray)] from rfl) (Reps.one (show Kd.M Kd.string _ _ _ (⟨#[114, 110]⟩ : ByteArray) [.string (⟨#[114, 110]⟩ : ByteArray)] from rfl) (Reps.one (show Kd.M Kd.string _ _ _ (⟨#[]⟩ : ByteArray) [.string (⟨#[]⟩ : ByteArray)] from rfl) (Reps.one (show Kd.M Kd.string _ _ _ (⟨#[114, 115, 110]⟩ : ByteArray) [.string (⟨#[114, 115, 110]⟩ : ByteArray)] from rfl) (Reps.one (show Kd.M Kd.string _ _ _ (⟨#[114, 110]⟩ : ByteArray) [.string (⟨#[114, 110]⟩ : ByteArray)] from rfl) (Reps.one (show Kd.M Kd.string _ _ _ (⟨#[114, 115, 110]⟩ : ByteArray) [.string (⟨#[114, 115, 110]⟩ : ByteArray)] from rfl) (Reps.one (show Kd.M Kd.string _ _ _ (⟨#[114, 115]⟩ : ByteArray) [.string (⟨#[114, 115]⟩ : ByteArray)] from rfl) (Reps.none _ _))))))))))); intro v2 w9 ho10 hb hg_ hnew_; clear hg_ hnew_; (first | rw [← Ny1.out] at ho10 | (simp only [Int.reduceToNat] at ho10; rw [← Ny1.out] at ho10)); have n0_ := Aside0.mk (Kd.R_lower ho10 (below_size bw_)); have n1_ := Aside0.mk (below_step bw_ hb); clear HB; have HO3 := n0_; have HB := n1_; clear n0_ n1_; clear hb ho10) | ((with_reducible refine gate_callee (f := 101) rfl ?_); refine goesL_ (some 6) rfl rfl Try.func101 (by kernel_rfl) rfl #[.int .i64 a0, .int .i64 0, .int .i64 8] rfl ar_ ?_; (with_reducible refine (spec_l01In.calls a0 0 8 false _ A2.out).mono ?_); rintro e w' ⟨rfl, ⟨nd, rfl⟩⟩; refine ⟨_, rfl, ?_⟩))
  go_ret
  exact ⟨rr_, bw_⟩
 subst c3
 have H1 : (if 0 ≤ a0 then (if a0 < (y1.length : Int) then (some (rdOf ByteArray.empty y1 a0)) else (none)) else (none)) = some r := by rw [if_pos rfl] at H; exact H
 clear H
 have H := H1
 clear H1
 by_cases c4 : 0 ≤ a0
 rotate_left
 ·rw [if_neg c4] at H
  exact absurd H (by simp)
 rw [if_pos c4] at H
 have c4b0 : decide (0 ≤ a0) = true := decide_eq_true c4
 clear c4
 by_cases c5 : a0 < (y1.length : Int)
 rotate_left
 ·rw [if_neg c5] at H
  exact absurd H (by simp)
 rw [if_pos c5] at H
 have c5b0 : decide (a0 < (y1.length : Int)) = true := decide_eq_true c5
 clear c5
 obtain rfl := Option.some.inj H
 go_enter Try.func164, Try.ntmps164
 go_wp2_with (first | ((with_reducible refine gate_dst (N := 4) rfl ?_); refine Kd.R_lit Kd.string _ 9 ?hg (N := 4) ?hd (xs := ([(⟨#[114, 110]⟩ : ByteArray), (⟨#[114, 115]⟩ : ByteArray), (⟨#[114, 110]⟩ : ByteArray), (⟨#[114, 110]⟩ : ByteArray), (⟨#[]⟩ : ByteArray), (⟨#[114, 115, 110]⟩ : ByteArray), (⟨#[114, 110]⟩ : ByteArray), (⟨#[114, 115, 110]⟩ : ByteArray), (⟨#[114, 115]⟩ : ByteArray)] : List ByteArray)) (inner := [.string (⟨#[114, 110]⟩ : ByteArray), .string (⟨#[114, 115]⟩ : ByteArray), .string (⟨#[114, 110]⟩ : ByteArray), .string (⟨#[114, 110]⟩ : ByteArray), .string (⟨#[]⟩ : ByteArray), .string (⟨#[114, 115, 110]⟩ : ByteArray), .string (⟨#[114, 110]⟩ : ByteArray), .string (⟨#[114, 115, 110]⟩ : ByteArray), .string (⟨#[114, 115]⟩ : ByteArray)]) (ok := fun _ => True) (okp := fun _ => True) ?hr ?hp (fun _ hk => hk) trivial (Below.refl _ _) (Nat.le_refl _) (by simp) ?_; (case hd => rfl); (case hg => rfl); (case hr => first | (go_simp; done) | (go_simp; rfl)); (case hp => exact (Reps.one (show Kd.M Kd.string _ _ _ (⟨#[114, 110]⟩ : ByteArray) [.string (⟨#[114, 110]⟩ : ByteArray)] from rfl) (Reps.one (show Kd.M Kd.string _ _ _ (⟨#[114, 115]⟩ : ByteArray) [.string (⟨#[114, 115]⟩ : ByteArray)] from rfl) (Reps.one (show Kd.M Kd.string _ _ _ (⟨#[114, 110]⟩ : ByteArray) [.string (⟨#[114, 110]⟩ : ByteArray)] from rfl) (Reps.one (show Kd.M Kd.string _ _ _ (⟨#[114, 110]⟩ : ByteArray) [.string (⟨#[114, 110]⟩ : ByteArray)] from rfl) (Reps.one (show Kd.M Kd.string _ _ _ (⟨#[]⟩ : ByteArray) [.string (⟨#[]⟩ : ByteArray)] from rfl) (Reps.one (show Kd.M Kd.string _ _ _ (⟨#[114, 115, 110]⟩ : ByteArray) [.string (⟨#[114, 115, 110]⟩ : ByteArray)] from rfl) (Reps.one (show Kd.M Kd.string _ _ _ (⟨#[114, 110]⟩ : ByteArray) [.string (⟨#[114, 110]⟩ : ByteArray)] from rfl) (Reps.one (show Kd.M Kd.string _ _ _ (⟨#[114, 115, 110]⟩ : ByteArray) [.string (⟨#[114, 115, 110]⟩ : ByteArray)] from rfl) (Reps.one (show Kd.M Kd.string _ _ _ (⟨#[114, 115]⟩ : ByteArray) [.string (⟨#[114, 115]⟩ : ByteArray)] from rfl) (Reps.none _ _))))))))))); intro v2 w6 ho7 hb hg_ hnew_; clear hg_ hnew_; (first | rw [← Ny1.out] at ho7 | (simp only [Int.reduceToNat] at ho7; rw [← Ny1.out] at ho7)); have n0_ := Aside0.mk (Kd.R_lower ho7 (below_size bw_)); have n1_ := Aside0.mk (below_step bw_ hb); clear HB; have HO3 := n0_; have HB := n1_; clear n0_ n1_; clear hb ho7) | ((with_reducible refine gate_callee (f := 101) rfl ?_); refine goesL_ (some 6) rfl rfl Try.func101 (by kernel_rfl) rfl #[.int .i64 a0, .int .i64 0, .int .i64 8] rfl ar_ ?_; (with_reducible refine (spec_l01In.calls a0 0 8 true _ A2.out).mono ?_); rintro e w' ⟨rfl, ⟨nd, rfl⟩⟩; refine ⟨_, rfl, ?_⟩; obtain ⟨Ao8, co8, eo8⟩ := Kd.R_slice HO3.out; subst eo8; have p5 : 0 ≤ (a0 : Int) := od_; have q5 : a0 < (y1.length : Int) := od_; obtain ⟨ad5, e5, hx5_0⟩ := Kd.at_string (Kd.R_reads' HO3.out).2.2 a0 p5 q5; cases e5; replace p5 := eq_true p5; replace q5 := eq_true q5))
 go_ret
 exact ⟨rr_, bw_⟩

/-! ### spec_l02Named: function 138 -/
def spec_l02Named.l0 : Nat → Int → ByteArray → Int → Option (Bool)
 | 0, _, _, _ => none
 | k + 1, x1, x5, x6 => if x6 < (x5.size : Int) then (if 0 ≤ x6 then (if (bt x5 x6) = x1 then (some true) else (spec_l02Named.l0 k x1 x5 (wrap64 (x6 + 1)))) else (none)) else (some false)
def spec_l02Named.f (k : Nat) (a0 : Int) (a1 : Int) : Option (Bool) := (spec_l02Form.f a0).bind fun t1 => (spec_l02Named.l0 k a1 t1 0)
theorem spec_l02Named.mono_l : ∀ k, (∀ y0 y1 y2, LeO (spec_l02Named.l0 k y0 y1 y2) (spec_l02Named.l0 (k + 1) y0 y1 y2))
 | 0 => fun _ _ _ r h => by simp [spec_l02Named.l0] at h
 | k + 1 => by
  have ih0 := spec_l02Named.mono_l k
  ·intro y0 y1 y2
   unfold spec_l02Named.l0
   repeat' first
   | (with_reducible exact ih0 _ _ _)
   | (with_reducible exact LeO.refl _)
   | (with_reducible exact LeO.none _)
   | (with_reducible refine LeO.ite ?_ ?_)
   | (with_reducible refine LeO.bind ?_ (fun _ => ?_))
   | exact ih0 _ _ _
   | exact LeO.none _
   | refine LeO.ite ?_ ?_
   | refine LeO.bind ?_ (fun _ => ?_)
theorem spec_l02Named.mono : ∀ a0 a1 k, LeO (spec_l02Named.f k a0 a1) (spec_l02Named.f (k + 1) a0 a1) := by
 intro a0 a1 k
 have ih0 := spec_l02Named.mono_l k
 unfold spec_l02Named.f
 repeat' first
   | (with_reducible exact ih0 _ _ _)
   | (with_reducible exact LeO.refl _)
   | (with_reducible exact LeO.none _)
   | (with_reducible refine LeO.ite ?_ ?_)
   | (with_reducible refine LeO.bind ?_ (fun _ => ?_))
   | exact ih0 _ _ _
   | exact LeO.none _
   | refine LeO.ite ?_ ?_
   | refine LeO.bind ?_ (fun _ => ?_)
set_option maxHeartbeats 8000000 in
set_option maxRecDepth 100000 in
theorem spec_l02Named.calls (k : Nat) (a0 : Int) (a1 : Int) (r : Bool) (w : World) (h : spec_l02Named.f k a0 a1 = some r) :
  Calls Try.prog 138 #[.int .i64 a0, .int .u8 a1] w fun e w' => e = .returned (.bool r) ∧ Below w.heap.size w w' := by
 have HB := Aside0.mk (Below.refl w.heap.size w)
 have H : ((spec_l02Form.f a0).bind fun t1 => (spec_l02Named.l0 k a1 t1 0)) = some r := h
 clear h
 replace H := Option.bind_eq_some_iff.mp H
 obtain ⟨t1, A30, H⟩ := H
 replace H : (spec_l02Named.l0 k a1 t1 0) = some r := H
 have A3 := Aside0.mk A30
 clear A30
 have H' := Aside0.mk H
 clear H
 go_enter Try.func138, Try.ntmps138
 go_wp2_with (first | ((with_reducible refine gate_callee (f := 164) rfl ?_); refine goesL_ (some 8) rfl rfl Try.func164 (by kernel_rfl) rfl #[.int .i64 a0] rfl ar_ ?_; (with_reducible refine (spec_l02Form.calls a0 t1 _ A3.out).mono ?_); rintro e w4 ⟨rfl, hb⟩; refine ⟨_, rfl, ?_⟩; have n0_ := Aside0.mk (below_step bw_ hb); clear HB; have HB := n0_; clear n0_; (try clear hb); (try clear hb2); (try clear hk); (try clear hi)))
 go_loopg [6] k (fun kq v6 w' => ∃ (x6_1 : Int), v6 = .int .i64 x6_1 ∧ Aside0 (spec_l02Named.l0 kq a1 t1 x6_1 = some r) ∧ Aside0 (kq ≤ k) ∧ Aside0 (Below w.heap.size w w'))
 case atStart => exact ⟨(0), sd_, H', ⟨Nat.le_refl _⟩, ⟨bw_⟩⟩
 case round =>
  clear H'
  try clear c1
  try clear p2
  obtain ⟨x6_1, rfl, HA, HK1, HB⟩ := hrel
  cases gk with
  | zero => exact absurd HA.out (by simp [spec_l02Named.l0])
  | succ k1 =>
   have H := HA.out
   clear HA
   simp only [spec_l02Named.l0] at H
   by_cases c5 : x6_1 < (t1.size : Int)
   rotate_left
   ·rw [if_neg c5] at H
    have c5b0 : decide (x6_1 < (t1.size : Int)) = false := decide_eq_false c5
    clear c5
    obtain rfl := Option.some.inj H
    go_wp2
    go_ret
    exact ⟨rr_, bw_⟩
   rw [if_pos c5] at H
   have c5b0 : decide (x6_1 < (t1.size : Int)) = true := decide_eq_true c5
   clear c5
   by_cases c6 : 0 ≤ x6_1
   rotate_left
   ·rw [if_neg c6] at H
    exact absurd H (by simp)
   rw [if_pos c6] at H
   have c6b0 : decide (0 ≤ x6_1) = true := decide_eq_true c6
   clear c6
   by_cases c8 : (bt t1 x6_1) = a1
   ·rw [if_pos c8] at H
    have c8b0 : ((bt t1 x6_1) == a1) = true := beq_iff_eq.mpr c8
    have c8b1 : ((bt t1 x6_1) != a1) = false := bne_eq_false_iff_eq.mpr c8
    clear c8
    obtain rfl := Option.some.inj H
    have p7 : 0 ≤ (x6_1 : Int) := od_
    have q7 : x6_1 < (t1.size : Int) := od_
    have hx7 := bt_at t1 x6_1
    replace p7 := eq_true p7
    replace q7 := eq_true q7
    go_wp2
    go_ret
    exact ⟨rr_, bw_⟩
   rw [if_neg c8] at H
   have c8b0 : ((bt t1 x6_1) == a1) = false := beq_eq_false_iff_ne.mpr c8
   have c8b1 : ((bt t1 x6_1) != a1) = true := bne_iff_ne.mpr c8
   have H' := Aside0.mk H
   clear H
   have p7 : 0 ≤ (x6_1 : Int) := od_
   have q7 : x6_1 < (t1.size : Int) := od_
   have hx7 := bt_at t1 x6_1
   replace p7 := eq_true p7
   replace q7 := eq_true q7
   go_wp2
   go_roundg k1
   case measure => have := HK1.out; omega
   case rel => exact ⟨(wrap64 (x6_1 + 1)), sd_, H', ⟨by have := HK1.out; omega⟩, ⟨bw_⟩⟩

end Go.Proofs.Ytlfbdafghpmahaa.P
