-- Written by mp.py (the session's own driver over the kit's printer) for the seat YtbgclnjnngolmaaGreatDoor.
import Derived.Test.YtbgclnjnngolmaaGreatDoorK
import Derived.Test.YtbgclnjnngolmaaGreatDoorPimplisValue
import Derived.Test.YtbgclnjnngolmaaGreatDoorPstrconvItoa
import Derived.Test.YtbgclnjnngolmaaGreatDoorEnv
namespace Go.Proofs.YtbgclnjnngolmaaGreatDoor.P
open Go.RowKit Go.Proofs.YtbgclnjnngolmaaGreatDoorW.PrintWords Go.Proofs.YtbgclnjnngolmaaGreatDoorW.PrintLast Go.Proofs.YtbgclnjnngolmaaGreatDoorW.PrintMore
attribute [local go_sem] max2_int min2_int max_two min_two max_three min_three max_four min_four
set_option linter.unusedVariables false
set_option linter.unusedSimpArgs false

/-! ### impl_Atom_text: function 48 -/
def impl_Atom_text.j0 : Nat → Bool → Int → Int → Int → Int → Option (ByteArray)
 | 0, _, _, _, _, _ => none
 | k + 1, x20, x2000, x2001, x2002, x2003 => if x20 = true then (some (⟨#[]⟩ : ByteArray)) else ((strconv_Itoa.f x2002).bind fun t5 => ((strconv_Itoa.f x2003).bind fun t6 => (if x2000 = 0 then ((strconv_Itoa.f x2001).bind fun t7 => (if t7.size + 1 ≤ 9223372036854775807 then (if (t7 ++ (⟨#[58]⟩ : ByteArray)).size + t5.size ≤ 9223372036854775807 then (if ((t7 ++ (⟨#[58]⟩ : ByteArray)) ++ t5).size + 1 ≤ 9223372036854775807 then (if (((t7 ++ (⟨#[58]⟩ : ByteArray)) ++ t5) ++ (⟨#[61]⟩ : ByteArray)).size + t6.size ≤ 9223372036854775807 then (some ((((t7 ++ (⟨#[58]⟩ : ByteArray)) ++ t5) ++ (⟨#[61]⟩ : ByteArray)) ++ t6)) else (none)) else (none)) else (none)) else (none))) else (if x2000 = 1 then (if x2001 = 0 then (if 1 + t5.size ≤ 9223372036854775807 then (if ((⟨#[91]⟩ : ByteArray) ++ t5).size + 2 ≤ 9223372036854775807 then (if (((⟨#[91]⟩ : ByteArray) ++ t5) ++ (⟨#[93, 61]⟩ : ByteArray)).size + t6.size ≤ 9223372036854775807 then (some ((((⟨#[91]⟩ : ByteArray) ++ t5) ++ (⟨#[93, 61]⟩ : ByteArray)) ++ t6)) else (none)) else (none)) else (none)) else (some (⟨#[]⟩ : ByteArray))) else (some (⟨#[]⟩ : ByteArray))))))
def impl_Atom_text.f (k : Nat) (a0_0 : Int) (a0_1 : Int) (a0_2 : Int) (a0_3 : Int) : Option (ByteArray) := (impl_isValue.f a0_1).bind fun t2 => (if t2 = true then ((impl_isValue.f a0_2).bind fun t3 => (if t3 = true then ((impl_isValue.f a0_3).bind fun t4 => (impl_Atom_text.j0 k (!t4) a0_0 a0_1 a0_2 a0_3)) else (impl_Atom_text.j0 k true a0_0 a0_1 a0_2 a0_3))) else (impl_Atom_text.j0 k true a0_0 a0_1 a0_2 a0_3))
theorem impl_Atom_text.mono_l : ∀ k, (∀ y0 y1 y2 y3 y4, LeO (impl_Atom_text.j0 k y0 y1 y2 y3 y4) (impl_Atom_text.j0 (k + 1) y0 y1 y2 y3 y4))
 | 0 => fun _ _ _ _ _ r h => by simp [impl_Atom_text.j0] at h
 | k + 1 => by
  have ih0 := impl_Atom_text.mono_l k
  ·intro y0 y1 y2 y3 y4
   unfold impl_Atom_text.j0
   repeat' first | (with_reducible first | exact ih0 _ _ _ _ _ | exact lr_ | exact ln_ | refine LeO.ite ?_ ?_ | refine LeO.bind ?_ (fun _ => ?_)) | exact ih0 _ _ _ _ _ | exact ln_ | refine LeO.ite ?_ ?_ | refine LeO.bind ?_ (fun _ => ?_)
theorem impl_Atom_text.mono : ∀ a0 a1 a2 a3 k, LeO (impl_Atom_text.f k a0 a1 a2 a3) (impl_Atom_text.f (k + 1) a0 a1 a2 a3) := by
 intro a0 a1 a2 a3 k
 have ih0 := impl_Atom_text.mono_l k
 unfold impl_Atom_text.f
 repeat' first | (with_reducible first | exact ih0 _ _ _ _ _ | exact lr_ | exact ln_ | refine LeO.ite ?_ ?_ | refine LeO.bind ?_ (fun _ => ?_)) | exact ih0 _ _ _ _ _ | exact ln_ | refine LeO.ite ?_ ?_ | refine LeO.bind ?_ (fun _ => ?_)
def impl_Atom_text.T3 : Bool × List (List Nat × List Nat) := (true, [([], []), ([0], [0]), ([1], [1]), ([], []), ([3], [3]), ([4, 2], [4]), ([2, 5, 0, 1, 2], [2]), ([5, 6, 0, 1, 2, 3, 4, 5, 6], [5])])
def impl_Atom_text.B3 : List Nat := [0, 1, 3, 0, 8, 31, 63, 127]
theorem impl_Atom_text.tab3 : rtab .any (opsOf Tryz.f48 3) = impl_Atom_text.T3 := by kernel_rfl
theorem impl_Atom_text.bits3 : waitsOk impl_Atom_text.T3.2 impl_Atom_text.B3 = true := by kernel_rfl
set_option maxHeartbeats 8000000 in
set_option maxRecDepth 100000 in
theorem impl_Atom_text.calls (k : Nat) (a0_0 : Int) (a0_1 : Int) (a0_2 : Int) (a0_3 : Int) (r : ByteArray) (w : World) (hE_ : EnvOk false w) (h : impl_Atom_text.f k a0_0 a0_1 a0_2 a0_3 = some r) :
  Calls Tryz.prog 48 #[.agg #[.int .i64 a0_0, .int .i64 a0_1, .int .i64 a0_2, .int .i64 a0_3]] w fun e w' => e = .returned (.string r) ∧ Below w.heap.size w w' := by
 have HE_ := Aside0.mk hE_
 clear hE_
 have hu46 := Tryz.underlying46
 have HB := Aside0.mk (Below.refl w.heap.size w)
 have H : ((impl_isValue.f a0_1).bind fun t2 => (if t2 = true then ((impl_isValue.f a0_2).bind fun t3 => (if t3 = true then ((impl_isValue.f a0_3).bind fun t4 => (impl_Atom_text.j0 k (!t4) a0_0 a0_1 a0_2 a0_3)) else (impl_Atom_text.j0 k true a0_0 a0_1 a0_2 a0_3))) else (impl_Atom_text.j0 k true a0_0 a0_1 a0_2 a0_3))) = some r := h
 clear h
 have HC2 := Aside0.mk H
 clear H
 go_enter Tryz.func48, Tryz.ntmps48
 go_upto_region 1 with (first | ((with_reducible refine gate_dst (N := 1) rfl ?_); refine box_event ?hg (N := 1) ?hd (cs := #[.int .i64 a0_0, .int .i64 a0_1, .int .i64 a0_2, .int .i64 a0_3]) (t := 46) ?hr ?_; (case hd => rfl); (case hg => rfl); (case hr => exact hrr_); intro gb1 hg w3 hbox hb; have n0_ := bs_ hb; have n1_ := Aside0.mk (hbox); have n2_ := ge_ (w := w) hg; have n3_ := ge_ (w := w) hg; clear HB; have HB := n0_; have BK1 := n1_; have GW1 := n2_; have GE1 := n3_; clear n0_ n1_ n2_ n3_; clear hb hbox hg))
 (try simp only [Act.put, List.setIfInBounds_toArray, List.set_cons_zero, List.set_cons_succ])
 go_cut [20] (fun v20 wc => ∃ (kq : Nat) (x20_1 : Bool), v20 = .bool x20_1 ∧ Aside0 (impl_Atom_text.j0 kq x20_1 a0_0 a0_1 a0_2 a0_3 = some r) ∧ Aside0 (kq ≤ k) ∧ Aside0 (wc.heap[gb1]? = some (.cells #[.int .i64 a0_0, .int .i64 a0_1, .int .i64 a0_2, .int .i64 a0_3] 46 (0, 0))) ∧ Aside0 (Below w.heap.size w wc))
 case first =>
  have H := HC2.out
  clear HC2
  replace H := Option.bind_eq_some_iff.mp H
  obtain ⟨t2, A40, H⟩ := H
  replace H : (if t2 = true then ((impl_isValue.f a0_2).bind fun t3 => (if t3 = true then ((impl_isValue.f a0_3).bind fun t4 => (impl_Atom_text.j0 k (!t4) a0_0 a0_1 a0_2 a0_3)) else (impl_Atom_text.j0 k true a0_0 a0_1 a0_2 a0_3))) else (impl_Atom_text.j0 k true a0_0 a0_1 a0_2 a0_3)) = some r := H
  have A4 := Aside0.mk A40
  clear A40
  by_cases c5 : t2 = true
  rotate_left
  ·replace c5 := Bool.eq_false_iff.mpr c5
   subst c5
   have H1 : (impl_Atom_text.j0 k true a0_0 a0_1 a0_2 a0_3) = some r := by rw [if_neg (show ¬ (false = true) by decide)] at H; exact H
   clear H
   have H := H1
   clear H1
   have H' := Aside0.mk H
   clear H
   obtain ⟨hcz11_0, hcz11_1, hcz11_2, hcz11_3, hfz11_0, hfz11_1, hfz11_2, hfz11_3⟩ := bc4_ BK1.out
   go_wp2_with (first | ((with_reducible refine gate_callee (f := 67) rfl ?_); refine goesL_ (some 7) rfl rfl Tryz.func67 (by kernel_rfl) rfl #[.int .i64 a0_1] rfl ar_ ?_; (with_reducible refine (impl_isValue.calls a0_1 false _ A4.out).mono ?_); rintro e w' ⟨rfl, ⟨nd, rfl⟩⟩; refine ⟨_, rfl, ?_⟩))
   go_meet
   case rel => exact ⟨_, (true), sd_, H', ⟨by first | omega | exact Nat.le_refl _⟩, ⟨bk_⟩, ⟨bw_⟩⟩
  subst c5
  have H1 : ((impl_isValue.f a0_2).bind fun t3 => (if t3 = true then ((impl_isValue.f a0_3).bind fun t4 => (impl_Atom_text.j0 k (!t4) a0_0 a0_1 a0_2 a0_3)) else (impl_Atom_text.j0 k true a0_0 a0_1 a0_2 a0_3))) = some r := by rw [if_pos rfl] at H; exact H
  clear H
  have H := H1
  clear H1
  replace H := Option.bind_eq_some_iff.mp H
  obtain ⟨t3, A60, H⟩ := H
  replace H : (if t3 = true then ((impl_isValue.f a0_3).bind fun t4 => (impl_Atom_text.j0 k (!t4) a0_0 a0_1 a0_2 a0_3)) else (impl_Atom_text.j0 k true a0_0 a0_1 a0_2 a0_3)) = some r := H
  have A6 := Aside0.mk A60
  clear A60
  by_cases c7 : t3 = true
  rotate_left
  ·replace c7 := Bool.eq_false_iff.mpr c7
   subst c7
   have H1 : (impl_Atom_text.j0 k true a0_0 a0_1 a0_2 a0_3) = some r := by rw [if_neg (show ¬ (false = true) by decide)] at H; exact H
   clear H
   have H := H1
   clear H1
   have H' := Aside0.mk H
   clear H
   obtain ⟨hcz10_0, hcz10_1, hcz10_2, hcz10_3, hfz10_0, hfz10_1, hfz10_2, hfz10_3⟩ := bc4_ BK1.out
   go_wp2_with (first | ((with_reducible refine gate_callee (f := 67) rfl ?_); refine goesL_ (some 7) rfl rfl Tryz.func67 (by kernel_rfl) rfl #[.int .i64 a0_1] rfl ar_ ?_; (with_reducible refine (impl_isValue.calls a0_1 true _ A4.out).mono ?_); rintro e w' ⟨rfl, ⟨nd, rfl⟩⟩; refine ⟨_, rfl, ?_⟩) | (go_at_call 67; (with_reducible refine (impl_isValue.calls a0_2 false _ A6.out).mono ?_); rintro e w' ⟨rfl, ⟨nd, rfl⟩⟩))
   go_meet
   case rel => exact ⟨_, (true), sd_, H', ⟨by first | omega | exact Nat.le_refl _⟩, ⟨bk_⟩, ⟨bw_⟩⟩
  subst c7
  have H1 : ((impl_isValue.f a0_3).bind fun t4 => (impl_Atom_text.j0 k (!t4) a0_0 a0_1 a0_2 a0_3)) = some r := by rw [if_pos rfl] at H; exact H
  clear H
  have H := H1
  clear H1
  replace H := Option.bind_eq_some_iff.mp H
  obtain ⟨t4, A80, H⟩ := H
  replace H : (impl_Atom_text.j0 k (!t4) a0_0 a0_1 a0_2 a0_3) = some r := H
  have A8 := Aside0.mk A80
  clear A80
  have H' := Aside0.mk H
  clear H
  obtain ⟨hcz9_0, hcz9_1, hcz9_2, hcz9_3, hfz9_0, hfz9_1, hfz9_2, hfz9_3⟩ := bc4_ BK1.out
  go_wp2_with (first | ((with_reducible refine gate_callee (f := 67) rfl ?_); refine goesL_ (some 7) rfl rfl Tryz.func67 (by kernel_rfl) rfl #[.int .i64 a0_1] rfl ar_ ?_; (with_reducible refine (impl_isValue.calls a0_1 true _ A4.out).mono ?_); rintro e w' ⟨rfl, ⟨nd, rfl⟩⟩; refine ⟨_, rfl, ?_⟩) | (go_at_call 67; (with_reducible refine (impl_isValue.calls a0_2 true _ A6.out).mono ?_); rintro e w' ⟨rfl, ⟨nd, rfl⟩⟩) | (go_at_call 67; (with_reducible refine (impl_isValue.calls a0_3 t4 _ A8.out).mono ?_); rintro e w' ⟨rfl, ⟨nd, rfl⟩⟩))
  go_meet
  case rel => exact ⟨_, (!t4), sd_, H', ⟨by first | omega | exact Nat.le_refl _⟩, ⟨bk_⟩, ⟨bw_⟩⟩
 case rest =>
  clear HC2
  try clear p2
  try clear c4
  try clear c5
  try clear c6
  try clear c7
  try clear hcz10_0 hcz10_1 hcz10_2 hcz10_3
  try clear hcz11_0 hcz11_1 hcz11_2 hcz11_3
  try clear hcz9_0 hcz9_1 hcz9_2 hcz9_3
  try clear hfz10_0 hfz10_1 hfz10_2 hfz10_3
  try clear hfz11_0 hfz11_1 hfz11_2 hfz11_3
  try clear hfz9_0 hfz9_1 hfz9_2 hfz9_3
  obtain ⟨kq, x20_1, rfl, HA, HJ1, BK1, HB⟩ := hcut
  cases kq with
  | zero => exact absurd HA.out (by simp [impl_Atom_text.j0])
  | succ kj1 =>
   have H := HA.out
   clear HA
   simp only [impl_Atom_text.j0] at H
   by_cases c12 : x20_1 = true
   ·subst c12
    have H1 : (some (⟨#[]⟩ : ByteArray)) = some r := by rw [if_pos rfl] at H; exact H
    clear H
    have H := H1
    clear H1
    obtain rfl := Option.some.inj H
    go_wp2
    go_ret
    exact ⟨rr_, bw_⟩
   replace c12 := Bool.eq_false_iff.mpr c12
   subst c12
   have H1 : ((strconv_Itoa.f a0_2).bind fun t5 => ((strconv_Itoa.f a0_3).bind fun t6 => (if a0_0 = 0 then ((strconv_Itoa.f a0_1).bind fun t7 => (if t7.size + 1 ≤ 9223372036854775807 then (if (t7 ++ (⟨#[58]⟩ : ByteArray)).size + t5.size ≤ 9223372036854775807 then (if ((t7 ++ (⟨#[58]⟩ : ByteArray)) ++ t5).size + 1 ≤ 9223372036854775807 then (if (((t7 ++ (⟨#[58]⟩ : ByteArray)) ++ t5) ++ (⟨#[61]⟩ : ByteArray)).size + t6.size ≤ 9223372036854775807 then (some ((((t7 ++ (⟨#[58]⟩ : ByteArray)) ++ t5) ++ (⟨#[61]⟩ : ByteArray)) ++ t6)) else (none)) else (none)) else (none)) else (none))) else (if a0_0 = 1 then (if a0_1 = 0 then (if 1 + t5.size ≤ 9223372036854775807 then (if ((⟨#[91]⟩ : ByteArray) ++ t5).size + 2 ≤ 9223372036854775807 then (if (((⟨#[91]⟩ : ByteArray) ++ t5) ++ (⟨#[93, 61]⟩ : ByteArray)).size + t6.size ≤ 9223372036854775807 then (some ((((⟨#[91]⟩ : ByteArray) ++ t5) ++ (⟨#[93, 61]⟩ : ByteArray)) ++ t6)) else (none)) else (none)) else (none)) else (some (⟨#[]⟩ : ByteArray))) else (some (⟨#[]⟩ : ByteArray)))))) = some r := by rw [if_neg (show ¬ (false = true) by decide)] at H; exact H
   clear H
   have H := H1
   clear H1
   replace H := Option.bind_eq_some_iff.mp H
   obtain ⟨t5, A130, H⟩ := H
   replace H : ((strconv_Itoa.f a0_3).bind fun t6 => (if a0_0 = 0 then ((strconv_Itoa.f a0_1).bind fun t7 => (if t7.size + 1 ≤ 9223372036854775807 then (if (t7 ++ (⟨#[58]⟩ : ByteArray)).size + t5.size ≤ 9223372036854775807 then (if ((t7 ++ (⟨#[58]⟩ : ByteArray)) ++ t5).size + 1 ≤ 9223372036854775807 then (if (((t7 ++ (⟨#[58]⟩ : ByteArray)) ++ t5) ++ (⟨#[61]⟩ : ByteArray)).size + t6.size ≤ 9223372036854775807 then (some ((((t7 ++ (⟨#[58]⟩ : ByteArray)) ++ t5) ++ (⟨#[61]⟩ : ByteArray)) ++ t6)) else (none)) else (none)) else (none)) else (none))) else (if a0_0 = 1 then (if a0_1 = 0 then (if 1 + t5.size ≤ 9223372036854775807 then (if ((⟨#[91]⟩ : ByteArray) ++ t5).size + 2 ≤ 9223372036854775807 then (if (((⟨#[91]⟩ : ByteArray) ++ t5) ++ (⟨#[93, 61]⟩ : ByteArray)).size + t6.size ≤ 9223372036854775807 then (some ((((⟨#[91]⟩ : ByteArray) ++ t5) ++ (⟨#[93, 61]⟩ : ByteArray)) ++ t6)) else (none)) else (none)) else (none)) else (some (⟨#[]⟩ : ByteArray))) else (some (⟨#[]⟩ : ByteArray))))) = some r := H
   have A13 := Aside0.mk A130
   clear A130
   replace H := Option.bind_eq_some_iff.mp H
   obtain ⟨t6, A140, H⟩ := H
   replace H : (if a0_0 = 0 then ((strconv_Itoa.f a0_1).bind fun t7 => (if t7.size + 1 ≤ 9223372036854775807 then (if (t7 ++ (⟨#[58]⟩ : ByteArray)).size + t5.size ≤ 9223372036854775807 then (if ((t7 ++ (⟨#[58]⟩ : ByteArray)) ++ t5).size + 1 ≤ 9223372036854775807 then (if (((t7 ++ (⟨#[58]⟩ : ByteArray)) ++ t5) ++ (⟨#[61]⟩ : ByteArray)).size + t6.size ≤ 9223372036854775807 then (some ((((t7 ++ (⟨#[58]⟩ : ByteArray)) ++ t5) ++ (⟨#[61]⟩ : ByteArray)) ++ t6)) else (none)) else (none)) else (none)) else (none))) else (if a0_0 = 1 then (if a0_1 = 0 then (if 1 + t5.size ≤ 9223372036854775807 then (if ((⟨#[91]⟩ : ByteArray) ++ t5).size + 2 ≤ 9223372036854775807 then (if (((⟨#[91]⟩ : ByteArray) ++ t5) ++ (⟨#[93, 61]⟩ : ByteArray)).size + t6.size ≤ 9223372036854775807 then (some ((((⟨#[91]⟩ : ByteArray) ++ t5) ++ (⟨#[93, 61]⟩ : ByteArray)) ++ t6)) else (none)) else (none)) else (none)) else (some (⟨#[]⟩ : ByteArray))) else (some (⟨#[]⟩ : ByteArray)))) = some r := H
   have A14 := Aside0.mk A140
   clear A140
   by_cases c15 : a0_0 = 0
   ·rw [if_pos c15] at H
    have c15b0 : (a0_0 == 0) = true := beq_iff_eq.mpr c15
    have c15b1 : (a0_0 != 0) = false := bne_eq_false_iff_eq.mpr c15
    clear c15
    replace H := Option.bind_eq_some_iff.mp H
    obtain ⟨t7, A160, H⟩ := H
    replace H : (if t7.size + 1 ≤ 9223372036854775807 then (if (t7 ++ (⟨#[58]⟩ : ByteArray)).size + t5.size ≤ 9223372036854775807 then (if ((t7 ++ (⟨#[58]⟩ : ByteArray)) ++ t5).size + 1 ≤ 9223372036854775807 then (if (((t7 ++ (⟨#[58]⟩ : ByteArray)) ++ t5) ++ (⟨#[61]⟩ : ByteArray)).size + t6.size ≤ 9223372036854775807 then (some ((((t7 ++ (⟨#[58]⟩ : ByteArray)) ++ t5) ++ (⟨#[61]⟩ : ByteArray)) ++ t6)) else (none)) else (none)) else (none)) else (none)) = some r := H
    have A16 := Aside0.mk A160
    clear A160
    by_cases c17 : t7.size + 1 ≤ 9223372036854775807
    rotate_left
    ·rw [if_neg c17] at H
     exact absurd H (by simp)
    rw [if_pos c17] at H
    have c17b0 := eq_true c17
    have c17b1 : decide (t7.size + 1 ≤ 9223372036854775807) = true := decide_eq_true c17
    try have c17b2 : (9223372036854775807 < t7.size + 1) = False := eq_false (Nat.not_lt.2 c17)
    by_cases c18 : (t7 ++ (⟨#[58]⟩ : ByteArray)).size + t5.size ≤ 9223372036854775807
    rotate_left
    ·rw [if_neg c18] at H
     exact absurd H (by simp)
    rw [if_pos c18] at H
    have c18b0 := eq_true c18
    have c18z0 := eq_true (show (t7.size + 1) + t5.size ≤ 9223372036854775807 by have h_ := c18; simp only [ByteArray.size_append] at h_; exact h_)
    have c18z2 : (9223372036854775807 < (t7.size + 1) + t5.size) = False := eq_false (Nat.not_lt.2 (show (t7.size + 1) + t5.size ≤ 9223372036854775807 by have h_ := c18; simp only [ByteArray.size_append] at h_; exact h_))
    have c18b1 : decide ((t7 ++ (⟨#[58]⟩ : ByteArray)).size + t5.size ≤ 9223372036854775807) = true := decide_eq_true c18
    try have c18b2 : (9223372036854775807 < (t7 ++ (⟨#[58]⟩ : ByteArray)).size + t5.size) = False := eq_false (Nat.not_lt.2 c18)
    by_cases c19 : ((t7 ++ (⟨#[58]⟩ : ByteArray)) ++ t5).size + 1 ≤ 9223372036854775807
    rotate_left
    ·rw [if_neg c19] at H
     exact absurd H (by simp)
    rw [if_pos c19] at H
    have c19b0 := eq_true c19
    have c19z0 := eq_true (show (t7.size + 1 + t5.size) + 1 ≤ 9223372036854775807 by have h_ := c19; simp only [ByteArray.size_append] at h_; exact h_)
    have c19z2 : (9223372036854775807 < (t7.size + 1 + t5.size) + 1) = False := eq_false (Nat.not_lt.2 (show (t7.size + 1 + t5.size) + 1 ≤ 9223372036854775807 by have h_ := c19; simp only [ByteArray.size_append] at h_; exact h_))
    have c19b1 : decide (((t7 ++ (⟨#[58]⟩ : ByteArray)) ++ t5).size + 1 ≤ 9223372036854775807) = true := decide_eq_true c19
    try have c19b2 : (9223372036854775807 < ((t7 ++ (⟨#[58]⟩ : ByteArray)) ++ t5).size + 1) = False := eq_false (Nat.not_lt.2 c19)
    by_cases c20 : (((t7 ++ (⟨#[58]⟩ : ByteArray)) ++ t5) ++ (⟨#[61]⟩ : ByteArray)).size + t6.size ≤ 9223372036854775807
    rotate_left
    ·rw [if_neg c20] at H
     exact absurd H (by simp)
    rw [if_pos c20] at H
    have c20b0 := eq_true c20
    have c20z0 := eq_true (show (t7.size + 1 + t5.size + 1) + t6.size ≤ 9223372036854775807 by have h_ := c20; simp only [ByteArray.size_append] at h_; exact h_)
    have c20z2 : (9223372036854775807 < (t7.size + 1 + t5.size + 1) + t6.size) = False := eq_false (Nat.not_lt.2 (show (t7.size + 1 + t5.size + 1) + t6.size ≤ 9223372036854775807 by have h_ := c20; simp only [ByteArray.size_append] at h_; exact h_))
    have c20b1 : decide ((((t7 ++ (⟨#[58]⟩ : ByteArray)) ++ t5) ++ (⟨#[61]⟩ : ByteArray)).size + t6.size ≤ 9223372036854775807) = true := decide_eq_true c20
    try have c20b2 : (9223372036854775807 < (((t7 ++ (⟨#[58]⟩ : ByteArray)) ++ t5) ++ (⟨#[61]⟩ : ByteArray)).size + t6.size) = False := eq_false (Nat.not_lt.2 c20)
    obtain rfl := Option.some.inj H
    try go_wp2
    have n0_ := Aside0.mk (blk_drew BK1.out)
    have n1_ := Aside0.mk (below_drew1 HB.out)
    clear BK1
    clear HB
    have BK1 := n0_
    have HB := n1_
    clear n0_ n1_
    refine start_ (n := 8) (S := fun w' => w'.cell? ⟨gb1, 0, none⟩ = some (.int .i64 a0_0) ∧ w'.cell? ⟨gb1, 1, none⟩ = some (.int .i64 a0_1) ∧ w'.cell? ⟨gb1, 2, none⟩ = some (.int .i64 a0_2) ∧ w'.cell? ⟨gb1, 3, none⟩ = some (.int .i64 a0_3)) (ds := []) #[false, false, false, false, false, false, false, false] (by kernel_rfl) rfl rfl ⟨(blk_cell BK1.out 0).trans rfl, (blk_cell BK1.out 1).trans rfl, (blk_cell BK1.out 2).trans rfl, (blk_cell BK1.out 3).trans rfl⟩ (fun hHeld => ?_); refine with_tabW impl_Atom_text.tab3 impl_Atom_text.bits3 (fun HT_ HW_ => ?_)
    generalize wc.drew = w21 at BK1 HB hHeld ⊢
    refine pure_ (i := 0) (N := some 21) (bm_ 8 1) rfl rfl (any_of HT_.out kr_) (fun _ _ _ h => h) (Or.inl ⟨rfl, yi_⟩) pu_ ?_
    refine pure_ (i := 3) (N := some 24) (bm_ 8 9) rfl rfl (any_of HT_.out kr_) (fun _ _ _ h => h) (Or.inl ⟨rfl, yi_⟩) pu_ ?_
    refine take_ (i := 1) (N := some 22) (v := ?_) (a' := ?_) (bm_ 8 11) rfl rfl (take_ofW HT_.out HW_.out (by kernel_rfl)) (fun _ _ _ h => h) (Or.inl ⟨by rfl, ?_⟩) hHeld ?_ ?_
    rotate_left
    ·rintro w' ⟨s0, s1, s2, s3⟩
     go_simp
     with_reducible rfl
    rotate_left
    ·exact pu_
    refine take_ (i := 4) (N := some 25) (v := ?_) (a' := ?_) (bm_ 8 27) rfl rfl (take_ofW HT_.out HW_.out (by kernel_rfl)) (fun _ _ _ h => h) (Or.inl ⟨by rfl, ?_⟩) hHeld ?_ ?_
    rotate_left
    ·rintro w' ⟨s0, s1, s2, s3⟩
     go_simp
     with_reducible rfl
    rotate_left
    ·exact pu_
    refine one_ (i := 2) (N := some 23) (bm_ 8 31) rfl rfl (one_of HT_.out (by kernel_rfl)) (by decide) (fun K hK => ?_)
    refine goes_ Tryz.func57 (by kernel_rfl) rfl #[.int .i64 a0_2] (by rfl) rfl rfl ar_ ?_
    with_reducible refine (strconv_Itoa.calls (hE_ := ee_) a0_2 t5 _ A13.out).mono ?_
    rintro e w22 ⟨rfl, hb⟩
    refine ⟨_, rfl, ?_⟩
    have n0_ := bb_ BK1.out hb
    have n1_ := bs_ hb
    clear BK1
    clear HB
    have BK1 := n0_
    have HB := n1_
    clear n0_ n1_
    (try clear hb)
    (try clear hb2)
    (try clear hk)
    (try clear hi)
    refine hK.out _ _ ⟨(blk_cell BK1.out 0).trans rfl, (blk_cell BK1.out 1).trans rfl, (blk_cell BK1.out 2).trans rfl, (blk_cell BK1.out 3).trans rfl⟩ (fun hHeld => ?_)
    clear hK K
    refine norm_ (a' := ?_) ?_ ?_
    rotate_left
    ·show Act.put _ (some 23) _ = _
     simp only [Act.put, List.setIfInBounds_toArray, List.set_cons_zero, List.set_cons_succ, i64_w, i32_w]
     rfl
    refine one_ (i := 5) (N := some 26) (bm_ 8 63) rfl rfl (one_of HT_.out (by kernel_rfl)) (by decide) (fun K hK => ?_)
    refine goes_ Tryz.func57 (by kernel_rfl) rfl #[.int .i64 a0_3] (by rfl) rfl rfl ar_ ?_
    with_reducible refine (strconv_Itoa.calls (hE_ := ee_) a0_3 t6 _ A14.out).mono ?_
    rintro e w23 ⟨rfl, hb⟩
    refine ⟨_, rfl, ?_⟩
    have n0_ := bb_ BK1.out hb
    have n1_ := bs_ hb
    clear BK1
    clear HB
    have BK1 := n0_
    have HB := n1_
    clear n0_ n1_
    (try clear hb)
    (try clear hb2)
    (try clear hk)
    (try clear hi)
    refine hK.out _ _ ⟨(blk_cell BK1.out 0).trans rfl, (blk_cell BK1.out 1).trans rfl, (blk_cell BK1.out 2).trans rfl, (blk_cell BK1.out 3).trans rfl⟩ (fun hHeld => ?_)
    clear hK K
    refine norm_ (a' := ?_) ?_ ?_
    rotate_left
    ·show Act.put _ (some 26) _ = _
     simp only [Act.put, List.setIfInBounds_toArray, List.set_cons_zero, List.set_cons_succ, i64_w, i32_w]
     rfl
    refine pure_ (i := 6) (N := some 3) (bm_ 8 127) rfl rfl (any_of HT_.out kr_) (fun _ _ _ h => h) (Or.inl ⟨rfl, yi_⟩) pu_ ?_
    refine pure_ (i := 7) (N := some 4) (bm_ 8 255) rfl rfl (any_of HT_.out kr_) (fun _ _ _ h => h) (Or.inl ⟨rfl, yi_⟩) pu_ ?_
    refine done_ (done_of HT_.out (by kernel_rfl)) ?_
    obtain ⟨hcz24_0, hcz24_1, hcz24_2, hcz24_3, hfz24_0, hfz24_1, hfz24_2, hfz24_3⟩ := bc4_ BK1.out
    try go_wp2_with (first | ((with_reducible refine gate_callee (f := 57) rfl ?_); refine goesL_ (some 33) rfl rfl Tryz.func57 (by kernel_rfl) rfl #[.int .i64 a0_1] rfl ar_ ?_; (with_reducible refine (strconv_Itoa.calls (hE_ := ee_) a0_1 t7 _ A16.out).mono ?_); rintro e w25 ⟨rfl, hb⟩; refine ⟨_, rfl, ?_⟩; have n0_ := bb_ BK1.out hb; have n1_ := bs_ hb; clear BK1; clear HB; have BK1 := n0_; have HB := n1_; clear n0_ n1_; (try clear hb); (try clear hb2); (try clear hk); (try clear hi)))
    go_ret
    exact ⟨rr_, bw_⟩
   rw [if_neg c15] at H
   have c15b0 : (a0_0 == 0) = false := beq_eq_false_iff_ne.mpr c15
   have c15b1 : (a0_0 != 0) = true := bne_iff_ne.mpr c15
   by_cases c26 : a0_0 = 1
   rotate_left
   ·rw [if_neg c26] at H
    have c26b0 : (a0_0 == 1) = false := beq_eq_false_iff_ne.mpr c26
    have c26b1 : (a0_0 != 1) = true := bne_iff_ne.mpr c26
    obtain rfl := Option.some.inj H
    try go_wp2
    have n0_ := Aside0.mk (blk_drew BK1.out)
    have n1_ := Aside0.mk (below_drew1 HB.out)
    clear BK1
    clear HB
    have BK1 := n0_
    have HB := n1_
    clear n0_ n1_
    refine start_ (n := 8) (S := fun w' => w'.cell? ⟨gb1, 0, none⟩ = some (.int .i64 a0_0) ∧ w'.cell? ⟨gb1, 1, none⟩ = some (.int .i64 a0_1) ∧ w'.cell? ⟨gb1, 2, none⟩ = some (.int .i64 a0_2) ∧ w'.cell? ⟨gb1, 3, none⟩ = some (.int .i64 a0_3)) (ds := []) #[false, false, false, false, false, false, false, false] (by kernel_rfl) rfl rfl ⟨(blk_cell BK1.out 0).trans rfl, (blk_cell BK1.out 1).trans rfl, (blk_cell BK1.out 2).trans rfl, (blk_cell BK1.out 3).trans rfl⟩ (fun hHeld => ?_); refine with_tabW impl_Atom_text.tab3 impl_Atom_text.bits3 (fun HT_ HW_ => ?_)
    generalize wc.drew = w39 at BK1 HB hHeld ⊢
    refine pure_ (i := 0) (N := some 21) (bm_ 8 1) rfl rfl (any_of HT_.out kr_) (fun _ _ _ h => h) (Or.inl ⟨rfl, yi_⟩) pu_ ?_
    refine pure_ (i := 3) (N := some 24) (bm_ 8 9) rfl rfl (any_of HT_.out kr_) (fun _ _ _ h => h) (Or.inl ⟨rfl, yi_⟩) pu_ ?_
    refine take_ (i := 1) (N := some 22) (v := ?_) (a' := ?_) (bm_ 8 11) rfl rfl (take_ofW HT_.out HW_.out (by kernel_rfl)) (fun _ _ _ h => h) (Or.inl ⟨by rfl, ?_⟩) hHeld ?_ ?_
    rotate_left
    ·rintro w' ⟨s0, s1, s2, s3⟩
     go_simp
     with_reducible rfl
    rotate_left
    ·exact pu_
    refine take_ (i := 4) (N := some 25) (v := ?_) (a' := ?_) (bm_ 8 27) rfl rfl (take_ofW HT_.out HW_.out (by kernel_rfl)) (fun _ _ _ h => h) (Or.inl ⟨by rfl, ?_⟩) hHeld ?_ ?_
    rotate_left
    ·rintro w' ⟨s0, s1, s2, s3⟩
     go_simp
     with_reducible rfl
    rotate_left
    ·exact pu_
    refine one_ (i := 2) (N := some 23) (bm_ 8 31) rfl rfl (one_of HT_.out (by kernel_rfl)) (by decide) (fun K hK => ?_)
    refine goes_ Tryz.func57 (by kernel_rfl) rfl #[.int .i64 a0_2] (by rfl) rfl rfl ar_ ?_
    with_reducible refine (strconv_Itoa.calls (hE_ := ee_) a0_2 t5 _ A13.out).mono ?_
    rintro e w40 ⟨rfl, hb⟩
    refine ⟨_, rfl, ?_⟩
    have n0_ := bb_ BK1.out hb
    have n1_ := bs_ hb
    clear BK1
    clear HB
    have BK1 := n0_
    have HB := n1_
    clear n0_ n1_
    (try clear hb)
    (try clear hb2)
    (try clear hk)
    (try clear hi)
    refine hK.out _ _ ⟨(blk_cell BK1.out 0).trans rfl, (blk_cell BK1.out 1).trans rfl, (blk_cell BK1.out 2).trans rfl, (blk_cell BK1.out 3).trans rfl⟩ (fun hHeld => ?_)
    clear hK K
    refine norm_ (a' := ?_) ?_ ?_
    rotate_left
    ·show Act.put _ (some 23) _ = _
     simp only [Act.put, List.setIfInBounds_toArray, List.set_cons_zero, List.set_cons_succ, i64_w, i32_w]
     rfl
    refine one_ (i := 5) (N := some 26) (bm_ 8 63) rfl rfl (one_of HT_.out (by kernel_rfl)) (by decide) (fun K hK => ?_)
    refine goes_ Tryz.func57 (by kernel_rfl) rfl #[.int .i64 a0_3] (by rfl) rfl rfl ar_ ?_
    with_reducible refine (strconv_Itoa.calls (hE_ := ee_) a0_3 t6 _ A14.out).mono ?_
    rintro e w41 ⟨rfl, hb⟩
    refine ⟨_, rfl, ?_⟩
    have n0_ := bb_ BK1.out hb
    have n1_ := bs_ hb
    clear BK1
    clear HB
    have BK1 := n0_
    have HB := n1_
    clear n0_ n1_
    (try clear hb)
    (try clear hb2)
    (try clear hk)
    (try clear hi)
    refine hK.out _ _ ⟨(blk_cell BK1.out 0).trans rfl, (blk_cell BK1.out 1).trans rfl, (blk_cell BK1.out 2).trans rfl, (blk_cell BK1.out 3).trans rfl⟩ (fun hHeld => ?_)
    clear hK K
    refine norm_ (a' := ?_) ?_ ?_
    rotate_left
    ·show Act.put _ (some 26) _ = _
     simp only [Act.put, List.setIfInBounds_toArray, List.set_cons_zero, List.set_cons_succ, i64_w, i32_w]
     rfl
    refine pure_ (i := 6) (N := some 3) (bm_ 8 127) rfl rfl (any_of HT_.out kr_) (fun _ _ _ h => h) (Or.inl ⟨rfl, yi_⟩) pu_ ?_
    refine pure_ (i := 7) (N := some 4) (bm_ 8 255) rfl rfl (any_of HT_.out kr_) (fun _ _ _ h => h) (Or.inl ⟨rfl, yi_⟩) pu_ ?_
    refine done_ (done_of HT_.out (by kernel_rfl)) ?_
    obtain ⟨hcz42_0, hcz42_1, hcz42_2, hcz42_3, hfz42_0, hfz42_1, hfz42_2, hfz42_3⟩ := bc4_ BK1.out
    try go_wp2
    go_ret
    exact ⟨rr_, bw_⟩
   rw [if_pos c26] at H
   have c26b0 : (a0_0 == 1) = true := beq_iff_eq.mpr c26
   have c26b1 : (a0_0 != 1) = false := bne_eq_false_iff_eq.mpr c26
   clear c26
   by_cases c27 : a0_1 = 0
   rotate_left
   ·rw [if_neg c27] at H
    have c27b0 : (a0_1 == 0) = false := beq_eq_false_iff_ne.mpr c27
    have c27b1 : (a0_1 != 0) = true := bne_iff_ne.mpr c27
    obtain rfl := Option.some.inj H
    try go_wp2
    have n0_ := Aside0.mk (blk_drew BK1.out)
    have n1_ := Aside0.mk (below_drew1 HB.out)
    clear BK1
    clear HB
    have BK1 := n0_
    have HB := n1_
    clear n0_ n1_
    refine start_ (n := 8) (S := fun w' => w'.cell? ⟨gb1, 0, none⟩ = some (.int .i64 a0_0) ∧ w'.cell? ⟨gb1, 1, none⟩ = some (.int .i64 a0_1) ∧ w'.cell? ⟨gb1, 2, none⟩ = some (.int .i64 a0_2) ∧ w'.cell? ⟨gb1, 3, none⟩ = some (.int .i64 a0_3)) (ds := []) #[false, false, false, false, false, false, false, false] (by kernel_rfl) rfl rfl ⟨(blk_cell BK1.out 0).trans rfl, (blk_cell BK1.out 1).trans rfl, (blk_cell BK1.out 2).trans rfl, (blk_cell BK1.out 3).trans rfl⟩ (fun hHeld => ?_); refine with_tabW impl_Atom_text.tab3 impl_Atom_text.bits3 (fun HT_ HW_ => ?_)
    generalize wc.drew = w35 at BK1 HB hHeld ⊢
    refine pure_ (i := 0) (N := some 21) (bm_ 8 1) rfl rfl (any_of HT_.out kr_) (fun _ _ _ h => h) (Or.inl ⟨rfl, yi_⟩) pu_ ?_
    refine pure_ (i := 3) (N := some 24) (bm_ 8 9) rfl rfl (any_of HT_.out kr_) (fun _ _ _ h => h) (Or.inl ⟨rfl, yi_⟩) pu_ ?_
    refine take_ (i := 1) (N := some 22) (v := ?_) (a' := ?_) (bm_ 8 11) rfl rfl (take_ofW HT_.out HW_.out (by kernel_rfl)) (fun _ _ _ h => h) (Or.inl ⟨by rfl, ?_⟩) hHeld ?_ ?_
    rotate_left
    ·rintro w' ⟨s0, s1, s2, s3⟩
     go_simp
     with_reducible rfl
    rotate_left
    ·exact pu_
    refine take_ (i := 4) (N := some 25) (v := ?_) (a' := ?_) (bm_ 8 27) rfl rfl (take_ofW HT_.out HW_.out (by kernel_rfl)) (fun _ _ _ h => h) (Or.inl ⟨by rfl, ?_⟩) hHeld ?_ ?_
    rotate_left
    ·rintro w' ⟨s0, s1, s2, s3⟩
     go_simp
     with_reducible rfl
    rotate_left
    ·exact pu_
    refine one_ (i := 2) (N := some 23) (bm_ 8 31) rfl rfl (one_of HT_.out (by kernel_rfl)) (by decide) (fun K hK => ?_)
    refine goes_ Tryz.func57 (by kernel_rfl) rfl #[.int .i64 a0_2] (by rfl) rfl rfl ar_ ?_
    with_reducible refine (strconv_Itoa.calls (hE_ := ee_) a0_2 t5 _ A13.out).mono ?_
    rintro e w36 ⟨rfl, hb⟩
    refine ⟨_, rfl, ?_⟩
    have n0_ := bb_ BK1.out hb
    have n1_ := bs_ hb
    clear BK1
    clear HB
    have BK1 := n0_
    have HB := n1_
    clear n0_ n1_
    (try clear hb)
    (try clear hb2)
    (try clear hk)
    (try clear hi)
    refine hK.out _ _ ⟨(blk_cell BK1.out 0).trans rfl, (blk_cell BK1.out 1).trans rfl, (blk_cell BK1.out 2).trans rfl, (blk_cell BK1.out 3).trans rfl⟩ (fun hHeld => ?_)
    clear hK K
    refine norm_ (a' := ?_) ?_ ?_
    rotate_left
    ·show Act.put _ (some 23) _ = _
     simp only [Act.put, List.setIfInBounds_toArray, List.set_cons_zero, List.set_cons_succ, i64_w, i32_w]
     rfl
    refine one_ (i := 5) (N := some 26) (bm_ 8 63) rfl rfl (one_of HT_.out (by kernel_rfl)) (by decide) (fun K hK => ?_)
    refine goes_ Tryz.func57 (by kernel_rfl) rfl #[.int .i64 a0_3] (by rfl) rfl rfl ar_ ?_
    with_reducible refine (strconv_Itoa.calls (hE_ := ee_) a0_3 t6 _ A14.out).mono ?_
    rintro e w37 ⟨rfl, hb⟩
    refine ⟨_, rfl, ?_⟩
    have n0_ := bb_ BK1.out hb
    have n1_ := bs_ hb
    clear BK1
    clear HB
    have BK1 := n0_
    have HB := n1_
    clear n0_ n1_
    (try clear hb)
    (try clear hb2)
    (try clear hk)
    (try clear hi)
    refine hK.out _ _ ⟨(blk_cell BK1.out 0).trans rfl, (blk_cell BK1.out 1).trans rfl, (blk_cell BK1.out 2).trans rfl, (blk_cell BK1.out 3).trans rfl⟩ (fun hHeld => ?_)
    clear hK K
    refine norm_ (a' := ?_) ?_ ?_
    rotate_left
    ·show Act.put _ (some 26) _ = _
     simp only [Act.put, List.setIfInBounds_toArray, List.set_cons_zero, List.set_cons_succ, i64_w, i32_w]
     rfl
    refine pure_ (i := 6) (N := some 3) (bm_ 8 127) rfl rfl (any_of HT_.out kr_) (fun _ _ _ h => h) (Or.inl ⟨rfl, yi_⟩) pu_ ?_
    refine pure_ (i := 7) (N := some 4) (bm_ 8 255) rfl rfl (any_of HT_.out kr_) (fun _ _ _ h => h) (Or.inl ⟨rfl, yi_⟩) pu_ ?_
    refine done_ (done_of HT_.out (by kernel_rfl)) ?_
    obtain ⟨hcz38_0, hcz38_1, hcz38_2, hcz38_3, hfz38_0, hfz38_1, hfz38_2, hfz38_3⟩ := bc4_ BK1.out
    try go_wp2
    go_ret
    exact ⟨rr_, bw_⟩
   rw [if_pos c27] at H
   have c27b0 : (a0_1 == 0) = true := beq_iff_eq.mpr c27
   have c27b1 : (a0_1 != 0) = false := bne_eq_false_iff_eq.mpr c27
   clear c27
   by_cases c28 : 1 + t5.size ≤ 9223372036854775807
   rotate_left
   ·rw [if_neg c28] at H
    exact absurd H (by simp)
   rw [if_pos c28] at H
   have c28b0 := eq_true c28
   have c28b1 : decide (1 + t5.size ≤ 9223372036854775807) = true := decide_eq_true c28
   try have c28b2 : (9223372036854775807 < 1 + t5.size) = False := eq_false (Nat.not_lt.2 c28)
   by_cases c29 : ((⟨#[91]⟩ : ByteArray) ++ t5).size + 2 ≤ 9223372036854775807
   rotate_left
   ·rw [if_neg c29] at H
    exact absurd H (by simp)
   rw [if_pos c29] at H
   have c29b0 := eq_true c29
   have c29z0 := eq_true (show (1 + t5.size) + 2 ≤ 9223372036854775807 by have h_ := c29; simp only [ByteArray.size_append] at h_; exact h_)
   have c29z2 : (9223372036854775807 < (1 + t5.size) + 2) = False := eq_false (Nat.not_lt.2 (show (1 + t5.size) + 2 ≤ 9223372036854775807 by have h_ := c29; simp only [ByteArray.size_append] at h_; exact h_))
   have c29b1 : decide (((⟨#[91]⟩ : ByteArray) ++ t5).size + 2 ≤ 9223372036854775807) = true := decide_eq_true c29
   try have c29b2 : (9223372036854775807 < ((⟨#[91]⟩ : ByteArray) ++ t5).size + 2) = False := eq_false (Nat.not_lt.2 c29)
   by_cases c30 : (((⟨#[91]⟩ : ByteArray) ++ t5) ++ (⟨#[93, 61]⟩ : ByteArray)).size + t6.size ≤ 9223372036854775807
   rotate_left
   ·rw [if_neg c30] at H
    exact absurd H (by simp)
   rw [if_pos c30] at H
   have c30b0 := eq_true c30
   have c30z0 := eq_true (show (1 + t5.size + 2) + t6.size ≤ 9223372036854775807 by have h_ := c30; simp only [ByteArray.size_append] at h_; exact h_)
   have c30z2 : (9223372036854775807 < (1 + t5.size + 2) + t6.size) = False := eq_false (Nat.not_lt.2 (show (1 + t5.size + 2) + t6.size ≤ 9223372036854775807 by have h_ := c30; simp only [ByteArray.size_append] at h_; exact h_))
   have c30b1 : decide ((((⟨#[91]⟩ : ByteArray) ++ t5) ++ (⟨#[93, 61]⟩ : ByteArray)).size + t6.size ≤ 9223372036854775807) = true := decide_eq_true c30
   try have c30b2 : (9223372036854775807 < (((⟨#[91]⟩ : ByteArray) ++ t5) ++ (⟨#[93, 61]⟩ : ByteArray)).size + t6.size) = False := eq_false (Nat.not_lt.2 c30)
   obtain rfl := Option.some.inj H
   try go_wp2
   have n0_ := Aside0.mk (blk_drew BK1.out)
   have n1_ := Aside0.mk (below_drew1 HB.out)
   clear BK1
   clear HB
   have BK1 := n0_
   have HB := n1_
   clear n0_ n1_
   refine start_ (n := 8) (S := fun w' => w'.cell? ⟨gb1, 0, none⟩ = some (.int .i64 a0_0) ∧ w'.cell? ⟨gb1, 1, none⟩ = some (.int .i64 a0_1) ∧ w'.cell? ⟨gb1, 2, none⟩ = some (.int .i64 a0_2) ∧ w'.cell? ⟨gb1, 3, none⟩ = some (.int .i64 a0_3)) (ds := []) #[false, false, false, false, false, false, false, false] (by kernel_rfl) rfl rfl ⟨(blk_cell BK1.out 0).trans rfl, (blk_cell BK1.out 1).trans rfl, (blk_cell BK1.out 2).trans rfl, (blk_cell BK1.out 3).trans rfl⟩ (fun hHeld => ?_); refine with_tabW impl_Atom_text.tab3 impl_Atom_text.bits3 (fun HT_ HW_ => ?_)
   generalize wc.drew = w31 at BK1 HB hHeld ⊢
   refine pure_ (i := 0) (N := some 21) (bm_ 8 1) rfl rfl (any_of HT_.out kr_) (fun _ _ _ h => h) (Or.inl ⟨rfl, yi_⟩) pu_ ?_
   refine pure_ (i := 3) (N := some 24) (bm_ 8 9) rfl rfl (any_of HT_.out kr_) (fun _ _ _ h => h) (Or.inl ⟨rfl, yi_⟩) pu_ ?_
   refine take_ (i := 1) (N := some 22) (v := ?_) (a' := ?_) (bm_ 8 11) rfl rfl (take_ofW HT_.out HW_.out (by kernel_rfl)) (fun _ _ _ h => h) (Or.inl ⟨by rfl, ?_⟩) hHeld ?_ ?_
   rotate_left
   ·rintro w' ⟨s0, s1, s2, s3⟩
    go_simp
    with_reducible rfl
   rotate_left
   ·exact pu_
   refine take_ (i := 4) (N := some 25) (v := ?_) (a' := ?_) (bm_ 8 27) rfl rfl (take_ofW HT_.out HW_.out (by kernel_rfl)) (fun _ _ _ h => h) (Or.inl ⟨by rfl, ?_⟩) hHeld ?_ ?_
   rotate_left
   ·rintro w' ⟨s0, s1, s2, s3⟩
    go_simp
    with_reducible rfl
   rotate_left
   ·exact pu_
   refine one_ (i := 2) (N := some 23) (bm_ 8 31) rfl rfl (one_of HT_.out (by kernel_rfl)) (by decide) (fun K hK => ?_)
   refine goes_ Tryz.func57 (by kernel_rfl) rfl #[.int .i64 a0_2] (by rfl) rfl rfl ar_ ?_
   with_reducible refine (strconv_Itoa.calls (hE_ := ee_) a0_2 t5 _ A13.out).mono ?_
   rintro e w32 ⟨rfl, hb⟩
   refine ⟨_, rfl, ?_⟩
   have n0_ := bb_ BK1.out hb
   have n1_ := bs_ hb
   clear BK1
   clear HB
   have BK1 := n0_
   have HB := n1_
   clear n0_ n1_
   (try clear hb)
   (try clear hb2)
   (try clear hk)
   (try clear hi)
   refine hK.out _ _ ⟨(blk_cell BK1.out 0).trans rfl, (blk_cell BK1.out 1).trans rfl, (blk_cell BK1.out 2).trans rfl, (blk_cell BK1.out 3).trans rfl⟩ (fun hHeld => ?_)
   clear hK K
   refine norm_ (a' := ?_) ?_ ?_
   rotate_left
   ·show Act.put _ (some 23) _ = _
    simp only [Act.put, List.setIfInBounds_toArray, List.set_cons_zero, List.set_cons_succ, i64_w, i32_w]
    rfl
   refine one_ (i := 5) (N := some 26) (bm_ 8 63) rfl rfl (one_of HT_.out (by kernel_rfl)) (by decide) (fun K hK => ?_)
   refine goes_ Tryz.func57 (by kernel_rfl) rfl #[.int .i64 a0_3] (by rfl) rfl rfl ar_ ?_
   with_reducible refine (strconv_Itoa.calls (hE_ := ee_) a0_3 t6 _ A14.out).mono ?_
   rintro e w33 ⟨rfl, hb⟩
   refine ⟨_, rfl, ?_⟩
   have n0_ := bb_ BK1.out hb
   have n1_ := bs_ hb
   clear BK1
   clear HB
   have BK1 := n0_
   have HB := n1_
   clear n0_ n1_
   (try clear hb)
   (try clear hb2)
   (try clear hk)
   (try clear hi)
   refine hK.out _ _ ⟨(blk_cell BK1.out 0).trans rfl, (blk_cell BK1.out 1).trans rfl, (blk_cell BK1.out 2).trans rfl, (blk_cell BK1.out 3).trans rfl⟩ (fun hHeld => ?_)
   clear hK K
   refine norm_ (a' := ?_) ?_ ?_
   rotate_left
   ·show Act.put _ (some 26) _ = _
    simp only [Act.put, List.setIfInBounds_toArray, List.set_cons_zero, List.set_cons_succ, i64_w, i32_w]
    rfl
   refine pure_ (i := 6) (N := some 3) (bm_ 8 127) rfl rfl (any_of HT_.out kr_) (fun _ _ _ h => h) (Or.inl ⟨rfl, yi_⟩) pu_ ?_
   refine pure_ (i := 7) (N := some 4) (bm_ 8 255) rfl rfl (any_of HT_.out kr_) (fun _ _ _ h => h) (Or.inl ⟨rfl, yi_⟩) pu_ ?_
   refine done_ (done_of HT_.out (by kernel_rfl)) ?_
   obtain ⟨hcz34_0, hcz34_1, hcz34_2, hcz34_3, hfz34_0, hfz34_1, hfz34_2, hfz34_3⟩ := bc4_ BK1.out
   try go_wp2
   go_ret
   exact ⟨rr_, bw_⟩

end Go.Proofs.YtbgclnjnngolmaaGreatDoor.P
