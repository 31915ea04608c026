-- Written by mp.py (the session's own driver over the kit's printer) for the seat YtchpopocnaoabaaDoor.
import Derived.Test.YtchpopocnaoabaaDoorK
import Derived.Test.YtchpopocnaoabaaDoorPimplBufOk
import Derived.Test.YtchpopocnaoabaaDoorPimplBufText
import Derived.Test.YtchpopocnaoabaaDoorPimplMemOk
import Derived.Test.YtchpopocnaoabaaDoorPstrconvItoa
import Derived.Test.YtchpopocnaoabaaDoorEnv
namespace Go.Proofs.YtchpopocnaoabaaDoor.P
open Go.RowKit Go.Proofs.YtchpopocnaoabaaDoorW.PrintWords Go.Proofs.YtchpopocnaoabaaDoorW.PrintLast Go.Proofs.YtchpopocnaoabaaDoorW.PrintMore
attribute [local go_sem] max2_int min2_int max_two min_two max_three min_three max_four min_four
set_option linter.unusedVariables false
set_option linter.unusedSimpArgs false

/-! ### impl_MachineText: function 56 -/
mutual
def impl_MachineText.j0 : Nat → Bool → List Int → List (S133) → Option (ByteArray)
 | 0, _, _, _ => none
 | k + 1, x17, x2000, x2001 => if x17 = true then (some (⟨#[]⟩ : ByteArray)) else (impl_MachineText.l0 k (⟨#[]⟩ : ByteArray) x2001 (x2001.length : Int) 0 x2000 x2001)
def impl_MachineText.l0 : Nat → ByteArray → List (S133) → Int → Int → List Int → List (S133) → Option (ByteArray)
 | 0, _, _, _, _, _, _ => none
 | k + 1, x3, x19, x20, x21, x2000, x2001 => if x21 < x20 then (if 0 ≤ x21 then (if x21 < (x19.length : Int) then ((impl_BufOk.f ((rd_T133 x19 x21).f2)).bind fun t6 => (if t6 = true then (impl_MachineText.j2 k x3 x19 x20 x21 (decide ((((rd_T133 x19 x21).f1).length : Int) > 4)) x2000 x2001 ((rd_T133 x19 x21).f0) ((rd_T133 x19 x21).f1) ((rd_T133 x19 x21).f2)) else (impl_MachineText.j2 k x3 x19 x20 x21 true x2000 x2001 ((rd_T133 x19 x21).f0) ((rd_T133 x19 x21).f1) ((rd_T133 x19 x21).f2)))) else (none)) else (none)) else ((impl_MemText.f k x2000).bind fun t3 => (if x3.size + t3.size ≤ 9223372036854775807 then (some (x3 ++ t3)) else (none)))
def impl_MachineText.j2 : Nat → ByteArray → List (S133) → Int → Int → Bool → List Int → List (S133) → Int → List Int → List (S119) → Option (ByteArray)
 | 0, _, _, _, _, _, _, _, _, _, _ => none
 | k + 1, x3, x19, x20, x21, x34, x2000, x2001, x6000, x6001, x6002 => if x34 = true then (some (⟨#[]⟩ : ByteArray)) else ((strconv_Itoa.f x6000).bind fun t7 => (if 1 + t7.size ≤ 9223372036854775807 then (if x3.size + ((⟨#[116]⟩ : ByteArray) ++ t7).size ≤ 9223372036854775807 then (impl_MachineText.l1 k (x3 ++ ((⟨#[116]⟩ : ByteArray) ++ t7)) x19 x20 x21 x6001 (x6001.length : Int) 0 x2000 x2001 x6000 x6001 x6002) else (none)) else (none)))
def impl_MachineText.l1 : Nat → ByteArray → List (S133) → Int → Int → List Int → Int → Int → List Int → List (S133) → Int → List Int → List (S119) → Option (ByteArray)
 | 0, _, _, _, _, _, _, _, _, _, _, _, _ => none
 | k + 1, x3, x19, x20, x21, x42, x43, x44, x2000, x2001, x6000, x6001, x6002 => if x44 < x43 then (if 0 ≤ x44 then (if x44 < (x42.length : Int) then ((strconv_Itoa.f (rd x42 x44)).bind fun t9 => (if 1 + t9.size ≤ 9223372036854775807 then (if x3.size + ((⟨#[32]⟩ : ByteArray) ++ t9).size ≤ 9223372036854775807 then (impl_MachineText.l1 k (x3 ++ ((⟨#[32]⟩ : ByteArray) ++ t9)) x19 x20 x21 x42 x43 (wrap64 (x44 + 1)) x2000 x2001 x6000 x6001 x6002) else (none)) else (none))) else (none)) else (none)) else ((impl_BufText.f k x6002).bind fun t10 => (if 1 + t10.size ≤ 9223372036854775807 then (if ((⟨#[32]⟩ : ByteArray) ++ t10).size + 3 ≤ 9223372036854775807 then (if x3.size + (((⟨#[32]⟩ : ByteArray) ++ t10) ++ (⟨#[32, 124, 32]⟩ : ByteArray)).size ≤ 9223372036854775807 then (impl_MachineText.l0 k (x3 ++ (((⟨#[32]⟩ : ByteArray) ++ t10) ++ (⟨#[32, 124, 32]⟩ : ByteArray))) x19 x20 (wrap64 (x21 + 1)) x2000 x2001) else (none)) else (none)) else (none)))
end
def impl_MachineText.f (k : Nat) (l0_0 : List Int) (l0_1 : List (S133)) : Option (ByteArray) := (impl_MemOk.f l0_0).bind fun t2 => (if t2 = true then (impl_MachineText.j0 k (decide ((l0_1.length : Int) > 3)) l0_0 l0_1) else (impl_MachineText.j0 k true l0_0 l0_1))
theorem impl_MachineText.mono_l : ∀ k, (∀ y0 y1 y2, LeO (impl_MachineText.j0 k y0 y1 y2) (impl_MachineText.j0 (k + 1) y0 y1 y2)) ∧ (∀ y0 y1 y2 y3 y4 y5, LeO (impl_MachineText.l0 k y0 y1 y2 y3 y4 y5) (impl_MachineText.l0 (k + 1) y0 y1 y2 y3 y4 y5)) ∧ (∀ y0 y1 y2 y3 y4 y5 y6 y7 y8 y9, LeO (impl_MachineText.j2 k y0 y1 y2 y3 y4 y5 y6 y7 y8 y9) (impl_MachineText.j2 (k + 1) y0 y1 y2 y3 y4 y5 y6 y7 y8 y9)) ∧ (∀ y0 y1 y2 y3 y4 y5 y6 y7 y8 y9 y10 y11, LeO (impl_MachineText.l1 k y0 y1 y2 y3 y4 y5 y6 y7 y8 y9 y10 y11) (impl_MachineText.l1 (k + 1) y0 y1 y2 y3 y4 y5 y6 y7 y8 y9 y10 y11))
 | 0 => ⟨fun _ _ _ r h => by simp [impl_MachineText.j0] at h, fun _ _ _ _ _ _ r h => by simp [impl_MachineText.l0] at h, fun _ _ _ _ _ _ _ _ _ _ r h => by simp [impl_MachineText.j2] at h, fun _ _ _ _ _ _ _ _ _ _ _ _ r h => by simp [impl_MachineText.l1] at h⟩
 | k + 1 => by
  obtain ⟨ih0, ih1, ih2, ih3⟩ := impl_MachineText.mono_l k
  refine ⟨?_, ?_, ?_, ?_⟩
  ·intro y0 y1 y2
   unfold impl_MachineText.j0
   repeat' first | (with_reducible first | exact ih0 _ _ _ | exact ih1 _ _ _ _ _ _ | exact ih2 _ _ _ _ _ _ _ _ _ _ | exact ih3 _ _ _ _ _ _ _ _ _ _ _ _ | exact impl_BufText.mono _ _ | exact impl_MemText.mono _ _ | exact lr_ | exact ln_ | refine LeO.ite ?_ ?_ | refine LeO.bind ?_ (fun _ => ?_)) | exact ih0 _ _ _ | exact ih1 _ _ _ _ _ _ | exact ih2 _ _ _ _ _ _ _ _ _ _ | exact ih3 _ _ _ _ _ _ _ _ _ _ _ _ | exact impl_BufText.mono _ _ | exact impl_MemText.mono _ _ | exact ln_ | refine LeO.ite ?_ ?_ | refine LeO.bind ?_ (fun _ => ?_)
  ·intro y0 y1 y2 y3 y4 y5
   unfold impl_MachineText.l0
   repeat' first | (with_reducible first | exact ih0 _ _ _ | exact ih1 _ _ _ _ _ _ | exact ih2 _ _ _ _ _ _ _ _ _ _ | exact ih3 _ _ _ _ _ _ _ _ _ _ _ _ | exact impl_BufText.mono _ _ | exact impl_MemText.mono _ _ | exact lr_ | exact ln_ | refine LeO.ite ?_ ?_ | refine LeO.bind ?_ (fun _ => ?_)) | exact ih0 _ _ _ | exact ih1 _ _ _ _ _ _ | exact ih2 _ _ _ _ _ _ _ _ _ _ | exact ih3 _ _ _ _ _ _ _ _ _ _ _ _ | exact impl_BufText.mono _ _ | exact impl_MemText.mono _ _ | exact ln_ | refine LeO.ite ?_ ?_ | refine LeO.bind ?_ (fun _ => ?_)
  ·intro y0 y1 y2 y3 y4 y5 y6 y7 y8 y9
   unfold impl_MachineText.j2
   repeat' first | (with_reducible first | exact ih0 _ _ _ | exact ih1 _ _ _ _ _ _ | exact ih2 _ _ _ _ _ _ _ _ _ _ | exact ih3 _ _ _ _ _ _ _ _ _ _ _ _ | exact impl_BufText.mono _ _ | exact impl_MemText.mono _ _ | exact lr_ | exact ln_ | refine LeO.ite ?_ ?_ | refine LeO.bind ?_ (fun _ => ?_)) | exact ih0 _ _ _ | exact ih1 _ _ _ _ _ _ | exact ih2 _ _ _ _ _ _ _ _ _ _ | exact ih3 _ _ _ _ _ _ _ _ _ _ _ _ | exact impl_BufText.mono _ _ | exact impl_MemText.mono _ _ | exact ln_ | refine LeO.ite ?_ ?_ | refine LeO.bind ?_ (fun _ => ?_)
  ·intro y0 y1 y2 y3 y4 y5 y6 y7 y8 y9 y10 y11
   unfold impl_MachineText.l1
   repeat' first | (with_reducible first | exact ih0 _ _ _ | exact ih1 _ _ _ _ _ _ | exact ih2 _ _ _ _ _ _ _ _ _ _ | exact ih3 _ _ _ _ _ _ _ _ _ _ _ _ | exact impl_BufText.mono _ _ | exact impl_MemText.mono _ _ | exact lr_ | exact ln_ | refine LeO.ite ?_ ?_ | refine LeO.bind ?_ (fun _ => ?_)) | exact ih0 _ _ _ | exact ih1 _ _ _ _ _ _ | exact ih2 _ _ _ _ _ _ _ _ _ _ | exact ih3 _ _ _ _ _ _ _ _ _ _ _ _ | exact impl_BufText.mono _ _ | exact impl_MemText.mono _ _ | exact ln_ | refine LeO.ite ?_ ?_ | refine LeO.bind ?_ (fun _ => ?_)
theorem impl_MachineText.mono : ∀ a0 a1 k, LeO (impl_MachineText.f k a0 a1) (impl_MachineText.f (k + 1) a0 a1) := by
 intro a0 a1 k
 obtain ⟨ih0, ih1, ih2, ih3⟩ := impl_MachineText.mono_l k
 unfold impl_MachineText.f
 repeat' first | (with_reducible first | exact ih0 _ _ _ | exact ih1 _ _ _ _ _ _ | exact ih2 _ _ _ _ _ _ _ _ _ _ | exact ih3 _ _ _ _ _ _ _ _ _ _ _ _ | exact impl_BufText.mono _ _ | exact impl_MemText.mono _ _ | exact lr_ | exact ln_ | refine LeO.ite ?_ ?_ | refine LeO.bind ?_ (fun _ => ?_)) | exact ih0 _ _ _ | exact ih1 _ _ _ _ _ _ | exact ih2 _ _ _ _ _ _ _ _ _ _ | exact ih3 _ _ _ _ _ _ _ _ _ _ _ _ | exact impl_BufText.mono _ _ | exact impl_MemText.mono _ _ | exact ln_ | refine LeO.ite ?_ ?_ | refine LeO.bind ?_ (fun _ => ?_)
set_option maxHeartbeats 8000000 in
set_option maxRecDepth 100000 in
theorem impl_MachineText.calls (k : Nat) (A0_0 : Option Addr) (c0_0 : Nat) (l0_0 : List Int) (A0_1 : Option Addr) (c0_1 : Nat) (l0_1 : List (S133)) (r : ByteArray) (w : World) (hE_ : EnvOk false w) (hr0_0 : Kd.C (Kd.int .i64) w A0_0 l0_0.length l0_0) (hc0_0 : l0_0.length ≤ c0_0) (hr0_1 : Kd.C k133 w A0_1 l0_1.length l0_1) (hc0_1 : l0_1.length ≤ c0_1) (h : impl_MachineText.f k l0_0 l0_1 = some r) :
  Calls Tryd.prog 56 #[.agg #[.slice A0_0 l0_0.length c0_0, .slice A0_1 l0_1.length c0_1]] w fun e w' => e = .returned (.string r) ∧ Below w.heap.size w w' := by
 have HE_ := Aside0.mk hE_
 clear hE_
 have hu80 := Tryd.underlying80
 have hu60 := Tryd.underlying60
 have hu133 := Tryd.underlying133
 have HR0_0 := Aside0.mk hr0_0
 have HC0_0 := Aside0.mk hc0_0
 clear hr0_0 hc0_0
 have HR0_1 := Aside0.mk hr0_1
 have HC0_1 := Aside0.mk hc0_1
 clear hr0_1 hc0_1
 have HB := Aside0.mk (Below.refl w.heap.size w)
 have H : ((impl_MemOk.f l0_0).bind fun t2 => (if t2 = true then (impl_MachineText.j0 k (decide ((l0_1.length : Int) > 3)) l0_0 l0_1) else (impl_MachineText.j0 k true l0_0 l0_1))) = some r := h
 clear h
 have HC2 := Aside0.mk H
 clear H
 go_enter Tryd.func56, Tryd.ntmps56
 go_upto_region 1 with (first | ((with_reducible refine gate_dst (N := 1) rfl ?_); (try (refine gate_guard (by rfl) ?_; dsimp only)); refine box_event ?hg (N := 1) ?hd (cs := #[.slice A0_0 l0_0.length c0_0, .slice A0_1 l0_1.length c0_1]) (t := 80) ?hr ?_; (case hd => rfl); (case hg => rfl); (case hr => exact hr_); intro gb1 hg w3 hbox hb; have n0_ := bs_ hb; have n1_ := Aside0.mk (hbox); have n2_ := ge_ (w := w) hg; have n3_ := ge_ (w := w) hg; clear HB; have HB := n0_; have BK1 := n1_; have GW1 := n2_; have GE1 := n3_; clear n0_ n1_ n2_ n3_; clear hb hbox hg))
 (try simp only [Act.put, List.setIfInBounds_toArray, List.set_cons_zero, List.set_cons_succ])
 go_cut [17] (fun v17 wc => ∃ (kq : Nat) (x17_1 : Bool), v17 = .bool x17_1 ∧ Aside0 (impl_MachineText.j0 kq x17_1 l0_0 l0_1 = some r) ∧ Aside0 (kq ≤ k) ∧ Aside0 (wc.heap[gb1]? = some (.cells #[(.slice A0_0 l0_0.length c0_0), (.slice A0_1 l0_1.length c0_1)] 80 (0, 0))) ∧ Aside0 (Below w.heap.size w wc))
 case first =>
  have H := HC2.out
  clear HC2
  replace H := Option.bind_eq_some_iff.mp H
  obtain ⟨t2, A40, H⟩ := H
  replace H : (if t2 = true then (impl_MachineText.j0 k (decide ((l0_1.length : Int) > 3)) l0_0 l0_1) else (impl_MachineText.j0 k true l0_0 l0_1)) = some r := H
  have A4 := Aside0.mk A40
  clear A40
  by_cases c5 : t2 = true
  ·subst c5
   have H1 : (impl_MachineText.j0 k (decide ((l0_1.length : Int) > 3)) l0_0 l0_1) = some r := by rw [if_pos rfl] at H; exact H
   clear H
   have H := H1
   clear H1
   have H' := Aside0.mk H
   clear H
   obtain ⟨hcz6_0, hcz6_1, hfz6_0, hfz6_1⟩ := bc2_ BK1.out
   go_wp2_with (first | ((with_reducible refine gate_callee (f := 103) rfl ?_); refine goesL_ (some 10) rfl rfl Tryd.func103 (by kernel_rfl) rfl #[.agg #[.slice A0_0 l0_0.length c0_0]] rfl ar_ ?_; (with_reducible refine (impl_MemOk.calls _ _ l0_0 true _ ?side1 ?side2 A4.out).mono ?_); (case side1 => exact cb_); (case side2 => exact HC0_0.out); rintro e w7 ⟨rfl, hb⟩; refine ⟨_, rfl, ?_⟩; have n0_ := bb_ BK1.out hb; have n1_ := bs_ hb; clear BK1; clear HB; have BK1 := n0_; have HB := n1_; clear n0_ n1_; (try clear hb); (try clear hb2); (try clear hk); (try clear hi); obtain ⟨hcz8_0, hcz8_1, hfz8_0, hfz8_1⟩ := bc2_ BK1.out))
   go_meet
   case rel => exact ⟨_, (decide ((l0_1.length : Int) > 3)), sd_, H', ⟨by first | omega | exact Nat.le_refl _⟩, ⟨bk_⟩, ⟨bw_⟩⟩
  replace c5 := Bool.eq_false_iff.mpr c5
  subst c5
  have H1 : (impl_MachineText.j0 k true l0_0 l0_1) = some r := by rw [if_neg (show ¬ (false = true) by decide)] at H; exact H
  clear H
  have H := H1
  clear H1
  have H' := Aside0.mk H
  clear H
  obtain ⟨hcz9_0, hcz9_1, hfz9_0, hfz9_1⟩ := bc2_ BK1.out
  go_wp2_with (first | ((with_reducible refine gate_callee (f := 103) rfl ?_); refine goesL_ (some 10) rfl rfl Tryd.func103 (by kernel_rfl) rfl #[.agg #[.slice A0_0 l0_0.length c0_0]] rfl ar_ ?_; (with_reducible refine (impl_MemOk.calls _ _ l0_0 false _ ?side1 ?side2 A4.out).mono ?_); (case side1 => exact cb_); (case side2 => exact HC0_0.out); rintro e w10 ⟨rfl, hb⟩; refine ⟨_, rfl, ?_⟩; have n0_ := bb_ BK1.out hb; have n1_ := bs_ hb; clear BK1; clear HB; have BK1 := n0_; have HB := n1_; clear n0_ n1_; (try clear hb); (try clear hb2); (try clear hk); (try clear hi)))
  go_meet
  case rel => exact ⟨_, (true), sd_, H', ⟨by first | omega | exact Nat.le_refl _⟩, ⟨bk_⟩, ⟨bw_⟩⟩
 case rest =>
  clear HC2
  try clear c1
  try clear p2
  try clear c5
  try clear c10
  try clear hcz6_0 hcz6_1
  try clear hcz8_0 hcz8_1
  try clear hcz9_0 hcz9_1
  try clear hfz6_0 hfz6_1
  try clear hfz8_0 hfz8_1
  try clear hfz9_0 hfz9_1
  obtain ⟨kq, x17_1, rfl, HA, HJ1, BK1, HB⟩ := hcut
  cases kq with
  | zero => exact absurd HA.out (by simp [impl_MachineText.j0])
  | succ kj1 =>
   have H := HA.out
   clear HA
   simp only [impl_MachineText.j0] at H
   by_cases c11 : x17_1 = true
   ·subst c11
    have H1 : (some (⟨#[]⟩ : ByteArray)) = some r := by rw [if_pos rfl] at H; exact H
    clear H
    have H := H1
    clear H1
    obtain rfl := Option.some.inj H
    go_wp2
    go_ret
    exact ⟨rr_, bw_⟩
   replace c11 := Bool.eq_false_iff.mpr c11
   subst c11
   have H1 : (impl_MachineText.l0 kj1 (⟨#[]⟩ : ByteArray) l0_1 (l0_1.length : Int) 0 l0_0 l0_1) = some r := by rw [if_neg (show ¬ (false = true) by decide)] at H; exact H
   clear H
   have H := H1
   clear H1
   have H' := Aside0.mk H
   clear H
   obtain ⟨hcz12_0, hcz12_1, hfz12_0, hfz12_1⟩ := bc2_ BK1.out
   go_wp2
   go_loopg [3, 21] kj1 (fun kq v3 v21 w' => ∃ (x3_2 : ByteArray) (x21_2 : Int), v3 = .string x3_2 ∧ v21 = .int .i64 x21_2 ∧ Aside0 (impl_MachineText.l0 kq x3_2 l0_1 (l0_1.length : Int) x21_2 l0_0 l0_1 = some r) ∧ Aside0 (kq ≤ kj1) ∧ Aside0 (w'.heap[gb1]? = some (.cells #[(.slice A0_0 l0_0.length c0_0), (.slice A0_1 l0_1.length c0_1)] 80 (0, 0))) ∧ Aside0 (Below w.heap.size w w'))
   case atStart => exact ⟨((⟨#[]⟩ : ByteArray)), (0), sd_, sd_, H', ⟨Nat.le_refl _⟩, ⟨bk_⟩, ⟨bw_⟩⟩
   case round =>
    clear H'
    try clear c1
    try clear p2
    try clear c5
    try clear c10
    try clear c11
    try clear hcz12_0 hcz12_1
    try clear hcz6_0 hcz6_1
    try clear hcz8_0 hcz8_1
    try clear hcz9_0 hcz9_1
    try clear hfz12_0 hfz12_1
    try clear hfz6_0 hfz6_1
    try clear hfz8_0 hfz8_1
    try clear hfz9_0 hfz9_1
    try clear p2
    obtain ⟨x3_2, x21_2, rfl, rfl, HA, HK2, BK1, HB⟩ := hrel
    cases gk with
    | zero => exact absurd HA.out (by simp [impl_MachineText.l0])
    | succ k2 =>
     have H := HA.out
     clear HA
     simp only [impl_MachineText.l0] at H
     by_cases c13 : x21_2 < (l0_1.length : Int)
     rotate_left
     ·rw [if_neg c13] at H
      have c13b0 : decide (x21_2 < (l0_1.length : Int)) = false := decide_eq_false c13
      clear c13
      replace H := Option.bind_eq_some_iff.mp H
      obtain ⟨t3, A510, H⟩ := H
      replace H : (if x3_2.size + t3.size ≤ 9223372036854775807 then (some (x3_2 ++ t3)) else (none)) = some r := H
      have A51 := Aside0.mk A510
      clear A510
      by_cases c52 : x3_2.size + t3.size ≤ 9223372036854775807
      rotate_left
      ·rw [if_neg c52] at H
       exact absurd H (by simp)
      rw [if_pos c52] at H
      have c52b0 := eq_true c52
      have c52b1 : decide (x3_2.size + t3.size ≤ 9223372036854775807) = true := decide_eq_true c52
      try have c52b2 : (9223372036854775807 < x3_2.size + t3.size) = False := eq_false (Nat.not_lt.2 c52)
      obtain rfl := Option.some.inj H
      obtain ⟨hcz53_0, hcz53_1, hfz53_0, hfz53_1⟩ := bc2_ BK1.out
      go_wp2_with (first | ((with_reducible refine gate_callee (f := 40) rfl ?_); refine goesL_ (some 65) rfl rfl Tryd.func40 (by kernel_rfl) rfl #[.agg #[.slice A0_0 l0_0.length c0_0]] rfl ar_ ?_; (with_reducible refine (impl_MemText.calls (hE_ := ee_) k2 _ _ l0_0 t3 _ ?side1 ?side2 A51.out).mono ?_); (case side1 => exact cb_); (case side2 => exact HC0_0.out); rintro e w54 ⟨rfl, hb⟩; refine ⟨_, rfl, ?_⟩; have n0_ := bb_ BK1.out hb; have n1_ := bs_ hb; clear BK1; clear HB; have BK1 := n0_; have HB := n1_; clear n0_ n1_; (try clear hb); (try clear hb2); (try clear hk); (try clear hi)))
      go_ret
      exact ⟨rr_, bw_⟩
     rw [if_pos c13] at H
     have c13b0 : decide (x21_2 < (l0_1.length : Int)) = true := decide_eq_true c13
     clear c13
     by_cases c14 : 0 ≤ x21_2
     rotate_left
     ·rw [if_neg c14] at H
      exact absurd H (by simp)
     rw [if_pos c14] at H
     have c14b0 : decide (0 ≤ x21_2) = true := decide_eq_true c14
     clear c14
     by_cases c15 : x21_2 < (l0_1.length : Int)
     rotate_left
     ·rw [if_neg c15] at H
      exact absurd H (by simp)
     rw [if_pos c15] at H
     have c15b0 : decide (x21_2 < (l0_1.length : Int)) = true := decide_eq_true c15
     clear c15
     have HC16 := Aside0.mk H
     clear H
     have p4 : 0 ≤ (x21_2 : Int) := od_
     have q4 : x21_2 < (l0_1.length : Int) := od_
     obtain ⟨ad4, A4_1, c4_1, A4_2, c4_2, e4, hx4_0, hx4_1, hx4_2, hl4_1, hi4_1, hl4_2, hi4_2⟩ := at_T133 HR0_1.out x21_2 p4 q4
     cases e4
     replace hx4_0 := (HB.out.cell (World.block_lt_of_cell? w _ hx4_0)).trans hx4_0
     replace hx4_1 := (HB.out.cell (World.block_lt_of_cell? w _ hx4_1)).trans hx4_1
     replace hx4_2 := (HB.out.cell (World.block_lt_of_cell? w _ hx4_2)).trans hx4_2
     have HR4_1 := Aside0.mk hi4_1
     have HC4_1 := Aside0.mk hl4_1
     clear hi4_1 hl4_1
     have HR4_2 := Aside0.mk hi4_2
     have HC4_2 := Aside0.mk hl4_2
     clear hi4_2 hl4_2
     replace p4 := eq_true p4
     replace q4 := eq_true q4
     go_upto_region 7 with (first | ((with_reducible refine gate_dst (N := 5) rfl ?_); (try (refine gate_guard (by rfl) ?_; dsimp only)); refine box_event ?hg (N := 5) ?hd (cs := #[.int .i64 0, .slice none 0 0, .slice none 0 0]) (t := 133) ?hr ?_; (case hd => rfl); (case hg => rfl); (case hr => exact hr_); intro gb5 hg w17 hbox hb; have n0_ := bb_ BK1.out hb; have n1_ := bs_ hb; have n2_ := Aside0.mk (hbox); have n3_ := ge_ (w := w) hg; have n4_ := ge_ (w := w) hg; have n5_ := nl_ BK1.out hg; have n6_ := nr_ BK1.out hg; clear BK1; clear HB; have BK1 := n0_; have HB := n1_; have BK5 := n2_; have GW5 := n3_; have GE5 := n4_; have NB1_5 := n5_; have NB5_1 := n6_; clear n0_ n1_ n2_ n3_ n4_ n5_ n6_; clear hb hbox hg; have hnb18 := NB5_1.out; have hnc18 := NB1_5.out; obtain ⟨hcz19_0, hcz19_1, hcz19_2, hfz19_0, hfz19_1, hfz19_2⟩ := bc3_ BK5.out))
     (try simp only [Act.put, List.setIfInBounds_toArray, List.set_cons_zero, List.set_cons_succ])
     go_cut [34] (fun v34 wc => ∃ (kq : Nat) (x34_15 : Bool), v34 = .bool x34_15 ∧ Aside0 (impl_MachineText.j2 kq x3_2 l0_1 (l0_1.length : Int) x21_2 x34_15 l0_0 l0_1 ((rd_T133 l0_1 x21_2).f0) ((rd_T133 l0_1 x21_2).f1) ((rd_T133 l0_1 x21_2).f2) = some r) ∧ Aside0 (kq ≤ k2) ∧ Aside0 (wc.heap[gb1]? = some (.cells #[(.slice A0_0 l0_0.length c0_0), (.slice (some ad4) l0_1.length c0_1)] 80 (0, 0))) ∧ Aside0 (wc.heap[gb5]? = some (.cells #[.int .i64 ((rd_T133 l0_1 x21_2).f0), (.slice A4_1 ((rd_T133 l0_1 x21_2).f1).length c4_1), (.slice A4_2 ((rd_T133 l0_1 x21_2).f2).length c4_2)] 133 (0, 0))) ∧ Aside0 (Below w.heap.size w wc))
     case first =>
      have H := HC16.out
      clear HC16
      replace H := Option.bind_eq_some_iff.mp H
      obtain ⟨t6, A200, H⟩ := H
      replace H : (if t6 = true then (impl_MachineText.j2 k2 x3_2 l0_1 (l0_1.length : Int) x21_2 (decide ((((rd_T133 l0_1 x21_2).f1).length : Int) > 4)) l0_0 l0_1 ((rd_T133 l0_1 x21_2).f0) ((rd_T133 l0_1 x21_2).f1) ((rd_T133 l0_1 x21_2).f2)) else (impl_MachineText.j2 k2 x3_2 l0_1 (l0_1.length : Int) x21_2 true l0_0 l0_1 ((rd_T133 l0_1 x21_2).f0) ((rd_T133 l0_1 x21_2).f1) ((rd_T133 l0_1 x21_2).f2))) = some r := H
      have A20 := Aside0.mk A200
      clear A200
      by_cases c21 : t6 = true
      ·subst c21
       have H1 : (impl_MachineText.j2 k2 x3_2 l0_1 (l0_1.length : Int) x21_2 (decide ((((rd_T133 l0_1 x21_2).f1).length : Int) > 4)) l0_0 l0_1 ((rd_T133 l0_1 x21_2).f0) ((rd_T133 l0_1 x21_2).f1) ((rd_T133 l0_1 x21_2).f2)) = some r := by rw [if_pos rfl] at H; exact H
       clear H
       have H := H1
       clear H1
       have H' := Aside0.mk H
       clear H
       have hnb22 := NB5_1.out
       have hnc22 := NB1_5.out
       obtain ⟨hcz23_0, hcz23_1, hcz23_2, hfz23_0, hfz23_1, hfz23_2⟩ := bc3_ BK5.out
       go_wp2_with (first | ((with_reducible refine gate_callee (f := 98) rfl ?_); refine goesL_ (some 27) rfl rfl Tryd.func98 (by kernel_rfl) rfl #[.slice A4_2 ((rd_T133 l0_1 x21_2).f2).length c4_2] rfl ar_ ?_; (with_reducible refine (impl_BufOk.calls _ _ ((rd_T133 l0_1 x21_2).f2) true _ ?side1 ?side2 A20.out).mono ?_); (case side1 => exact Kd.C_below HR4_2.out bw_); (case side2 => exact HC4_2.out); rintro e w24 ⟨rfl, hb⟩; refine ⟨_, rfl, ?_⟩; have n0_ := Aside0.mk (blk_below (g := gb1) (o := .cells #[.slice A0_0 l0_0.length c0_0, .slice (some ad4) l0_1.length c0_1] 80 (0, 0)) (by (with_reducible repeat (first | refine blk_drewN ?_ _ | refine blk_drew ?_ | refine blk_alloc ?_ _)); refine blk_far ?_ NB1_5.out _; (with_reducible repeat (first | refine blk_drewN ?_ _ | refine blk_drew ?_ | refine blk_alloc ?_ _)); refine blk_far ?_ NB1_5.out _; (with_reducible repeat (first | refine blk_drewN ?_ _ | refine blk_drew ?_ | refine blk_alloc ?_ _)); refine blk_far ?_ NB1_5.out _; (with_reducible repeat (first | refine blk_drewN ?_ _ | refine blk_drew ?_ | refine blk_alloc ?_ _)); exact BK1.out) hb); have n1_ := Aside0.mk (blk_below (g := gb5) (o := .cells #[.int .i64 ((rd_T133 l0_1 x21_2).f0), .slice A4_1 ((rd_T133 l0_1 x21_2).f1).length c4_1, .slice A4_2 ((rd_T133 l0_1 x21_2).f2).length c4_2] 133 (0, 0)) (by (with_reducible repeat (first | refine blk_drewN ?_ _ | refine blk_drew ?_ | refine blk_alloc ?_ _)); refine blk_put (cs := #[.int .i64 ((rd_T133 l0_1 x21_2).f0), .slice A4_1 ((rd_T133 l0_1 x21_2).f1).length c4_1, .slice none 0 0]) ?_ 2 _ rfl; (with_reducible repeat (first | refine blk_drewN ?_ _ | refine blk_drew ?_ | refine blk_alloc ?_ _)); refine blk_put (cs := #[.int .i64 ((rd_T133 l0_1 x21_2).f0), .slice none 0 0, .slice none 0 0]) ?_ 1 _ rfl; (with_reducible repeat (first | refine blk_drewN ?_ _ | refine blk_drew ?_ | refine blk_alloc ?_ _)); refine blk_put (cs := #[.int .i64 0, .slice none 0 0, .slice none 0 0]) ?_ 0 _ rfl; (with_reducible repeat (first | refine blk_drewN ?_ _ | refine blk_drew ?_ | refine blk_alloc ?_ _)); exact BK5.out) hb); have n2_ := bs_ hb; clear BK1; clear BK5; clear HB; have BK1 := n0_; have BK5 := n1_; have HB := n2_; clear n0_ n1_ n2_; (try clear hb); (try clear hb2); (try clear hk); (try clear hi); obtain ⟨hcz25_0, hcz25_1, hcz25_2, hfz25_0, hfz25_1, hfz25_2⟩ := bc3_ BK5.out))
       go_meet
       case rel => exact ⟨_, (decide ((((rd_T133 l0_1 x21_2).f1).length : Int) > 4)), sd_, H', ⟨by have := HJ1.out; have := HK2.out; first | omega | exact Nat.le_refl _⟩, ⟨bk_⟩, ⟨bk_⟩, ⟨bw_⟩⟩
      replace c21 := Bool.eq_false_iff.mpr c21
      subst c21
      have H1 : (impl_MachineText.j2 k2 x3_2 l0_1 (l0_1.length : Int) x21_2 true l0_0 l0_1 ((rd_T133 l0_1 x21_2).f0) ((rd_T133 l0_1 x21_2).f1) ((rd_T133 l0_1 x21_2).f2)) = some r := by rw [if_neg (show ¬ (false = true) by decide)] at H; exact H
      clear H
      have H := H1
      clear H1
      have H' := Aside0.mk H
      clear H
      have hnb26 := NB5_1.out
      have hnc26 := NB1_5.out
      obtain ⟨hcz27_0, hcz27_1, hcz27_2, hfz27_0, hfz27_1, hfz27_2⟩ := bc3_ BK5.out
      go_wp2_with (first | ((with_reducible refine gate_callee (f := 98) rfl ?_); refine goesL_ (some 27) rfl rfl Tryd.func98 (by kernel_rfl) rfl #[.slice A4_2 ((rd_T133 l0_1 x21_2).f2).length c4_2] rfl ar_ ?_; (with_reducible refine (impl_BufOk.calls _ _ ((rd_T133 l0_1 x21_2).f2) false _ ?side1 ?side2 A20.out).mono ?_); (case side1 => exact Kd.C_below HR4_2.out bw_); (case side2 => exact HC4_2.out); rintro e w28 ⟨rfl, hb⟩; refine ⟨_, rfl, ?_⟩; have n0_ := Aside0.mk (blk_below (g := gb1) (o := .cells #[.slice A0_0 l0_0.length c0_0, .slice (some ad4) l0_1.length c0_1] 80 (0, 0)) (by (with_reducible repeat (first | refine blk_drewN ?_ _ | refine blk_drew ?_ | refine blk_alloc ?_ _)); refine blk_far ?_ NB1_5.out _; (with_reducible repeat (first | refine blk_drewN ?_ _ | refine blk_drew ?_ | refine blk_alloc ?_ _)); refine blk_far ?_ NB1_5.out _; (with_reducible repeat (first | refine blk_drewN ?_ _ | refine blk_drew ?_ | refine blk_alloc ?_ _)); refine blk_far ?_ NB1_5.out _; (with_reducible repeat (first | refine blk_drewN ?_ _ | refine blk_drew ?_ | refine blk_alloc ?_ _)); exact BK1.out) hb); have n1_ := Aside0.mk (blk_below (g := gb5) (o := .cells #[.int .i64 ((rd_T133 l0_1 x21_2).f0), .slice A4_1 ((rd_T133 l0_1 x21_2).f1).length c4_1, .slice A4_2 ((rd_T133 l0_1 x21_2).f2).length c4_2] 133 (0, 0)) (by (with_reducible repeat (first | refine blk_drewN ?_ _ | refine blk_drew ?_ | refine blk_alloc ?_ _)); refine blk_put (cs := #[.int .i64 ((rd_T133 l0_1 x21_2).f0), .slice A4_1 ((rd_T133 l0_1 x21_2).f1).length c4_1, .slice none 0 0]) ?_ 2 _ rfl; (with_reducible repeat (first | refine blk_drewN ?_ _ | refine blk_drew ?_ | refine blk_alloc ?_ _)); refine blk_put (cs := #[.int .i64 ((rd_T133 l0_1 x21_2).f0), .slice none 0 0, .slice none 0 0]) ?_ 1 _ rfl; (with_reducible repeat (first | refine blk_drewN ?_ _ | refine blk_drew ?_ | refine blk_alloc ?_ _)); refine blk_put (cs := #[.int .i64 0, .slice none 0 0, .slice none 0 0]) ?_ 0 _ rfl; (with_reducible repeat (first | refine blk_drewN ?_ _ | refine blk_drew ?_ | refine blk_alloc ?_ _)); exact BK5.out) hb); have n2_ := bs_ hb; clear BK1; clear BK5; clear HB; have BK1 := n0_; have BK5 := n1_; have HB := n2_; clear n0_ n1_ n2_; (try clear hb); (try clear hb2); (try clear hk); (try clear hi)))
      go_meet
      case rel => exact ⟨_, (true), sd_, H', ⟨by have := HJ1.out; have := HK2.out; first | omega | exact Nat.le_refl _⟩, ⟨bk_⟩, ⟨bk_⟩, ⟨bw_⟩⟩
     case rest =>
      clear HC16
      try clear c1
      try clear c2
      try clear p2
      try clear c4
      try clear p4
      try clear q4
      try clear hx4
      try clear c5
      try clear c9
      try clear c10
      try clear c11
      try clear c13
      try clear c13b0
      try clear c14
      try clear c14b0
      try clear c15
      try clear c15b0
      try clear c18
      try clear c21
      try clear c22
      try clear c26
      try clear hcz12_0 hcz12_1
      try clear hcz19_0 hcz19_1 hcz19_2
      try clear hcz23_0 hcz23_1 hcz23_2
      try clear hcz25_0 hcz25_1 hcz25_2
      try clear hcz27_0 hcz27_1 hcz27_2
      try clear hcz6_0 hcz6_1
      try clear hcz8_0 hcz8_1
      try clear hcz9_0 hcz9_1
      try clear hfz12_0 hfz12_1
      try clear hfz19_0 hfz19_1 hfz19_2
      try clear hfz23_0 hfz23_1 hfz23_2
      try clear hfz25_0 hfz25_1 hfz25_2
      try clear hfz27_0 hfz27_1 hfz27_2
      try clear hfz6_0 hfz6_1
      try clear hfz8_0 hfz8_1
      try clear hfz9_0 hfz9_1
      try clear hx4_0
      try clear hx4_1
      try clear hx4_2
      try clear p2
      try clear p4
      try clear q4
      obtain ⟨kq, x34_15, rfl, HA, HJ15, BK1, BK5, HB⟩ := hcut
      cases kq with
      | zero => exact absurd HA.out (by simp [impl_MachineText.j2])
      | succ kj15 =>
       have H := HA.out
       clear HA
       simp only [impl_MachineText.j2] at H
       by_cases c29 : x34_15 = true
       ·subst c29
        have H1 : (some (⟨#[]⟩ : ByteArray)) = some r := by rw [if_pos rfl] at H; exact H
        clear H
        have H := H1
        clear H1
        obtain rfl := Option.some.inj H
        go_wp2
        go_ret
        exact ⟨rr_, bw_⟩
       replace c29 := Bool.eq_false_iff.mpr c29
       subst c29
       have H1 : ((strconv_Itoa.f ((rd_T133 l0_1 x21_2).f0)).bind fun t7 => (if 1 + t7.size ≤ 9223372036854775807 then (if x3_2.size + ((⟨#[116]⟩ : ByteArray) ++ t7).size ≤ 9223372036854775807 then (impl_MachineText.l1 kj15 (x3_2 ++ ((⟨#[116]⟩ : ByteArray) ++ t7)) l0_1 (l0_1.length : Int) x21_2 ((rd_T133 l0_1 x21_2).f1) (((rd_T133 l0_1 x21_2).f1).length : Int) 0 l0_0 l0_1 ((rd_T133 l0_1 x21_2).f0) ((rd_T133 l0_1 x21_2).f1) ((rd_T133 l0_1 x21_2).f2)) else (none)) else (none))) = some r := by rw [if_neg (show ¬ (false = true) by decide)] at H; exact H
       clear H
       have H := H1
       clear H1
       replace H := Option.bind_eq_some_iff.mp H
       obtain ⟨t7, A300, H⟩ := H
       replace H : (if 1 + t7.size ≤ 9223372036854775807 then (if x3_2.size + ((⟨#[116]⟩ : ByteArray) ++ t7).size ≤ 9223372036854775807 then (impl_MachineText.l1 kj15 (x3_2 ++ ((⟨#[116]⟩ : ByteArray) ++ t7)) l0_1 (l0_1.length : Int) x21_2 ((rd_T133 l0_1 x21_2).f1) (((rd_T133 l0_1 x21_2).f1).length : Int) 0 l0_0 l0_1 ((rd_T133 l0_1 x21_2).f0) ((rd_T133 l0_1 x21_2).f1) ((rd_T133 l0_1 x21_2).f2)) else (none)) else (none)) = some r := H
       have A30 := Aside0.mk A300
       clear A300
       by_cases c31 : 1 + t7.size ≤ 9223372036854775807
       rotate_left
       ·rw [if_neg c31] at H
        exact absurd H (by simp)
       rw [if_pos c31] at H
       have c31b0 := eq_true c31
       have c31b1 : decide (1 + t7.size ≤ 9223372036854775807) = true := decide_eq_true c31
       try have c31b2 : (9223372036854775807 < 1 + t7.size) = False := eq_false (Nat.not_lt.2 c31)
       by_cases c32 : x3_2.size + ((⟨#[116]⟩ : ByteArray) ++ t7).size ≤ 9223372036854775807
       rotate_left
       ·rw [if_neg c32] at H
        exact absurd H (by simp)
       rw [if_pos c32] at H
       have c32b0 := eq_true c32
       have c32z0 := eq_true (show x3_2.size + (1 + t7.size) ≤ 9223372036854775807 by have h_ := c32; simp only [ByteArray.size_append] at h_; exact h_)
       have c32z2 : (9223372036854775807 < x3_2.size + (1 + t7.size)) = False := eq_false (Nat.not_lt.2 (show x3_2.size + (1 + t7.size) ≤ 9223372036854775807 by have h_ := c32; simp only [ByteArray.size_append] at h_; exact h_))
       have c32b1 : decide (x3_2.size + ((⟨#[116]⟩ : ByteArray) ++ t7).size ≤ 9223372036854775807) = true := decide_eq_true c32
       try have c32b2 : (9223372036854775807 < x3_2.size + ((⟨#[116]⟩ : ByteArray) ++ t7).size) = False := eq_false (Nat.not_lt.2 c32)
       have H' := Aside0.mk H
       clear H
       have hnb33 := NB5_1.out
       have hnc33 := NB1_5.out
       obtain ⟨hcz34_0, hcz34_1, hcz34_2, hfz34_0, hfz34_1, hfz34_2⟩ := bc3_ BK5.out
       go_wp2_with (first | ((with_reducible refine gate_callee (f := 93) rfl ?_); refine goesL_ (some 38) rfl rfl Tryd.func93 (by kernel_rfl) rfl #[.int .i64 ((rd_T133 l0_1 x21_2).f0)] rfl ar_ ?_; (with_reducible refine (strconv_Itoa.calls (hE_ := ee_) ((rd_T133 l0_1 x21_2).f0) t7 _ A30.out).mono ?_); rintro e w35 ⟨rfl, hb⟩; refine ⟨_, rfl, ?_⟩; have n0_ := bb_ BK1.out hb; have n1_ := bb_ BK5.out hb; have n2_ := bs_ hb; clear BK1; clear BK5; clear HB; have BK1 := n0_; have BK5 := n1_; have HB := n2_; clear n0_ n1_ n2_; (try clear hb); (try clear hb2); (try clear hk); (try clear hi); obtain ⟨hcz36_0, hcz36_1, hcz36_2, hfz36_0, hfz36_1, hfz36_2⟩ := bc3_ BK5.out))
       go_loopg [3, 44] kj15 (fun kq v3 v44 w' => ∃ (x3_4 : ByteArray) (x44_4 : Int), v3 = .string x3_4 ∧ v44 = .int .i64 x44_4 ∧ Aside0 (impl_MachineText.l1 kq x3_4 l0_1 (l0_1.length : Int) x21_2 ((rd_T133 l0_1 x21_2).f1) (((rd_T133 l0_1 x21_2).f1).length : Int) x44_4 l0_0 l0_1 ((rd_T133 l0_1 x21_2).f0) ((rd_T133 l0_1 x21_2).f1) ((rd_T133 l0_1 x21_2).f2) = some r) ∧ Aside0 (kq ≤ kj15) ∧ Aside0 (w'.heap[gb1]? = some (.cells #[(.slice A0_0 l0_0.length c0_0), (.slice (some ad4) l0_1.length c0_1)] 80 (0, 0))) ∧ Aside0 (w'.heap[gb5]? = some (.cells #[.int .i64 ((rd_T133 l0_1 x21_2).f0), (.slice A4_1 ((rd_T133 l0_1 x21_2).f1).length c4_1), (.slice A4_2 ((rd_T133 l0_1 x21_2).f2).length c4_2)] 133 (0, 0))) ∧ Aside0 (Below w.heap.size w w'))
       case atStart => exact ⟨(x3_2 ++ ((⟨#[116]⟩ : ByteArray) ++ t7)), (0), sd_, sd_, H', ⟨Nat.le_refl _⟩, ⟨bk_⟩, ⟨bk_⟩, ⟨bw_⟩⟩
       case round =>
        clear H'
        try clear c1
        try clear c2
        try clear p2
        try clear c3
        try clear c4
        try clear p4
        try clear q4
        try clear hx4
        try clear c5
        try clear c9
        try clear c10
        try clear c11
        try clear c13
        try clear c13b0
        try clear c14
        try clear c14b0
        try clear c15
        try clear c15b0
        try clear c18
        try clear c21
        try clear c22
        try clear c26
        try clear c29
        try clear c31
        try clear c31b0
        try clear c31b1
        try clear c31b2
        try clear c32
        try clear c32b0
        try clear c32b1
        try clear c32b2
        try clear c33
        try clear hcz12_0 hcz12_1
        try clear hcz19_0 hcz19_1 hcz19_2
        try clear hcz23_0 hcz23_1 hcz23_2
        try clear hcz25_0 hcz25_1 hcz25_2
        try clear hcz27_0 hcz27_1 hcz27_2
        try clear hcz34_0 hcz34_1 hcz34_2
        try clear hcz36_0 hcz36_1 hcz36_2
        try clear hcz6_0 hcz6_1
        try clear hcz8_0 hcz8_1
        try clear hcz9_0 hcz9_1
        try clear hfz12_0 hfz12_1
        try clear hfz19_0 hfz19_1 hfz19_2
        try clear hfz23_0 hfz23_1 hfz23_2
        try clear hfz25_0 hfz25_1 hfz25_2
        try clear hfz27_0 hfz27_1 hfz27_2
        try clear hfz34_0 hfz34_1 hfz34_2
        try clear hfz36_0 hfz36_1 hfz36_2
        try clear hfz6_0 hfz6_1
        try clear hfz8_0 hfz8_1
        try clear hfz9_0 hfz9_1
        try clear hx4_0
        try clear hx4_1
        try clear hx4_2
        try clear p2
        try clear p4
        try clear q4
        obtain ⟨x3_4, x44_4, rfl, rfl, HA, HK4, BK1, BK5, HB⟩ := hrel
        cases gk with
        | zero => exact absurd HA.out (by simp [impl_MachineText.l1])
        | succ k4 =>
         have H := HA.out
         clear HA
         simp only [impl_MachineText.l1] at H
         by_cases c37 : x44_4 < (((rd_T133 l0_1 x21_2).f1).length : Int)
         rotate_left
         ·rw [if_neg c37] at H
          have c37b0 : decide (x44_4 < (((rd_T133 l0_1 x21_2).f1).length : Int)) = false := decide_eq_false c37
          clear c37
          replace H := Option.bind_eq_some_iff.mp H
          obtain ⟨t10, A440, H⟩ := H
          replace H : (if 1 + t10.size ≤ 9223372036854775807 then (if ((⟨#[32]⟩ : ByteArray) ++ t10).size + 3 ≤ 9223372036854775807 then (if x3_4.size + (((⟨#[32]⟩ : ByteArray) ++ t10) ++ (⟨#[32, 124, 32]⟩ : ByteArray)).size ≤ 9223372036854775807 then (impl_MachineText.l0 k4 (x3_4 ++ (((⟨#[32]⟩ : ByteArray) ++ t10) ++ (⟨#[32, 124, 32]⟩ : ByteArray))) l0_1 (l0_1.length : Int) (wrap64 (x21_2 + 1)) l0_0 l0_1) else (none)) else (none)) else (none)) = some r := H
          have A44 := Aside0.mk A440
          clear A440
          by_cases c45 : 1 + t10.size ≤ 9223372036854775807
          rotate_left
          ·rw [if_neg c45] at H
           exact absurd H (by simp)
          rw [if_pos c45] at H
          have c45b0 := eq_true c45
          have c45b1 : decide (1 + t10.size ≤ 9223372036854775807) = true := decide_eq_true c45
          try have c45b2 : (9223372036854775807 < 1 + t10.size) = False := eq_false (Nat.not_lt.2 c45)
          by_cases c46 : ((⟨#[32]⟩ : ByteArray) ++ t10).size + 3 ≤ 9223372036854775807
          rotate_left
          ·rw [if_neg c46] at H
           exact absurd H (by simp)
          rw [if_pos c46] at H
          have c46b0 := eq_true c46
          have c46z0 := eq_true (show (1 + t10.size) + 3 ≤ 9223372036854775807 by have h_ := c46; simp only [ByteArray.size_append] at h_; exact h_)
          have c46z2 : (9223372036854775807 < (1 + t10.size) + 3) = False := eq_false (Nat.not_lt.2 (show (1 + t10.size) + 3 ≤ 9223372036854775807 by have h_ := c46; simp only [ByteArray.size_append] at h_; exact h_))
          have c46b1 : decide (((⟨#[32]⟩ : ByteArray) ++ t10).size + 3 ≤ 9223372036854775807) = true := decide_eq_true c46
          try have c46b2 : (9223372036854775807 < ((⟨#[32]⟩ : ByteArray) ++ t10).size + 3) = False := eq_false (Nat.not_lt.2 c46)
          by_cases c47 : x3_4.size + (((⟨#[32]⟩ : ByteArray) ++ t10) ++ (⟨#[32, 124, 32]⟩ : ByteArray)).size ≤ 9223372036854775807
          rotate_left
          ·rw [if_neg c47] at H
           exact absurd H (by simp)
          rw [if_pos c47] at H
          have c47b0 := eq_true c47
          have c47z0 := eq_true (show x3_4.size + (1 + t10.size + 3) ≤ 9223372036854775807 by have h_ := c47; simp only [ByteArray.size_append] at h_; exact h_)
          have c47z2 : (9223372036854775807 < x3_4.size + (1 + t10.size + 3)) = False := eq_false (Nat.not_lt.2 (show x3_4.size + (1 + t10.size + 3) ≤ 9223372036854775807 by have h_ := c47; simp only [ByteArray.size_append] at h_; exact h_))
          have c47b1 : decide (x3_4.size + (((⟨#[32]⟩ : ByteArray) ++ t10) ++ (⟨#[32, 124, 32]⟩ : ByteArray)).size ≤ 9223372036854775807) = true := decide_eq_true c47
          try have c47b2 : (9223372036854775807 < x3_4.size + (((⟨#[32]⟩ : ByteArray) ++ t10) ++ (⟨#[32, 124, 32]⟩ : ByteArray)).size) = False := eq_false (Nat.not_lt.2 c47)
          have H' := Aside0.mk H
          clear H
          have hnb48 := NB5_1.out
          have hnc48 := NB1_5.out
          obtain ⟨hcz49_0, hcz49_1, hcz49_2, hfz49_0, hfz49_1, hfz49_2⟩ := bc3_ BK5.out
          go_wp2_with (first | ((with_reducible refine gate_callee (f := 35) rfl ?_); refine goesL_ (some 57) rfl rfl Tryd.func35 (by kernel_rfl) rfl #[.slice A4_2 ((rd_T133 l0_1 x21_2).f2).length c4_2] rfl ar_ ?_; (with_reducible refine (impl_BufText.calls (hE_ := ee_) k4 _ _ ((rd_T133 l0_1 x21_2).f2) t10 _ ?side1 ?side2 A44.out).mono ?_); (case side1 => exact cb_); (case side2 => exact HC4_2.out); rintro e w50 ⟨rfl, hb⟩; refine ⟨_, rfl, ?_⟩; have n0_ := bb_ BK1.out hb; have n1_ := bb_ BK5.out hb; have n2_ := bs_ hb; clear BK1; clear BK5; clear HB; have BK1 := n0_; have BK5 := n1_; have HB := n2_; clear n0_ n1_ n2_; (try clear hb); (try clear hb2); (try clear hk); (try clear hi)))
          go_roundg k4
          case measure => have := HJ1.out; have := HK2.out; have := HJ15.out; have := HK4.out; omega
          case rel => exact ⟨(x3_4 ++ (((⟨#[32]⟩ : ByteArray) ++ t10) ++ (⟨#[32, 124, 32]⟩ : ByteArray))), (wrap64 (x21_2 + 1)), sd_, sd_, H', ⟨by have := HJ1.out; have := HK2.out; have := HJ15.out; have := HK4.out; omega⟩, ⟨bk_⟩, ⟨bw_⟩⟩
         rw [if_pos c37] at H
         have c37b0 : decide (x44_4 < (((rd_T133 l0_1 x21_2).f1).length : Int)) = true := decide_eq_true c37
         clear c37
         by_cases c38 : 0 ≤ x44_4
         rotate_left
         ·rw [if_neg c38] at H
          exact absurd H (by simp)
         rw [if_pos c38] at H
         have c38b0 : decide (0 ≤ x44_4) = true := decide_eq_true c38
         clear c38
         by_cases c39 : x44_4 < (((rd_T133 l0_1 x21_2).f1).length : Int)
         rotate_left
         ·rw [if_neg c39] at H
          exact absurd H (by simp)
         rw [if_pos c39] at H
         have c39b0 : decide (x44_4 < (((rd_T133 l0_1 x21_2).f1).length : Int)) = true := decide_eq_true c39
         clear c39
         replace H := Option.bind_eq_some_iff.mp H
         obtain ⟨t9, A400, H⟩ := H
         replace H : (if 1 + t9.size ≤ 9223372036854775807 then (if x3_4.size + ((⟨#[32]⟩ : ByteArray) ++ t9).size ≤ 9223372036854775807 then (impl_MachineText.l1 k4 (x3_4 ++ ((⟨#[32]⟩ : ByteArray) ++ t9)) l0_1 (l0_1.length : Int) x21_2 ((rd_T133 l0_1 x21_2).f1) (((rd_T133 l0_1 x21_2).f1).length : Int) (wrap64 (x44_4 + 1)) l0_0 l0_1 ((rd_T133 l0_1 x21_2).f0) ((rd_T133 l0_1 x21_2).f1) ((rd_T133 l0_1 x21_2).f2)) else (none)) else (none)) = some r := H
         have A40 := Aside0.mk A400
         clear A400
         by_cases c41 : 1 + t9.size ≤ 9223372036854775807
         rotate_left
         ·rw [if_neg c41] at H
          exact absurd H (by simp)
         rw [if_pos c41] at H
         have c41b0 := eq_true c41
         have c41b1 : decide (1 + t9.size ≤ 9223372036854775807) = true := decide_eq_true c41
         try have c41b2 : (9223372036854775807 < 1 + t9.size) = False := eq_false (Nat.not_lt.2 c41)
         by_cases c42 : x3_4.size + ((⟨#[32]⟩ : ByteArray) ++ t9).size ≤ 9223372036854775807
         rotate_left
         ·rw [if_neg c42] at H
          exact absurd H (by simp)
         rw [if_pos c42] at H
         have c42b0 := eq_true c42
         have c42z0 := eq_true (show x3_4.size + (1 + t9.size) ≤ 9223372036854775807 by have h_ := c42; simp only [ByteArray.size_append] at h_; exact h_)
         have c42z2 : (9223372036854775807 < x3_4.size + (1 + t9.size)) = False := eq_false (Nat.not_lt.2 (show x3_4.size + (1 + t9.size) ≤ 9223372036854775807 by have h_ := c42; simp only [ByteArray.size_append] at h_; exact h_))
         have c42b1 : decide (x3_4.size + ((⟨#[32]⟩ : ByteArray) ++ t9).size ≤ 9223372036854775807) = true := decide_eq_true c42
         try have c42b2 : (9223372036854775807 < x3_4.size + ((⟨#[32]⟩ : ByteArray) ++ t9).size) = False := eq_false (Nat.not_lt.2 c42)
         have H' := Aside0.mk H
         clear H
         have p8 : 0 ≤ (x44_4 : Int) := od_
         have q8 : x44_4 < (((rd_T133 l0_1 x21_2).f1).length : Int) := od_
         obtain ⟨ad8, e8, hx8_0⟩ := Kd.at_int HR4_1.out x44_4 p8 q8
         cases e8
         replace hx8_0 := (HB.out.cell (World.block_lt_of_cell? w _ hx8_0)).trans hx8_0
         replace p8 := eq_true p8
         replace q8 := eq_true q8
         go_wp2_with (first | ((with_reducible refine gate_callee (f := 93) rfl ?_); refine goesL_ (some 50) rfl rfl Tryd.func93 (by kernel_rfl) rfl #[.int .i64 (rd ((rd_T133 l0_1 x21_2).f1) x44_4)] rfl ar_ ?_; (with_reducible refine (strconv_Itoa.calls (hE_ := ee_) (rd ((rd_T133 l0_1 x21_2).f1) x44_4) t9 _ A40.out).mono ?_); rintro e w43 ⟨rfl, hb⟩; refine ⟨_, rfl, ?_⟩; have n0_ := bb_ BK1.out hb; have n1_ := bb_ BK5.out hb; have n2_ := bs_ hb; clear BK1; clear BK5; clear HB; have BK1 := n0_; have BK5 := n1_; have HB := n2_; clear n0_ n1_ n2_; (try clear hb); (try clear hb2); (try clear hk); (try clear hi)))
         go_roundg k4
         case measure => have := HJ1.out; have := HK2.out; have := HJ15.out; have := HK4.out; omega
         case rel => exact ⟨(x3_4 ++ ((⟨#[32]⟩ : ByteArray) ++ t9)), (wrap64 (x44_4 + 1)), sd_, sd_, H', ⟨by have := HJ1.out; have := HK2.out; have := HJ15.out; have := HK4.out; omega⟩, ⟨bk_⟩, ⟨bk_⟩, ⟨bw_⟩⟩

end Go.Proofs.YtchpopocnaoabaaDoor.P
