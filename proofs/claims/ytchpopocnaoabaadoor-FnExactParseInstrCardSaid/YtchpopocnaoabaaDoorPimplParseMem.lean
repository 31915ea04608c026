-- Written by mp.py (the session's own driver over the kit's printer) for the seat YtchpopocnaoabaaDoor.
import Derived.Test.YtchpopocnaoabaaDoorK
import Derived.Test.YtchpopocnaoabaaDoorE
import Derived.Test.YtchpopocnaoabaaDoorPimplMemOk
import Derived.Test.YtchpopocnaoabaaDoorPstrconvAtoi
import Derived.Test.YtchpopocnaoabaaDoorPstringsSplitN
import Derived.Test.YtchpopocnaoabaaDoorEnv
namespace Go.Proofs.YtchpopocnaoabaaDoor.P
open Go.RowKit Go.Proofs.YtchpopocnaoabaaDoorW.PrintWords Go.Proofs.YtchpopocnaoabaaDoorW.PrintLast Go.Proofs.YtchpopocnaoabaaDoorW.PrintMore
attribute [local go_sem] max2_int min2_int max_two min_two max_three min_three max_four min_four
set_option linter.unusedVariables false
set_option linter.unusedSimpArgs false

/-! ### impl_ParseMem: function 59 -/
def impl_ParseMem.l0 : Nat → ByteArray → List ByteArray → Int → Int → List Int → Option (List Int × Bool)
 | 0, _, _, _, _, _ => none
 | k + 1, x0, x11, x12, x13, x3000 => if x13 < x12 then (if 0 ≤ x13 then (if x13 < (x11.length : Int) then ((strconv_Atoi.f (rdOf ByteArray.empty x11 x13)).bind fun bt7 => (if bt7.2 = true then (some (([] : List Int), false)) else (if x3000.length < 17592186044416 then (impl_ParseMem.l0 k x0 x11 x12 (wrap64 (x13 + 1)) (x3000 ++ [bt7.1])) else (none)))) else (none)) else (none)) else ((impl_MemOk.f x3000).bind fun t12 => (if t12 = true then ((impl_MemText.f k x3000).bind fun t13 => (if t13.toList = x0.toList then (some (x3000, true)) else (some (([] : List Int), false)))) else (some (([] : List Int), false))))
def impl_ParseMem.f (k : Nat) (a0 : ByteArray) : Option (List Int × Bool) := (strings_SplitN.f a0 (⟨#[32]⟩ : ByteArray) 17).bind fun t3 => (impl_ParseMem.l0 k a0 t3 (t3.length : Int) 0 ([] : List Int))
theorem impl_ParseMem.mono_l : ∀ k, (∀ y0 y1 y2 y3 y4, LeO (impl_ParseMem.l0 k y0 y1 y2 y3 y4) (impl_ParseMem.l0 (k + 1) y0 y1 y2 y3 y4))
 | 0 => fun _ _ _ _ _ r h => by simp [impl_ParseMem.l0] at h
 | k + 1 => by
  have ih0 := impl_ParseMem.mono_l k
  ·intro y0 y1 y2 y3 y4
   unfold impl_ParseMem.l0
   repeat' first | (with_reducible first | exact ih0 _ _ _ _ _ | exact impl_MemText.mono _ _ | exact lr_ | exact ln_ | refine LeO.ite ?_ ?_ | refine LeO.bind ?_ (fun _ => ?_)) | exact ih0 _ _ _ _ _ | exact impl_MemText.mono _ _ | exact ln_ | refine LeO.ite ?_ ?_ | refine LeO.bind ?_ (fun _ => ?_)
theorem impl_ParseMem.mono : ∀ a0 k, LeO (impl_ParseMem.f k a0) (impl_ParseMem.f (k + 1) a0) := by
 intro a0 k
 have ih0 := impl_ParseMem.mono_l k
 unfold impl_ParseMem.f
 repeat' first | (with_reducible first | exact ih0 _ _ _ _ _ | exact impl_MemText.mono _ _ | exact lr_ | exact ln_ | refine LeO.ite ?_ ?_ | refine LeO.bind ?_ (fun _ => ?_)) | exact ih0 _ _ _ _ _ | exact impl_MemText.mono _ _ | exact ln_ | refine LeO.ite ?_ ?_ | refine LeO.bind ?_ (fun _ => ?_)
set_option maxHeartbeats 8000000 in
set_option maxRecDepth 100000 in
theorem impl_ParseMem.calls (k : Nat) (a0 : ByteArray) (r1 : List Int) (r2 : Bool) (w : World) (hE_ : EnvOk true w) (h : impl_ParseMem.f k a0 = some (r1, r2)) :
  Calls Tryd.prog 59 #[.string a0] w fun e w' => ∃ v0_ : Value, e = .returned (.tuple #[.agg #[v0_], .bool r2]) ∧ Kd.R (Kd.int .i64) 3 w' w.heap.size (fun _ => True) v0_ r1 ∧ Below w.heap.size w w' := by
 have HE_ := Aside0.mk hE_
 clear hE_
 have hu60 := Tryd.underlying60
 have HB := Aside0.mk (Below.refl w.heap.size w)
 have H : ((strings_SplitN.f a0 (⟨#[32]⟩ : ByteArray) 17).bind fun t3 => (impl_ParseMem.l0 k a0 t3 (t3.length : Int) 0 ([] : List Int))) = some (r1, r2) := h
 clear h
 replace H := Option.bind_eq_some_iff.mp H
 obtain ⟨t3, A20, H⟩ := H
 replace H : (impl_ParseMem.l0 k a0 t3 (t3.length : Int) 0 ([] : List Int)) = some (r1, r2) := H
 have A2 := Aside0.mk A20
 clear A20
 have H' := Aside0.mk H
 clear H
 go_enter Tryd.func59, Tryd.ntmps59
 go_wp2_with (first | ((with_reducible refine gate_dst (N := 2) rfl ?_); refine box_event ?hg (N := 2) ?hd (cs := #[.slice none 0 0]) (t := 60) ?hr ?_; (case hd => rfl); (case hg => rfl); (case hr => exact hrr_); intro gb1 hg w3 hbox hb; have n0_ := bs_ hb; have n1_ := Aside0.mk (hbox); have n2_ := ge_ (w := w) hg; have n3_ := ge_ (w := w) hg; clear HB; have HB := n0_; have BK1 := n1_; have GW1 := n2_; have GE1 := n3_; clear n0_ n1_ n2_ n3_; clear hb hbox hg) | ((with_reducible refine gate_dst (N := 4) rfl ?_); refine box_event ?hg (N := 4) ?hd (cs := #[.slice none 0 0]) (t := 60) ?hr ?_; (case hd => rfl); (case hg => rfl); (case hr => exact hrr_); intro gb2 hg w4 hbox hb; have n0_ := bb_ BK1.out hb; have n1_ := bs_ hb; have n2_ := Aside0.mk (hbox); have n3_ := ge_ (w := w) hg; have n4_ := ge_ (w := w) hg; have n5_ := nl_ BK1.out hg; have n6_ := nr_ BK1.out hg; clear BK1; clear HB; have BK1 := n0_; have HB := n1_; have BK2 := n2_; have GW2 := n3_; have GE2 := n4_; have NB1_2 := n5_; have NB2_1 := n6_; clear n0_ n1_ n2_ n3_ n4_ n5_ n6_; clear hb hbox hg; have hnb5 := NB2_1.out; have hnc5 := NB1_2.out; obtain ⟨hcz6_0, hfz6_0⟩ := bc1_ BK2.out) | ((with_reducible refine gate_callee (f := 79) rfl ?_); refine goesL_ (some 11) rfl rfl Tryd.func79 (by kernel_rfl) rfl #[.string a0, .string (⟨#[32]⟩ : ByteArray), .int .i64 17] rfl ar_ ?_; (with_reducible refine (strings_SplitN.calls (hE_ := ee_) a0 (⟨#[32]⟩ : ByteArray) 17 t3 _ A2.out).mono ?_); rintro e w7 ⟨v4, rfl, ho0, hb⟩; refine ⟨_, rfl, ?_⟩; have n0_ := Aside0.mk (Kd.R_lower ho0 (below_size bw_)); have n1_ := Aside0.mk (blk_below (g := gb1) (o := .cells #[.slice none 0 0] 60 (0, 0)) (by (with_reducible repeat (first | refine blk_drewN ?_ _ | refine blk_drew ?_ | refine blk_alloc ?_ _)); refine blk_far ?_ NB1_2.out _; (with_reducible repeat (first | refine blk_drewN ?_ _ | refine blk_drew ?_ | refine blk_alloc ?_ _)); exact BK1.out) hb); have n2_ := Aside0.mk (blk_below (g := gb2) (o := .cells #[.slice none 0 0] 60 (0, 0)) (by (with_reducible repeat (first | refine blk_drewN ?_ _ | refine blk_drew ?_ | refine blk_alloc ?_ _)); refine blk_put (cs := #[.slice none 0 0]) ?_ 0 _ rfl; (with_reducible repeat (first | refine blk_drewN ?_ _ | refine blk_drew ?_ | refine blk_alloc ?_ _)); exact BK2.out) hb); have n3_ := bs_ hb; clear BK1; clear BK2; clear HB; have HO5 := n0_; have BK1 := n1_; have BK2 := n2_; have HB := n3_; clear n0_ n1_ n2_ n3_; (try clear hb); (try clear hb2); (try clear hk); (try clear hi); (try clear ho0); obtain ⟨Ao8, co8, eo8⟩ := Kd.R_slice HO5.out; subst eo8))
 go_loopg [13] k (fun kq v13 w' => ∃ (x13_1 : Int) (x3000_1 : List Int) (u3000 : Value), v13 = .int .i64 x13_1 ∧ Aside0 (impl_ParseMem.l0 kq a0 t3 (t3.length : Int) x13_1 x3000_1 = some (r1, r2)) ∧ Aside0 (kq ≤ k) ∧ Aside0 (Kd.R Kd.string 9 w' w.heap.size (fun _ => True) (.slice Ao8 t3.length co8) t3) ∧ Aside0 (Kd.R (Kd.int .i64) 3 w' w.heap.size (fun _ => True) u3000 x3000_1) ∧ Aside0 (w'.heap[gb1]? = some (.cells #[(.slice none 0 0)] 60 (0, 0))) ∧ Aside0 (w'.heap[gb2]? = some (.cells #[u3000] 60 (0, 0))) ∧ Aside0 (Below w.heap.size w w'))
 case atStart => exact ⟨(0), (([] : List Int)), (.slice none 0 0), sd_, H', ⟨Nat.le_refl _⟩, ⟨by (with_reducible repeat (first | apply Kd.R_alloc | apply Kd.R_drewN | apply Kd.R_drew)); exact HO5.out⟩, ⟨by first | exact Kd.R_nil _ _ _ _ _ | exact Kd.N_nil _ _ _ _ _ | exact Kd.V_nil _ _ _ _ _ | exact Kd.Q_nil _ _ _ _ _ | exact Kd.S_nil _ _ _ _ _⟩, ⟨bk_⟩, ⟨bk_⟩, ⟨bw_⟩⟩
 case round =>
  clear H'
  try clear p2
  try clear c5
  try clear c7
  try clear hcz6_0
  try clear hfz6_0
  obtain ⟨x13_1, x3000_1, u3000, rfl, HA, HK1, HO_11, HO_3000, BK1, BK2, HB⟩ := hrel
  cases gk with
  | zero => exact absurd HA.out (by simp [impl_ParseMem.l0])
  | succ k1 =>
   have H := HA.out
   clear HA
   simp only [impl_ParseMem.l0] at H
   by_cases c9 : x13_1 < (t3.length : Int)
   ·rw [if_pos c9] at H
    have c9b0 : decide (x13_1 < (t3.length : Int)) = true := decide_eq_true c9
    clear c9
    by_cases c10 : 0 ≤ x13_1
    rotate_left
    ·rw [if_neg c10] at H
     exact absurd H (by simp)
    rw [if_pos c10] at H
    have c10b0 : decide (0 ≤ x13_1) = true := decide_eq_true c10
    clear c10
    by_cases c11 : x13_1 < (t3.length : Int)
    rotate_left
    ·rw [if_neg c11] at H
     exact absurd H (by simp)
    rw [if_pos c11] at H
    have c11b0 : decide (x13_1 < (t3.length : Int)) = true := decide_eq_true c11
    clear c11
    replace H := Option.bind_eq_some_iff.mp H
    obtain ⟨⟨t7, t8⟩, A120, H⟩ := H
    replace H : (if t8 = true then (some (([] : List Int), false)) else (if x3000_1.length < 17592186044416 then (impl_ParseMem.l0 k1 a0 t3 (t3.length : Int) (wrap64 (x13_1 + 1)) (x3000_1 ++ [t7])) else (none))) = some (r1, r2) := H
    have A12 := Aside0.mk A120
    clear A120
    by_cases c13 : t8 = true
    ·subst c13
     have H1 : (some (([] : List Int), false)) = some (r1, r2) := by rw [if_pos rfl] at H; exact H
     clear H
     have H := H1
     clear H1
     simp only [Option.some.injEq, Prod.mk.injEq] at H
     obtain ⟨rfl, rfl⟩ := H
     have p6 : 0 ≤ (x13_1 : Int) := od_
     have q6 : x13_1 < (t3.length : Int) := od_
     obtain ⟨ad6, e6, hx6_0⟩ := Kd.at_string (Kd.R_reads' HO_11.out).2.2 x13_1 p6 q6
     cases e6
     replace p6 := eq_true p6
     replace q6 := eq_true q6
     go_wp2_with (first | ((with_reducible refine gate_callee (f := 114) rfl ?_); refine goesL_ (some 19) rfl rfl Tryd.func114 (by kernel_rfl) rfl #[.string (rdOf ByteArray.empty t3 x13_1)] rfl ar_ ?_; (with_reducible refine (strconv_Atoi.calls (hE_ := ee_) (rdOf ByteArray.empty t3 x13_1) t7 true _ A12.out).mono ?_); rintro e w14 ⟨ev_, rfl, hq_, hgd_, hb⟩; refine ⟨_, rfl, ?_⟩; have n0_ := Aside0.mk (Kd.R_below (rx_ HO_11.out) hb); have n1_ := Aside0.mk (Kd.R_below (rx_ HO_3000.out) hb); have n2_ := bb_ BK1.out hb; have n3_ := bb_ BK2.out hb; have n4_ := bs_ hb; clear HO_11; clear HO_3000; clear BK1; clear BK2; clear HB; have HO_11 := n0_; have HO_3000 := n1_; have BK1 := n2_; have BK2 := n3_; have HB := n4_; clear n0_ n1_ n2_ n3_ n4_; (try clear hb); (try clear hb2); (try clear hk); (try clear hi); have hnb15 := NB1_2.out; have hnc15 := NB2_1.out; obtain ⟨hcz16_0, hfz16_0⟩ := bc1_ BK1.out))
     refine bodyPost_ret (results_ct rfl _ _ gb1 60 #[.slice none 0 0] (0, 0) _ rfl (by (with_reducible repeat (first | refine blk_drewN ?_ _ | refine blk_drew ?_ | refine blk_alloc ?_ _)); refine blk_put (cs := #[.slice none 0 0]) ?_ 0 _ rfl; (with_reducible repeat (first | refine blk_drewN ?_ _ | refine blk_drew ?_ | refine blk_alloc ?_ _)); exact BK1.out) Tryd.underlying60 rfl (by kernel_rfl)) rfl ?_
     exact ⟨_, rr_, by first | exact Kd.R_nil _ _ _ _ _ | exact Kd.N_nil _ _ _ _ _ | exact Kd.V_nil _ _ _ _ _ | exact Kd.Q_nil _ _ _ _ _ | exact Kd.S_nil _ _ _ _ _, bw_⟩
    replace c13 := Bool.eq_false_iff.mpr c13
    subst c13
    have H1 : (if x3000_1.length < 17592186044416 then (impl_ParseMem.l0 k1 a0 t3 (t3.length : Int) (wrap64 (x13_1 + 1)) (x3000_1 ++ [t7])) else (none)) = some (r1, r2) := by rw [if_neg (show ¬ (false = true) by decide)] at H; exact H
    clear H
    have H := H1
    clear H1
    by_cases c17 : x3000_1.length < 17592186044416
    rotate_left
    ·rw [if_neg c17] at H
     exact absurd H (by simp)
    rw [if_pos c17] at H
    have LMc17 := Aside0.mk c17
    clear c17
    obtain ⟨y9, hy9⟩ : ∃ y_ : List Int, y_ = (x3000_1 ++ [t7]) := ⟨_, rfl⟩
    replace H : (impl_ParseMem.l0 k1 a0 t3 (t3.length : Int) (wrap64 (x13_1 + 1)) y9) = some (r1, r2) := by first | (rw [hy9]; with_reducible exact H) | (have H2_ := (Option.bind_some _ _).symm.trans H; rw [hy9]; with_reducible exact H2_) | (have H2_ := (Option.bind_some _ _).symm.trans H; with_reducible exact H2_) | with_reducible exact H | (rw [hy9]; exact H) | exact H
    have Ny9 := Aside0.mk hy9
    clear hy9
    have H' := Aside0.mk H
    clear H
    have p6 : 0 ≤ (x13_1 : Int) := od_
    have q6 : x13_1 < (t3.length : Int) := od_
    obtain ⟨ad6, e6, hx6_0⟩ := Kd.at_string (Kd.R_reads' HO_11.out).2.2 x13_1 p6 q6
    cases e6
    replace p6 := eq_true p6
    replace q6 := eq_true q6
    go_wp2_with (first | ((with_reducible refine gate_callee (f := 114) rfl ?_); refine goesL_ (some 19) rfl rfl Tryd.func114 (by kernel_rfl) rfl #[.string (rdOf ByteArray.empty t3 x13_1)] rfl ar_ ?_; (with_reducible refine (strconv_Atoi.calls (hE_ := ee_) (rdOf ByteArray.empty t3 x13_1) t7 false _ A12.out).mono ?_); rintro e w18 ⟨ev_, rfl, hq_, hgd_, hb⟩; refine ⟨_, rfl, ?_⟩; have n0_ := Aside0.mk (Kd.R_below (rx_ HO_11.out) hb); have n1_ := Aside0.mk (Kd.R_below (rx_ HO_3000.out) hb); have n2_ := bb_ BK1.out hb; have n3_ := bb_ BK2.out hb; have n4_ := bs_ hb; clear HO_11; clear HO_3000; clear BK1; clear BK2; clear HB; have HO_11 := n0_; have HO_3000 := n1_; have BK1 := n2_; have BK2 := n3_; have HB := n4_; clear n0_ n1_ n2_ n3_ n4_; (try clear hb); (try clear hb2); (try clear hk); (try clear hi); have hnb19 := NB2_1.out; have hnc19 := NB1_2.out; obtain ⟨hcz20_0, hfz20_0⟩ := bc1_ BK2.out) | ((with_reducible refine gate_builtin (b := .append) (xs := #[.tmp 26, .tmp 28]) rfl ?_); at_builtin; refine Kd.R_append (Kd.int .i64) (w0 := w) w.heap.size rfl (.tmp 26) (.tmp 28) 55 3 (.int .i64 0) 8 rfl Tryd.underlying55 info3 rfl (by decide) (by omega) u3000 x3000_1 t7 [.int .i64 t7] (fun _ => True) (fun _ => False) rfl rfl ?aP (fun _ hk => hk.elim) ?aF ?aO ?aB ?aS ?aL ?_; (case aP => exact rfl); (case aB => exact bw_); (case aF => exact (fun _ _ => trivial)); (case aO => exact (rx_ HO_3000.out)); (case aS => exact (below_size bw_)); (case aL => have := LMc17.out; omega); intro v10 w21 ho hb hg hat; rw [← Ny9.out] at ho; have n0_ := Aside0.mk (Kd.R_over' (rx_ HO_11.out) (Kd.R_typed (rx_ HO_3000.out)) (by decide) hg); have n1_ := Aside0.mk (blk_grown (g := gb1) (o := .cells #[.slice none 0 0] 60 (0, 0)) bk_ hg (Kd.R_ne HO_3000.out BK1.out (by decide))); have n2_ := Aside0.mk (blk_grown (g := gb2) (o := .cells #[u3000] 60 (0, 0)) bk_ hg (Kd.R_ne HO_3000.out BK2.out (by decide))); have n3_ := Aside0.mk (hb); have n4_ := Aside0.mk (ho); clear HO_11; clear BK1; clear BK2; clear HB; clear HO_3000; have HO_11 := n0_; have BK1 := n1_; have BK2 := n2_; have HB := n3_; have HO11 := n4_; clear n0_ n1_ n2_ n3_ n4_; clear ho hb hg hat; obtain ⟨Ao22, co22, eo22⟩ := Kd.R_slice HO11.out; subst eo22; obtain ⟨hcz23_0, hfz23_0⟩ := bc1_ BK2.out))
    go_roundg k1
    case measure => have := HK1.out; omega
    case rel => exact ⟨(wrap64 (x13_1 + 1)), (y9), (.slice Ao22 y9.length co22), sd_, H', ⟨by have := HK1.out; omega⟩, ⟨by (with_reducible repeat (first | apply Kd.R_alloc | apply Kd.R_drewN | apply Kd.R_drew)); exact Kd.R_mono (Kd.R_far (p := ⟨gb2, 0, none⟩) (Kd.R_types HO_11.out BK2.out (by decide)) (fun _ hk => hk.2) (.slice Ao22 y9.length co22)) (fun _ hk => trivial)⟩, ⟨by (with_reducible repeat (first | apply Kd.R_alloc | apply Kd.R_drewN | apply Kd.R_drew)); exact Kd.R_mono (Kd.R_far (p := ⟨gb2, 0, none⟩) (Kd.R_types HO11.out BK2.out (by decide)) (fun _ hk => hk.2) (.slice Ao22 y9.length co22)) (fun _ hk => trivial)⟩, ⟨by (with_reducible repeat (first | refine blk_drewN ?_ _ | refine blk_drew ?_ | refine blk_alloc ?_ _)); refine blk_far ?_ NB1_2.out _; (with_reducible repeat (first | refine blk_drewN ?_ _ | refine blk_drew ?_ | refine blk_alloc ?_ _)); exact BK1.out⟩, ⟨by (with_reducible repeat (first | refine blk_drewN ?_ _ | refine blk_drew ?_ | refine blk_alloc ?_ _)); refine blk_put (cs := #[u3000]) ?_ 0 _ rfl; (with_reducible repeat (first | refine blk_drewN ?_ _ | refine blk_drew ?_ | refine blk_alloc ?_ _)); exact BK2.out⟩, ⟨bw_⟩⟩
   rw [if_neg c9] at H
   have c9b0 : decide (x13_1 < (t3.length : Int)) = false := decide_eq_false c9
   clear c9
   replace H := Option.bind_eq_some_iff.mp H
   obtain ⟨t12, A240, H⟩ := H
   replace H : (if t12 = true then ((impl_MemText.f k1 x3000_1).bind fun t13 => (if t13.toList = a0.toList then (some (x3000_1, true)) else (some (([] : List Int), false)))) else (some (([] : List Int), false))) = some (r1, r2) := H
   have A24 := Aside0.mk A240
   clear A240
   by_cases c25 : t12 = true
   rotate_left
   ·replace c25 := Bool.eq_false_iff.mpr c25
    subst c25
    have H1 : (some (([] : List Int), false)) = some (r1, r2) := by rw [if_neg (show ¬ (false = true) by decide)] at H; exact H
    clear H
    have H := H1
    clear H1
    simp only [Option.some.injEq, Prod.mk.injEq] at H
    obtain ⟨rfl, rfl⟩ := H
    have hnb43 := NB2_1.out
    have hnc43 := NB1_2.out
    obtain ⟨hcz44_0, hfz44_0⟩ := bc1_ BK2.out
    obtain ⟨Ao45, co45, eo45⟩ := Kd.R_slice HO_3000.out
    subst eo45
    go_wp2_with (first | ((with_reducible refine gate_callee (f := 103) rfl ?_); refine goesL_ (some 33) rfl rfl Tryd.func103 (by kernel_rfl) rfl #[.agg #[.slice Ao45 x3000_1.length co45]] rfl ar_ ?_; (with_reducible refine (impl_MemOk.calls _ _ x3000_1 false _ ?side1 ?side2 A24.out).mono ?_); (case side1 => repeat (first | exact (Kd.R_reads' HO_3000.out).2.2 | (with_reducible refine Kd.C_alloc ?_ _) | (with_reducible refine Kd.C_drewN ?_ _) | (with_reducible refine Kd.C_drew ?_))); (case side2 => exact (Kd.R_reads' HO_3000.out).2.1); rintro e w46 ⟨rfl, hb⟩; refine ⟨_, rfl, ?_⟩; have n0_ := Aside0.mk (Kd.R_below (rx_ HO_11.out) hb); have n1_ := Aside0.mk (Kd.R_below (rx_ HO_3000.out) hb); have n2_ := bb_ BK1.out hb; have n3_ := bb_ BK2.out hb; have n4_ := bs_ hb; clear HO_11; clear HO_3000; clear BK1; clear BK2; clear HB; have HO_11 := n0_; have HO_3000 := n1_; have BK1 := n2_; have BK2 := n3_; have HB := n4_; clear n0_ n1_ n2_ n3_ n4_; (try clear hb); (try clear hb2); (try clear hk); (try clear hi); obtain ⟨hcz47_0, hfz47_0⟩ := bc1_ BK1.out))
    refine bodyPost_ret (results_ct rfl _ _ gb1 60 #[.slice none 0 0] (0, 0) _ rfl (by (with_reducible repeat (first | refine blk_drewN ?_ _ | refine blk_drew ?_ | refine blk_alloc ?_ _)); refine blk_put (cs := #[.slice none 0 0]) ?_ 0 _ rfl; (with_reducible repeat (first | refine blk_drewN ?_ _ | refine blk_drew ?_ | refine blk_alloc ?_ _)); exact BK1.out) Tryd.underlying60 rfl (by kernel_rfl)) rfl ?_
    exact ⟨_, rr_, by first | exact Kd.R_nil _ _ _ _ _ | exact Kd.N_nil _ _ _ _ _ | exact Kd.V_nil _ _ _ _ _ | exact Kd.Q_nil _ _ _ _ _ | exact Kd.S_nil _ _ _ _ _, bw_⟩
   subst c25
   have H1 : ((impl_MemText.f k1 x3000_1).bind fun t13 => (if t13.toList = a0.toList then (some (x3000_1, true)) else (some (([] : List Int), false)))) = some (r1, r2) := by rw [if_pos rfl] at H; exact H
   clear H
   have H := H1
   clear H1
   replace H := Option.bind_eq_some_iff.mp H
   obtain ⟨t13, A260, H⟩ := H
   replace H : (if t13.toList = a0.toList then (some (x3000_1, true)) else (some (([] : List Int), false))) = some (r1, r2) := H
   have A26 := Aside0.mk A260
   clear A260
   by_cases c27 : t13.toList = a0.toList
   rotate_left
   ·rw [if_neg c27] at H
    have c27b0 : (t13.toList == a0.toList) = false := beq_eq_false_iff_ne.mpr c27
    have c27b1 : (t13.toList != a0.toList) = true := bne_iff_ne.mpr c27
    simp only [Option.some.injEq, Prod.mk.injEq] at H
    obtain ⟨rfl, rfl⟩ := H
    have hnb36 := NB2_1.out
    have hnc36 := NB1_2.out
    obtain ⟨hcz37_0, hfz37_0⟩ := bc1_ BK2.out
    obtain ⟨Ao38, co38, eo38⟩ := Kd.R_slice HO_3000.out
    subst eo38
    go_wp2_with (first | ((with_reducible refine gate_callee (f := 103) rfl ?_); refine goesL_ (some 33) rfl rfl Tryd.func103 (by kernel_rfl) rfl #[.agg #[.slice Ao38 x3000_1.length co38]] rfl ar_ ?_; (with_reducible refine (impl_MemOk.calls _ _ x3000_1 true _ ?side1 ?side2 A24.out).mono ?_); (case side1 => repeat (first | exact (Kd.R_reads' HO_3000.out).2.2 | (with_reducible refine Kd.C_alloc ?_ _) | (with_reducible refine Kd.C_drewN ?_ _) | (with_reducible refine Kd.C_drew ?_))); (case side2 => exact (Kd.R_reads' HO_3000.out).2.1); rintro e w39 ⟨rfl, hb⟩; refine ⟨_, rfl, ?_⟩; have n0_ := Aside0.mk (Kd.R_below (rx_ HO_11.out) hb); have n1_ := Aside0.mk (Kd.R_below (rx_ HO_3000.out) hb); have n2_ := bb_ BK1.out hb; have n3_ := bb_ BK2.out hb; have n4_ := bs_ hb; clear HO_11; clear HO_3000; clear BK1; clear BK2; clear HB; have HO_11 := n0_; have HO_3000 := n1_; have BK1 := n2_; have BK2 := n3_; have HB := n4_; clear n0_ n1_ n2_ n3_ n4_; (try clear hb); (try clear hb2); (try clear hk); (try clear hi); obtain ⟨hcz40_0, hfz40_0⟩ := bc1_ BK2.out) | (go_at_call 40; (with_reducible refine (impl_MemText.calls (hE_ := ee_) k1 _ _ x3000_1 t13 _ ?side1 ?side2 A26.out).mono ?_); (case side1 => repeat (first | exact (Kd.R_reads' HO_3000.out).2.2 | (with_reducible refine Kd.C_alloc ?_ _) | (with_reducible refine Kd.C_drewN ?_ _) | (with_reducible refine Kd.C_drew ?_))); (case side2 => exact (Kd.R_reads' HO_3000.out).2.1); rintro e w41 ⟨rfl, hb⟩; have n0_ := Aside0.mk (Kd.R_below (rx_ HO_11.out) hb); have n1_ := Aside0.mk (Kd.R_below (rx_ HO_3000.out) hb); have n2_ := bb_ BK1.out hb; have n3_ := bb_ BK2.out hb; have n4_ := bs_ hb; clear HO_11; clear HO_3000; clear BK1; clear BK2; clear HB; have HO_11 := n0_; have HO_3000 := n1_; have BK1 := n2_; have BK2 := n3_; have HB := n4_; clear n0_ n1_ n2_ n3_ n4_; (try clear hb); (try clear hb2); (try clear hk); (try clear hi); obtain ⟨hcz42_0, hfz42_0⟩ := bc1_ BK1.out))
    refine bodyPost_ret (results_ct rfl _ _ gb1 60 #[.slice none 0 0] (0, 0) _ rfl (by (with_reducible repeat (first | refine blk_drewN ?_ _ | refine blk_drew ?_ | refine blk_alloc ?_ _)); refine blk_put (cs := #[.slice none 0 0]) ?_ 0 _ rfl; (with_reducible repeat (first | refine blk_drewN ?_ _ | refine blk_drew ?_ | refine blk_alloc ?_ _)); exact BK1.out) Tryd.underlying60 rfl (by kernel_rfl)) rfl ?_
    exact ⟨_, rr_, by first | exact Kd.R_nil _ _ _ _ _ | exact Kd.N_nil _ _ _ _ _ | exact Kd.V_nil _ _ _ _ _ | exact Kd.Q_nil _ _ _ _ _ | exact Kd.S_nil _ _ _ _ _, bw_⟩
   rw [if_pos c27] at H
   have c27b0 : (t13.toList == a0.toList) = true := beq_iff_eq.mpr c27
   have c27b1 : (t13.toList != a0.toList) = false := bne_eq_false_iff_eq.mpr c27
   clear c27
   simp only [Option.some.injEq, Prod.mk.injEq] at H
   obtain ⟨rfl, rfl⟩ := H
   have hnb28 := NB2_1.out
   have hnc28 := NB1_2.out
   obtain ⟨hcz29_0, hfz29_0⟩ := bc1_ BK2.out
   obtain ⟨Ao30, co30, eo30⟩ := Kd.R_slice HO_3000.out
   subst eo30
   go_wp2_with (first | ((with_reducible refine gate_callee (f := 103) rfl ?_); refine goesL_ (some 33) rfl rfl Tryd.func103 (by kernel_rfl) rfl #[.agg #[.slice Ao30 x3000_1.length co30]] rfl ar_ ?_; (with_reducible refine (impl_MemOk.calls _ _ x3000_1 true _ ?side1 ?side2 A24.out).mono ?_); (case side1 => repeat (first | exact (Kd.R_reads' HO_3000.out).2.2 | (with_reducible refine Kd.C_alloc ?_ _) | (with_reducible refine Kd.C_drewN ?_ _) | (with_reducible refine Kd.C_drew ?_))); (case side2 => exact (Kd.R_reads' HO_3000.out).2.1); rintro e w31 ⟨rfl, hb⟩; refine ⟨_, rfl, ?_⟩; have n0_ := Aside0.mk (Kd.R_below (rx_ HO_11.out) hb); have n1_ := Aside0.mk (Kd.R_below (rx_ HO_3000.out) hb); have n2_ := bb_ BK1.out hb; have n3_ := bb_ BK2.out hb; have n4_ := bs_ hb; clear HO_11; clear HO_3000; clear BK1; clear BK2; clear HB; have HO_11 := n0_; have HO_3000 := n1_; have BK1 := n2_; have BK2 := n3_; have HB := n4_; clear n0_ n1_ n2_ n3_ n4_; (try clear hb); (try clear hb2); (try clear hk); (try clear hi); obtain ⟨hcz32_0, hfz32_0⟩ := bc1_ BK2.out) | (go_at_call 40; (with_reducible refine (impl_MemText.calls (hE_ := ee_) k1 _ _ x3000_1 t13 _ ?side1 ?side2 A26.out).mono ?_); (case side1 => repeat (first | exact (Kd.R_reads' HO_3000.out).2.2 | (with_reducible refine Kd.C_alloc ?_ _) | (with_reducible refine Kd.C_drewN ?_ _) | (with_reducible refine Kd.C_drew ?_))); (case side2 => exact (Kd.R_reads' HO_3000.out).2.1); rintro e w33 ⟨rfl, hb⟩; have n0_ := Aside0.mk (Kd.R_below (rx_ HO_11.out) hb); have n1_ := Aside0.mk (Kd.R_below (rx_ HO_3000.out) hb); have n2_ := bb_ BK1.out hb; have n3_ := bb_ BK2.out hb; have n4_ := bs_ hb; clear HO_11; clear HO_3000; clear BK1; clear BK2; clear HB; have HO_11 := n0_; have HO_3000 := n1_; have BK1 := n2_; have BK2 := n3_; have HB := n4_; clear n0_ n1_ n2_ n3_ n4_; (try clear hb); (try clear hb2); (try clear hk); (try clear hi); obtain ⟨hcz34_0, hfz34_0⟩ := bc1_ BK2.out; obtain ⟨hcz35_0, hfz35_0⟩ := bc1_ BK1.out))
   refine bodyPost_ret (results_ct rfl _ _ gb1 60 #[.slice Ao30 x3000_1.length co30] (0, 0) _ rfl (by (with_reducible repeat (first | refine blk_drewN ?_ _ | refine blk_drew ?_ | refine blk_alloc ?_ _)); refine blk_put (cs := #[.slice none 0 0]) ?_ 0 _ rfl; (with_reducible repeat (first | refine blk_drewN ?_ _ | refine blk_drew ?_ | refine blk_alloc ?_ _)); exact BK1.out) Tryd.underlying60 rfl (by kernel_rfl)) rfl ?_
   exact ⟨_, rr_, by (with_reducible repeat (first | apply Kd.R_alloc | apply Kd.R_drewN | apply Kd.R_drew)); exact Kd.R_mono (Kd.R_far (p := ⟨gb1, 0, none⟩) (Kd.R_types HO_3000.out BK1.out (by decide)) (fun _ hk => hk.2) (.slice Ao30 x3000_1.length co30)) (fun _ hk => trivial), bw_⟩

end Go.Proofs.YtchpopocnaoabaaDoor.P
