-- Written by mp.py (the session's own driver over the kit's printer) for the seat YtbgclnjnngolmaaGreatDoor.
import Derived.Test.YtbgclnjnngolmaaGreatDoorK
import Derived.Test.YtbgclnjnngolmaaGreatDoorPimplAtomtext
import Derived.Test.YtbgclnjnngolmaaGreatDoorPstrconvAtoi
import Derived.Test.YtbgclnjnngolmaaGreatDoorPstringsCut
import Derived.Test.YtbgclnjnngolmaaGreatDoorPstringsTrim
import Derived.Test.YtbgclnjnngolmaaGreatDoorEnv
namespace Go.Proofs.YtbgclnjnngolmaaGreatDoor.P
open Go.RowKit Go.Proofs.YtbgclnjnngolmaaGreatDoorW.PrintWords Go.Proofs.YtbgclnjnngolmaaGreatDoorW.PrintLast Go.Proofs.YtbgclnjnngolmaaGreatDoorW.PrintMore
attribute [local go_sem] max2_int min2_int max_two min_two max_three min_three max_four min_four
set_option linter.unusedVariables false
set_option linter.unusedSimpArgs false

/-! ### impl_parseAtom: function 27 -/
def impl_parseAtom.l0 : Nat → ByteArray → List ByteArray → Int → Int → Int → Int → Int → Int → Option (Int × Int × Int × Int × Bool)
 | 0, _, _, _, _, _, _, _, _ => none
 | k + 1, x0, x36, x37, x38, x3000, x3001, x3002, x3003 => if x38 < x37 then (if 0 ≤ x38 then (if x38 < (x36.length : Int) then ((strconv_Atoi.f (rdOf ByteArray.empty x36 x38)).bind fun bt13 => (if bt13.2 = true then (some (0, 0, 0, 0, false)) else (if x38 = 0 then (impl_parseAtom.l0 k x0 x36 x37 (wrap64 (x38 + 1)) x3000 bt13.1 x3002 x3003) else (if x38 = 1 then (impl_parseAtom.l0 k x0 x36 x37 (wrap64 (x38 + 1)) x3000 x3001 bt13.1 x3003) else (impl_parseAtom.l0 k x0 x36 x37 (wrap64 (x38 + 1)) x3000 x3001 x3002 bt13.1))))) else (none)) else (none)) else ((impl_Atom_text.f k x3000 x3001 x3002 x3003).bind fun t16 => (some (x3000, x3001, x3002, x3003, (t16.toList == x0.toList))))
def impl_parseAtom.f (k : Nat) (a0 : ByteArray) : Option (Int × Int × Int × Int × Bool) := (strings_Cut.f a0 (⟨#[61]⟩ : ByteArray)).bind fun bt3 => ((strings_Cut.f bt3.1 (⟨#[58]⟩ : ByteArray)).bind fun bt6 => (if bt6.2.2 = true then ((some (([bt6.1, bt6.2.1, bt3.2.1] : List ByteArray) : List ByteArray)).bind fun y9 => (impl_parseAtom.l0 k a0 y9 (y9.length : Int) 0 0 0 0 0)) else ((strings_Trim.f bt3.1 (⟨#[91, 93]⟩ : ByteArray)).bind fun t17 => ((some (([(⟨#[48]⟩ : ByteArray), t17, bt3.2.1] : List ByteArray) : List ByteArray)).bind fun y18 => (impl_parseAtom.l0 k a0 y18 (y18.length : Int) 0 1 0 0 0)))))
theorem impl_parseAtom.mono_l : ∀ k, (∀ y0 y1 y2 y3 y4 y5 y6 y7, LeO (impl_parseAtom.l0 k y0 y1 y2 y3 y4 y5 y6 y7) (impl_parseAtom.l0 (k + 1) y0 y1 y2 y3 y4 y5 y6 y7))
 | 0 => fun _ _ _ _ _ _ _ _ r h => by simp [impl_parseAtom.l0] at h
 | k + 1 => by
  have ih0 := impl_parseAtom.mono_l k
  ·intro y0 y1 y2 y3 y4 y5 y6 y7
   unfold impl_parseAtom.l0
   repeat' first | (with_reducible first | exact ih0 _ _ _ _ _ _ _ _ | exact impl_Atom_text.mono _ _ _ _ _ | exact lr_ | exact ln_ | refine LeO.ite ?_ ?_ | refine LeO.bind ?_ (fun _ => ?_)) | exact ih0 _ _ _ _ _ _ _ _ | exact impl_Atom_text.mono _ _ _ _ _ | exact ln_ | refine LeO.ite ?_ ?_ | refine LeO.bind ?_ (fun _ => ?_)
theorem impl_parseAtom.mono : ∀ a0 k, LeO (impl_parseAtom.f k a0) (impl_parseAtom.f (k + 1) a0) := by
 intro a0 k
 have ih0 := impl_parseAtom.mono_l k
 unfold impl_parseAtom.f
 repeat' first | (with_reducible first | exact ih0 _ _ _ _ _ _ _ _ | exact impl_Atom_text.mono _ _ _ _ _ | exact lr_ | exact ln_ | refine LeO.ite ?_ ?_ | refine LeO.bind ?_ (fun _ => ?_)) | exact ih0 _ _ _ _ _ _ _ _ | exact impl_Atom_text.mono _ _ _ _ _ | exact ln_ | refine LeO.ite ?_ ?_ | refine LeO.bind ?_ (fun _ => ?_)
theorem ptrs_event_ {P : Program} {ops : Array Oper} {rest : List Oper} {o : Oper} {a : Act} {Q : Exit → Act → World → Prop} {W : World} (hgd : o.guard = none) {N : Tmp} (_hd : o.dst = some N) {cs : Array Value} {t : TypeId}
  (hrun : (execOp a.eval o).run P W = .ok (.value (.slice (some ⟨W.heap.size, 0, none⟩) 3 3)) (W.alloc (.cells cs t (0, 0))))
  (h : ∀ g, g = W.heap.size → ∀ w1, w1.heap[g]? = some (.cells cs t (0, 0)) → Below W.heap.size W w1 → wpList P ops Q rest (a.put o.dst (.slice (some ⟨g, 0, none⟩) 3 3)) w1) : wpList P ops Q (o :: rest) a W :=
 Kd.event_run hgd hrun (h _ rfl _ (blk_new W _) (below_alloc (Below.refl _ _) _))
set_option maxHeartbeats 8000000 in
set_option maxRecDepth 100000 in
theorem impl_parseAtom.calls (k : Nat) (a0 : ByteArray) (r1 : Int) (r2 : Int) (r3 : Int) (r4 : Int) (r5 : Bool) (w : World) (hE_ : EnvOk true w) (h : impl_parseAtom.f k a0 = some (r1, r2, r3, r4, r5)) :
  Calls Tryz.prog 27 #[.string a0] w fun e w' => e = .returned (.tuple #[.agg #[.int .i64 r1, .int .i64 r2, .int .i64 r3, .int .i64 r4], .bool r5]) ∧ Below w.heap.size w w' := by
 have HE_ := Aside0.mk hE_
 clear hE_
 have hu46 := Tryz.underlying46
 have HB := Aside0.mk (Below.refl w.heap.size w)
 have H : ((strings_Cut.f a0 (⟨#[61]⟩ : ByteArray)).bind fun bt3 => ((strings_Cut.f bt3.1 (⟨#[58]⟩ : ByteArray)).bind fun bt6 => (if bt6.2.2 = true then ((some (([bt6.1, bt6.2.1, bt3.2.1] : List ByteArray) : List ByteArray)).bind fun y9 => (impl_parseAtom.l0 k a0 y9 (y9.length : Int) 0 0 0 0 0)) else ((strings_Trim.f bt3.1 (⟨#[91, 93]⟩ : ByteArray)).bind fun t17 => ((some (([(⟨#[48]⟩ : ByteArray), t17, bt3.2.1] : List ByteArray) : List ByteArray)).bind fun y18 => (impl_parseAtom.l0 k a0 y18 (y18.length : Int) 0 1 0 0 0)))))) = some (r1, r2, r3, r4, r5) := h
 clear h
 replace H := Option.bind_eq_some_iff.mp H
 obtain ⟨⟨t3, t4, t5⟩, A20, H⟩ := H
 replace H : ((strings_Cut.f t3 (⟨#[58]⟩ : ByteArray)).bind fun bt6 => (if bt6.2.2 = true then ((some (([bt6.1, bt6.2.1, t4] : List ByteArray) : List ByteArray)).bind fun y9 => (impl_parseAtom.l0 k a0 y9 (y9.length : Int) 0 0 0 0 0)) else ((strings_Trim.f t3 (⟨#[91, 93]⟩ : ByteArray)).bind fun t17 => ((some (([(⟨#[48]⟩ : ByteArray), t17, t4] : List ByteArray) : List ByteArray)).bind fun y18 => (impl_parseAtom.l0 k a0 y18 (y18.length : Int) 0 1 0 0 0))))) = some (r1, r2, r3, r4, r5) := H
 have A2 := Aside0.mk A20
 clear A20
 replace H := Option.bind_eq_some_iff.mp H
 obtain ⟨⟨t6, t7, t8⟩, A30, H⟩ := H
 replace H : (if t8 = true then ((some (([t6, t7, t4] : List ByteArray) : List ByteArray)).bind fun y9 => (impl_parseAtom.l0 k a0 y9 (y9.length : Int) 0 0 0 0 0)) else ((strings_Trim.f t3 (⟨#[91, 93]⟩ : ByteArray)).bind fun t17 => ((some (([(⟨#[48]⟩ : ByteArray), t17, t4] : List ByteArray) : List ByteArray)).bind fun y18 => (impl_parseAtom.l0 k a0 y18 (y18.length : Int) 0 1 0 0 0)))) = some (r1, r2, r3, r4, r5) := H
 have A3 := Aside0.mk A30
 clear A30
 by_cases c4 : t8 = true
 ·subst c4
  have H1 : ((some (([t6, t7, t4] : List ByteArray) : List ByteArray)).bind fun y9 => (impl_parseAtom.l0 k a0 y9 (y9.length : Int) 0 0 0 0 0)) = some (r1, r2, r3, r4, r5) := by rw [if_pos rfl] at H; exact H
  clear H
  have H := H1
  clear H1
  obtain ⟨y9, hy9⟩ : ∃ y_ : List ByteArray, y_ = (([t6, t7, t4] : List ByteArray)) := ⟨_, rfl⟩
  replace H : (impl_parseAtom.l0 k a0 y9 (y9.length : Int) 0 0 0 0 0) = some (r1, r2, r3, r4, r5) := by first | (rw [hy9]; with_reducible exact H) | (have H2_ := (Option.bind_some _ _).symm.trans H; rw [hy9]; with_reducible exact H2_) | (have H2_ := (Option.bind_some _ _).symm.trans H; with_reducible exact H2_) | with_reducible exact H | (rw [hy9]; exact H) | exact H
  have Ny9 := Aside0.mk hy9
  clear hy9
  have H' := Aside0.mk H
  clear H
  go_enter Tryz.func27, Tryz.ntmps27
  go_wp2_with (first | ((with_reducible refine gate_dst (N := 2) rfl ?_); refine box_event ?hg (N := 2) ?hd (cs := #[.int .i64 0, .int .i64 0, .int .i64 0, .int .i64 0]) (t := 46) ?hr ?_; (case hd => rfl); (case hg => rfl); (case hr => exact hrr_); intro gb1 hg w5 hbox hb; have n0_ := bs_ hb; have n1_ := Aside0.mk (hbox); have n2_ := ge_ (w := w) hg; have n3_ := ge_ (w := w) hg; clear HB; have HB := n0_; have BK1 := n1_; have GW1 := n2_; have GE1 := n3_; clear n0_ n1_ n2_ n3_; clear hb hbox hg) | ((with_reducible refine gate_dst (N := 4) rfl ?_); refine box_event ?hg (N := 4) ?hd (cs := #[.int .i64 0, .int .i64 0, .int .i64 0, .int .i64 0]) (t := 46) ?hr ?_; (case hd => rfl); (case hg => rfl); (case hr => exact hrr_); intro gb2 hg w6 hbox hb; have n0_ := bb_ BK1.out hb; have n1_ := bs_ hb; have n2_ := Aside0.mk (hbox); have n3_ := ge_ (w := w) hg; have n4_ := ge_ (w := w) hg; have n5_ := nl_ BK1.out hg; have n6_ := nr_ BK1.out hg; clear BK1; clear HB; have BK1 := n0_; have HB := n1_; have BK2 := n2_; have GW2 := n3_; have GE2 := n4_; have NB1_2 := n5_; have NB2_1 := n6_; clear n0_ n1_ n2_ n3_ n4_ n5_ n6_; clear hb hbox hg; have hnb7 := NB2_1.out; have hnc7 := NB1_2.out; obtain ⟨hcz8_0, hcz8_1, hcz8_2, hcz8_3, hfz8_0, hfz8_1, hfz8_2, hfz8_3⟩ := bc4_ BK2.out) | ((with_reducible refine gate_callee (f := 46) rfl ?_); refine goesL_ (some 18) rfl rfl Tryz.func46 (by kernel_rfl) rfl #[.string a0, .string (⟨#[61]⟩ : ByteArray)] rfl ar_ ?_; (with_reducible refine (strings_Cut.calls (hE_ := ee_) a0 (⟨#[61]⟩ : ByteArray) t3 t4 t5 _ A2.out).mono ?_); rintro e w9 ⟨rfl, hb⟩; refine ⟨_, rfl, ?_⟩; have n0_ := Aside0.mk (blk_below (g := gb1) (o := .cells #[.int .i64 0, .int .i64 0, .int .i64 0, .int .i64 0] 46 (0, 0)) (by (with_reducible repeat (first | refine blk_drewN ?_ _ | refine blk_drew ?_ | refine blk_alloc ?_ _)); refine blk_far ?_ NB1_2.out _; (with_reducible repeat (first | refine blk_drewN ?_ _ | refine blk_drew ?_ | refine blk_alloc ?_ _)); refine blk_far ?_ NB1_2.out _; (with_reducible repeat (first | refine blk_drewN ?_ _ | refine blk_drew ?_ | refine blk_alloc ?_ _)); refine blk_far ?_ NB1_2.out _; (with_reducible repeat (first | refine blk_drewN ?_ _ | refine blk_drew ?_ | refine blk_alloc ?_ _)); refine blk_far ?_ NB1_2.out _; (with_reducible repeat (first | refine blk_drewN ?_ _ | refine blk_drew ?_ | refine blk_alloc ?_ _)); exact BK1.out) hb); have n1_ := Aside0.mk (blk_below (g := gb2) (o := .cells #[.int .i64 0, .int .i64 0, .int .i64 0, .int .i64 0] 46 (0, 0)) (by (with_reducible repeat (first | refine blk_drewN ?_ _ | refine blk_drew ?_ | refine blk_alloc ?_ _)); refine blk_put (cs := #[.int .i64 0, .int .i64 0, .int .i64 0, .int .i64 0]) ?_ 3 _ rfl; (with_reducible repeat (first | refine blk_drewN ?_ _ | refine blk_drew ?_ | refine blk_alloc ?_ _)); refine blk_put (cs := #[.int .i64 0, .int .i64 0, .int .i64 0, .int .i64 0]) ?_ 2 _ rfl; (with_reducible repeat (first | refine blk_drewN ?_ _ | refine blk_drew ?_ | refine blk_alloc ?_ _)); refine blk_put (cs := #[.int .i64 0, .int .i64 0, .int .i64 0, .int .i64 0]) ?_ 1 _ rfl; (with_reducible repeat (first | refine blk_drewN ?_ _ | refine blk_drew ?_ | refine blk_alloc ?_ _)); refine blk_put (cs := #[.int .i64 0, .int .i64 0, .int .i64 0, .int .i64 0]) ?_ 0 _ rfl; (with_reducible repeat (first | refine blk_drewN ?_ _ | refine blk_drew ?_ | refine blk_alloc ?_ _)); exact BK2.out) hb); have n2_ := bs_ hb; clear BK1; clear BK2; clear HB; have BK1 := n0_; have BK2 := n1_; have HB := n2_; clear n0_ n1_ n2_; (try clear hb); (try clear hb2); (try clear hk); (try clear hi)) | ((with_reducible refine gate_callee (f := 46) rfl ?_); refine goesL_ (some 24) rfl rfl Tryz.func46 (by kernel_rfl) rfl #[.string t3, .string (⟨#[58]⟩ : ByteArray)] rfl ar_ ?_; (with_reducible refine (strings_Cut.calls (hE_ := ee_) t3 (⟨#[58]⟩ : ByteArray) t6 t7 true _ A3.out).mono ?_); rintro e w10 ⟨rfl, hb⟩; refine ⟨_, rfl, ?_⟩; have n0_ := bb_ BK1.out hb; have n1_ := bb_ BK2.out hb; have n2_ := bs_ hb; clear BK1; clear BK2; clear HB; have BK1 := n0_; have BK2 := n1_; have HB := n2_; clear n0_ n1_ n2_; (try clear hb); (try clear hb2); (try clear hk); (try clear hi)) | ((with_reducible refine gate_dst (N := 36) rfl ?_); refine Kd.R_lit Kd.string _ 9 ?hg (N := 36) ?hd (xs := ([t6, t7, t4] : List ByteArray)) (inner := [.string t6, .string t7, .string t4]) (ok := fun _ => True) (okp := fun _ => True) ?hr ?hp (fun _ hk => hk) trivial (Below.refl _ _) (Nat.le_refl _) (by simp) ?_; (case hd => rfl); (case hg => rfl); (case hr => first | (go_simp; done) | (go_simp; rfl)); (case hp => exact (Reps.one (show Kd.M Kd.string _ _ _ t6 [.string t6] from rfl) (Reps.one (show Kd.M Kd.string _ _ _ t7 [.string t7] from rfl) (Reps.one (show Kd.M Kd.string _ _ _ t4 [.string t4] from rfl) (Reps.none _ _))))); intro v10 w11 ho12 hb hg_ hnew_; clear hg_ hnew_; (first | rw [← Ny9.out] at ho12 | (simp only [Int.reduceToNat] at ho12; rw [← Ny9.out] at ho12)); have n0_ := Aside0.mk (Kd.R_lower ho12 (below_size bw_)); have n1_ := bb_ BK1.out hb; have n2_ := bb_ BK2.out hb; have n3_ := bs_ hb; clear BK1; clear BK2; clear HB; have HO11 := n0_; have BK1 := n1_; have BK2 := n2_; have HB := n3_; clear n0_ n1_ n2_ n3_; clear hb ho12; obtain ⟨Ao13, co13, eo13⟩ := Kd.R_slice HO11.out; subst eo13))
  go_loopg [38] k (fun kq v38 w' => ∃ (x38_1 : Int) (x2000_1 : Int) (x2001_1 : Int) (x2002_1 : Int) (x2003_1 : Int) (x3001_1 : Int) (x3002_1 : Int) (x3003_1 : Int), v38 = .int .i64 x38_1 ∧ Aside0 (impl_parseAtom.l0 kq a0 y9 (y9.length : Int) x38_1 0 x3001_1 x3002_1 x3003_1 = some (r1, r2, r3, r4, r5)) ∧ Aside0 (kq ≤ k) ∧ Aside0 (Kd.R Kd.string 9 w' w.heap.size (fun _ => True) (.slice Ao13 y9.length co13) y9) ∧ Aside0 (w'.heap[gb1]? = some (.cells #[.int .i64 x2000_1, .int .i64 x2001_1, .int .i64 x2002_1, .int .i64 x2003_1] 46 (0, 0))) ∧ Aside0 (w'.heap[gb2]? = some (.cells #[.int .i64 0, .int .i64 x3001_1, .int .i64 x3002_1, .int .i64 x3003_1] 46 (0, 0))) ∧ Aside0 (Below w.heap.size w w'))
  case atStart => exact ⟨(0), (0), (0), (0), (0), (0), (0), (0), sd_, H', ⟨Nat.le_refl _⟩, ⟨by (with_reducible repeat (first | apply Kd.R_alloc | apply Kd.R_drewN | apply Kd.R_drew)); exact HO11.out⟩, ⟨bk_⟩, ⟨bk_⟩, ⟨bw_⟩⟩
  case round =>
   clear H'
   try clear c2
   try clear p2
   try clear c4
   try clear c7
   try clear hcz8_0 hcz8_1 hcz8_2 hcz8_3
   try clear hfz8_0 hfz8_1 hfz8_2 hfz8_3
   obtain ⟨x38_1, x2000_1, x2001_1, x2002_1, x2003_1, x3001_1, x3002_1, x3003_1, rfl, HA, HK1, HO_36, BK1, BK2, HB⟩ := hrel
   cases gk with
   | zero => exact absurd HA.out (by simp [impl_parseAtom.l0])
   | succ k1 =>
    have H := HA.out
    clear HA
    simp only [impl_parseAtom.l0] at H
    by_cases c14 : x38_1 < (y9.length : Int)
    ·rw [if_pos c14] at H
     have c14b0 : decide (x38_1 < (y9.length : Int)) = true := decide_eq_true c14
     clear c14
     by_cases c15 : 0 ≤ x38_1
     rotate_left
     ·rw [if_neg c15] at H
      exact absurd H (by simp)
     rw [if_pos c15] at H
     have c15b0 : decide (0 ≤ x38_1) = true := decide_eq_true c15
     clear c15
     by_cases c16 : x38_1 < (y9.length : Int)
     rotate_left
     ·rw [if_neg c16] at H
      exact absurd H (by simp)
     rw [if_pos c16] at H
     have c16b0 : decide (x38_1 < (y9.length : Int)) = true := decide_eq_true c16
     clear c16
     replace H := Option.bind_eq_some_iff.mp H
     obtain ⟨⟨t13, t14⟩, A170, H⟩ := H
     replace H : (if t14 = true then (some (0, 0, 0, 0, false)) else (if x38_1 = 0 then (impl_parseAtom.l0 k1 a0 y9 (y9.length : Int) (wrap64 (x38_1 + 1)) 0 t13 x3002_1 x3003_1) else (if x38_1 = 1 then (impl_parseAtom.l0 k1 a0 y9 (y9.length : Int) (wrap64 (x38_1 + 1)) 0 x3001_1 t13 x3003_1) else (impl_parseAtom.l0 k1 a0 y9 (y9.length : Int) (wrap64 (x38_1 + 1)) 0 x3001_1 x3002_1 t13)))) = some (r1, r2, r3, r4, r5) := H
     have A17 := Aside0.mk A170
     clear A170
     by_cases c18 : t14 = true
     ·subst c18
      have H1 : (some (0, 0, 0, 0, false)) = some (r1, r2, r3, r4, r5) := by rw [if_pos rfl] at H; exact H
      clear H
      have H := H1
      clear H1
      simp only [Option.some.injEq, Prod.mk.injEq] at H
      obtain ⟨rfl, rfl, rfl, rfl, rfl⟩ := H
      have p12 : 0 ≤ (x38_1 : Int) := od_
      have q12 : x38_1 < (y9.length : Int) := od_
      obtain ⟨ad12, e12, hx12_0⟩ := Kd.at_string (Kd.R_reads' HO_36.out).2.2 x38_1 p12 q12
      cases e12
      replace p12 := eq_true p12
      replace q12 := eq_true q12
      go_wp2_with (first | ((with_reducible refine gate_callee (f := 38) rfl ?_); refine goesL_ (some 45) rfl rfl Tryz.func38 (by kernel_rfl) rfl #[.string (rdOf ByteArray.empty y9 x38_1)] rfl ar_ ?_; (with_reducible refine (strconv_Atoi.calls (hE_ := ee_) (rdOf ByteArray.empty y9 x38_1) t13 true _ A17.out).mono ?_); rintro e w19 ⟨ev_, rfl, hq_, hgd_, hb⟩; refine ⟨_, rfl, ?_⟩; have n0_ := Aside0.mk (Kd.R_below (rx_ HO_36.out) hb); have n1_ := bb_ BK1.out hb; have n2_ := bb_ BK2.out hb; have n3_ := bs_ hb; clear HO_36; clear BK1; clear BK2; clear HB; have HO_36 := n0_; have BK1 := n1_; have BK2 := n2_; have HB := n3_; clear n0_ n1_ n2_ n3_; (try clear hb); (try clear hb2); (try clear hk); (try clear hi); have hnb20 := NB1_2.out; have hnc20 := NB2_1.out; obtain ⟨hcz21_0, hcz21_1, hcz21_2, hcz21_3, hfz21_0, hfz21_1, hfz21_2, hfz21_3⟩ := bc4_ BK1.out))
      refine bodyPost_ret (results_ct rfl _ _ gb1 46 #[.int .i64 0, .int .i64 0, .int .i64 0, .int .i64 0] (0, 0) _ rfl (by (with_reducible repeat (first | refine blk_drewN ?_ _ | refine blk_drew ?_ | refine blk_alloc ?_ _)); refine blk_put (cs := #[.int .i64 0, .int .i64 0, .int .i64 0, .int .i64 x2003_1]) ?_ 3 _ rfl; (with_reducible repeat (first | refine blk_drewN ?_ _ | refine blk_drew ?_ | refine blk_alloc ?_ _)); refine blk_put (cs := #[.int .i64 0, .int .i64 0, .int .i64 x2002_1, .int .i64 x2003_1]) ?_ 2 _ rfl; (with_reducible repeat (first | refine blk_drewN ?_ _ | refine blk_drew ?_ | refine blk_alloc ?_ _)); refine blk_put (cs := #[.int .i64 0, .int .i64 x2001_1, .int .i64 x2002_1, .int .i64 x2003_1]) ?_ 1 _ rfl; (with_reducible repeat (first | refine blk_drewN ?_ _ | refine blk_drew ?_ | refine blk_alloc ?_ _)); refine blk_put (cs := #[.int .i64 x2000_1, .int .i64 x2001_1, .int .i64 x2002_1, .int .i64 x2003_1]) ?_ 0 _ rfl; (with_reducible repeat (first | refine blk_drewN ?_ _ | refine blk_drew ?_ | refine blk_alloc ?_ _)); exact BK1.out) Tryz.underlying46 rfl (by kernel_rfl)) rfl ?_
      exact ⟨rr_, bw_⟩
     replace c18 := Bool.eq_false_iff.mpr c18
     subst c18
     have H1 : (if x38_1 = 0 then (impl_parseAtom.l0 k1 a0 y9 (y9.length : Int) (wrap64 (x38_1 + 1)) 0 t13 x3002_1 x3003_1) else (if x38_1 = 1 then (impl_parseAtom.l0 k1 a0 y9 (y9.length : Int) (wrap64 (x38_1 + 1)) 0 x3001_1 t13 x3003_1) else (impl_parseAtom.l0 k1 a0 y9 (y9.length : Int) (wrap64 (x38_1 + 1)) 0 x3001_1 x3002_1 t13))) = some (r1, r2, r3, r4, r5) := by rw [if_neg (show ¬ (false = true) by decide)] at H; exact H
     clear H
     have H := H1
     clear H1
     by_cases c22 : x38_1 = 0
     ·rw [if_pos c22] at H
      have HI_ := Aside0.mk c22
      have c22b0 : (x38_1 == 0) = true := beq_iff_eq.mpr c22
      have c22b1 : (x38_1 != 0) = false := bne_eq_false_iff_eq.mpr c22
      clear c22
      have H' := Aside0.mk H
      clear H
      have p12 : 0 ≤ (x38_1 : Int) := od_
      have q12 : x38_1 < (y9.length : Int) := od_
      obtain ⟨ad12, e12, hx12_0⟩ := Kd.at_string (Kd.R_reads' HO_36.out).2.2 x38_1 p12 q12
      cases e12
      replace p12 := eq_true p12
      replace q12 := eq_true q12
      go_wp2_with (first | ((with_reducible refine gate_callee (f := 38) rfl ?_); refine goesL_ (some 45) rfl rfl Tryz.func38 (by kernel_rfl) rfl #[.string (rdOf ByteArray.empty y9 x38_1)] rfl ar_ ?_; (with_reducible refine (strconv_Atoi.calls (hE_ := ee_) (rdOf ByteArray.empty y9 x38_1) t13 false _ A17.out).mono ?_); rintro e w23 ⟨ev_, rfl, hq_, hgd_, hb⟩; refine ⟨_, rfl, ?_⟩; have n0_ := Aside0.mk (Kd.R_below (rx_ HO_36.out) hb); have n1_ := bb_ BK1.out hb; have n2_ := bb_ BK2.out hb; have n3_ := bs_ hb; clear HO_36; clear BK1; clear BK2; clear HB; have HO_36 := n0_; have BK1 := n1_; have BK2 := n2_; have HB := n3_; clear n0_ n1_ n2_ n3_; (try clear hb); (try clear hb2); (try clear hk); (try clear hi)) | ((with_reducible refine gate_dst (N := 54) rfl ?_); refine ptrs_event_ ?hg (N := 54) ?hd (cs := #[.pointer (some ⟨gb2, 1, none⟩), .pointer (some ⟨gb2, 2, none⟩), .pointer (some ⟨gb2, 3, none⟩)]) (t := 79) ?hr ?_; (case hd => rfl); (case hg => rfl); (case hr => exact hrr_); intro gb15 hg w24 hbox hb; have n0_ := Aside0.mk (Kd.R_below (rx_ HO_36.out) hb); have n1_ := bb_ BK1.out hb; have n2_ := bb_ BK2.out hb; have n3_ := bs_ hb; have n4_ := Aside0.mk (hbox); have n5_ := ge_ (w := w) hg; have n6_ := ge_ (w := w) hg; have n7_ := nl_ BK1.out hg; have n8_ := nr_ BK1.out hg; have n9_ := nl_ BK2.out hg; have n10_ := nr_ BK2.out hg; clear HO_36; clear BK1; clear BK2; clear HB; have HO_36 := n0_; have BK1 := n1_; have BK2 := n2_; have HB := n3_; have BK15 := n4_; have hq54 := eq_true (show x38_1 < (3 : Int) from by have h_ := HI_.out; omega); have hx54 : w24.cell? (⟨gb15, x38_1.toNat, none⟩ : Addr) = some (.pointer (some ⟨gb2, 1, none⟩)) := (by rw [HI_.out]; exact (blk_cell BK15.out 0).trans rfl); have GW15 := n5_; have GE15 := n6_; have NB1_15 := n7_; have NB15_1 := n8_; have NB2_15 := n9_; have NB15_2 := n10_; clear n0_ n1_ n2_ n3_ n4_ n5_ n6_ n7_ n8_ n9_ n10_; clear hb hbox hg; have hnb25 := NB2_1.out; have hnc25 := NB1_2.out; have hnb26 := NB2_15.out; have hnc26 := NB15_2.out; obtain ⟨hcz27_0, hcz27_1, hcz27_2, hcz27_3, hfz27_0, hfz27_1, hfz27_2, hfz27_3⟩ := bc4_ BK2.out))
      go_roundg k1
      case measure => have := HK1.out; omega
      case rel => exact ⟨(wrap64 (x38_1 + 1)), (x2000_1), (x2001_1), (x2002_1), (x2003_1), (t13), (x3002_1), (x3003_1), sd_, H', ⟨by have := HK1.out; omega⟩, ⟨by (with_reducible repeat (first | apply Kd.R_alloc | apply Kd.R_drewN | apply Kd.R_drew)); exact Kd.R_mono (Kd.R_far (p := ⟨gb2, 1, none⟩) (Kd.R_types HO_36.out BK2.out (by decide)) (fun _ hk => hk.2) (.int .i64 t13)) (fun _ hk => trivial)⟩, ⟨by (with_reducible repeat (first | refine blk_drewN ?_ _ | refine blk_drew ?_ | refine blk_alloc ?_ _)); refine blk_far ?_ NB1_2.out _; (with_reducible repeat (first | refine blk_drewN ?_ _ | refine blk_drew ?_ | refine blk_alloc ?_ _)); exact BK1.out⟩, ⟨by (with_reducible repeat (first | refine blk_drewN ?_ _ | refine blk_drew ?_ | refine blk_alloc ?_ _)); refine blk_put (cs := #[.int .i64 0, .int .i64 x3001_1, .int .i64 x3002_1, .int .i64 x3003_1]) ?_ 1 _ rfl; (with_reducible repeat (first | refine blk_drewN ?_ _ | refine blk_drew ?_ | refine blk_alloc ?_ _)); exact BK2.out⟩, ⟨bw_⟩⟩
     rw [if_neg c22] at H
     have HN_ := Aside0.mk c22
     have c22b0 : (x38_1 == 0) = false := beq_eq_false_iff_ne.mpr c22
     have c22b1 : (x38_1 != 0) = true := bne_iff_ne.mpr c22
     by_cases c28 : x38_1 = 1
     rotate_left
     ·rw [if_neg c28] at H
      have HI_ : Aside0 (x38_1 = 2) := ⟨by have h0_ := HN_.out; have h3_ := c28; have h1_ : 0 ≤ x38_1 := od_; have h2_ : x38_1 < (y9.length : Int) := od_; rw [show y9.length = 3 from by rw [Ny9.out]; rfl] at h2_; omega⟩
      have c28b0 : (x38_1 == 1) = false := beq_eq_false_iff_ne.mpr c28
      have c28b1 : (x38_1 != 1) = true := bne_iff_ne.mpr c28
      have H' := Aside0.mk H
      clear H
      have p12 : 0 ≤ (x38_1 : Int) := od_
      have q12 : x38_1 < (y9.length : Int) := od_
      obtain ⟨ad12, e12, hx12_0⟩ := Kd.at_string (Kd.R_reads' HO_36.out).2.2 x38_1 p12 q12
      cases e12
      replace p12 := eq_true p12
      replace q12 := eq_true q12
      go_wp2_with (first | ((with_reducible refine gate_callee (f := 38) rfl ?_); refine goesL_ (some 45) rfl rfl Tryz.func38 (by kernel_rfl) rfl #[.string (rdOf ByteArray.empty y9 x38_1)] rfl ar_ ?_; (with_reducible refine (strconv_Atoi.calls (hE_ := ee_) (rdOf ByteArray.empty y9 x38_1) t13 false _ A17.out).mono ?_); rintro e w34 ⟨ev_, rfl, hq_, hgd_, hb⟩; refine ⟨_, rfl, ?_⟩; have n0_ := Aside0.mk (Kd.R_below (rx_ HO_36.out) hb); have n1_ := bb_ BK1.out hb; have n2_ := bb_ BK2.out hb; have n3_ := bs_ hb; clear HO_36; clear BK1; clear BK2; clear HB; have HO_36 := n0_; have BK1 := n1_; have BK2 := n2_; have HB := n3_; clear n0_ n1_ n2_ n3_; (try clear hb); (try clear hb2); (try clear hk); (try clear hi)) | ((with_reducible refine gate_dst (N := 54) rfl ?_); refine ptrs_event_ ?hg (N := 54) ?hd (cs := #[.pointer (some ⟨gb2, 1, none⟩), .pointer (some ⟨gb2, 2, none⟩), .pointer (some ⟨gb2, 3, none⟩)]) (t := 79) ?hr ?_; (case hd => rfl); (case hg => rfl); (case hr => exact hrr_); intro gb15 hg w35 hbox hb; have n0_ := Aside0.mk (Kd.R_below (rx_ HO_36.out) hb); have n1_ := bb_ BK1.out hb; have n2_ := bb_ BK2.out hb; have n3_ := bs_ hb; have n4_ := Aside0.mk (hbox); have n5_ := ge_ (w := w) hg; have n6_ := ge_ (w := w) hg; have n7_ := nl_ BK1.out hg; have n8_ := nr_ BK1.out hg; have n9_ := nl_ BK2.out hg; have n10_ := nr_ BK2.out hg; clear HO_36; clear BK1; clear BK2; clear HB; have HO_36 := n0_; have BK1 := n1_; have BK2 := n2_; have HB := n3_; have BK15 := n4_; have hq54 := eq_true (show x38_1 < (3 : Int) from by have h_ := HI_.out; omega); have hx54 : w35.cell? (⟨gb15, x38_1.toNat, none⟩ : Addr) = some (.pointer (some ⟨gb2, 3, none⟩)) := (by rw [HI_.out]; exact (blk_cell BK15.out 2).trans rfl); have GW15 := n5_; have GE15 := n6_; have NB1_15 := n7_; have NB15_1 := n8_; have NB2_15 := n9_; have NB15_2 := n10_; clear n0_ n1_ n2_ n3_ n4_ n5_ n6_ n7_ n8_ n9_ n10_; clear hb hbox hg; have hnb36 := NB2_1.out; have hnc36 := NB1_2.out; have hnb37 := NB2_15.out; have hnc37 := NB15_2.out; obtain ⟨hcz38_0, hcz38_1, hcz38_2, hcz38_3, hfz38_0, hfz38_1, hfz38_2, hfz38_3⟩ := bc4_ BK2.out))
      go_roundg k1
      case measure => have := HK1.out; omega
      case rel => exact ⟨(wrap64 (x38_1 + 1)), (x2000_1), (x2001_1), (x2002_1), (x2003_1), (x3001_1), (x3002_1), (t13), sd_, H', ⟨by have := HK1.out; omega⟩, ⟨by (with_reducible repeat (first | apply Kd.R_alloc | apply Kd.R_drewN | apply Kd.R_drew)); exact Kd.R_mono (Kd.R_far (p := ⟨gb2, 3, none⟩) (Kd.R_types HO_36.out BK2.out (by decide)) (fun _ hk => hk.2) (.int .i64 t13)) (fun _ hk => trivial)⟩, ⟨by (with_reducible repeat (first | refine blk_drewN ?_ _ | refine blk_drew ?_ | refine blk_alloc ?_ _)); refine blk_far ?_ NB1_2.out _; (with_reducible repeat (first | refine blk_drewN ?_ _ | refine blk_drew ?_ | refine blk_alloc ?_ _)); exact BK1.out⟩, ⟨by (with_reducible repeat (first | refine blk_drewN ?_ _ | refine blk_drew ?_ | refine blk_alloc ?_ _)); refine blk_put (cs := #[.int .i64 0, .int .i64 x3001_1, .int .i64 x3002_1, .int .i64 x3003_1]) ?_ 3 _ rfl; (with_reducible repeat (first | refine blk_drewN ?_ _ | refine blk_drew ?_ | refine blk_alloc ?_ _)); exact BK2.out⟩, ⟨bw_⟩⟩
     rw [if_pos c28] at H
     have HI_ := Aside0.mk c28
     have c28b0 : (x38_1 == 1) = true := beq_iff_eq.mpr c28
     have c28b1 : (x38_1 != 1) = false := bne_eq_false_iff_eq.mpr c28
     clear c28
     have H' := Aside0.mk H
     clear H
     have p12 : 0 ≤ (x38_1 : Int) := od_
     have q12 : x38_1 < (y9.length : Int) := od_
     obtain ⟨ad12, e12, hx12_0⟩ := Kd.at_string (Kd.R_reads' HO_36.out).2.2 x38_1 p12 q12
     cases e12
     replace p12 := eq_true p12
     replace q12 := eq_true q12
     go_wp2_with (first | ((with_reducible refine gate_callee (f := 38) rfl ?_); refine goesL_ (some 45) rfl rfl Tryz.func38 (by kernel_rfl) rfl #[.string (rdOf ByteArray.empty y9 x38_1)] rfl ar_ ?_; (with_reducible refine (strconv_Atoi.calls (hE_ := ee_) (rdOf ByteArray.empty y9 x38_1) t13 false _ A17.out).mono ?_); rintro e w29 ⟨ev_, rfl, hq_, hgd_, hb⟩; refine ⟨_, rfl, ?_⟩; have n0_ := Aside0.mk (Kd.R_below (rx_ HO_36.out) hb); have n1_ := bb_ BK1.out hb; have n2_ := bb_ BK2.out hb; have n3_ := bs_ hb; clear HO_36; clear BK1; clear BK2; clear HB; have HO_36 := n0_; have BK1 := n1_; have BK2 := n2_; have HB := n3_; clear n0_ n1_ n2_ n3_; (try clear hb); (try clear hb2); (try clear hk); (try clear hi)) | ((with_reducible refine gate_dst (N := 54) rfl ?_); refine ptrs_event_ ?hg (N := 54) ?hd (cs := #[.pointer (some ⟨gb2, 1, none⟩), .pointer (some ⟨gb2, 2, none⟩), .pointer (some ⟨gb2, 3, none⟩)]) (t := 79) ?hr ?_; (case hd => rfl); (case hg => rfl); (case hr => exact hrr_); intro gb15 hg w30 hbox hb; have n0_ := Aside0.mk (Kd.R_below (rx_ HO_36.out) hb); have n1_ := bb_ BK1.out hb; have n2_ := bb_ BK2.out hb; have n3_ := bs_ hb; have n4_ := Aside0.mk (hbox); have n5_ := ge_ (w := w) hg; have n6_ := ge_ (w := w) hg; have n7_ := nl_ BK1.out hg; have n8_ := nr_ BK1.out hg; have n9_ := nl_ BK2.out hg; have n10_ := nr_ BK2.out hg; clear HO_36; clear BK1; clear BK2; clear HB; have HO_36 := n0_; have BK1 := n1_; have BK2 := n2_; have HB := n3_; have BK15 := n4_; have hq54 := eq_true (show x38_1 < (3 : Int) from by have h_ := HI_.out; omega); have hx54 : w30.cell? (⟨gb15, x38_1.toNat, none⟩ : Addr) = some (.pointer (some ⟨gb2, 2, none⟩)) := (by rw [HI_.out]; exact (blk_cell BK15.out 1).trans rfl); have GW15 := n5_; have GE15 := n6_; have NB1_15 := n7_; have NB15_1 := n8_; have NB2_15 := n9_; have NB15_2 := n10_; clear n0_ n1_ n2_ n3_ n4_ n5_ n6_ n7_ n8_ n9_ n10_; clear hb hbox hg; have hnb31 := NB2_1.out; have hnc31 := NB1_2.out; have hnb32 := NB2_15.out; have hnc32 := NB15_2.out; obtain ⟨hcz33_0, hcz33_1, hcz33_2, hcz33_3, hfz33_0, hfz33_1, hfz33_2, hfz33_3⟩ := bc4_ BK2.out))
     go_roundg k1
     case measure => have := HK1.out; omega
     case rel => exact ⟨(wrap64 (x38_1 + 1)), (x2000_1), (x2001_1), (x2002_1), (x2003_1), (x3001_1), (t13), (x3003_1), sd_, H', ⟨by have := HK1.out; omega⟩, ⟨by (with_reducible repeat (first | apply Kd.R_alloc | apply Kd.R_drewN | apply Kd.R_drew)); exact Kd.R_mono (Kd.R_far (p := ⟨gb2, 2, none⟩) (Kd.R_types HO_36.out BK2.out (by decide)) (fun _ hk => hk.2) (.int .i64 t13)) (fun _ hk => trivial)⟩, ⟨by (with_reducible repeat (first | refine blk_drewN ?_ _ | refine blk_drew ?_ | refine blk_alloc ?_ _)); refine blk_far ?_ NB1_2.out _; (with_reducible repeat (first | refine blk_drewN ?_ _ | refine blk_drew ?_ | refine blk_alloc ?_ _)); exact BK1.out⟩, ⟨by (with_reducible repeat (first | refine blk_drewN ?_ _ | refine blk_drew ?_ | refine blk_alloc ?_ _)); refine blk_put (cs := #[.int .i64 0, .int .i64 x3001_1, .int .i64 x3002_1, .int .i64 x3003_1]) ?_ 2 _ rfl; (with_reducible repeat (first | refine blk_drewN ?_ _ | refine blk_drew ?_ | refine blk_alloc ?_ _)); exact BK2.out⟩, ⟨bw_⟩⟩
    rw [if_neg c14] at H
    have c14b0 : decide (x38_1 < (y9.length : Int)) = false := decide_eq_false c14
    clear c14
    replace H := Option.bind_eq_some_iff.mp H
    obtain ⟨t16, A390, H⟩ := H
    replace H : (some (0, x3001_1, x3002_1, x3003_1, (t16.toList == a0.toList))) = some (r1, r2, r3, r4, r5) := H
    have A39 := Aside0.mk A390
    clear A390
    simp only [Option.some.injEq, Prod.mk.injEq] at H
    obtain ⟨rfl, rfl, rfl, rfl, rfl⟩ := H
    try go_wp2
    have n0_ := Aside0.mk (Kd.R_drew HO_36.out)
    have n1_ := Aside0.mk (blk_drew BK1.out)
    have n2_ := Aside0.mk (blk_drew BK2.out)
    have n3_ := Aside0.mk (below_drew1 HB.out)
    clear HO_36
    clear BK1
    clear BK2
    clear HB
    have HO_36 := n0_
    have BK1 := n1_
    have BK2 := n2_
    have HB := n3_
    clear n0_ n1_ n2_ n3_
    refine start_ (n := 7) (S := fun w' => w'.cell? ⟨gb2, 0, none⟩ = some (.int .i64 0) ∧ w'.cell? ⟨gb2, 1, none⟩ = some (.int .i64 x3001_1) ∧ w'.cell? ⟨gb2, 2, none⟩ = some (.int .i64 x3002_1) ∧ w'.cell? ⟨gb2, 3, none⟩ = some (.int .i64 x3003_1)) (ds := []) #[false, false, false, false, false, false, false] (by kernel_rfl) rfl rfl ⟨(blk_cell BK2.out 0).trans rfl, (blk_cell BK2.out 1).trans rfl, (blk_cell BK2.out 2).trans rfl, (blk_cell BK2.out 3).trans rfl⟩ (fun hHeld => ?_)
    generalize wr.drew = w40 at HO_36 BK1 BK2 HB hHeld ⊢
    refine pure_ (i := 3) (N := some 64) (v := ?_) (a' := ?_) (bm_ 7 8) rfl rfl (by kernel_rfl) (fun _ _ _ h => h) (Or.inl ⟨by rfl, ?_⟩) ?_ ?_
    rotate_left
    ·intro w'
     go_simp
     with_reducible rfl
    rotate_left
    ·exact pu_
    refine take_ (i := 0) (N := some 61) (v := ?_) (a' := ?_) (bm_ 7 9) rfl rfl (by kernel_rfl) (fun _ _ _ h => h) (Or.inl ⟨by rfl, ?_⟩) hHeld ?_ ?_
    rotate_left
    ·rintro w' ⟨s0, s1, s2, s3⟩
     go_simp
     with_reducible rfl
    rotate_left
    ·exact pu_
    refine take_ (i := 1) (N := some 62) (v := ?_) (a' := ?_) (bm_ 7 11) rfl rfl (by kernel_rfl) (fun _ _ _ h => h) (Or.inl ⟨by rfl, ?_⟩) hHeld ?_ ?_
    rotate_left
    ·rintro w' ⟨s0, s1, s2, s3⟩
     go_simp
     with_reducible rfl
    rotate_left
    ·exact pu_
    refine one_ (i := 2) (N := some 63) (bm_ 7 15) rfl rfl (by kernel_rfl) (by decide) (fun K hK => ?_)
    refine goes_ Tryz.func48 (by kernel_rfl) rfl #[.agg #[.int .i64 0, .int .i64 x3001_1, .int .i64 x3002_1, .int .i64 x3003_1]] (by rfl) rfl rfl ar_ ?_
    with_reducible refine (impl_Atom_text.calls (hE_ := ee_) k1 0 x3001_1 x3002_1 x3003_1 t16 _ A39.out).mono ?_
    rintro e w41 ⟨rfl, hb⟩
    refine ⟨_, rfl, ?_⟩
    have n0_ := Aside0.mk (Kd.R_below (rx_ HO_36.out) hb)
    have n1_ := bb_ BK1.out hb
    have n2_ := bb_ BK2.out hb
    have n3_ := bs_ hb
    clear HO_36
    clear BK1
    clear BK2
    clear HB
    have HO_36 := n0_
    have BK1 := n1_
    have BK2 := n2_
    have HB := n3_
    clear n0_ n1_ n2_ n3_
    (try clear hb)
    (try clear hb2)
    (try clear hk)
    (try clear hi)
    refine hK.out _ _ ⟨(blk_cell BK2.out 0).trans rfl, (blk_cell BK2.out 1).trans rfl, (blk_cell BK2.out 2).trans rfl, (blk_cell BK2.out 3).trans rfl⟩ (fun hHeld => ?_)
    clear hK K
    refine norm_ (a' := ?_) ?_ ?_
    rotate_left
    ·show Act.put _ (some 63) _ = _
     simp only [Act.put, List.setIfInBounds_toArray, List.set_cons_zero, List.set_cons_succ, i64_w, i32_w]
     rfl
    refine pure_ (i := 4) (N := some 65) (v := ?_) (a' := ?_) (bm_ 7 31) rfl rfl (by kernel_rfl) (fun _ _ _ h => h) (Or.inl ⟨by rfl, ?_⟩) ?_ ?_
    rotate_left
    ·intro w'
     go_simp
     with_reducible rfl
    rotate_left
    ·exact pu_
    refine one_ (i := 5) (N := none) (bm_ 7 63) rfl rfl (by kernel_rfl) (by decide) (fun K hK => ?_)
    have hs42 : w41.cell? ⟨gb1, 0, none⟩ = some (.int .i64 x2000_1) := (blk_cell BK1.out 0).trans rfl
    have hfs42 := blk_frozen BK1.out 0
    have hns42_1 := NB2_1.out
    have hms42_1 := NB1_2.out
    have hs43 : w41.cell? ⟨gb1, 1, none⟩ = some (.int .i64 x2001_1) := (blk_cell BK1.out 1).trans rfl
    have hfs43 := blk_frozen BK1.out 1
    have hns43_1 := NB2_1.out
    have hms43_1 := NB1_2.out
    have hs44 : w41.cell? ⟨gb1, 2, none⟩ = some (.int .i64 x2002_1) := (blk_cell BK1.out 2).trans rfl
    have hfs44 := blk_frozen BK1.out 2
    have hns44_1 := NB2_1.out
    have hms44_1 := NB1_2.out
    have hs45 : w41.cell? ⟨gb1, 3, none⟩ = some (.int .i64 x2003_1) := (blk_cell BK1.out 3).trans rfl
    have hfs45 := blk_frozen BK1.out 3
    have hns45_1 := NB2_1.out
    have hms45_1 := NB1_2.out
    refine skip_ (w1 := ?_) (by rfl) rfl ?_ ?_
    rotate_left
    ·go_simp
     rfl
    refine hK.out _ _ ⟨((cell_far (p := ⟨gb1, _, none⟩) NB2_1.out _).trans (((cell_far (p := ⟨gb1, _, none⟩) NB2_1.out _).trans (((cell_far (p := ⟨gb1, _, none⟩) NB2_1.out _).trans (((cell_far (p := ⟨gb1, _, none⟩) NB2_1.out _).trans (hHeld.1)))))))), ((cell_far (p := ⟨gb1, _, none⟩) NB2_1.out _).trans (((cell_far (p := ⟨gb1, _, none⟩) NB2_1.out _).trans (((cell_far (p := ⟨gb1, _, none⟩) NB2_1.out _).trans (((cell_far (p := ⟨gb1, _, none⟩) NB2_1.out _).trans (hHeld.2.1)))))))), ((cell_far (p := ⟨gb1, _, none⟩) NB2_1.out _).trans (((cell_far (p := ⟨gb1, _, none⟩) NB2_1.out _).trans (((cell_far (p := ⟨gb1, _, none⟩) NB2_1.out _).trans (((cell_far (p := ⟨gb1, _, none⟩) NB2_1.out _).trans (hHeld.2.2.1)))))))), ((cell_far (p := ⟨gb1, _, none⟩) NB2_1.out _).trans (((cell_far (p := ⟨gb1, _, none⟩) NB2_1.out _).trans (((cell_far (p := ⟨gb1, _, none⟩) NB2_1.out _).trans (((cell_far (p := ⟨gb1, _, none⟩) NB2_1.out _).trans (hHeld.2.2.2))))))))⟩ (fun hHeld => ?_)
    clear hK K
    refine pure_ (i := 6) (N := some 3) (v := ?_) (a' := ?_) (bm_ 7 127) rfl rfl (by kernel_rfl) (fun _ _ _ h => h) (Or.inl ⟨by rfl, ?_⟩) ?_ ?_
    rotate_left
    ·intro w'
     go_simp
     with_reducible rfl
    rotate_left
    ·exact pu_
    refine done_ (by kernel_rfl) ?_
    try go_wp2
    refine bodyPost_ret (results_ct rfl _ _ gb1 46 #[.int .i64 0, .int .i64 x3001_1, .int .i64 x3002_1, .int .i64 x3003_1] (0, 0) _ rfl (by (with_reducible repeat (first | refine blk_drewN ?_ _ | refine blk_drew ?_ | refine blk_alloc ?_ _)); refine blk_put (cs := #[.int .i64 0, .int .i64 x3001_1, .int .i64 x3002_1, .int .i64 x2003_1]) ?_ 3 _ rfl; (with_reducible repeat (first | refine blk_drewN ?_ _ | refine blk_drew ?_ | refine blk_alloc ?_ _)); refine blk_put (cs := #[.int .i64 0, .int .i64 x3001_1, .int .i64 x2002_1, .int .i64 x2003_1]) ?_ 2 _ rfl; (with_reducible repeat (first | refine blk_drewN ?_ _ | refine blk_drew ?_ | refine blk_alloc ?_ _)); refine blk_put (cs := #[.int .i64 0, .int .i64 x2001_1, .int .i64 x2002_1, .int .i64 x2003_1]) ?_ 1 _ rfl; (with_reducible repeat (first | refine blk_drewN ?_ _ | refine blk_drew ?_ | refine blk_alloc ?_ _)); refine blk_put (cs := #[.int .i64 x2000_1, .int .i64 x2001_1, .int .i64 x2002_1, .int .i64 x2003_1]) ?_ 0 _ rfl; (with_reducible repeat (first | refine blk_drewN ?_ _ | refine blk_drew ?_ | refine blk_alloc ?_ _)); exact BK1.out) Tryz.underlying46 rfl (by kernel_rfl)) rfl ?_
    exact ⟨rr_, bw_⟩
 replace c4 := Bool.eq_false_iff.mpr c4
 subst c4
 have H1 : ((strings_Trim.f t3 (⟨#[91, 93]⟩ : ByteArray)).bind fun t17 => ((some (([(⟨#[48]⟩ : ByteArray), t17, t4] : List ByteArray) : List ByteArray)).bind fun y18 => (impl_parseAtom.l0 k a0 y18 (y18.length : Int) 0 1 0 0 0))) = some (r1, r2, r3, r4, r5) := by rw [if_neg (show ¬ (false = true) by decide)] at H; exact H
 clear H
 have H := H1
 clear H1
 replace H := Option.bind_eq_some_iff.mp H
 obtain ⟨t17, A460, H⟩ := H
 replace H : ((some (([(⟨#[48]⟩ : ByteArray), t17, t4] : List ByteArray) : List ByteArray)).bind fun y18 => (impl_parseAtom.l0 k a0 y18 (y18.length : Int) 0 1 0 0 0)) = some (r1, r2, r3, r4, r5) := H
 have A46 := Aside0.mk A460
 clear A460
 obtain ⟨y18, hy18⟩ : ∃ y_ : List ByteArray, y_ = (([(⟨#[48]⟩ : ByteArray), t17, t4] : List ByteArray)) := ⟨_, rfl⟩
 replace H : (impl_parseAtom.l0 k a0 y18 (y18.length : Int) 0 1 0 0 0) = some (r1, r2, r3, r4, r5) := by first | (rw [hy18]; with_reducible exact H) | (have H2_ := (Option.bind_some _ _).symm.trans H; rw [hy18]; with_reducible exact H2_) | (have H2_ := (Option.bind_some _ _).symm.trans H; with_reducible exact H2_) | with_reducible exact H | (rw [hy18]; exact H) | exact H
 have Ny18 := Aside0.mk hy18
 clear hy18
 have H' := Aside0.mk H
 clear H
 go_enter Tryz.func27, Tryz.ntmps27
 go_wp2_with (first | ((with_reducible refine gate_dst (N := 2) rfl ?_); refine box_event ?hg (N := 2) ?hd (cs := #[.int .i64 0, .int .i64 0, .int .i64 0, .int .i64 0]) (t := 46) ?hr ?_; (case hd => rfl); (case hg => rfl); (case hr => exact hrr_); intro gb1 hg w47 hbox hb; have n0_ := bs_ hb; have n1_ := Aside0.mk (hbox); have n2_ := ge_ (w := w) hg; have n3_ := ge_ (w := w) hg; clear HB; have HB := n0_; have BK1 := n1_; have GW1 := n2_; have GE1 := n3_; clear n0_ n1_ n2_ n3_; clear hb hbox hg) | ((with_reducible refine gate_dst (N := 4) rfl ?_); refine box_event ?hg (N := 4) ?hd (cs := #[.int .i64 0, .int .i64 0, .int .i64 0, .int .i64 0]) (t := 46) ?hr ?_; (case hd => rfl); (case hg => rfl); (case hr => exact hrr_); intro gb2 hg w48 hbox hb; have n0_ := bb_ BK1.out hb; have n1_ := bs_ hb; have n2_ := Aside0.mk (hbox); have n3_ := ge_ (w := w) hg; have n4_ := ge_ (w := w) hg; have n5_ := nl_ BK1.out hg; have n6_ := nr_ BK1.out hg; clear BK1; clear HB; have BK1 := n0_; have HB := n1_; have BK2 := n2_; have GW2 := n3_; have GE2 := n4_; have NB1_2 := n5_; have NB2_1 := n6_; clear n0_ n1_ n2_ n3_ n4_ n5_ n6_; clear hb hbox hg; have hnb49 := NB2_1.out; have hnc49 := NB1_2.out; obtain ⟨hcz50_0, hcz50_1, hcz50_2, hcz50_3, hfz50_0, hfz50_1, hfz50_2, hfz50_3⟩ := bc4_ BK2.out) | ((with_reducible refine gate_callee (f := 46) rfl ?_); refine goesL_ (some 18) rfl rfl Tryz.func46 (by kernel_rfl) rfl #[.string a0, .string (⟨#[61]⟩ : ByteArray)] rfl ar_ ?_; (with_reducible refine (strings_Cut.calls (hE_ := ee_) a0 (⟨#[61]⟩ : ByteArray) t3 t4 t5 _ A2.out).mono ?_); rintro e w51 ⟨rfl, hb⟩; refine ⟨_, rfl, ?_⟩; have n0_ := Aside0.mk (blk_below (g := gb1) (o := .cells #[.int .i64 0, .int .i64 0, .int .i64 0, .int .i64 0] 46 (0, 0)) (by (with_reducible repeat (first | refine blk_drewN ?_ _ | refine blk_drew ?_ | refine blk_alloc ?_ _)); refine blk_far ?_ NB1_2.out _; (with_reducible repeat (first | refine blk_drewN ?_ _ | refine blk_drew ?_ | refine blk_alloc ?_ _)); refine blk_far ?_ NB1_2.out _; (with_reducible repeat (first | refine blk_drewN ?_ _ | refine blk_drew ?_ | refine blk_alloc ?_ _)); refine blk_far ?_ NB1_2.out _; (with_reducible repeat (first | refine blk_drewN ?_ _ | refine blk_drew ?_ | refine blk_alloc ?_ _)); refine blk_far ?_ NB1_2.out _; (with_reducible repeat (first | refine blk_drewN ?_ _ | refine blk_drew ?_ | refine blk_alloc ?_ _)); exact BK1.out) hb); have n1_ := Aside0.mk (blk_below (g := gb2) (o := .cells #[.int .i64 0, .int .i64 0, .int .i64 0, .int .i64 0] 46 (0, 0)) (by (with_reducible repeat (first | refine blk_drewN ?_ _ | refine blk_drew ?_ | refine blk_alloc ?_ _)); refine blk_put (cs := #[.int .i64 0, .int .i64 0, .int .i64 0, .int .i64 0]) ?_ 3 _ rfl; (with_reducible repeat (first | refine blk_drewN ?_ _ | refine blk_drew ?_ | refine blk_alloc ?_ _)); refine blk_put (cs := #[.int .i64 0, .int .i64 0, .int .i64 0, .int .i64 0]) ?_ 2 _ rfl; (with_reducible repeat (first | refine blk_drewN ?_ _ | refine blk_drew ?_ | refine blk_alloc ?_ _)); refine blk_put (cs := #[.int .i64 0, .int .i64 0, .int .i64 0, .int .i64 0]) ?_ 1 _ rfl; (with_reducible repeat (first | refine blk_drewN ?_ _ | refine blk_drew ?_ | refine blk_alloc ?_ _)); refine blk_put (cs := #[.int .i64 0, .int .i64 0, .int .i64 0, .int .i64 0]) ?_ 0 _ rfl; (with_reducible repeat (first | refine blk_drewN ?_ _ | refine blk_drew ?_ | refine blk_alloc ?_ _)); exact BK2.out) hb); have n2_ := bs_ hb; clear BK1; clear BK2; clear HB; have BK1 := n0_; have BK2 := n1_; have HB := n2_; clear n0_ n1_ n2_; (try clear hb); (try clear hb2); (try clear hk); (try clear hi)) | ((with_reducible refine gate_callee (f := 46) rfl ?_); refine goesL_ (some 24) rfl rfl Tryz.func46 (by kernel_rfl) rfl #[.string t3, .string (⟨#[58]⟩ : ByteArray)] rfl ar_ ?_; (with_reducible refine (strings_Cut.calls (hE_ := ee_) t3 (⟨#[58]⟩ : ByteArray) t6 t7 false _ A3.out).mono ?_); rintro e w52 ⟨rfl, hb⟩; refine ⟨_, rfl, ?_⟩; have n0_ := bb_ BK1.out hb; have n1_ := bb_ BK2.out hb; have n2_ := bs_ hb; clear BK1; clear BK2; clear HB; have BK1 := n0_; have BK2 := n1_; have HB := n2_; clear n0_ n1_ n2_; (try clear hb); (try clear hb2); (try clear hk); (try clear hi)) | ((with_reducible refine gate_callee (f := 47) rfl ?_); refine goesL_ (some 31) rfl rfl Tryz.func47 (by kernel_rfl) rfl #[.string t3, .string (⟨#[91, 93]⟩ : ByteArray)] rfl ar_ ?_; (with_reducible refine (strings_Trim.calls t3 (⟨#[91, 93]⟩ : ByteArray) t17 _ A46.out).mono ?_); rintro e w53 ⟨rfl, hb⟩; refine ⟨_, rfl, ?_⟩; have n0_ := bb_ BK1.out hb; have n1_ := bb_ BK2.out hb; have n2_ := bs_ hb; clear BK1; clear BK2; clear HB; have BK1 := n0_; have BK2 := n1_; have HB := n2_; clear n0_ n1_ n2_; (try clear hb); (try clear hb2); (try clear hk); (try clear hi); obtain ⟨hcz54_0, hcz54_1, hcz54_2, hcz54_3, hfz54_0, hfz54_1, hfz54_2, hfz54_3⟩ := bc4_ BK2.out) | ((with_reducible refine gate_dst (N := 36) rfl ?_); refine Kd.R_lit Kd.string _ 9 ?hg (N := 36) ?hd (xs := ([(⟨#[48]⟩ : ByteArray), t17, t4] : List ByteArray)) (inner := [.string (⟨#[48]⟩ : ByteArray), .string t17, .string t4]) (ok := fun _ => True) (okp := fun _ => True) ?hr ?hp (fun _ hk => hk) trivial (Below.refl _ _) (Nat.le_refl _) (by simp) ?_; (case hd => rfl); (case hg => rfl); (case hr => first | (go_simp; done) | (go_simp; rfl)); (case hp => exact (Reps.one (show Kd.M Kd.string _ _ _ (⟨#[48]⟩ : ByteArray) [.string (⟨#[48]⟩ : ByteArray)] from rfl) (Reps.one (show Kd.M Kd.string _ _ _ t17 [.string t17] from rfl) (Reps.one (show Kd.M Kd.string _ _ _ t4 [.string t4] from rfl) (Reps.none _ _))))); intro v19 w55 ho56 hb hg_ hnew_; clear hg_ hnew_; (first | rw [← Ny18.out] at ho56 | (simp only [Int.reduceToNat] at ho56; rw [← Ny18.out] at ho56)); have n0_ := Aside0.mk (Kd.R_lower ho56 (below_size bw_)); have n1_ := Aside0.mk (blk_below (g := gb1) (o := .cells #[.int .i64 0, .int .i64 0, .int .i64 0, .int .i64 0] 46 (0, 0)) (by (with_reducible repeat (first | refine blk_drewN ?_ _ | refine blk_drew ?_ | refine blk_alloc ?_ _)); refine blk_far ?_ NB1_2.out _; (with_reducible repeat (first | refine blk_drewN ?_ _ | refine blk_drew ?_ | refine blk_alloc ?_ _)); exact BK1.out) hb); have n2_ := Aside0.mk (blk_below (g := gb2) (o := .cells #[.int .i64 1, .int .i64 0, .int .i64 0, .int .i64 0] 46 (0, 0)) (by (with_reducible repeat (first | refine blk_drewN ?_ _ | refine blk_drew ?_ | refine blk_alloc ?_ _)); refine blk_put (cs := #[.int .i64 0, .int .i64 0, .int .i64 0, .int .i64 0]) ?_ 0 _ rfl; (with_reducible repeat (first | refine blk_drewN ?_ _ | refine blk_drew ?_ | refine blk_alloc ?_ _)); exact BK2.out) hb); have n3_ := bs_ hb; clear BK1; clear BK2; clear HB; have HO20 := n0_; have BK1 := n1_; have BK2 := n2_; have HB := n3_; clear n0_ n1_ n2_ n3_; clear hb ho56; obtain ⟨Ao57, co57, eo57⟩ := Kd.R_slice HO20.out; subst eo57))
 go_loopg [38] k (fun kq v38 w' => ∃ (x38_1 : Int) (x2000_1 : Int) (x2001_1 : Int) (x2002_1 : Int) (x2003_1 : Int) (x3001_1 : Int) (x3002_1 : Int) (x3003_1 : Int), v38 = .int .i64 x38_1 ∧ Aside0 (impl_parseAtom.l0 kq a0 y18 (y18.length : Int) x38_1 1 x3001_1 x3002_1 x3003_1 = some (r1, r2, r3, r4, r5)) ∧ Aside0 (kq ≤ k) ∧ Aside0 (Kd.R Kd.string 9 w' w.heap.size (fun _ => True) (.slice Ao57 y18.length co57) y18) ∧ Aside0 (w'.heap[gb1]? = some (.cells #[.int .i64 x2000_1, .int .i64 x2001_1, .int .i64 x2002_1, .int .i64 x2003_1] 46 (0, 0))) ∧ Aside0 (w'.heap[gb2]? = some (.cells #[.int .i64 1, .int .i64 x3001_1, .int .i64 x3002_1, .int .i64 x3003_1] 46 (0, 0))) ∧ Aside0 (Below w.heap.size w w'))
 case atStart => exact ⟨(0), (0), (0), (0), (0), (0), (0), (0), sd_, H', ⟨Nat.le_refl _⟩, ⟨by (with_reducible repeat (first | apply Kd.R_alloc | apply Kd.R_drewN | apply Kd.R_drew)); exact HO20.out⟩, ⟨bk_⟩, ⟨bk_⟩, ⟨bw_⟩⟩
 case round =>
  clear H'
  try clear c1
  try clear p1
  try clear q1
  try clear hx1
  try clear c2
  try clear p2
  try clear c3
  try clear c4
  try clear p6
  try clear c7
  try clear p12
  try clear q12
  try clear hx12
  try clear c14
  try clear c14b0
  try clear c15
  try clear c15b0
  try clear c16
  try clear c16b0
  try clear c18
  try clear c20
  try clear c22
  try clear c22b0
  try clear c22b1
  try clear c25
  try clear c26
  try clear c27
  try clear c28
  try clear c28b0
  try clear c28b1
  try clear c31
  try clear c32
  try clear c36
  try clear c37
  try clear c38
  try clear c46
  try clear c47
  try clear c48
  try clear c49
  try clear hcz21_0 hcz21_1 hcz21_2 hcz21_3
  try clear hcz27_0 hcz27_1 hcz27_2 hcz27_3
  try clear hcz33_0 hcz33_1 hcz33_2 hcz33_3
  try clear hcz38_0 hcz38_1 hcz38_2 hcz38_3
  try clear hcz50_0 hcz50_1 hcz50_2 hcz50_3
  try clear hcz54_0 hcz54_1 hcz54_2 hcz54_3
  try clear hcz8_0 hcz8_1 hcz8_2 hcz8_3
  try clear hfz21_0 hfz21_1 hfz21_2 hfz21_3
  try clear hfz27_0 hfz27_1 hfz27_2 hfz27_3
  try clear hfz33_0 hfz33_1 hfz33_2 hfz33_3
  try clear hfz38_0 hfz38_1 hfz38_2 hfz38_3
  try clear hfz50_0 hfz50_1 hfz50_2 hfz50_3
  try clear hfz54_0 hfz54_1 hfz54_2 hfz54_3
  try clear hfz8_0 hfz8_1 hfz8_2 hfz8_3
  try clear hx12_0
  try clear p12
  try clear p2
  try clear q12
  obtain ⟨x38_1, x2000_1, x2001_1, x2002_1, x2003_1, x3001_1, x3002_1, x3003_1, rfl, HA, HK1, HO_36, BK1, BK2, HB⟩ := hrel
  cases gk with
  | zero => exact absurd HA.out (by simp [impl_parseAtom.l0])
  | succ k1 =>
   have H := HA.out
   clear HA
   simp only [impl_parseAtom.l0] at H
   by_cases c58 : x38_1 < (y18.length : Int)
   ·rw [if_pos c58] at H
    have c58b0 : decide (x38_1 < (y18.length : Int)) = true := decide_eq_true c58
    clear c58
    by_cases c59 : 0 ≤ x38_1
    rotate_left
    ·rw [if_neg c59] at H
     exact absurd H (by simp)
    rw [if_pos c59] at H
    have c59b0 : decide (0 ≤ x38_1) = true := decide_eq_true c59
    clear c59
    by_cases c60 : x38_1 < (y18.length : Int)
    rotate_left
    ·rw [if_neg c60] at H
     exact absurd H (by simp)
    rw [if_pos c60] at H
    have c60b0 : decide (x38_1 < (y18.length : Int)) = true := decide_eq_true c60
    clear c60
    replace H := Option.bind_eq_some_iff.mp H
    obtain ⟨⟨t13, t14⟩, A610, H⟩ := H
    replace H : (if t14 = true then (some (0, 0, 0, 0, false)) else (if x38_1 = 0 then (impl_parseAtom.l0 k1 a0 y18 (y18.length : Int) (wrap64 (x38_1 + 1)) 1 t13 x3002_1 x3003_1) else (if x38_1 = 1 then (impl_parseAtom.l0 k1 a0 y18 (y18.length : Int) (wrap64 (x38_1 + 1)) 1 x3001_1 t13 x3003_1) else (impl_parseAtom.l0 k1 a0 y18 (y18.length : Int) (wrap64 (x38_1 + 1)) 1 x3001_1 x3002_1 t13)))) = some (r1, r2, r3, r4, r5) := H
    have A61 := Aside0.mk A610
    clear A610
    by_cases c62 : t14 = true
    ·subst c62
     have H1 : (some (0, 0, 0, 0, false)) = some (r1, r2, r3, r4, r5) := by rw [if_pos rfl] at H; exact H
     clear H
     have H := H1
     clear H1
     simp only [Option.some.injEq, Prod.mk.injEq] at H
     obtain ⟨rfl, rfl, rfl, rfl, rfl⟩ := H
     have p12 : 0 ≤ (x38_1 : Int) := od_
     have q12 : x38_1 < (y18.length : Int) := od_
     obtain ⟨ad12, e12, hx12_0⟩ := Kd.at_string (Kd.R_reads' HO_36.out).2.2 x38_1 p12 q12
     cases e12
     replace p12 := eq_true p12
     replace q12 := eq_true q12
     go_wp2_with (first | ((with_reducible refine gate_callee (f := 38) rfl ?_); refine goesL_ (some 45) rfl rfl Tryz.func38 (by kernel_rfl) rfl #[.string (rdOf ByteArray.empty y18 x38_1)] rfl ar_ ?_; (with_reducible refine (strconv_Atoi.calls (hE_ := ee_) (rdOf ByteArray.empty y18 x38_1) t13 true _ A61.out).mono ?_); rintro e w63 ⟨ev_, rfl, hq_, hgd_, hb⟩; refine ⟨_, rfl, ?_⟩; have n0_ := Aside0.mk (Kd.R_below (rx_ HO_36.out) hb); have n1_ := bb_ BK1.out hb; have n2_ := bb_ BK2.out hb; have n3_ := bs_ hb; clear HO_36; clear BK1; clear BK2; clear HB; have HO_36 := n0_; have BK1 := n1_; have BK2 := n2_; have HB := n3_; clear n0_ n1_ n2_ n3_; (try clear hb); (try clear hb2); (try clear hk); (try clear hi); have hnb64 := NB1_2.out; have hnc64 := NB2_1.out; obtain ⟨hcz65_0, hcz65_1, hcz65_2, hcz65_3, hfz65_0, hfz65_1, hfz65_2, hfz65_3⟩ := bc4_ BK1.out))
     refine bodyPost_ret (results_ct rfl _ _ gb1 46 #[.int .i64 0, .int .i64 0, .int .i64 0, .int .i64 0] (0, 0) _ rfl (by (with_reducible repeat (first | refine blk_drewN ?_ _ | refine blk_drew ?_ | refine blk_alloc ?_ _)); refine blk_put (cs := #[.int .i64 0, .int .i64 0, .int .i64 0, .int .i64 x2003_1]) ?_ 3 _ rfl; (with_reducible repeat (first | refine blk_drewN ?_ _ | refine blk_drew ?_ | refine blk_alloc ?_ _)); refine blk_put (cs := #[.int .i64 0, .int .i64 0, .int .i64 x2002_1, .int .i64 x2003_1]) ?_ 2 _ rfl; (with_reducible repeat (first | refine blk_drewN ?_ _ | refine blk_drew ?_ | refine blk_alloc ?_ _)); refine blk_put (cs := #[.int .i64 0, .int .i64 x2001_1, .int .i64 x2002_1, .int .i64 x2003_1]) ?_ 1 _ rfl; (with_reducible repeat (first | refine blk_drewN ?_ _ | refine blk_drew ?_ | refine blk_alloc ?_ _)); refine blk_put (cs := #[.int .i64 x2000_1, .int .i64 x2001_1, .int .i64 x2002_1, .int .i64 x2003_1]) ?_ 0 _ rfl; (with_reducible repeat (first | refine blk_drewN ?_ _ | refine blk_drew ?_ | refine blk_alloc ?_ _)); exact BK1.out) Tryz.underlying46 rfl (by kernel_rfl)) rfl ?_
     exact ⟨rr_, bw_⟩
    replace c62 := Bool.eq_false_iff.mpr c62
    subst c62
    have H1 : (if x38_1 = 0 then (impl_parseAtom.l0 k1 a0 y18 (y18.length : Int) (wrap64 (x38_1 + 1)) 1 t13 x3002_1 x3003_1) else (if x38_1 = 1 then (impl_parseAtom.l0 k1 a0 y18 (y18.length : Int) (wrap64 (x38_1 + 1)) 1 x3001_1 t13 x3003_1) else (impl_parseAtom.l0 k1 a0 y18 (y18.length : Int) (wrap64 (x38_1 + 1)) 1 x3001_1 x3002_1 t13))) = some (r1, r2, r3, r4, r5) := by rw [if_neg (show ¬ (false = true) by decide)] at H; exact H
    clear H
    have H := H1
    clear H1
    by_cases c66 : x38_1 = 0
    ·rw [if_pos c66] at H
     have HI_ := Aside0.mk c66
     have c66b0 : (x38_1 == 0) = true := beq_iff_eq.mpr c66
     have c66b1 : (x38_1 != 0) = false := bne_eq_false_iff_eq.mpr c66
     clear c66
     have H' := Aside0.mk H
     clear H
     have p12 : 0 ≤ (x38_1 : Int) := od_
     have q12 : x38_1 < (y18.length : Int) := od_
     obtain ⟨ad12, e12, hx12_0⟩ := Kd.at_string (Kd.R_reads' HO_36.out).2.2 x38_1 p12 q12
     cases e12
     replace p12 := eq_true p12
     replace q12 := eq_true q12
     go_wp2_with (first | ((with_reducible refine gate_callee (f := 38) rfl ?_); refine goesL_ (some 45) rfl rfl Tryz.func38 (by kernel_rfl) rfl #[.string (rdOf ByteArray.empty y18 x38_1)] rfl ar_ ?_; (with_reducible refine (strconv_Atoi.calls (hE_ := ee_) (rdOf ByteArray.empty y18 x38_1) t13 false _ A61.out).mono ?_); rintro e w67 ⟨ev_, rfl, hq_, hgd_, hb⟩; refine ⟨_, rfl, ?_⟩; have n0_ := Aside0.mk (Kd.R_below (rx_ HO_36.out) hb); have n1_ := bb_ BK1.out hb; have n2_ := bb_ BK2.out hb; have n3_ := bs_ hb; clear HO_36; clear BK1; clear BK2; clear HB; have HO_36 := n0_; have BK1 := n1_; have BK2 := n2_; have HB := n3_; clear n0_ n1_ n2_ n3_; (try clear hb); (try clear hb2); (try clear hk); (try clear hi)) | ((with_reducible refine gate_dst (N := 54) rfl ?_); refine ptrs_event_ ?hg (N := 54) ?hd (cs := #[.pointer (some ⟨gb2, 1, none⟩), .pointer (some ⟨gb2, 2, none⟩), .pointer (some ⟨gb2, 3, none⟩)]) (t := 79) ?hr ?_; (case hd => rfl); (case hg => rfl); (case hr => exact hrr_); intro gb15 hg w68 hbox hb; have n0_ := Aside0.mk (Kd.R_below (rx_ HO_36.out) hb); have n1_ := bb_ BK1.out hb; have n2_ := bb_ BK2.out hb; have n3_ := bs_ hb; have n4_ := Aside0.mk (hbox); have n5_ := ge_ (w := w) hg; have n6_ := ge_ (w := w) hg; have n7_ := nl_ BK1.out hg; have n8_ := nr_ BK1.out hg; have n9_ := nl_ BK2.out hg; have n10_ := nr_ BK2.out hg; clear HO_36; clear BK1; clear BK2; clear HB; have HO_36 := n0_; have BK1 := n1_; have BK2 := n2_; have HB := n3_; have BK15 := n4_; have hq54 := eq_true (show x38_1 < (3 : Int) from by have h_ := HI_.out; omega); have hx54 : w68.cell? (⟨gb15, x38_1.toNat, none⟩ : Addr) = some (.pointer (some ⟨gb2, 1, none⟩)) := (by rw [HI_.out]; exact (blk_cell BK15.out 0).trans rfl); have GW15 := n5_; have GE15 := n6_; have NB1_15 := n7_; have NB15_1 := n8_; have NB2_15 := n9_; have NB15_2 := n10_; clear n0_ n1_ n2_ n3_ n4_ n5_ n6_ n7_ n8_ n9_ n10_; clear hb hbox hg; have hnb69 := NB2_1.out; have hnc69 := NB1_2.out; have hnb70 := NB2_15.out; have hnc70 := NB15_2.out; obtain ⟨hcz71_0, hcz71_1, hcz71_2, hcz71_3, hfz71_0, hfz71_1, hfz71_2, hfz71_3⟩ := bc4_ BK2.out))
     go_roundg k1
     case measure => have := HK1.out; omega
     case rel => exact ⟨(wrap64 (x38_1 + 1)), (x2000_1), (x2001_1), (x2002_1), (x2003_1), (t13), (x3002_1), (x3003_1), sd_, H', ⟨by have := HK1.out; omega⟩, ⟨by (with_reducible repeat (first | apply Kd.R_alloc | apply Kd.R_drewN | apply Kd.R_drew)); exact Kd.R_mono (Kd.R_far (p := ⟨gb2, 1, none⟩) (Kd.R_types HO_36.out BK2.out (by decide)) (fun _ hk => hk.2) (.int .i64 t13)) (fun _ hk => trivial)⟩, ⟨by (with_reducible repeat (first | refine blk_drewN ?_ _ | refine blk_drew ?_ | refine blk_alloc ?_ _)); refine blk_far ?_ NB1_2.out _; (with_reducible repeat (first | refine blk_drewN ?_ _ | refine blk_drew ?_ | refine blk_alloc ?_ _)); exact BK1.out⟩, ⟨by (with_reducible repeat (first | refine blk_drewN ?_ _ | refine blk_drew ?_ | refine blk_alloc ?_ _)); refine blk_put (cs := #[.int .i64 1, .int .i64 x3001_1, .int .i64 x3002_1, .int .i64 x3003_1]) ?_ 1 _ rfl; (with_reducible repeat (first | refine blk_drewN ?_ _ | refine blk_drew ?_ | refine blk_alloc ?_ _)); exact BK2.out⟩, ⟨bw_⟩⟩
    rw [if_neg c66] at H
    have HN_ := Aside0.mk c66
    have c66b0 : (x38_1 == 0) = false := beq_eq_false_iff_ne.mpr c66
    have c66b1 : (x38_1 != 0) = true := bne_iff_ne.mpr c66
    by_cases c72 : x38_1 = 1
    rotate_left
    ·rw [if_neg c72] at H
     have HI_ : Aside0 (x38_1 = 2) := ⟨by have h0_ := HN_.out; have h3_ := c72; have h1_ : 0 ≤ x38_1 := od_; have h2_ : x38_1 < (y18.length : Int) := od_; rw [show y18.length = 3 from by rw [Ny18.out]; rfl] at h2_; omega⟩
     have c72b0 : (x38_1 == 1) = false := beq_eq_false_iff_ne.mpr c72
     have c72b1 : (x38_1 != 1) = true := bne_iff_ne.mpr c72
     have H' := Aside0.mk H
     clear H
     have p12 : 0 ≤ (x38_1 : Int) := od_
     have q12 : x38_1 < (y18.length : Int) := od_
     obtain ⟨ad12, e12, hx12_0⟩ := Kd.at_string (Kd.R_reads' HO_36.out).2.2 x38_1 p12 q12
     cases e12
     replace p12 := eq_true p12
     replace q12 := eq_true q12
     go_wp2_with (first | ((with_reducible refine gate_callee (f := 38) rfl ?_); refine goesL_ (some 45) rfl rfl Tryz.func38 (by kernel_rfl) rfl #[.string (rdOf ByteArray.empty y18 x38_1)] rfl ar_ ?_; (with_reducible refine (strconv_Atoi.calls (hE_ := ee_) (rdOf ByteArray.empty y18 x38_1) t13 false _ A61.out).mono ?_); rintro e w78 ⟨ev_, rfl, hq_, hgd_, hb⟩; refine ⟨_, rfl, ?_⟩; have n0_ := Aside0.mk (Kd.R_below (rx_ HO_36.out) hb); have n1_ := bb_ BK1.out hb; have n2_ := bb_ BK2.out hb; have n3_ := bs_ hb; clear HO_36; clear BK1; clear BK2; clear HB; have HO_36 := n0_; have BK1 := n1_; have BK2 := n2_; have HB := n3_; clear n0_ n1_ n2_ n3_; (try clear hb); (try clear hb2); (try clear hk); (try clear hi)) | ((with_reducible refine gate_dst (N := 54) rfl ?_); refine ptrs_event_ ?hg (N := 54) ?hd (cs := #[.pointer (some ⟨gb2, 1, none⟩), .pointer (some ⟨gb2, 2, none⟩), .pointer (some ⟨gb2, 3, none⟩)]) (t := 79) ?hr ?_; (case hd => rfl); (case hg => rfl); (case hr => exact hrr_); intro gb15 hg w79 hbox hb; have n0_ := Aside0.mk (Kd.R_below (rx_ HO_36.out) hb); have n1_ := bb_ BK1.out hb; have n2_ := bb_ BK2.out hb; have n3_ := bs_ hb; have n4_ := Aside0.mk (hbox); have n5_ := ge_ (w := w) hg; have n6_ := ge_ (w := w) hg; have n7_ := nl_ BK1.out hg; have n8_ := nr_ BK1.out hg; have n9_ := nl_ BK2.out hg; have n10_ := nr_ BK2.out hg; clear HO_36; clear BK1; clear BK2; clear HB; have HO_36 := n0_; have BK1 := n1_; have BK2 := n2_; have HB := n3_; have BK15 := n4_; have hq54 := eq_true (show x38_1 < (3 : Int) from by have h_ := HI_.out; omega); have hx54 : w79.cell? (⟨gb15, x38_1.toNat, none⟩ : Addr) = some (.pointer (some ⟨gb2, 3, none⟩)) := (by rw [HI_.out]; exact (blk_cell BK15.out 2).trans rfl); have GW15 := n5_; have GE15 := n6_; have NB1_15 := n7_; have NB15_1 := n8_; have NB2_15 := n9_; have NB15_2 := n10_; clear n0_ n1_ n2_ n3_ n4_ n5_ n6_ n7_ n8_ n9_ n10_; clear hb hbox hg; have hnb80 := NB2_1.out; have hnc80 := NB1_2.out; have hnb81 := NB2_15.out; have hnc81 := NB15_2.out; obtain ⟨hcz82_0, hcz82_1, hcz82_2, hcz82_3, hfz82_0, hfz82_1, hfz82_2, hfz82_3⟩ := bc4_ BK2.out))
     go_roundg k1
     case measure => have := HK1.out; omega
     case rel => exact ⟨(wrap64 (x38_1 + 1)), (x2000_1), (x2001_1), (x2002_1), (x2003_1), (x3001_1), (x3002_1), (t13), sd_, H', ⟨by have := HK1.out; omega⟩, ⟨by (with_reducible repeat (first | apply Kd.R_alloc | apply Kd.R_drewN | apply Kd.R_drew)); exact Kd.R_mono (Kd.R_far (p := ⟨gb2, 3, none⟩) (Kd.R_types HO_36.out BK2.out (by decide)) (fun _ hk => hk.2) (.int .i64 t13)) (fun _ hk => trivial)⟩, ⟨by (with_reducible repeat (first | refine blk_drewN ?_ _ | refine blk_drew ?_ | refine blk_alloc ?_ _)); refine blk_far ?_ NB1_2.out _; (with_reducible repeat (first | refine blk_drewN ?_ _ | refine blk_drew ?_ | refine blk_alloc ?_ _)); exact BK1.out⟩, ⟨by (with_reducible repeat (first | refine blk_drewN ?_ _ | refine blk_drew ?_ | refine blk_alloc ?_ _)); refine blk_put (cs := #[.int .i64 1, .int .i64 x3001_1, .int .i64 x3002_1, .int .i64 x3003_1]) ?_ 3 _ rfl; (with_reducible repeat (first | refine blk_drewN ?_ _ | refine blk_drew ?_ | refine blk_alloc ?_ _)); exact BK2.out⟩, ⟨bw_⟩⟩
    rw [if_pos c72] at H
    have HI_ := Aside0.mk c72
    have c72b0 : (x38_1 == 1) = true := beq_iff_eq.mpr c72
    have c72b1 : (x38_1 != 1) = false := bne_eq_false_iff_eq.mpr c72
    clear c72
    have H' := Aside0.mk H
    clear H
    have p12 : 0 ≤ (x38_1 : Int) := od_
    have q12 : x38_1 < (y18.length : Int) := od_
    obtain ⟨ad12, e12, hx12_0⟩ := Kd.at_string (Kd.R_reads' HO_36.out).2.2 x38_1 p12 q12
    cases e12
    replace p12 := eq_true p12
    replace q12 := eq_true q12
    go_wp2_with (first | ((with_reducible refine gate_callee (f := 38) rfl ?_); refine goesL_ (some 45) rfl rfl Tryz.func38 (by kernel_rfl) rfl #[.string (rdOf ByteArray.empty y18 x38_1)] rfl ar_ ?_; (with_reducible refine (strconv_Atoi.calls (hE_ := ee_) (rdOf ByteArray.empty y18 x38_1) t13 false _ A61.out).mono ?_); rintro e w73 ⟨ev_, rfl, hq_, hgd_, hb⟩; refine ⟨_, rfl, ?_⟩; have n0_ := Aside0.mk (Kd.R_below (rx_ HO_36.out) hb); have n1_ := bb_ BK1.out hb; have n2_ := bb_ BK2.out hb; have n3_ := bs_ hb; clear HO_36; clear BK1; clear BK2; clear HB; have HO_36 := n0_; have BK1 := n1_; have BK2 := n2_; have HB := n3_; clear n0_ n1_ n2_ n3_; (try clear hb); (try clear hb2); (try clear hk); (try clear hi)) | ((with_reducible refine gate_dst (N := 54) rfl ?_); refine ptrs_event_ ?hg (N := 54) ?hd (cs := #[.pointer (some ⟨gb2, 1, none⟩), .pointer (some ⟨gb2, 2, none⟩), .pointer (some ⟨gb2, 3, none⟩)]) (t := 79) ?hr ?_; (case hd => rfl); (case hg => rfl); (case hr => exact hrr_); intro gb15 hg w74 hbox hb; have n0_ := Aside0.mk (Kd.R_below (rx_ HO_36.out) hb); have n1_ := bb_ BK1.out hb; have n2_ := bb_ BK2.out hb; have n3_ := bs_ hb; have n4_ := Aside0.mk (hbox); have n5_ := ge_ (w := w) hg; have n6_ := ge_ (w := w) hg; have n7_ := nl_ BK1.out hg; have n8_ := nr_ BK1.out hg; have n9_ := nl_ BK2.out hg; have n10_ := nr_ BK2.out hg; clear HO_36; clear BK1; clear BK2; clear HB; have HO_36 := n0_; have BK1 := n1_; have BK2 := n2_; have HB := n3_; have BK15 := n4_; have hq54 := eq_true (show x38_1 < (3 : Int) from by have h_ := HI_.out; omega); have hx54 : w74.cell? (⟨gb15, x38_1.toNat, none⟩ : Addr) = some (.pointer (some ⟨gb2, 2, none⟩)) := (by rw [HI_.out]; exact (blk_cell BK15.out 1).trans rfl); have GW15 := n5_; have GE15 := n6_; have NB1_15 := n7_; have NB15_1 := n8_; have NB2_15 := n9_; have NB15_2 := n10_; clear n0_ n1_ n2_ n3_ n4_ n5_ n6_ n7_ n8_ n9_ n10_; clear hb hbox hg; have hnb75 := NB2_1.out; have hnc75 := NB1_2.out; have hnb76 := NB2_15.out; have hnc76 := NB15_2.out; obtain ⟨hcz77_0, hcz77_1, hcz77_2, hcz77_3, hfz77_0, hfz77_1, hfz77_2, hfz77_3⟩ := bc4_ BK2.out))
    go_roundg k1
    case measure => have := HK1.out; omega
    case rel => exact ⟨(wrap64 (x38_1 + 1)), (x2000_1), (x2001_1), (x2002_1), (x2003_1), (x3001_1), (t13), (x3003_1), sd_, H', ⟨by have := HK1.out; omega⟩, ⟨by (with_reducible repeat (first | apply Kd.R_alloc | apply Kd.R_drewN | apply Kd.R_drew)); exact Kd.R_mono (Kd.R_far (p := ⟨gb2, 2, none⟩) (Kd.R_types HO_36.out BK2.out (by decide)) (fun _ hk => hk.2) (.int .i64 t13)) (fun _ hk => trivial)⟩, ⟨by (with_reducible repeat (first | refine blk_drewN ?_ _ | refine blk_drew ?_ | refine blk_alloc ?_ _)); refine blk_far ?_ NB1_2.out _; (with_reducible repeat (first | refine blk_drewN ?_ _ | refine blk_drew ?_ | refine blk_alloc ?_ _)); exact BK1.out⟩, ⟨by (with_reducible repeat (first | refine blk_drewN ?_ _ | refine blk_drew ?_ | refine blk_alloc ?_ _)); refine blk_put (cs := #[.int .i64 1, .int .i64 x3001_1, .int .i64 x3002_1, .int .i64 x3003_1]) ?_ 2 _ rfl; (with_reducible repeat (first | refine blk_drewN ?_ _ | refine blk_drew ?_ | refine blk_alloc ?_ _)); exact BK2.out⟩, ⟨bw_⟩⟩
   rw [if_neg c58] at H
   have c58b0 : decide (x38_1 < (y18.length : Int)) = false := decide_eq_false c58
   clear c58
   replace H := Option.bind_eq_some_iff.mp H
   obtain ⟨t16, A830, H⟩ := H
   replace H : (some (1, x3001_1, x3002_1, x3003_1, (t16.toList == a0.toList))) = some (r1, r2, r3, r4, r5) := H
   have A83 := Aside0.mk A830
   clear A830
   simp only [Option.some.injEq, Prod.mk.injEq] at H
   obtain ⟨rfl, rfl, rfl, rfl, rfl⟩ := H
   try go_wp2
   have n0_ := Aside0.mk (Kd.R_drew HO_36.out)
   have n1_ := Aside0.mk (blk_drew BK1.out)
   have n2_ := Aside0.mk (blk_drew BK2.out)
   have n3_ := Aside0.mk (below_drew1 HB.out)
   clear HO_36
   clear BK1
   clear BK2
   clear HB
   have HO_36 := n0_
   have BK1 := n1_
   have BK2 := n2_
   have HB := n3_
   clear n0_ n1_ n2_ n3_
   refine start_ (n := 7) (S := fun w' => w'.cell? ⟨gb2, 0, none⟩ = some (.int .i64 1) ∧ w'.cell? ⟨gb2, 1, none⟩ = some (.int .i64 x3001_1) ∧ w'.cell? ⟨gb2, 2, none⟩ = some (.int .i64 x3002_1) ∧ w'.cell? ⟨gb2, 3, none⟩ = some (.int .i64 x3003_1)) (ds := []) #[false, false, false, false, false, false, false] (by kernel_rfl) rfl rfl ⟨(blk_cell BK2.out 0).trans rfl, (blk_cell BK2.out 1).trans rfl, (blk_cell BK2.out 2).trans rfl, (blk_cell BK2.out 3).trans rfl⟩ (fun hHeld => ?_)
   generalize wr.drew = w84 at HO_36 BK1 BK2 HB hHeld ⊢
   refine pure_ (i := 3) (N := some 64) (v := ?_) (a' := ?_) (bm_ 7 8) rfl rfl (by kernel_rfl) (fun _ _ _ h => h) (Or.inl ⟨by rfl, ?_⟩) ?_ ?_
   rotate_left
   ·intro w'
    go_simp
    with_reducible rfl
   rotate_left
   ·exact pu_
   refine take_ (i := 0) (N := some 61) (v := ?_) (a' := ?_) (bm_ 7 9) rfl rfl (by kernel_rfl) (fun _ _ _ h => h) (Or.inl ⟨by rfl, ?_⟩) hHeld ?_ ?_
   rotate_left
   ·rintro w' ⟨s0, s1, s2, s3⟩
    go_simp
    with_reducible rfl
   rotate_left
   ·exact pu_
   refine take_ (i := 1) (N := some 62) (v := ?_) (a' := ?_) (bm_ 7 11) rfl rfl (by kernel_rfl) (fun _ _ _ h => h) (Or.inl ⟨by rfl, ?_⟩) hHeld ?_ ?_
   rotate_left
   ·rintro w' ⟨s0, s1, s2, s3⟩
    go_simp
    with_reducible rfl
   rotate_left
   ·exact pu_
   refine one_ (i := 2) (N := some 63) (bm_ 7 15) rfl rfl (by kernel_rfl) (by decide) (fun K hK => ?_)
   refine goes_ Tryz.func48 (by kernel_rfl) rfl #[.agg #[.int .i64 1, .int .i64 x3001_1, .int .i64 x3002_1, .int .i64 x3003_1]] (by rfl) rfl rfl ar_ ?_
   with_reducible refine (impl_Atom_text.calls (hE_ := ee_) k1 1 x3001_1 x3002_1 x3003_1 t16 _ A83.out).mono ?_
   rintro e w85 ⟨rfl, hb⟩
   refine ⟨_, rfl, ?_⟩
   have n0_ := Aside0.mk (Kd.R_below (rx_ HO_36.out) hb)
   have n1_ := bb_ BK1.out hb
   have n2_ := bb_ BK2.out hb
   have n3_ := bs_ hb
   clear HO_36
   clear BK1
   clear BK2
   clear HB
   have HO_36 := n0_
   have BK1 := n1_
   have BK2 := n2_
   have HB := n3_
   clear n0_ n1_ n2_ n3_
   (try clear hb)
   (try clear hb2)
   (try clear hk)
   (try clear hi)
   refine hK.out _ _ ⟨(blk_cell BK2.out 0).trans rfl, (blk_cell BK2.out 1).trans rfl, (blk_cell BK2.out 2).trans rfl, (blk_cell BK2.out 3).trans rfl⟩ (fun hHeld => ?_)
   clear hK K
   refine norm_ (a' := ?_) ?_ ?_
   rotate_left
   ·show Act.put _ (some 63) _ = _
    simp only [Act.put, List.setIfInBounds_toArray, List.set_cons_zero, List.set_cons_succ, i64_w, i32_w]
    rfl
   refine pure_ (i := 4) (N := some 65) (v := ?_) (a' := ?_) (bm_ 7 31) rfl rfl (by kernel_rfl) (fun _ _ _ h => h) (Or.inl ⟨by rfl, ?_⟩) ?_ ?_
   rotate_left
   ·intro w'
    go_simp
    with_reducible rfl
   rotate_left
   ·exact pu_
   refine one_ (i := 5) (N := none) (bm_ 7 63) rfl rfl (by kernel_rfl) (by decide) (fun K hK => ?_)
   have hs86 : w85.cell? ⟨gb1, 0, none⟩ = some (.int .i64 x2000_1) := (blk_cell BK1.out 0).trans rfl
   have hfs86 := blk_frozen BK1.out 0
   have hns86_1 := NB2_1.out
   have hms86_1 := NB1_2.out
   have hs87 : w85.cell? ⟨gb1, 1, none⟩ = some (.int .i64 x2001_1) := (blk_cell BK1.out 1).trans rfl
   have hfs87 := blk_frozen BK1.out 1
   have hns87_1 := NB2_1.out
   have hms87_1 := NB1_2.out
   have hs88 : w85.cell? ⟨gb1, 2, none⟩ = some (.int .i64 x2002_1) := (blk_cell BK1.out 2).trans rfl
   have hfs88 := blk_frozen BK1.out 2
   have hns88_1 := NB2_1.out
   have hms88_1 := NB1_2.out
   have hs89 : w85.cell? ⟨gb1, 3, none⟩ = some (.int .i64 x2003_1) := (blk_cell BK1.out 3).trans rfl
   have hfs89 := blk_frozen BK1.out 3
   have hns89_1 := NB2_1.out
   have hms89_1 := NB1_2.out
   refine skip_ (w1 := ?_) (by rfl) rfl ?_ ?_
   rotate_left
   ·go_simp
    rfl
   refine hK.out _ _ ⟨((cell_far (p := ⟨gb1, _, none⟩) NB2_1.out _).trans (((cell_far (p := ⟨gb1, _, none⟩) NB2_1.out _).trans (((cell_far (p := ⟨gb1, _, none⟩) NB2_1.out _).trans (((cell_far (p := ⟨gb1, _, none⟩) NB2_1.out _).trans (hHeld.1)))))))), ((cell_far (p := ⟨gb1, _, none⟩) NB2_1.out _).trans (((cell_far (p := ⟨gb1, _, none⟩) NB2_1.out _).trans (((cell_far (p := ⟨gb1, _, none⟩) NB2_1.out _).trans (((cell_far (p := ⟨gb1, _, none⟩) NB2_1.out _).trans (hHeld.2.1)))))))), ((cell_far (p := ⟨gb1, _, none⟩) NB2_1.out _).trans (((cell_far (p := ⟨gb1, _, none⟩) NB2_1.out _).trans (((cell_far (p := ⟨gb1, _, none⟩) NB2_1.out _).trans (((cell_far (p := ⟨gb1, _, none⟩) NB2_1.out _).trans (hHeld.2.2.1)))))))), ((cell_far (p := ⟨gb1, _, none⟩) NB2_1.out _).trans (((cell_far (p := ⟨gb1, _, none⟩) NB2_1.out _).trans (((cell_far (p := ⟨gb1, _, none⟩) NB2_1.out _).trans (((cell_far (p := ⟨gb1, _, none⟩) NB2_1.out _).trans (hHeld.2.2.2))))))))⟩ (fun hHeld => ?_)
   clear hK K
   refine pure_ (i := 6) (N := some 3) (v := ?_) (a' := ?_) (bm_ 7 127) rfl rfl (by kernel_rfl) (fun _ _ _ h => h) (Or.inl ⟨by rfl, ?_⟩) ?_ ?_
   rotate_left
   ·intro w'
    go_simp
    with_reducible rfl
   rotate_left
   ·exact pu_
   refine done_ (by kernel_rfl) ?_
   try go_wp2
   refine bodyPost_ret (results_ct rfl _ _ gb1 46 #[.int .i64 1, .int .i64 x3001_1, .int .i64 x3002_1, .int .i64 x3003_1] (0, 0) _ rfl (by (with_reducible repeat (first | refine blk_drewN ?_ _ | refine blk_drew ?_ | refine blk_alloc ?_ _)); refine blk_put (cs := #[.int .i64 1, .int .i64 x3001_1, .int .i64 x3002_1, .int .i64 x2003_1]) ?_ 3 _ rfl; (with_reducible repeat (first | refine blk_drewN ?_ _ | refine blk_drew ?_ | refine blk_alloc ?_ _)); refine blk_put (cs := #[.int .i64 1, .int .i64 x3001_1, .int .i64 x2002_1, .int .i64 x2003_1]) ?_ 2 _ rfl; (with_reducible repeat (first | refine blk_drewN ?_ _ | refine blk_drew ?_ | refine blk_alloc ?_ _)); refine blk_put (cs := #[.int .i64 1, .int .i64 x2001_1, .int .i64 x2002_1, .int .i64 x2003_1]) ?_ 1 _ rfl; (with_reducible repeat (first | refine blk_drewN ?_ _ | refine blk_drew ?_ | refine blk_alloc ?_ _)); refine blk_put (cs := #[.int .i64 x2000_1, .int .i64 x2001_1, .int .i64 x2002_1, .int .i64 x2003_1]) ?_ 0 _ rfl; (with_reducible repeat (first | refine blk_drewN ?_ _ | refine blk_drew ?_ | refine blk_alloc ?_ _)); exact BK1.out) Tryz.underlying46 rfl (by kernel_rfl)) rfl ?_
   exact ⟨rr_, bw_⟩

end Go.Proofs.YtbgclnjnngolmaaGreatDoor.P
