-- Written by mp.py (the session's own driver over the kit's printer) for the seat YtchpopocnaoabaaDoor.
import Derived.Test.YtchpopocnaoabaaDoorK
import Derived.Test.YtchpopocnaoabaaDoorE
import Derived.Test.YtchpopocnaoabaaDoorPlawsbig
import Derived.Test.YtchpopocnaoabaaDoorPspecl01DrawValue
namespace Go.Proofs.YtchpopocnaoabaaDoor.P
open Go.RowKit Go.Proofs.YtchpopocnaoabaaDoorW.PrintWords Go.Proofs.YtchpopocnaoabaaDoorW.PrintLast Go.Proofs.YtchpopocnaoabaaDoorW.PrintMore
attribute [local go_sem] max2_int min2_int max_two min_two max_three min_three max_four min_four
set_option linter.unusedVariables false
set_option linter.unusedSimpArgs false

/-! ### spec_l01DrawMem: function 141 -/
mutual
def spec_l01DrawMem.j0 : Nat → Int → List Int → Int → Int → Option (List Int × Int × Int)
 | 0, _, _, _, _ => none
 | k + 1, x6, x1000, x1001, x1002 => spec_l01DrawMem.l0 k x6 0 x1000 x1001 x1002 ([] : List Int)
def spec_l01DrawMem.l0 : Nat → Int → Int → List Int → Int → Int → List Int → Option (List Int × Int × Int)
 | 0, _, _, _, _, _, _ => none
 | k + 1, x6, x7, x1000, x1001, x1002, x3000 => if x7 < x6 then ((spec_l01DrawValue.f x1000 x1001 x1002).bind fun bt15 => (if x3000.length < 17592186044416 then (spec_l01DrawMem.l0 k x6 (wrap64 (x7 + 1)) x1000 bt15.2.1 bt15.2.2 (x3000 ++ [bt15.1])) else (none))) else ((spec_l01Once.f x1000 x1001 x1002 25).bind fun bt21 => (if bt21.1 = true then (spec_l01DrawMem.j2 k x6 (decide (x6 > 0)) x1000 bt21.2.1 bt21.2.2 x3000) else (spec_l01DrawMem.j2 k x6 false x1000 bt21.2.1 bt21.2.2 x3000)))
def spec_l01DrawMem.j2 : Nat → Int → Bool → List Int → Int → Int → List Int → Option (List Int × Int × Int)
 | 0, _, _, _, _, _, _ => none
 | k + 1, x6, x34, x1000, x1001, x1002, x3000 => if x34 = true then ((spec_l01Below.f x1000 x1001 x1002 x6).bind fun bt24 => ((spec_l01PickInt.f x1000 bt24.2.1 bt24.2.2 (([1000001, (-1000001)] : List Int))).bind fun bt30 => (if 0 ≤ bt24.1 then (if bt24.1 < (x3000.length : Int) then (some ((x3000.set (bt24.1 : Int).toNat bt30.1), bt30.2.1, bt30.2.2)) else (none)) else (none)))) else (some (x3000, x1001, x1002))
end
def spec_l01DrawMem.f (k : Nat) (s0_0 : List Int) (s0_1 : Int) (s0_2 : Int) (l1 : List Int) : Option (List Int × Int × Int) := (spec_l01Below.f s0_0 s0_1 s0_2 8).bind fun bt3 => ((spec_l01Once.f s0_0 bt3.2.1 bt3.2.2 12).bind fun bt6 => (if bt6.1 = true then ((spec_l01PickInt.f s0_0 bt6.2.1 bt6.2.2 (([0, 16, 17] : List Int))).bind fun bt12 => (spec_l01DrawMem.j0 k bt12.1 s0_0 bt12.2.1 bt12.2.2)) else (spec_l01DrawMem.j0 k (wrap64 (1 + bt3.1)) s0_0 bt6.2.1 bt6.2.2)))
theorem spec_l01DrawMem.mono_l : ∀ k, (∀ y0 y1 y2 y3, LeO (spec_l01DrawMem.j0 k y0 y1 y2 y3) (spec_l01DrawMem.j0 (k + 1) y0 y1 y2 y3)) ∧ (∀ y0 y1 y2 y3 y4 y5, LeO (spec_l01DrawMem.l0 k y0 y1 y2 y3 y4 y5) (spec_l01DrawMem.l0 (k + 1) y0 y1 y2 y3 y4 y5)) ∧ (∀ y0 y1 y2 y3 y4 y5, LeO (spec_l01DrawMem.j2 k y0 y1 y2 y3 y4 y5) (spec_l01DrawMem.j2 (k + 1) y0 y1 y2 y3 y4 y5))
 | 0 => ⟨fun _ _ _ _ r h => by simp [spec_l01DrawMem.j0] at h, fun _ _ _ _ _ _ r h => by simp [spec_l01DrawMem.l0] at h, fun _ _ _ _ _ _ r h => by simp [spec_l01DrawMem.j2] at h⟩
 | k + 1 => by
  obtain ⟨ih0, ih1, ih2⟩ := spec_l01DrawMem.mono_l k
  refine ⟨?_, ?_, ?_⟩
  ·intro y0 y1 y2 y3
   unfold spec_l01DrawMem.j0
   repeat' first | (with_reducible first | exact ih0 _ _ _ _ | exact ih1 _ _ _ _ _ _ | exact ih2 _ _ _ _ _ _ | exact lr_ | exact ln_ | refine LeO.ite ?_ ?_ | refine LeO.bind ?_ (fun _ => ?_)) | exact ih0 _ _ _ _ | exact ih1 _ _ _ _ _ _ | exact ih2 _ _ _ _ _ _ | exact ln_ | refine LeO.ite ?_ ?_ | refine LeO.bind ?_ (fun _ => ?_)
  ·intro y0 y1 y2 y3 y4 y5
   unfold spec_l01DrawMem.l0
   repeat' first | (with_reducible first | exact ih0 _ _ _ _ | exact ih1 _ _ _ _ _ _ | exact ih2 _ _ _ _ _ _ | exact lr_ | exact ln_ | refine LeO.ite ?_ ?_ | refine LeO.bind ?_ (fun _ => ?_)) | exact ih0 _ _ _ _ | exact ih1 _ _ _ _ _ _ | exact ih2 _ _ _ _ _ _ | exact ln_ | refine LeO.ite ?_ ?_ | refine LeO.bind ?_ (fun _ => ?_)
  ·intro y0 y1 y2 y3 y4 y5
   unfold spec_l01DrawMem.j2
   repeat' first | (with_reducible first | exact ih0 _ _ _ _ | exact ih1 _ _ _ _ _ _ | exact ih2 _ _ _ _ _ _ | exact lr_ | exact ln_ | refine LeO.ite ?_ ?_ | refine LeO.bind ?_ (fun _ => ?_)) | exact ih0 _ _ _ _ | exact ih1 _ _ _ _ _ _ | exact ih2 _ _ _ _ _ _ | exact ln_ | refine LeO.ite ?_ ?_ | refine LeO.bind ?_ (fun _ => ?_)
theorem spec_l01DrawMem.mono : ∀ a0 a1 a2 a3 k, LeO (spec_l01DrawMem.f k a0 a1 a2 a3) (spec_l01DrawMem.f (k + 1) a0 a1 a2 a3) := by
 intro a0 a1 a2 a3 k
 obtain ⟨ih0, ih1, ih2⟩ := spec_l01DrawMem.mono_l k
 unfold spec_l01DrawMem.f
 repeat' first | (with_reducible first | exact ih0 _ _ _ _ | exact ih1 _ _ _ _ _ _ | exact ih2 _ _ _ _ _ _ | exact lr_ | exact ln_ | refine LeO.ite ?_ ?_ | refine LeO.bind ?_ (fun _ => ?_)) | exact ih0 _ _ _ _ | exact ih1 _ _ _ _ _ _ | exact ih2 _ _ _ _ _ _ | exact ln_ | refine LeO.ite ?_ ?_ | refine LeO.bind ?_ (fun _ => ?_)
def spec_l01DrawMem.T8 : Bool × List (List Nat × List Nat) := (true, [([], []), ([0], [0]), ([], []), ([2], [2]), ([3], [3]), ([1, 4, 3], [1, 4]), ([0, 1, 2, 3, 4, 5], []), ([6, 5, 5, 0, 1, 2, 3, 4, 5], [5, 6])])
def spec_l01DrawMem.B8 : List Nat := [0, 1, 0, 4, 12, 31, 63, 127]
theorem spec_l01DrawMem.tab8 : rtab .any (opsOf Tryd.f141 8) = spec_l01DrawMem.T8 := by kernel_rfl
theorem spec_l01DrawMem.bits8 : waitsOk spec_l01DrawMem.T8.2 spec_l01DrawMem.B8 = true := by kernel_rfl
def spec_l01DrawMem.T10 : Bool × List (List Nat × List Nat) := (true, [([], []), ([0], [0]), ([], []), ([], []), ([2, 3], [2, 3]), ([], []), ([], []), ([5, 6, 4], [5, 6]), ([1, 4, 0, 1, 2, 3, 4, 5, 6, 7], [1, 4]), ([8, 7, 7, 0, 1, 2, 3, 4, 5, 6, 7], [7, 8])])
def spec_l01DrawMem.B10 : List Nat := [0, 1, 0, 0, 12, 0, 0, 124, 255, 511]
theorem spec_l01DrawMem.tab10 : rtab .any (opsOf Tryd.f141 10) = spec_l01DrawMem.T10 := by kernel_rfl
theorem spec_l01DrawMem.bits10 : waitsOk spec_l01DrawMem.T10.2 spec_l01DrawMem.B10 = true := by kernel_rfl
set_option maxHeartbeats 8000000 in
set_option maxRecDepth 100000 in
theorem spec_l01DrawMem.calls (k : Nat) (g : Nat) (s0_0 : List Int) (s0_1 : Int) (s0_2 : Int) (A1 : Option Addr) (c1 : Nat) (l1 : List Int) (r1 : List Int) (r2 : Int) (r3 : Int) (w0 w : World) (hI : IsS145 w0 w g s0_0 s0_1 s0_2) (hB : Below w0.heap.size w0 w) (hr1 : Kd.C (Kd.int .u8) w A1 l1.length l1) (hc1 : l1.length ≤ c1) (hf1 : ∀ ad, A1 = some ad → 0 < l1.length → ad.block ≠ g) (h : spec_l01DrawMem.f k s0_0 s0_1 s0_2 l1 = some (r1, r2, r3)) :
  Calls Tryd.prog 141 #[.pointer (some ⟨g, 0, none⟩), .slice A1 l1.length c1] w fun e w' => ∃ v0_ : Value, e = .returned (.agg #[v0_]) ∧ Kd.R (Kd.int .i64) 3 w' w.heap.size (fun _ => True) v0_ r1 ∧ IsS145 w0 w' g s0_0 r2 r3 ∧ Below w0.heap.size w0 w' ∧ KeepBut w w' g none := by
 have hu60 := Tryd.underlying60
 have HR1 := Aside0.mk hr1
 have HC1 := Aside0.mk hc1
 clear hr1 hc1
 have HI0 := Aside0.mk hI
 have HK := Aside0.mk (KeepBut.refl w g none)
 have HL := Aside0.mk hB.size
 clear hI
 have HW0 := Aside0.mk hB.size
 have HB := Aside0.mk hB
 clear hB
 have H : ((spec_l01Below.f s0_0 s0_1 s0_2 8).bind fun bt3 => ((spec_l01Once.f s0_0 bt3.2.1 bt3.2.2 12).bind fun bt6 => (if bt6.1 = true then ((spec_l01PickInt.f s0_0 bt6.2.1 bt6.2.2 (([0, 16, 17] : List Int))).bind fun bt12 => (spec_l01DrawMem.j0 k bt12.1 s0_0 bt12.2.1 bt12.2.2)) else (spec_l01DrawMem.j0 k (wrap64 (1 + bt3.1)) s0_0 bt6.2.1 bt6.2.2)))) = some (r1, r2, r3) := h
 clear h
 replace H := Option.bind_eq_some_iff.mp H
 obtain ⟨⟨t3, t4, t5⟩, A30, H⟩ := H
 replace H : ((spec_l01Once.f s0_0 t4 t5 12).bind fun bt6 => (if bt6.1 = true then ((spec_l01PickInt.f s0_0 bt6.2.1 bt6.2.2 (([0, 16, 17] : List Int))).bind fun bt12 => (spec_l01DrawMem.j0 k bt12.1 s0_0 bt12.2.1 bt12.2.2)) else (spec_l01DrawMem.j0 k (wrap64 (1 + t3)) s0_0 bt6.2.1 bt6.2.2))) = some (r1, r2, r3) := H
 have A3 := Aside0.mk A30
 clear A30
 replace H := Option.bind_eq_some_iff.mp H
 obtain ⟨⟨t6, t7, t8⟩, A40, H⟩ := H
 replace H : (if t6 = true then ((spec_l01PickInt.f s0_0 t7 t8 (([0, 16, 17] : List Int))).bind fun bt12 => (spec_l01DrawMem.j0 k bt12.1 s0_0 bt12.2.1 bt12.2.2)) else (spec_l01DrawMem.j0 k (wrap64 (1 + t3)) s0_0 t7 t8)) = some (r1, r2, r3) := H
 have A4 := Aside0.mk A40
 clear A40
 have HC5 := Aside0.mk H
 clear H
 go_enter Tryd.func141, Tryd.ntmps141
 go_upto_if 13 with (first | ((with_reducible refine gate_dst (N := 4) rfl ?_); refine box_event ?hg (N := 4) ?hd (cs := #[.slice none 0 0]) (t := 60) ?hr ?_; (case hd => rfl); (case hg => rfl); (case hr => exact hrr_); intro gb1 hg w6 hbox hb; have n0_ := Aside0.mk (IsS145.below (by repeat (first | (with_reducible first | exact HI0.out | apply IsS145.alloc | apply IsS145.drewN | apply IsS145.drew | apply IsS145.set_1 | apply IsS145.set_2) | exact HI0.out)) hb); have n1_ := Aside0.mk (KeepBut.trans (by repeat (first | (with_reducible first | exact HK.out | apply KeepBut.set_ | apply keep_drewN | apply keep_drew | apply keep_alloc) | exact HK.out)) (KeepBut.of_below hb g none) (.inl rfl)); have n2_ := Aside0.mk (below_step (by repeat (first | (with_reducible first | exact HB.out | apply below_alloc | apply pw_below_drewN | apply below_drew1 | refine below_set ?_ (IsS145.ge HI0.out)) | exact HB.out)) hb); have n3_ := Aside0.mk (hbox); have n4_ := Aside0.mk ((by rw [hg]; exact (keep_size (w := w) (g := g) (row := none) (by repeat (first | (with_reducible first | exact HK.out | apply KeepBut.set_ | apply keep_drewN | apply keep_drew | apply keep_alloc) | exact HK.out))) : w.heap.size ≤ gb1)); have n5_ := Aside0.mk ((Nat.le_trans HW0.out (by rw [hg]; exact (keep_size (w := w) (g := g) (row := none) (by repeat (first | (with_reducible first | exact HK.out | apply KeepBut.set_ | apply keep_drewN | apply keep_drew | apply keep_alloc) | exact HK.out))) : w.heap.size ≤ gb1) : w0.heap.size ≤ gb1)); have n6_ := Aside0.mk ((by rw [hg]; exact Nat.ne_of_lt (IsS145.lt (show IsS145 w0 _ g s0_0 s0_1 s0_2 from by repeat (first | (with_reducible first | exact HI0.out | apply IsS145.alloc | apply IsS145.drewN | apply IsS145.drew | apply IsS145.set_1 | apply IsS145.set_2) | exact HI0.out))) : g ≠ gb1)); have n7_ := Aside0.mk ((by rw [hg]; exact Nat.ne_of_gt (IsS145.lt (show IsS145 w0 _ g s0_0 s0_1 s0_2 from by repeat (first | (with_reducible first | exact HI0.out | apply IsS145.alloc | apply IsS145.drewN | apply IsS145.drew | apply IsS145.set_1 | apply IsS145.set_2) | exact HI0.out))) : gb1 ≠ g)); clear HI0; clear HK; clear HB; have HI0 := n0_; have HK := n1_; have HB := n2_; have BK1 := n3_; have GW1 := n4_; have GE1 := n5_; have NB0_1 := n6_; have NB1_0 := n7_; clear n0_ n1_ n2_ n3_ n4_ n5_ n6_ n7_; clear hb hbox hg) | ((with_reducible refine gate_dst (N := 5) rfl ?_); refine box_event ?hg (N := 5) ?hd (cs := #[.slice none 0 0]) (t := 60) ?hr ?_; (case hd => rfl); (case hg => rfl); (case hr => exact hrr_); intro gb2 hg w7 hbox hb; have n0_ := Aside0.mk (IsS145.below (by repeat (first | (with_reducible first | exact HI0.out | apply IsS145.alloc | apply IsS145.drewN | apply IsS145.drew | apply IsS145.set_1 | apply IsS145.set_2 | refine IsS145.far ?_ NB0_1.out _) | exact HI0.out)) hb); have n1_ := bb_ BK1.out hb; have n2_ := Aside0.mk (KeepBut.trans (by repeat (first | (with_reducible first | exact HK.out | apply KeepBut.set_ | apply keep_drewN | apply keep_drew | apply keep_alloc | refine keep_far ?_ GW1.out _) | exact HK.out)) (KeepBut.of_below hb g none) (.inl rfl)); have n3_ := Aside0.mk (below_step (by repeat (first | (with_reducible first | exact HB.out | apply below_alloc | apply pw_below_drewN | apply below_drew1 | refine below_set ?_ (IsS145.ge HI0.out) | refine below_set ?_ GE1.out) | exact HB.out)) hb); have n4_ := Aside0.mk (hbox); have n5_ := Aside0.mk ((by rw [hg]; exact (keep_size (w := w) (g := g) (row := none) (by repeat (first | (with_reducible first | exact HK.out | apply KeepBut.set_ | apply keep_drewN | apply keep_drew | apply keep_alloc | refine keep_far ?_ GW1.out _) | exact HK.out))) : w.heap.size ≤ gb2)); have n6_ := Aside0.mk ((Nat.le_trans HW0.out (by rw [hg]; exact (keep_size (w := w) (g := g) (row := none) (by repeat (first | (with_reducible first | exact HK.out | apply KeepBut.set_ | apply keep_drewN | apply keep_drew | apply keep_alloc | refine keep_far ?_ GW1.out _) | exact HK.out))) : w.heap.size ≤ gb2) : w0.heap.size ≤ gb2)); have n7_ := nl_ BK1.out hg; have n8_ := nr_ BK1.out hg; have n9_ := Aside0.mk ((by rw [hg]; exact Nat.ne_of_lt (IsS145.lt (show IsS145 w0 _ g s0_0 s0_1 s0_2 from by repeat (first | (with_reducible first | exact HI0.out | apply IsS145.alloc | apply IsS145.drewN | apply IsS145.drew | apply IsS145.set_1 | apply IsS145.set_2 | refine IsS145.far ?_ NB0_1.out _) | exact HI0.out))) : g ≠ gb2)); have n10_ := Aside0.mk ((by rw [hg]; exact Nat.ne_of_gt (IsS145.lt (show IsS145 w0 _ g s0_0 s0_1 s0_2 from by repeat (first | (with_reducible first | exact HI0.out | apply IsS145.alloc | apply IsS145.drewN | apply IsS145.drew | apply IsS145.set_1 | apply IsS145.set_2 | refine IsS145.far ?_ NB0_1.out _) | exact HI0.out))) : gb2 ≠ g)); clear HI0; clear BK1; clear HK; clear HB; have HI0 := n0_; have BK1 := n1_; have HK := n2_; have HB := n3_; have BK2 := n4_; have GW2 := n5_; have GE2 := n6_; have NB1_2 := n7_; have NB2_1 := n8_; have NB0_2 := n9_; have NB2_0 := n10_; clear n0_ n1_ n2_ n3_ n4_ n5_ n6_ n7_ n8_ n9_ n10_; clear hb hbox hg; have hnb8 := NB2_1.out; have hnc8 := NB1_2.out; have hnb9 := NB2_0.out; have hnc9 := NB0_2.out; obtain ⟨hcz10_0, hfz10_0⟩ := bc1_ BK2.out) | ((with_reducible refine gate_callee (f := 121) rfl ?_); refine goesL_ (some 10) rfl rfl Tryd.func121 (by kernel_rfl) rfl #[.pointer (some ⟨g, 0, none⟩), .int .i64 8] rfl ar_ ?_; (with_reducible refine (spec_l01Below.calls g s0_0 s0_1 s0_2 8 t3 t4 t5 w0 _ ?side1 ?side2 A3.out).mono ?_); (case side1 => repeat (first | (with_reducible first | exact HI0.out | apply IsS145.alloc | apply IsS145.drewN | apply IsS145.drew | apply IsS145.set_1 | apply IsS145.set_2 | refine IsS145.far ?_ NB0_1.out _ | refine IsS145.far ?_ NB0_2.out _) | exact HI0.out)); (case side2 => repeat (first | (with_reducible first | exact HB.out | apply below_alloc | apply pw_below_drewN | apply below_drew1 | refine below_set ?_ (IsS145.ge HI0.out) | refine below_set ?_ GE1.out | refine below_set ?_ GE2.out) | exact HB.out)); rintro e w11 ⟨rfl, hi, hb, hk⟩; refine ⟨_, rfl, ?_⟩; have n0_ := Aside0.mk (KeepBut.blk hk (g' := gb1) (o := .cells #[.slice none 0 0] 60 (0, 0)) (by (with_reducible repeat (first | refine blk_drewN ?_ _ | refine blk_drew ?_ | refine blk_alloc ?_ _)); refine blk_far ?_ NB1_2.out _; (with_reducible repeat (first | refine blk_drewN ?_ _ | refine blk_drew ?_ | refine blk_alloc ?_ _)); exact BK1.out) NB1_0.out (by simp)); have n1_ := Aside0.mk (KeepBut.blk hk (g' := gb2) (o := .cells #[.slice none 0 0] 60 (0, 0)) (by (with_reducible repeat (first | refine blk_drewN ?_ _ | refine blk_drew ?_ | refine blk_alloc ?_ _)); refine blk_put (cs := #[.slice none 0 0]) ?_ 0 _ rfl; (with_reducible repeat (first | refine blk_drewN ?_ _ | refine blk_drew ?_ | refine blk_alloc ?_ _)); exact BK2.out) NB2_0.out (by simp)); have n2_ := Aside0.mk (KeepBut.trans (by repeat (first | (with_reducible first | exact HK.out | apply KeepBut.set_ | apply keep_drewN | apply keep_drew | apply keep_alloc | refine keep_far ?_ GW1.out _ | refine keep_far ?_ GW2.out _) | exact HK.out)) hk (.inl rfl)); have n3_ := Aside0.mk (hb); have n4_ := Aside0.mk (hi); clear BK1; clear BK2; clear HK; clear HB; clear HI0; have BK1 := n0_; have BK2 := n1_; have HK := n2_; have HB := n3_; have HI0 := n4_; clear n0_ n1_ n2_ n3_ n4_; (try clear hb); (try clear hb2); (try clear hk); (try clear hi)) | ((with_reducible refine gate_callee (f := 73) rfl ?_); refine goesL_ (some 13) rfl rfl Tryd.func73 (by kernel_rfl) rfl #[.pointer (some ⟨g, 0, none⟩), .int .i64 12] rfl ar_ ?_; (with_reducible refine (spec_l01Once.calls g s0_0 t4 t5 12 t6 t7 t8 w0 _ ?side1 ?side2 A4.out).mono ?_); (case side1 => repeat (first | (with_reducible first | exact HI0.out | apply IsS145.alloc | apply IsS145.drewN | apply IsS145.drew | apply IsS145.set_1 | apply IsS145.set_2 | refine IsS145.far ?_ NB0_1.out _ | refine IsS145.far ?_ NB0_2.out _) | exact HI0.out)); (case side2 => repeat (first | (with_reducible first | exact HB.out | apply below_alloc | apply pw_below_drewN | apply below_drew1 | refine below_set ?_ (IsS145.ge HI0.out) | refine below_set ?_ GE1.out | refine below_set ?_ GE2.out) | exact HB.out)); rintro e w12 ⟨rfl, hi, hb, hk⟩; refine ⟨_, rfl, ?_⟩; have n0_ := Aside0.mk (KeepBut.blk hk (g' := gb1) (o := .cells #[.slice none 0 0] 60 (0, 0)) bk_ NB1_0.out (by simp)); have n1_ := Aside0.mk (KeepBut.blk hk (g' := gb2) (o := .cells #[.slice none 0 0] 60 (0, 0)) bk_ NB2_0.out (by simp)); have n2_ := Aside0.mk (KeepBut.trans (by repeat (first | (with_reducible first | exact HK.out | apply KeepBut.set_ | apply keep_drewN | apply keep_drew | apply keep_alloc | refine keep_far ?_ GW1.out _ | refine keep_far ?_ GW2.out _) | exact HK.out)) hk (.inl rfl)); have n3_ := Aside0.mk (hb); have n4_ := Aside0.mk (hi); clear BK1; clear BK2; clear HK; clear HB; clear HI0; have BK1 := n0_; have BK2 := n1_; have HK := n2_; have HB := n3_; have HI0 := n4_; clear n0_ n1_ n2_ n3_ n4_; (try clear hb); (try clear hb2); (try clear hk); (try clear hi)))
 (try simp only [Act.put, List.setIfInBounds_toArray, List.set_cons_zero, List.set_cons_succ])
 go_cut [6] (fun v6 wc => ∃ (kq : Nat) (x6_4 : Int) (x1001_4 : Int) (x1002_4 : Int), v6 = .int .i64 x6_4 ∧ Aside0 (spec_l01DrawMem.j0 kq x6_4 s0_0 x1001_4 x1002_4 = some (r1, r2, r3)) ∧ Aside0 (kq ≤ k) ∧ Aside0 (wc.heap[gb1]? = some (.cells #[(.slice none 0 0)] 60 (0, 0))) ∧ Aside0 (wc.heap[gb2]? = some (.cells #[(.slice none 0 0)] 60 (0, 0))) ∧ Aside0 (IsS145 w0 wc g s0_0 x1001_4 x1002_4) ∧ Aside0 (KeepBut w wc g none) ∧ Aside0 (Below w0.heap.size w0 wc))
 case first =>
  have H := HC5.out
  clear HC5
  by_cases c13 : t6 = true
  rotate_left
  ·replace c13 := Bool.eq_false_iff.mpr c13
   subst c13
   have H1 : (spec_l01DrawMem.j0 k (wrap64 (1 + t3)) s0_0 t7 t8) = some (r1, r2, r3) := by rw [if_neg (show ¬ (false = true) by decide)] at H; exact H
   clear H
   have H := H1
   clear H1
   have H' := Aside0.mk H
   clear H
   go_wp2
   go_meet
   case rel => exact ⟨_, (wrap64 (1 + t3)), (t7), (t8), sd_, H', ⟨by first | omega | exact Nat.le_refl _⟩, ⟨bk_⟩, ⟨bk_⟩, ⟨by repeat (first | (with_reducible first | exact HI0.out | apply IsS145.alloc | apply IsS145.drewN | apply IsS145.drew | apply IsS145.set_1 | apply IsS145.set_2 | refine IsS145.far ?_ NB0_1.out _ | refine IsS145.far ?_ NB0_2.out _) | exact HI0.out)⟩, ⟨by repeat (first | (with_reducible first | exact HK.out | apply KeepBut.set_ | apply keep_drewN | apply keep_drew | apply keep_alloc | refine keep_far ?_ GW1.out _ | refine keep_far ?_ GW2.out _) | exact HK.out)⟩, ⟨by repeat (first | (with_reducible first | exact HB.out | apply below_alloc | apply pw_below_drewN | apply below_drew1 | refine below_set ?_ (IsS145.ge HI0.out) | refine below_set ?_ GE1.out | refine below_set ?_ GE2.out) | exact HB.out)⟩⟩
  subst c13
  have H1 : ((spec_l01PickInt.f s0_0 t7 t8 (([0, 16, 17] : List Int))).bind fun bt12 => (spec_l01DrawMem.j0 k bt12.1 s0_0 bt12.2.1 bt12.2.2)) = some (r1, r2, r3) := by rw [if_pos rfl] at H; exact H
  clear H
  have H := H1
  clear H1
  obtain ⟨y9, hy9⟩ : ∃ y_ : List Int, y_ = (([0, 16, 17] : List Int)) := ⟨_, rfl⟩
  replace H : ((spec_l01PickInt.f s0_0 t7 t8 y9).bind fun bt12 => (spec_l01DrawMem.j0 k bt12.1 s0_0 bt12.2.1 bt12.2.2)) = some (r1, r2, r3) := by first | (rw [hy9]; with_reducible exact H) | (have H2_ := (Option.bind_some _ _).symm.trans H; rw [hy9]; with_reducible exact H2_) | (have H2_ := (Option.bind_some _ _).symm.trans H; with_reducible exact H2_) | with_reducible exact H | (rw [hy9]; exact H) | exact H
  have Ny9 := Aside0.mk hy9
  clear hy9
  replace H := Option.bind_eq_some_iff.mp H
  obtain ⟨⟨t12, t13, t14⟩, A140, H⟩ := H
  replace H : (spec_l01DrawMem.j0 k t12 s0_0 t13 t14) = some (r1, r2, r3) := H
  have A14 := Aside0.mk A140
  clear A140
  have H' := Aside0.mk H
  clear H
  go_wp2_with (first | ((with_reducible refine gate_dst (N := 15) rfl ?_); refine Kd.R_lit (Kd.int .i64) _ 3 ?hg (N := 15) ?hd (xs := ([0, 16, 17] : List Int)) (inner := [.int .i64 0, .int .i64 16, .int .i64 17]) (ok := fun _ => True) (okp := fun _ => True) ?hr ?hp (fun _ hk => hk) trivial (Below.refl _ _) (Nat.le_refl _) (by simp) ?_; (case hd => rfl); (case hg => rfl); (case hr => first | (go_simp; done) | (go_simp; rfl)); (case hp => exact (Reps.one (show Kd.M (Kd.int .i64) _ _ _ 0 [.int .i64 0] from rfl) (Reps.one (show Kd.M (Kd.int .i64) _ _ _ 16 [.int .i64 16] from rfl) (Reps.one (show Kd.M (Kd.int .i64) _ _ _ 17 [.int .i64 17] from rfl) (Reps.none _ _))))); intro v10 w15 ho16 hb hg_ hnew_; clear hg_ hnew_; (first | rw [← Ny9.out] at ho16 | (simp only [Int.reduceToNat] at ho16; rw [← Ny9.out] at ho16)); have n0_ := Aside0.mk (Kd.R_lower ho16 (keep_size (w := w) (g := g) (row := none) (by repeat (first | (with_reducible first | exact HK.out | apply KeepBut.set_ | apply keep_drewN | apply keep_drew | apply keep_alloc | refine keep_far ?_ GW1.out _ | refine keep_far ?_ GW2.out _) | exact HK.out)))); have n1_ := Aside0.mk (IsS145.below (by repeat (first | (with_reducible first | exact HI0.out | apply IsS145.alloc | apply IsS145.drewN | apply IsS145.drew | apply IsS145.set_1 | apply IsS145.set_2 | refine IsS145.far ?_ NB0_1.out _ | refine IsS145.far ?_ NB0_2.out _) | exact HI0.out)) hb); have n2_ := bb_ BK1.out hb; have n3_ := bb_ BK2.out hb; have n4_ := Aside0.mk (KeepBut.trans (by repeat (first | (with_reducible first | exact HK.out | apply KeepBut.set_ | apply keep_drewN | apply keep_drew | apply keep_alloc | refine keep_far ?_ GW1.out _ | refine keep_far ?_ GW2.out _) | exact HK.out)) (KeepBut.of_below hb g none) (.inl rfl)); have n5_ := Aside0.mk (below_step (by repeat (first | (with_reducible first | exact HB.out | apply below_alloc | apply pw_below_drewN | apply below_drew1 | refine below_set ?_ (IsS145.ge HI0.out) | refine below_set ?_ GE1.out | refine below_set ?_ GE2.out) | exact HB.out)) hb); clear HI0; clear BK1; clear BK2; clear HK; clear HB; have HO11 := n0_; have HI0 := n1_; have BK1 := n2_; have BK2 := n3_; have HK := n4_; have HB := n5_; clear n0_ n1_ n2_ n3_ n4_ n5_; clear hb ho16; obtain ⟨Ao17, co17, eo17⟩ := Kd.R_slice HO11.out; subst eo17) | ((with_reducible refine gate_callee (f := 123) rfl ?_); refine goesL_ (some 16) rfl rfl Tryd.func123 (by kernel_rfl) rfl #[.pointer (some ⟨g, 0, none⟩), .slice Ao17 y9.length co17] rfl ar_ ?_; (with_reducible refine (spec_l01PickInt.calls g s0_0 t7 t8 _ _ y9 t12 t13 t14 w0 _ ?side1 ?side2 ?side3 ?side4 ?side5 A14.out).mono ?_); (case side1 => repeat (first | (with_reducible first | exact HI0.out | apply IsS145.alloc | apply IsS145.drewN | apply IsS145.drew | apply IsS145.set_1 | apply IsS145.set_2 | refine IsS145.far ?_ NB0_1.out _ | refine IsS145.far ?_ NB0_2.out _) | exact HI0.out)); (case side2 => repeat (first | (with_reducible first | exact HB.out | apply below_alloc | apply pw_below_drewN | apply below_drew1 | refine below_set ?_ (IsS145.ge HI0.out) | refine below_set ?_ GE1.out | refine below_set ?_ GE2.out) | exact HB.out)); (case side3 => repeat (first | exact (Kd.R_reads' HO11.out).2.2 | (with_reducible refine Kd.C_alloc ?_ _) | (with_reducible refine Kd.C_drewN ?_ _) | (with_reducible refine Kd.C_drew ?_))); (case side4 => exact (Kd.R_reads' HO11.out).2.1); (case side5 => exact far_slice (IsS145.own_ne HI0.out HO11.out (by decide))); rintro e w18 ⟨rfl, hi, hb, hk⟩; refine ⟨_, rfl, ?_⟩; have n0_ := Aside0.mk (KeepBut.blk hk (g' := gb1) (o := .cells #[.slice none 0 0] 60 (0, 0)) bk_ NB1_0.out (by simp)); have n1_ := Aside0.mk (KeepBut.blk hk (g' := gb2) (o := .cells #[.slice none 0 0] 60 (0, 0)) bk_ NB2_0.out (by simp)); have n2_ := Aside0.mk (Kd.R_mono (Kd.R_keep (IsS145.apart (show IsS145 w0 _ g s0_0 t7 t8 from by repeat (first | (with_reducible first | exact HI0.out | apply IsS145.alloc | apply IsS145.drewN | apply IsS145.drew | apply IsS145.set_1 | apply IsS145.set_2 | refine IsS145.far ?_ NB0_1.out _ | refine IsS145.far ?_ NB0_2.out _) | exact HI0.out)) (rx_ HO11.out) (by decide)) hk (fun _ h => h.2)) (fun _ h => h.1)); have n3_ := Aside0.mk (KeepBut.trans (by repeat (first | (with_reducible first | exact HK.out | apply KeepBut.set_ | apply keep_drewN | apply keep_drew | apply keep_alloc | refine keep_far ?_ GW1.out _ | refine keep_far ?_ GW2.out _) | exact HK.out)) hk (.inl rfl)); have n4_ := Aside0.mk (hb); have n5_ := Aside0.mk (hi); clear BK1; clear BK2; clear HO11; clear HK; clear HB; clear HI0; have BK1 := n0_; have BK2 := n1_; have HO11 := n2_; have HK := n3_; have HB := n4_; have HI0 := n5_; clear n0_ n1_ n2_ n3_ n4_ n5_; (try clear hb); (try clear hb2); (try clear hk); (try clear hi)))
  go_meet
  case rel => exact ⟨_, (t12), (t13), (t14), sd_, H', ⟨by first | omega | exact Nat.le_refl _⟩, ⟨bk_⟩, ⟨bk_⟩, ⟨by repeat (first | (with_reducible first | exact HI0.out | apply IsS145.alloc | apply IsS145.drewN | apply IsS145.drew | apply IsS145.set_1 | apply IsS145.set_2 | refine IsS145.far ?_ NB0_1.out _ | refine IsS145.far ?_ NB0_2.out _) | exact HI0.out)⟩, ⟨by repeat (first | (with_reducible first | exact HK.out | apply KeepBut.set_ | apply keep_drewN | apply keep_drew | apply keep_alloc | refine keep_far ?_ GW1.out _ | refine keep_far ?_ GW2.out _) | exact HK.out)⟩, ⟨by repeat (first | (with_reducible first | exact HB.out | apply below_alloc | apply pw_below_drewN | apply below_drew1 | refine below_set ?_ (IsS145.ge HI0.out) | refine below_set ?_ GE1.out | refine below_set ?_ GE2.out) | exact HB.out)⟩⟩
 case rest =>
  clear HC5
  try clear c1
  try clear p2
  try clear p6
  try clear c7
  try clear c8
  try clear c9
  try clear c12
  try clear c13
  try clear c14
  try clear hcz10_0
  try clear hfz10_0
  obtain ⟨kq, x6_4, x1001_4, x1002_4, rfl, HA, HJ4, BK1, BK2, HI0, HK, HB⟩ := hcut
  cases kq with
  | zero => exact absurd HA.out (by simp [spec_l01DrawMem.j0])
  | succ kj4 =>
   have H := HA.out
   clear HA
   simp only [spec_l01DrawMem.j0] at H
   have H' := Aside0.mk H
   clear H
   go_wp2
   go_loopg [7] kj4 (fun kq v7 w' => ∃ (x7_2 : Int) (x1001_2 : Int) (x1002_2 : Int) (x3000_2 : List Int) (u3000 : Value), v7 = .int .i64 x7_2 ∧ Aside0 (spec_l01DrawMem.l0 kq x6_4 x7_2 s0_0 x1001_2 x1002_2 x3000_2 = some (r1, r2, r3)) ∧ Aside0 (kq ≤ kj4) ∧ Aside0 (Kd.R (Kd.int .i64) 3 w' w.heap.size (fun _ => True) u3000 x3000_2) ∧ Aside0 (w'.heap[gb1]? = some (.cells #[(.slice none 0 0)] 60 (0, 0))) ∧ Aside0 (w'.heap[gb2]? = some (.cells #[u3000] 60 (0, 0))) ∧ Aside0 (IsS145 w0 w' g s0_0 x1001_2 x1002_2) ∧ Aside0 (KeepBut w w' g none) ∧ Aside0 (Below w0.heap.size w0 w'))
   case atStart => exact ⟨(0), (x1001_4), (x1002_4), (([] : List Int)), (.slice none 0 0), sd_, H', ⟨Nat.le_refl _⟩, ⟨by first | exact Kd.R_nil _ _ _ _ _ | exact Kd.N_nil _ _ _ _ _ | exact Kd.V_nil _ _ _ _ _ | exact Kd.Q_nil _ _ _ _ _ | exact Kd.S_nil _ _ _ _ _⟩, ⟨bk_⟩, ⟨bk_⟩, ⟨by repeat (first | (with_reducible first | exact HI0.out | apply IsS145.alloc | apply IsS145.drewN | apply IsS145.drew | apply IsS145.set_1 | apply IsS145.set_2 | refine IsS145.far ?_ NB0_1.out _ | refine IsS145.far ?_ NB0_2.out _) | exact HI0.out)⟩, ⟨by repeat (first | (with_reducible first | exact HK.out | apply KeepBut.set_ | apply keep_drewN | apply keep_drew | apply keep_alloc | refine keep_far ?_ GW1.out _ | refine keep_far ?_ GW2.out _) | exact HK.out)⟩, ⟨by repeat (first | (with_reducible first | exact HB.out | apply below_alloc | apply pw_below_drewN | apply below_drew1 | refine below_set ?_ (IsS145.ge HI0.out) | refine below_set ?_ GE1.out | refine below_set ?_ GE2.out) | exact HB.out)⟩⟩
   case round =>
    clear H'
    try clear c1
    try clear p2
    try clear p6
    try clear c7
    try clear c8
    try clear c9
    try clear c12
    try clear c13
    try clear c14
    try clear hcz10_0
    try clear hfz10_0
    try clear p2
    try clear p6
    obtain ⟨x7_2, x1001_2, x1002_2, x3000_2, u3000, rfl, HA, HK2, HO_3000, BK1, BK2, HI0, HK, HB⟩ := hrel
    cases gk with
    | zero => exact absurd HA.out (by simp [spec_l01DrawMem.l0])
    | succ k2 =>
     have H := HA.out
     clear HA
     simp only [spec_l01DrawMem.l0] at H
     by_cases c19 : x7_2 < x6_4
     ·rw [if_pos c19] at H
      have c19b0 : decide (x7_2 < x6_4) = true := decide_eq_true c19
      clear c19
      replace H := Option.bind_eq_some_iff.mp H
      obtain ⟨⟨t15, t16, t17⟩, A200, H⟩ := H
      replace H : (if x3000_2.length < 17592186044416 then (spec_l01DrawMem.l0 k2 x6_4 (wrap64 (x7_2 + 1)) s0_0 t16 t17 (x3000_2 ++ [t15])) else (none)) = some (r1, r2, r3) := H
      have A20 := Aside0.mk A200
      clear A200
      by_cases c21 : x3000_2.length < 17592186044416
      rotate_left
      ·rw [if_neg c21] at H
       exact absurd H (by simp)
      rw [if_pos c21] at H
      have LMc21 := Aside0.mk c21
      clear c21
      obtain ⟨y18, hy18⟩ : ∃ y_ : List Int, y_ = (x3000_2 ++ [t15]) := ⟨_, rfl⟩
      replace H : (spec_l01DrawMem.l0 k2 x6_4 (wrap64 (x7_2 + 1)) s0_0 t16 t17 y18) = some (r1, r2, r3) := by first | (rw [hy18]; with_reducible exact H) | (have H2_ := (Option.bind_some _ _).symm.trans H; rw [hy18]; with_reducible exact H2_) | (have H2_ := (Option.bind_some _ _).symm.trans H; with_reducible exact H2_) | with_reducible exact H | (rw [hy18]; exact H) | exact H
      have Ny18 := Aside0.mk hy18
      clear hy18
      have H' := Aside0.mk H
      clear H
      try go_wp2
      have n0_ := Aside0.mk (Kd.R_drew HO_3000.out)
      have n1_ := Aside0.mk (blk_drew BK1.out)
      have n2_ := Aside0.mk (blk_drew BK2.out)
      have n3_ := Aside0.mk (IsS145.drew HI0.out)
      have n4_ := Aside0.mk (keep_drew HK.out)
      have n5_ := Aside0.mk (below_drew1 HB.out)
      clear HO_3000
      clear BK1
      clear BK2
      clear HI0
      clear HK
      clear HB
      have HO_3000 := n0_
      have BK1 := n1_
      have BK2 := n2_
      have HI0 := n3_
      have HK := n4_
      have HB := n5_
      clear n0_ n1_ n2_ n3_ n4_ n5_
      refine start_ (n := 8) (S := fun w' => w'.cell? ⟨gb2, 0, none⟩ = some (u3000)) (ds := [7]) #[false, false, false, false, false, false, false, false] (by kernel_rfl) rfl rfl ((blk_cell BK2.out 0).trans rfl) (fun hHeld => ?_); refine with_tabW spec_l01DrawMem.tab8 spec_l01DrawMem.bits8 (fun HT_ HW_ => ?_)
      generalize wr.drew = w22 at HO_3000 BK1 BK2 HI0 HK HB hHeld ⊢
      refine pure_ (i := 0) (N := some 22) (bm_ 8 1) rfl rfl (any_of HT_.out kr_) (fun _ _ _ h => h) (Or.inl ⟨rfl, yi_⟩) pu_ ?_
      refine pure_ (i := 2) (N := some 24) (bm_ 8 5) rfl rfl (any_of HT_.out kr_) (fun _ _ _ h => h) (Or.inl ⟨rfl, yi_⟩) pu_ ?_
      refine take_ (i := 1) (N := some 23) (v := ?_) (a' := ?_) (bm_ 8 7) rfl rfl (take_ofW HT_.out HW_.out (by kernel_rfl)) (fun _ _ _ h => h) (Or.inl ⟨by rfl, ?_⟩) hHeld ?_ ?_
      rotate_left
      ·intro w' s0
       go_simp
       with_reducible rfl
      rotate_left
      ·exact pu_
      refine one_ (i := 3) (N := some 25) (bm_ 8 15) rfl rfl (one_of HT_.out (by kernel_rfl)) (by decide) (fun K hK => ?_)
      refine goes_ Tryd.func163 (by kernel_rfl) rfl #[.pointer (some ⟨g, 0, none⟩)] (by rfl) rfl rfl ar_ ?_
      with_reducible refine (spec_l01DrawValue.calls g s0_0 x1001_2 x1002_2 t15 t16 t17 w0 _ ?side1 ?side2 A20.out).mono ?_
      (case side1 => repeat (first | (with_reducible first | exact HI0.out | apply IsS145.alloc | apply IsS145.drewN | apply IsS145.drew | apply IsS145.set_1 | apply IsS145.set_2 | refine IsS145.far ?_ NB0_1.out _ | refine IsS145.far ?_ NB0_2.out _) | exact HI0.out))
      (case side2 => repeat (first | (with_reducible first | exact HB.out | apply below_alloc | apply pw_below_drewN | apply below_drew1 | refine below_set ?_ (IsS145.ge HI0.out) | refine below_set ?_ GE1.out | refine below_set ?_ GE2.out) | exact HB.out))
      rintro e w23 ⟨rfl, hi, hb, hk⟩
      refine ⟨_, rfl, ?_⟩
      have n0_ := Aside0.mk (Kd.R_mono (Kd.R_keep (IsS145.apart (show IsS145 w0 _ g s0_0 x1001_2 x1002_2 from by repeat (first | (with_reducible first | exact HI0.out | apply IsS145.alloc | apply IsS145.drewN | apply IsS145.drew | apply IsS145.set_1 | apply IsS145.set_2 | refine IsS145.far ?_ NB0_1.out _ | refine IsS145.far ?_ NB0_2.out _) | exact HI0.out)) (rx_ HO_3000.out) (by decide)) hk (fun _ h => h.2)) (fun _ h => h.1))
      have n1_ := Aside0.mk (KeepBut.blk hk (g' := gb1) (o := .cells #[.slice none 0 0] 60 (0, 0)) bk_ NB1_0.out (by simp))
      have n2_ := Aside0.mk (KeepBut.blk hk (g' := gb2) (o := .cells #[u3000] 60 (0, 0)) bk_ NB2_0.out (by simp))
      have n3_ := Aside0.mk (KeepBut.trans (by repeat (first | (with_reducible first | exact HK.out | apply KeepBut.set_ | apply keep_drewN | apply keep_drew | apply keep_alloc | refine keep_far ?_ GW1.out _ | refine keep_far ?_ GW2.out _) | exact HK.out)) hk (.inl rfl))
      have n4_ := Aside0.mk (hb)
      have n5_ := Aside0.mk (hi)
      clear HO_3000
      clear BK1
      clear BK2
      clear HK
      clear HB
      clear HI0
      have HO_3000 := n0_
      have BK1 := n1_
      have BK2 := n2_
      have HK := n3_
      have HB := n4_
      have HI0 := n5_
      clear n0_ n1_ n2_ n3_ n4_ n5_
      (try clear hb)
      (try clear hb2)
      (try clear hk)
      (try clear hi)
      refine hK.out _ _ ((blk_cell BK2.out 0).trans rfl) (fun hHeld => ?_)
      clear hK K
      refine norm_ (a' := ?_) ?_ ?_
      rotate_left
      ·show Act.put _ (some 25) _ = _
       simp only [Act.put, List.setIfInBounds_toArray, List.set_cons_zero, List.set_cons_succ, i64_w, i32_w]
       rfl
      refine one_ (i := 4) (N := some 26) (bm_ 8 31) rfl rfl (one_of HT_.out (by kernel_rfl)) (by decide) (fun K hK => ?_)
      refine value_ (w1 := ?_) (v := ?_) (by rfl) rfl ?_ ?_
      rotate_left 2
      ·go_simp
       constructor
       ·rfl
       ·rfl
      refine hK.out _ _ ((blk_cell (blk_alloc BK2.out _) 0).trans rfl) (fun hHeld => ?_)
      clear hK K
      refine norm_ (a' := ?_) ?_ ?_
      rotate_left
      ·show Act.put _ (some 26) _ = _
       simp only [Act.put, List.setIfInBounds_toArray, List.set_cons_zero, List.set_cons_succ, i64_w, i32_w]
       rfl
      refine one_ (i := 5) (N := some 27) (bm_ 8 63) rfl rfl (one_of HT_.out (by kernel_rfl)) (by decide) (fun K hK => ?_)
      refine Kd.R_append_step (Kd.int .i64) w.heap.size (by rfl) (.tmp 23) (.tmp 26) 55 3 (.int .i64 0) 8 rfl Tryd.underlying55 info3 rfl (by decide) (by omega) u3000 x3000_2 t15 [.int .i64 t15] (fun _ => True) (fun _ => False) rfl rfl ?aP (fun _ hk => hk.elim) ?aF ?aO (Below.refl _ _) ?aS ?aL ?_
      (case aP => exact rfl)
      (case aF => exact (fun _ _ => trivial))
      (case aO => exact (rx_ HO_3000.out))
      (case aS => exact (keep_size (w := w) (g := g) (row := none) (by repeat (first | (with_reducible first | exact HK.out | apply KeepBut.set_ | apply keep_drewN | apply keep_drew | apply keep_alloc | refine keep_far ?_ GW1.out _ | refine keep_far ?_ GW2.out _) | exact HK.out))))
      (case aL => have := LMc21.out; omega)
      intro v19 w24 ho hb hg hat
      rw [← Ny18.out] at ho
      have n0_ := Aside0.mk (blk_grown (g := gb1) (o := .cells #[.slice none 0 0] 60 (0, 0)) bk_ hg (Kd.R_ne HO_3000.out BK1.out (by decide)))
      have n1_ := Aside0.mk (blk_grown (g := gb2) (o := .cells #[u3000] 60 (0, 0)) bk_ hg (Kd.R_ne HO_3000.out BK2.out (by decide)))
      have n2_ := Aside0.mk (IsS145.grown (by repeat (first | (with_reducible first | exact HI0.out | apply IsS145.alloc | apply IsS145.drewN | apply IsS145.drew | apply IsS145.set_1 | apply IsS145.set_2 | refine IsS145.far ?_ NB0_1.out _ | refine IsS145.far ?_ NB0_2.out _) | exact HI0.out)) hg (IsS145.own_ne HI0.out HO_3000.out (by decide)))
      have n3_ := Aside0.mk (below_weaken (by repeat (first | (with_reducible first | exact HB.out | apply below_alloc | apply pw_below_drewN | apply below_drew1 | refine below_set ?_ (IsS145.ge HI0.out) | refine below_set ?_ GE1.out | refine below_set ?_ GE2.out) | exact HB.out)) HL.out hb)
      have n4_ := Aside0.mk (KeepBut.trans (by repeat (first | (with_reducible first | exact HK.out | apply KeepBut.set_ | apply keep_drewN | apply keep_drew | apply keep_alloc | refine keep_far ?_ GW1.out _ | refine keep_far ?_ GW2.out _) | exact HK.out)) (KeepBut.of_grown hg g) (Kd.R_base2 HO_3000.out))
      have n5_ := Aside0.mk (ho)
      clear BK1
      clear BK2
      clear HI0
      clear HB
      clear HK
      clear HO_3000
      have BK1 := n0_
      have BK2 := n1_
      have HI0 := n2_
      have HB := n3_
      have HK := n4_
      have HO20 := n5_
      clear n0_ n1_ n2_ n3_ n4_ n5_
      clear ho hb hg hat
      obtain ⟨Ao25, co25, eo25⟩ := Kd.R_slice HO20.out
      (first | subst eo25 | (injection eo25 with f1_ f2_ f3_; have f4_ := f1_.symm; have f5_ := f3_.symm; clear f1_ f2_ f3_; subst f4_; subst f5_))
      refine hK.out _ _ ((blk_cell BK2.out 0).trans rfl) (fun hHeld => ?_)
      clear hK K
      refine norm_ (a' := ?_) ?_ ?_
      rotate_left
      ·show Act.put _ (some 27) _ = _
       simp only [Act.put, List.setIfInBounds_toArray, List.set_cons_zero, List.set_cons_succ, i64_w, i32_w]
       rfl
      refine pure_ (i := 6) (N := some 28) (bm_ 8 127) rfl rfl (any_of HT_.out kr_) (fun _ _ _ h => h) (Or.inl ⟨rfl, yi_⟩) pu_ ?_
      refine last_ (i := 7) (N := none) #[true, true, true, true, true, true, true, true] rfl rfl (one_of HT_.out (by kernel_rfl)) (by decide) (fun K hK => ?_)
      have hs26 : w24.cell? ⟨gb2, 0, none⟩ = some (u3000) := (blk_cell BK2.out 0).trans rfl
      have hfs26 := blk_frozen BK2.out 0
      have hns26_0 := NB1_2.out
      have hms26_0 := NB2_1.out
      refine skip_ (w1 := ?_) (by rfl) rfl ?_ ?_
      rotate_left
      ·go_simp
       rfl
      refine hK.out _ _ ?_
      clear hK K
      refine done_ (done_of HT_.out (by kernel_rfl)) ?_
      try go_wp2
      go_roundg k2
      case measure => have := HJ4.out; have := HK2.out; omega
      case rel => exact ⟨(wrap64 (x7_2 + 1)), (t16), (t17), (y18), (.slice Ao25 y18.length co25), sd_, H', ⟨by have := HJ4.out; have := HK2.out; omega⟩, ⟨by (with_reducible repeat (first | apply Kd.R_alloc | apply Kd.R_drewN | apply Kd.R_drew)); exact Kd.R_mono (Kd.R_far (p := ⟨gb2, 0, none⟩) (Kd.R_types HO20.out BK2.out (by decide)) (fun _ hk => hk.2) (.slice Ao25 y18.length co25)) (fun _ hk => trivial)⟩, ⟨by (with_reducible repeat (first | refine blk_drewN ?_ _ | refine blk_drew ?_ | refine blk_alloc ?_ _)); refine blk_far ?_ NB1_2.out _; (with_reducible repeat (first | refine blk_drewN ?_ _ | refine blk_drew ?_ | refine blk_alloc ?_ _)); exact BK1.out⟩, ⟨by (with_reducible repeat (first | refine blk_drewN ?_ _ | refine blk_drew ?_ | refine blk_alloc ?_ _)); refine blk_put (cs := #[u3000]) ?_ 0 _ rfl; (with_reducible repeat (first | refine blk_drewN ?_ _ | refine blk_drew ?_ | refine blk_alloc ?_ _)); exact BK2.out⟩, ⟨by repeat (first | (with_reducible first | exact HI0.out | apply IsS145.alloc | apply IsS145.drewN | apply IsS145.drew | apply IsS145.set_1 | apply IsS145.set_2 | refine IsS145.far ?_ NB0_1.out _ | refine IsS145.far ?_ NB0_2.out _) | exact HI0.out)⟩, ⟨by repeat (first | (with_reducible first | exact HK.out | apply KeepBut.set_ | apply keep_drewN | apply keep_drew | apply keep_alloc | refine keep_far ?_ GW1.out _ | refine keep_far ?_ GW2.out _) | exact HK.out)⟩, ⟨by repeat (first | (with_reducible first | exact HB.out | apply below_alloc | apply pw_below_drewN | apply below_drew1 | refine below_set ?_ (IsS145.ge HI0.out) | refine below_set ?_ GE1.out | refine below_set ?_ GE2.out) | exact HB.out)⟩⟩
     rw [if_neg c19] at H
     have c19b0 : decide (x7_2 < x6_4) = false := decide_eq_false c19
     clear c19
     have HC27 := Aside0.mk H
     clear H
     go_upto_region 9 with (fail)
     go_cut [34] (fun v34 wc => ∃ (kq : Nat) (x34_26 : Bool) (x1001_26 : Int) (x1002_26 : Int), v34 = .bool x34_26 ∧ Aside0 (spec_l01DrawMem.j2 kq x6_4 x34_26 s0_0 x1001_26 x1002_26 x3000_2 = some (r1, r2, r3)) ∧ Aside0 (kq ≤ k2) ∧ Aside0 (Kd.R (Kd.int .i64) 3 wc w.heap.size (fun _ => True) u3000 x3000_2) ∧ Aside0 (wc.heap[gb1]? = some (.cells #[(.slice none 0 0)] 60 (0, 0))) ∧ Aside0 (wc.heap[gb2]? = some (.cells #[u3000] 60 (0, 0))) ∧ Aside0 (IsS145 w0 wc g s0_0 x1001_26 x1002_26) ∧ Aside0 (KeepBut w wc g none) ∧ Aside0 (Below w0.heap.size w0 wc))
     case first =>
      have H := HC27.out
      clear HC27
      replace H := Option.bind_eq_some_iff.mp H
      obtain ⟨⟨t21, t22, t23⟩, A280, H⟩ := H
      replace H : (if t21 = true then (spec_l01DrawMem.j2 k2 x6_4 (decide (x6_4 > 0)) s0_0 t22 t23 x3000_2) else (spec_l01DrawMem.j2 k2 x6_4 false s0_0 t22 t23 x3000_2)) = some (r1, r2, r3) := H
      have A28 := Aside0.mk A280
      clear A280
      by_cases c29 : t21 = true
      ·subst c29
       have H1 : (spec_l01DrawMem.j2 k2 x6_4 (decide (x6_4 > 0)) s0_0 t22 t23 x3000_2) = some (r1, r2, r3) := by rw [if_pos rfl] at H; exact H
       clear H
       have H := H1
       clear H1
       have H' := Aside0.mk H
       clear H
       go_wp2_with (first | ((with_reducible refine gate_callee (f := 73) rfl ?_); refine goesL_ (some 30) rfl rfl Tryd.func73 (by kernel_rfl) rfl #[.pointer (some ⟨g, 0, none⟩), .int .i64 25] rfl ar_ ?_; (with_reducible refine (spec_l01Once.calls g s0_0 x1001_2 x1002_2 25 true t22 t23 w0 _ ?side1 ?side2 A28.out).mono ?_); (case side1 => repeat (first | (with_reducible first | exact HI0.out | apply IsS145.alloc | apply IsS145.drewN | apply IsS145.drew | apply IsS145.set_1 | apply IsS145.set_2 | refine IsS145.far ?_ NB0_1.out _ | refine IsS145.far ?_ NB0_2.out _) | exact HI0.out)); (case side2 => repeat (first | (with_reducible first | exact HB.out | apply below_alloc | apply pw_below_drewN | apply below_drew1 | refine below_set ?_ (IsS145.ge HI0.out) | refine below_set ?_ GE1.out | refine below_set ?_ GE2.out) | exact HB.out)); rintro e w30 ⟨rfl, hi, hb, hk⟩; refine ⟨_, rfl, ?_⟩; have n0_ := Aside0.mk (Kd.R_mono (Kd.R_keep (IsS145.apart (show IsS145 w0 _ g s0_0 x1001_2 x1002_2 from by repeat (first | (with_reducible first | exact HI0.out | apply IsS145.alloc | apply IsS145.drewN | apply IsS145.drew | apply IsS145.set_1 | apply IsS145.set_2 | refine IsS145.far ?_ NB0_1.out _ | refine IsS145.far ?_ NB0_2.out _) | exact HI0.out)) (rx_ HO_3000.out) (by decide)) hk (fun _ h => h.2)) (fun _ h => h.1)); have n1_ := Aside0.mk (KeepBut.blk hk (g' := gb1) (o := .cells #[.slice none 0 0] 60 (0, 0)) bk_ NB1_0.out (by simp)); have n2_ := Aside0.mk (KeepBut.blk hk (g' := gb2) (o := .cells #[u3000] 60 (0, 0)) bk_ NB2_0.out (by simp)); have n3_ := Aside0.mk (KeepBut.trans (by repeat (first | (with_reducible first | exact HK.out | apply KeepBut.set_ | apply keep_drewN | apply keep_drew | apply keep_alloc | refine keep_far ?_ GW1.out _ | refine keep_far ?_ GW2.out _) | exact HK.out)) hk (.inl rfl)); have n4_ := Aside0.mk (hb); have n5_ := Aside0.mk (hi); clear HO_3000; clear BK1; clear BK2; clear HK; clear HB; clear HI0; have HO_3000 := n0_; have BK1 := n1_; have BK2 := n2_; have HK := n3_; have HB := n4_; have HI0 := n5_; clear n0_ n1_ n2_ n3_ n4_ n5_; (try clear hb); (try clear hb2); (try clear hk); (try clear hi)))
       go_meet
       case rel => exact ⟨_, (decide (x6_4 > 0)), (t22), (t23), sd_, H', ⟨by have := HJ4.out; have := HK2.out; first | omega | exact Nat.le_refl _⟩, ⟨by (with_reducible repeat (first | apply Kd.R_alloc | apply Kd.R_drewN | apply Kd.R_drew)); exact HO_3000.out⟩, ⟨bk_⟩, ⟨bk_⟩, ⟨by repeat (first | (with_reducible first | exact HI0.out | apply IsS145.alloc | apply IsS145.drewN | apply IsS145.drew | apply IsS145.set_1 | apply IsS145.set_2 | refine IsS145.far ?_ NB0_1.out _ | refine IsS145.far ?_ NB0_2.out _) | exact HI0.out)⟩, ⟨by repeat (first | (with_reducible first | exact HK.out | apply KeepBut.set_ | apply keep_drewN | apply keep_drew | apply keep_alloc | refine keep_far ?_ GW1.out _ | refine keep_far ?_ GW2.out _) | exact HK.out)⟩, ⟨by repeat (first | (with_reducible first | exact HB.out | apply below_alloc | apply pw_below_drewN | apply below_drew1 | refine below_set ?_ (IsS145.ge HI0.out) | refine below_set ?_ GE1.out | refine below_set ?_ GE2.out) | exact HB.out)⟩⟩
      replace c29 := Bool.eq_false_iff.mpr c29
      subst c29
      have H1 : (spec_l01DrawMem.j2 k2 x6_4 false s0_0 t22 t23 x3000_2) = some (r1, r2, r3) := by rw [if_neg (show ¬ (false = true) by decide)] at H; exact H
      clear H
      have H := H1
      clear H1
      have H' := Aside0.mk H
      clear H
      go_wp2_with (first | ((with_reducible refine gate_callee (f := 73) rfl ?_); refine goesL_ (some 30) rfl rfl Tryd.func73 (by kernel_rfl) rfl #[.pointer (some ⟨g, 0, none⟩), .int .i64 25] rfl ar_ ?_; (with_reducible refine (spec_l01Once.calls g s0_0 x1001_2 x1002_2 25 false t22 t23 w0 _ ?side1 ?side2 A28.out).mono ?_); (case side1 => repeat (first | (with_reducible first | exact HI0.out | apply IsS145.alloc | apply IsS145.drewN | apply IsS145.drew | apply IsS145.set_1 | apply IsS145.set_2 | refine IsS145.far ?_ NB0_1.out _ | refine IsS145.far ?_ NB0_2.out _) | exact HI0.out)); (case side2 => repeat (first | (with_reducible first | exact HB.out | apply below_alloc | apply pw_below_drewN | apply below_drew1 | refine below_set ?_ (IsS145.ge HI0.out) | refine below_set ?_ GE1.out | refine below_set ?_ GE2.out) | exact HB.out)); rintro e w31 ⟨rfl, hi, hb, hk⟩; refine ⟨_, rfl, ?_⟩; have n0_ := Aside0.mk (Kd.R_mono (Kd.R_keep (IsS145.apart (show IsS145 w0 _ g s0_0 x1001_2 x1002_2 from by repeat (first | (with_reducible first | exact HI0.out | apply IsS145.alloc | apply IsS145.drewN | apply IsS145.drew | apply IsS145.set_1 | apply IsS145.set_2 | refine IsS145.far ?_ NB0_1.out _ | refine IsS145.far ?_ NB0_2.out _) | exact HI0.out)) (rx_ HO_3000.out) (by decide)) hk (fun _ h => h.2)) (fun _ h => h.1)); have n1_ := Aside0.mk (KeepBut.blk hk (g' := gb1) (o := .cells #[.slice none 0 0] 60 (0, 0)) bk_ NB1_0.out (by simp)); have n2_ := Aside0.mk (KeepBut.blk hk (g' := gb2) (o := .cells #[u3000] 60 (0, 0)) bk_ NB2_0.out (by simp)); have n3_ := Aside0.mk (KeepBut.trans (by repeat (first | (with_reducible first | exact HK.out | apply KeepBut.set_ | apply keep_drewN | apply keep_drew | apply keep_alloc | refine keep_far ?_ GW1.out _ | refine keep_far ?_ GW2.out _) | exact HK.out)) hk (.inl rfl)); have n4_ := Aside0.mk (hb); have n5_ := Aside0.mk (hi); clear HO_3000; clear BK1; clear BK2; clear HK; clear HB; clear HI0; have HO_3000 := n0_; have BK1 := n1_; have BK2 := n2_; have HK := n3_; have HB := n4_; have HI0 := n5_; clear n0_ n1_ n2_ n3_ n4_ n5_; (try clear hb); (try clear hb2); (try clear hk); (try clear hi)))
      go_meet
      case rel => exact ⟨_, (false), (t22), (t23), sd_, H', ⟨by have := HJ4.out; have := HK2.out; first | omega | exact Nat.le_refl _⟩, ⟨by (with_reducible repeat (first | apply Kd.R_alloc | apply Kd.R_drewN | apply Kd.R_drew)); exact HO_3000.out⟩, ⟨bk_⟩, ⟨bk_⟩, ⟨by repeat (first | (with_reducible first | exact HI0.out | apply IsS145.alloc | apply IsS145.drewN | apply IsS145.drew | apply IsS145.set_1 | apply IsS145.set_2 | refine IsS145.far ?_ NB0_1.out _ | refine IsS145.far ?_ NB0_2.out _) | exact HI0.out)⟩, ⟨by repeat (first | (with_reducible first | exact HK.out | apply KeepBut.set_ | apply keep_drewN | apply keep_drew | apply keep_alloc | refine keep_far ?_ GW1.out _ | refine keep_far ?_ GW2.out _) | exact HK.out)⟩, ⟨by repeat (first | (with_reducible first | exact HB.out | apply below_alloc | apply pw_below_drewN | apply below_drew1 | refine below_set ?_ (IsS145.ge HI0.out) | refine below_set ?_ GE1.out | refine below_set ?_ GE2.out) | exact HB.out)⟩⟩
     case rest =>
      clear HC27
      try clear c1
      try clear c2
      try clear p2
      try clear p6
      try clear c7
      try clear c8
      try clear c9
      try clear c12
      try clear c13
      try clear c14
      try clear c16
      try clear c19
      try clear c19b0
      try clear c21
      try clear c29
      try clear hcz10_0
      try clear hfz10_0
      try clear p2
      try clear p6
      obtain ⟨kq, x34_26, x1001_26, x1002_26, rfl, HA, HJ26, HO_3000, BK1, BK2, HI0, HK, HB⟩ := hcut
      cases kq with
      | zero => exact absurd HA.out (by simp [spec_l01DrawMem.j2])
      | succ kj26 =>
       have H := HA.out
       clear HA
       simp only [spec_l01DrawMem.j2] at H
       by_cases c32 : x34_26 = true
       rotate_left
       ·replace c32 := Bool.eq_false_iff.mpr c32
        subst c32
        have H1 : (some (x3000_2, x1001_26, x1002_26)) = some (r1, r2, r3) := by rw [if_neg (show ¬ (false = true) by decide)] at H; exact H
        clear H
        have H := H1
        clear H1
        simp only [Option.some.injEq, Prod.mk.injEq] at H
        obtain ⟨rfl, rfl, rfl⟩ := H
        have hnb52 := NB2_1.out
        have hnc52 := NB1_2.out
        have hnb53 := NB2_0.out
        have hnc53 := NB0_2.out
        obtain ⟨hcz54_0, hfz54_0⟩ := bc1_ BK2.out
        obtain ⟨Ao55, co55, eo55⟩ := Kd.R_slice HO_3000.out
        subst eo55
        have hnb56 := NB1_0.out
        have hnc56 := NB0_1.out
        obtain ⟨hcz57_0, hfz57_0⟩ := bc1_ BK1.out
        go_wp2
        refine bodyPost_ret (results_cell_row rfl _ _ gb1 60 #[.slice Ao55 x3000_2.length co55] (0, 0) _ rfl (by (with_reducible repeat (first | refine blk_drewN ?_ _ | refine blk_drew ?_ | refine blk_alloc ?_ _)); refine blk_put (cs := #[.slice none 0 0]) ?_ 0 _ rfl; (with_reducible repeat (first | refine blk_drewN ?_ _ | refine blk_drew ?_ | refine blk_alloc ?_ _)); exact BK1.out) Tryd.underlying60 rfl (by kernel_rfl)) rfl ?_
        exact ⟨_, rr_, by (with_reducible repeat (first | apply Kd.R_alloc | apply Kd.R_drewN | apply Kd.R_drew)); exact Kd.R_mono (Kd.R_far (p := ⟨gb1, 0, none⟩) (Kd.R_types HO_3000.out BK1.out (by decide)) (fun _ hk => hk.2) (.slice Ao55 x3000_2.length co55)) (fun _ hk => trivial), by repeat (first | (with_reducible first | exact HI0.out | apply IsS145.alloc | apply IsS145.drewN | apply IsS145.drew | apply IsS145.set_1 | apply IsS145.set_2 | refine IsS145.far ?_ NB0_1.out _ | refine IsS145.far ?_ NB0_2.out _) | exact HI0.out), by repeat (first | (with_reducible first | exact HB.out | apply below_alloc | apply pw_below_drewN | apply below_drew1 | refine below_set ?_ (IsS145.ge HI0.out) | refine below_set ?_ GE1.out | refine below_set ?_ GE2.out) | exact HB.out), by repeat (first | (with_reducible first | exact HK.out | apply KeepBut.set_ | apply keep_drewN | apply keep_drew | apply keep_alloc | refine keep_far ?_ GW1.out _ | refine keep_far ?_ GW2.out _) | exact HK.out)⟩
       subst c32
       have H1 : ((spec_l01Below.f s0_0 x1001_26 x1002_26 x6_4).bind fun bt24 => ((spec_l01PickInt.f s0_0 bt24.2.1 bt24.2.2 (([1000001, (-1000001)] : List Int))).bind fun bt30 => (if 0 ≤ bt24.1 then (if bt24.1 < (x3000_2.length : Int) then (some ((x3000_2.set (bt24.1 : Int).toNat bt30.1), bt30.2.1, bt30.2.2)) else (none)) else (none)))) = some (r1, r2, r3) := by rw [if_pos rfl] at H; exact H
       clear H
       have H := H1
       clear H1
       replace H := Option.bind_eq_some_iff.mp H
       obtain ⟨⟨t24, t25, t26⟩, A330, H⟩ := H
       replace H : ((spec_l01PickInt.f s0_0 t25 t26 (([1000001, (-1000001)] : List Int))).bind fun bt30 => (if 0 ≤ t24 then (if t24 < (x3000_2.length : Int) then (some ((x3000_2.set (t24 : Int).toNat bt30.1), bt30.2.1, bt30.2.2)) else (none)) else (none))) = some (r1, r2, r3) := H
       have A33 := Aside0.mk A330
       clear A330
       obtain ⟨y27, hy27⟩ : ∃ y_ : List Int, y_ = (([1000001, (-1000001)] : List Int)) := ⟨_, rfl⟩
       replace H : ((spec_l01PickInt.f s0_0 t25 t26 y27).bind fun bt30 => (if 0 ≤ t24 then (if t24 < (x3000_2.length : Int) then (some ((x3000_2.set (t24 : Int).toNat bt30.1), bt30.2.1, bt30.2.2)) else (none)) else (none))) = some (r1, r2, r3) := by first | (rw [hy27]; with_reducible exact H) | (have H2_ := (Option.bind_some _ _).symm.trans H; rw [hy27]; with_reducible exact H2_) | (have H2_ := (Option.bind_some _ _).symm.trans H; with_reducible exact H2_) | with_reducible exact H | (rw [hy27]; exact H) | exact H
       have Ny27 := Aside0.mk hy27
       clear hy27
       replace H := Option.bind_eq_some_iff.mp H
       obtain ⟨⟨t30, t31, t32⟩, A340, H⟩ := H
       replace H : (if 0 ≤ t24 then (if t24 < (x3000_2.length : Int) then (some ((x3000_2.set (t24 : Int).toNat t30), t31, t32)) else (none)) else (none)) = some (r1, r2, r3) := H
       have A34 := Aside0.mk A340
       clear A340
       by_cases c35 : 0 ≤ t24
       rotate_left
       ·rw [if_neg c35] at H
        exact absurd H (by simp)
       rw [if_pos c35] at H
       have c35b0 : decide (0 ≤ t24) = true := decide_eq_true c35
       clear c35
       by_cases c36 : t24 < (x3000_2.length : Int)
       rotate_left
       ·rw [if_neg c36] at H
        exact absurd H (by simp)
       rw [if_pos c36] at H
       have c36b0 : decide (t24 < (x3000_2.length : Int)) = true := decide_eq_true c36
       clear c36
       obtain ⟨y33, hy33⟩ : ∃ y_ : List Int, y_ = (x3000_2.set (t24 : Int).toNat t30) := ⟨_, rfl⟩
       replace H : (some (y33, t31, t32)) = some (r1, r2, r3) := by first | (rw [hy33]; with_reducible exact H) | (have H2_ := (Option.bind_some _ _).symm.trans H; rw [hy33]; with_reducible exact H2_) | (have H2_ := (Option.bind_some _ _).symm.trans H; with_reducible exact H2_) | with_reducible exact H | (rw [hy33]; exact H) | exact H
       have Ny33 := Aside0.mk hy33
       clear hy33
       simp only [Option.some.injEq, Prod.mk.injEq] at H
       obtain ⟨rfl, rfl, rfl⟩ := H
       try go_wp2
       have n0_ := Aside0.mk (Kd.R_drew HO_3000.out)
       have n1_ := Aside0.mk (blk_drew BK1.out)
       have n2_ := Aside0.mk (blk_drew BK2.out)
       have n3_ := Aside0.mk (IsS145.drew HI0.out)
       have n4_ := Aside0.mk (keep_drew HK.out)
       have n5_ := Aside0.mk (below_drew1 HB.out)
       clear HO_3000
       clear BK1
       clear BK2
       clear HI0
       clear HK
       clear HB
       have HO_3000 := n0_
       have BK1 := n1_
       have BK2 := n2_
       have HI0 := n3_
       have HK := n4_
       have HB := n5_
       clear n0_ n1_ n2_ n3_ n4_ n5_
       refine start_ (n := 10) (S := fun w' => w'.cell? ⟨gb2, 0, none⟩ = some (u3000)) (ds := [9]) #[false, false, false, false, false, false, false, false, false, false] (by kernel_rfl) rfl rfl ((blk_cell BK2.out 0).trans rfl) (fun hHeld => ?_); refine with_tabW spec_l01DrawMem.tab10 spec_l01DrawMem.bits10 (fun HT_ HW_ => ?_)
       generalize wc.drew = w38 at HO_3000 BK1 BK2 HI0 HK HB hHeld ⊢
       refine pure_ (i := 0) (N := some 35) (bm_ 10 1) rfl rfl (any_of HT_.out kr_) (fun _ _ _ h => h) (Or.inl ⟨rfl, yi_⟩) pu_ ?_
       refine pure_ (i := 2) (N := some 37) (bm_ 10 5) rfl rfl (any_of HT_.out kr_) (fun _ _ _ h => h) (Or.inl ⟨rfl, yi_⟩) pu_ ?_
       refine pure_ (i := 3) (N := some 38) (bm_ 10 13) rfl rfl (any_of HT_.out kr_) (fun _ _ _ h => h) (Or.inl ⟨rfl, yi_⟩) pu_ ?_
       refine pure_ (i := 5) (N := some 40) (bm_ 10 45) rfl rfl (any_of HT_.out kr_) (fun _ _ _ h => h) (Or.inl ⟨rfl, yi_⟩) pu_ ?_
       refine take_ (i := 1) (N := some 36) (v := ?_) (a' := ?_) (bm_ 10 47) rfl rfl (take_ofW HT_.out HW_.out (by kernel_rfl)) (fun _ _ _ h => h) (Or.inl ⟨by rfl, ?_⟩) hHeld ?_ ?_
       rotate_left
       ·intro w' s0
        go_simp
        with_reducible rfl
       rotate_left
       ·exact pu_
       refine join_ (σ := Value) 3 #[true, true, true, true, true, true, true, false, false, false] (fun s_ => [(39, .int .i64 t24), (41, s_)]) (fun s_ w' => (w'.cell? ⟨gb2, 0, none⟩ = some (u3000)) ∧ (Kd.R (Kd.int .i64) 3 w' w.heap.size (fun k_ => some k_ ≠ (u3000 : Value).ownBlock) s_ y27) ∧ (Kd.R (Kd.int .i64) 3 w' w.heap.size (fun k_ => some k_ ≠ (s_ : Value).ownBlock) u3000 x3000_2) ∧ (w'.heap[gb1]? = some (.cells #[.slice none 0 0] 60 (0, 0))) ∧ (w'.heap[gb2]? = some (.cells #[u3000] 60 (0, 0))) ∧ (IsS145 w0 w' g s0_0 t25 t26) ∧ (KeepBut w w' g none) ∧ (Below w0.heap.size w0 w')) ?_ ?_
       rotate_left
       ·intro hCont
        refine two_ (i := 4) (j := 6) (Ni := some 39) (Nj := some 41) #[true, true, true, true, true, true, false, false, false, false] #[true, true, true, true, false, true, true, false, false, false] rfl rfl rfl rfl (two_of HT_.out (by kernel_rfl)) (by decide) (by decide) (fun K hK => ?_) (fun K hK => ?_)
        ·skip
         refine goes_ Tryd.func121 (by kernel_rfl) rfl #[.pointer (some ⟨g, 0, none⟩), .int .i64 x6_4] (by rfl) rfl rfl ar_ ?_
         with_reducible refine (spec_l01Below.calls g s0_0 x1001_26 x1002_26 x6_4 t24 t25 t26 w0 _ ?side1 ?side2 A33.out).mono ?_
         (case side1 => repeat (first | (with_reducible first | exact HI0.out | apply IsS145.alloc | apply IsS145.drewN | apply IsS145.drew | apply IsS145.set_1 | apply IsS145.set_2 | refine IsS145.far ?_ NB0_1.out _ | refine IsS145.far ?_ NB0_2.out _) | exact HI0.out))
         (case side2 => repeat (first | (with_reducible first | exact HB.out | apply below_alloc | apply pw_below_drewN | apply below_drew1 | refine below_set ?_ (IsS145.ge HI0.out) | refine below_set ?_ GE1.out | refine below_set ?_ GE2.out) | exact HB.out))
         rintro e w39 ⟨rfl, hi, hb, hk⟩
         refine ⟨_, rfl, ?_⟩
         have n0_ := Aside0.mk (Kd.R_mono (Kd.R_keep (IsS145.apart (show IsS145 w0 _ g s0_0 x1001_26 x1002_26 from by repeat (first | (with_reducible first | exact HI0.out | apply IsS145.alloc | apply IsS145.drewN | apply IsS145.drew | apply IsS145.set_1 | apply IsS145.set_2 | refine IsS145.far ?_ NB0_1.out _ | refine IsS145.far ?_ NB0_2.out _) | exact HI0.out)) (rx_ HO_3000.out) (by decide)) hk (fun _ h => h.2)) (fun _ h => h.1))
         have n1_ := Aside0.mk (KeepBut.blk hk (g' := gb1) (o := .cells #[.slice none 0 0] 60 (0, 0)) bk_ NB1_0.out (by simp))
         have n2_ := Aside0.mk (KeepBut.blk hk (g' := gb2) (o := .cells #[u3000] 60 (0, 0)) bk_ NB2_0.out (by simp))
         have n3_ := Aside0.mk (KeepBut.trans (by repeat (first | (with_reducible first | exact HK.out | apply KeepBut.set_ | apply keep_drewN | apply keep_drew | apply keep_alloc | refine keep_far ?_ GW1.out _ | refine keep_far ?_ GW2.out _) | exact HK.out)) hk (.inl rfl))
         have n4_ := Aside0.mk (hb)
         have n5_ := Aside0.mk (hi)
         clear HO_3000
         clear BK1
         clear BK2
         clear HK
         clear HB
         clear HI0
         have HO_3000 := n0_
         have BK1 := n1_
         have BK2 := n2_
         have HK := n3_
         have HB := n4_
         have HI0 := n5_
         clear n0_ n1_ n2_ n3_ n4_ n5_
         (try clear hb)
         (try clear hb2)
         (try clear hk)
         (try clear hi)
         refine hK.out _ _ ((blk_cell BK2.out 0).trans rfl) (fun hHeld => ?_)
         clear hK K
         refine norm_ (a' := ?_) ?_ ?_
         rotate_left
         ·show Act.put _ (some 39) _ = _
          simp only [Act.put, List.setIfInBounds_toArray, List.set_cons_zero, List.set_cons_succ, i64_w, i32_w]
          rfl
         refine one_ (i := 6) (N := some 41) (bm_ 10 127) rfl rfl (one_of HT_.out (by kernel_rfl)) (by decide) (fun K hK => ?_)
         refine Kd.R_lit_step (Kd.int .i64) _ 3 ?hg (N := 41) ?hd (xs := ([1000001, (-1000001)] : List Int)) (inner := [.int .i64 1000001, .int .i64 (-1000001)]) (ok := fun _ => True) (okp := fun _ => True) ?hr ?hp (fun _ hk => hk) trivial (Below.refl _ _) (Nat.le_refl _) (by simp) ?_; (case hd => rfl); (case hg => rfl); (case hr => first | (go_simp; done) | (go_simp; rfl)); (case hp => exact (Reps.one (show Kd.M (Kd.int .i64) _ _ _ 1000001 [.int .i64 1000001] from rfl) (Reps.one (show Kd.M (Kd.int .i64) _ _ _ (-1000001) [.int .i64 (-1000001)] from rfl) (Reps.none _ _))))
         intro v28 w40 ho41 hb hg_ hnew_
         clear hg_ hnew_
         (first | rw [← Ny27.out] at ho41 | (simp only [Int.reduceToNat] at ho41; rw [← Ny27.out] at ho41))
         have n0_ := Aside0.mk (Kd.R_elder' (rx_ HO_3000.out) (Kd.R_base ho41) hb)
         have n1_ := Aside0.mk (Kd.R_lower (Kd.R_new' ho41 (Kd.R_lt (rx_ HO_3000.out))) (keep_size (w := w) (g := g) (row := none) (by repeat (first | (with_reducible first | exact HK.out | apply KeepBut.set_ | apply keep_drewN | apply keep_drew | apply keep_alloc | refine keep_far ?_ GW1.out _ | refine keep_far ?_ GW2.out _) | exact HK.out))))
         have n2_ := bb_ BK1.out hb
         have n3_ := bb_ BK2.out hb
         have n4_ := Aside0.mk (IsS145.below (by repeat (first | (with_reducible first | exact HI0.out | apply IsS145.alloc | apply IsS145.drewN | apply IsS145.drew | apply IsS145.set_1 | apply IsS145.set_2 | refine IsS145.far ?_ NB0_1.out _ | refine IsS145.far ?_ NB0_2.out _) | exact HI0.out)) hb)
         have n5_ := Aside0.mk (KeepBut.trans (by repeat (first | (with_reducible first | exact HK.out | apply KeepBut.set_ | apply keep_drewN | apply keep_drew | apply keep_alloc | refine keep_far ?_ GW1.out _ | refine keep_far ?_ GW2.out _) | exact HK.out)) (KeepBut.of_below hb g none) (.inl rfl))
         have n6_ := Aside0.mk (below_step (by repeat (first | (with_reducible first | exact HB.out | apply below_alloc | apply pw_below_drewN | apply below_drew1 | refine below_set ?_ (IsS145.ge HI0.out) | refine below_set ?_ GE1.out | refine below_set ?_ GE2.out) | exact HB.out)) hb)
         clear HO_3000
         clear BK1
         clear BK2
         clear HI0
         clear HK
         clear HB
         have HO_3000 := n0_
         have HO29 := n1_
         have BK1 := n2_
         have BK2 := n3_
         have HI0 := n4_
         have HK := n5_
         have HB := n6_
         clear n0_ n1_ n2_ n3_ n4_ n5_ n6_
         clear hb ho41
         refine hK.out _ _ ((blk_cell BK2.out 0).trans rfl) (fun hHeld => ?_)
         clear hK K
         refine norm_ (a' := ?_) ?_ ?_
         rotate_left
         ·show Act.put _ (some 41) _ = _
          simp only [Act.put, List.setIfInBounds_toArray, List.set_cons_zero, List.set_cons_succ, i64_w, i32_w]
          rfl
         exact norm_ (by simp only [putAll, Act.put, List.setIfInBounds_toArray, List.set_cons_zero, List.set_cons_succ]) (hCont (v28) _ ⟨hHeld, (by (with_reducible repeat (first | apply Kd.R_alloc | apply Kd.R_drewN | apply Kd.R_drew)); exact Kd.R_mono HO29.out (fun _ hk => hk.2)), (by (with_reducible repeat (first | apply Kd.R_alloc | apply Kd.R_drewN | apply Kd.R_drew)); exact Kd.R_mono HO_3000.out (fun _ hk => hk.2)), bk_, bk_, (by repeat (first | (with_reducible first | exact HI0.out | apply IsS145.alloc | apply IsS145.drewN | apply IsS145.drew | apply IsS145.set_1 | apply IsS145.set_2 | refine IsS145.far ?_ NB0_1.out _ | refine IsS145.far ?_ NB0_2.out _) | exact HI0.out)), (by repeat (first | (with_reducible first | exact HK.out | apply KeepBut.set_ | apply keep_drewN | apply keep_drew | apply keep_alloc | refine keep_far ?_ GW1.out _ | refine keep_far ?_ GW2.out _) | exact HK.out)), (by repeat (first | (with_reducible first | exact HB.out | apply below_alloc | apply pw_below_drewN | apply below_drew1 | refine below_set ?_ (IsS145.ge HI0.out) | refine below_set ?_ GE1.out | refine below_set ?_ GE2.out) | exact HB.out))⟩)
        ·skip
         refine Kd.R_lit_step (Kd.int .i64) _ 3 ?hg (N := 41) ?hd (xs := ([1000001, (-1000001)] : List Int)) (inner := [.int .i64 1000001, .int .i64 (-1000001)]) (ok := fun _ => True) (okp := fun _ => True) ?hr ?hp (fun _ hk => hk) trivial (Below.refl _ _) (Nat.le_refl _) (by simp) ?_; (case hd => rfl); (case hg => rfl); (case hr => first | (go_simp; done) | (go_simp; rfl)); (case hp => exact (Reps.one (show Kd.M (Kd.int .i64) _ _ _ 1000001 [.int .i64 1000001] from rfl) (Reps.one (show Kd.M (Kd.int .i64) _ _ _ (-1000001) [.int .i64 (-1000001)] from rfl) (Reps.none _ _))))
         intro v28 w39 ho40 hb hg_ hnew_
         clear hg_ hnew_
         (first | rw [← Ny27.out] at ho40 | (simp only [Int.reduceToNat] at ho40; rw [← Ny27.out] at ho40))
         have n0_ := Aside0.mk (Kd.R_elder' (rx_ HO_3000.out) (Kd.R_base ho40) hb)
         have n1_ := Aside0.mk (Kd.R_lower (Kd.R_new' ho40 (Kd.R_lt (rx_ HO_3000.out))) (keep_size (w := w) (g := g) (row := none) (by repeat (first | (with_reducible first | exact HK.out | apply KeepBut.set_ | apply keep_drewN | apply keep_drew | apply keep_alloc | refine keep_far ?_ GW1.out _ | refine keep_far ?_ GW2.out _) | exact HK.out))))
         have n2_ := bb_ BK1.out hb
         have n3_ := bb_ BK2.out hb
         have n4_ := Aside0.mk (IsS145.below (by repeat (first | (with_reducible first | exact HI0.out | apply IsS145.alloc | apply IsS145.drewN | apply IsS145.drew | apply IsS145.set_1 | apply IsS145.set_2 | refine IsS145.far ?_ NB0_1.out _ | refine IsS145.far ?_ NB0_2.out _) | exact HI0.out)) hb)
         have n5_ := Aside0.mk (KeepBut.trans (by repeat (first | (with_reducible first | exact HK.out | apply KeepBut.set_ | apply keep_drewN | apply keep_drew | apply keep_alloc | refine keep_far ?_ GW1.out _ | refine keep_far ?_ GW2.out _) | exact HK.out)) (KeepBut.of_below hb g none) (.inl rfl))
         have n6_ := Aside0.mk (below_step (by repeat (first | (with_reducible first | exact HB.out | apply below_alloc | apply pw_below_drewN | apply below_drew1 | refine below_set ?_ (IsS145.ge HI0.out) | refine below_set ?_ GE1.out | refine below_set ?_ GE2.out) | exact HB.out)) hb)
         clear HO_3000
         clear BK1
         clear BK2
         clear HI0
         clear HK
         clear HB
         have HO_3000 := n0_
         have HO29 := n1_
         have BK1 := n2_
         have BK2 := n3_
         have HI0 := n4_
         have HK := n5_
         have HB := n6_
         clear n0_ n1_ n2_ n3_ n4_ n5_ n6_
         clear hb ho40
         refine hK.out _ _ ((blk_cell BK2.out 0).trans rfl) (fun hHeld => ?_)
         clear hK K
         refine norm_ (a' := ?_) ?_ ?_
         rotate_left
         ·show Act.put _ (some 41) _ = _
          simp only [Act.put, List.setIfInBounds_toArray, List.set_cons_zero, List.set_cons_succ, i64_w, i32_w]
          rfl
         refine one_ (i := 4) (N := some 39) (bm_ 10 127) rfl rfl (one_of HT_.out (by kernel_rfl)) (by decide) (fun K hK => ?_)
         refine goes_ Tryd.func121 (by kernel_rfl) rfl #[.pointer (some ⟨g, 0, none⟩), .int .i64 x6_4] (by rfl) rfl rfl ar_ ?_
         with_reducible refine (spec_l01Below.calls g s0_0 x1001_26 x1002_26 x6_4 t24 t25 t26 w0 _ ?side1 ?side2 A33.out).mono ?_
         (case side1 => repeat (first | (with_reducible first | exact HI0.out | apply IsS145.alloc | apply IsS145.drewN | apply IsS145.drew | apply IsS145.set_1 | apply IsS145.set_2 | refine IsS145.far ?_ NB0_1.out _ | refine IsS145.far ?_ NB0_2.out _) | exact HI0.out))
         (case side2 => repeat (first | (with_reducible first | exact HB.out | apply below_alloc | apply pw_below_drewN | apply below_drew1 | refine below_set ?_ (IsS145.ge HI0.out) | refine below_set ?_ GE1.out | refine below_set ?_ GE2.out) | exact HB.out))
         rintro e w41 ⟨rfl, hi, hb, hk⟩
         refine ⟨_, rfl, ?_⟩
         have n0_ := Aside0.mk (Kd.R_mono (Kd.R_keep (IsS145.apart (show IsS145 w0 _ g s0_0 x1001_26 x1002_26 from by repeat (first | (with_reducible first | exact HI0.out | apply IsS145.alloc | apply IsS145.drewN | apply IsS145.drew | apply IsS145.set_1 | apply IsS145.set_2 | refine IsS145.far ?_ NB0_1.out _ | refine IsS145.far ?_ NB0_2.out _) | exact HI0.out)) (rx_ HO_3000.out) (by decide)) hk (fun _ h => h.2)) (fun _ h => h.1))
         have n1_ := Aside0.mk (KeepBut.blk hk (g' := gb1) (o := .cells #[.slice none 0 0] 60 (0, 0)) bk_ NB1_0.out (by simp))
         have n2_ := Aside0.mk (KeepBut.blk hk (g' := gb2) (o := .cells #[u3000] 60 (0, 0)) bk_ NB2_0.out (by simp))
         have n3_ := Aside0.mk (Kd.R_mono (Kd.R_keep (IsS145.apart (show IsS145 w0 _ g s0_0 x1001_26 x1002_26 from by repeat (first | (with_reducible first | exact HI0.out | apply IsS145.alloc | apply IsS145.drewN | apply IsS145.drew | apply IsS145.set_1 | apply IsS145.set_2 | refine IsS145.far ?_ NB0_1.out _ | refine IsS145.far ?_ NB0_2.out _) | exact HI0.out)) (rx_ HO29.out) (by decide)) hk (fun _ h => h.2)) (fun _ h => h.1))
         have n4_ := Aside0.mk (KeepBut.trans (by repeat (first | (with_reducible first | exact HK.out | apply KeepBut.set_ | apply keep_drewN | apply keep_drew | apply keep_alloc | refine keep_far ?_ GW1.out _ | refine keep_far ?_ GW2.out _) | exact HK.out)) hk (.inl rfl))
         have n5_ := Aside0.mk (hb)
         have n6_ := Aside0.mk (hi)
         clear HO_3000
         clear BK1
         clear BK2
         clear HO29
         clear HK
         clear HB
         clear HI0
         have HO_3000 := n0_
         have BK1 := n1_
         have BK2 := n2_
         have HO29 := n3_
         have HK := n4_
         have HB := n5_
         have HI0 := n6_
         clear n0_ n1_ n2_ n3_ n4_ n5_ n6_
         (try clear hb)
         (try clear hb2)
         (try clear hk)
         (try clear hi)
         refine hK.out _ _ ((blk_cell BK2.out 0).trans rfl) (fun hHeld => ?_)
         clear hK K
         refine norm_ (a' := ?_) ?_ ?_
         rotate_left
         ·show Act.put _ (some 39) _ = _
          simp only [Act.put, List.setIfInBounds_toArray, List.set_cons_zero, List.set_cons_succ, i64_w, i32_w]
          rfl
         exact norm_ (by simp only [putAll, Act.put, List.setIfInBounds_toArray, List.set_cons_zero, List.set_cons_succ]) (hCont (v28) _ ⟨hHeld, (by (with_reducible repeat (first | apply Kd.R_alloc | apply Kd.R_drewN | apply Kd.R_drew)); exact Kd.R_mono HO29.out (fun _ hk => hk.2)), (by (with_reducible repeat (first | apply Kd.R_alloc | apply Kd.R_drewN | apply Kd.R_drew)); exact Kd.R_mono HO_3000.out (fun _ hk => hk.2)), bk_, bk_, (by repeat (first | (with_reducible first | exact HI0.out | apply IsS145.alloc | apply IsS145.drewN | apply IsS145.drew | apply IsS145.set_1 | apply IsS145.set_2 | refine IsS145.far ?_ NB0_1.out _ | refine IsS145.far ?_ NB0_2.out _) | exact HI0.out)), (by repeat (first | (with_reducible first | exact HK.out | apply KeepBut.set_ | apply keep_drewN | apply keep_drew | apply keep_alloc | refine keep_far ?_ GW1.out _ | refine keep_far ?_ GW2.out _) | exact HK.out)), (by repeat (first | (with_reducible first | exact HB.out | apply below_alloc | apply pw_below_drewN | apply below_drew1 | refine below_set ?_ (IsS145.ge HI0.out) | refine below_set ?_ GE1.out | refine below_set ?_ GE2.out) | exact HB.out))⟩)
       rintro v28 w42 ⟨hS_, h0_, h1_, h2_, h3_, h4_, h5_, h6_⟩
       have n0_ : Aside0 (Kd.R (Kd.int .i64) 3 w42 w.heap.size (fun k_ => some k_ ≠ (u3000 : Value).ownBlock) v28 y27) := ⟨h0_⟩
       have n1_ : Aside0 (Kd.R (Kd.int .i64) 3 w42 w.heap.size (fun k_ => some k_ ≠ (v28 : Value).ownBlock) u3000 x3000_2) := ⟨h1_⟩
       have n2_ : Aside0 (w42.heap[gb1]? = some (.cells #[.slice none 0 0] 60 (0, 0))) := ⟨h2_⟩
       have n3_ : Aside0 (w42.heap[gb2]? = some (.cells #[u3000] 60 (0, 0))) := ⟨h3_⟩
       have n4_ : Aside0 (IsS145 w0 w42 g s0_0 t25 t26) := ⟨h4_⟩
       have n5_ : Aside0 (KeepBut w w42 g none) := ⟨h5_⟩
       have n6_ : Aside0 (Below w0.heap.size w0 w42) := ⟨h6_⟩
       clear HO_3000
       clear BK1
       clear BK2
       clear HI0
       clear HK
       clear HB
       clear h0_ h1_ h2_ h3_ h4_ h5_ h6_
       have HO29 := n0_
       have HO_3000 := n1_
       have BK1 := n2_
       have BK2 := n3_
       have HI0 := n4_
       have HK := n5_
       have HB := n6_
       clear n0_ n1_ n2_ n3_ n4_ n5_ n6_
       have hHeld : w42.cell? ⟨gb2, 0, none⟩ = some (u3000) := hS_
       obtain ⟨Ao43, co43, eo43⟩ := Kd.R_slice HO29.out
       (first | subst eo43 | (injection eo43 with f1_ f2_ f3_; have f4_ := f1_.symm; have f5_ := f3_.symm; clear f1_ f2_ f3_; subst f4_; subst f5_))
       refine norm_ (a' := ?_) ?_ ?_
       rotate_left
       ·simp only [putAll, Act.put, List.setIfInBounds_toArray, List.set_cons_zero, List.set_cons_succ]
        rfl
       refine one_ (i := 7) (N := some 42) (bm_ 10 255) rfl rfl (one_of HT_.out (by kernel_rfl)) (by decide) (fun K hK => ?_)
       refine goes_ Tryd.func123 (by kernel_rfl) rfl #[.pointer (some ⟨g, 0, none⟩), .slice Ao43 y27.length co43] (by rfl) rfl rfl ar_ ?_
       with_reducible refine (spec_l01PickInt.calls g s0_0 t25 t26 _ _ y27 t30 t31 t32 w0 _ ?side1 ?side2 ?side3 ?side4 ?side5 A34.out).mono ?_
       (case side1 => repeat (first | (with_reducible first | exact HI0.out | apply IsS145.alloc | apply IsS145.drewN | apply IsS145.drew | apply IsS145.set_1 | apply IsS145.set_2 | refine IsS145.far ?_ NB0_1.out _ | refine IsS145.far ?_ NB0_2.out _) | exact HI0.out))
       (case side2 => repeat (first | (with_reducible first | exact HB.out | apply below_alloc | apply pw_below_drewN | apply below_drew1 | refine below_set ?_ (IsS145.ge HI0.out) | refine below_set ?_ GE1.out | refine below_set ?_ GE2.out) | exact HB.out))
       (case side3 => repeat (first | exact (Kd.R_reads' HO29.out).2.2 | (with_reducible refine Kd.C_alloc ?_ _) | (with_reducible refine Kd.C_drewN ?_ _) | (with_reducible refine Kd.C_drew ?_)))
       (case side4 => exact (Kd.R_reads' HO29.out).2.1)
       (case side5 => exact far_slice (IsS145.own_ne HI0.out HO29.out (by decide)))
       rintro e w44 ⟨rfl, hi, hb, hk⟩
       refine ⟨_, rfl, ?_⟩
       have n0_ := Aside0.mk (Kd.R_mono (Kd.R_keep (IsS145.apart (show IsS145 w0 _ g s0_0 t25 t26 from by repeat (first | (with_reducible first | exact HI0.out | apply IsS145.alloc | apply IsS145.drewN | apply IsS145.drew | apply IsS145.set_1 | apply IsS145.set_2 | refine IsS145.far ?_ NB0_1.out _ | refine IsS145.far ?_ NB0_2.out _) | exact HI0.out)) (rx_ HO_3000.out) (by decide)) hk (fun _ h => h.2)) (fun _ h => h.1))
       have n1_ := Aside0.mk (KeepBut.blk hk (g' := gb1) (o := .cells #[.slice none 0 0] 60 (0, 0)) bk_ NB1_0.out (by simp))
       have n2_ := Aside0.mk (KeepBut.blk hk (g' := gb2) (o := .cells #[u3000] 60 (0, 0)) bk_ NB2_0.out (by simp))
       have n3_ := Aside0.mk (Kd.R_mono (Kd.R_keep (IsS145.apart (show IsS145 w0 _ g s0_0 t25 t26 from by repeat (first | (with_reducible first | exact HI0.out | apply IsS145.alloc | apply IsS145.drewN | apply IsS145.drew | apply IsS145.set_1 | apply IsS145.set_2 | refine IsS145.far ?_ NB0_1.out _ | refine IsS145.far ?_ NB0_2.out _) | exact HI0.out)) (rx_ HO29.out) (by decide)) hk (fun _ h => h.2)) (fun _ h => h.1))
       have n4_ := Aside0.mk (KeepBut.trans (by repeat (first | (with_reducible first | exact HK.out | apply KeepBut.set_ | apply keep_drewN | apply keep_drew | apply keep_alloc | refine keep_far ?_ GW1.out _ | refine keep_far ?_ GW2.out _) | exact HK.out)) hk (.inl rfl))
       have n5_ := Aside0.mk (hb)
       have n6_ := Aside0.mk (hi)
       clear HO_3000
       clear BK1
       clear BK2
       clear HO29
       clear HK
       clear HB
       clear HI0
       have HO_3000 := n0_
       have BK1 := n1_
       have BK2 := n2_
       have HO29 := n3_
       have HK := n4_
       have HB := n5_
       have HI0 := n6_
       clear n0_ n1_ n2_ n3_ n4_ n5_ n6_
       (try clear hb)
       (try clear hb2)
       (try clear hk)
       (try clear hi)
       have p37 : 0 ≤ (t24 : Int) := od_
       have q37 : (t24 : Int) < ((x3000_2.length : Int) : Int) := od_
       obtain ⟨go37, co37, eo37, gb37, gl37, cl37, HG37⟩ := Kd.R_form HO_3000.out (by omega)
       (first | cases eo37 | (injection eo37 with ea_ en_ ec_; (first | subst ea_ | (injection ea_ with ea_; subst ea_)); subst ec_; clear en_))
       have GB37 := Aside0.mk gb37
       have GG37 := Aside0.mk HG37
       clear gb37 gl37 HG37
       obtain ⟨hx37_0, hf37_0⟩ := Kd.R_celln 0 HO_3000.out (t24 : Int) p37 q37
       replace p37 := eq_true p37
       replace q37 := eq_true q37
       have HN0_go37 := Aside0.mk (show g ≠ go37 from by have h_ := IsS145.own_ne HI0.out HO_3000.out (by decide); intro e_; exact h_ (by rw [e_]; rfl))
       have HP45 := Kd.R_putn HO_3000.out (t24 : Int) t30
       rw [← Ny33.out] at HP45
       have HQ45 := Aside0.mk HP45
       clear HP45
       refine hK.out _ _ ((blk_cell BK2.out 0).trans rfl) (fun hHeld => ?_)
       clear hK K
       refine norm_ (a' := ?_) ?_ ?_
       rotate_left
       ·show Act.put _ (some 42) _ = _
        simp only [Act.put, List.setIfInBounds_toArray, List.set_cons_zero, List.set_cons_succ, i64_w, i32_w]
        rfl
       refine pure_ (i := 8) (N := some 43) (bm_ 10 511) rfl rfl (any_of HT_.out kr_) (fun _ _ _ h => h) (Or.inl ⟨rfl, yi_⟩) pu_ ?_
       refine last_ (i := 9) (N := none) #[true, true, true, true, true, true, true, true, true, true] rfl rfl (one_of HT_.out (by kernel_rfl)) (by decide) (fun K hK => ?_)
       refine skip_ (w1 := ?_) (by rfl) rfl ?_ ?_
       rotate_left
       ·go_simp
        rfl
       refine hK.out _ _ ?_
       clear hK K
       refine done_ (done_of HT_.out (by kernel_rfl)) ?_
       have n0_ : Aside0 (Kd.R (Kd.int .i64) 3 (w44.setCell ⟨go37, (t24 : Int).toNat, none⟩ (.int .i64 t30)) w.heap.size (fun k_ => some k_ ≠ (.slice Ao43 y27.length co43 : Value).ownBlock) (.slice (some ⟨go37, 0, none⟩) x3000_2.length co37) y33) := ⟨by (with_reducible repeat (first | apply Kd.R_alloc | apply Kd.R_drewN | apply Kd.R_drew)); exact HQ45.out⟩
       have n1_ : Aside0 (Kd.R (Kd.int .i64) 3 (w44.setCell ⟨go37, (t24 : Int).toNat, none⟩ (.int .i64 t30)) w.heap.size (fun k_ => some k_ ≠ (.slice (some ⟨go37, 0, none⟩) x3000_2.length co37 : Value).ownBlock) (.slice Ao43 y27.length co43) y27) := ⟨by (with_reducible repeat (first | apply Kd.R_alloc | apply Kd.R_drewN | apply Kd.R_drew)); exact Kd.R_mono (Kd.R_far (p := ⟨go37, (t24 : Int).toNat, none⟩) (Kd.R_mono HO29.out (fun k_ hk => (⟨hk, fun e_ => hk (by rw [e_]; rfl)⟩ : _ ∧ k_ ≠ go37))) (fun _ hk => hk.2) (.int .i64 t30)) (fun _ hk => hk.1)⟩
       have n2_ : Aside0 ((w44.setCell ⟨go37, (t24 : Int).toNat, none⟩ (.int .i64 t30)).heap[gb1]? = some (.cells #[.slice none 0 0] 60 (0, 0))) := ⟨by (with_reducible repeat (first | refine blk_drewN ?_ _ | refine blk_drew ?_ | refine blk_alloc ?_ _)); refine blk_far ?_ (by have h_ := Kd.R_ne HO_3000.out BK1.out (by decide); intro e_; exact h_ (by rw [e_]; rfl)) _; (with_reducible repeat (first | refine blk_drewN ?_ _ | refine blk_drew ?_ | refine blk_alloc ?_ _)); exact BK1.out⟩
       have n3_ : Aside0 ((w44.setCell ⟨go37, (t24 : Int).toNat, none⟩ (.int .i64 t30)).heap[gb2]? = some (.cells #[.slice (some ⟨go37, 0, none⟩) x3000_2.length co37] 60 (0, 0))) := ⟨by (with_reducible repeat (first | refine blk_drewN ?_ _ | refine blk_drew ?_ | refine blk_alloc ?_ _)); refine blk_far ?_ (by have h_ := Kd.R_ne HO_3000.out BK2.out (by decide); intro e_; exact h_ (by rw [e_]; rfl)) _; (with_reducible repeat (first | refine blk_drewN ?_ _ | refine blk_drew ?_ | refine blk_alloc ?_ _)); exact BK2.out⟩
       have n4_ : Aside0 (IsS145 w0 (w44.setCell ⟨go37, (t24 : Int).toNat, none⟩ (.int .i64 t30)) g s0_0 t31 t32) := ⟨by repeat (first | (with_reducible first | exact HI0.out | apply IsS145.alloc | apply IsS145.drewN | apply IsS145.drew | apply IsS145.set_1 | apply IsS145.set_2 | refine IsS145.far ?_ HN0_go37.out _ | refine IsS145.far ?_ NB0_1.out _ | refine IsS145.far ?_ NB0_2.out _) | exact HI0.out)⟩
       have n5_ : Aside0 (KeepBut w (w44.setCell ⟨go37, (t24 : Int).toNat, none⟩ (.int .i64 t30)) g none) := ⟨by repeat (first | (with_reducible first | exact HK.out | apply KeepBut.set_ | apply keep_drewN | apply keep_drew | apply keep_alloc | refine keep_far ?_ GB37.out _ | refine keep_far ?_ GW1.out _ | refine keep_far ?_ GW2.out _) | exact HK.out)⟩
       have n6_ : Aside0 (Below w0.heap.size w0 (w44.setCell ⟨go37, (t24 : Int).toNat, none⟩ (.int .i64 t30))) := ⟨by repeat (first | (with_reducible first | exact HB.out | apply below_alloc | apply pw_below_drewN | apply below_drew1 | refine below_set ?_ (Nat.le_trans HL.out GB37.out) | refine below_set ?_ (IsS145.ge HI0.out) | refine below_set ?_ GE1.out | refine below_set ?_ GE2.out) | exact HB.out)⟩
       (try clear HO_3000)
       (try clear HO29)
       (try clear BK1)
       (try clear BK2)
       (try clear HI0)
       (try clear HK)
       (try clear HB)
       generalize (w44.setCell ⟨go37, (t24 : Int).toNat, none⟩ (.int .i64 t30)) = w46 at n0_ n1_ n2_ n3_ n4_ n5_ n6_ ⊢
       have HO_3000 := n0_
       have HO29 := n1_
       have BK1 := n2_
       have BK2 := n3_
       have HI0 := n4_
       have HK := n5_
       have HB := n6_
       clear n0_ n1_ n2_ n3_ n4_ n5_ n6_
       have hnb47 := NB2_1.out
       have hnc47 := NB1_2.out
       have hnb48 := NB2_0.out
       have hnc48 := NB0_2.out
       obtain ⟨hcz49_0, hfz49_0⟩ := bc1_ BK2.out
       have hnb50 := NB1_0.out
       have hnc50 := NB0_1.out
       obtain ⟨hcz51_0, hfz51_0⟩ := bc1_ BK1.out
       try go_wp2
       refine bodyPost_ret (results_cell_row rfl _ _ gb1 60 #[.slice (some ⟨go37, 0, none⟩) x3000_2.length co37] (0, 0) _ rfl (by (with_reducible repeat (first | refine blk_drewN ?_ _ | refine blk_drew ?_ | refine blk_alloc ?_ _)); refine blk_put (cs := #[.slice none 0 0]) ?_ 0 _ rfl; (with_reducible repeat (first | refine blk_drewN ?_ _ | refine blk_drew ?_ | refine blk_alloc ?_ _)); exact BK1.out) Tryd.underlying60 rfl (by kernel_rfl)) rfl ?_
       exact ⟨_, rr_, by (with_reducible repeat (first | apply Kd.R_alloc | apply Kd.R_drewN | apply Kd.R_drew)); exact Kd.R_mono (Kd.R_far (p := ⟨gb1, 0, none⟩) (Kd.R_types HO_3000.out BK1.out (by decide)) (fun _ hk => hk.2) (.slice (some ⟨go37, 0, none⟩) x3000_2.length co37)) (fun _ hk => trivial), by repeat (first | (with_reducible first | exact HI0.out | apply IsS145.alloc | apply IsS145.drewN | apply IsS145.drew | apply IsS145.set_1 | apply IsS145.set_2 | refine IsS145.far ?_ NB0_1.out _ | refine IsS145.far ?_ NB0_2.out _) | exact HI0.out), by repeat (first | (with_reducible first | exact HB.out | apply below_alloc | apply pw_below_drewN | apply below_drew1 | refine below_set ?_ (IsS145.ge HI0.out) | refine below_set ?_ GE1.out | refine below_set ?_ GE2.out) | exact HB.out), by repeat (first | (with_reducible first | exact HK.out | apply KeepBut.set_ | apply keep_drewN | apply keep_drew | apply keep_alloc | refine keep_far ?_ GW1.out _ | refine keep_far ?_ GW2.out _) | exact HK.out)⟩

end Go.Proofs.YtchpopocnaoabaaDoor.P
