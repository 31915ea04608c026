-- Written by mp.py (the session's own driver over the kit's printer) for the seat Ytlfbdafghpmahaa.
import Derived.Test.YtlfbdafghpmahaaK
import Derived.Test.YtlfbdafghpmahaaPlawsszIntS
import Derived.Test.YtlfbdafghpmahaaPspecProgOk
namespace Go.Proofs.Ytlfbdafghpmahaa.P
open Go.RowKit Go.Proofs.YtlfbdafghpmahaaW.PrintWords Go.Proofs.YtlfbdafghpmahaaW.PrintLast Go.Proofs.YtlfbdafghpmahaaW.PrintMore
attribute [local go_sem] max2_int min2_int max_two min_two max_three min_three max_four min_four
set_option linter.unusedVariables false
set_option linter.unusedSimpArgs false

/-! ### spec_MachineOk: function 92 -/
mutual
def spec_MachineOk.j0 : Nat → Bool → Int → List (List (S82)) → List Int → List (S102) → Option (Bool)
 | 0, _, _, _, _, _ => none
 | k + 1, x35, x2000, x2001, x3000, x3001 => if x35 = true then (some false) else (spec_MachineOk.l0 k 0 x2000 x2001 x3000 x3001)
def spec_MachineOk.l0 : Nat → Int → Int → List (List (S82)) → List Int → List (S102) → Option (Bool)
 | 0, _, _, _, _, _ => none
 | k + 1, x5, x2000, x2001, x3000, x3001 => if x5 < (x3001.length : Int) then (if 0 ≤ x5 then (if x5 < (x2001.length : Int) then ((spec_l01In.f ((rd_T102 x3001 x5).f0) 0 ((rd_L4 x2001 x5).length : Int)).bind fun t8 => (if t8 = true then (if (((rd_T102 x3001 x5).f1).length : Int) = 4 then ((spec_BufOk.f k ((rd_T102 x3001 x5).f2)).bind fun t9 => (spec_MachineOk.j2 k x5 (!t9) x2000 x2001 x3000 x3001 ((rd_T102 x3001 x5).f0) ((rd_T102 x3001 x5).f1) ((rd_T102 x3001 x5).f2))) else (spec_MachineOk.j2 k x5 true x2000 x2001 x3000 x3001 ((rd_T102 x3001 x5).f0) ((rd_T102 x3001 x5).f1) ((rd_T102 x3001 x5).f2))) else (spec_MachineOk.j2 k x5 true x2000 x2001 x3000 x3001 ((rd_T102 x3001 x5).f0) ((rd_T102 x3001 x5).f1) ((rd_T102 x3001 x5).f2)))) else (none)) else (none)) else (some true)
def spec_MachineOk.j2 : Nat → Int → Bool → Int → List (List (S82)) → List Int → List (S102) → Int → List Int → List (S152) → Option (Bool)
 | 0, _, _, _, _, _, _, _, _, _ => none
 | k + 1, x5, x69, x2000, x2001, x3000, x3001, x7000, x7001, x7002 => if x69 = true then (some false) else (spec_MachineOk.l1 k x5 0 x2000 x2001 x3000 x3001 x7000 x7001 x7002)
def spec_MachineOk.l1 : Nat → Int → Int → Int → List (List (S82)) → List Int → List (S102) → Int → List Int → List (S152) → Option (Bool)
 | 0, _, _, _, _, _, _, _, _, _ => none
 | k + 1, x5, x7, x2000, x2001, x3000, x3001, x7000, x7001, x7002 => if x7 < (x7001.length : Int) then (if 0 ≤ x7 then ((spec_l01Value.f (rd x7001 x7)).bind fun t11 => (if t11 = true then (spec_MachineOk.l1 k x5 (wrap64 (x7 + 1)) x2000 x2001 x3000 x3001 x7000 x7001 x7002) else (some false))) else (none)) else (spec_MachineOk.l2 k x5 0 x2000 x2001 x3000 x3001 x7000 x7001 x7002)
def spec_MachineOk.l2 : Nat → Int → Int → Int → List (List (S82)) → List Int → List (S102) → Int → List Int → List (S152) → Option (Bool)
 | 0, _, _, _, _, _, _, _, _, _ => none
 | k + 1, x5, x8, x2000, x2001, x3000, x3001, x7000, x7001, x7002 => if x8 < (x7002.length : Int) then (if 0 ≤ x8 then (if ((rd_T152 x7002 x8).f0) ≥ x2000 then (some false) else (spec_MachineOk.l2 k x5 (wrap64 (x8 + 1)) x2000 x2001 x3000 x3001 x7000 x7001 x7002)) else (none)) else (spec_MachineOk.l0 k (wrap64 (x5 + 1)) x2000 x2001 x3000 x3001)
end
def spec_MachineOk.f (k : Nat) (a0_0 : Int) (l0_1 : List (List (S82))) (l1_0 : List Int) (l1_1 : List (S102)) : Option (Bool) := (spec_ProgOk.f k a0_0 l0_1).bind fun t3 => (if t3 = true then ((spec_MemOk.f k l1_0).bind fun t4 => (if t4 = true then (if (l1_0.length : Int) = a0_0 then (spec_MachineOk.j0 k ((l1_1.length : Int) != (l0_1.length : Int)) a0_0 l0_1 l1_0 l1_1) else (spec_MachineOk.j0 k true a0_0 l0_1 l1_0 l1_1)) else (spec_MachineOk.j0 k true a0_0 l0_1 l1_0 l1_1))) else (spec_MachineOk.j0 k true a0_0 l0_1 l1_0 l1_1))
theorem spec_MachineOk.mono_l : ∀ k, (∀ y0 y1 y2 y3 y4, LeO (spec_MachineOk.j0 k y0 y1 y2 y3 y4) (spec_MachineOk.j0 (k + 1) y0 y1 y2 y3 y4)) ∧ (∀ y0 y1 y2 y3 y4, LeO (spec_MachineOk.l0 k y0 y1 y2 y3 y4) (spec_MachineOk.l0 (k + 1) y0 y1 y2 y3 y4)) ∧ (∀ y0 y1 y2 y3 y4 y5 y6 y7 y8, LeO (spec_MachineOk.j2 k y0 y1 y2 y3 y4 y5 y6 y7 y8) (spec_MachineOk.j2 (k + 1) y0 y1 y2 y3 y4 y5 y6 y7 y8)) ∧ (∀ y0 y1 y2 y3 y4 y5 y6 y7 y8, LeO (spec_MachineOk.l1 k y0 y1 y2 y3 y4 y5 y6 y7 y8) (spec_MachineOk.l1 (k + 1) y0 y1 y2 y3 y4 y5 y6 y7 y8)) ∧ (∀ y0 y1 y2 y3 y4 y5 y6 y7 y8, LeO (spec_MachineOk.l2 k y0 y1 y2 y3 y4 y5 y6 y7 y8) (spec_MachineOk.l2 (k + 1) y0 y1 y2 y3 y4 y5 y6 y7 y8))
 | 0 => ⟨fun _ _ _ _ _ r h => by simp [spec_MachineOk.j0] at h, fun _ _ _ _ _ r h => by simp [spec_MachineOk.l0] at h, fun _ _ _ _ _ _ _ _ _ r h => by simp [spec_MachineOk.j2] at h, fun _ _ _ _ _ _ _ _ _ r h => by simp [spec_MachineOk.l1] at h, fun _ _ _ _ _ _ _ _ _ r h => by simp [spec_MachineOk.l2] at h⟩
 | k + 1 => by
  obtain ⟨ih0, ih1, ih2, ih3, ih4⟩ := spec_MachineOk.mono_l k
  refine ⟨?_, ?_, ?_, ?_, ?_⟩
  ·intro y0 y1 y2 y3 y4
   unfold spec_MachineOk.j0
   repeat' first | (with_reducible first | exact ih0 _ _ _ _ _ | exact ih1 _ _ _ _ _ | exact ih2 _ _ _ _ _ _ _ _ _ | exact ih3 _ _ _ _ _ _ _ _ _ | exact ih4 _ _ _ _ _ _ _ _ _ | exact spec_BufOk.mono _ _ | exact spec_MemOk.mono _ _ | exact spec_ProgOk.mono _ _ _ | exact lr_ | exact ln_ | refine LeO.ite ?_ ?_ | refine LeO.bind ?_ (fun _ => ?_)) | exact ih0 _ _ _ _ _ | exact ih1 _ _ _ _ _ | exact ih2 _ _ _ _ _ _ _ _ _ | exact ih3 _ _ _ _ _ _ _ _ _ | exact ih4 _ _ _ _ _ _ _ _ _ | exact spec_BufOk.mono _ _ | exact spec_MemOk.mono _ _ | exact spec_ProgOk.mono _ _ _ | exact ln_ | refine LeO.ite ?_ ?_ | refine LeO.bind ?_ (fun _ => ?_)
  ·intro y0 y1 y2 y3 y4
   unfold spec_MachineOk.l0
   repeat' first | (with_reducible first | exact ih0 _ _ _ _ _ | exact ih1 _ _ _ _ _ | exact ih2 _ _ _ _ _ _ _ _ _ | exact ih3 _ _ _ _ _ _ _ _ _ | exact ih4 _ _ _ _ _ _ _ _ _ | exact spec_BufOk.mono _ _ | exact spec_MemOk.mono _ _ | exact spec_ProgOk.mono _ _ _ | exact lr_ | exact ln_ | refine LeO.ite ?_ ?_ | refine LeO.bind ?_ (fun _ => ?_)) | exact ih0 _ _ _ _ _ | exact ih1 _ _ _ _ _ | exact ih2 _ _ _ _ _ _ _ _ _ | exact ih3 _ _ _ _ _ _ _ _ _ | exact ih4 _ _ _ _ _ _ _ _ _ | exact spec_BufOk.mono _ _ | exact spec_MemOk.mono _ _ | exact spec_ProgOk.mono _ _ _ | exact ln_ | refine LeO.ite ?_ ?_ | refine LeO.bind ?_ (fun _ => ?_)
  ·intro y0 y1 y2 y3 y4 y5 y6 y7 y8
   unfold spec_MachineOk.j2
   repeat' first | (with_reducible first | exact ih0 _ _ _ _ _ | exact ih1 _ _ _ _ _ | exact ih2 _ _ _ _ _ _ _ _ _ | exact ih3 _ _ _ _ _ _ _ _ _ | exact ih4 _ _ _ _ _ _ _ _ _ | exact spec_BufOk.mono _ _ | exact spec_MemOk.mono _ _ | exact spec_ProgOk.mono _ _ _ | exact lr_ | exact ln_ | refine LeO.ite ?_ ?_ | refine LeO.bind ?_ (fun _ => ?_)) | exact ih0 _ _ _ _ _ | exact ih1 _ _ _ _ _ | exact ih2 _ _ _ _ _ _ _ _ _ | exact ih3 _ _ _ _ _ _ _ _ _ | exact ih4 _ _ _ _ _ _ _ _ _ | exact spec_BufOk.mono _ _ | exact spec_MemOk.mono _ _ | exact spec_ProgOk.mono _ _ _ | exact ln_ | refine LeO.ite ?_ ?_ | refine LeO.bind ?_ (fun _ => ?_)
  ·intro y0 y1 y2 y3 y4 y5 y6 y7 y8
   unfold spec_MachineOk.l1
   repeat' first | (with_reducible first | exact ih0 _ _ _ _ _ | exact ih1 _ _ _ _ _ | exact ih2 _ _ _ _ _ _ _ _ _ | exact ih3 _ _ _ _ _ _ _ _ _ | exact ih4 _ _ _ _ _ _ _ _ _ | exact spec_BufOk.mono _ _ | exact spec_MemOk.mono _ _ | exact spec_ProgOk.mono _ _ _ | exact lr_ | exact ln_ | refine LeO.ite ?_ ?_ | refine LeO.bind ?_ (fun _ => ?_)) | exact ih0 _ _ _ _ _ | exact ih1 _ _ _ _ _ | exact ih2 _ _ _ _ _ _ _ _ _ | exact ih3 _ _ _ _ _ _ _ _ _ | exact ih4 _ _ _ _ _ _ _ _ _ | exact spec_BufOk.mono _ _ | exact spec_MemOk.mono _ _ | exact spec_ProgOk.mono _ _ _ | exact ln_ | refine LeO.ite ?_ ?_ | refine LeO.bind ?_ (fun _ => ?_)
  ·intro y0 y1 y2 y3 y4 y5 y6 y7 y8
   unfold spec_MachineOk.l2
   repeat' first | (with_reducible first | exact ih0 _ _ _ _ _ | exact ih1 _ _ _ _ _ | exact ih2 _ _ _ _ _ _ _ _ _ | exact ih3 _ _ _ _ _ _ _ _ _ | exact ih4 _ _ _ _ _ _ _ _ _ | exact spec_BufOk.mono _ _ | exact spec_MemOk.mono _ _ | exact spec_ProgOk.mono _ _ _ | exact lr_ | exact ln_ | refine LeO.ite ?_ ?_ | refine LeO.bind ?_ (fun _ => ?_)) | exact ih0 _ _ _ _ _ | exact ih1 _ _ _ _ _ | exact ih2 _ _ _ _ _ _ _ _ _ | exact ih3 _ _ _ _ _ _ _ _ _ | exact ih4 _ _ _ _ _ _ _ _ _ | exact spec_BufOk.mono _ _ | exact spec_MemOk.mono _ _ | exact spec_ProgOk.mono _ _ _ | exact ln_ | refine LeO.ite ?_ ?_ | refine LeO.bind ?_ (fun _ => ?_)
theorem spec_MachineOk.mono : ∀ a0 a1 a2 a3 k, LeO (spec_MachineOk.f k a0 a1 a2 a3) (spec_MachineOk.f (k + 1) a0 a1 a2 a3) := by
 intro a0 a1 a2 a3 k
 obtain ⟨ih0, ih1, ih2, ih3, ih4⟩ := spec_MachineOk.mono_l k
 unfold spec_MachineOk.f
 repeat' first | (with_reducible first | exact ih0 _ _ _ _ _ | exact ih1 _ _ _ _ _ | exact ih2 _ _ _ _ _ _ _ _ _ | exact ih3 _ _ _ _ _ _ _ _ _ | exact ih4 _ _ _ _ _ _ _ _ _ | exact spec_BufOk.mono _ _ | exact spec_MemOk.mono _ _ | exact spec_ProgOk.mono _ _ _ | exact lr_ | exact ln_ | refine LeO.ite ?_ ?_ | refine LeO.bind ?_ (fun _ => ?_)) | exact ih0 _ _ _ _ _ | exact ih1 _ _ _ _ _ | exact ih2 _ _ _ _ _ _ _ _ _ | exact ih3 _ _ _ _ _ _ _ _ _ | exact ih4 _ _ _ _ _ _ _ _ _ | exact spec_BufOk.mono _ _ | exact spec_MemOk.mono _ _ | exact spec_ProgOk.mono _ _ _ | exact ln_ | refine LeO.ite ?_ ?_ | refine LeO.bind ?_ (fun _ => ?_)
set_option maxHeartbeats 8000000 in
set_option maxRecDepth 100000 in
theorem spec_MachineOk.calls (k : Nat) (a0_0 : Int) (A0_1 : Option Addr) (c0_1 : Nat) (l0_1 : List (List (S82))) (A1_0 : Option Addr) (c1_0 : Nat) (l1_0 : List Int) (A1_1 : Option Addr) (c1_1 : Nat) (l1_1 : List (S102)) (r : Bool) (w : World) (hr0_1 : Kd.C (Kd.slice 82 k82) w A0_1 l0_1.length l0_1) (hc0_1 : l0_1.length ≤ c0_1) (hr1_0 : Kd.C (Kd.int .i64) w A1_0 l1_0.length l1_0) (hc1_0 : l1_0.length ≤ c1_0) (hr1_1 : Kd.C k102 w A1_1 l1_1.length l1_1) (hc1_1 : l1_1.length ≤ c1_1) (h : spec_MachineOk.f k a0_0 l0_1 l1_0 l1_1 = some r) :
  Calls Try.prog 92 #[.agg #[.int .i64 a0_0, .slice A0_1 l0_1.length c0_1], .agg #[.slice A1_0 l1_0.length c1_0, .slice A1_1 l1_1.length c1_1]] w fun e w' => e = .returned (.bool r) ∧ Below w.heap.size w w' := by
 have hu39 := Try.underlying39
 have hu54 := Try.underlying54
 have hu51 := Try.underlying51
 have hu102 := Try.underlying102
 have HR0_1 := Aside0.mk hr0_1
 have HC0_1 := Aside0.mk hc0_1
 clear hr0_1 hc0_1
 have HR1_0 := Aside0.mk hr1_0
 have HC1_0 := Aside0.mk hc1_0
 clear hr1_0 hc1_0
 have HR1_1 := Aside0.mk hr1_1
 have HC1_1 := Aside0.mk hc1_1
 clear hr1_1 hc1_1
 have HB := Aside0.mk (Below.refl w.heap.size w)
 have H : ((spec_ProgOk.f k a0_0 l0_1).bind fun t3 => (if t3 = true then ((spec_MemOk.f k l1_0).bind fun t4 => (if t4 = true then (if (l1_0.length : Int) = a0_0 then (spec_MachineOk.j0 k ((l1_1.length : Int) != (l0_1.length : Int)) a0_0 l0_1 l1_0 l1_1) else (spec_MachineOk.j0 k true a0_0 l0_1 l1_0 l1_1)) else (spec_MachineOk.j0 k true a0_0 l0_1 l1_0 l1_1))) else (spec_MachineOk.j0 k true a0_0 l0_1 l1_0 l1_1))) = some r := h
 clear h
 have HC3 := Aside0.mk H
 clear H
 go_enter Try.func92, Try.ntmps92
 go_upto_region 1 with (first | ((with_reducible refine gate_dst (N := 2) rfl ?_); (try (refine gate_guard (by rfl) ?_; dsimp only)); refine box_event ?hg (N := 2) ?hd (cs := #[.int .i64 a0_0, .slice A0_1 l0_1.length c0_1]) (t := 39) ?hr ?_; (case hd => rfl); (case hg => rfl); (case hr => exact hr_); intro gb1 hg w4 hbox hb; have n0_ := bs_ hb; have n1_ := Aside0.mk (hbox); have n2_ := ge_ (w := w) hg; have n3_ := ge_ (w := w) hg; clear HB; have HB := n0_; have BK1 := n1_; have GW1 := n2_; have GE1 := n3_; clear n0_ n1_ n2_ n3_; clear hb hbox hg) | ((with_reducible refine gate_dst (N := 3) rfl ?_); (try (refine gate_guard (by rfl) ?_; dsimp only)); refine box_event ?hg (N := 3) ?hd (cs := #[.slice A1_0 l1_0.length c1_0, .slice A1_1 l1_1.length c1_1]) (t := 54) ?hr ?_; (case hd => rfl); (case hg => rfl); (case hr => exact hr_); intro gb2 hg w5 hbox hb; have n0_ := bb_ BK1.out hb; have n1_ := bs_ hb; have n2_ := Aside0.mk (hbox); have n3_ := ge_ (w := w) hg; have n4_ := ge_ (w := w) hg; have n5_ := nl_ BK1.out hg; have n6_ := nr_ BK1.out hg; clear BK1; clear HB; have BK1 := n0_; have HB := n1_; have BK2 := n2_; have GW2 := n3_; have GE2 := n4_; have NB1_2 := n5_; have NB2_1 := n6_; clear n0_ n1_ n2_ n3_ n4_ n5_ n6_; clear hb hbox hg))
 repeat (go_quiet (first | ((with_reducible refine gate_dst (N := 2) rfl ?_); (try (refine gate_guard (by rfl) ?_; dsimp only)); refine box_event ?hg (N := 2) ?hd (cs := #[.int .i64 a0_0, .slice A0_1 l0_1.length c0_1]) (t := 39) ?hr ?_; (case hd => rfl); (case hg => rfl); (case hr => exact hr_); intro gb1 hg w4 hbox hb; have n0_ := bs_ hb; have n1_ := Aside0.mk (hbox); have n2_ := ge_ (w := w) hg; have n3_ := ge_ (w := w) hg; clear HB; have HB := n0_; have BK1 := n1_; have GW1 := n2_; have GE1 := n3_; clear n0_ n1_ n2_ n3_; clear hb hbox hg) | ((with_reducible refine gate_dst (N := 3) rfl ?_); (try (refine gate_guard (by rfl) ?_; dsimp only)); refine box_event ?hg (N := 3) ?hd (cs := #[.slice A1_0 l1_0.length c1_0, .slice A1_1 l1_1.length c1_1]) (t := 54) ?hr ?_; (case hd => rfl); (case hg => rfl); (case hr => exact hr_); intro gb2 hg w5 hbox hb; have n0_ := bb_ BK1.out hb; have n1_ := bs_ hb; have n2_ := Aside0.mk (hbox); have n3_ := ge_ (w := w) hg; have n4_ := ge_ (w := w) hg; have n5_ := nl_ BK1.out hg; have n6_ := nr_ BK1.out hg; clear BK1; clear HB; have BK1 := n0_; have HB := n1_; have BK2 := n2_; have GW2 := n3_; have GE2 := n4_; have NB1_2 := n5_; have NB2_1 := n6_; clear n0_ n1_ n2_ n3_ n4_ n5_ n6_; clear hb hbox hg)); go_upto_region 1 with (first | ((with_reducible refine gate_dst (N := 2) rfl ?_); (try (refine gate_guard (by rfl) ?_; dsimp only)); refine box_event ?hg (N := 2) ?hd (cs := #[.int .i64 a0_0, .slice A0_1 l0_1.length c0_1]) (t := 39) ?hr ?_; (case hd => rfl); (case hg => rfl); (case hr => exact hr_); intro gb1 hg w4 hbox hb; have n0_ := bs_ hb; have n1_ := Aside0.mk (hbox); have n2_ := ge_ (w := w) hg; have n3_ := ge_ (w := w) hg; clear HB; have HB := n0_; have BK1 := n1_; have GW1 := n2_; have GE1 := n3_; clear n0_ n1_ n2_ n3_; clear hb hbox hg) | ((with_reducible refine gate_dst (N := 3) rfl ?_); (try (refine gate_guard (by rfl) ?_; dsimp only)); refine box_event ?hg (N := 3) ?hd (cs := #[.slice A1_0 l1_0.length c1_0, .slice A1_1 l1_1.length c1_1]) (t := 54) ?hr ?_; (case hd => rfl); (case hg => rfl); (case hr => exact hr_); intro gb2 hg w5 hbox hb; have n0_ := bb_ BK1.out hb; have n1_ := bs_ hb; have n2_ := Aside0.mk (hbox); have n3_ := ge_ (w := w) hg; have n4_ := ge_ (w := w) hg; have n5_ := nl_ BK1.out hg; have n6_ := nr_ BK1.out hg; clear BK1; clear HB; have BK1 := n0_; have HB := n1_; have BK2 := n2_; have GW2 := n3_; have GE2 := n4_; have NB1_2 := n5_; have NB2_1 := n6_; clear n0_ n1_ n2_ n3_ n4_ n5_ n6_; clear hb hbox hg)))
 (try simp only [Act.put, List.setIfInBounds_toArray, List.set_cons_zero, List.set_cons_succ])
 go_cut [35] (fun v35 wc => ∃ (kq : Nat) (x35_2 : Bool), v35 = .bool x35_2 ∧ Aside0 (spec_MachineOk.j0 kq x35_2 a0_0 l0_1 l1_0 l1_1 = some r) ∧ Aside0 (kq ≤ k) ∧ Aside0 (wc.heap[gb1]? = some (.cells #[.int .i64 a0_0, (.slice A0_1 l0_1.length c0_1)] 39 (0, 0))) ∧ Aside0 (wc.heap[gb2]? = some (.cells #[(.slice A1_0 l1_0.length c1_0), (.slice A1_1 l1_1.length c1_1)] 54 (0, 0))) ∧ Aside0 (Below w.heap.size w wc))
 case first =>
  have H := HC3.out
  clear HC3
  replace H := Option.bind_eq_some_iff.mp H
  obtain ⟨t3, A60, H⟩ := H
  replace H : (if t3 = true then ((spec_MemOk.f k l1_0).bind fun t4 => (if t4 = true then (if (l1_0.length : Int) = a0_0 then (spec_MachineOk.j0 k ((l1_1.length : Int) != (l0_1.length : Int)) a0_0 l0_1 l1_0 l1_1) else (spec_MachineOk.j0 k true a0_0 l0_1 l1_0 l1_1)) else (spec_MachineOk.j0 k true a0_0 l0_1 l1_0 l1_1))) else (spec_MachineOk.j0 k true a0_0 l0_1 l1_0 l1_1)) = some r := H
  have A6 := Aside0.mk A60
  clear A60
  by_cases c7 : t3 = true
  rotate_left
  ·replace c7 := Bool.eq_false_iff.mpr c7
   subst c7
   have H1 : (spec_MachineOk.j0 k true a0_0 l0_1 l1_0 l1_1) = some r := by rw [if_neg (show ¬ (false = true) by decide)] at H; exact H
   clear H
   have H := H1
   clear H1
   have H' := Aside0.mk H
   clear H
   have hnb30 := NB1_2.out
   have hnc30 := NB2_1.out
   obtain ⟨hcz31_0, hcz31_1, hfz31_0, hfz31_1⟩ := bc2_ BK1.out
   go_wp2_with (first | (go_at_call 58; (with_reducible refine (spec_ProgOk.calls k a0_0 _ _ l0_1 false _ ?side1 ?side2 A6.out).mono ?_); (case side1 => exact cb_); (case side2 => exact HC0_1.out); rintro e w32 ⟨rfl, hb⟩; have n0_ := bb_ BK1.out hb; have n1_ := bb_ BK2.out hb; have n2_ := bs_ hb; clear BK1; clear BK2; clear HB; have BK1 := n0_; have BK2 := n1_; have HB := n2_; clear n0_ n1_ n2_; (try clear hb); (try clear hb2); (try clear hk); (try clear hi)))
   repeat (go_quiet (first | (go_at_call 58; (with_reducible refine (spec_ProgOk.calls k a0_0 _ _ l0_1 false _ ?side1 ?side2 A6.out).mono ?_); (case side1 => exact cb_); (case side2 => exact HC0_1.out); rintro e w32 ⟨rfl, hb⟩; have n0_ := bb_ BK1.out hb; have n1_ := bb_ BK2.out hb; have n2_ := bs_ hb; clear BK1; clear BK2; clear HB; have BK1 := n0_; have BK2 := n1_; have HB := n2_; clear n0_ n1_ n2_; (try clear hb); (try clear hb2); (try clear hk); (try clear hi))); try go_wp2_with (first | (go_at_call 58; (with_reducible refine (spec_ProgOk.calls k a0_0 _ _ l0_1 false _ ?side1 ?side2 A6.out).mono ?_); (case side1 => exact cb_); (case side2 => exact HC0_1.out); rintro e w32 ⟨rfl, hb⟩; have n0_ := bb_ BK1.out hb; have n1_ := bb_ BK2.out hb; have n2_ := bs_ hb; clear BK1; clear BK2; clear HB; have BK1 := n0_; have BK2 := n1_; have HB := n2_; clear n0_ n1_ n2_; (try clear hb); (try clear hb2); (try clear hk); (try clear hi))))
   go_meet
   case rel => exact ⟨_, (true), sd_, H', ⟨by first | omega | exact Nat.le_refl _⟩, ⟨bk_⟩, ⟨bk_⟩, ⟨bw_⟩⟩
  subst c7
  have H1 : ((spec_MemOk.f k l1_0).bind fun t4 => (if t4 = true then (if (l1_0.length : Int) = a0_0 then (spec_MachineOk.j0 k ((l1_1.length : Int) != (l0_1.length : Int)) a0_0 l0_1 l1_0 l1_1) else (spec_MachineOk.j0 k true a0_0 l0_1 l1_0 l1_1)) else (spec_MachineOk.j0 k true a0_0 l0_1 l1_0 l1_1))) = some r := by rw [if_pos rfl] at H; exact H
  clear H
  have H := H1
  clear H1
  replace H := Option.bind_eq_some_iff.mp H
  obtain ⟨t4, A80, H⟩ := H
  replace H : (if t4 = true then (if (l1_0.length : Int) = a0_0 then (spec_MachineOk.j0 k ((l1_1.length : Int) != (l0_1.length : Int)) a0_0 l0_1 l1_0 l1_1) else (spec_MachineOk.j0 k true a0_0 l0_1 l1_0 l1_1)) else (spec_MachineOk.j0 k true a0_0 l0_1 l1_0 l1_1)) = some r := H
  have A8 := Aside0.mk A80
  clear A80
  by_cases c9 : t4 = true
  rotate_left
  ·replace c9 := Bool.eq_false_iff.mpr c9
   subst c9
   have H1 : (spec_MachineOk.j0 k true a0_0 l0_1 l1_0 l1_1) = some r := by rw [if_neg (show ¬ (false = true) by decide)] at H; exact H
   clear H
   have H := H1
   clear H1
   have H' := Aside0.mk H
   clear H
   have hnb25 := NB1_2.out
   have hnc25 := NB2_1.out
   obtain ⟨hcz26_0, hcz26_1, hfz26_0, hfz26_1⟩ := bc2_ BK1.out
   go_wp2_with (first | (go_at_call 58; (with_reducible refine (spec_ProgOk.calls k a0_0 _ _ l0_1 true _ ?side1 ?side2 A6.out).mono ?_); (case side1 => exact cb_); (case side2 => exact HC0_1.out); rintro e w27 ⟨rfl, hb⟩; have n0_ := bb_ BK1.out hb; have n1_ := bb_ BK2.out hb; have n2_ := bs_ hb; clear BK1; clear BK2; clear HB; have BK1 := n0_; have BK2 := n1_; have HB := n2_; clear n0_ n1_ n2_; (try clear hb); (try clear hb2); (try clear hk); (try clear hi); obtain ⟨hcz28_0, hcz28_1, hfz28_0, hfz28_1⟩ := bc2_ BK2.out) | (go_at_call 119; (with_reducible refine (spec_MemOk.calls k _ _ l1_0 false _ ?side1 ?side2 A8.out).mono ?_); (case side1 => exact cb_); (case side2 => exact HC1_0.out); rintro e w29 ⟨rfl, hb⟩; have n0_ := bb_ BK1.out hb; have n1_ := bb_ BK2.out hb; have n2_ := bs_ hb; clear BK1; clear BK2; clear HB; have BK1 := n0_; have BK2 := n1_; have HB := n2_; clear n0_ n1_ n2_; (try clear hb); (try clear hb2); (try clear hk); (try clear hi)))
   repeat (go_quiet (first | (go_at_call 58; (with_reducible refine (spec_ProgOk.calls k a0_0 _ _ l0_1 true _ ?side1 ?side2 A6.out).mono ?_); (case side1 => exact cb_); (case side2 => exact HC0_1.out); rintro e w27 ⟨rfl, hb⟩; have n0_ := bb_ BK1.out hb; have n1_ := bb_ BK2.out hb; have n2_ := bs_ hb; clear BK1; clear BK2; clear HB; have BK1 := n0_; have BK2 := n1_; have HB := n2_; clear n0_ n1_ n2_; (try clear hb); (try clear hb2); (try clear hk); (try clear hi); obtain ⟨hcz28_0, hcz28_1, hfz28_0, hfz28_1⟩ := bc2_ BK2.out) | (go_at_call 119; (with_reducible refine (spec_MemOk.calls k _ _ l1_0 false _ ?side1 ?side2 A8.out).mono ?_); (case side1 => exact cb_); (case side2 => exact HC1_0.out); rintro e w29 ⟨rfl, hb⟩; have n0_ := bb_ BK1.out hb; have n1_ := bb_ BK2.out hb; have n2_ := bs_ hb; clear BK1; clear BK2; clear HB; have BK1 := n0_; have BK2 := n1_; have HB := n2_; clear n0_ n1_ n2_; (try clear hb); (try clear hb2); (try clear hk); (try clear hi))); try go_wp2_with (first | (go_at_call 58; (with_reducible refine (spec_ProgOk.calls k a0_0 _ _ l0_1 true _ ?side1 ?side2 A6.out).mono ?_); (case side1 => exact cb_); (case side2 => exact HC0_1.out); rintro e w27 ⟨rfl, hb⟩; have n0_ := bb_ BK1.out hb; have n1_ := bb_ BK2.out hb; have n2_ := bs_ hb; clear BK1; clear BK2; clear HB; have BK1 := n0_; have BK2 := n1_; have HB := n2_; clear n0_ n1_ n2_; (try clear hb); (try clear hb2); (try clear hk); (try clear hi); obtain ⟨hcz28_0, hcz28_1, hfz28_0, hfz28_1⟩ := bc2_ BK2.out) | (go_at_call 119; (with_reducible refine (spec_MemOk.calls k _ _ l1_0 false _ ?side1 ?side2 A8.out).mono ?_); (case side1 => exact cb_); (case side2 => exact HC1_0.out); rintro e w29 ⟨rfl, hb⟩; have n0_ := bb_ BK1.out hb; have n1_ := bb_ BK2.out hb; have n2_ := bs_ hb; clear BK1; clear BK2; clear HB; have BK1 := n0_; have BK2 := n1_; have HB := n2_; clear n0_ n1_ n2_; (try clear hb); (try clear hb2); (try clear hk); (try clear hi))))
   go_meet
   case rel => exact ⟨_, (true), sd_, H', ⟨by first | omega | exact Nat.le_refl _⟩, ⟨bk_⟩, ⟨bk_⟩, ⟨bw_⟩⟩
  subst c9
  have H1 : (if (l1_0.length : Int) = a0_0 then (spec_MachineOk.j0 k ((l1_1.length : Int) != (l0_1.length : Int)) a0_0 l0_1 l1_0 l1_1) else (spec_MachineOk.j0 k true a0_0 l0_1 l1_0 l1_1)) = some r := by rw [if_pos rfl] at H; exact H
  clear H
  have H := H1
  clear H1
  by_cases c10 : (l1_0.length : Int) = a0_0
  rotate_left
  ·rw [if_neg c10] at H
   have c10b0 : ((l1_0.length : Int) == a0_0) = false := beq_eq_false_iff_ne.mpr c10
   have c10b1 : ((l1_0.length : Int) != a0_0) = true := bne_iff_ne.mpr c10
   (first | rw [c10b0] | (simp only [i64_w, i32_w]; rw [c10b0]) | skip)
   have H' := Aside0.mk H
   clear H
   have hnb18 := NB1_2.out
   have hnc18 := NB2_1.out
   obtain ⟨hcz19_0, hcz19_1, hfz19_0, hfz19_1⟩ := bc2_ BK1.out
   go_wp2_with (first | (go_at_call 58; (with_reducible refine (spec_ProgOk.calls k a0_0 _ _ l0_1 true _ ?side1 ?side2 A6.out).mono ?_); (case side1 => exact cb_); (case side2 => exact HC0_1.out); rintro e w20 ⟨rfl, hb⟩; have n0_ := bb_ BK1.out hb; have n1_ := bb_ BK2.out hb; have n2_ := bs_ hb; clear BK1; clear BK2; clear HB; have BK1 := n0_; have BK2 := n1_; have HB := n2_; clear n0_ n1_ n2_; (try clear hb); (try clear hb2); (try clear hk); (try clear hi); obtain ⟨hcz21_0, hcz21_1, hfz21_0, hfz21_1⟩ := bc2_ BK2.out) | (go_at_call 119; (with_reducible refine (spec_MemOk.calls k _ _ l1_0 true _ ?side1 ?side2 A8.out).mono ?_); (case side1 => exact cb_); (case side2 => exact HC1_0.out); rintro e w22 ⟨rfl, hb⟩; have n0_ := bb_ BK1.out hb; have n1_ := bb_ BK2.out hb; have n2_ := bs_ hb; clear BK1; clear BK2; clear HB; have BK1 := n0_; have BK2 := n1_; have HB := n2_; clear n0_ n1_ n2_; (try clear hb); (try clear hb2); (try clear hk); (try clear hi); obtain ⟨hcz23_0, hcz23_1, hfz23_0, hfz23_1⟩ := bc2_ BK2.out; obtain ⟨hcz24_0, hcz24_1, hfz24_0, hfz24_1⟩ := bc2_ BK1.out))
   repeat (go_quiet (first | (go_at_call 58; (with_reducible refine (spec_ProgOk.calls k a0_0 _ _ l0_1 true _ ?side1 ?side2 A6.out).mono ?_); (case side1 => exact cb_); (case side2 => exact HC0_1.out); rintro e w20 ⟨rfl, hb⟩; have n0_ := bb_ BK1.out hb; have n1_ := bb_ BK2.out hb; have n2_ := bs_ hb; clear BK1; clear BK2; clear HB; have BK1 := n0_; have BK2 := n1_; have HB := n2_; clear n0_ n1_ n2_; (try clear hb); (try clear hb2); (try clear hk); (try clear hi); obtain ⟨hcz21_0, hcz21_1, hfz21_0, hfz21_1⟩ := bc2_ BK2.out) | (go_at_call 119; (with_reducible refine (spec_MemOk.calls k _ _ l1_0 true _ ?side1 ?side2 A8.out).mono ?_); (case side1 => exact cb_); (case side2 => exact HC1_0.out); rintro e w22 ⟨rfl, hb⟩; have n0_ := bb_ BK1.out hb; have n1_ := bb_ BK2.out hb; have n2_ := bs_ hb; clear BK1; clear BK2; clear HB; have BK1 := n0_; have BK2 := n1_; have HB := n2_; clear n0_ n1_ n2_; (try clear hb); (try clear hb2); (try clear hk); (try clear hi); obtain ⟨hcz23_0, hcz23_1, hfz23_0, hfz23_1⟩ := bc2_ BK2.out; obtain ⟨hcz24_0, hcz24_1, hfz24_0, hfz24_1⟩ := bc2_ BK1.out)); try go_wp2_with (first | (go_at_call 58; (with_reducible refine (spec_ProgOk.calls k a0_0 _ _ l0_1 true _ ?side1 ?side2 A6.out).mono ?_); (case side1 => exact cb_); (case side2 => exact HC0_1.out); rintro e w20 ⟨rfl, hb⟩; have n0_ := bb_ BK1.out hb; have n1_ := bb_ BK2.out hb; have n2_ := bs_ hb; clear BK1; clear BK2; clear HB; have BK1 := n0_; have BK2 := n1_; have HB := n2_; clear n0_ n1_ n2_; (try clear hb); (try clear hb2); (try clear hk); (try clear hi); obtain ⟨hcz21_0, hcz21_1, hfz21_0, hfz21_1⟩ := bc2_ BK2.out) | (go_at_call 119; (with_reducible refine (spec_MemOk.calls k _ _ l1_0 true _ ?side1 ?side2 A8.out).mono ?_); (case side1 => exact cb_); (case side2 => exact HC1_0.out); rintro e w22 ⟨rfl, hb⟩; have n0_ := bb_ BK1.out hb; have n1_ := bb_ BK2.out hb; have n2_ := bs_ hb; clear BK1; clear BK2; clear HB; have BK1 := n0_; have BK2 := n1_; have HB := n2_; clear n0_ n1_ n2_; (try clear hb); (try clear hb2); (try clear hk); (try clear hi); obtain ⟨hcz23_0, hcz23_1, hfz23_0, hfz23_1⟩ := bc2_ BK2.out; obtain ⟨hcz24_0, hcz24_1, hfz24_0, hfz24_1⟩ := bc2_ BK1.out)))
   go_meet
   case rel => exact ⟨_, (true), sd_, H', ⟨by first | omega | exact Nat.le_refl _⟩, ⟨bk_⟩, ⟨bk_⟩, ⟨bw_⟩⟩
  rw [if_pos c10] at H
  have c10b0 : ((l1_0.length : Int) == a0_0) = true := beq_iff_eq.mpr c10
  have c10b1 : ((l1_0.length : Int) != a0_0) = false := bne_eq_false_iff_eq.mpr c10
  clear c10
  (first | rw [c10b0] | (simp only [i64_w, i32_w]; rw [c10b0]) | skip)
  have H' := Aside0.mk H
  clear H
  have hnb11 := NB1_2.out
  have hnc11 := NB2_1.out
  obtain ⟨hcz12_0, hcz12_1, hfz12_0, hfz12_1⟩ := bc2_ BK1.out
  go_wp2_with (first | (go_at_call 58; (with_reducible refine (spec_ProgOk.calls k a0_0 _ _ l0_1 true _ ?side1 ?side2 A6.out).mono ?_); (case side1 => exact cb_); (case side2 => exact HC0_1.out); rintro e w13 ⟨rfl, hb⟩; have n0_ := bb_ BK1.out hb; have n1_ := bb_ BK2.out hb; have n2_ := bs_ hb; clear BK1; clear BK2; clear HB; have BK1 := n0_; have BK2 := n1_; have HB := n2_; clear n0_ n1_ n2_; (try clear hb); (try clear hb2); (try clear hk); (try clear hi); obtain ⟨hcz14_0, hcz14_1, hfz14_0, hfz14_1⟩ := bc2_ BK2.out) | (go_at_call 119; (with_reducible refine (spec_MemOk.calls k _ _ l1_0 true _ ?side1 ?side2 A8.out).mono ?_); (case side1 => exact cb_); (case side2 => exact HC1_0.out); rintro e w15 ⟨rfl, hb⟩; have n0_ := bb_ BK1.out hb; have n1_ := bb_ BK2.out hb; have n2_ := bs_ hb; clear BK1; clear BK2; clear HB; have BK1 := n0_; have BK2 := n1_; have HB := n2_; clear n0_ n1_ n2_; (try clear hb); (try clear hb2); (try clear hk); (try clear hi); obtain ⟨hcz16_0, hcz16_1, hfz16_0, hfz16_1⟩ := bc2_ BK2.out; obtain ⟨hcz17_0, hcz17_1, hfz17_0, hfz17_1⟩ := bc2_ BK1.out))
  repeat (go_quiet (first | (go_at_call 58; (with_reducible refine (spec_ProgOk.calls k a0_0 _ _ l0_1 true _ ?side1 ?side2 A6.out).mono ?_); (case side1 => exact cb_); (case side2 => exact HC0_1.out); rintro e w13 ⟨rfl, hb⟩; have n0_ := bb_ BK1.out hb; have n1_ := bb_ BK2.out hb; have n2_ := bs_ hb; clear BK1; clear BK2; clear HB; have BK1 := n0_; have BK2 := n1_; have HB := n2_; clear n0_ n1_ n2_; (try clear hb); (try clear hb2); (try clear hk); (try clear hi); obtain ⟨hcz14_0, hcz14_1, hfz14_0, hfz14_1⟩ := bc2_ BK2.out) | (go_at_call 119; (with_reducible refine (spec_MemOk.calls k _ _ l1_0 true _ ?side1 ?side2 A8.out).mono ?_); (case side1 => exact cb_); (case side2 => exact HC1_0.out); rintro e w15 ⟨rfl, hb⟩; have n0_ := bb_ BK1.out hb; have n1_ := bb_ BK2.out hb; have n2_ := bs_ hb; clear BK1; clear BK2; clear HB; have BK1 := n0_; have BK2 := n1_; have HB := n2_; clear n0_ n1_ n2_; (try clear hb); (try clear hb2); (try clear hk); (try clear hi); obtain ⟨hcz16_0, hcz16_1, hfz16_0, hfz16_1⟩ := bc2_ BK2.out; obtain ⟨hcz17_0, hcz17_1, hfz17_0, hfz17_1⟩ := bc2_ BK1.out)); try go_wp2_with (first | (go_at_call 58; (with_reducible refine (spec_ProgOk.calls k a0_0 _ _ l0_1 true _ ?side1 ?side2 A6.out).mono ?_); (case side1 => exact cb_); (case side2 => exact HC0_1.out); rintro e w13 ⟨rfl, hb⟩; have n0_ := bb_ BK1.out hb; have n1_ := bb_ BK2.out hb; have n2_ := bs_ hb; clear BK1; clear BK2; clear HB; have BK1 := n0_; have BK2 := n1_; have HB := n2_; clear n0_ n1_ n2_; (try clear hb); (try clear hb2); (try clear hk); (try clear hi); obtain ⟨hcz14_0, hcz14_1, hfz14_0, hfz14_1⟩ := bc2_ BK2.out) | (go_at_call 119; (with_reducible refine (spec_MemOk.calls k _ _ l1_0 true _ ?side1 ?side2 A8.out).mono ?_); (case side1 => exact cb_); (case side2 => exact HC1_0.out); rintro e w15 ⟨rfl, hb⟩; have n0_ := bb_ BK1.out hb; have n1_ := bb_ BK2.out hb; have n2_ := bs_ hb; clear BK1; clear BK2; clear HB; have BK1 := n0_; have BK2 := n1_; have HB := n2_; clear n0_ n1_ n2_; (try clear hb); (try clear hb2); (try clear hk); (try clear hi); obtain ⟨hcz16_0, hcz16_1, hfz16_0, hfz16_1⟩ := bc2_ BK2.out; obtain ⟨hcz17_0, hcz17_1, hfz17_0, hfz17_1⟩ := bc2_ BK1.out)))
  go_meet
  case rel => exact ⟨_, (((l1_1.length : Int) != (l0_1.length : Int))), sd_, H', ⟨by first | omega | exact Nat.le_refl _⟩, ⟨bk_⟩, ⟨bk_⟩, ⟨bw_⟩⟩
 case rest =>
  clear HC3
  try clear c1
  try clear c2
  try clear p2
  try clear c3
  try clear c7
  try clear c9
  try clear c10
  try clear c10b0
  try clear c10b1
  try clear c11
  try clear c18
  try clear c25
  try clear c30
  try clear hcz12_0 hcz12_1
  try clear hcz14_0 hcz14_1
  try clear hcz16_0 hcz16_1
  try clear hcz17_0 hcz17_1
  try clear hcz19_0 hcz19_1
  try clear hcz21_0 hcz21_1
  try clear hcz23_0 hcz23_1
  try clear hcz24_0 hcz24_1
  try clear hcz26_0 hcz26_1
  try clear hcz28_0 hcz28_1
  try clear hcz31_0 hcz31_1
  try clear hfz12_0 hfz12_1
  try clear hfz14_0 hfz14_1
  try clear hfz16_0 hfz16_1
  try clear hfz17_0 hfz17_1
  try clear hfz19_0 hfz19_1
  try clear hfz21_0 hfz21_1
  try clear hfz23_0 hfz23_1
  try clear hfz24_0 hfz24_1
  try clear hfz26_0 hfz26_1
  try clear hfz28_0 hfz28_1
  try clear hfz31_0 hfz31_1
  obtain ⟨kq, x35_2, rfl, HA, HJ2, BK1, BK2, HB⟩ := hcut
  cases kq with
  | zero => exact absurd HA.out (by simp [spec_MachineOk.j0])
  | succ kj2 =>
   have H := HA.out
   clear HA
   simp only [spec_MachineOk.j0] at H
   by_cases c33 : x35_2 = true
   ·subst c33
    have H1 : (some false) = some r := by rw [if_pos rfl] at H; exact H
    clear H
    have H := H1
    clear H1
    obtain rfl := Option.some.inj H
    go_wp2
    repeat (go_quiet (fail); try go_wp2)
    go_ret
    exact ⟨rr_, bw_⟩
   replace c33 := Bool.eq_false_iff.mpr c33
   subst c33
   have H1 : (spec_MachineOk.l0 kj2 0 a0_0 l0_1 l1_0 l1_1) = some r := by rw [if_neg (show ¬ (false = true) by decide)] at H; exact H
   clear H
   have H := H1
   clear H1
   have H' := Aside0.mk H
   clear H
   go_wp2
   repeat (go_quiet (fail); try go_wp2)
   go_loopg [5] kj2 (fun kq v5 w' => ∃ (x5_2 : Int), v5 = .int .i64 x5_2 ∧ Aside0 (spec_MachineOk.l0 kq x5_2 a0_0 l0_1 l1_0 l1_1 = some r) ∧ Aside0 (kq ≤ kj2) ∧ Aside0 (w'.heap[gb1]? = some (.cells #[.int .i64 a0_0, (.slice A0_1 l0_1.length c0_1)] 39 (0, 0))) ∧ Aside0 (w'.heap[gb2]? = some (.cells #[(.slice A1_0 l1_0.length c1_0), (.slice A1_1 l1_1.length c1_1)] 54 (0, 0))) ∧ Aside0 (Below w.heap.size w w'))
   case atStart => exact ⟨(0), sd_, H', ⟨Nat.le_refl _⟩, ⟨bk_⟩, ⟨bk_⟩, ⟨bw_⟩⟩
   case round =>
    clear H'
    try clear c1
    try clear c2
    try clear p2
    try clear c3
    try clear c7
    try clear c9
    try clear c10
    try clear c10b0
    try clear c10b1
    try clear c11
    try clear c18
    try clear c25
    try clear c30
    try clear c33
    try clear hcz12_0 hcz12_1
    try clear hcz14_0 hcz14_1
    try clear hcz16_0 hcz16_1
    try clear hcz17_0 hcz17_1
    try clear hcz19_0 hcz19_1
    try clear hcz21_0 hcz21_1
    try clear hcz23_0 hcz23_1
    try clear hcz24_0 hcz24_1
    try clear hcz26_0 hcz26_1
    try clear hcz28_0 hcz28_1
    try clear hcz31_0 hcz31_1
    try clear hfz12_0 hfz12_1
    try clear hfz14_0 hfz14_1
    try clear hfz16_0 hfz16_1
    try clear hfz17_0 hfz17_1
    try clear hfz19_0 hfz19_1
    try clear hfz21_0 hfz21_1
    try clear hfz23_0 hfz23_1
    try clear hfz24_0 hfz24_1
    try clear hfz26_0 hfz26_1
    try clear hfz28_0 hfz28_1
    try clear hfz31_0 hfz31_1
    try clear p2
    obtain ⟨x5_2, rfl, HA, HK2, BK1, BK2, HB⟩ := hrel
    cases gk with
    | zero => exact absurd HA.out (by simp [spec_MachineOk.l0])
    | succ k2 =>
     have H := HA.out
     clear HA
     simp only [spec_MachineOk.l0] at H
     by_cases c34 : x5_2 < (l1_1.length : Int)
     rotate_left
     ·rw [if_neg c34] at H
      have c34b0 : decide (x5_2 < (l1_1.length : Int)) = false := decide_eq_false c34
      clear c34
      obtain rfl := Option.some.inj H
      have hnb93 := NB2_1.out
      have hnc93 := NB1_2.out
      obtain ⟨hcz94_0, hcz94_1, hfz94_0, hfz94_1⟩ := bc2_ BK2.out
      go_wp2
      repeat (go_quiet (fail); try go_wp2)
      go_ret
      exact ⟨rr_, bw_⟩
     rw [if_pos c34] at H
     have c34b0 : decide (x5_2 < (l1_1.length : Int)) = true := decide_eq_true c34
     clear c34
     by_cases c35 : 0 ≤ x5_2
     rotate_left
     ·rw [if_neg c35] at H
      exact absurd H (by simp)
     rw [if_pos c35] at H
     have c35b0 : decide (0 ≤ x5_2) = true := decide_eq_true c35
     clear c35
     have HC36 := Aside0.mk H
     clear H
     have hnb37 := NB2_1.out
     have hnc37 := NB1_2.out
     obtain ⟨hcz38_0, hcz38_1, hfz38_0, hfz38_1⟩ := bc2_ BK2.out
     have p5 : 0 ≤ (x5_2 : Int) := od_
     have q5 : x5_2 < (l1_1.length : Int) := od_
     obtain ⟨ad5, A5_1, c5_1, A5_2, c5_2, e5, hx5_0, hx5_1, hx5_2, hl5_1, hi5_1, hl5_2, hi5_2⟩ := at_T102 HR1_1.out x5_2 p5 q5
     cases e5
     replace hx5_0 := (HB.out.cell (World.block_lt_of_cell? w _ hx5_0)).trans hx5_0
     replace hx5_1 := (HB.out.cell (World.block_lt_of_cell? w _ hx5_1)).trans hx5_1
     replace hx5_2 := (HB.out.cell (World.block_lt_of_cell? w _ hx5_2)).trans hx5_2
     have HR5_1 := Aside0.mk hi5_1
     have HC5_1 := Aside0.mk hl5_1
     clear hi5_1 hl5_1
     have HR5_2 := Aside0.mk hi5_2
     have HC5_2 := Aside0.mk hl5_2
     clear hi5_2 hl5_2
     replace p5 := eq_true p5
     replace q5 := eq_true q5
     go_upto_region 7 with (first | ((with_reducible refine gate_dst (N := 6) rfl ?_); (try (refine gate_guard (by rfl) ?_; dsimp only)); refine box_event ?hg (N := 6) ?hd (cs := #[.int .i64 0, .slice none 0 0, .slice none 0 0]) (t := 102) ?hr ?_; (case hd => rfl); (case hg => rfl); (case hr => exact hr_); intro gb6 hg w39 hbox hb; have n0_ := bb_ BK1.out hb; have n1_ := bb_ BK2.out hb; have n2_ := bs_ hb; have n3_ := Aside0.mk (hbox); have n4_ := ge_ (w := w) hg; have n5_ := ge_ (w := w) hg; have n6_ := nl_ BK1.out hg; have n7_ := nr_ BK1.out hg; have n8_ := nl_ BK2.out hg; have n9_ := nr_ BK2.out hg; clear BK1; clear BK2; clear HB; have BK1 := n0_; have BK2 := n1_; have HB := n2_; have BK6 := n3_; have GW6 := n4_; have GE6 := n5_; have NB1_6 := n6_; have NB6_1 := n7_; have NB2_6 := n8_; have NB6_2 := n9_; clear n0_ n1_ n2_ n3_ n4_ n5_ n6_ n7_ n8_ n9_; clear hb hbox hg; have hnb40 := NB6_1.out; have hnc40 := NB1_6.out; have hnb41 := NB6_2.out; have hnc41 := NB2_6.out; obtain ⟨hcz42_0, hcz42_1, hcz42_2, hfz42_0, hfz42_1, hfz42_2⟩ := bc3_ BK6.out))
     repeat (go_quiet (first | ((with_reducible refine gate_dst (N := 6) rfl ?_); (try (refine gate_guard (by rfl) ?_; dsimp only)); refine box_event ?hg (N := 6) ?hd (cs := #[.int .i64 0, .slice none 0 0, .slice none 0 0]) (t := 102) ?hr ?_; (case hd => rfl); (case hg => rfl); (case hr => exact hr_); intro gb6 hg w39 hbox hb; have n0_ := bb_ BK1.out hb; have n1_ := bb_ BK2.out hb; have n2_ := bs_ hb; have n3_ := Aside0.mk (hbox); have n4_ := ge_ (w := w) hg; have n5_ := ge_ (w := w) hg; have n6_ := nl_ BK1.out hg; have n7_ := nr_ BK1.out hg; have n8_ := nl_ BK2.out hg; have n9_ := nr_ BK2.out hg; clear BK1; clear BK2; clear HB; have BK1 := n0_; have BK2 := n1_; have HB := n2_; have BK6 := n3_; have GW6 := n4_; have GE6 := n5_; have NB1_6 := n6_; have NB6_1 := n7_; have NB2_6 := n8_; have NB6_2 := n9_; clear n0_ n1_ n2_ n3_ n4_ n5_ n6_ n7_ n8_ n9_; clear hb hbox hg; have hnb40 := NB6_1.out; have hnc40 := NB1_6.out; have hnb41 := NB6_2.out; have hnc41 := NB2_6.out; obtain ⟨hcz42_0, hcz42_1, hcz42_2, hfz42_0, hfz42_1, hfz42_2⟩ := bc3_ BK6.out)); go_upto_region 7 with (first | ((with_reducible refine gate_dst (N := 6) rfl ?_); (try (refine gate_guard (by rfl) ?_; dsimp only)); refine box_event ?hg (N := 6) ?hd (cs := #[.int .i64 0, .slice none 0 0, .slice none 0 0]) (t := 102) ?hr ?_; (case hd => rfl); (case hg => rfl); (case hr => exact hr_); intro gb6 hg w39 hbox hb; have n0_ := bb_ BK1.out hb; have n1_ := bb_ BK2.out hb; have n2_ := bs_ hb; have n3_ := Aside0.mk (hbox); have n4_ := ge_ (w := w) hg; have n5_ := ge_ (w := w) hg; have n6_ := nl_ BK1.out hg; have n7_ := nr_ BK1.out hg; have n8_ := nl_ BK2.out hg; have n9_ := nr_ BK2.out hg; clear BK1; clear BK2; clear HB; have BK1 := n0_; have BK2 := n1_; have HB := n2_; have BK6 := n3_; have GW6 := n4_; have GE6 := n5_; have NB1_6 := n6_; have NB6_1 := n7_; have NB2_6 := n8_; have NB6_2 := n9_; clear n0_ n1_ n2_ n3_ n4_ n5_ n6_ n7_ n8_ n9_; clear hb hbox hg; have hnb40 := NB6_1.out; have hnc40 := NB1_6.out; have hnb41 := NB6_2.out; have hnc41 := NB2_6.out; obtain ⟨hcz42_0, hcz42_1, hcz42_2, hfz42_0, hfz42_1, hfz42_2⟩ := bc3_ BK6.out)))
     (try simp only [Act.put, List.setIfInBounds_toArray, List.set_cons_zero, List.set_cons_succ])
     go_cut [69] (fun v69 wc => ∃ (kq : Nat) (x69_35 : Bool), v69 = .bool x69_35 ∧ Aside0 (spec_MachineOk.j2 kq x5_2 x69_35 a0_0 l0_1 l1_0 l1_1 ((rd_T102 l1_1 x5_2).f0) ((rd_T102 l1_1 x5_2).f1) ((rd_T102 l1_1 x5_2).f2) = some r) ∧ Aside0 (kq ≤ k2) ∧ Aside0 (wc.heap[gb1]? = some (.cells #[.int .i64 a0_0, (.slice A0_1 l0_1.length c0_1)] 39 (0, 0))) ∧ Aside0 (wc.heap[gb2]? = some (.cells #[(.slice A1_0 l1_0.length c1_0), (.slice (some ad5) l1_1.length c1_1)] 54 (0, 0))) ∧ Aside0 (wc.heap[gb6]? = some (.cells #[.int .i64 ((rd_T102 l1_1 x5_2).f0), (.slice A5_1 ((rd_T102 l1_1 x5_2).f1).length c5_1), (.slice A5_2 ((rd_T102 l1_1 x5_2).f2).length c5_2)] 102 (0, 0))) ∧ Aside0 (Below w.heap.size w wc))
     case first =>
      have H := HC36.out
      clear HC36
      by_cases c43 : x5_2 < (l0_1.length : Int)
      rotate_left
      ·rw [if_neg c43] at H
       exact absurd H (by simp)
      rw [if_pos c43] at H
      have c43b0 : decide (x5_2 < (l0_1.length : Int)) = true := decide_eq_true c43
      clear c43
      (first | rw [c43b0] | (simp only [i64_w, i32_w]; rw [c43b0]) | skip)
      replace H := Option.bind_eq_some_iff.mp H
      obtain ⟨t8, A440, H⟩ := H
      replace H : (if t8 = true then (if (((rd_T102 l1_1 x5_2).f1).length : Int) = 4 then ((spec_BufOk.f k2 ((rd_T102 l1_1 x5_2).f2)).bind fun t9 => (spec_MachineOk.j2 k2 x5_2 (!t9) a0_0 l0_1 l1_0 l1_1 ((rd_T102 l1_1 x5_2).f0) ((rd_T102 l1_1 x5_2).f1) ((rd_T102 l1_1 x5_2).f2))) else (spec_MachineOk.j2 k2 x5_2 true a0_0 l0_1 l1_0 l1_1 ((rd_T102 l1_1 x5_2).f0) ((rd_T102 l1_1 x5_2).f1) ((rd_T102 l1_1 x5_2).f2))) else (spec_MachineOk.j2 k2 x5_2 true a0_0 l0_1 l1_0 l1_1 ((rd_T102 l1_1 x5_2).f0) ((rd_T102 l1_1 x5_2).f1) ((rd_T102 l1_1 x5_2).f2))) = some r := H
      have A44 := Aside0.mk A440
      clear A440
      by_cases c45 : t8 = true
      rotate_left
      ·replace c45 := Bool.eq_false_iff.mpr c45
       subst c45
       have H1 : (spec_MachineOk.j2 k2 x5_2 true a0_0 l0_1 l1_0 l1_1 ((rd_T102 l1_1 x5_2).f0) ((rd_T102 l1_1 x5_2).f1) ((rd_T102 l1_1 x5_2).f2)) = some r := by rw [if_neg (show ¬ (false = true) by decide)] at H; exact H
       clear H
       have H := H1
       clear H1
       have H' := Aside0.mk H
       clear H
       have hnb58 := NB6_1.out
       have hnc58 := NB1_6.out
       have hnb59 := NB6_2.out
       have hnc59 := NB2_6.out
       obtain ⟨hcz60_0, hcz60_1, hcz60_2, hfz60_0, hfz60_1, hfz60_2⟩ := bc3_ BK6.out
       have hnb61 := NB1_2.out
       have hnc61 := NB2_1.out
       obtain ⟨hcz62_0, hcz62_1, hfz62_0, hfz62_1⟩ := bc2_ BK1.out
       have p7 : 0 ≤ (x5_2 : Int) := od_
       have q7 : x5_2 < (l0_1.length : Int) := od_
       obtain ⟨ad7, A7_0, c7_0, e7, hx7_0, hl7_0, hi7_0⟩ := at_L4 HR0_1.out x5_2 p7 q7
       cases e7
       have hn7_0 : ad7.block ≠ gb6 := Nat.ne_of_lt (Nat.lt_of_lt_of_le (by have := World.block_lt_of_cell? _ _ hx7_0; first | rwa [add_block] at this | exact this) GW6.out)
       have hn7_1 : ad7.block ≠ gb6 := Nat.ne_of_lt (Nat.lt_of_lt_of_le (by have := World.block_lt_of_cell? _ _ hx7_0; first | rwa [add_block] at this | exact this) GW6.out)
       have hn7_2 : ad7.block ≠ gb6 := Nat.ne_of_lt (Nat.lt_of_lt_of_le (by have := World.block_lt_of_cell? _ _ hx7_0; first | rwa [add_block] at this | exact this) GW6.out)
       replace hx7_0 := (HB.out.cell (World.block_lt_of_cell? w _ hx7_0)).trans hx7_0
       have HR7_0 := Aside0.mk hi7_0
       have HC7_0 := Aside0.mk hl7_0
       clear hi7_0 hl7_0
       replace hx7_0 := (cell_far (p := ⟨gb6, 0, none⟩) (by first | (rw [add_block]; exact hn7_0) | (show (Addr.add _ _).block ≠ _; rw [add_block]; exact hn7_0) | exact hn7_0) (.int .i64 ((rd_T102 l1_1 x5_2).f0))).trans hx7_0
       replace hx7_0 := (cell_far (p := ⟨gb6, 1, none⟩) (by first | (rw [add_block]; exact hn7_1) | (show (Addr.add _ _).block ≠ _; rw [add_block]; exact hn7_1) | exact hn7_1) (.slice A5_1 ((rd_T102 l1_1 x5_2).f1).length c5_1)).trans hx7_0
       replace hx7_0 := (cell_far (p := ⟨gb6, 2, none⟩) (by first | (rw [add_block]; exact hn7_2) | (show (Addr.add _ _).block ≠ _; rw [add_block]; exact hn7_2) | exact hn7_2) (.slice A5_2 ((rd_T102 l1_1 x5_2).f2).length c5_2)).trans hx7_0
       (try have hy7_0 := fun (n_ : Nat) => (show (((((w39.drewN n_).setCell ⟨gb6, 0, none⟩ (.int .i64 ((rd_T102 l1_1 x5_2).f0))).setCell ⟨gb6, 1, none⟩ (.slice A5_1 ((rd_T102 l1_1 x5_2).f1).length c5_1)).setCell ⟨gb6, 2, none⟩ (.slice A5_2 ((rd_T102 l1_1 x5_2).f2).length c5_2))).cell? _ = some _ from hx7_0))
       clear hn7_0
       clear hn7_1
       clear hn7_2
       replace p7 := eq_true p7
       replace q7 := eq_true q7
       go_wp2_with (first | (go_at_call 101; (with_reducible refine (spec_l01In.calls ((rd_T102 l1_1 x5_2).f0) 0 ((rd_L4 l0_1 x5_2).length : Int) false _ A44.out).mono ?_); rintro e w' ⟨rfl, ⟨nd, rfl⟩⟩; (try first | exact ⟨rfl, _, World.drewN_drewN _ _ _⟩ | exact ⟨rfl, _, Eq.trans (World.drewN_drewN _ _ _) (congrArg (World.drewN _) (Nat.add_assoc _ _ _))⟩)))
       repeat (go_quiet (first | (go_at_call 101; (with_reducible refine (spec_l01In.calls ((rd_T102 l1_1 x5_2).f0) 0 ((rd_L4 l0_1 x5_2).length : Int) false _ A44.out).mono ?_); rintro e w' ⟨rfl, ⟨nd, rfl⟩⟩; (try first | exact ⟨rfl, _, World.drewN_drewN _ _ _⟩ | exact ⟨rfl, _, Eq.trans (World.drewN_drewN _ _ _) (congrArg (World.drewN _) (Nat.add_assoc _ _ _))⟩))); try go_wp2_with (first | (go_at_call 101; (with_reducible refine (spec_l01In.calls ((rd_T102 l1_1 x5_2).f0) 0 ((rd_L4 l0_1 x5_2).length : Int) false _ A44.out).mono ?_); rintro e w' ⟨rfl, ⟨nd, rfl⟩⟩; (try first | exact ⟨rfl, _, World.drewN_drewN _ _ _⟩ | exact ⟨rfl, _, Eq.trans (World.drewN_drewN _ _ _) (congrArg (World.drewN _) (Nat.add_assoc _ _ _))⟩))))
       go_meet
       case rel => exact ⟨_, (true), sd_, H', ⟨by have := HJ2.out; have := HK2.out; first | omega | exact Nat.le_refl _⟩, ⟨by (with_reducible repeat (first | refine blk_drewN ?_ _ | refine blk_drew ?_ | refine blk_alloc ?_ _)); refine blk_far ?_ NB1_6.out _; (with_reducible repeat (first | refine blk_drewN ?_ _ | refine blk_drew ?_ | refine blk_alloc ?_ _)); refine blk_far ?_ NB1_6.out _; (with_reducible repeat (first | refine blk_drewN ?_ _ | refine blk_drew ?_ | refine blk_alloc ?_ _)); refine blk_far ?_ NB1_6.out _; (with_reducible repeat (first | refine blk_drewN ?_ _ | refine blk_drew ?_ | refine blk_alloc ?_ _)); exact BK1.out⟩, ⟨by (with_reducible repeat (first | refine blk_drewN ?_ _ | refine blk_drew ?_ | refine blk_alloc ?_ _)); refine blk_far ?_ NB2_6.out _; (with_reducible repeat (first | refine blk_drewN ?_ _ | refine blk_drew ?_ | refine blk_alloc ?_ _)); refine blk_far ?_ NB2_6.out _; (with_reducible repeat (first | refine blk_drewN ?_ _ | refine blk_drew ?_ | refine blk_alloc ?_ _)); refine blk_far ?_ NB2_6.out _; (with_reducible repeat (first | refine blk_drewN ?_ _ | refine blk_drew ?_ | refine blk_alloc ?_ _)); exact BK2.out⟩, ⟨by (with_reducible repeat (first | refine blk_drewN ?_ _ | refine blk_drew ?_ | refine blk_alloc ?_ _)); refine blk_put (cs := #[.int .i64 ((rd_T102 l1_1 x5_2).f0), .slice A5_1 ((rd_T102 l1_1 x5_2).f1).length c5_1, .slice none 0 0]) ?_ 2 _ rfl; (with_reducible repeat (first | refine blk_drewN ?_ _ | refine blk_drew ?_ | refine blk_alloc ?_ _)); refine blk_put (cs := #[.int .i64 ((rd_T102 l1_1 x5_2).f0), .slice none 0 0, .slice none 0 0]) ?_ 1 _ rfl; (with_reducible repeat (first | refine blk_drewN ?_ _ | refine blk_drew ?_ | refine blk_alloc ?_ _)); refine blk_put (cs := #[.int .i64 0, .slice none 0 0, .slice none 0 0]) ?_ 0 _ rfl; (with_reducible repeat (first | refine blk_drewN ?_ _ | refine blk_drew ?_ | refine blk_alloc ?_ _)); exact BK6.out⟩, ⟨bw_⟩⟩
      subst c45
      have H1 : (if (((rd_T102 l1_1 x5_2).f1).length : Int) = 4 then ((spec_BufOk.f k2 ((rd_T102 l1_1 x5_2).f2)).bind fun t9 => (spec_MachineOk.j2 k2 x5_2 (!t9) a0_0 l0_1 l1_0 l1_1 ((rd_T102 l1_1 x5_2).f0) ((rd_T102 l1_1 x5_2).f1) ((rd_T102 l1_1 x5_2).f2))) else (spec_MachineOk.j2 k2 x5_2 true a0_0 l0_1 l1_0 l1_1 ((rd_T102 l1_1 x5_2).f0) ((rd_T102 l1_1 x5_2).f1) ((rd_T102 l1_1 x5_2).f2))) = some r := by rw [if_pos rfl] at H; exact H
      clear H
      have H := H1
      clear H1
      by_cases c46 : (((rd_T102 l1_1 x5_2).f1).length : Int) = 4
      rotate_left
      ·rw [if_neg c46] at H
       have c46b0 : ((((rd_T102 l1_1 x5_2).f1).length : Int) == 4) = false := beq_eq_false_iff_ne.mpr c46
       have c46b1 : ((((rd_T102 l1_1 x5_2).f1).length : Int) != 4) = true := bne_iff_ne.mpr c46
       have H' := Aside0.mk H
       clear H
       have hnb53 := NB6_1.out
       have hnc53 := NB1_6.out
       have hnb54 := NB6_2.out
       have hnc54 := NB2_6.out
       obtain ⟨hcz55_0, hcz55_1, hcz55_2, hfz55_0, hfz55_1, hfz55_2⟩ := bc3_ BK6.out
       have hnb56 := NB1_2.out
       have hnc56 := NB2_1.out
       obtain ⟨hcz57_0, hcz57_1, hfz57_0, hfz57_1⟩ := bc2_ BK1.out
       have p7 : 0 ≤ (x5_2 : Int) := od_
       have q7 : x5_2 < (l0_1.length : Int) := od_
       obtain ⟨ad7, A7_0, c7_0, e7, hx7_0, hl7_0, hi7_0⟩ := at_L4 HR0_1.out x5_2 p7 q7
       cases e7
       have hn7_0 : ad7.block ≠ gb6 := Nat.ne_of_lt (Nat.lt_of_lt_of_le (by have := World.block_lt_of_cell? _ _ hx7_0; first | rwa [add_block] at this | exact this) GW6.out)
       have hn7_1 : ad7.block ≠ gb6 := Nat.ne_of_lt (Nat.lt_of_lt_of_le (by have := World.block_lt_of_cell? _ _ hx7_0; first | rwa [add_block] at this | exact this) GW6.out)
       have hn7_2 : ad7.block ≠ gb6 := Nat.ne_of_lt (Nat.lt_of_lt_of_le (by have := World.block_lt_of_cell? _ _ hx7_0; first | rwa [add_block] at this | exact this) GW6.out)
       replace hx7_0 := (HB.out.cell (World.block_lt_of_cell? w _ hx7_0)).trans hx7_0
       have HR7_0 := Aside0.mk hi7_0
       have HC7_0 := Aside0.mk hl7_0
       clear hi7_0 hl7_0
       replace hx7_0 := (cell_far (p := ⟨gb6, 0, none⟩) (by first | (rw [add_block]; exact hn7_0) | (show (Addr.add _ _).block ≠ _; rw [add_block]; exact hn7_0) | exact hn7_0) (.int .i64 ((rd_T102 l1_1 x5_2).f0))).trans hx7_0
       replace hx7_0 := (cell_far (p := ⟨gb6, 1, none⟩) (by first | (rw [add_block]; exact hn7_1) | (show (Addr.add _ _).block ≠ _; rw [add_block]; exact hn7_1) | exact hn7_1) (.slice A5_1 ((rd_T102 l1_1 x5_2).f1).length c5_1)).trans hx7_0
       replace hx7_0 := (cell_far (p := ⟨gb6, 2, none⟩) (by first | (rw [add_block]; exact hn7_2) | (show (Addr.add _ _).block ≠ _; rw [add_block]; exact hn7_2) | exact hn7_2) (.slice A5_2 ((rd_T102 l1_1 x5_2).f2).length c5_2)).trans hx7_0
       (try have hy7_0 := fun (n_ : Nat) => (show (((((w39.drewN n_).setCell ⟨gb6, 0, none⟩ (.int .i64 ((rd_T102 l1_1 x5_2).f0))).setCell ⟨gb6, 1, none⟩ (.slice A5_1 ((rd_T102 l1_1 x5_2).f1).length c5_1)).setCell ⟨gb6, 2, none⟩ (.slice A5_2 ((rd_T102 l1_1 x5_2).f2).length c5_2))).cell? _ = some _ from hx7_0))
       clear hn7_0
       clear hn7_1
       clear hn7_2
       replace p7 := eq_true p7
       replace q7 := eq_true q7
       go_wp2_with (first | (go_at_call 101; (with_reducible refine (spec_l01In.calls ((rd_T102 l1_1 x5_2).f0) 0 ((rd_L4 l0_1 x5_2).length : Int) true _ A44.out).mono ?_); rintro e w' ⟨rfl, ⟨nd, rfl⟩⟩; (try first | exact ⟨rfl, _, World.drewN_drewN _ _ _⟩ | exact ⟨rfl, _, Eq.trans (World.drewN_drewN _ _ _) (congrArg (World.drewN _) (Nat.add_assoc _ _ _))⟩)))
       repeat (go_quiet (first | (go_at_call 101; (with_reducible refine (spec_l01In.calls ((rd_T102 l1_1 x5_2).f0) 0 ((rd_L4 l0_1 x5_2).length : Int) true _ A44.out).mono ?_); rintro e w' ⟨rfl, ⟨nd, rfl⟩⟩; (try first | exact ⟨rfl, _, World.drewN_drewN _ _ _⟩ | exact ⟨rfl, _, Eq.trans (World.drewN_drewN _ _ _) (congrArg (World.drewN _) (Nat.add_assoc _ _ _))⟩))); try go_wp2_with (first | (go_at_call 101; (with_reducible refine (spec_l01In.calls ((rd_T102 l1_1 x5_2).f0) 0 ((rd_L4 l0_1 x5_2).length : Int) true _ A44.out).mono ?_); rintro e w' ⟨rfl, ⟨nd, rfl⟩⟩; (try first | exact ⟨rfl, _, World.drewN_drewN _ _ _⟩ | exact ⟨rfl, _, Eq.trans (World.drewN_drewN _ _ _) (congrArg (World.drewN _) (Nat.add_assoc _ _ _))⟩))))
       go_meet
       case rel => exact ⟨_, (true), sd_, H', ⟨by have := HJ2.out; have := HK2.out; first | omega | exact Nat.le_refl _⟩, ⟨by (with_reducible repeat (first | refine blk_drewN ?_ _ | refine blk_drew ?_ | refine blk_alloc ?_ _)); refine blk_far ?_ NB1_6.out _; (with_reducible repeat (first | refine blk_drewN ?_ _ | refine blk_drew ?_ | refine blk_alloc ?_ _)); refine blk_far ?_ NB1_6.out _; (with_reducible repeat (first | refine blk_drewN ?_ _ | refine blk_drew ?_ | refine blk_alloc ?_ _)); refine blk_far ?_ NB1_6.out _; (with_reducible repeat (first | refine blk_drewN ?_ _ | refine blk_drew ?_ | refine blk_alloc ?_ _)); exact BK1.out⟩, ⟨by (with_reducible repeat (first | refine blk_drewN ?_ _ | refine blk_drew ?_ | refine blk_alloc ?_ _)); refine blk_far ?_ NB2_6.out _; (with_reducible repeat (first | refine blk_drewN ?_ _ | refine blk_drew ?_ | refine blk_alloc ?_ _)); refine blk_far ?_ NB2_6.out _; (with_reducible repeat (first | refine blk_drewN ?_ _ | refine blk_drew ?_ | refine blk_alloc ?_ _)); refine blk_far ?_ NB2_6.out _; (with_reducible repeat (first | refine blk_drewN ?_ _ | refine blk_drew ?_ | refine blk_alloc ?_ _)); exact BK2.out⟩, ⟨by (with_reducible repeat (first | refine blk_drewN ?_ _ | refine blk_drew ?_ | refine blk_alloc ?_ _)); refine blk_put (cs := #[.int .i64 ((rd_T102 l1_1 x5_2).f0), .slice A5_1 ((rd_T102 l1_1 x5_2).f1).length c5_1, .slice none 0 0]) ?_ 2 _ rfl; (with_reducible repeat (first | refine blk_drewN ?_ _ | refine blk_drew ?_ | refine blk_alloc ?_ _)); refine blk_put (cs := #[.int .i64 ((rd_T102 l1_1 x5_2).f0), .slice none 0 0, .slice none 0 0]) ?_ 1 _ rfl; (with_reducible repeat (first | refine blk_drewN ?_ _ | refine blk_drew ?_ | refine blk_alloc ?_ _)); refine blk_put (cs := #[.int .i64 0, .slice none 0 0, .slice none 0 0]) ?_ 0 _ rfl; (with_reducible repeat (first | refine blk_drewN ?_ _ | refine blk_drew ?_ | refine blk_alloc ?_ _)); exact BK6.out⟩, ⟨bw_⟩⟩
      rw [if_pos c46] at H
      have c46b0 : ((((rd_T102 l1_1 x5_2).f1).length : Int) == 4) = true := beq_iff_eq.mpr c46
      have c46b1 : ((((rd_T102 l1_1 x5_2).f1).length : Int) != 4) = false := bne_eq_false_iff_eq.mpr c46
      clear c46
      replace H := Option.bind_eq_some_iff.mp H
      obtain ⟨t9, A470, H⟩ := H
      replace H : (spec_MachineOk.j2 k2 x5_2 (!t9) a0_0 l0_1 l1_0 l1_1 ((rd_T102 l1_1 x5_2).f0) ((rd_T102 l1_1 x5_2).f1) ((rd_T102 l1_1 x5_2).f2)) = some r := H
      have A47 := Aside0.mk A470
      clear A470
      have H' := Aside0.mk H
      clear H
      have hnb48 := NB6_1.out
      have hnc48 := NB1_6.out
      have hnb49 := NB6_2.out
      have hnc49 := NB2_6.out
      obtain ⟨hcz50_0, hcz50_1, hcz50_2, hfz50_0, hfz50_1, hfz50_2⟩ := bc3_ BK6.out
      have hnb51 := NB1_2.out
      have hnc51 := NB2_1.out
      obtain ⟨hcz52_0, hcz52_1, hfz52_0, hfz52_1⟩ := bc2_ BK1.out
      have p7 : 0 ≤ (x5_2 : Int) := od_
      have q7 : x5_2 < (l0_1.length : Int) := od_
      obtain ⟨ad7, A7_0, c7_0, e7, hx7_0, hl7_0, hi7_0⟩ := at_L4 HR0_1.out x5_2 p7 q7
      cases e7
      have hn7_0 : ad7.block ≠ gb6 := Nat.ne_of_lt (Nat.lt_of_lt_of_le (by have := World.block_lt_of_cell? _ _ hx7_0; first | rwa [add_block] at this | exact this) GW6.out)
      have hn7_1 : ad7.block ≠ gb6 := Nat.ne_of_lt (Nat.lt_of_lt_of_le (by have := World.block_lt_of_cell? _ _ hx7_0; first | rwa [add_block] at this | exact this) GW6.out)
      have hn7_2 : ad7.block ≠ gb6 := Nat.ne_of_lt (Nat.lt_of_lt_of_le (by have := World.block_lt_of_cell? _ _ hx7_0; first | rwa [add_block] at this | exact this) GW6.out)
      replace hx7_0 := (HB.out.cell (World.block_lt_of_cell? w _ hx7_0)).trans hx7_0
      have HR7_0 := Aside0.mk hi7_0
      have HC7_0 := Aside0.mk hl7_0
      clear hi7_0 hl7_0
      replace hx7_0 := (cell_far (p := ⟨gb6, 0, none⟩) (by first | (rw [add_block]; exact hn7_0) | (show (Addr.add _ _).block ≠ _; rw [add_block]; exact hn7_0) | exact hn7_0) (.int .i64 ((rd_T102 l1_1 x5_2).f0))).trans hx7_0
      replace hx7_0 := (cell_far (p := ⟨gb6, 1, none⟩) (by first | (rw [add_block]; exact hn7_1) | (show (Addr.add _ _).block ≠ _; rw [add_block]; exact hn7_1) | exact hn7_1) (.slice A5_1 ((rd_T102 l1_1 x5_2).f1).length c5_1)).trans hx7_0
      replace hx7_0 := (cell_far (p := ⟨gb6, 2, none⟩) (by first | (rw [add_block]; exact hn7_2) | (show (Addr.add _ _).block ≠ _; rw [add_block]; exact hn7_2) | exact hn7_2) (.slice A5_2 ((rd_T102 l1_1 x5_2).f2).length c5_2)).trans hx7_0
      (try have hy7_0 := fun (n_ : Nat) => (show (((((w39.drewN n_).setCell ⟨gb6, 0, none⟩ (.int .i64 ((rd_T102 l1_1 x5_2).f0))).setCell ⟨gb6, 1, none⟩ (.slice A5_1 ((rd_T102 l1_1 x5_2).f1).length c5_1)).setCell ⟨gb6, 2, none⟩ (.slice A5_2 ((rd_T102 l1_1 x5_2).f2).length c5_2))).cell? _ = some _ from hx7_0))
      clear hn7_0
      clear hn7_1
      clear hn7_2
      replace p7 := eq_true p7
      replace q7 := eq_true q7
      go_wp2_with (first | (go_at_call 101; (with_reducible refine (spec_l01In.calls ((rd_T102 l1_1 x5_2).f0) 0 ((rd_L4 l0_1 x5_2).length : Int) true _ A44.out).mono ?_); rintro e w' ⟨rfl, ⟨nd, rfl⟩⟩; (try first | exact ⟨rfl, _, World.drewN_drewN _ _ _⟩ | exact ⟨rfl, _, Eq.trans (World.drewN_drewN _ _ _) (congrArg (World.drewN _) (Nat.add_assoc _ _ _))⟩)) | (go_at_call 120; (with_reducible refine (spec_BufOk.calls k2 _ _ ((rd_T102 l1_1 x5_2).f2) t9 _ ?side1 ?side2 A47.out).mono ?_); (case side1 => exact Kd.C_below HR5_2.out bw_); (case side2 => exact HC5_2.out); rintro e w' ⟨rfl, ⟨nd, rfl⟩⟩; (try first | exact ⟨rfl, _, World.drewN_drewN _ _ _⟩ | exact ⟨rfl, _, Eq.trans (World.drewN_drewN _ _ _) (congrArg (World.drewN _) (Nat.add_assoc _ _ _))⟩)))
      repeat (go_quiet (first | (go_at_call 101; (with_reducible refine (spec_l01In.calls ((rd_T102 l1_1 x5_2).f0) 0 ((rd_L4 l0_1 x5_2).length : Int) true _ A44.out).mono ?_); rintro e w' ⟨rfl, ⟨nd, rfl⟩⟩; (try first | exact ⟨rfl, _, World.drewN_drewN _ _ _⟩ | exact ⟨rfl, _, Eq.trans (World.drewN_drewN _ _ _) (congrArg (World.drewN _) (Nat.add_assoc _ _ _))⟩)) | (go_at_call 120; (with_reducible refine (spec_BufOk.calls k2 _ _ ((rd_T102 l1_1 x5_2).f2) t9 _ ?side1 ?side2 A47.out).mono ?_); (case side1 => exact Kd.C_below HR5_2.out bw_); (case side2 => exact HC5_2.out); rintro e w' ⟨rfl, ⟨nd, rfl⟩⟩; (try first | exact ⟨rfl, _, World.drewN_drewN _ _ _⟩ | exact ⟨rfl, _, Eq.trans (World.drewN_drewN _ _ _) (congrArg (World.drewN _) (Nat.add_assoc _ _ _))⟩))); try go_wp2_with (first | (go_at_call 101; (with_reducible refine (spec_l01In.calls ((rd_T102 l1_1 x5_2).f0) 0 ((rd_L4 l0_1 x5_2).length : Int) true _ A44.out).mono ?_); rintro e w' ⟨rfl, ⟨nd, rfl⟩⟩; (try first | exact ⟨rfl, _, World.drewN_drewN _ _ _⟩ | exact ⟨rfl, _, Eq.trans (World.drewN_drewN _ _ _) (congrArg (World.drewN _) (Nat.add_assoc _ _ _))⟩)) | (go_at_call 120; (with_reducible refine (spec_BufOk.calls k2 _ _ ((rd_T102 l1_1 x5_2).f2) t9 _ ?side1 ?side2 A47.out).mono ?_); (case side1 => exact Kd.C_below HR5_2.out bw_); (case side2 => exact HC5_2.out); rintro e w' ⟨rfl, ⟨nd, rfl⟩⟩; (try first | exact ⟨rfl, _, World.drewN_drewN _ _ _⟩ | exact ⟨rfl, _, Eq.trans (World.drewN_drewN _ _ _) (congrArg (World.drewN _) (Nat.add_assoc _ _ _))⟩))))
      go_meet
      case rel => exact ⟨_, (!t9), sd_, H', ⟨by have := HJ2.out; have := HK2.out; first | omega | exact Nat.le_refl _⟩, ⟨by (with_reducible repeat (first | refine blk_drewN ?_ _ | refine blk_drew ?_ | refine blk_alloc ?_ _)); refine blk_far ?_ NB1_6.out _; (with_reducible repeat (first | refine blk_drewN ?_ _ | refine blk_drew ?_ | refine blk_alloc ?_ _)); refine blk_far ?_ NB1_6.out _; (with_reducible repeat (first | refine blk_drewN ?_ _ | refine blk_drew ?_ | refine blk_alloc ?_ _)); refine blk_far ?_ NB1_6.out _; (with_reducible repeat (first | refine blk_drewN ?_ _ | refine blk_drew ?_ | refine blk_alloc ?_ _)); exact BK1.out⟩, ⟨by (with_reducible repeat (first | refine blk_drewN ?_ _ | refine blk_drew ?_ | refine blk_alloc ?_ _)); refine blk_far ?_ NB2_6.out _; (with_reducible repeat (first | refine blk_drewN ?_ _ | refine blk_drew ?_ | refine blk_alloc ?_ _)); refine blk_far ?_ NB2_6.out _; (with_reducible repeat (first | refine blk_drewN ?_ _ | refine blk_drew ?_ | refine blk_alloc ?_ _)); refine blk_far ?_ NB2_6.out _; (with_reducible repeat (first | refine blk_drewN ?_ _ | refine blk_drew ?_ | refine blk_alloc ?_ _)); exact BK2.out⟩, ⟨by (with_reducible repeat (first | refine blk_drewN ?_ _ | refine blk_drew ?_ | refine blk_alloc ?_ _)); refine blk_put (cs := #[.int .i64 ((rd_T102 l1_1 x5_2).f0), .slice A5_1 ((rd_T102 l1_1 x5_2).f1).length c5_1, .slice none 0 0]) ?_ 2 _ rfl; (with_reducible repeat (first | refine blk_drewN ?_ _ | refine blk_drew ?_ | refine blk_alloc ?_ _)); refine blk_put (cs := #[.int .i64 ((rd_T102 l1_1 x5_2).f0), .slice none 0 0, .slice none 0 0]) ?_ 1 _ rfl; (with_reducible repeat (first | refine blk_drewN ?_ _ | refine blk_drew ?_ | refine blk_alloc ?_ _)); refine blk_put (cs := #[.int .i64 0, .slice none 0 0, .slice none 0 0]) ?_ 0 _ rfl; (with_reducible repeat (first | refine blk_drewN ?_ _ | refine blk_drew ?_ | refine blk_alloc ?_ _)); exact BK6.out⟩, ⟨bw_⟩⟩
     case rest =>
      clear HC36
      try clear c1
      try clear c2
      try clear p2
      try clear c3
      try clear c4
      try clear c5
      try clear p5
      try clear q5
      try clear hx5
      try clear c6
      try clear c7
      try clear p7
      try clear q7
      try clear hx7
      try clear c9
      try clear c10
      try clear c10b0
      try clear c10b1
      try clear c11
      try clear c18
      try clear c25
      try clear c30
      try clear c33
      try clear c34
      try clear c34b0
      try clear c35
      try clear c35b0
      try clear c37
      try clear c40
      try clear c41
      try clear c43
      try clear c43b0
      try clear c45
      try clear c46
      try clear c46b0
      try clear c46b1
      try clear c48
      try clear c49
      try clear c51
      try clear c53
      try clear c54
      try clear c56
      try clear c58
      try clear c59
      try clear c61
      try clear hcz12_0 hcz12_1
      try clear hcz14_0 hcz14_1
      try clear hcz16_0 hcz16_1
      try clear hcz17_0 hcz17_1
      try clear hcz19_0 hcz19_1
      try clear hcz21_0 hcz21_1
      try clear hcz23_0 hcz23_1
      try clear hcz24_0 hcz24_1
      try clear hcz26_0 hcz26_1
      try clear hcz28_0 hcz28_1
      try clear hcz31_0 hcz31_1
      try clear hcz38_0 hcz38_1
      try clear hcz42_0 hcz42_1 hcz42_2
      try clear hcz50_0 hcz50_1 hcz50_2
      try clear hcz52_0 hcz52_1
      try clear hcz55_0 hcz55_1 hcz55_2
      try clear hcz57_0 hcz57_1
      try clear hcz60_0 hcz60_1 hcz60_2
      try clear hcz62_0 hcz62_1
      try clear hfz12_0 hfz12_1
      try clear hfz14_0 hfz14_1
      try clear hfz16_0 hfz16_1
      try clear hfz17_0 hfz17_1
      try clear hfz19_0 hfz19_1
      try clear hfz21_0 hfz21_1
      try clear hfz23_0 hfz23_1
      try clear hfz24_0 hfz24_1
      try clear hfz26_0 hfz26_1
      try clear hfz28_0 hfz28_1
      try clear hfz31_0 hfz31_1
      try clear hfz38_0 hfz38_1
      try clear hfz42_0 hfz42_1 hfz42_2
      try clear hfz50_0 hfz50_1 hfz50_2
      try clear hfz52_0 hfz52_1
      try clear hfz55_0 hfz55_1 hfz55_2
      try clear hfz57_0 hfz57_1
      try clear hfz60_0 hfz60_1 hfz60_2
      try clear hfz62_0 hfz62_1
      try clear hx5_0
      try clear hx5_1
      try clear hx5_2
      try clear hx7_0
      try clear p2
      try clear p5
      try clear p7
      try clear q5
      try clear q7
      obtain ⟨kq, x69_35, rfl, HA, HJ35, BK1, BK2, BK6, HB⟩ := hcut
      cases kq with
      | zero => exact absurd HA.out (by simp [spec_MachineOk.j2])
      | succ kj35 =>
       have H := HA.out
       clear HA
       simp only [spec_MachineOk.j2] at H
       by_cases c63 : x69_35 = true
       ·subst c63
        have H1 : (some false) = some r := by rw [if_pos rfl] at H; exact H
        clear H
        have H := H1
        clear H1
        obtain rfl := Option.some.inj H
        go_wp2
        repeat (go_quiet (fail); try go_wp2)
        go_ret
        exact ⟨rr_, bw_⟩
       replace c63 := Bool.eq_false_iff.mpr c63
       subst c63
       have H1 : (spec_MachineOk.l1 kj35 x5_2 0 a0_0 l0_1 l1_0 l1_1 ((rd_T102 l1_1 x5_2).f0) ((rd_T102 l1_1 x5_2).f1) ((rd_T102 l1_1 x5_2).f2)) = some r := by rw [if_neg (show ¬ (false = true) by decide)] at H; exact H
       clear H
       have H := H1
       clear H1
       have H' := Aside0.mk H
       clear H
       go_wp2
       repeat (go_quiet (fail); try go_wp2)
       go_loopg [7] kj35 (fun kq v7 w' => ∃ (x7_4 : Int), v7 = .int .i64 x7_4 ∧ Aside0 (spec_MachineOk.l1 kq x5_2 x7_4 a0_0 l0_1 l1_0 l1_1 ((rd_T102 l1_1 x5_2).f0) ((rd_T102 l1_1 x5_2).f1) ((rd_T102 l1_1 x5_2).f2) = some r) ∧ Aside0 (kq ≤ kj35) ∧ Aside0 (w'.heap[gb1]? = some (.cells #[.int .i64 a0_0, (.slice A0_1 l0_1.length c0_1)] 39 (0, 0))) ∧ Aside0 (w'.heap[gb2]? = some (.cells #[(.slice A1_0 l1_0.length c1_0), (.slice (some ad5) l1_1.length c1_1)] 54 (0, 0))) ∧ Aside0 (w'.heap[gb6]? = some (.cells #[.int .i64 ((rd_T102 l1_1 x5_2).f0), (.slice A5_1 ((rd_T102 l1_1 x5_2).f1).length c5_1), (.slice A5_2 ((rd_T102 l1_1 x5_2).f2).length c5_2)] 102 (0, 0))) ∧ Aside0 (Below w.heap.size w w'))
       case atStart => exact ⟨(0), sd_, H', ⟨Nat.le_refl _⟩, ⟨bk_⟩, ⟨bk_⟩, ⟨bk_⟩, ⟨bw_⟩⟩
       case round =>
        clear H'
        try clear c1
        try clear c2
        try clear p2
        try clear c3
        try clear c4
        try clear c5
        try clear p5
        try clear q5
        try clear hx5
        try clear c6
        try clear c7
        try clear p7
        try clear q7
        try clear hx7
        try clear c9
        try clear c10
        try clear c10b0
        try clear c10b1
        try clear c11
        try clear c18
        try clear c25
        try clear c30
        try clear c33
        try clear c34
        try clear c34b0
        try clear c35
        try clear c35b0
        try clear c37
        try clear c40
        try clear c41
        try clear c43
        try clear c43b0
        try clear c45
        try clear c46
        try clear c46b0
        try clear c46b1
        try clear c48
        try clear c49
        try clear c51
        try clear c53
        try clear c54
        try clear c56
        try clear c58
        try clear c59
        try clear c61
        try clear c63
        try clear hcz12_0 hcz12_1
        try clear hcz14_0 hcz14_1
        try clear hcz16_0 hcz16_1
        try clear hcz17_0 hcz17_1
        try clear hcz19_0 hcz19_1
        try clear hcz21_0 hcz21_1
        try clear hcz23_0 hcz23_1
        try clear hcz24_0 hcz24_1
        try clear hcz26_0 hcz26_1
        try clear hcz28_0 hcz28_1
        try clear hcz31_0 hcz31_1
        try clear hcz38_0 hcz38_1
        try clear hcz42_0 hcz42_1 hcz42_2
        try clear hcz50_0 hcz50_1 hcz50_2
        try clear hcz52_0 hcz52_1
        try clear hcz55_0 hcz55_1 hcz55_2
        try clear hcz57_0 hcz57_1
        try clear hcz60_0 hcz60_1 hcz60_2
        try clear hcz62_0 hcz62_1
        try clear hfz12_0 hfz12_1
        try clear hfz14_0 hfz14_1
        try clear hfz16_0 hfz16_1
        try clear hfz17_0 hfz17_1
        try clear hfz19_0 hfz19_1
        try clear hfz21_0 hfz21_1
        try clear hfz23_0 hfz23_1
        try clear hfz24_0 hfz24_1
        try clear hfz26_0 hfz26_1
        try clear hfz28_0 hfz28_1
        try clear hfz31_0 hfz31_1
        try clear hfz38_0 hfz38_1
        try clear hfz42_0 hfz42_1 hfz42_2
        try clear hfz50_0 hfz50_1 hfz50_2
        try clear hfz52_0 hfz52_1
        try clear hfz55_0 hfz55_1 hfz55_2
        try clear hfz57_0 hfz57_1
        try clear hfz60_0 hfz60_1 hfz60_2
        try clear hfz62_0 hfz62_1
        try clear hx5_0
        try clear hx5_1
        try clear hx5_2
        try clear hx7_0
        try clear p2
        try clear p5
        try clear p7
        try clear q5
        try clear q7
        obtain ⟨x7_4, rfl, HA, HK4, BK1, BK2, BK6, HB⟩ := hrel
        cases gk with
        | zero => exact absurd HA.out (by simp [spec_MachineOk.l1])
        | succ k4 =>
         have H := HA.out
         clear HA
         simp only [spec_MachineOk.l1] at H
         by_cases c64 : x7_4 < (((rd_T102 l1_1 x5_2).f1).length : Int)
         ·rw [if_pos c64] at H
          have c64b0 : decide (x7_4 < (((rd_T102 l1_1 x5_2).f1).length : Int)) = true := decide_eq_true c64
          clear c64
          by_cases c65 : 0 ≤ x7_4
          rotate_left
          ·rw [if_neg c65] at H
           exact absurd H (by simp)
          rw [if_pos c65] at H
          have c65b0 : decide (0 ≤ x7_4) = true := decide_eq_true c65
          clear c65
          replace H := Option.bind_eq_some_iff.mp H
          obtain ⟨t11, A660, H⟩ := H
          replace H : (if t11 = true then (spec_MachineOk.l1 k4 x5_2 (wrap64 (x7_4 + 1)) a0_0 l0_1 l1_0 l1_1 ((rd_T102 l1_1 x5_2).f0) ((rd_T102 l1_1 x5_2).f1) ((rd_T102 l1_1 x5_2).f2)) else (some false)) = some r := H
          have A66 := Aside0.mk A660
          clear A660
          by_cases c67 : t11 = true
          rotate_left
          ·replace c67 := Bool.eq_false_iff.mpr c67
           subst c67
           have H1 : (some false) = some r := by rw [if_neg (show ¬ (false = true) by decide)] at H; exact H
           clear H
           have H := H1
           clear H1
           obtain rfl := Option.some.inj H
           have hnb71 := NB6_1.out
           have hnc71 := NB1_6.out
           have hnb72 := NB6_2.out
           have hnc72 := NB2_6.out
           obtain ⟨hcz73_0, hcz73_1, hcz73_2, hfz73_0, hfz73_1, hfz73_2⟩ := bc3_ BK6.out
           have p10 : 0 ≤ (x7_4 : Int) := od_
           have q10 : x7_4 < (((rd_T102 l1_1 x5_2).f1).length : Int) := od_
           obtain ⟨ad10, e10, hx10_0⟩ := Kd.at_int HR5_1.out x7_4 p10 q10
           cases e10
           replace hx10_0 := (HB.out.cell (World.block_lt_of_cell? w _ hx10_0)).trans hx10_0
           replace p10 := eq_true p10
           replace q10 := eq_true q10
           go_wp2_with (first | (go_at_call 121; (with_reducible refine (spec_l01Value.calls (rd ((rd_T102 l1_1 x5_2).f1) x7_4) false _ A66.out).mono ?_); rintro e w' ⟨rfl, ⟨nd, rfl⟩⟩; (try first | exact ⟨rfl, _, World.drewN_drewN _ _ _⟩ | exact ⟨rfl, _, Eq.trans (World.drewN_drewN _ _ _) (congrArg (World.drewN _) (Nat.add_assoc _ _ _))⟩)))
           repeat (go_quiet (first | (go_at_call 121; (with_reducible refine (spec_l01Value.calls (rd ((rd_T102 l1_1 x5_2).f1) x7_4) false _ A66.out).mono ?_); rintro e w' ⟨rfl, ⟨nd, rfl⟩⟩; (try first | exact ⟨rfl, _, World.drewN_drewN _ _ _⟩ | exact ⟨rfl, _, Eq.trans (World.drewN_drewN _ _ _) (congrArg (World.drewN _) (Nat.add_assoc _ _ _))⟩))); try go_wp2_with (first | (go_at_call 121; (with_reducible refine (spec_l01Value.calls (rd ((rd_T102 l1_1 x5_2).f1) x7_4) false _ A66.out).mono ?_); rintro e w' ⟨rfl, ⟨nd, rfl⟩⟩; (try first | exact ⟨rfl, _, World.drewN_drewN _ _ _⟩ | exact ⟨rfl, _, Eq.trans (World.drewN_drewN _ _ _) (congrArg (World.drewN _) (Nat.add_assoc _ _ _))⟩))))
           go_ret
           exact ⟨rr_, bw_⟩
          subst c67
          have H1 : (spec_MachineOk.l1 k4 x5_2 (wrap64 (x7_4 + 1)) a0_0 l0_1 l1_0 l1_1 ((rd_T102 l1_1 x5_2).f0) ((rd_T102 l1_1 x5_2).f1) ((rd_T102 l1_1 x5_2).f2)) = some r := by rw [if_pos rfl] at H; exact H
          clear H
          have H := H1
          clear H1
          have H' := Aside0.mk H
          clear H
          have hnb68 := NB6_1.out
          have hnc68 := NB1_6.out
          have hnb69 := NB6_2.out
          have hnc69 := NB2_6.out
          obtain ⟨hcz70_0, hcz70_1, hcz70_2, hfz70_0, hfz70_1, hfz70_2⟩ := bc3_ BK6.out
          have p10 : 0 ≤ (x7_4 : Int) := od_
          have q10 : x7_4 < (((rd_T102 l1_1 x5_2).f1).length : Int) := od_
          obtain ⟨ad10, e10, hx10_0⟩ := Kd.at_int HR5_1.out x7_4 p10 q10
          cases e10
          replace hx10_0 := (HB.out.cell (World.block_lt_of_cell? w _ hx10_0)).trans hx10_0
          replace p10 := eq_true p10
          replace q10 := eq_true q10
          go_wp2_with (first | (go_at_call 121; (with_reducible refine (spec_l01Value.calls (rd ((rd_T102 l1_1 x5_2).f1) x7_4) true _ A66.out).mono ?_); rintro e w' ⟨rfl, ⟨nd, rfl⟩⟩; (try first | exact ⟨rfl, _, World.drewN_drewN _ _ _⟩ | exact ⟨rfl, _, Eq.trans (World.drewN_drewN _ _ _) (congrArg (World.drewN _) (Nat.add_assoc _ _ _))⟩)))
          repeat (go_quiet (first | (go_at_call 121; (with_reducible refine (spec_l01Value.calls (rd ((rd_T102 l1_1 x5_2).f1) x7_4) true _ A66.out).mono ?_); rintro e w' ⟨rfl, ⟨nd, rfl⟩⟩; (try first | exact ⟨rfl, _, World.drewN_drewN _ _ _⟩ | exact ⟨rfl, _, Eq.trans (World.drewN_drewN _ _ _) (congrArg (World.drewN _) (Nat.add_assoc _ _ _))⟩))); try go_wp2_with (first | (go_at_call 121; (with_reducible refine (spec_l01Value.calls (rd ((rd_T102 l1_1 x5_2).f1) x7_4) true _ A66.out).mono ?_); rintro e w' ⟨rfl, ⟨nd, rfl⟩⟩; (try first | exact ⟨rfl, _, World.drewN_drewN _ _ _⟩ | exact ⟨rfl, _, Eq.trans (World.drewN_drewN _ _ _) (congrArg (World.drewN _) (Nat.add_assoc _ _ _))⟩))))
          go_roundg k4
          case measure => have := HJ2.out; have := HK2.out; have := HJ35.out; have := HK4.out; omega
          case rel => exact ⟨(wrap64 (x7_4 + 1)), sd_, H', ⟨by have := HJ2.out; have := HK2.out; have := HJ35.out; have := HK4.out; omega⟩, ⟨bk_⟩, ⟨bk_⟩, ⟨bk_⟩, ⟨bw_⟩⟩
         rw [if_neg c64] at H
         have c64b0 : decide (x7_4 < (((rd_T102 l1_1 x5_2).f1).length : Int)) = false := decide_eq_false c64
         clear c64
         have H' := Aside0.mk H
         clear H
         have hnb74 := NB6_1.out
         have hnc74 := NB1_6.out
         have hnb75 := NB6_2.out
         have hnc75 := NB2_6.out
         obtain ⟨hcz76_0, hcz76_1, hcz76_2, hfz76_0, hfz76_1, hfz76_2⟩ := bc3_ BK6.out
         go_wp2
         repeat (go_quiet (fail); try go_wp2)
         go_loopg [8] k4 (fun kq v8 w' => ∃ (x8_5 : Int), v8 = .int .i64 x8_5 ∧ Aside0 (spec_MachineOk.l2 kq x5_2 x8_5 a0_0 l0_1 l1_0 l1_1 ((rd_T102 l1_1 x5_2).f0) ((rd_T102 l1_1 x5_2).f1) ((rd_T102 l1_1 x5_2).f2) = some r) ∧ Aside0 (kq ≤ k4) ∧ Aside0 (w'.heap[gb1]? = some (.cells #[.int .i64 a0_0, (.slice A0_1 l0_1.length c0_1)] 39 (0, 0))) ∧ Aside0 (w'.heap[gb2]? = some (.cells #[(.slice A1_0 l1_0.length c1_0), (.slice (some ad5) l1_1.length c1_1)] 54 (0, 0))) ∧ Aside0 (w'.heap[gb6]? = some (.cells #[.int .i64 ((rd_T102 l1_1 x5_2).f0), (.slice A5_1 ((rd_T102 l1_1 x5_2).f1).length c5_1), (.slice A5_2 ((rd_T102 l1_1 x5_2).f2).length c5_2)] 102 (0, 0))) ∧ Aside0 (Below w.heap.size w w'))
         case atStart => exact ⟨(0), sd_, H', ⟨Nat.le_refl _⟩, ⟨bk_⟩, ⟨bk_⟩, ⟨bk_⟩, ⟨bw_⟩⟩
         case round =>
          clear H'
          try clear c1
          try clear p1
          try clear q1
          try clear hx1
          try clear c2
          try clear p2
          try clear c3
          try clear c4
          try clear c5
          try clear p5
          try clear q5
          try clear hx5
          try clear c6
          try clear p6
          try clear c7
          try clear p7
          try clear q7
          try clear hx7
          try clear c9
          try clear c10
          try clear c10b0
          try clear c10b1
          try clear p10
          try clear q10
          try clear hx10
          try clear c11
          try clear c18
          try clear c25
          try clear c30
          try clear c33
          try clear c34
          try clear c34b0
          try clear c35
          try clear c35b0
          try clear c37
          try clear c40
          try clear c41
          try clear c43
          try clear c43b0
          try clear c45
          try clear c46
          try clear c46b0
          try clear c46b1
          try clear c48
          try clear c49
          try clear c51
          try clear c53
          try clear c54
          try clear c56
          try clear c58
          try clear c59
          try clear c61
          try clear c63
          try clear c64
          try clear c64b0
          try clear p64
          try clear c65
          try clear c65b0
          try clear c67
          try clear c68
          try clear c69
          try clear c71
          try clear c72
          try clear c74
          try clear c75
          try clear hcz12_0 hcz12_1
          try clear hcz14_0 hcz14_1
          try clear hcz16_0 hcz16_1
          try clear hcz17_0 hcz17_1
          try clear hcz19_0 hcz19_1
          try clear hcz21_0 hcz21_1
          try clear hcz23_0 hcz23_1
          try clear hcz24_0 hcz24_1
          try clear hcz26_0 hcz26_1
          try clear hcz28_0 hcz28_1
          try clear hcz31_0 hcz31_1
          try clear hcz38_0 hcz38_1
          try clear hcz42_0 hcz42_1 hcz42_2
          try clear hcz50_0 hcz50_1 hcz50_2
          try clear hcz52_0 hcz52_1
          try clear hcz55_0 hcz55_1 hcz55_2
          try clear hcz57_0 hcz57_1
          try clear hcz60_0 hcz60_1 hcz60_2
          try clear hcz62_0 hcz62_1
          try clear hcz70_0 hcz70_1 hcz70_2
          try clear hcz73_0 hcz73_1 hcz73_2
          try clear hcz76_0 hcz76_1 hcz76_2
          try clear hfz12_0 hfz12_1
          try clear hfz14_0 hfz14_1
          try clear hfz16_0 hfz16_1
          try clear hfz17_0 hfz17_1
          try clear hfz19_0 hfz19_1
          try clear hfz21_0 hfz21_1
          try clear hfz23_0 hfz23_1
          try clear hfz24_0 hfz24_1
          try clear hfz26_0 hfz26_1
          try clear hfz28_0 hfz28_1
          try clear hfz31_0 hfz31_1
          try clear hfz38_0 hfz38_1
          try clear hfz42_0 hfz42_1 hfz42_2
          try clear hfz50_0 hfz50_1 hfz50_2
          try clear hfz52_0 hfz52_1
          try clear hfz55_0 hfz55_1 hfz55_2
          try clear hfz57_0 hfz57_1
          try clear hfz60_0 hfz60_1 hfz60_2
          try clear hfz62_0 hfz62_1
          try clear hfz70_0 hfz70_1 hfz70_2
          try clear hfz73_0 hfz73_1 hfz73_2
          try clear hfz76_0 hfz76_1 hfz76_2
          try clear hx10_0
          try clear hx5_0
          try clear hx5_1
          try clear hx5_2
          try clear hx7_0
          try clear p10
          try clear p2
          try clear p5
          try clear p7
          try clear q10
          try clear q5
          try clear q7
          obtain ⟨x8_5, rfl, HA, HK5, BK1, BK2, BK6, HB⟩ := hrel
          cases gk with
          | zero => exact absurd HA.out (by simp [spec_MachineOk.l2])
          | succ k5 =>
           have H := HA.out
           clear HA
           simp only [spec_MachineOk.l2] at H
           by_cases c77 : x8_5 < (((rd_T102 l1_1 x5_2).f2).length : Int)
           rotate_left
           ·rw [if_neg c77] at H
            have c77b0 : decide (x8_5 < (((rd_T102 l1_1 x5_2).f2).length : Int)) = false := decide_eq_false c77
            clear c77
            have H' := Aside0.mk H
            clear H
            have hnb90 := NB6_1.out
            have hnc90 := NB1_6.out
            have hnb91 := NB6_2.out
            have hnc91 := NB2_6.out
            obtain ⟨hcz92_0, hcz92_1, hcz92_2, hfz92_0, hfz92_1, hfz92_2⟩ := bc3_ BK6.out
            go_wp2
            repeat (go_quiet (fail); try go_wp2)
            go_roundg k5
            case measure => have := HJ2.out; have := HK2.out; have := HJ35.out; have := HK4.out; have := HK5.out; omega
            case rel => exact ⟨(wrap64 (x5_2 + 1)), sd_, H', ⟨by have := HJ2.out; have := HK2.out; have := HJ35.out; have := HK4.out; have := HK5.out; omega⟩, ⟨bk_⟩, ⟨bk_⟩, ⟨bw_⟩⟩
           rw [if_pos c77] at H
           have c77b0 : decide (x8_5 < (((rd_T102 l1_1 x5_2).f2).length : Int)) = true := decide_eq_true c77
           clear c77
           by_cases c78 : 0 ≤ x8_5
           rotate_left
           ·rw [if_neg c78] at H
            exact absurd H (by simp)
           rw [if_pos c78] at H
           have c78b0 : decide (0 ≤ x8_5) = true := decide_eq_true c78
           clear c78
           by_cases c79 : ((rd_T152 ((rd_T102 l1_1 x5_2).f2) x8_5).f0) ≥ a0_0
           ·rw [if_pos c79] at H
            have c79b0 : decide (a0_0 ≤ ((rd_T152 ((rd_T102 l1_1 x5_2).f2) x8_5).f0)) = true := decide_eq_true c79
            clear c79
            obtain rfl := Option.some.inj H
            have hnb80 := NB6_1.out
            have hnc80 := NB1_6.out
            have hnb81 := NB6_2.out
            have hnc81 := NB2_6.out
            obtain ⟨hcz82_0, hcz82_1, hcz82_2, hfz82_0, hfz82_1, hfz82_2⟩ := bc3_ BK6.out
            have p12 : 0 ≤ (x8_5 : Int) := od_
            have q12 : x8_5 < (((rd_T102 l1_1 x5_2).f2).length : Int) := od_
            obtain ⟨ad12, e12, hx12_0, hx12_1⟩ := at_T152 HR5_2.out x8_5 p12 q12
            cases e12
            replace hx12_0 := (HB.out.cell (World.block_lt_of_cell? w _ hx12_0)).trans hx12_0
            replace hx12_1 := (HB.out.cell (World.block_lt_of_cell? w _ hx12_1)).trans hx12_1
            replace p12 := eq_true p12
            replace q12 := eq_true q12
            have hnb83 := NB1_2.out
            have hnc83 := NB2_1.out
            obtain ⟨hcz84_0, hcz84_1, hfz84_0, hfz84_1⟩ := bc2_ BK1.out
            go_wp2
            repeat (go_quiet (fail); try go_wp2)
            go_ret
            exact ⟨rr_, bw_⟩
           rw [if_neg c79] at H
           have c79b0 : decide (a0_0 ≤ ((rd_T152 ((rd_T102 l1_1 x5_2).f2) x8_5).f0)) = false := decide_eq_false c79
           clear c79
           have H' := Aside0.mk H
           clear H
           have hnb85 := NB6_1.out
           have hnc85 := NB1_6.out
           have hnb86 := NB6_2.out
           have hnc86 := NB2_6.out
           obtain ⟨hcz87_0, hcz87_1, hcz87_2, hfz87_0, hfz87_1, hfz87_2⟩ := bc3_ BK6.out
           have p12 : 0 ≤ (x8_5 : Int) := od_
           have q12 : x8_5 < (((rd_T102 l1_1 x5_2).f2).length : Int) := od_
           obtain ⟨ad12, e12, hx12_0, hx12_1⟩ := at_T152 HR5_2.out x8_5 p12 q12
           cases e12
           replace hx12_0 := (HB.out.cell (World.block_lt_of_cell? w _ hx12_0)).trans hx12_0
           replace hx12_1 := (HB.out.cell (World.block_lt_of_cell? w _ hx12_1)).trans hx12_1
           replace p12 := eq_true p12
           replace q12 := eq_true q12
           have hnb88 := NB1_2.out
           have hnc88 := NB2_1.out
           obtain ⟨hcz89_0, hcz89_1, hfz89_0, hfz89_1⟩ := bc2_ BK1.out
           go_wp2
           repeat (go_quiet (fail); try go_wp2)
           go_roundg k5
           case measure => have := HJ2.out; have := HK2.out; have := HJ35.out; have := HK4.out; have := HK5.out; omega
           case rel => exact ⟨(wrap64 (x8_5 + 1)), sd_, H', ⟨by have := HJ2.out; have := HK2.out; have := HJ35.out; have := HK4.out; have := HK5.out; omega⟩, ⟨bk_⟩, ⟨bk_⟩, ⟨bk_⟩, ⟨bw_⟩⟩

end Go.Proofs.Ytlfbdafghpmahaa.P
