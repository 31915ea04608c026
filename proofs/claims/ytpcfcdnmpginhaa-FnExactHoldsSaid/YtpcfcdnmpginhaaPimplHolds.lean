-- Written by mp.py (the session's own driver over the kit's printer) for the seat Ytpcfcdnmpginhaa.
import Derived.Test.YtpcfcdnmpginhaaK
import Derived.Test.YtpcfcdnmpginhaaE
import Derived.Test.YtpcfcdnmpginhaaPimplAtomholds
import Derived.Test.YtpcfcdnmpginhaaIdxAtom
namespace Go.Proofs.Ytpcfcdnmpginhaa.P
open Go.RowKit Go.Proofs.YtpcfcdnmpginhaaW.PrintWords Go.Proofs.YtpcfcdnmpginhaaW.PrintLast Go.Proofs.YtpcfcdnmpginhaaW.PrintMore
attribute [local go_sem] max2_int min2_int max_two min_two max_three min_three max_four min_four
set_option linter.unusedVariables false
set_option linter.unusedSimpArgs false

/-! ### impl_Holds: function 32 -/
-- @func loop.example/g00712/impl.Holds
-- @making true
-- @needs (loop.example/g00712/impl.Atom).holds
-- @import Derived.Test.YtpcfcdnmpginhaaIdxAtom
/-- Does an atom hold of the machine (where its test ends)? -/
def impl_Holds.one_ (m0 : List Int) (m1 : List S137) (x : S135) : Option Bool := impl_Atom_holds.f x.f0 x.f1 x.f2 x.f3 m0 m1
def impl_Holds.f (l0_0 : List Int) (l0_1 : List S137) (l1 : List S135) : Option (Bool) :=
 if (l1.length : Int) ≤ 8 then (if (l1.all fun x => (impl_Holds.one_ l0_0 l0_1 x).isSome) = true then some (l1.all fun x => (impl_Holds.one_ l0_0 l0_1 x).getD false) else none) else some false
set_option maxHeartbeats 4000000 in
theorem impl_Holds.one (W : World) (x : S135) (gm : Nat) (A0 : Option Addr) (c0 : Nat) (m0 : List Int) (A1 : Option Addr) (c1 : Nat) (m1 : List S137) (b : Bool) (hm : W.heap[gm]? = some (.cells #[.slice A0 m0.length c0, .slice A1 m1.length c1] 46 (0, 0))) (hr0 : Kd.C (Kd.int .i64) W A0 m0.length m0) (hc0 : m0.length ≤ c0) (hr1 : Kd.C k137 W A1 m1.length m1) (hc1 : m1.length ≤ c1) (hi : impl_Holds.one_ m0 m1 x = some b) :
  Calls Try.prog 116 #[.agg #[.int .i64 x.f0, .int .i64 x.f1, .int .i64 x.f2, .int .i64 x.f3], .pointer (some ⟨gm, 0, none⟩)] W fun e w' => e = .returned (.bool (!b)) ∧ Below W.heap.size W w' := by
 unfold impl_Holds.one_ at hi
 generalize x.f0 = x0 at *
 generalize x.f1 = x1 at *
 generalize x.f2 = x2 at *
 generalize x.f3 = x3 at *
 have HI := Aside0.mk hi
 have HM := Aside0.mk hm
 have HR0 := Aside0.mk hr0
 have HR1 := Aside0.mk hr1
 have HC0 := Aside0.mk hc0
 have HC1 := Aside0.mk hc1
 have hu := Try.underlying135
 clear hi hm hr0 hr1 hc0 hc1
 go_enter Try.func116, Try.ntmps116
 go_wp2_with (first
  | ((with_reducible refine gate_dst (N := 2) rfl ?_); refine box_event ?hg (N := 2) ?hd (cs := #[.int .i64 x0, .int .i64 x1, .int .i64 x2, .int .i64 x3]) (t := 135) ?hr ?_; (case hd => rfl); (case hg => rfl); (case hr => first | (go_simp; done) | (go_simp; rfl)); intro gb hg w5 hbox hb; have HB := Aside0.mk hb; have hb0 := (blk_cell hbox 0).trans rfl; have hb1 := (blk_cell hbox 1).trans rfl; have hb2 := (blk_cell hbox 2).trans rfl; have hb3 := (blk_cell hbox 3).trans rfl; have hp0 := (blk_cell (blk_below HM.out hb) 0).trans rfl; have hp1 := (blk_cell (blk_below HM.out hb) 1).trans rfl; clear hb hbox hg)
  | (go_at_call 117; refine (impl_Atom_holds.calls _ _ _ _ _ _ m0 _ _ m1 b _ (Kd.C_below HR0.out HB.out) HC0.out (Kd.C_below HR1.out HB.out) HC1.out HI.out).mono ?_; rintro e w' ⟨rfl, hb'⟩))
 go_ret
 exact ⟨rfl, below_step HB.out hb'⟩
set_option maxHeartbeats 8000000 in
set_option maxRecDepth 100000 in
theorem impl_Holds.calls (A0_0 : Option Addr) (c0_0 : Nat) (l0_0 : List Int) (A0_1 : Option Addr) (c0_1 : Nat) (l0_1 : List S137) (A1 : Option Addr) (c1 : Nat) (l1 : List S135) (r : Bool) (w : World) (hr0_0 : Kd.C (Kd.int .i64) w A0_0 l0_0.length l0_0) (hc0_0 : l0_0.length ≤ c0_0) (hr0_1 : Kd.C k137 w A0_1 l0_1.length l0_1) (hc0_1 : l0_1.length ≤ c0_1) (hr1 : Kd.C k135 w A1 l1.length l1) (hc1 : l1.length ≤ c1) (h : impl_Holds.f l0_0 l0_1 l1 = some r) :
  Calls Try.prog 32 #[.agg #[.slice A0_0 l0_0.length c0_0, .slice A0_1 l0_1.length c0_1], .slice A1 l1.length c1] w fun e w' => e = .returned (.bool r) ∧ Below w.heap.size w w' := by
 have HR0 := Aside0.mk hr0_0
 have HR1 := Aside0.mk hr0_1
 have HR2 := Aside0.mk hr1
 have HC0 := Aside0.mk hc0_0
 have HC1 := Aside0.mk hc0_1
 have HC2 := Aside0.mk hc1
 have HL : Aside0 (l1.length ≤ 9223372036854775807) := ⟨hr1.2.1⟩
 have EG : Aside0 (∀ args w, (callFunc 116 args).run Try.prog w = .ok (.enter 116 args) w) := ⟨enters_of Try.func116 (by kernel_rfl) rfl⟩
 clear hr0_0 hr0_1 hr1 hc0_0 hc0_1 hc1
 unfold impl_Holds.f at h
 by_cases h8 : (l1.length : Int) ≤ 8
 ·rw [if_pos h8] at h
  by_cases hs : (l1.all fun x => (impl_Holds.one_ l0_0 l0_1 x).isSome) = true
  ·rw [if_pos hs] at h
   have HR := Aside0.mk (Option.some.inj h).symm
   have HS : Aside0 (∀ x ∈ l1, impl_Holds.one_ l0_0 l0_1 x = some ((impl_Holds.one_ l0_0 l0_1 x).getD false)) := ⟨fun x hx => by
    have := List.all_eq_true.1 hs x hx
    obtain ⟨b, hb⟩ := Option.isSome_iff_exists.1 this
    rw [hb]; rfl⟩
   have hd : decide ((l1.length : Int) ≤ 8) = true := decide_eq_true h8
   clear h hs h8
   go_enter Try.func32, Try.ntmps32
   go_wp2_with (first
    | ((with_reducible refine gate_dst (N := 2) rfl ?_); refine box_event ?hg (N := 2) ?hd (cs := #[.slice A0_0 l0_0.length c0_0, .slice A0_1 l0_1.length c0_1]) (t := 46) ?hr ?_; (case hd => rfl); (case hg => rfl); (case hr => first | (go_simp; done) | (go_simp; rfl)); intro gb hg w5 hbox hb; have HX := Aside0.mk hbox; have HB := Aside0.mk hb; clear hb hbox hg)
    | (go_at_call 115; refine (contfAtom 116 #[.pointer (some ⟨gb, 0, none⟩)] (fun x => !((impl_Holds.one_ l0_0 l0_1 x).getD false)) EG.out A1 c1 l1 _ (Kd.C_below HR2.out HB.out) HC2.out (fun W x hx hb => (impl_Holds.one W x gb A0_0 c0_0 l0_0 A0_1 c0_1 l0_1 _ (blk_below HX.out hb) (Kd.C_below (Kd.C_below HR0.out HB.out) hb) HC0.out (Kd.C_below (Kd.C_below HR1.out HB.out) hb) HC1.out (HS.out x hx)).mono fun e w' ⟨he, hb'⟩ => ⟨he, hb.trans (hb'.mono hb.size)⟩)).mono ?_; rintro e w' ⟨rfl, hb'⟩))
   go_ret
   refine ⟨?_, below_step HB.out hb'⟩
   rw [HR.out, List.not_any_eq_all_not]
   simp
  ·rw [if_neg hs] at h
   cases h
 ·rw [if_neg h8] at h
  have HR := Aside0.mk (Option.some.inj h).symm
  have hd : decide ((l1.length : Int) ≤ 8) = false := decide_eq_false h8
  clear h h8
  go_enter Try.func32, Try.ntmps32
  go_wp2_with ((with_reducible refine gate_dst (N := 2) rfl ?_); refine box_event ?hg (N := 2) ?hd (cs := #[.slice A0_0 l0_0.length c0_0, .slice A0_1 l0_1.length c0_1]) (t := 46) ?hr ?_; (case hd => rfl); (case hg => rfl); (case hr => first | (go_simp; done) | (go_simp; rfl)); intro gb hg w5 hbox hb; have HX := Aside0.mk hbox; have HB := Aside0.mk hb; clear hb hbox hg)
  go_ret
  exact ⟨by rw [HR.out]; rfl, HB.out⟩

end Go.Proofs.Ytpcfcdnmpginhaa.P
