-- Written by mp.py (the session's own driver over the kit's printer) for the seat Ytpcfcdnmpginhaa.
import Derived.Test.YtpcfcdnmpginhaaK
import Derived.Test.YtpcfcdnmpginhaaE
import Derived.Test.YtpcfcdnmpginhaaIdxIB
import Derived.Test.YtpcfcdnmpginhaaIdxHold
namespace Go.Proofs.Ytpcfcdnmpginhaa.P
open Go.RowKit Go.Proofs.YtpcfcdnmpginhaaW.PrintWords Go.Proofs.YtpcfcdnmpginhaaW.PrintLast Go.Proofs.YtpcfcdnmpginhaaW.PrintMore
attribute [local go_sem] max2_int min2_int max_two min_two max_three min_three max_four min_four
set_option linter.unusedVariables false
set_option linter.unusedSimpArgs false

/-! ### slices_ContainsFunc_int_int: function 108 -/
-- @func slices.ContainsFunc[[]int,int]
-- @making true
-- @kinds []int []impl.Hold
-- @import Derived.Test.YtpcfcdnmpginhaaIdxIB Derived.Test.YtpcfcdnmpginhaaIdxHold
/-- The call of slices.ContainsFunc in SafeBench: is one of these numbers held? -/
def slices_ContainsFunc_int_int.f (l0 : List Int) (l1 : List S123) : Option (Bool) := some (l0.any fun x => l1.any fun h => h.f1 == x)
theorem slices_ContainsFunc_int_int.hold (W : World) (y : S123) (g : Nat) (x : Int) (hg : W.heap[g]? = some (.cells #[.int .i64 x] 3 (0, 0))) :
  Calls Try.prog 185 #[.agg #[.int .i64 y.f0, .int .i64 y.f1], .pointer (some ⟨g, 0, none⟩)] W fun e w' => e = .returned (.bool (y.f1 == x)) ∧ Below W.heap.size W w' := by
 generalize y.f0 = y0 at *
 generalize y.f1 = y1 at *
 have HP := Aside0.mk hg
 have hu := Try.underlying123
 clear hg
 go_enter Try.func185, Try.ntmps185
 go_wp2_with ((with_reducible refine gate_dst (N := 2) rfl ?_); refine box_event ?hg (N := 2) ?hd (cs := #[.int .i64 y0, .int .i64 y1]) (t := 123) ?hr ?_; (case hd => rfl); (case hg => rfl); (case hr => first | (go_simp; done) | (go_simp; rfl)); intro gb2 hg w5 hbox hb; have HB := Aside0.mk hb; have hb0 := (blk_cell hbox 0).trans rfl; have hb1 := (blk_cell hbox 1).trans rfl; have hp0 := (blk_cell (blk_below HP.out hb) 0).trans rfl; clear hb hbox hg)
 go_ret
 exact ⟨rfl, HB.out⟩
set_option maxHeartbeats 4000000 in
theorem slices_ContainsFunc_int_int.held (W : World) (x : Int) (v0 v2 v3 : Value) (n : Int) (A : Option Addr) (c : Nat) (l1 : List S123) (hr : Kd.C k123 W A l1.length l1) (hc : l1.length ≤ c) :
  Calls Try.prog 109 #[.agg #[v0, .slice A l1.length c, v2, v3, .int .i64 n], .int .i64 x] W fun e w' => e = .returned (.bool (l1.any fun h => h.f1 == x)) ∧ Below W.heap.size W w' := by
 have HR := Aside0.mk hr
 have HC := Aside0.mk hc
 have hu := Try.underlying30
 have EG : Aside0 (∀ args w, (callFunc 185 args).run Try.prog w = .ok (.enter 185 args) w) := ⟨enters_of Try.func185 (by kernel_rfl) rfl⟩
 clear hr hc
 go_enter Try.func109, Try.ntmps109
 go_wp2_with (first
  | ((with_reducible refine gate_dst (N := 2) rfl ?_); refine box_event ?hg (N := 2) ?hd (cs := #[v0, .slice A l1.length c, v2, v3, .int .i64 n]) (t := 30) ?hr ?_; (case hd => rfl); (case hg => rfl); (case hr => first | (go_simp; done) | (go_simp; rfl)); intro gb hg w5 hbox hb; have HX := Aside0.mk hbox; have HB := Aside0.mk hb; clear hb hbox hg)
  | ((with_reducible refine gate_dst (N := 3) rfl ?_); refine box_event ?hg (N := 3) ?hd (cs := #[.int .i64 x]) (t := 3) ?hr ?_; (case hd => rfl); (case hg => rfl); (case hr => first | (go_simp; done) | (go_simp; rfl)); intro gx hg w6 hbox hb; have HX2 := Aside0.mk hbox; have HB2 := Aside0.mk (below_step HB.out hb); have hb1 := (blk_cell (blk_below HX.out hb) 1).trans rfl; clear hb hbox hg)
  | (go_at_call 184; refine (contfHold 185 #[.pointer (some ⟨gx, 0, none⟩)] (fun h => h.f1 == x) EG.out A c l1 _ (Kd.C_below HR.out HB2.out) HC.out (fun W' y _ hb => (slices_ContainsFunc_int_int.hold W' y gx x (blk_below HX2.out hb)).mono fun e w' ⟨he, hb'⟩ => ⟨he, hb.trans (hb'.mono hb.size)⟩)).mono ?_; rintro e w' ⟨rfl, hb'⟩))
 go_ret
 exact ⟨rfl, below_step HB2.out hb'⟩
theorem slices_ContainsFunc_int_int.calls (v0 v2 v3 : Value) (n : Int) (A0 : Option Addr) (c0 : Nat) (l0 : List Int) (A1 : Option Addr) (c1 : Nat) (l1 : List S123) (r : Bool) (w : World) (hr0 : Kd.C (Kd.int .i64) w A0 l0.length l0) (hc0 : l0.length ≤ c0) (hr1 : Kd.C k123 w A1 l1.length l1) (hc1 : l1.length ≤ c1) (h : slices_ContainsFunc_int_int.f l0 l1 = some r) :
  Calls Try.prog 108 #[.slice A0 l0.length c0, .func (.func 109) #[.agg #[v0, .slice A1 l1.length c1, v2, v3, .int .i64 n]] #[]] w fun e w' => e = .returned (.bool r) ∧ Below w.heap.size w w' := by
 have eg : ∀ args w, (callFunc 109 args).run Try.prog w = .ok (.enter 109 args) w := enters_of Try.func109 (by kernel_rfl) rfl
 have hcon := contfIB 109 (.agg #[v0, .slice A1 l1.length c1, v2, v3, .int .i64 n]) (fun x => l1.any fun h => h.f1 == x) eg A0 c0 l0 w hr0 hc0 (fun W x _ hbW => (slices_ContainsFunc_int_int.held W x v0 v2 v3 n A1 c1 l1 (Kd.C_below hr1 hbW) hc1).mono fun e w' ⟨he, hb'⟩ => ⟨he, hbW.trans (hb'.mono hbW.size)⟩)
 obtain rfl := Option.some.inj h
 exact hcon

end Go.Proofs.Ytpcfcdnmpginhaa.P
