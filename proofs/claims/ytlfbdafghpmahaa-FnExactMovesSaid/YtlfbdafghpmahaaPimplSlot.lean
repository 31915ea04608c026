-- Written by mp.py (the session's own driver over the kit's printer) for the seat Ytlfbdafghpmahaa.
import Derived.Test.YtlfbdafghpmahaaK
import Derived.Test.YtlfbdafghpmahaaIdxSlot
namespace Go.Proofs.Ytlfbdafghpmahaa.P
open Go.RowKit Go.Proofs.YtlfbdafghpmahaaW.PrintWords Go.Proofs.YtlfbdafghpmahaaW.PrintLast Go.Proofs.YtlfbdafghpmahaaW.PrintMore
attribute [local go_sem] max2_int min2_int max_two min_two max_three min_three max_four min_four
set_option linter.unusedVariables false
set_option linter.unusedSimpArgs false

/-! ### impl_Slot: function 157 -/
-- @func slices.ContainsFunc[[]loop.example/g00712/impl.Slot,loop.example/g00712/impl.Slot]
-- @making true
-- @kinds []impl.Slot int
-- @import Derived.Test.YtlfbdafghpmahaaIdxSlot
/-- The call of slices.ContainsFunc in isMachine: has a slot an address that is a1 or more? -/
def impl_Slot.f (l0 : List S152) (a1 : Int) : Option (Bool) := some (l0.any fun s => decide (a1 ≤ s.f0))
theorem impl_Slot.one (W : World) (x : S152) (gb : Nat) (c : Int) (v : Value) (hb : W.heap[gb]? = some (.cells #[.int .i64 c, v] 39 (0, 0))) :
  Calls Try.prog 158 #[.agg #[.int .i64 x.f0, .int .i64 x.f1], .pointer (some ⟨gb, 0, none⟩)] W fun e w' => e = .returned (.bool (decide (c ≤ x.f0))) ∧ Below W.heap.size W w' := by
 generalize x.f0 = x0 at *
 generalize x.f1 = x1 at *
 have HP := Aside0.mk hb
 have hu := Try.underlying152
 clear hb
 go_enter Try.func158, Try.ntmps158
 go_wp2_with ((with_reducible refine gate_dst (N := 2) rfl ?_); refine box_event ?hg (N := 2) ?hd (cs := #[.int .i64 x0, .int .i64 x1]) (t := 152) ?hr ?_; (case hd => rfl); (case hg => rfl); (case hr => exact hr_); intro gb2 hg w5 hbox hb; have HB := Aside0.mk hb; have hb0 := (blk_cell hbox 0).trans rfl; have hb1 := (blk_cell hbox 1).trans rfl; have hp0 := (blk_cell (blk_below HP.out hb) 0).trans rfl; clear hb hbox hg)
 go_ret
 exact ⟨rfl, HB.out⟩
theorem impl_Slot.calls (gb : Nat) (v : Value) (A0 : Option Addr) (c0 : Nat) (l0 : List S152) (a1 : Int) (r : Bool) (w : World) (hb : w.heap[gb]? = some (.cells #[.int .i64 a1, v] 39 (0, 0))) (hr0 : Kd.C k152 w A0 l0.length l0) (hc0 : l0.length ≤ c0) (h : impl_Slot.f l0 a1 = some r) :
  Calls Try.prog 157 #[.slice A0 l0.length c0, .func (.func 158) #[] #[.pointer (some ⟨gb, 0, none⟩)]] w fun e w' => e = .returned (.bool r) ∧ Below w.heap.size w w' := by
 have eg : ∀ args w, (callFunc 158 args).run Try.prog w = .ok (.enter 158 args) w := enters_of Try.func158 (by kernel_rfl) rfl
 have hcon := contfSlot 158 #[.pointer (some ⟨gb, 0, none⟩)] (fun s => decide (a1 ≤ s.f0)) eg A0 c0 l0 w hr0 hc0 (fun W x _ hbW => (impl_Slot.one W x gb a1 v (blk_below hb hbW)).mono fun e w' ⟨he, hb'⟩ => ⟨he, hbW.trans (hb'.mono hbW.size)⟩)
 obtain rfl := Option.some.inj h
 exact hcon

end Go.Proofs.Ytlfbdafghpmahaa.P
