-- Written by mp.py (the session's own driver over the kit's printer) for the seat YtbgclnjnngolmaaDoor.
import Derived.Test.YtbgclnjnngolmaaDoorK
import Derived.Test.YtbgclnjnngolmaaDoorE
import Derived.Test.YtbgclnjnngolmaaDoorPimplfenced
namespace Go.Proofs.YtbgclnjnngolmaaDoor.P
open Go.RowKit Go.Proofs.YtbgclnjnngolmaaDoorW.PrintWords Go.Proofs.YtbgclnjnngolmaaDoorW.PrintLast Go.Proofs.YtbgclnjnngolmaaDoorW.PrintMore
attribute [local go_sem] max2_int min2_int max_two min_two max_three min_three max_four min_four
set_option linter.unusedVariables false
set_option linter.unusedSimpArgs false

/-! ### impl_WithFences: function 11 -/
-- @func loop.example/g00712/impl.WithFences
-- @making true
-- @rounds true
-- @needs loop.example/g00712/impl.fenced
def impl_WithFences.f (k : Nat) (l0 : List S37) : Option (List S37 × Bool) := if (l0.length : Int) > 16 then some ([], false) else impl_fenced.f k l0 l0
theorem impl_WithFences.mono : ∀ a0 k, LeO (impl_WithFences.f k a0) (impl_WithFences.f (k + 1) a0) := by
 intro a0 k
 unfold impl_WithFences.f
 exact LeO.ite (LeO.refl _) (impl_fenced.mono a0 a0 k)
set_option maxHeartbeats 4000000 in
set_option maxRecDepth 100000 in
theorem impl_WithFences.calls (k : Nat) (A0 : Option Addr) (c0 : Nat) (l0 : List S37) (r1 : List S37) (r2 : Bool) (w : World) (hr0 : Kd.C k37 w A0 l0.length l0) (hc0 : l0.length ≤ c0) (h : impl_WithFences.f k l0 = some (r1, r2)) :
  Calls Tryd.prog 11 #[.slice A0 l0.length c0] w fun e w' => ∃ v0_ : Value, e = .returned (.tuple #[v0_, .bool r2]) ∧ Kd.R k37 37 w' w.heap.size (fun _ => True) v0_ r1 ∧ Below w.heap.size w w' := by
 have HR0 := Aside0.mk hr0
 have HC0 := Aside0.mk hc0
 clear hr0 hc0
 unfold impl_WithFences.f at h
 by_cases c : (l0.length : Int) > 16
 rotate_left
 ·rw [if_neg c] at h
  have hd : decide ((16 : Int) < (l0.length : Int)) = false := decide_eq_false c
  have H := Aside0.mk h
  clear h c
  go_enter Tryd.func11, Tryd.ntmps11
  go_wp2_with (first
   | ((with_reducible refine gate_dst (N := 1) rfl ?_); refine box_event ?hg (N := 1) ?hd (cs := #[.slice A0 l0.length c0]) (t := 31) ?hr ?_; (case hd => rfl); (case hg => rfl); (case hr => exact hrr_); intro gb hg w5 hbox hb; have HX := Aside0.mk hbox; have HB := Aside0.mk hb; have hb0 := (blk_cell hbox 0).trans rfl; clear hb hbox hg)
   | (go_at_call 24; refine (impl_fenced.calls gb k A0 c0 l0 A0 c0 l0 r1 r2 _ (Kd.C_below HR0.out HB.out) HC0.out (Kd.C_below HR0.out HB.out) HC0.out HX.out H.out).mono ?_; rintro e w7 ⟨v9, rfl, ho, hb2⟩; have HO := Aside0.mk (Kd.R_lower ho (below_size HB.out)); have HB2 := Aside0.mk (below_step HB.out hb2); clear ho hb2))
  go_ret2
  exact ⟨_, rfl, HO.out, HB2.out⟩
 rw [if_pos c] at h
 have hd : decide ((16 : Int) < (l0.length : Int)) = true := decide_eq_true c
 injection Option.some.inj h with e1 e2
 subst e1
 subst e2
 clear h c
 go_enter Tryd.func11, Tryd.ntmps11
 go_wp2_with ((with_reducible refine gate_dst (N := 1) rfl ?_); refine box_event ?hg (N := 1) ?hd (cs := #[.slice A0 l0.length c0]) (t := 31) ?hr ?_; (case hd => rfl); (case hg => rfl); (case hr => exact hrr_); intro gb hg w5 hbox hb; have HX := Aside0.mk hbox; have HB := Aside0.mk hb; have hb0 := (blk_cell hbox 0).trans rfl; clear hb hbox hg)
 go_ret2
 exact ⟨_, rfl, Kd.R_nil _ _ _ _ _, HB.out⟩

end Go.Proofs.YtbgclnjnngolmaaDoor.P
