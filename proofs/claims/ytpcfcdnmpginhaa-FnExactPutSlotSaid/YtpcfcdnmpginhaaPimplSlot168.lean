-- Written by mp.py (the session's own driver over the kit's printer) for the seat Ytpcfcdnmpginhaa.
import Derived.Test.YtpcfcdnmpginhaaV2
import Derived.Test.YtpcfcdnmpginhaaK
import Derived.Test.YtpcfcdnmpginhaaE
import Derived.Lib.SliceRun
namespace Go.Proofs.Ytpcfcdnmpginhaa.P
open Go.RowKit Go.Proofs.YtpcfcdnmpginhaaW.PrintWords Go.Proofs.YtpcfcdnmpginhaaW.PrintLast Go.Proofs.YtpcfcdnmpginhaaW.PrintMore
attribute [local go_sem] max2_int min2_int max_two min_two max_three min_three max_four min_four
set_option linter.unusedVariables false
set_option linter.unusedSimpArgs false

/-! ### impl_Slot_168: function 168 -/
-- @func slices.Clone[[]loop.example/g00712/impl.Slot,loop.example/g00712/impl.Slot]
-- @making true
-- @info 169
-- @import Derived.Lib.SliceRun
def impl_Slot_168.f (l0 : List S169) : Option (List S169) := if l0.length ≤ 1099511627776 then some l0 else none
set_option maxHeartbeats 4000000 in
set_option maxRecDepth 100000 in
theorem impl_Slot_168.calls (A0 : Option Addr) (c0 : Nat) (l0 : List S169) (r : List S169) (w : World) (hr0 : Kd.C k169 w A0 l0.length l0) (hc0 : l0.length ≤ c0) (h : impl_Slot_168.f l0 = some r) :
  Calls Try.prog 168 #[.slice A0 l0.length c0] w fun e w' => ∃ v0_ : Value, e = .returned (v0_) ∧ Kd.R k169 169 w' w.heap.size (fun _ => True) v0_ r ∧ Below w.heap.size w w' := by
 have q_ : ∀ (w : World) (a : Option Addr) (n c n' c' : Nat), (binOp .eql 107 (.slice a n c) (.slice none n' c')).run Try.prog w = .ok (.bool a.isNone) w := fun w a n c n' c' => Go.Lib.run_eql_slice_nil w _ _ a n c n' c' Try.underlying107
 unfold impl_Slot_168.f at h
 split at h
 ·next hl =>
  obtain rfl := Option.some.inj h
  clear h
  have HL : Aside0 (l0.length ≤ 1099511627776) := ⟨hl⟩
  have HR0 := Aside0.mk hr0
  have HC0 := Aside0.mk hc0
  cases A0 with
  | none =>
   have hn : ¬ 0 < l0.length := fun h0 => by
    obtain ⟨ad, e, _⟩ := hr0.2.2 h0
    cases e
   have hnil : l0 = [] := List.eq_nil_of_length_eq_zero (by omega)
   subst hnil
   clear hr0 hc0 hl hn
   go_enter Try.func168, Try.ntmps168
   go_wp2_with fail
   go_ret
   exact ⟨_, rfl, Kd.R_nil _ _ _ _ _, Below.refl _ _⟩
  | some ad =>
   clear hr0 hc0 hl
   go_enter Try.func168, Try.ntmps168
   go_wp2_with (first
    | ((with_reducible refine gate_dst (N := 5) rfl ?_); refine Kd.R_lit k169 _ 169 ?hg (N := 5) ?hd (xs := ([] : List S169)) (inner := []) (ok := fun _ => True) (okp := fun _ => True) ?hr ?hp (fun _ hk => hk) trivial (Below.refl _ _) (Nat.le_refl _) (by simp) ?_; (case hd => rfl); (case hg => rfl); (case hr => first | (go_simp; done) | (go_simp; rfl)); (case hp => exact (Reps.none _ _)); intro v5 w4 ho5 hb hg_ hnew_; clear hg_ hnew_; have HO := Aside0.mk ho5; have HB := Aside0.mk hb; clear ho5 hb)
    | ((with_reducible refine gate_builtin (b := .append) (xs := #[.tmp 5, .tmp 6]) rfl ?_); at_builtin; refine Kd.R_append_rows k169 (Rr := k169.K w4) (w0 := w) w.heap.size rfl (.tmp 5) (.tmp 6) 107 169 (.agg #[(.int .i64 0), (.int .i64 0)]) 16 rfl Try.underlying107 info169 rfl (by decide) (by omega) v5 [] l0 _ _ _ (fun _ => True) (fun _ => False) rfl rfl ?aO ?aR ?aK (fun _ h => h.elim) ?aF ?aB ?aS ?aL ?_; (case aR => exact Kd.C_below HR0.out HB.out); (case aK => intro x_ cs_ h_; obtain rfl := k169_open h_; exact k169_mkM _ _ _ x_); (case aB => exact HB.out); (case aF => exact (fun _ _ => trivial)); (case aO => exact HO.out); (case aS => exact below_size HB.out); (case aL => have := HL.out; simp only [List.length_nil]; omega); intro v7 w7 ho hb hg hat; have HO2 := Aside0.mk ho; have HB2 := Aside0.mk hb; clear ho hb hg hat))
   go_ret
   exact ⟨_, rfl, by simpa using HO2.out, HB2.out⟩
 ·cases h

end Go.Proofs.Ytpcfcdnmpginhaa.P
