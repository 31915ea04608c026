-- Written by mp.py (the session's own driver over the kit's printer) for the seat Ytimlilgdbkcpoaa.
import Derived.Test.YtimlilgdbkcpoaaRows
import Derived.Test.YtimlilgdbkcpoaaQFnExactMemOk
import Derived.Test.YtimlilgdbkcpoaaPureFnExactMemOk
import Derived.Test.YtimlilgdbkcpoaaOpen
import Derived.WalkKit
import Derived.ProofKit
import Derived.OpenShut
import Derived.ShutString
import Derived.ChangeOld
import Derived.Below
import Derived.SizedLaws
namespace Go.Proofs.Ytimlilgdbkcpoaa.fnExactMemOk
open Go.ChangeShapes Go.WideShapes Go.ChangeAt Go.RowKit Go.Proofs.Ytimlilgdbkcpoaa.P Go.Proofs.Ytimlilgdbkcpoaa.Open Go.Proofs.YtimlilgdbkcpoaaW.PrintWords
open Go.ChangeMaps (open_string shut_string)
set_option linter.unusedVariables false
theorem own : ownKnob Try.prog.godebug = none := by kernel_rfl
theorem laidOut : laidOutB Try.prog = true := by kernel_rfl
theorem opens31 : Opens Try.prog (Kd.slice 3 (Kd.int .i64)) 31 := opens_slice Try.underlying31 (opens_int Try.underlying3) (by kernel_rfl)
theorem opens47 : Opens Try.prog k47 47 := opens_struct Try.underlying47 (opensAt_last opens31 rfl (by kernel_rfl)) (by kernel_rfl) (fun z => ⟨⟨z⟩, rfl⟩)
set_option maxRecDepth 100000 in
theorem lifted (os : Os) (started : os.Started) (H : Type) (enc : TypeId × Value → H) :
    ReturnsInHanded {} Try.checked os 9 .any (Rows.fnExactMemOkSpec.pre6 enc Try.prog Try.f9 Rows.fnExactMemOkRow.domain false) (Rows.fnExactMemOkSpec.post enc Try.prog Try.f9 false true false false) := by
  refine returnsInHanded_of_change_sized (C := Try.checked) own started (by kernel_rfl) Try.func9
    (ChangeSpec.witness6 (enc := enc) (C := Try.checked) false ⟨#[], #[.agg #[.slice none 0 0]], []⟩ 8 (by kernel_rfl) (by kernel_rfl) (by kernel_rfl) (by kernel_rfl)) ?_
  intro W base args ds gs before hval0 hW hcnd hsz0 _
  have hsz : (DataW.weightsEach Try.prog (Try.f9.params.toList ++ Rows.fnExactMemOkSpec.plain.varTypes Try.prog) (ds ++ gs)).all (· ≤ reachBytes) = true := hsz0
  have hval : ∀ (j : Nat) t v, Try.f9.params[j]? = some t → args[j]? = some v → Value.okWide Try.prog W .any base t v := hval0
  have hW' := hW
  obtain ⟨p, q, hA0, hV, rfl, hfz, hnd⟩ := hW
  have hA : DataW.TrodAll enc Try.prog W 0 (fun _ => true) true Try.f9.params.toList args.toList ds p := hA0
  rw [Try.params9] at hA hval hsz
  obtain ⟨v0, vs0, d0, ds0, p0, q0, hargs, rfl, rfl, h0, r0⟩ := trodAll_cons hA
  obtain ⟨rfl, rfl, rfl⟩ := trodAll_nil r0
  obtain rfl : args = #[v0] := by cases args; simp_all
  obtain ⟨rfl, rfl⟩ := trodVars_none hV
  obtain ⟨cs0, rfl, _⟩ := okWide_struct Try.underlying47 (hval 0 47 v0 rfl rfl)
  have t0 := h0
  have lt0 : ∀ x ∈ p0, x.block < W.heap.size := by obtain ⟨m, hm⟩ := t0; exact DataW.trod_lt m _ _ _ hm
  obtain ⟨y0, o0⟩ : ∃ y : S47, Kd.K k47 W y cs0.toList := by
    obtain ⟨fuel, hf⟩ := h0
    exact opens47 H enc W fuel _ _ hf
  have w0 := o0
  obtain ⟨A0_0, c0_0, e0, hc0_0, hr0_0⟩ := k47_open o0
  obtain rfl : cs0 = #[.slice A0_0 y0.f0.length c0_0] := by cases cs0; simp_all
  clear hA0 hval0 hsz0 hsz
  obtain ⟨k, hk⟩ := Pure.FnExactMemOk y0.f0 (hr0_0.2.1)
  refine (laws_FnExactMemOk.calls k _ _ y0.f0 true W hr0_0 hc0_0 hk).mono fun e W' ⟨he, bel0⟩ => ?_
  have bel := bel0
  subst he
  exact ⟨_, rfl, _, _, _, [], _, [], hW', trodAll_mk1 (shut_bool Try.underlying4 _), (trodAll_cons_mk (Below.trod laidOut (by kernel_rfl) (of_decide_eq_true (by kernel_rfl)) t0 bel lt0) trodAll_mk0), rfl, bel.frame _, fun h => by cases h⟩
theorem over : Rows.fnExactMemOkRow.holds Try.pinned (OpenSpec.ofChange Rows.fnExactMemOkSpec) :=
  OpenClaim.holds_of_wide 9 Try.f9 rfl rfl rfl rfl rfl rfl rfl ⟨rfl, rfl, rfl, rfl, rfl⟩ rfl rfl rfl rfl rfl (by kernel_rfl) Try.func9 (by kernel_rfl)
    (of_decide_eq_true (by kernel_rfl)) (by unfold Func.isWrapper; first | (rw [if_pos (by decide +kernel)]; kernel_rfl) | (rw [if_neg (by decide +kernel)]; exact ⟨rfl, rfl⟩))
    (fun os started H enc _ => lifted os started H enc)
theorem proved : Rows.FnExactMemOkSaid := over
#print axioms proved
end Go.Proofs.Ytimlilgdbkcpoaa.fnExactMemOk
namespace Go.Proofs.Ytimlilgdbkcpoaa
/-- The row, under a short name, for the claim. -/
theorem fnExactMemOk_holds : Rows.FnExactMemOkSaid := fnExactMemOk.proved
end Go.Proofs.Ytimlilgdbkcpoaa
