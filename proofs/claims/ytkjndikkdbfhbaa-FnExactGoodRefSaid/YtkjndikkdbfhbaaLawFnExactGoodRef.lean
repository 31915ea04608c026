-- Written by mp.py (the session's own driver over the kit's printer) for the seat Ytkjndikkdbfhbaa.
import Derived.Test.YtkjndikkdbfhbaaRows
import Derived.Test.YtkjndikkdbfhbaaQFnExactGoodRef
import Derived.Test.YtkjndikkdbfhbaaPureFnExactGoodRef
import Derived.Test.YtkjndikkdbfhbaaOpen
import Derived.WalkKit
import Derived.ProofKit
import Derived.OpenShut
import Derived.ShutString
import Derived.ChangeOld
import Derived.Below
import Derived.SizedLaws
import Derived.Test.YtkjndikkdbfhbaaFacts
namespace Go.Proofs.Ytkjndikkdbfhbaa.fnExactGoodRef
open Go.ChangeShapes Go.WideShapes Go.ChangeAt Go.RowKit Go.Proofs.Ytkjndikkdbfhbaa.P Go.Proofs.Ytkjndikkdbfhbaa.Open Go.Proofs.YtkjndikkdbfhbaaW.PrintWords
open Go.ChangeMaps (open_string shut_string)
set_option linter.unusedVariables false
theorem own : ownKnob Try.prog.godebug = none := by kernel_rfl
theorem laidOut : laidOutB Try.prog = true := by kernel_rfl
theorem opens22 : Opens Try.prog (Kd.slice 3 (Kd.int .i64)) 22 := opens_slice Try.underlying22 (opens_int Try.underlying3) (by kernel_rfl)
theorem opens34 : Opens Try.prog (Kd.slice 4 Kd.bool) 34 := opens_slice Try.underlying34 (opens_bool Try.underlying4) (by kernel_rfl)
theorem opens36 : Opens Try.prog k36 36 := opens_struct Try.underlying36 (opensAt_cons opens22 rfl (by kernel_rfl) (opensAt_last opens34 rfl (by kernel_rfl))) (by kernel_rfl) (fun z => ⟨⟨z.1, z.2⟩, rfl⟩)
theorem opens38 : Opens Try.prog k38 38 := opens_struct Try.underlying38 (opensAt_cons (opens_int Try.underlying3) rfl (by kernel_rfl) (opensAt_last (opens_int Try.underlying3) rfl (by kernel_rfl))) (by kernel_rfl) (fun z => ⟨⟨z.1, z.2⟩, rfl⟩)
set_option maxRecDepth 100000 in
theorem lifted (os : Os) (started : os.Started) (H : Type) (enc : TypeId × Value → H) :
    ReturnsInHanded {} Try.checked os 4 .any (Rows.fnExactGoodRefSpec.pre6 enc Try.prog Try.f4 Rows.fnExactGoodRefRow.domain false) (Rows.fnExactGoodRefSpec.post enc Try.prog Try.f4 false true false false) := by
  refine returnsInHanded_of_change_sized (C := Try.checked) own started (by kernel_rfl) Try.func4
    (ChangeSpec.witness6 (enc := enc) (C := Try.checked) false ⟨#[], #[.agg #[.slice none 0 0, .slice none 0 0], .agg #[.int .i64 0, .int .i64 0]], []⟩ 8 (by kernel_rfl) (by kernel_rfl) (by kernel_rfl) (by kernel_rfl)) ?_
  intro W base args ds gs before hval0 hW hcnd hsz0 _
  have hsz : (DataW.weightsEach Try.prog (Try.f4.params.toList ++ Rows.fnExactGoodRefSpec.plain.varTypes Try.prog) (ds ++ gs)).all (· ≤ reachBytes) = true := hsz0
  have hval : ∀ (j : Nat) t v, Try.f4.params[j]? = some t → args[j]? = some v → Value.okWide Try.prog W .any base t v := hval0
  have hW' := hW
  obtain ⟨p, q, hA0, hV, rfl, hfz, hnd⟩ := hW
  have hA : DataW.TrodAll enc Try.prog W 0 (fun _ => true) true Try.f4.params.toList args.toList ds p := hA0
  rw [Try.params4] at hA hval hsz
  obtain ⟨v0, vs0, d0, ds0, p0, q0, hargs, rfl, rfl, h0, r0⟩ := trodAll_cons hA
  obtain ⟨v1, vs1, d1, ds1, p1, q1, rfl, rfl, rfl, h1, r1⟩ := trodAll_cons r0
  obtain ⟨rfl, rfl, rfl⟩ := trodAll_nil r1
  obtain rfl : args = #[v0, v1] := by cases args; simp_all
  obtain ⟨rfl, rfl⟩ := trodVars_none hV
  obtain ⟨cs0, rfl, _⟩ := okWide_struct Try.underlying36 (hval 0 36 v0 rfl rfl)
  have t0 := h0
  have lt0 : ∀ x ∈ p0, x.block < W.heap.size := by obtain ⟨m, hm⟩ := t0; exact DataW.trod_lt m _ _ _ hm
  obtain ⟨y0, o0⟩ : ∃ y : S36, Kd.K k36 W y cs0.toList := by
    obtain ⟨fuel, hf⟩ := h0
    exact opens36 H enc W fuel _ _ hf
  have w0 := o0
  obtain ⟨A0_0, c0_0, A0_1, c0_1, e0, hc0_0, hr0_0, hc0_1, hr0_1⟩ := k36_open o0
  obtain rfl : cs0 = #[.slice A0_0 y0.f0.length c0_0, .slice A0_1 y0.f1.length c0_1] := by cases cs0; simp_all
  obtain ⟨cs1, rfl, _⟩ := okWide_struct Try.underlying38 (hval 1 38 v1 rfl rfl)
  have t1 := h1
  have lt1 : ∀ x ∈ p1, x.block < W.heap.size := by obtain ⟨m, hm⟩ := t1; exact DataW.trod_lt m _ _ _ hm
  obtain ⟨y1, o1⟩ : ∃ y : S38, Kd.K k38 W y cs1.toList := by
    obtain ⟨fuel, hf⟩ := h1
    exact opens38 H enc W fuel _ _ hf
  have w1 := o1
  obtain e1 := k38_open o1
  obtain rfl : cs1 = #[.int .i64 y1.f0, .int .i64 y1.f1] := by cases cs1; simp_all
  clear hA0 hval0 hsz0 hsz
  obtain ⟨k, hk⟩ := Pure.FnExactGoodRef y0.f0 y0.f1 y1.f0 y1.f1 (hr0_0.2.1) (hr0_1.2.1)
  refine (laws_FnExactGoodRef.calls k _ _ y0.f0 _ _ y0.f1 y1.f0 y1.f1 true W hr0_0 hc0_0 hr0_1 hc0_1 hk).mono fun e W' ⟨he, bel0⟩ => ?_
  have bel := bel0
  subst he
  exact ⟨_, rfl, _, _, _, [], _, [], hW', trodAll_mk1 (shut_bool Try.underlying4 _), (trodAll_cons_mk (Below.trod laidOut (by kernel_rfl) (of_decide_eq_true (by kernel_rfl)) t0 bel lt0) (trodAll_cons_mk (Below.trod laidOut (by kernel_rfl) (of_decide_eq_true (by kernel_rfl)) t1 bel lt1) trodAll_mk0)), rfl, bel.frame _, fun h => by cases h⟩
set_option maxHeartbeats 4000000 in
set_option maxRecDepth 100000 in
theorem closed : joinedFacts Try.prog 4 Try.f4 Rows.fnExactGoodRefSpec Rows.fnExactGoodRefRow = true := by
  unfold joinedFacts
  rw [Facts.fact_lifts, Facts.fact_make, Facts.fact_mayEnter]
  repeat (any_goals (with_reducible refine Bool.and_eq_true_iff.mpr ⟨?_, ?_⟩))
  all_goals (as_aux_lemma => kernel_rfl)
theorem over : Rows.fnExactGoodRefRow.holds Try.pinned (OpenSpec.ofChange Rows.fnExactGoodRefSpec) :=
  OpenClaim.holds_of_wide 4 Try.f4 rfl rfl rfl rfl rfl rfl rfl ⟨rfl, rfl, rfl, rfl, rfl⟩ rfl rfl rfl rfl rfl (by kernel_rfl) Try.func4 closed
    (of_decide_eq_true (by kernel_rfl)) (by unfold Func.isWrapper; first | (rw [if_pos (by decide +kernel)]; kernel_rfl) | (rw [if_neg (by decide +kernel)]; exact ⟨rfl, rfl⟩))
    (fun os started H enc _ => lifted os started H enc)
theorem proved : Rows.FnExactGoodRefSaid := over
#print axioms proved
end Go.Proofs.Ytkjndikkdbfhbaa.fnExactGoodRef
namespace Go.Proofs.Ytkjndikkdbfhbaa
/-- The row, under a short name, for the claim. -/
theorem fnExactGoodRef_holds : Rows.FnExactGoodRefSaid := fnExactGoodRef.proved
end Go.Proofs.Ytkjndikkdbfhbaa
