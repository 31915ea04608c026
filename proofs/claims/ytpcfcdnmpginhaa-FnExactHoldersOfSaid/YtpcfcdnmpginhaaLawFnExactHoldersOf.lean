-- Written by mp.py (the session's own driver over the kit's printer) for the seat Ytpcfcdnmpginhaa.
import Derived.Test.YtpcfcdnmpginhaaRows
import Derived.Test.YtpcfcdnmpginhaaPureFnExactHoldersOf
import Derived.Test.YtpcfcdnmpginhaaOpen
import Derived.WalkKit
import Derived.ProofKit
import Derived.OpenShut
import Derived.ShutString
import Derived.ChangeOld
import Derived.Below
import Derived.SizedLaws
import Derived.Test.YtpcfcdnmpginhaaFacts
namespace Go.Proofs.Ytpcfcdnmpginhaa.fnExactHoldersOf
open Go.ChangeShapes Go.WideShapes Go.ChangeAt Go.RowKit Go.Proofs.Ytpcfcdnmpginhaa.P Go.Proofs.Ytpcfcdnmpginhaa.Open Go.Proofs.YtpcfcdnmpginhaaW.PrintWords
open Go.ChangeMaps (open_string shut_string)
set_option linter.unusedVariables false
theorem own : ownKnob Try.prog.godebug = none := by kernel_rfl
theorem laidOut : laidOutB Try.prog = true := by kernel_rfl
theorem opens22 : Opens Try.prog (Kd.slice 3 (Kd.int .i64)) 22 := opens_slice Try.underlying22 (opens_int Try.underlying3) (by kernel_rfl)
theorem opens194 : Opens Try.prog k194 194 := opens_struct Try.underlying194 (opensAt_cons (opens_int Try.underlying3) rfl (by kernel_rfl) (opensAt_last (opens_int Try.underlying3) rfl (by kernel_rfl))) (by kernel_rfl) (fun z => ⟨⟨z.1, z.2⟩, rfl⟩)
instance : Inhabited S194 := ⟨z194⟩
theorem opens23 : Opens Try.prog (Kd.slice 194 k194) 23 := opens_slice Try.underlying23 opens194 (by kernel_rfl)
theorem opens25 : Opens Try.prog k25 25 := opens_struct Try.underlying25 (opensAt_cons opens22 rfl (by kernel_rfl) (opensAt_cons opens23 rfl (by kernel_rfl) (opensAt_cons opens22 rfl (by kernel_rfl) (opensAt_cons opens22 rfl (by kernel_rfl) (opensAt_last (opens_int Try.underlying3) rfl (by kernel_rfl)))))) (by kernel_rfl) (fun z => ⟨⟨z.1, z.2.1, z.2.2.1, z.2.2.2.1, z.2.2.2.2⟩, rfl⟩)
set_option maxRecDepth 100000 in
theorem lifted (os : Os) (started : os.Started) (H : Type) (enc : TypeId × Value → H) :
    ReturnsInHanded {} Try.checked os 7 .any (Rows.fnExactHoldersOfSpec.pre6 enc Try.prog Try.f7 Rows.fnExactHoldersOfRow.domain false) (Rows.fnExactHoldersOfSpec.post enc Try.prog Try.f7 false true false false) := by
  refine returnsInHanded_of_change_sized (C := Try.checked) own started (by kernel_rfl) Try.func7
    (ChangeSpec.witness6 (enc := enc) (C := Try.checked) false ⟨#[], #[.agg #[.slice none 0 0, .slice none 0 0, .slice none 0 0, .slice none 0 0, .int .i64 0], .int .i64 0], []⟩ 8 (by kernel_rfl) (by kernel_rfl) (by kernel_rfl) (by kernel_rfl)) ?_
  intro W base args ds gs before hval0 hW hcnd hsz0 _
  have hsz : (DataW.weightsEach Try.prog (Try.f7.params.toList ++ Rows.fnExactHoldersOfSpec.plain.varTypes Try.prog) (ds ++ gs)).all (· ≤ reachBytes) = true := hsz0
  have hval : ∀ (j : Nat) t v, Try.f7.params[j]? = some t → args[j]? = some v → Value.okWide Try.prog W .any base t v := hval0
  have hW' := hW
  obtain ⟨p, q, hA0, hV, rfl, hfz, hnd⟩ := hW
  have hA : DataW.TrodAll enc Try.prog W 0 (fun _ => true) true Try.f7.params.toList args.toList ds p := hA0
  rw [Try.params7] at hA hval hsz
  obtain ⟨v0, vs0, d0, ds0, p0, q0, hargs, rfl, rfl, h0, r0⟩ := trodAll_cons hA
  obtain ⟨v1, vs1, d1, ds1, p1, q1, rfl, rfl, rfl, h1, r1⟩ := trodAll_cons r0
  obtain ⟨rfl, rfl, rfl⟩ := trodAll_nil r1
  obtain rfl : args = #[v0, v1] := by cases args; simp_all
  obtain ⟨rfl, rfl⟩ := trodVars_none hV
  obtain ⟨cs0, rfl, _⟩ := okWide_struct Try.underlying25 (hval 0 25 v0 rfl rfl)
  have t0 := h0
  have lt0 : ∀ x ∈ p0, x.block < W.heap.size := by obtain ⟨m, hm⟩ := t0; exact DataW.trod_lt m _ _ _ hm
  obtain ⟨y0, o0⟩ : ∃ y : S25, Kd.K k25 W y cs0.toList := by
    obtain ⟨fuel, hf⟩ := h0
    exact opens25 H enc W fuel _ _ hf
  have w0 := o0
  obtain ⟨A0_0, c0_0, A0_1, c0_1, A0_2, c0_2, A0_3, c0_3, e0, hc0_0, hr0_0, hc0_1, hr0_1, hc0_2, hr0_2, hc0_3, hr0_3⟩ := k25_open o0
  obtain rfl : cs0 = #[.slice A0_0 y0.f0.length c0_0, .slice A0_1 y0.f1.length c0_1, .slice A0_2 y0.f2.length c0_2, .slice A0_3 y0.f3.length c0_3, .int .i64 y0.f4] := by cases cs0; simp_all
  obtain ⟨a1, rfl, rfl, rfl, w1⟩ := open_int Try.underlying3 (hval 1 3 v1 rfl rfl) h1
  clear hA0 hval0 hsz0 hsz
  obtain ⟨k, hk⟩ := Pure.FnExactHoldersOf y0.f0 y0.f1 y0.f2 y0.f3 y0.f4 a1 (hr0_0.2.1) (hr0_1.2.1) (hr0_2.2.1) (hr0_3.2.1)
  refine (laws_FnExactHoldersOf.calls k _ _ y0.f0 _ _ y0.f1 _ _ y0.f2 _ _ y0.f3 y0.f4 a1 true W hr0_0 hc0_0 hr0_1 hc0_1 hr0_2 hc0_2 hr0_3 hc0_3 hk).mono fun e W' ⟨he, bel0⟩ => ?_
  have bel := bel0
  subst he
  exact ⟨_, rfl, _, _, _, [], _, [], hW', trodAll_mk1 (shut_bool Try.underlying4 _), (trodAll_cons_mk (Below.trod laidOut (by kernel_rfl) (of_decide_eq_true (by kernel_rfl)) t0 bel lt0) (trodAll_cons_mk (shut_int Try.underlying3 w1) trodAll_mk0)), rfl, bel.frame _, fun h => by cases h⟩
set_option maxHeartbeats 4000000 in
set_option maxRecDepth 100000 in
theorem closed : joinedFacts Try.prog 7 Try.f7 Rows.fnExactHoldersOfSpec Rows.fnExactHoldersOfRow = true := by
  unfold joinedFacts
  rw [Facts.fact_lifts, Facts.fact_make, Facts.fact_mayEnter]
  repeat (any_goals (with_reducible refine Bool.and_eq_true_iff.mpr ⟨?_, ?_⟩))
  all_goals (as_aux_lemma => kernel_rfl)
theorem over : Rows.fnExactHoldersOfRow.holds Try.pinned (OpenSpec.ofChange Rows.fnExactHoldersOfSpec) :=
  OpenClaim.holds_of_wide 7 Try.f7 rfl rfl rfl rfl rfl rfl rfl ⟨rfl, rfl, rfl, rfl, rfl⟩ rfl rfl rfl rfl rfl (by kernel_rfl) Try.func7 closed
    (of_decide_eq_true (by kernel_rfl)) (by unfold Func.isWrapper; first | (rw [if_pos (by decide +kernel)]; kernel_rfl) | (rw [if_neg (by decide +kernel)]; exact ⟨rfl, rfl⟩))
    (fun os started H enc _ => lifted os started H enc)
theorem proved : Rows.FnExactHoldersOfSaid := over
#print axioms proved
end Go.Proofs.Ytpcfcdnmpginhaa.fnExactHoldersOf
namespace Go.Proofs.Ytpcfcdnmpginhaa
/-- The row, under a short name, for the claim. -/
theorem fnExactHoldersOf_holds : Rows.FnExactHoldersOfSaid := fnExactHoldersOf.proved
end Go.Proofs.Ytpcfcdnmpginhaa
