-- Written by mp.py (the session's own driver over the kit's printer) for the seat Ytpcfcdnmpginhaa.
import Derived.Test.YtpcfcdnmpginhaaRows
import Derived.Test.YtpcfcdnmpginhaaPureFnExactHolds
import Derived.Test.YtpcfcdnmpginhaaOpen
import Derived.WalkKit
import Derived.ProofKit
import Derived.OpenShut
import Derived.ShutString
import Derived.ChangeOld
import Derived.Below
import Derived.SizedLaws
import Derived.Test.YtpcfcdnmpginhaaFacts
namespace Go.Proofs.Ytpcfcdnmpginhaa.fnExactHolds
open Go.ChangeShapes Go.WideShapes Go.ChangeAt Go.RowKit Go.Proofs.Ytpcfcdnmpginhaa.P Go.Proofs.Ytpcfcdnmpginhaa.Open Go.Proofs.YtpcfcdnmpginhaaW.PrintWords
open Go.ChangeMaps (open_string shut_string)
set_option linter.unusedVariables false
theorem own : ownKnob Try.prog.godebug = none := by kernel_rfl
theorem laidOut : laidOutB Try.prog = true := by kernel_rfl
theorem C_mem {α : Type} {d : Kd α} {w : World} {A : Option Addr} {xs : List α} {q : α} (h : Kd.C d w A xs.length xs) (hq : q ∈ xs) : ∃ cs, d.K w q cs := by
  obtain ⟨i, hi, rfl⟩ := List.getElem_of_mem hq
  obtain ⟨_, c, _, _, hK, _⟩ := Kd.C_get h xs[i] (i : Int) (by omega) (by omega)
  rw [Int.toNat_natCast, List.getD_eq_getElem?_getD, List.getElem?_eq_getElem hi] at hK
  exact ⟨c, hK⟩
theorem opens22 : Opens Try.prog (Kd.slice 3 (Kd.int .i64)) 22 := opens_slice Try.underlying22 (opens_int Try.underlying3) (by kernel_rfl)
theorem opens35 : Opens Try.prog k35 35 := opens_struct Try.underlying35 (opensAt_last opens22 rfl (by kernel_rfl)) (by kernel_rfl) (fun z => ⟨⟨z⟩, rfl⟩)
theorem opens184 : Opens Try.prog k184 184 := opens_struct Try.underlying184 (opensAt_cons (opens_int Try.underlying3) rfl (by kernel_rfl) (opensAt_last (opens_int Try.underlying3) rfl (by kernel_rfl))) (by kernel_rfl) (fun z => ⟨⟨z.1, z.2⟩, rfl⟩)
instance : Inhabited S184 := ⟨z184⟩
theorem opens105 : Opens Try.prog (Kd.slice 184 k184) 105 := opens_slice Try.underlying105 opens184 (by kernel_rfl)
theorem opens205 : Opens Try.prog k205 205 := opens_struct Try.underlying205 (opensAt_cons (opens_int Try.underlying3) rfl (by kernel_rfl) (opensAt_cons opens22 rfl (by kernel_rfl) (opensAt_last opens105 rfl (by kernel_rfl)))) (by kernel_rfl) (fun z => ⟨⟨z.1, z.2.1, z.2.2⟩, rfl⟩)
instance : Inhabited S205 := ⟨z205⟩
theorem opens36 : Opens Try.prog (Kd.slice 205 k205) 36 := opens_slice Try.underlying36 opens205 (by kernel_rfl)
theorem opens38 : Opens Try.prog k38 38 := opens_struct Try.underlying38 (opensAt_cons opens35 rfl (by kernel_rfl) (opensAt_last opens36 rfl (by kernel_rfl))) (by kernel_rfl) (fun z => ⟨⟨z.1, z.2⟩, rfl⟩)
theorem opens141 : Opens Try.prog k141 141 := opens_struct Try.underlying141 (opensAt_cons (opens_int Try.underlying3) rfl (by kernel_rfl) (opensAt_cons (opens_int Try.underlying3) rfl (by kernel_rfl) (opensAt_cons (opens_int Try.underlying3) rfl (by kernel_rfl) (opensAt_last (opens_int Try.underlying3) rfl (by kernel_rfl))))) (by kernel_rfl) (fun z => ⟨⟨z.1, z.2.1, z.2.2.1, z.2.2.2⟩, rfl⟩)
instance : Inhabited S141 := ⟨z141⟩
theorem opens39 : Opens Try.prog (Kd.slice 141 k141) 39 := opens_slice Try.underlying39 opens141 (by kernel_rfl)
set_option maxRecDepth 100000 in
theorem lifted (os : Os) (started : os.Started) (H : Type) (enc : TypeId × Value → H) :
    ReturnsInHanded {} Try.checked os 5 .any (Rows.fnExactHoldsSpec.pre6 enc Try.prog Try.f5 Rows.fnExactHoldsRow.domain false) (Rows.fnExactHoldsSpec.post enc Try.prog Try.f5 false true false false) := by
  refine returnsInHanded_of_change_sized (C := Try.checked) own started (by kernel_rfl) Try.func5
    (ChangeSpec.witness6 (enc := enc) (C := Try.checked) false ⟨#[], #[.agg #[.slice none 0 0, .slice none 0 0], .slice none 0 0], []⟩ 8 (by kernel_rfl) (by kernel_rfl) (by kernel_rfl) (by kernel_rfl)) ?_
  intro W base args ds gs before hval0 hW hcnd hsz0 _
  have hsz : (DataW.weightsEach Try.prog (Try.f5.params.toList ++ Rows.fnExactHoldsSpec.plain.varTypes Try.prog) (ds ++ gs)).all (· ≤ reachBytes) = true := hsz0
  have hval : ∀ (j : Nat) t v, Try.f5.params[j]? = some t → args[j]? = some v → Value.okWide Try.prog W .any base t v := hval0
  have hW' := hW
  obtain ⟨p, q, hA0, hV, rfl, hfz, hnd⟩ := hW
  have hA : DataW.TrodAll enc Try.prog W 0 (fun _ => true) true Try.f5.params.toList args.toList ds p := hA0
  rw [Try.params5] at hA hval hsz
  obtain ⟨v0, vs0, d0, ds0, p0, q0, hargs, rfl, rfl, h0, r0⟩ := trodAll_cons hA
  obtain ⟨v1, vs1, d1, ds1, p1, q1, rfl, rfl, rfl, h1, r1⟩ := trodAll_cons r0
  obtain ⟨rfl, rfl, rfl⟩ := trodAll_nil r1
  obtain rfl : args = #[v0, v1] := by cases args; simp_all
  obtain ⟨rfl, rfl⟩ := trodVars_none hV
  obtain ⟨cs0, rfl, _⟩ := okWide_struct Try.underlying38 (hval 0 38 v0 rfl rfl)
  have t0 := h0
  have lt0 : ∀ x ∈ p0, x.block < W.heap.size := by obtain ⟨m, hm⟩ := t0; exact DataW.trod_lt m _ _ _ hm
  obtain ⟨y0, o0⟩ : ∃ y : S38, Kd.K k38 W y cs0.toList := by
    obtain ⟨fuel, hf⟩ := h0
    exact opens38 H enc W fuel _ _ hf
  have w0 := o0
  obtain ⟨A0_0, c0_0, A0_1, c0_1, e0, hc0_0, hr0_0, hc0_1, hr0_1⟩ := k38_open o0
  obtain rfl : cs0 = #[.slice A0_0 y0.f0.f0.length c0_0, .slice A0_1 y0.f1.length c0_1] := by cases cs0; simp_all
  obtain ⟨a1, len1, cap1, rfl⟩ := okWide_slice Try.underlying39 (hval 1 39 v1 rfl rfl)
  have t1 := h1
  have lt1 : ∀ x ∈ p1, x.block < W.heap.size := by obtain ⟨m, hm⟩ := t1; exact DataW.trod_lt m _ _ _ hm
  obtain ⟨y1, o1⟩ : ∃ y : List (S141), Kd.K (Kd.slice 141 k141) W y [.slice a1 len1 cap1] := by
    obtain ⟨fuel, hf⟩ := h1
    exact opens39 H enc W fuel _ _ hf
  obtain ⟨A1, c1, e1, hc1, hr1⟩ := o1
  simp only [List.cons.injEq, Value.slice.injEq, and_true] at e1
  obtain ⟨rfl, rfl, rfl⟩ := e1
  clear hA0 hval0 hsz0 hsz
  obtain ⟨k, hk⟩ := Pure.FnExactHolds y0.f0.f0 y0.f1 y1 (hr0_0.2.1) (⟨hr0_1.2.1, fun q_ hq_ => by obtain ⟨cs_, hk_⟩ := C_mem hr0_1 hq_; exact (by obtain ⟨A1_, c1_, A2_, c2_, _, _, hr1_, _, hr2_⟩ := k205_open hk_; exact ⟨hr1_.2.1, hr2_.2.1⟩)⟩) (hr1.2.1)
  refine (laws_FnExactHolds.calls k _ _ y0.f0.f0 _ _ y0.f1 _ _ y1 true W hr0_0 hc0_0 hr0_1 hc0_1 hr1 hc1 hk).mono fun e W' ⟨he, bel0⟩ => ?_
  have bel := bel0
  subst he
  exact ⟨_, rfl, _, _, _, [], _, [], hW', trodAll_mk1 (shut_bool Try.underlying4 _), (trodAll_cons_mk (Below.trod laidOut (by kernel_rfl) (of_decide_eq_true (by kernel_rfl)) t0 bel lt0) (trodAll_cons_mk (Below.trod laidOut (by kernel_rfl) (of_decide_eq_true (by kernel_rfl)) t1 bel lt1) trodAll_mk0)), rfl, bel.frame _, fun h => by cases h⟩
set_option maxHeartbeats 4000000 in
set_option maxRecDepth 100000 in
theorem closed : joinedFacts Try.prog 5 Try.f5 Rows.fnExactHoldsSpec Rows.fnExactHoldsRow = true := by
  unfold joinedFacts
  rw [Facts.fact_lifts, Facts.fact_make, Facts.fact_mayEnter]
  repeat (any_goals (with_reducible refine Bool.and_eq_true_iff.mpr ⟨?_, ?_⟩))
  all_goals (as_aux_lemma => kernel_rfl)
theorem over : Rows.fnExactHoldsRow.holds Try.pinned (OpenSpec.ofChange Rows.fnExactHoldsSpec) :=
  OpenClaim.holds_of_wide 5 Try.f5 rfl rfl rfl rfl rfl rfl rfl ⟨rfl, rfl, rfl, rfl, rfl⟩ rfl rfl rfl rfl rfl (by kernel_rfl) Try.func5 closed
    (of_decide_eq_true (by kernel_rfl)) (by unfold Func.isWrapper; first | (rw [if_pos (by decide +kernel)]; kernel_rfl) | (rw [if_neg (by decide +kernel)]; exact ⟨rfl, rfl⟩))
    (fun os started H enc _ => lifted os started H enc)
theorem proved : Rows.FnExactHoldsSaid := over
#print axioms proved
end Go.Proofs.Ytpcfcdnmpginhaa.fnExactHolds
namespace Go.Proofs.Ytpcfcdnmpginhaa
/-- The row, under a short name, for the claim. -/
theorem fnExactHolds_holds : Rows.FnExactHoldsSaid := fnExactHolds.proved
end Go.Proofs.Ytpcfcdnmpginhaa
