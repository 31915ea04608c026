-- Written by mp.py (the session's own driver over the kit's printer) for the seat YtchpopocnaoabaaDoor.
import Derived.Test.YtchpopocnaoabaaDoorRows
import Derived.Test.YtchpopocnaoabaaDoorPureFnMemTexts
import Derived.Test.YtchpopocnaoabaaDoorOpenR
import Derived.Test.YtchpopocnaoabaaDoorTie
import Derived.Test.YtchpopocnaoabaaDoorCards
import Derived.Test.YtchpopocnaoabaaDoorEnvRow
import Derived.SevenTiedAt
import Derived.Lay
import Derived.LaidMore
import Derived.Stop.Joined
import Derived.WalkKit
import Derived.ProofKit
import Derived.OpenShut
import Derived.ShutString
import Derived.ChangeOld
import Derived.Below
import Derived.SizedLaws
import Derived.Test.YtchpopocnaoabaaDoorFacts
namespace Go.Proofs.YtchpopocnaoabaaDoor.fnMemTexts
open Go.ChangeShapes Go.WideShapes Go.ChangeAt Go.RowKit Go.Proofs.YtchpopocnaoabaaDoor.P Go.Proofs.YtchpopocnaoabaaDoor.OpenR Go.Proofs.YtchpopocnaoabaaDoorW.PrintWords
open Go.ChangeMaps (open_string shut_string)
set_option linter.unusedVariables false
theorem own : ownKnob Tryd.prog.godebug = none := by kernel_rfl
theorem laidOut : laidOutB Tryd.prog = true := by kernel_rfl
theorem opens22 : Opens Tryd.prog (Kd.slice 5 (Kd.int .u8)) (fun y => (∀ q_ ∈ y, True)) 22 := opens_slice Tryd.underlying22 (opens_intk Tryd.underlying5) (by kernel_rfl)
set_option maxRecDepth 100000 in
theorem lifted (os : Os) (started : os.Started) (H : Type) (enc : TypeId × Value → H) :
    ReturnsInHanded {} Tryd.checked os 12 .any (fun w args => (Rows.fnMemTextsSpec.pre enc Tryd.prog Tryd.f12 Rows.fnMemTextsRow.domain false w args ∧ laidMetH Tryd.prog Rows.fnMemTextsRow.laid w) ∧ sizedMet enc Tryd.prog Tryd.f12 (OpenSpec.ofChange Rows.fnMemTextsSpec) false w args) (Rows.fnMemTextsSpec.post enc Tryd.prog Tryd.f12 false true false false) := by
  refine returnsInHanded_laid_shaped_YtchpopocnaoabaaDoor (C := Tryd.checked) (X := fun w _ => laidMetH Tryd.prog Rows.fnMemTextsRow.laid w) (fun _ _ _ hh h => h.of_heap hh) own started (by kernel_rfl) Tryd.func12
    (ChangeSpec.witness_shaped (enc := enc) (C := Tryd.checked) (os := os) (X := fun w _ => laidMetH Tryd.prog Rows.fnMemTextsRow.laid w) false (World.laidAll Tryd.prog os Rows.fnMemTextsRow.laid) #[.slice none 0 0] 8 (World.laidAll_os _ _ _)
      (World.shaped_of_ZipB (by kernel_rfl) (by kernel_rfl)) (by kernel_rfl) (by kernel_rfl) (by kernel_rfl)
      (by rw [MakeChecks.laidMetH_plain _ _ _ (by kernel_rfl)]; exact laidMet_laidAll _ (by kernel_rfl) (by kernel_rfl))) ?_
  intro W base args ds gs before hval0 hW hsz0 hL hsh_
  have hsz : (DataW.weightsEach Tryd.prog (Tryd.f12.params.toList ++ Rows.fnMemTextsSpec.plain.varTypes Tryd.prog) (ds ++ gs)).all (· ≤ reachBytes) = true := hsz0
  have hval : ∀ (j : Nat) t v, Tryd.f12.params[j]? = some t → args[j]? = some v → Value.okWide Tryd.prog W .any base t v := hval0
  have hW' := hW
  obtain ⟨p, q, hA0, hV, rfl, hfz, hnd⟩ := hW
  have hA : DataW.TrodAll enc Tryd.prog W 0 (fun _ => true) true Tryd.f12.params.toList args.toList ds p := hA0
  rw [Tryd.params12] at hA hval hsz
  obtain ⟨v0, vs0, d0, ds0, p0, q0, hargs, rfl, rfl, h0, r0⟩ := trodAll_cons hA
  obtain ⟨rfl, rfl, rfl⟩ := trodAll_nil r0
  obtain rfl : args = #[v0] := by cases args; simp_all
  obtain ⟨rfl, rfl⟩ := trodVars_none hV
  obtain ⟨a0, len0, cap0, rfl⟩ := okWide_slice Tryd.underlying22 (hval 0 22 v0 rfl rfl)
  have t0 := h0
  have lt0 : ∀ x ∈ p0, x.block < W.heap.size := by obtain ⟨m, hm⟩ := t0; exact DataW.trod_lt m _ _ _ hm
  obtain ⟨y0, o0, g0⟩ : ∃ y : List Int, Kd.K (Kd.slice 5 (Kd.int .u8)) W y [.slice a0 len0 cap0] ∧ ((∀ q_ ∈ y, True)) := by
    obtain ⟨fuel, hf⟩ := h0
    exact opens22 H enc W fuel _ _ hf
  obtain ⟨A0, c0, e0, hc0, hr0⟩ := o0
  simp only [List.cons.injEq, Value.slice.injEq, and_true] at e0
  obtain ⟨rfl, rfl, rfl⟩ := e0
  clear hA0 hval0 hsz0 hsz
  obtain ⟨k, hk⟩ := Pure.FnMemTexts y0 (hr0.2.1)
  have hE := env_of_P hL hsh_
  refine (laws_FnMemTexts.calls (hE_ := hE) k _ _ y0 true W hr0 hc0 hk rfl).mono fun e W' ⟨he, bel0⟩ => ?_
  have bel := bel0
  subst he
  exact ⟨_, rfl, _, _, _, [], _, [], hW', trodAll_mk1 (shut_bool Tryd.underlying4 _), (trodAll_cons_mk (Below.trod laidOut (by kernel_rfl) (of_decide_eq_true (by kernel_rfl)) t0 bel lt0) trodAll_mk0), rfl, bel.frame _, fun h => by cases h⟩
set_option maxHeartbeats 4000000 in
set_option maxRecDepth 100000 in
theorem closed : joinedFacts Tryd.prog 12 Tryd.f12 Rows.fnMemTextsSpec Rows.fnMemTextsRow = true := by
  unfold joinedFacts
  rw [Facts.fact_lifts, Facts.fact_make, Facts.fact_mayEnter]
  repeat (any_goals (with_reducible refine Bool.and_eq_true_iff.mpr ⟨?_, ?_⟩))
  all_goals (as_aux_lemma => kernel_rfl)
theorem over : Rows.fnMemTextsRow.holds Tryd.pinned (OpenSpec.ofChange Rows.fnMemTextsSpec) :=
  OpenClaim.holds_of_wide 12 Tryd.f12 rfl rfl rfl rfl rfl rfl rfl ⟨rfl, rfl, rfl, rfl, rfl⟩ rfl rfl rfl rfl rfl (by kernel_rfl) Tryd.func12 closed
    (of_decide_eq_true (by kernel_rfl)) (by unfold Func.isWrapper; first | (rw [if_pos (by decide +kernel)]; kernel_rfl) | (rw [if_neg (by decide +kernel)]; exact ⟨rfl, rfl⟩))
    (fun os started H enc _ => lifted os started H enc)
set_option maxRecDepth 100000 in
theorem wf_ : Rows.fnMemTextsRow.wfByText (OpenSpec.ofChange Rows.fnMemTextsSpec) = true := by kernel_rfl
set_option maxRecDepth 100000 in
theorem goes_ : false = Rows.fnMemTextsRow.goesBy Tryd.pinned.checked.prog := by kernel_rfl
theorem named_ : Tryd.prog.funcNamed Rows.fnMemTextsRow.func = some 12 := by kernel_rfl
theorem stand_ : ([22].all fun u => !Tryd.prog.wantsStandIn u) = true := by kernel_rfl
theorem proved : Rows.FnMemTextsCardSaid :=
  Claim7.holds_tied_plain_at .later [] [.data, .data, .data, .data, .sentinel, .sentinel, .pinned] true (true, "40909ffbdfce446d41544ab50ad726d5182760ef3d57485115cd8ef42070093b") true over (fun _ h => by cases h) wf_ (fun _ h => by cases h) fnMemTexts_row_tie rfl ⟨rfl, rfl⟩ mainIs_ rfl
    (fun f fn hf hfn => by
      obtain rfl : f = 12 := Option.some.inj (named_.symm.trans hf) |>.symm
      obtain rfl : fn = Tryd.f12 := (Option.some.inj (Tryd.func12.symm.trans hfn)).symm
      exact ⟨looks_, fun j t ht => by
        rw [Tryd.params12] at ht
        have hm : t ∈ [22] := by simpa using Array.mem_of_getElem? ht
        exact (show Tryd.prog.wantsStandIn t = false by simpa using List.all_eq_true.1 stand_ t hm)⟩)
    goes_
#print axioms proved
end Go.Proofs.YtchpopocnaoabaaDoor.fnMemTexts
namespace Go.Proofs.YtchpopocnaoabaaDoor
/-- The row, under a short name, for the claim. -/
theorem fnMemTexts_holds : Rows.FnMemTextsCardSaid := fnMemTexts.proved
end Go.Proofs.YtchpopocnaoabaaDoor
