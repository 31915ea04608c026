-- Written by mp.py (the session's own driver over the kit's printer) for the seat YtchpopocnaoabaaDoor.
import Derived.Test.YtchpopocnaoabaaDoorRows
import Derived.Test.YtchpopocnaoabaaDoorPureFnExactParseAsk
import Derived.Test.YtchpopocnaoabaaDoorOpenR
import Derived.Test.YtchpopocnaoabaaDoorTie
import Derived.Test.YtchpopocnaoabaaDoorCards
import Derived.Test.YtchpopocnaoabaaDoorEnvRow
import Derived.SevenTiedAt
import Derived.Lay
import Derived.LaidMore
import Derived.Stop.Joined
import Derived.WalkKit
import Derived.ProofKit
import Derived.OpenShut
import Derived.ShutString
import Derived.ChangeOld
import Derived.Below
import Derived.SizedLaws
import Derived.Test.YtchpopocnaoabaaDoorFacts
import Derived.Test.YtchpopocnaoabaaDoorV
namespace Go.Proofs.YtchpopocnaoabaaDoor.fnExactParseAsk
open Go.ChangeShapes Go.WideShapes Go.ChangeAt Go.RowKit Go.Proofs.YtchpopocnaoabaaDoor.P Go.Proofs.YtchpopocnaoabaaDoor.OpenR Go.Proofs.YtchpopocnaoabaaDoorW.PrintWords
open Go.ChangeMaps (open_string shut_string)
set_option linter.unusedVariables false
theorem own : ownKnob Tryd.prog.godebug = none := by kernel_rfl
theorem laidOut : laidOutB Tryd.prog = true := by kernel_rfl
set_option maxRecDepth 100000 in
theorem lifted (os : Os) (started : os.Started) (H : Type) (enc : TypeId × Value → H) :
    ReturnsInHanded {} Tryd.checked os 4 .any (fun w args => (Rows.fnExactParseAskSpec.pre enc Tryd.prog Tryd.f4 Rows.fnExactParseAskRow.domain false w args ∧ laidMetH Tryd.prog Rows.fnExactParseAskRow.laid w) ∧ sizedMet enc Tryd.prog Tryd.f4 (OpenSpec.ofChange Rows.fnExactParseAskSpec) false w args) (Rows.fnExactParseAskSpec.post enc Tryd.prog Tryd.f4 false true false false) := by
  refine returnsInHanded_laid_shaped_YtchpopocnaoabaaDoor (C := Tryd.checked) (X := fun w _ => laidMetH Tryd.prog Rows.fnExactParseAskRow.laid w) (fun _ _ _ hh h => h.of_heap hh) own started (by kernel_rfl) Tryd.func4
    (ChangeSpec.witness_shaped (enc := enc) (C := Tryd.checked) (os := os) (X := fun w _ => laidMetH Tryd.prog Rows.fnExactParseAskRow.laid w) false (World.laidAll Tryd.prog os Rows.fnExactParseAskRow.laid) #[.string ByteArray.empty] 8 (World.laidAll_os _ _ _)
      (World.shaped_of_ZipB (by kernel_rfl) (by kernel_rfl)) (by kernel_rfl) (by kernel_rfl) (by kernel_rfl)
      (by rw [MakeChecks.laidMetH_plain _ _ _ (by kernel_rfl)]; exact laidMet_laidAll _ (by kernel_rfl) (by kernel_rfl))) ?_
  intro W base args ds gs before hval0 hW hsz0 hL hsh_
  have hsz : (DataW.weightsEach Tryd.prog (Tryd.f4.params.toList ++ Rows.fnExactParseAskSpec.plain.varTypes Tryd.prog) (ds ++ gs)).all (· ≤ reachBytes) = true := hsz0
  have hval : ∀ (j : Nat) t v, Tryd.f4.params[j]? = some t → args[j]? = some v → Value.okWide Tryd.prog W .any base t v := hval0
  have hW' := hW
  obtain ⟨p, q, hA0, hV, rfl, hfz, hnd⟩ := hW
  have hA : DataW.TrodAll enc Tryd.prog W 0 (fun _ => true) true Tryd.f4.params.toList args.toList ds p := hA0
  rw [Tryd.params4] at hA hval hsz
  obtain ⟨v0, vs0, d0, ds0, p0, q0, hargs, rfl, rfl, h0, r0⟩ := trodAll_cons hA
  obtain ⟨rfl, rfl, rfl⟩ := trodAll_nil r0
  obtain rfl : args = #[v0] := by cases args; simp_all
  obtain ⟨rfl, rfl⟩ := trodVars_none hV
  obtain ⟨a0, rfl, rfl, rfl, y0⟩ := open_string Tryd.underlying9 (hval 0 9 v0 rfl rfl) h0
  have w0 : a0.size ≤ 140737488351232 := by
    have z := sized_string hsz (j := 0) (t := 9) rfl rfl
    rw [Array.length_toList] at z
    exact z
  clear hA0 hval0 hsz0 hsz
  obtain ⟨k, hk⟩ := Pure.FnExactParseAsk a0 (w0)
  have hE := env_of_P hL hsh_
  refine (laws_FnExactParseAsk.calls (hE_ := hE) k a0 true W  hk rfl).mono fun e W' ⟨he, bel0⟩ => ?_
  have bel := bel0
  subst he
  exact ⟨_, rfl, _, _, _, [], _, [], hW', trodAll_mk1 (shut_bool Tryd.underlying4 _), (trodAll_cons_mk (shut_string Tryd.underlying9 y0) trodAll_mk0), rfl, bel.frame _, fun h => by cases h⟩
set_option maxHeartbeats 4000000 in
set_option maxRecDepth 100000 in
theorem closed : joinedFacts Tryd.prog 4 Tryd.f4 Rows.fnExactParseAskSpec Rows.fnExactParseAskRow = true := by
  unfold joinedFacts
  rw [Facts.fact_lifts, Facts.fact_make, Facts.fact_mayEnter]
  repeat (any_goals (with_reducible refine Bool.and_eq_true_iff.mpr ⟨?_, ?_⟩))
  all_goals (as_aux_lemma => kernel_rfl)
theorem over : Rows.fnExactParseAskRow.holds Tryd.pinned (OpenSpec.ofChange Rows.fnExactParseAskSpec) :=
  OpenClaim.holds_of_wide 4 Tryd.f4 rfl rfl rfl rfl rfl rfl rfl ⟨rfl, rfl, rfl, rfl, rfl⟩ rfl rfl rfl rfl rfl (by kernel_rfl) Tryd.func4 closed
    (of_decide_eq_true (by kernel_rfl)) (by unfold Func.isWrapper; first | (rw [if_pos (by decide +kernel)]; kernel_rfl) | (rw [if_neg (by decide +kernel)]; exact ⟨rfl, rfl⟩))
    (fun os started H enc _ => lifted os started H enc)
set_option maxRecDepth 100000 in
theorem wf_ : Rows.fnExactParseAskRow.wfByText (OpenSpec.ofChange Rows.fnExactParseAskSpec) = true := by kernel_rfl
set_option maxRecDepth 100000 in
theorem goes_ : false = Rows.fnExactParseAskRow.goesBy Tryd.pinned.checked.prog := by kernel_rfl
theorem named_ : Tryd.prog.funcNamed Rows.fnExactParseAskRow.func = some 4 := by kernel_rfl
theorem stand_ : ([9].all fun u => !Tryd.prog.wantsStandIn u) = true := by kernel_rfl
theorem proved : Rows.FnExactParseAskCardSaid :=
  Claim7.holds_tied_plain_at .later [] [.data, .data, .data, .data, .sentinel, .sentinel, .pinned] true (true, "40909ffbdfce446d41544ab50ad726d5182760ef3d57485115cd8ef42070093b") true over (fun _ h => by cases h) wf_ (fun _ h => by cases h) fnExactParseAsk_row_tie rfl ⟨rfl, rfl⟩ mainIs_ rfl
    (fun f fn hf hfn => by
      obtain rfl : f = 4 := Option.some.inj (named_.symm.trans hf) |>.symm
      obtain rfl : fn = Tryd.f4 := (Option.some.inj (Tryd.func4.symm.trans hfn)).symm
      exact ⟨looks_, fun j t ht => by
        rw [Tryd.params4] at ht
        have hm : t ∈ [9] := by simpa using Array.mem_of_getElem? ht
        exact (show Tryd.prog.wantsStandIn t = false by simpa using List.all_eq_true.1 stand_ t hm)⟩)
    goes_
#print axioms proved
end Go.Proofs.YtchpopocnaoabaaDoor.fnExactParseAsk
namespace Go.Proofs.YtchpopocnaoabaaDoor
/-- The row, under a short name, for the claim. -/
theorem fnExactParseAsk_holds : Rows.FnExactParseAskCardSaid := fnExactParseAsk.proved
end Go.Proofs.YtchpopocnaoabaaDoor
