-- Written by mp.py (the session's own driver over the kit's printer) for the seat YtbgclnjnngolmaaDoor.
import Derived.Test.YtbgclnjnngolmaaDoorRows
import Derived.Test.YtbgclnjnngolmaaDoorPureFnCodes
import Derived.Test.YtbgclnjnngolmaaDoorOpenR
import Derived.Test.YtbgclnjnngolmaaDoorTie
import Derived.Test.YtbgclnjnngolmaaDoorCards
import Derived.Test.YtbgclnjnngolmaaDoorEnvRow
import Derived.SevenTiedAt
import Derived.Lay
import Derived.LaidMore
import Derived.Stop.Joined
import Derived.WalkKit
import Derived.ProofKit
import Derived.OpenShut
import Derived.ShutString
import Derived.ChangeOld
import Derived.Below
import Derived.SizedLaws
namespace Go.Proofs.YtbgclnjnngolmaaDoor.fnCodes
open Go.ChangeShapes Go.WideShapes Go.ChangeAt Go.RowKit Go.Proofs.YtbgclnjnngolmaaDoor.P Go.Proofs.YtbgclnjnngolmaaDoor.OpenR Go.Proofs.YtbgclnjnngolmaaDoorW.PrintWords
open Go.ChangeMaps (open_string shut_string)
set_option linter.unusedVariables false
theorem own : ownKnob Tryd.prog.godebug = none := by kernel_rfl
theorem laidOut : laidOutB Tryd.prog = true := by kernel_rfl
theorem opens22 : Opens Tryd.prog (Kd.slice 5 (Kd.int .u8)) (fun y => (∀ q_ ∈ y, True)) 22 := opens_slice Tryd.underlying22 (opens_intk Tryd.underlying5) (by kernel_rfl)
set_option maxRecDepth 100000 in
theorem lifted (os : Os) (started : os.Started) (H : Type) (enc : TypeId × Value → H) :
    ReturnsInHanded {} Tryd.checked os 3 .any (fun w args => (Rows.fnCodesSpec.pre enc Tryd.prog Tryd.f3 Rows.fnCodesRow.domain false w args ∧ laidMetH Tryd.prog Rows.fnCodesRow.laid w) ∧ sizedMet enc Tryd.prog Tryd.f3 (OpenSpec.ofChange Rows.fnCodesSpec) false w args) (Rows.fnCodesSpec.post enc Tryd.prog Tryd.f3 false true false false) := by
  refine returnsInHanded_laid_shaped_YtbgclnjnngolmaaDoor (C := Tryd.checked) (X := fun w _ => laidMetH Tryd.prog Rows.fnCodesRow.laid w) (fun _ _ _ hh h => h.of_heap hh) own started (by kernel_rfl) Tryd.func3
    (ChangeSpec.witness_shaped (enc := enc) (C := Tryd.checked) (os := os) (X := fun w _ => laidMetH Tryd.prog Rows.fnCodesRow.laid w) false (World.laidAll Tryd.prog os Rows.fnCodesRow.laid) #[.slice none 0 0] 8 (World.laidAll_os _ _ _)
      (World.shaped_of_ZipB (by kernel_rfl) (by kernel_rfl)) (by kernel_rfl) (by kernel_rfl) (by kernel_rfl)
      (by rw [MakeChecks.laidMetH_plain _ _ _ (by kernel_rfl)]; exact laidMet_laidAll _ (by kernel_rfl) (by kernel_rfl))) ?_
  intro W base args ds gs before hval0 hW hsz0 hL hsh_
  have hsz : (DataW.weightsEach Tryd.prog (Tryd.f3.params.toList ++ Rows.fnCodesSpec.plain.varTypes Tryd.prog) (ds ++ gs)).all (· ≤ reachBytes) = true := hsz0
  have hval : ∀ (j : Nat) t v, Tryd.f3.params[j]? = some t → args[j]? = some v → Value.okWide Tryd.prog W .any base t v := hval0
  have hW' := hW
  obtain ⟨p, q, hA0, hV, rfl, hfz, hnd⟩ := hW
  have hA : DataW.TrodAll enc Tryd.prog W 0 (fun _ => true) true Tryd.f3.params.toList args.toList ds p := hA0
  rw [Tryd.params3] at hA hval hsz
  obtain ⟨v0, vs0, d0, ds0, p0, q0, hargs, rfl, rfl, h0, r0⟩ := trodAll_cons hA
  obtain ⟨rfl, rfl, rfl⟩ := trodAll_nil r0
  obtain rfl : args = #[v0] := by cases args; simp_all
  obtain ⟨rfl, rfl⟩ := trodVars_none hV
  obtain ⟨a0, len0, cap0, rfl⟩ := okWide_slice Tryd.underlying22 (hval 0 22 v0 rfl rfl)
  have t0 := h0
  have lt0 : ∀ x ∈ p0, x.block < W.heap.size := by obtain ⟨m, hm⟩ := t0; exact DataW.trod_lt m _ _ _ hm
  obtain ⟨y0, o0, g0⟩ : ∃ y : List Int, Kd.K (Kd.slice 5 (Kd.int .u8)) W y [.slice a0 len0 cap0] ∧ ((∀ q_ ∈ y, True)) := by
    obtain ⟨fuel, hf⟩ := h0
    exact opens22 H enc W fuel _ _ hf
  obtain ⟨A0, c0, e0, hc0, hr0⟩ := o0
  simp only [List.cons.injEq, Value.slice.injEq, and_true] at e0
  obtain ⟨rfl, rfl, rfl⟩ := e0
  clear hA0 hval0 hsz0 hsz
  obtain ⟨k, hk⟩ := Pure.FnCodes y0 (hr0.2.1)
  have hE := env_of_P hL hsh_
  refine (laws_FnCodes.calls (hE_ := hE) k _ _ y0 true W hr0 hc0 hk rfl).mono fun e W' ⟨he, bel0⟩ => ?_
  have bel := bel0
  subst he
  exact ⟨_, rfl, _, _, _, [], _, [], hW', trodAll_mk1 (shut_bool Tryd.underlying4 _), (trodAll_cons_mk (Below.trod laidOut (by kernel_rfl) (of_decide_eq_true (by kernel_rfl)) t0 bel lt0) trodAll_mk0), rfl, bel.frame _, fun h => by cases h⟩
theorem over : Rows.fnCodesRow.holds Tryd.pinned (OpenSpec.ofChange Rows.fnCodesSpec) :=
  OpenClaim.holds_of_wide 3 Tryd.f3 rfl rfl rfl rfl rfl rfl rfl ⟨rfl, rfl, rfl, rfl, rfl⟩ rfl rfl rfl rfl rfl (by kernel_rfl) Tryd.func3 (by kernel_rfl)
    (of_decide_eq_true (by kernel_rfl)) (by unfold Func.isWrapper; first | (rw [if_pos (by decide +kernel)]; kernel_rfl) | (rw [if_neg (by decide +kernel)]; exact ⟨rfl, rfl⟩))
    (fun os started H enc _ => lifted os started H enc)
set_option maxRecDepth 100000 in
theorem wf_ : Rows.fnCodesRow.wfByText (OpenSpec.ofChange Rows.fnCodesSpec) = true := by kernel_rfl
set_option maxRecDepth 100000 in
theorem goes_ : false = Rows.fnCodesRow.goesBy Tryd.pinned.checked.prog := by kernel_rfl
theorem named_ : Tryd.prog.funcNamed Rows.fnCodesRow.func = some 3 := by kernel_rfl
theorem stand_ : ([22].all fun u => !Tryd.prog.wantsStandIn u) = true := by kernel_rfl
theorem proved : Rows.FnCodesCardSaid :=
  Claim7.holds_tied_plain_at .later [] [.data, .data, .data, .data, .sentinel, .sentinel, .pinned] true (true, "e1e82de2e4e2a67f455382157c7be01bc6bcff48add89ca858af1e9588518c98") true over (fun _ h => by cases h) wf_ (fun _ h => by cases h) fnCodes_row_tie rfl ⟨rfl, rfl⟩ mainIs_ rfl
    (fun f fn hf hfn => by
      obtain rfl : f = 3 := Option.some.inj (named_.symm.trans hf) |>.symm
      obtain rfl : fn = Tryd.f3 := (Option.some.inj (Tryd.func3.symm.trans hfn)).symm
      exact ⟨looks_, fun j t ht => by
        rw [Tryd.params3] at ht
        have hm : t ∈ [22] := by simpa using Array.mem_of_getElem? ht
        exact (show Tryd.prog.wantsStandIn t = false by simpa using List.all_eq_true.1 stand_ t hm)⟩)
    goes_
#print axioms proved
end Go.Proofs.YtbgclnjnngolmaaDoor.fnCodes
namespace Go.Proofs.YtbgclnjnngolmaaDoor
/-- The row, under a short name, for the claim. -/
theorem fnCodes_holds : Rows.FnCodesCardSaid := fnCodes.proved
end Go.Proofs.YtbgclnjnngolmaaDoor
