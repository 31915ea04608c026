-- Written by mp.py (the session's own driver over the kit's printer) for the seat YtchpopocnaoabaaDoor.
import Derived.Test.YtchpopocnaoabaaDoorRows
import Derived.Test.YtchpopocnaoabaaDoorPureFnExactMachineText
import Derived.Test.YtchpopocnaoabaaDoorOpenR
import Derived.Test.YtchpopocnaoabaaDoorTie
import Derived.Test.YtchpopocnaoabaaDoorCards
import Derived.Test.YtchpopocnaoabaaDoorEnvRow
import Derived.SevenTiedAt
import Derived.Lay
import Derived.LaidMore
import Derived.Stop.Joined
import Derived.WalkKit
import Derived.ProofKit
import Derived.OpenShut
import Derived.ShutString
import Derived.ChangeOld
import Derived.Below
import Derived.SizedLaws
import Derived.Test.YtchpopocnaoabaaDoorFacts
namespace Go.Proofs.YtchpopocnaoabaaDoor.fnExactMachineText
open Go.ChangeShapes Go.WideShapes Go.ChangeAt Go.RowKit Go.Proofs.YtchpopocnaoabaaDoor.P Go.Proofs.YtchpopocnaoabaaDoor.OpenR Go.Proofs.YtchpopocnaoabaaDoorW.PrintWords
open Go.ChangeMaps (open_string shut_string)
set_option linter.unusedVariables false
theorem own : ownKnob Tryd.prog.godebug = none := by kernel_rfl
theorem laidOut : laidOutB Tryd.prog = true := by kernel_rfl
theorem C_mem {α : Type} {d : Kd α} {w : World} {A : Option Addr} {xs : List α} {q : α} (h : Kd.C d w A xs.length xs) (hq : q ∈ xs) : ∃ cs, d.K w q cs := by
  obtain ⟨i, hi, rfl⟩ := List.getElem_of_mem hq
  obtain ⟨_, c, _, _, hK, _⟩ := Kd.C_get h xs[i] (i : Int) (by omega) (by omega)
  rw [Int.toNat_natCast, List.getD_eq_getElem?_getD, List.getElem?_eq_getElem hi] at hK
  exact ⟨c, hK⟩
theorem opens55 : Opens Tryd.prog (Kd.slice 3 (Kd.int .i64)) (fun y => (∀ q_ ∈ y, (-9223372036854775808 ≤ q_ ∧ q_ ≤ 9223372036854775807))) 55 := opens_slice Tryd.underlying55 (opens_int Tryd.underlying3) (by kernel_rfl)
theorem opens57 : Opens Tryd.prog k57 (fun y => (∀ q_ ∈ y.f0, (-9223372036854775808 ≤ q_ ∧ q_ ≤ 9223372036854775807))) 57 := opens_struct Tryd.underlying57 (opensAt_last opens55 rfl (by kernel_rfl)) (by kernel_rfl) (fun z => ⟨⟨z⟩, rfl⟩)
theorem opens121 : Opens Tryd.prog k121 (fun y => ((-9223372036854775808 ≤ y.f0 ∧ y.f0 ≤ 9223372036854775807) ∧ ((-9223372036854775808 ≤ y.f1 ∧ y.f1 ≤ 9223372036854775807)))) 121 := opens_struct Tryd.underlying121 (opensAt_cons (opens_int Tryd.underlying3) rfl (by kernel_rfl) (opensAt_last (opens_int Tryd.underlying3) rfl (by kernel_rfl))) (by kernel_rfl) (fun z => ⟨⟨z.1, z.2⟩, rfl⟩)
instance : Inhabited S121 := ⟨z121⟩
theorem opens48 : Opens Tryd.prog (Kd.slice 121 k121) (fun y => (∀ q_ ∈ y, ((-9223372036854775808 ≤ q_.f0 ∧ q_.f0 ≤ 9223372036854775807) ∧ ((-9223372036854775808 ≤ q_.f1 ∧ q_.f1 ≤ 9223372036854775807))))) 48 := opens_slice Tryd.underlying48 opens121 (by kernel_rfl)
theorem opens167 : Opens Tryd.prog k167 (fun y => ((-9223372036854775808 ≤ y.f0 ∧ y.f0 ≤ 9223372036854775807) ∧ ((∀ q_ ∈ y.f1, (-9223372036854775808 ≤ q_ ∧ q_ ≤ 9223372036854775807)) ∧ ((∀ q_ ∈ y.f2, ((-9223372036854775808 ≤ q_.f0 ∧ q_.f0 ≤ 9223372036854775807) ∧ ((-9223372036854775808 ≤ q_.f1 ∧ q_.f1 ≤ 9223372036854775807)))))))) 167 := opens_struct Tryd.underlying167 (opensAt_cons (opens_int Tryd.underlying3) rfl (by kernel_rfl) (opensAt_cons opens55 rfl (by kernel_rfl) (opensAt_last opens48 rfl (by kernel_rfl)))) (by kernel_rfl) (fun z => ⟨⟨z.1, z.2.1, z.2.2⟩, rfl⟩)
instance : Inhabited S167 := ⟨z167⟩
theorem opens73 : Opens Tryd.prog (Kd.slice 167 k167) (fun y => (∀ q_ ∈ y, ((-9223372036854775808 ≤ q_.f0 ∧ q_.f0 ≤ 9223372036854775807) ∧ ((∀ pq_ ∈ q_.f1, (-9223372036854775808 ≤ pq_ ∧ pq_ ≤ 9223372036854775807)) ∧ ((∀ pq_ ∈ q_.f2, ((-9223372036854775808 ≤ pq_.f0 ∧ pq_.f0 ≤ 9223372036854775807) ∧ ((-9223372036854775808 ≤ pq_.f1 ∧ pq_.f1 ≤ 9223372036854775807))))))))) 73 := opens_slice Tryd.underlying73 opens167 (by kernel_rfl)
theorem opens75 : Opens Tryd.prog k75 (fun y => ((∀ q_ ∈ y.f0.f0, (-9223372036854775808 ≤ q_ ∧ q_ ≤ 9223372036854775807)) ∧ ((∀ q_ ∈ y.f1, ((-9223372036854775808 ≤ q_.f0 ∧ q_.f0 ≤ 9223372036854775807) ∧ ((∀ pq_ ∈ q_.f1, (-9223372036854775808 ≤ pq_ ∧ pq_ ≤ 9223372036854775807)) ∧ ((∀ pq_ ∈ q_.f2, ((-9223372036854775808 ≤ pq_.f0 ∧ pq_.f0 ≤ 9223372036854775807) ∧ ((-9223372036854775808 ≤ pq_.f1 ∧ pq_.f1 ≤ 9223372036854775807))))))))))) 75 := opens_struct Tryd.underlying75 (opensAt_cons opens57 rfl (by kernel_rfl) (opensAt_last opens73 rfl (by kernel_rfl))) (by kernel_rfl) (fun z => ⟨⟨z.1, z.2⟩, rfl⟩)
set_option maxRecDepth 100000 in
theorem lifted (os : Os) (started : os.Started) (H : Type) (enc : TypeId × Value → H) :
    ReturnsInHanded {} Tryd.checked os 11 .any (fun w args => (Rows.fnExactMachineTextSpec.pre enc Tryd.prog Tryd.f11 Rows.fnExactMachineTextRow.domain false w args ∧ laidMetH Tryd.prog Rows.fnExactMachineTextRow.laid w) ∧ sizedMet enc Tryd.prog Tryd.f11 (OpenSpec.ofChange Rows.fnExactMachineTextSpec) false w args) (Rows.fnExactMachineTextSpec.post enc Tryd.prog Tryd.f11 false true false false) := by
  refine returnsInHanded_laid_shaped_YtchpopocnaoabaaDoor (C := Tryd.checked) (X := fun w _ => laidMetH Tryd.prog Rows.fnExactMachineTextRow.laid w) (fun _ _ _ hh h => h.of_heap hh) own started (by kernel_rfl) Tryd.func11
    (ChangeSpec.witness_shaped (enc := enc) (C := Tryd.checked) (os := os) (X := fun w _ => laidMetH Tryd.prog Rows.fnExactMachineTextRow.laid w) false (World.laidAll Tryd.prog os Rows.fnExactMachineTextRow.laid) #[.agg #[.slice none 0 0, .slice none 0 0]] 8 (World.laidAll_os _ _ _)
      (World.shaped_of_ZipB (by kernel_rfl) (by kernel_rfl)) (by kernel_rfl) (by kernel_rfl) (by kernel_rfl)
      (by rw [MakeChecks.laidMetH_plain _ _ _ (by kernel_rfl)]; exact laidMet_laidAll _ (by kernel_rfl) (by kernel_rfl))) ?_
  intro W base args ds gs before hval0 hW hsz0 hL hsh_
  have hsz : (DataW.weightsEach Tryd.prog (Tryd.f11.params.toList ++ Rows.fnExactMachineTextSpec.plain.varTypes Tryd.prog) (ds ++ gs)).all (· ≤ reachBytes) = true := hsz0
  have hval : ∀ (j : Nat) t v, Tryd.f11.params[j]? = some t → args[j]? = some v → Value.okWide Tryd.prog W .any base t v := hval0
  have hW' := hW
  obtain ⟨p, q, hA0, hV, rfl, hfz, hnd⟩ := hW
  have hA : DataW.TrodAll enc Tryd.prog W 0 (fun _ => true) true Tryd.f11.params.toList args.toList ds p := hA0
  rw [Tryd.params11] at hA hval hsz
  obtain ⟨v0, vs0, d0, ds0, p0, q0, hargs, rfl, rfl, h0, r0⟩ := trodAll_cons hA
  obtain ⟨rfl, rfl, rfl⟩ := trodAll_nil r0
  obtain rfl : args = #[v0] := by cases args; simp_all
  obtain ⟨rfl, rfl⟩ := trodVars_none hV
  obtain ⟨cs0, rfl, _⟩ := okWide_struct Tryd.underlying75 (hval 0 75 v0 rfl rfl)
  have t0 := h0
  have lt0 : ∀ x ∈ p0, x.block < W.heap.size := by obtain ⟨m, hm⟩ := t0; exact DataW.trod_lt m _ _ _ hm
  obtain ⟨y0, o0, g0⟩ : ∃ y : S75, Kd.K k75 W y cs0.toList ∧ (((∀ q_ ∈ y.f0.f0, (-9223372036854775808 ≤ q_ ∧ q_ ≤ 9223372036854775807)) ∧ ((∀ q_ ∈ y.f1, ((-9223372036854775808 ≤ q_.f0 ∧ q_.f0 ≤ 9223372036854775807) ∧ ((∀ pq_ ∈ q_.f1, (-9223372036854775808 ≤ pq_ ∧ pq_ ≤ 9223372036854775807)) ∧ ((∀ pq_ ∈ q_.f2, ((-9223372036854775808 ≤ pq_.f0 ∧ pq_.f0 ≤ 9223372036854775807) ∧ ((-9223372036854775808 ≤ pq_.f1 ∧ pq_.f1 ≤ 9223372036854775807))))))))))) := by
    obtain ⟨fuel, hf⟩ := h0
    exact opens75 H enc W fuel _ _ hf
  have w0 := o0
  obtain ⟨A0_0, c0_0, A0_1, c0_1, e0, hc0_0, hr0_0, hc0_1, hr0_1⟩ := k75_open o0
  obtain rfl : cs0 = #[.slice A0_0 y0.f0.f0.length c0_0, .slice A0_1 y0.f1.length c0_1] := by cases cs0; simp_all
  clear hA0 hval0 hsz0 hsz
  obtain ⟨k, hk⟩ := Pure.FnExactMachineText y0.f0.f0 y0.f1 (hr0_0.2.1) (⟨hr0_1.2.1, fun q_ hq_ => by obtain ⟨cs_, hk_⟩ := C_mem hr0_1 hq_; exact (by obtain ⟨A1_, c1_, A2_, c2_, _, _, hr1_, _, hr2_⟩ := k167_open hk_; exact ⟨hr1_.2.1, hr2_.2.1⟩)⟩) (g0.1) (g0.2)
  have hE := env_of_T hL
  refine (laws_FnExactMachineText.calls (hE_ := hE) k _ _ y0.f0.f0 _ _ y0.f1 true W hr0_0 hc0_0 hr0_1 hc0_1 hk rfl).mono fun e W' ⟨he, bel0⟩ => ?_
  have bel := bel0
  subst he
  exact ⟨_, rfl, _, _, _, [], _, [], hW', trodAll_mk1 (shut_bool Tryd.underlying4 _), (trodAll_cons_mk (Below.trod laidOut (by kernel_rfl) (of_decide_eq_true (by kernel_rfl)) t0 bel lt0) trodAll_mk0), rfl, bel.frame _, fun h => by cases h⟩
set_option maxHeartbeats 4000000 in
set_option maxRecDepth 100000 in
theorem closed : joinedFacts Tryd.prog 11 Tryd.f11 Rows.fnExactMachineTextSpec Rows.fnExactMachineTextRow = true := by
  unfold joinedFacts
  rw [Facts.fact_lifts, Facts.fact_make, Facts.fact_mayEnter]
  repeat (any_goals (with_reducible refine Bool.and_eq_true_iff.mpr ⟨?_, ?_⟩))
  all_goals (as_aux_lemma => kernel_rfl)
theorem over : Rows.fnExactMachineTextRow.holds Tryd.pinned (OpenSpec.ofChange Rows.fnExactMachineTextSpec) :=
  OpenClaim.holds_of_wide 11 Tryd.f11 rfl rfl rfl rfl rfl rfl rfl ⟨rfl, rfl, rfl, rfl, rfl⟩ rfl rfl rfl rfl rfl (by kernel_rfl) Tryd.func11 closed
    (of_decide_eq_true (by kernel_rfl)) (by unfold Func.isWrapper; first | (rw [if_pos (by decide +kernel)]; kernel_rfl) | (rw [if_neg (by decide +kernel)]; exact ⟨rfl, rfl⟩))
    (fun os started H enc _ => lifted os started H enc)
set_option maxRecDepth 100000 in
theorem wf_ : Rows.fnExactMachineTextRow.wfByText (OpenSpec.ofChange Rows.fnExactMachineTextSpec) = true := by kernel_rfl
set_option maxRecDepth 100000 in
theorem goes_ : false = Rows.fnExactMachineTextRow.goesBy Tryd.pinned.checked.prog := by kernel_rfl
theorem named_ : Tryd.prog.funcNamed Rows.fnExactMachineTextRow.func = some 11 := by kernel_rfl
theorem stand_ : ([75].all fun u => !Tryd.prog.wantsStandIn u) = true := by kernel_rfl
theorem proved : Rows.FnExactMachineTextCardSaid :=
  Claim7.holds_tied_plain_at .later [] [.data, .data, .data] true (true, "40909ffbdfce446d41544ab50ad726d5182760ef3d57485115cd8ef42070093b") true over (fun _ h => by cases h) wf_ (fun _ h => by cases h) fnExactMachineText_row_tie rfl ⟨rfl, rfl⟩ mainIs_ rfl
    (fun f fn hf hfn => by
      obtain rfl : f = 11 := Option.some.inj (named_.symm.trans hf) |>.symm
      obtain rfl : fn = Tryd.f11 := (Option.some.inj (Tryd.func11.symm.trans hfn)).symm
      exact ⟨looks_, fun j t ht => by
        rw [Tryd.params11] at ht
        have hm : t ∈ [75] := by simpa using Array.mem_of_getElem? ht
        exact (show Tryd.prog.wantsStandIn t = false by simpa using List.all_eq_true.1 stand_ t hm)⟩)
    goes_
#print axioms proved
end Go.Proofs.YtchpopocnaoabaaDoor.fnExactMachineText
namespace Go.Proofs.YtchpopocnaoabaaDoor
/-- The row, under a short name, for the claim. -/
theorem fnExactMachineText_holds : Rows.FnExactMachineTextCardSaid := fnExactMachineText.proved
end Go.Proofs.YtchpopocnaoabaaDoor
