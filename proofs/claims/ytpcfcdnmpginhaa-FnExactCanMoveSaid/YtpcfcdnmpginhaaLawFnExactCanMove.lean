-- Written by mp.py (the session's own driver over the kit's printer) for the seat Ytpcfcdnmpginhaa.
import Derived.Test.YtpcfcdnmpginhaaRows
import Derived.Test.YtpcfcdnmpginhaaPureFnExactCanMove
import Derived.Test.YtpcfcdnmpginhaaOpen
import Derived.WalkKit
import Derived.ProofKit
import Derived.OpenShut
import Derived.ShutString
import Derived.ChangeOld
import Derived.Below
import Derived.SizedLaws
import Derived.Test.YtpcfcdnmpginhaaFacts
namespace Go.Proofs.Ytpcfcdnmpginhaa.fnExactCanMove
open Go.ChangeShapes Go.WideShapes Go.ChangeAt Go.RowKit Go.Proofs.Ytpcfcdnmpginhaa.P Go.Proofs.Ytpcfcdnmpginhaa.Open Go.Proofs.YtpcfcdnmpginhaaW.PrintWords
open Go.ChangeMaps (open_string shut_string)
set_option linter.unusedVariables false
theorem own : ownKnob Try.prog.godebug = none := by kernel_rfl
theorem laidOut : laidOutB Try.prog = true := by kernel_rfl
theorem C_mem {α : Type} {d : Kd α} {w : World} {A : Option Addr} {xs : List α} {q : α} (h : Kd.C d w A xs.length xs) (hq : q ∈ xs) : ∃ cs, d.K w q cs := by
  obtain ⟨i, hi, rfl⟩ := List.getElem_of_mem hq
  obtain ⟨_, c, _, _, hK, _⟩ := Kd.C_get h xs[i] (i : Int) (by omega) (by omega)
  rw [Int.toNat_natCast, List.getD_eq_getElem?_getD, List.getElem?_eq_getElem hi] at hK
  exact ⟨c, hK⟩
theorem opens176 : Opens Try.prog k176 176 := opens_struct Try.underlying176 (opensAt_cons (opens_int Try.underlying3) rfl (by kernel_rfl) (opensAt_cons (opens_int Try.underlying3) rfl (by kernel_rfl) (opensAt_cons (opens_int Try.underlying3) rfl (by kernel_rfl) (opensAt_last (opens_int Try.underlying3) rfl (by kernel_rfl))))) (by kernel_rfl) (fun z => ⟨⟨z.1, z.2.1, z.2.2.1, z.2.2.2⟩, rfl⟩)
instance : Inhabited S176 := ⟨z176⟩
theorem opens91 : Opens Try.prog (Kd.slice 176 k176) 91 := opens_slice Try.underlying91 opens176 (by kernel_rfl)
theorem opens58 : Opens Try.prog (Kd.slice 91 (Kd.slice 176 k176)) 58 := opens_slice Try.underlying58 opens91 (by kernel_rfl)
theorem opens60 : Opens Try.prog k60 60 := opens_struct Try.underlying60 (opensAt_cons (opens_int Try.underlying3) rfl (by kernel_rfl) (opensAt_last opens58 rfl (by kernel_rfl))) (by kernel_rfl) (fun z => ⟨⟨z.1, z.2⟩, rfl⟩)
theorem opens22 : Opens Try.prog (Kd.slice 3 (Kd.int .i64)) 22 := opens_slice Try.underlying22 (opens_int Try.underlying3) (by kernel_rfl)
theorem opens35 : Opens Try.prog k35 35 := opens_struct Try.underlying35 (opensAt_last opens22 rfl (by kernel_rfl)) (by kernel_rfl) (fun z => ⟨⟨z⟩, rfl⟩)
theorem opens184 : Opens Try.prog k184 184 := opens_struct Try.underlying184 (opensAt_cons (opens_int Try.underlying3) rfl (by kernel_rfl) (opensAt_last (opens_int Try.underlying3) rfl (by kernel_rfl))) (by kernel_rfl) (fun z => ⟨⟨z.1, z.2⟩, rfl⟩)
instance : Inhabited S184 := ⟨z184⟩
theorem opens105 : Opens Try.prog (Kd.slice 184 k184) 105 := opens_slice Try.underlying105 opens184 (by kernel_rfl)
theorem opens205 : Opens Try.prog k205 205 := opens_struct Try.underlying205 (opensAt_cons (opens_int Try.underlying3) rfl (by kernel_rfl) (opensAt_cons opens22 rfl (by kernel_rfl) (opensAt_last opens105 rfl (by kernel_rfl)))) (by kernel_rfl) (fun z => ⟨⟨z.1, z.2.1, z.2.2⟩, rfl⟩)
instance : Inhabited S205 := ⟨z205⟩
theorem opens36 : Opens Try.prog (Kd.slice 205 k205) 36 := opens_slice Try.underlying36 opens205 (by kernel_rfl)
theorem opens38 : Opens Try.prog k38 38 := opens_struct Try.underlying38 (opensAt_cons opens35 rfl (by kernel_rfl) (opensAt_last opens36 rfl (by kernel_rfl))) (by kernel_rfl) (fun z => ⟨⟨z.1, z.2⟩, rfl⟩)
theorem opens86 : Opens Try.prog k86 86 := opens_struct Try.underlying86 (opensAt_cons (opens_int Try.underlying3) rfl (by kernel_rfl) (opensAt_last (opens_bool Try.underlying4) rfl (by kernel_rfl))) (by kernel_rfl) (fun z => ⟨⟨z.1, z.2⟩, rfl⟩)
set_option maxRecDepth 100000 in
theorem lifted (os : Os) (started : os.Started) (H : Type) (enc : TypeId × Value → H) :
    ReturnsInHanded {} Try.checked os 14 .any (Rows.fnExactCanMoveSpec.pre6 enc Try.prog Try.f14 Rows.fnExactCanMoveRow.domain false) (Rows.fnExactCanMoveSpec.post enc Try.prog Try.f14 false true false false) := by
  refine returnsInHanded_of_change_sized (C := Try.checked) own started (by kernel_rfl) Try.func14
    (ChangeSpec.witness6 (enc := enc) (C := Try.checked) false ⟨#[], #[.agg #[.int .i64 0, .slice none 0 0], .agg #[.slice none 0 0, .slice none 0 0], .agg #[.int .i64 0, .bool false]], []⟩ 8 (by kernel_rfl) (by kernel_rfl) (by kernel_rfl) (by kernel_rfl)) ?_
  intro W base args ds gs before hval0 hW hcnd hsz0 _
  have hsz : (DataW.weightsEach Try.prog (Try.f14.params.toList ++ Rows.fnExactCanMoveSpec.plain.varTypes Try.prog) (ds ++ gs)).all (· ≤ reachBytes) = true := hsz0
  have hval : ∀ (j : Nat) t v, Try.f14.params[j]? = some t → args[j]? = some v → Value.okWide Try.prog W .any base t v := hval0
  have hW' := hW
  obtain ⟨p, q, hA0, hV, rfl, hfz, hnd⟩ := hW
  have hA : DataW.TrodAll enc Try.prog W 0 (fun _ => true) true Try.f14.params.toList args.toList ds p := hA0
  rw [Try.params14] at hA hval hsz
  obtain ⟨v0, vs0, d0, ds0, p0, q0, hargs, rfl, rfl, h0, r0⟩ := trodAll_cons hA
  obtain ⟨v1, vs1, d1, ds1, p1, q1, rfl, rfl, rfl, h1, r1⟩ := trodAll_cons r0
  obtain ⟨v2, vs2, d2, ds2, p2, q2, rfl, rfl, rfl, h2, r2⟩ := trodAll_cons r1
  obtain ⟨rfl, rfl, rfl⟩ := trodAll_nil r2
  obtain rfl : args = #[v0, v1, v2] := by cases args; simp_all
  obtain ⟨rfl, rfl⟩ := trodVars_none hV
  obtain ⟨cs0, rfl, _⟩ := okWide_struct Try.underlying60 (hval 0 60 v0 rfl rfl)
  have t0 := h0
  have lt0 : ∀ x ∈ p0, x.block < W.heap.size := by obtain ⟨m, hm⟩ := t0; exact DataW.trod_lt m _ _ _ hm
  obtain ⟨y0, o0⟩ : ∃ y : S60, Kd.K k60 W y cs0.toList := by
    obtain ⟨fuel, hf⟩ := h0
    exact opens60 H enc W fuel _ _ hf
  have w0 := o0
  obtain ⟨A0_1, c0_1, e0, hc0_1, hr0_1⟩ := k60_open o0
  obtain rfl : cs0 = #[.int .i64 y0.f0, .slice A0_1 y0.f1.length c0_1] := by cases cs0; simp_all
  obtain ⟨cs1, rfl, _⟩ := okWide_struct Try.underlying38 (hval 1 38 v1 rfl rfl)
  have t1 := h1
  have lt1 : ∀ x ∈ p1, x.block < W.heap.size := by obtain ⟨m, hm⟩ := t1; exact DataW.trod_lt m _ _ _ hm
  obtain ⟨y1, o1⟩ : ∃ y : S38, Kd.K k38 W y cs1.toList := by
    obtain ⟨fuel, hf⟩ := h1
    exact opens38 H enc W fuel _ _ hf
  have w1 := o1
  obtain ⟨A1_0, c1_0, A1_1, c1_1, e1, hc1_0, hr1_0, hc1_1, hr1_1⟩ := k38_open o1
  obtain rfl : cs1 = #[.slice A1_0 y1.f0.f0.length c1_0, .slice A1_1 y1.f1.length c1_1] := by cases cs1; simp_all
  obtain ⟨cs2, rfl, _⟩ := okWide_struct Try.underlying86 (hval 2 86 v2 rfl rfl)
  have t2 := h2
  have lt2 : ∀ x ∈ p2, x.block < W.heap.size := by obtain ⟨m, hm⟩ := t2; exact DataW.trod_lt m _ _ _ hm
  obtain ⟨y2, o2⟩ : ∃ y : S86, Kd.K k86 W y cs2.toList := by
    obtain ⟨fuel, hf⟩ := h2
    exact opens86 H enc W fuel _ _ hf
  have w2 := o2
  obtain e2 := k86_open o2
  obtain rfl : cs2 = #[.int .i64 y2.f0, .bool y2.f1] := by cases cs2; simp_all
  clear hA0 hval0 hsz0 hsz
  obtain ⟨k, hk⟩ := Pure.FnExactCanMove y0.f0 y0.f1 y1.f0.f0 y1.f1 y2.f0 y2.f1 (⟨hr0_1.2.1, fun q_ hq_ => by obtain ⟨cs_, hk_⟩ := C_mem hr0_1 hq_; exact (by obtain ⟨A_, c_, _, _, hr_⟩ := hk_; exact hr_.2.1)⟩) (hr1_0.2.1) (⟨hr1_1.2.1, fun q_ hq_ => by obtain ⟨cs_, hk_⟩ := C_mem hr1_1 hq_; exact (by obtain ⟨A1_, c1_, A2_, c2_, _, _, hr1_, _, hr2_⟩ := k205_open hk_; exact ⟨hr1_.2.1, hr2_.2.1⟩)⟩)
  refine (laws_FnExactCanMove.calls k y0.f0 _ _ y0.f1 _ _ y1.f0.f0 _ _ y1.f1 y2.f0 y2.f1 true W hr0_1 hc0_1 hr1_0 hc1_0 hr1_1 hc1_1 hk).mono fun e W' ⟨he, bel0⟩ => ?_
  have bel := bel0
  subst he
  exact ⟨_, rfl, _, _, _, [], _, [], hW', trodAll_mk1 (shut_bool Try.underlying4 _), (trodAll_cons_mk (Below.trod laidOut (by kernel_rfl) (of_decide_eq_true (by kernel_rfl)) t0 bel lt0) (trodAll_cons_mk (Below.trod laidOut (by kernel_rfl) (of_decide_eq_true (by kernel_rfl)) t1 bel lt1) (trodAll_cons_mk (Below.trod laidOut (by kernel_rfl) (of_decide_eq_true (by kernel_rfl)) t2 bel lt2) trodAll_mk0))), rfl, bel.frame _, fun h => by cases h⟩
set_option maxHeartbeats 4000000 in
set_option maxRecDepth 100000 in
theorem closed : joinedFacts Try.prog 14 Try.f14 Rows.fnExactCanMoveSpec Rows.fnExactCanMoveRow = true := by
  unfold joinedFacts
  rw [Facts.fact_lifts, Facts.fact_make, Facts.fact_mayEnter]
  repeat (any_goals (with_reducible refine Bool.and_eq_true_iff.mpr ⟨?_, ?_⟩))
  all_goals (as_aux_lemma => kernel_rfl)
theorem over : Rows.fnExactCanMoveRow.holds Try.pinned (OpenSpec.ofChange Rows.fnExactCanMoveSpec) :=
  OpenClaim.holds_of_wide 14 Try.f14 rfl rfl rfl rfl rfl rfl rfl ⟨rfl, rfl, rfl, rfl, rfl⟩ rfl rfl rfl rfl rfl (by kernel_rfl) Try.func14 closed
    (of_decide_eq_true (by kernel_rfl)) (by unfold Func.isWrapper; first | (rw [if_pos (by decide +kernel)]; kernel_rfl) | (rw [if_neg (by decide +kernel)]; exact ⟨rfl, rfl⟩))
    (fun os started H enc _ => lifted os started H enc)
theorem proved : Rows.FnExactCanMoveSaid := over
#print axioms proved
end Go.Proofs.Ytpcfcdnmpginhaa.fnExactCanMove
namespace Go.Proofs.Ytpcfcdnmpginhaa
/-- The row, under a short name, for the claim. -/
theorem fnExactCanMove_holds : Rows.FnExactCanMoveSaid := fnExactCanMove.proved
end Go.Proofs.Ytpcfcdnmpginhaa
