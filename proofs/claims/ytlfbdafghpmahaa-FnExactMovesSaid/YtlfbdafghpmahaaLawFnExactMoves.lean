-- Written by mp.py (the session's own driver over the kit's printer) for the seat Ytlfbdafghpmahaa.
import Derived.Test.YtlfbdafghpmahaaRows
import Derived.Test.YtlfbdafghpmahaaPureFnExactMoves
import Derived.Test.YtlfbdafghpmahaaOpen
import Derived.WalkKit
import Derived.ProofKit
import Derived.OpenShut
import Derived.ShutString
import Derived.ChangeOld
import Derived.Below
import Derived.SizedLaws
namespace Go.Proofs.Ytlfbdafghpmahaa.fnExactMoves
open Go.ChangeShapes Go.WideShapes Go.ChangeAt Go.RowKit Go.Proofs.Ytlfbdafghpmahaa.P Go.Proofs.Ytlfbdafghpmahaa.Open Go.Proofs.YtlfbdafghpmahaaW.PrintWords
open Go.ChangeMaps (open_string shut_string)
set_option linter.unusedVariables false
theorem own : ownKnob Try.prog.godebug = none := by kernel_rfl
theorem laidOut : laidOutB Try.prog = true := by kernel_rfl
theorem C_mem {α : Type} {d : Kd α} {w : World} {A : Option Addr} {xs : List α} {q : α} (h : Kd.C d w A xs.length xs) (hq : q ∈ xs) : ∃ cs, d.K w q cs := by
  obtain ⟨i, hi, rfl⟩ := List.getElem_of_mem hq
  obtain ⟨_, c, _, _, hK, _⟩ := Kd.C_get h xs[i] (i : Int) (by omega) (by omega)
  rw [Int.toNat_natCast, List.getD_eq_getElem?_getD, List.getElem?_eq_getElem hi] at hK
  exact ⟨c, hK⟩
theorem opens84 : Opens Try.prog k84 84 := opens_struct Try.underlying84 (opensAt_cons (opens_int Try.underlying3) rfl (by kernel_rfl) (opensAt_cons (opens_int Try.underlying3) rfl (by kernel_rfl) (opensAt_cons (opens_int Try.underlying3) rfl (by kernel_rfl) (opensAt_last (opens_int Try.underlying3) rfl (by kernel_rfl))))) (by kernel_rfl) (fun z => ⟨⟨z.1, z.2.1, z.2.2.1, z.2.2.2⟩, rfl⟩)
instance : Inhabited S84 := ⟨z84⟩
theorem opens22 : Opens Try.prog (Kd.slice 84 k84) 22 := opens_slice Try.underlying22 opens84 (by kernel_rfl)
theorem opens33 : Opens Try.prog (Kd.slice 22 (Kd.slice 84 k84)) 33 := opens_slice Try.underlying33 opens22 (by kernel_rfl)
theorem opens35 : Opens Try.prog k35 35 := opens_struct Try.underlying35 (opensAt_cons (opens_int Try.underlying3) rfl (by kernel_rfl) (opensAt_last opens33 rfl (by kernel_rfl))) (by kernel_rfl) (fun z => ⟨⟨z.1, z.2⟩, rfl⟩)
theorem opens24 : Opens Try.prog (Kd.slice 3 (Kd.int .i64)) 24 := opens_slice Try.underlying24 (opens_int Try.underlying3) (by kernel_rfl)
theorem opens69 : Opens Try.prog k69 69 := opens_struct Try.underlying69 (opensAt_last opens24 rfl (by kernel_rfl)) (by kernel_rfl) (fun z => ⟨⟨z⟩, rfl⟩)
theorem opens190 : Opens Try.prog k190 190 := opens_struct Try.underlying190 (opensAt_cons (opens_int Try.underlying3) rfl (by kernel_rfl) (opensAt_last (opens_int Try.underlying3) rfl (by kernel_rfl))) (by kernel_rfl) (fun z => ⟨⟨z.1, z.2⟩, rfl⟩)
instance : Inhabited S190 := ⟨z190⟩
theorem opens145 : Opens Try.prog (Kd.slice 190 k190) 145 := opens_slice Try.underlying145 opens190 (by kernel_rfl)
theorem opens147 : Opens Try.prog k147 147 := opens_struct Try.underlying147 (opensAt_cons (opens_int Try.underlying3) rfl (by kernel_rfl) (opensAt_cons opens24 rfl (by kernel_rfl) (opensAt_last opens145 rfl (by kernel_rfl)))) (by kernel_rfl) (fun z => ⟨⟨z.1, z.2.1, z.2.2⟩, rfl⟩)
instance : Inhabited S147 := ⟨z147⟩
theorem opens70 : Opens Try.prog (Kd.slice 147 k147) 70 := opens_slice Try.underlying70 opens147 (by kernel_rfl)
theorem opens72 : Opens Try.prog k72 72 := opens_struct Try.underlying72 (opensAt_cons opens69 rfl (by kernel_rfl) (opensAt_last opens70 rfl (by kernel_rfl))) (by kernel_rfl) (fun z => ⟨⟨z.1, z.2⟩, rfl⟩)
set_option maxRecDepth 100000 in
theorem lifted (os : Os) (started : os.Started) (H : Type) (enc : TypeId × Value → H) :
    ReturnsInHanded {} Try.checked os 9 .any (Rows.fnExactMovesSpec.pre6 enc Try.prog Try.f9 Rows.fnExactMovesRow.domain false) (Rows.fnExactMovesSpec.post enc Try.prog Try.f9 false true false false) := by
  refine returnsInHanded_of_change_sized (C := Try.checked) own started (by kernel_rfl) Try.func9
    (ChangeSpec.witness6 (enc := enc) (C := Try.checked) false ⟨#[], #[.agg #[.int .i64 0, .slice none 0 0], .agg #[.slice none 0 0, .slice none 0 0]], []⟩ 8 (by kernel_rfl) (by kernel_rfl) (by kernel_rfl) (by kernel_rfl)) ?_
  intro W base args ds gs before hval0 hW hcnd hsz0 _
  have hsz : (DataW.weightsEach Try.prog (Try.f9.params.toList ++ Rows.fnExactMovesSpec.plain.varTypes Try.prog) (ds ++ gs)).all (· ≤ reachBytes) = true := hsz0
  have hval : ∀ (j : Nat) t v, Try.f9.params[j]? = some t → args[j]? = some v → Value.okWide Try.prog W .any base t v := hval0
  have hW' := hW
  obtain ⟨p, q, hA0, hV, rfl, hfz, hnd⟩ := hW
  have hA : DataW.TrodAll enc Try.prog W 0 (fun _ => true) true Try.f9.params.toList args.toList ds p := hA0
  rw [Try.params9] at hA hval hsz
  obtain ⟨v0, vs0, d0, ds0, p0, q0, hargs, rfl, rfl, h0, r0⟩ := trodAll_cons hA
  obtain ⟨v1, vs1, d1, ds1, p1, q1, rfl, rfl, rfl, h1, r1⟩ := trodAll_cons r0
  obtain ⟨rfl, rfl, rfl⟩ := trodAll_nil r1
  obtain rfl : args = #[v0, v1] := by cases args; simp_all
  obtain ⟨rfl, rfl⟩ := trodVars_none hV
  obtain ⟨cs0, rfl, _⟩ := okWide_struct Try.underlying35 (hval 0 35 v0 rfl rfl)
  have t0 := h0
  have lt0 : ∀ x ∈ p0, x.block < W.heap.size := by obtain ⟨m, hm⟩ := t0; exact DataW.trod_lt m _ _ _ hm
  obtain ⟨y0, o0⟩ : ∃ y : S35, Kd.K k35 W y cs0.toList := by
    obtain ⟨fuel, hf⟩ := h0
    exact opens35 H enc W fuel _ _ hf
  have w0 := o0
  obtain ⟨A0_1, c0_1, e0, hc0_1, hr0_1⟩ := k35_open o0
  obtain rfl : cs0 = #[.int .i64 y0.f0, .slice A0_1 y0.f1.length c0_1] := by cases cs0; simp_all
  obtain ⟨cs1, rfl, _⟩ := okWide_struct Try.underlying72 (hval 1 72 v1 rfl rfl)
  have t1 := h1
  have lt1 : ∀ x ∈ p1, x.block < W.heap.size := by obtain ⟨m, hm⟩ := t1; exact DataW.trod_lt m _ _ _ hm
  obtain ⟨y1, o1⟩ : ∃ y : S72, Kd.K k72 W y cs1.toList := by
    obtain ⟨fuel, hf⟩ := h1
    exact opens72 H enc W fuel _ _ hf
  have w1 := o1
  obtain ⟨A1_0, c1_0, A1_1, c1_1, e1, hc1_0, hr1_0, hc1_1, hr1_1⟩ := k72_open o1
  obtain rfl : cs1 = #[.slice A1_0 y1.f0.f0.length c1_0, .slice A1_1 y1.f1.length c1_1] := by cases cs1; simp_all
  clear hA0 hval0 hsz0 hsz
  obtain ⟨k, hk⟩ := Pure.FnExactMoves y0.f0 y0.f1 y1.f0.f0 y1.f1 (⟨hr0_1.2.1, fun q_ hq_ => by obtain ⟨cs_, hk_⟩ := C_mem hr0_1 hq_; exact (by obtain ⟨A_, c_, _, _, hr_⟩ := hk_; exact hr_.2.1)⟩) (hr1_0.2.1) (⟨hr1_1.2.1, fun q_ hq_ => by obtain ⟨cs_, hk_⟩ := C_mem hr1_1 hq_; exact (by obtain ⟨A1_, c1_, A2_, c2_, _, _, hr1_, _, hr2_⟩ := k147_open hk_; exact ⟨hr1_.2.1, hr2_.2.1⟩)⟩)
  refine (laws_FnExactMoves.calls k y0.f0 _ _ y0.f1 _ _ y1.f0.f0 _ _ y1.f1 true W hr0_1 hc0_1 hr1_0 hc1_0 hr1_1 hc1_1 hk rfl).mono fun e W' ⟨he, bel0⟩ => ?_
  have bel := bel0
  subst he
  exact ⟨_, rfl, _, _, _, [], _, [], hW', trodAll_mk1 (shut_bool Try.underlying4 _), (trodAll_cons_mk (Below.trod laidOut (by kernel_rfl) (of_decide_eq_true (by kernel_rfl)) t0 bel lt0) (trodAll_cons_mk (Below.trod laidOut (by kernel_rfl) (of_decide_eq_true (by kernel_rfl)) t1 bel lt1) trodAll_mk0)), rfl, bel.frame _, fun h => by cases h⟩
theorem over : Rows.fnExactMovesRow.holds Try.pinned (OpenSpec.ofChange Rows.fnExactMovesSpec) :=
  OpenClaim.holds_of_wide 9 Try.f9 rfl rfl rfl rfl rfl rfl rfl ⟨rfl, rfl, rfl, rfl, rfl⟩ rfl rfl rfl rfl rfl (by kernel_rfl) Try.func9 (by kernel_rfl)
    (of_decide_eq_true (by kernel_rfl)) (by unfold Func.isWrapper; first | (rw [if_pos (by decide +kernel)]; kernel_rfl) | (rw [if_neg (by decide +kernel)]; exact ⟨rfl, rfl⟩))
    (fun os started H enc _ => lifted os started H enc)
theorem proved : Rows.FnExactMovesSaid := over
#print axioms proved
end Go.Proofs.Ytlfbdafghpmahaa.fnExactMoves
namespace Go.Proofs.Ytlfbdafghpmahaa
/-- The row, under a short name, for the claim. -/
theorem fnExactMoves_holds : Rows.FnExactMovesSaid := fnExactMoves.proved
end Go.Proofs.Ytlfbdafghpmahaa
