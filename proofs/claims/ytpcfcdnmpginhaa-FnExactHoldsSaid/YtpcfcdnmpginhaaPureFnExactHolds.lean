import Derived.Test.YtpcfcdnmpginhaaPlawsFnExactHolds
import Derived.Test.YtpcfcdnmpginhaaMach
import Derived.Test.YtpcfcdnmpginhaaAtoms
-- Written by mp.py (the session's own driver over the kit's printer) for the seat Ytpcfcdnmpginhaa.
namespace Go.Proofs.Ytpcfcdnmpginhaa.P
open Go.RowKit Go.Proofs.YtpcfcdnmpginhaaW.PrintWords Go.Proofs.YtpcfcdnmpginhaaW.PrintLast Go.Proofs.YtpcfcdnmpginhaaW.PrintMore
attribute [local go_sem] max2_int min2_int max_two min_two max_three min_three max_four min_four
set_option linter.unusedVariables false
set_option linter.unusedSimpArgs false

/-- What is left of the law FnExactHolds: no program and no memory in it. -/
def laws_FnExactHolds.Left : Prop := ∀ (l0_0 : List Int) (l0_1 : List (S205)) (l1 : List (S141)), (l0_0.length ≤ 9223372036854775807) → (l0_1.length ≤ 9223372036854775807 ∧ ∀ q_ ∈ l0_1, ((q_.f1.length ≤ 9223372036854775807) ∧ (q_.f2.length ≤ 9223372036854775807))) → (l1.length ≤ 9223372036854775807) → ∃ k, laws_FnExactHolds.f k l0_0 l0_1 l1 = some true
end Go.Proofs.Ytpcfcdnmpginhaa.P

/- The law FnExactHolds answers true: the program's Holds gives what the reference's gives, for every machine and query, and leaves both as they were. No condition. -/
namespace Go.Proofs.Ytpcfcdnmpginhaa.Pure
open Go.RowKit Go.Proofs.Ytpcfcdnmpginhaa.P Go.Proofs.Ytpcfcdnmpginhaa.Gen Go.Proofs.YtpcfcdnmpginhaaW.PrintWords

/-- Does an atom hold of a machine? -/
def holdB (m : List Int) (ths : List Thr) (x : Atm) : Bool :=
  if x.f0 = 0 then inB x.f1 0 (ths.length - 1) && (inB x.f2 0 ((rd_T137 ths x.f1).f1.length - 1) && (rd (rd_T137 ths x.f1).f1 x.f2 == x.f3))
  else if x.f0 = 1 then inB x.f2 0 (m.length - 1) && (rd m x.f2 == x.f3) else false
theorem rdThr (l : List Thr) (j : Nat) (h : j < l.length) : rd_T137 l (j : Int) = l[j] := getD_nat _ l j h
theorem rdThr_small {l : List Thr} (hq : ∀ q ∈ l, q.f1.length ≤ 1048576 ∧ q.f2.length ≤ 1048576) {t : Int} (h0 : 0 ≤ t) (h1 : t < l.length) : (rd_T137 l t).f1.length ≤ 1048576 := by
  obtain ⟨j, rfl⟩ : ∃ j : Nat, t = j := ⟨t.toNat, by omega⟩
  rw [rdThr l j (by omega)]
  exact (hq _ (List.getElem_mem _)).1
theorem impl_holdOne (m : List Int) (ths : List Thr) (hm : m.length ≤ 1048576) (hl : ths.length ≤ 1048576) (hq : ∀ q ∈ ths, q.f1.length ≤ 1048576 ∧ q.f2.length ≤ 1048576) (x : Atm) : impl_Holds.one_ m ths x = some (holdB m ths x) := by
  unfold impl_Holds.one_ impl_Atom_holds.f holdB
  simp only [within, impl_Mem_has.f, Option.bind_some]
  by_cases o0 : x.f0 = 0
  · rw [if_pos o0, if_pos o0, wrap_id (by omega) (by omega)]
    by_cases h1 : inB x.f1 0 ((ths.length : Int) - 1) = true
    · have r1 := inB_true.1 h1
      have hs := rdThr_small hq (t := x.f1) (by omega) (by omega)
      rw [if_pos h1, if_pos (by omega), if_pos (by omega), wrap_id (by omega) (by omega), h1, Bool.true_and]
      by_cases h2 : inB x.f2 0 (((rd_T137 ths x.f1).f1.length : Int) - 1) = true
      · have r2 := inB_true.1 h2
        rw [if_pos h2, if_pos (by omega), if_pos (by omega), h2, Bool.true_and]
      · rw [if_neg h2]
        simp [h2]
    · rw [if_neg h1]
      simp [h1]
  · rw [if_neg o0, if_neg o0]
    by_cases o1 : x.f0 = 1
    · rw [if_pos o1, if_pos o1, wrap_id (by omega) (by omega)]
      by_cases h2 : inB x.f2 0 ((m.length : Int) - 1) = true
      · have r2 := inB_true.1 h2
        rw [if_pos h2, if_pos (by omega), if_pos (by omega), h2, Bool.true_and]
      · rw [if_neg h2]
        simp [h2]
    · rw [if_neg o1, if_neg o1]
theorem impl_holds (m : List Int) (ths : List Thr) (l : List Atm) (hm : m.length ≤ 1048576) (hl : ths.length ≤ 1048576) (hq : ∀ q ∈ ths, q.f1.length ≤ 1048576 ∧ q.f2.length ≤ 1048576) : impl_Holds.f m ths l = some (decide (l.length ≤ 8) && l.all (holdB m ths)) := by
  unfold impl_Holds.f
  have e : ∀ x, impl_Holds.one_ m ths x = some (holdB m ths x) := impl_holdOne m ths hm hl hq
  simp only [e, Option.isSome_some, Option.getD_some]
  by_cases h : l.length ≤ 8
  · rw [if_pos (by omega), if_pos (by simp), decide_eq_true h, Bool.true_and]
  · rw [if_neg (by omega), decide_eq_false h]
    rfl
theorem spec_holds (m : List Int) (ths : List Thr) (l : List Atm) (hm : m.length ≤ 1048576) (hl : ths.length ≤ 1048576) (hq : ∀ q ∈ ths, q.f1.length ≤ 1048576 ∧ q.f2.length ≤ 1048576) (k : Nat) (hk : 10 ≤ k) : spec_Holds.f k m ths l = some (decide (l.length ≤ 8) && l.all (holdB m ths)) := by
  unfold spec_Holds.f
  by_cases h : l.length ≤ 8
  · rw [if_neg (by omega), decide_eq_true h, Bool.true_and]
    exact loop_all l (holdB m ths) (fun k i => spec_Holds.l0 k l i m ths) (fun k j hj => by
      simp only [spec_Holds.l0]
      rw [if_pos (by omega), if_pos (by omega), show rd_T135 l (j : Int) = l[j] from getD_nat _ l j hj, wrap_succ hj (by omega)]
      generalize l[j] = x
      unfold holdB
      simp only [l01In, Option.bind_some]
      by_cases o0 : x.f0 = 0
      · rw [if_pos o0, if_pos o0, wrap_id (by omega) (by omega)]
        by_cases h1 : inB x.f1 0 ((ths.length : Int) - 1) = true
        · have r1 := inB_true.1 h1
          have hs := rdThr_small hq (t := x.f1) (by omega) (by omega)
          rw [if_pos h1, if_pos (by omega), if_pos (by omega), wrap_id (by omega) (by omega), h1, Bool.true_and]
          by_cases h2 : inB x.f2 0 (((rd_T137 ths x.f1).f1.length : Int) - 1) = true
          · have r2 := inB_true.1 h2
            rw [if_pos h2, if_pos (by omega), if_pos (by omega), h2, Bool.true_and]
            simp
          · rw [if_neg h2]
            simp [h2]
        · rw [if_neg h1]
          simp [h1]
      · rw [if_neg o0, if_neg o0]
        by_cases o1 : x.f0 = 1
        · rw [if_pos o1, if_pos o1, wrap_id (by omega) (by omega)]
          by_cases h2 : inB x.f2 0 ((m.length : Int) - 1) = true
          · have r2 := inB_true.1 h2
            rw [if_pos h2, if_pos (by omega), if_pos (by omega), h2, Bool.true_and]
            simp
          · rw [if_neg h2]
            simp [h2]
        · rw [if_neg o1, if_neg o1]
          simp) (fun k => by
      simp only [spec_Holds.l0]
      rw [if_neg (by omega)]) k (by omega)
  · rw [if_pos (by omega), decide_eq_false h]
    rfl
theorem FnExactHolds : laws_FnExactHolds.Left := by
  intro m l1 l hm hl1 hl
  have hl1' : LenThr l1 := hl1
  refine ⟨3145730, ?_⟩
  unfold laws_FnExactHolds.f
  obtain ⟨n, hn, hs⟩ := szMachine m l1 1048576 hm hl1' (by omega) (by omega) 3145730 (by omega)
  rw [hn, Option.bind_some]
  by_cases h0 : n < 0
  · rw [if_pos h0]
  · rw [if_neg h0]
    rcases hs with hs | ⟨_, b1, b2, b3, b4⟩
    · exact absurd hs h0
    · rw [szAtomS l n hl (by omega) b1, Option.bind_some]
      by_cases c : (l.length : Int) ≤ n
      · rw [if_pos c, if_neg (by omega)]
        have s1 := cpThrs_len l1
        have s2 := cpThrs_small b4
        simp only [toMachine m l1 3145730 (by omega) (by omega) b4 (by omega), toAtomS l 3145730 (by omega) (by omega), Option.bind_some, spec_holds m (cpThrs l1) (l.map cpAtom) (by omega) (by omega) s2 3145730 (by omega), impl_holds m (cpThrs l1) (l.map cpAtom) (by omega) (by omega) s2, eqMachine_same m (cpThrs l1) (by omega) (by omega) s2 3145730 (by omega), eqAtomS_same (l.map cpAtom) (by show _ ≤ _; rw [List.length_map]; omega) 3145730 (by rw [List.length_map]; omega)]
        simp
      · rw [if_neg c, if_pos (by omega)]

end Go.Proofs.Ytpcfcdnmpginhaa.Pure
