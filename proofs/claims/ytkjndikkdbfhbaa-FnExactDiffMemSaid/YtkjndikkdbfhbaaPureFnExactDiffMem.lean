import Derived.Test.YtkjndikkdbfhbaaPlawsFnExactDiffMem
import Derived.Test.YtkjndikkdbfhbaaMem
-- Written by mp.py (the session's own driver over the kit's printer) for the seat Ytkjndikkdbfhbaa.
namespace Go.Proofs.Ytkjndikkdbfhbaa.P
open Go.RowKit Go.Proofs.YtkjndikkdbfhbaaW.PrintWords Go.Proofs.YtkjndikkdbfhbaaW.PrintLast Go.Proofs.YtkjndikkdbfhbaaW.PrintMore
attribute [local go_sem] max2_int min2_int max_two min_two max_three min_three max_four min_four
set_option linter.unusedVariables false
set_option linter.unusedSimpArgs false

/-- What is left of the law FnExactDiffMem: no program and no memory in it. -/
def laws_FnExactDiffMem.Left : Prop := ∀ (l0_0 : List Int) (l1_0 : List Int), (l0_0.length ≤ 9223372036854775807) → (l1_0.length ≤ 9223372036854775807) → ∃ k, laws_FnExactDiffMem.f k l0_0 l1_0 = some true
end Go.Proofs.Ytkjndikkdbfhbaa.P

/- The law FnExactDiffMem answers true: the program's DiffMem gives what the reference's gives, for every two memories, in memory of its own, and leaves them as they were. No condition. -/
namespace Go.Proofs.Ytkjndikkdbfhbaa.Pure
open Go.RowKit Go.Proofs.Ytkjndikkdbfhbaa.P Go.Proofs.Ytkjndikkdbfhbaa.Gen Go.Proofs.YtkjndikkdbfhbaaW.PrintWords

def diffStep (a b : List Int) (out : List Int) (j : Nat) : List Int := if rd a (j : Int) = rd b (j : Int) then out else out ++ [(j : Int)]
def diffV (a b : List Int) : List Int := if memB a = true ∧ memB b = true ∧ a.length = b.length then (List.range a.length).foldl (diffStep a b) [] else []
theorem diffStep_len (a b out : List Int) (j : Nat) : (diffStep a b out j).length ≤ out.length + 1 := by
  unfold diffStep
  split
  · omega
  · simp
theorem diffV_len (a b : List Int) : (diffV a b).length ≤ 16 := by
  unfold diffV
  by_cases h : memB a = true ∧ memB b = true ∧ a.length = b.length
  · have := memB_len h.1
    rw [if_pos h]
    have key : ∀ (l : List Nat) (out : List Int), (l.foldl (diffStep a b) out).length ≤ out.length + l.length := by
      intro l
      induction l with
      | nil => intro out; simp
      | cons x l ih =>
        intro out
        have := ih (diffStep a b out x)
        have := diffStep_len a b out x
        simp only [List.foldl_cons, List.length_cons]
        omega
    have := key (List.range a.length) []
    simp at this ⊢
    omega
  · rw [if_neg h]
    simp
theorem impl_diffMem (a b : List Int) (k : Nat) (hk : 19 ≤ k) : impl_DiffMem.f k a b = some (diffV a b) := by
  unfold impl_DiffMem.f diffV
  rw [impl_memOk, impl_memOk, Option.bind_some]
  obtain ⟨k, rfl⟩ : ∃ q, k = q + 1 := ⟨k - 1, by omega⟩
  by_cases h : memB a = true
  · have ha := memB_len h
    rw [if_pos h, Option.bind_some]
    by_cases h2 : memB b = true
    · rw [if_pos h2]
      simp only [impl_DiffMem.j0]
      by_cases h3 : a.length = b.length
      · rw [if_neg (by simp [h3]), if_pos ⟨h, h2, h3⟩]
        have := loop_inv (List.range a.length) (diffStep a b) id (fun k out i => impl_DiffMem.l0 k out a (a.length : Int) i b) (fun j out => out.length ≤ j)
          (fun j out hj ho => by have := diffStep_len a b out (List.range a.length)[j]; omega)
          (fun k out j hj ho => by
            have hj' : j < a.length := by simpa using hj
            simp only [impl_DiffMem.l0, List.getElem_range]
            rw [if_pos (by omega), if_pos (by omega), if_pos (by omega), if_pos (by omega), wrap_succ hj' (by omega)]
            unfold diffStep
            by_cases c : rd a (j : Int) = rd b (j : Int)
            · rw [if_pos c, if_pos c]
            · rw [if_neg c, if_pos (by omega), if_neg c])
          (fun k out ho => by
            simp only [impl_DiffMem.l0, List.length_range]
            rw [if_neg (by omega)]
            rfl) k [] (by simp) (by simp; omega)
        exact this
      · rw [if_pos (by simp; omega), if_neg (fun q => h3 q.2.2)]
    · rw [if_neg h2, if_neg (fun q => h2 q.2.1)]
      simp [impl_DiffMem.j0]
  · rw [if_neg h, if_neg (fun q => h q.1)]
    simp [impl_DiffMem.j0]
theorem spec_diffMem (a b : List Int) (k : Nat) (hk : 19 ≤ k) : spec_DiffMem.f k a b = some (diffV a b) := by
  unfold spec_DiffMem.f diffV
  rw [Option.bind_some, spec_memOk a k (by omega), spec_memOk b k (by omega), Option.bind_some]
  obtain ⟨k, rfl⟩ : ∃ q, k = q + 1 := ⟨k - 1, by omega⟩
  by_cases h : memB a = true
  · have ha := memB_len h
    rw [if_pos h, Option.bind_some]
    by_cases h2 : memB b = true
    · rw [if_pos h2]
      simp only [spec_DiffMem.j0]
      by_cases h3 : a.length = b.length
      · rw [if_neg (by simp [h3]), if_pos ⟨h, h2, h3⟩]
        have := loop_inv (List.range a.length) (diffStep a b) id (fun k out i => spec_DiffMem.l0 k out i a b) (fun j out => out.length ≤ j)
          (fun j out hj ho => by have := diffStep_len a b out (List.range a.length)[j]; omega)
          (fun k out j hj ho => by
            have hj' : j < a.length := by simpa using hj
            simp only [spec_DiffMem.l0, List.getElem_range]
            rw [if_pos (by omega), if_pos (by omega), if_pos (by omega), wrap_succ hj' (by omega)]
            unfold diffStep
            by_cases c : rd a (j : Int) = rd b (j : Int)
            · rw [if_pos c, if_pos c]
            · rw [if_neg c, if_pos (by omega), if_neg c])
          (fun k out ho => by
            simp only [spec_DiffMem.l0, List.length_range]
            rw [if_neg (by omega)]
            rfl) k [] (by simp) (by simp; omega)
        exact this
      · rw [if_pos (by simp; omega), if_neg (fun q => h3 q.2.2)]
    · rw [if_neg h2, if_neg (fun q => h2 q.2.1)]
      simp [spec_DiffMem.j0]
  · rw [if_neg h, if_neg (fun q => h q.1)]
    simp [spec_DiffMem.j0]

theorem FnExactDiffMem : laws_FnExactDiffMem.Left := by
  intro a b ha hb
  refine ⟨1048578, ?_⟩
  unfold laws_FnExactDiffMem.f
  rw [szMem a _ ha (by omega) (by omega), Option.bind_some]
  by_cases h : (a.length : Int) ≤ 1048576
  · rw [if_pos h, if_neg (by omega), szMem b _ hb (by omega) (by omega), Option.bind_some]
    by_cases h' : (b.length : Int) ≤ 1048576 - a.length
    · rw [if_pos h', if_neg (by omega)]
      have hl := diffV_len a b
      have hn1 : ¬ (1 + (a.length : Int) + b.length < 0) := by omega
      have hn2 : ¬ (1 + ((diffV a b).length : Int) < 0) := by omega
      simp only [toMem a 1048578 (by omega) (by omega), toMem b 1048578 (by omega) (by omega), Option.bind_some, spec_diffMem a b 1048578 (by omega), impl_diffMem a b 1048578 (by omega), eqMem a a (by unfold Len; omega) 1048578 (by omega), eqMem b b (by unfold Len; omega) 1048578 (by omega), eqIntS (diffV a b) (diffV a b) (by unfold Len; omega) 1048578 (by omega), decide_true, if_true,
        laws_markMem.f, markIntS a 1 1048578 (by unfold Len; omega) (by omega) (by omega) (by omega), markIntS b (1 + a.length) 1048578 (by unfold Len; omega) (by omega) (by omega) (by omega), if_neg hn1, Bool.not_true, laws_FnExactDiffMem.j0, Bool.false_eq_true, if_false,
        markIntS (diffV a b) 1 1048577 (by unfold Len; omega) (by omega) (by omega) (by omega), heldIntS 1 (diffV a b).length 1048577 (by omega) (by omega) (by omega) (by omega), if_neg hn2, toMem a 1048577 (by omega) (by omega), toMem b 1048577 (by omega) (by omega), impl_diffMem a b 1048577 (by omega), eqIntS (diffV a b) (diffV a b) (by unfold Len; omega) 1048577 (by omega)]
    · rw [if_neg h']
      rfl
  · rw [if_neg h]
    rfl

end Go.Proofs.Ytkjndikkdbfhbaa.Pure
