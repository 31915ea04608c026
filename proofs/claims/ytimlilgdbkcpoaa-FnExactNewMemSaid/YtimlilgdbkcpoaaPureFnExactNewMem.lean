/- The law FnExactNewMem answers true: the program's NewMem gives what the reference's gives, for every number, in memory of its own. No condition. -/
import Derived.Test.YtimlilgdbkcpoaaQFnExactNewMem
import Derived.Test.YtimlilgdbkcpoaaInts
import Derived.Test.YtimlilgdbkcpoaaScal
namespace Go.Proofs.Ytimlilgdbkcpoaa.Pure
open Go.RowKit Go.Proofs.Ytimlilgdbkcpoaa.P Go.Proofs.Ytimlilgdbkcpoaa.Gen Go.Proofs.YtimlilgdbkcpoaaW.PrintWords

theorem newMem_same (n : Int) : ∃ l b, l.length ≤ 16 ∧ spec_NewMem.f n = some (l, b) ∧ impl_NewMem.f n = some (l, b) := by
  unfold spec_NewMem.f impl_NewMem.f
  rw [l01In, within]
  simp only [Option.bind_some]
  by_cases h : inB n 1 16 = true
  · have := inB_true.1 h
    rw [if_pos h, if_pos (by omega), if_pos (by omega)]
    exact ⟨_, _, by simp; omega, rfl, rfl⟩
  · rw [if_neg h]
    exact ⟨_, _, by simp, rfl, rfl⟩

theorem FnExactNewMem : laws_FnExactNewMem.Left := by
  intro n
  obtain ⟨l, b, hl, hs, hi⟩ := newMem_same n
  refine ⟨22, ?_⟩
  have hL : Len l := by unfold Len; omega
  unfold laws_FnExactNewMem.f
  rw [hs, hi]
  simp only [Option.bind_some, laws_eqMem.f]
  rw [eqIntS l l hL 22 (by omega)]
  simp only [decide_true, Option.bind_some, if_true, bne_self_eq_false, laws_FnExactNewMem.j0, Bool.false_eq_true, if_false, laws_markMem.f, laws_heldMem.f, hi, laws_eqMem.f]
  rw [markIntS l 1 21 hL (by omega) (by omega) (by omega)]
  simp only [Option.bind_some]
  rw [heldIntS 1 l.length 21 (by omega) (by omega) (by omega) (by omega)]
  simp only [Option.bind_some]
  rw [if_neg (by omega), eqIntS l l hL 21 (by omega)]
  simp only [Option.bind_some, decide_true, if_true, laws_FnExactNewMem.j1, Bool.false_eq_true, if_false, laws_heldMem.f]
  rw [heldIntS 1 l.length 20 (by omega) (by omega) (by omega) (by omega)]
  have hn : ¬ (1 + (l.length : Int) < 0) := by omega
  simp [hn]

end Go.Proofs.Ytimlilgdbkcpoaa.Pure
