/- The law FnExactNewHeap answers true: the program's NewHeap gives what the reference's gives, for every number, in memory of its own. No condition. -/
import Derived.Test.YtimlilgdbkcpoaaQFnExactNewHeap
import Derived.Test.YtimlilgdbkcpoaaInts
import Derived.Test.YtimlilgdbkcpoaaBools
import Derived.Test.YtimlilgdbkcpoaaBoolM
import Derived.Test.YtimlilgdbkcpoaaScal
namespace Go.Proofs.Ytimlilgdbkcpoaa.Pure
open Go.RowKit Go.Proofs.Ytimlilgdbkcpoaa.P Go.Proofs.Ytimlilgdbkcpoaa.Gen Go.Proofs.YtimlilgdbkcpoaaW.PrintWords

theorem newHeap_same (n : Int) : ∃ l v b, l.length ≤ 24 ∧ v.length ≤ 24 ∧ spec_NewHeap.f n = some (l, v, b) ∧ impl_NewHeap.f n = some (l, v, b) := by
  unfold spec_NewHeap.f impl_NewHeap.f
  rw [l01In, within]
  simp only [Option.bind_some]
  by_cases h : inB n 1 24 = true
  · have := inB_true.1 h
    rw [if_pos h, if_pos (by omega), if_pos (by omega), if_pos (by omega)]
    exact ⟨_, _, _, by simp; omega, by simp; omega, rfl, rfl⟩
  · rw [if_neg h]
    exact ⟨_, _, _, by simp, by simp, rfl, rfl⟩

theorem FnExactNewHeap : laws_FnExactNewHeap.Left := by
  intro n
  obtain ⟨l, v, b, hl, hv, hs, hi⟩ := newHeap_same n
  refine ⟨30, ?_⟩
  have hL : Len l := by unfold Len; omega
  have hV : Len v := by unfold Len; omega
  have he : ∀ k, 24 < k → laws_eqHeap.f k l v l v = some true := fun k hk => by
    unfold laws_eqHeap.f
    rw [eqIntS l l hL k (by omega), Option.bind_some, eqBoolS v v hV k (by omega)]
    simp
  obtain ⟨v', hv', hm⟩ := markBoolS v (1 + l.length) hV (by omega) (by omega)
  have hmark : ∀ k, 24 < k → laws_markHeap.f k l v 1 = some (1 + (l.length : Int) + v.length, marks 1 l.length, v') := fun k hk => by
    unfold laws_markHeap.f
    rw [markIntS l 1 k hL (by omega) (by omega) (by omega), Option.bind_some, (hm k (by omega)).1]
    rfl
  have hheld : ∀ k, 24 < k → laws_heldHeap.f k (marks 1 l.length) v' 1 = some (1 + (l.length : Int) + v.length) := fun k hk => by
    unfold laws_heldHeap.f
    rw [heldIntS 1 l.length k (by omega) (by omega) (by omega) (by omega), Option.bind_some, if_neg (by omega), (hm k (by omega)).2, Option.bind_some, if_neg (by omega)]
  unfold laws_FnExactNewHeap.f
  rw [hs, hi]
  simp only [Option.bind_some]
  rw [he 30 (by omega)]
  simp only [Option.bind_some, if_true, bne_self_eq_false, laws_FnExactNewHeap.j0, Bool.false_eq_true, if_false, hi]
  rw [hmark 29 (by omega)]
  simp only [Option.bind_some]
  rw [hheld 29 (by omega)]
  simp only [Option.bind_some]
  rw [if_neg (by omega), he 29 (by omega)]
  simp only [Option.bind_some, if_true, laws_FnExactNewHeap.j1, Bool.false_eq_true, if_false]
  rw [hheld 28 (by omega)]
  simp only [Option.bind_some, if_true]
  rw [if_neg (by omega)]

end Go.Proofs.Ytimlilgdbkcpoaa.Pure
