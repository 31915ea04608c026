import Derived.Test.YtpcfcdnmpginhaaPlawsFnExactSafeBench
import Derived.Test.YtpcfcdnmpginhaaBench
-- Written by mp.py (the session's own driver over the kit's printer) for the seat Ytpcfcdnmpginhaa.
namespace Go.Proofs.Ytpcfcdnmpginhaa.P
open Go.RowKit Go.Proofs.YtpcfcdnmpginhaaW.PrintWords Go.Proofs.YtpcfcdnmpginhaaW.PrintLast Go.Proofs.YtpcfcdnmpginhaaW.PrintMore
attribute [local go_sem] max2_int min2_int max_two min_two max_three min_three max_four min_four
set_option linter.unusedVariables false
set_option linter.unusedSimpArgs false

/-- What is left of the law FnExactSafeBench: no program and no memory in it. -/
def laws_FnExactSafeBench.Left : Prop := ∀ (l0_0 : List Int) (l0_1 : List (S194)) (l0_2 : List Int) (l0_3 : List Int) (a0_4 : Int), (l0_0.length ≤ 9223372036854775807) → (l0_1.length ≤ 9223372036854775807) → (l0_2.length ≤ 9223372036854775807) → (l0_3.length ≤ 9223372036854775807) → ∃ k, laws_FnExactSafeBench.f k l0_0 l0_1 l0_2 l0_3 a0_4 = some true
end Go.Proofs.Ytpcfcdnmpginhaa.P

/- The law FnExactSafeBench answers true: the program's SafeBench gives what the reference's gives, for every bench, and leaves it as it was. No condition. -/
namespace Go.Proofs.Ytpcfcdnmpginhaa.Pure
open Go.RowKit Go.Proofs.Ytpcfcdnmpginhaa.P Go.Proofs.Ytpcfcdnmpginhaa.Gen Go.Proofs.YtpcfcdnmpginhaaW.PrintWords

def safeB (A : List Int) (H : List Hld) (B C : List Int) (n : Int) : Bool := benchB A H B C n && H.all fun h => !(decide (h.f1 ∈ C))
theorem spec_safe (A : List Int) (H : List Hld) (B C : List Int) (n : Int) (hA : A.length ≤ 1048576) (hB : B.length ≤ 1048576) (hC : C.length ≤ 1048576) (k : Nat) (hk : 200000 ≤ k) : spec_SafeBench.f k A H B C n = some (safeB A H B C n) := by
  unfold spec_SafeBench.f safeB
  rw [spec_benchOk A H B C n hA hB hC k hk, Option.bind_some]
  by_cases h : benchB A H B C n = true
  · obtain ⟨f1, f2, f3, f4⟩ := benchB_facts h
    rw [if_pos h, h, Bool.true_and]
    have key : ∀ d k (j : Nat), j ≤ H.length → H.length - j = d → d + 100 < k → spec_SafeBench.l0 k (j : Int) A H B C n = some ((H.drop j).all fun h => !(decide (h.f1 ∈ C))) := by
      intro d
      induction d with
      | zero =>
        intro k j hj hd hk
        obtain ⟨k, rfl⟩ : ∃ m, k = m + 1 := ⟨k - 1, by omega⟩
        obtain rfl : j = H.length := by omega
        simp only [spec_SafeBench.l0]
        rw [if_neg (by omega), List.drop_length]
        rfl
      | succ d ih =>
        intro k j hj hd hk
        obtain ⟨k, rfl⟩ : ∃ m, k = m + 1 := ⟨k - 1, by omega⟩
        have hlt : j < H.length := by omega
        simp only [spec_SafeBench.l0]
        rw [if_pos (by omega), if_pos (by omega), rdHld H j hlt, hasInt C _ (by omega) k (by omega), Option.bind_some, wrap_succ hlt (by omega), ih k (j + 1) (by omega) (by omega) (by omega), List.drop_eq_getElem_cons hlt, List.all_cons]
        by_cases c : H[j].f1 ∈ C
        · rw [if_pos (by simpa using c), decide_eq_true c]
          rfl
        · rw [if_neg (by simpa using c), decide_eq_false c]
          rfl
    have := key H.length k 0 (Nat.zero_le _) (by omega) (by omega)
    simpa using this
  · rw [if_neg h]
    simp [h]
theorem impl_safe (A : List Int) (H : List Hld) (B C : List Int) (n : Int) (hs : A.length + B.length + C.length ≤ 1048576) (hH : H.length ≤ 1048576) (k : Nat) (hk : 2 * H.length + (A.length + B.length + C.length) + 20 ≤ k) : impl_SafeBench.f k A H B C n = some (safeB A H B C n) := by
  unfold impl_SafeBench.f safeB slices_ContainsFunc_int_int.f
  rw [impl_benchOk A H B C n hs hH k hk, Option.bind_some]
  by_cases h : benchB A H B C n = true
  · rw [if_pos h, h, Bool.true_and, Option.bind_some]
    congr 1
    rw [Bool.eq_iff_iff]
    simp only [Bool.not_eq_true', List.any_eq_false, List.any_eq_true, List.all_eq_true, beq_iff_eq, decide_eq_false_iff_not, not_exists, not_and]
    exact ⟨fun H' y hy hm => H' _ hm y hy rfl, fun H' x hx y hy e => H' y hy (e ▸ hx)⟩
  · rw [if_neg h]
    simp [h]
theorem FnExactSafeBench : laws_FnExactSafeBench.Left := by
  intro A H B C n hA hH hB hC
  refine ⟨3145731, ?_⟩
  unfold laws_FnExactSafeBench.f
  obtain ⟨m, hm, hs⟩ := szBench A H B C n hA hH hB hC
  rw [hm, Option.bind_some]
  by_cases h0 : m < 0
  · rw [if_pos h0]
  · rw [if_neg h0]
    have hs := hs.resolve_left h0
    have hl : (H.map cpHold).length = H.length := List.length_map _
    simp only [toBench A H B C n 3145731 (by omega) (by omega) (by omega) (by omega) (by omega), Option.bind_some, spec_safe A (H.map cpHold) B C n (by omega) (by omega) (by omega) 3145731 (by omega), impl_safe A (H.map cpHold) B C n (by omega) (by omega) 3145731 (by omega), eqBench_same A (H.map cpHold) B C n 3145731 (by omega) (by omega) (by omega) (by omega) (by omega)]
    simp

end Go.Proofs.Ytpcfcdnmpginhaa.Pure
