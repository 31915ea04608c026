import Derived.Test.YtkjndikkdbfhbaaPlawsFnExactSpotOk
import Derived.Test.YtkjndikkdbfhbaaPrg
-- Written by mp.py (the session's own driver over the kit's printer) for the seat Ytkjndikkdbfhbaa.
namespace Go.Proofs.Ytkjndikkdbfhbaa.P
open Go.RowKit Go.Proofs.YtkjndikkdbfhbaaW.PrintWords Go.Proofs.YtkjndikkdbfhbaaW.PrintLast Go.Proofs.YtkjndikkdbfhbaaW.PrintMore
attribute [local go_sem] max2_int min2_int max_two min_two max_three min_three max_four min_four
set_option linter.unusedVariables false
set_option linter.unusedSimpArgs false

/-- What is left of the law FnExactSpotOk: no program and no memory in it. -/
def laws_FnExactSpotOk.Left : Prop := ∀ (a0_0 : Int) (a0_1 : Int) (a1_0 : Int) (l1_1 : List (List (S178))), (l1_1.length ≤ 9223372036854775807 ∧ ∀ q_ ∈ l1_1, q_.length ≤ 9223372036854775807) → ∃ k, laws_FnExactSpotOk.f k a0_0 a0_1 a1_0 l1_1 = some true
end Go.Proofs.Ytkjndikkdbfhbaa.P

/- The law FnExactSpotOk answers true: the program's SpotOk gives what the reference's gives, for every place and program, and leaves the program as it was. No condition. -/
namespace Go.Proofs.Ytkjndikkdbfhbaa.Pure
open Go.RowKit Go.Proofs.Ytkjndikkdbfhbaa.P Go.Proofs.Ytkjndikkdbfhbaa.Gen Go.Proofs.YtkjndikkdbfhbaaW.PrintWords

def spotB (t i c : Int) (l : List (List Ins)) : Bool := progB c l && (inB t 0 (l.length - 1) && inB i 0 ((rd_L9 l t).length : Int))
theorem impl_spotOk (t i c : Int) (l : List (List Ins)) : impl_SpotOk.f t i c l = some (spotB t i c l) := by
  unfold impl_SpotOk.f spotB
  rw [impl_progOk, Option.bind_some]
  by_cases h : progB c l = true
  · obtain ⟨_, ⟨h1, h2⟩, _⟩ := progB_facts h
    rw [if_pos h, h, Bool.true_and, within, wrap_id (by omega) (by omega), Option.bind_some]
    by_cases d : inB t 0 ((l.length : Int) - 1) = true
    · have := inB_true.1 d
      rw [if_pos d, if_pos (by omega), if_pos (by omega), within, d, Bool.true_and]
      rfl
    · rw [if_neg d]
      simp [d]
  · rw [if_neg h]
    simp [h]
theorem spec_spotOk (t i c : Int) (l : List (List Ins)) (k : Nat) (hk : 130 ≤ k) : spec_SpotOk.f k t i c l = some (spotB t i c l) := by
  unfold spec_SpotOk.f spotB
  rw [spec_progOk c l k hk, Option.bind_some]
  by_cases h : progB c l = true
  · obtain ⟨_, ⟨h1, h2⟩, _⟩ := progB_facts h
    rw [if_pos h, h, Bool.true_and, l01In, wrap_id (by omega) (by omega), Option.bind_some]
    by_cases d : inB t 0 ((l.length : Int) - 1) = true
    · have := inB_true.1 d
      rw [if_pos d, if_pos (by omega), if_pos (by omega), l01In, d, Bool.true_and]
      rfl
    · rw [if_neg d]
      simp [d]
  · rw [if_neg h]
    simp [h]
theorem FnExactSpotOk : laws_FnExactSpotOk.Left := by
  intro t i c l hl
  refine ⟨3145730, ?_⟩
  unfold laws_FnExactSpotOk.f laws_toSpot.f
  obtain ⟨n, hn, hs⟩ := szProg c l 1048576 hl.1 hl.2 (by omega) (by omega) 3145730 (by omega)
  rw [hn, Option.bind_some]
  by_cases h0 : n < 0
  · rw [if_pos h0]
  · rw [if_neg h0]
    rcases hs with hs | ⟨_, _, h1, h2⟩
    · exact absurd hs h0
    · have s2 : ∀ q ∈ l, q.length ≤ 1048576 := fun q hq => by have := h2 q hq; omega
      have hcl := cpProg_len l
      simp only [toProg c l 3145730 (by omega) s2 (by omega), Option.bind_some, spec_spotOk t i c (cpProg l) 3145730 (by omega), impl_spotOk, eqProg_same c (cpProg l) (by show _ ≤ _; omega) (cpProg_small s2) 3145730 (by omega)]
      simp

end Go.Proofs.Ytkjndikkdbfhbaa.Pure
