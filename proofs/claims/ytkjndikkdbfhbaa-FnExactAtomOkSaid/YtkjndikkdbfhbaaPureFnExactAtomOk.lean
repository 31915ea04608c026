import Derived.Test.YtkjndikkdbfhbaaPlawsFnExactAtomOk
import Derived.Test.YtkjndikkdbfhbaaPrg
-- Written by mp.py (the session's own driver over the kit's printer) for the seat Ytkjndikkdbfhbaa.
namespace Go.Proofs.Ytkjndikkdbfhbaa.P
open Go.RowKit Go.Proofs.YtkjndikkdbfhbaaW.PrintWords Go.Proofs.YtkjndikkdbfhbaaW.PrintLast Go.Proofs.YtkjndikkdbfhbaaW.PrintMore
attribute [local go_sem] max2_int min2_int max_two min_two max_three min_three max_four min_four
set_option linter.unusedVariables false
set_option linter.unusedSimpArgs false

/-- What is left of the law FnExactAtomOk: no program and no memory in it. -/
def laws_FnExactAtomOk.Left : Prop := ∀ (a0_0 : Int) (a0_1 : Int) (a0_2 : Int) (a0_3 : Int) (a1_0 : Int) (l1_1 : List (List (S178))), (l1_1.length ≤ 9223372036854775807 ∧ ∀ q_ ∈ l1_1, q_.length ≤ 9223372036854775807) → ∃ k, laws_FnExactAtomOk.f k a0_0 a0_1 a0_2 a0_3 a1_0 l1_1 = some true
end Go.Proofs.Ytkjndikkdbfhbaa.P

/- The law FnExactAtomOk answers true: the program's AtomOk gives what the reference's gives, for every statement and program, and leaves the program as it was. No condition. -/
namespace Go.Proofs.Ytkjndikkdbfhbaa.Pure
open Go.RowKit Go.Proofs.Ytkjndikkdbfhbaa.P Go.Proofs.Ytkjndikkdbfhbaa.Gen Go.Proofs.YtkjndikkdbfhbaaW.PrintWords

def atomB (o t r v c : Int) (l : List (List Ins)) : Bool :=
  progB c l && (valB v && (if o = 0 then inB t 0 (l.length - 1) && inB r 0 3 else if o = 1 then (t == 0) && inB r 0 (c - 1) else false))
theorem impl_value (v : Int) : impl_isValue.f v = some (valB v) := by
  unfold impl_isValue.f
  rw [within]
  rfl
theorem spec_value (v : Int) : spec_l01Value.f v = some (valB v) := by
  unfold spec_l01Value.f
  rw [l01In]
  rfl
theorem impl_atomOk (o t r v c : Int) (l : List (List Ins)) (k : Nat) (hk : 2 ≤ k) : impl_AtomOk.f k o t r v c l = some (atomB o t r v c l) := by
  unfold impl_AtomOk.f atomB
  obtain ⟨k, rfl⟩ : ∃ m, k = m + 1 := ⟨k - 1, by omega⟩
  rw [impl_progOk, Option.bind_some]
  by_cases h : progB c l = true
  · obtain ⟨⟨c1, c2⟩, ⟨h1, h2⟩, _⟩ := progB_facts h
    rw [if_pos h, h, Bool.true_and, impl_value, Option.bind_some]
    simp only [impl_AtomOk.j0, within, impl_isRegister.f, wrap_id (show -9223372036854775808 ≤ (l.length : Int) - 1 by omega) (by omega), wrap_id (show -9223372036854775808 ≤ c - 1 by omega) (by omega)]
    cases valB v
    · simp
    · by_cases o0 : o = 0
      · subst o0
        cases inB t 0 ((l.length : Int) - 1) <;> simp
      · by_cases o1 : o = 1
        · subst o1
          by_cases t0 : t = 0 <;> simp [t0]
        · simp [o0, o1]
  · rw [if_neg h]
    simp [h, impl_AtomOk.j0]
theorem spec_atomOk (o t r v c : Int) (l : List (List Ins)) (k : Nat) (hk : 130 ≤ k) : spec_AtomOk.f k o t r v c l = some (atomB o t r v c l) := by
  unfold spec_AtomOk.f atomB
  rw [spec_progOk c l k hk, Option.bind_some]
  obtain ⟨k, rfl⟩ : ∃ m, k = m + 1 := ⟨k - 1, by omega⟩
  by_cases h : progB c l = true
  · obtain ⟨⟨c1, c2⟩, ⟨h1, h2⟩, _⟩ := progB_facts h
    rw [if_pos h, h, Bool.true_and, spec_value, Option.bind_some]
    simp only [spec_AtomOk.j0, l01In, wrap_id (show -9223372036854775808 ≤ (l.length : Int) - 1 by omega) (by omega), wrap_id (show -9223372036854775808 ≤ c - 1 by omega) (by omega)]
    cases valB v
    · simp
    · by_cases o0 : o = 0
      · subst o0
        cases inB t 0 ((l.length : Int) - 1) <;> simp
      · by_cases o1 : o = 1
        · subst o1
          by_cases t0 : t = 0 <;> simp [t0]
        · simp [o0, o1]
  · rw [if_neg h]
    simp [h, spec_AtomOk.j0]
theorem FnExactAtomOk : laws_FnExactAtomOk.Left := by
  intro o t r v c l hl
  refine ⟨3145730, ?_⟩
  unfold laws_FnExactAtomOk.f laws_toAtom.f
  obtain ⟨n, hn, hs⟩ := szProg c l 1048576 hl.1 hl.2 (by omega) (by omega) 3145730 (by omega)
  rw [hn, Option.bind_some]
  by_cases h0 : n < 0
  · rw [if_pos h0]
  · rw [if_neg h0]
    rcases hs with hs | ⟨_, _, h1, h2⟩
    · exact absurd hs h0
    · have s2 : ∀ q ∈ l, q.length ≤ 1048576 := fun q hq => by have := h2 q hq; omega
      have hcl := cpProg_len l
      simp only [toProg c l 3145730 (by omega) s2 (by omega), Option.bind_some, spec_atomOk o t r v c (cpProg l) 3145730 (by omega), impl_atomOk o t r v c (cpProg l) 3145730 (by omega), eqProg_same c (cpProg l) (by show _ ≤ _; omega) (cpProg_small s2) 3145730 (by omega)]
      simp

end Go.Proofs.Ytkjndikkdbfhbaa.Pure
