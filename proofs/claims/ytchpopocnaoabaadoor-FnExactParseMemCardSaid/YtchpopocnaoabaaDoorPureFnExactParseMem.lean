import Derived.Test.YtchpopocnaoabaaDoorPlawsFnExactParseMem
import Derived.Test.YtchpopocnaoabaaDoorIntsMark
import Derived.Test.YtchpopocnaoabaaDoorParseMem
-- Written by mp.py (the session's own driver over the kit's printer) for the seat YtchpopocnaoabaaDoor.
namespace Go.Proofs.YtchpopocnaoabaaDoor.P
open Go.RowKit Go.Proofs.YtchpopocnaoabaaDoorW.PrintWords Go.Proofs.YtchpopocnaoabaaDoorW.PrintLast Go.Proofs.YtchpopocnaoabaaDoorW.PrintMore
attribute [local go_sem] max2_int min2_int max_two min_two max_three min_three max_four min_four
set_option linter.unusedVariables false
set_option linter.unusedSimpArgs false

/-- What is left of the law FnExactParseMem: no program and no memory in it. -/
def laws_FnExactParseMem.Left : Prop := ∀ (a0 : ByteArray), (a0.size ≤ 140737488351232) → ∃ k, laws_FnExactParseMem.f k a0 = some true
end Go.Proofs.YtchpopocnaoabaaDoor.P

/- The law FnExactParseMem answers true: the program's ParseMem gives what the reference's gives, for every text, in memory of its own. No condition. -/
namespace Go.Proofs.YtchpopocnaoabaaDoor.Pure
open Go.RowKit Go.Proofs.YtchpopocnaoabaaDoor.P Go.Proofs.YtchpopocnaoabaaDoor.Gen Go.Proofs.YtchpopocnaoabaaDoorW.PrintWords

theorem parseMem_same (t : List UInt8) (ht : t.length ≤ 1048576) : ∃ l b, l.length ≤ 16 ∧ (∀ k, 1048600 ≤ k → spec_ParseMem.f k (mk t) = some (l, b)) ∧ (∀ k, 1048600 ≤ k → impl_ParseMem.f k (mk t) = some (l, b)) := by
  by_cases h : ∃ vs, memB vs = true ∧ t = lineW vs
  · obtain ⟨vs, hm, rfl⟩ := h
    have := memB_len hm
    exact ⟨vs, true, by omega, fun k hk => spec_parseMem_yes vs hm k (by omega), fun k hk => impl_parseMem_yes vs hm k (by omega)⟩
  · have hn : ∀ vs, memB vs = true → t ≠ lineW vs := fun vs hm e => h ⟨vs, hm, e⟩
    exact ⟨[], false, by simp, fun k hk => spec_parseMem_no t ht hn k (by omega), fun k hk => impl_parseMem_no t ht hn k (by omega)⟩

theorem FnExactParseMem : laws_FnExactParseMem.Left := by
  intro a0 ha
  refine ⟨1048700, ?_⟩
  unfold laws_FnExactParseMem.f
  by_cases hsz : (a0.size : Int) > 1048576
  · rw [if_pos hsz]
  rw [if_neg hsz]
  obtain ⟨l, b, hl, hs, hi⟩ := parseMem_same a0.data.toList (by have : a0.data.toList.length = a0.size := rfl; omega)
  rw [list_mk] at hs hi
  have hL : Len l := by unfold Len; omega
  rw [hs _ (by omega), hi _ (by omega)]
  simp only [Option.bind_some, laws_eqMem.f]
  rw [eqIntS l l hL _ (by omega)]
  simp only [decide_true, Option.bind_some, if_true, bne_self_eq_false, laws_FnExactParseMem.j0, Bool.false_eq_true, if_false, laws_markMem.f, laws_heldMem.f, hi 1048699 (by omega), laws_eqMem.f]
  rw [markIntS l 1 _ hL (by omega) (by omega) (by omega)]
  simp only [Option.bind_some]
  rw [heldIntS 1 l.length _ (by omega) (by omega) (by omega) (by omega)]
  simp only [Option.bind_some]
  rw [if_neg (by omega), eqIntS l l hL _ (by omega)]
  simp only [Option.bind_some, decide_true, if_true, laws_FnExactParseMem.j1, Bool.false_eq_true, if_false, laws_heldMem.f]
  rw [heldIntS 1 l.length _ (by omega) (by omega) (by omega) (by omega)]
  have hn : ¬ (1 + (l.length : Int) < 0) := by omega
  simp [hn]

end Go.Proofs.YtchpopocnaoabaaDoor.Pure
