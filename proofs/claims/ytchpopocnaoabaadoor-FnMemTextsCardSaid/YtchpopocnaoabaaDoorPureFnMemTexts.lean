import Derived.Test.YtchpopocnaoabaaDoorPlawsFnMemTexts
import Derived.Test.YtchpopocnaoabaaDoorParseMem
import Derived.Test.YtchpopocnaoabaaDoorDrawMem
-- Written by mp.py (the session's own driver over the kit's printer) for the seat YtchpopocnaoabaaDoor.
namespace Go.Proofs.YtchpopocnaoabaaDoor.P
open Go.RowKit Go.Proofs.YtchpopocnaoabaaDoorW.PrintWords Go.Proofs.YtchpopocnaoabaaDoorW.PrintLast Go.Proofs.YtchpopocnaoabaaDoorW.PrintMore
attribute [local go_sem] max2_int min2_int max_two min_two max_three min_three max_four min_four
set_option linter.unusedVariables false
set_option linter.unusedSimpArgs false

/-- What is left of the law FnMemTexts: no program and no memory in it. -/
def laws_FnMemTexts.Left : Prop := ∀ (l0 : List Int), (l0.length ≤ 9223372036854775807) → ∃ k, laws_FnMemTexts.f k l0 = some true
end Go.Proofs.YtchpopocnaoabaaDoor.P

/- The law FnMemTexts answers true: the text of a drawn memory is read back as that memory, from every seed. No condition. -/
namespace Go.Proofs.YtchpopocnaoabaaDoor.Pure
open Go.RowKit Go.Proofs.YtchpopocnaoabaaDoor.P Go.Proofs.YtchpopocnaoabaaDoor.Gen Go.Proofs.YtchpopocnaoabaaDoorW.PrintWords

theorem equalInts (a b : List Int) (ha : Len a) (k : Nat) (hk : a.length < k) : slices_Equal_int_int.f k a b = some (decide (a = b)) := by
  unfold slices_Equal_int_int.f
  by_cases hl : a.length = b.length
  · rw [if_pos (by omega)]
    refine loop_same a b hl (fun k i => slices_Equal_int_int.l0 k a b (a.length : Int) i) (fun k j h h' => ?_) (fun k => ?_) k hk
    · simp only [slices_Equal_int_int.l0]
      rw [if_pos (by omega), if_pos (by omega), if_pos (by omega), if_pos (by omega), rd_nat _ _ h, rd_nat _ _ h', wrap_succ h ha]
    · simp only [slices_Equal_int_int.l0]
      rw [if_neg (by omega)]
  · rw [if_neg (by omega)]
    refine congrArg some (Eq.symm (decide_eq_false fun h => hl ?_))
    rw [h]

theorem FnMemTexts : laws_FnMemTexts.Left := by
  intro l hl
  refine ⟨5000, ?_⟩
  unfold laws_FnMemTexts.f laws_big.f
  rw [Option.bind_some]
  split
  · rfl
  obtain ⟨m, hm⟩ := drawMemOk l hl 5000 (by omega)
  unfold spec_DrawMemText.f
  rw [hm, Option.bind_some, Option.bind_some, spec_memOk m _ (by omega), Option.bind_some]
  by_cases h : memB m = true
  · have hn := memB_len h
    rw [if_pos h, impl_memText m _ (by omega), Option.bind_some]
    have e : memTextW m = lineW m := by
      unfold memTextW
      rw [if_pos h]
    rw [e, impl_parseMem_yes m h _ (by omega), Option.bind_some]
    unfold impl_SameMem.f
    rw [if_pos rfl, impl_memOk, Option.bind_some, if_pos h, Option.bind_some, if_pos h, equalInts m m (by unfold Len; omega) _ (by omega)]
    simp
  · rw [if_neg h]

end Go.Proofs.YtchpopocnaoabaaDoor.Pure
