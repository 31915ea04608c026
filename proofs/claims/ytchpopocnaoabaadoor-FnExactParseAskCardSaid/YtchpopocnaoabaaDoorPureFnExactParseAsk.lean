import Derived.Test.YtchpopocnaoabaaDoorPlawsheldAtomS
import Derived.Test.YtchpopocnaoabaaDoorAskParse
import Derived.Test.YtchpopocnaoabaaDoorAtomMark
-- Written by mp.py (the session's own driver over the kit's printer) for the seat YtchpopocnaoabaaDoor.
namespace Go.Proofs.YtchpopocnaoabaaDoor.P
open Go.RowKit Go.Proofs.YtchpopocnaoabaaDoorW.PrintWords Go.Proofs.YtchpopocnaoabaaDoorW.PrintLast Go.Proofs.YtchpopocnaoabaaDoorW.PrintMore
attribute [local go_sem] max2_int min2_int max_two min_two max_three min_three max_four min_four
set_option linter.unusedVariables false
set_option linter.unusedSimpArgs false

/-- What is left of the law FnExactParseAsk: no program and no memory in it. -/
def laws_FnExactParseAsk.Left : Prop := ∀ (a0 : ByteArray), (a0.size ≤ 140737488351232) → ∃ k, laws_FnExactParseAsk.f k a0 = some true
end Go.Proofs.YtchpopocnaoabaaDoor.P

/- The law FnExactParseAsk answers true: the program's ParseAsk gives what the reference's gives, for every text, in memory of its own. No condition. -/
namespace Go.Proofs.YtchpopocnaoabaaDoor.Pure
open Go.RowKit Go.Proofs.YtchpopocnaoabaaDoor.P Go.Proofs.YtchpopocnaoabaaDoor.Gen Go.Proofs.YtchpopocnaoabaaDoorW.PrintWords

theorem FnExactParseAsk : laws_FnExactParseAsk.Left := by
  intro a0 ha
  refine ⟨4002, ?_⟩
  unfold laws_FnExactParseAsk.f
  by_cases hsz : (a0.size : Int) > 1048576
  · rw [if_pos hsz]
  rw [if_neg hsz]
  obtain ⟨l, b, hl, hs, hi⟩ := parseAsk_same a0.data.toList (by have : a0.data.toList.length = a0.size := rfl; omega)
  rw [list_mk] at hs hi
  have hL : Len l := by unfold Len; omega
  obtain ⟨l', hl', hm⟩ := markAtm l 1 hL (by omega) (by omega)
  rw [hs 4002 (by omega), hi 4002 (by omega), Option.bind_some, Option.bind_some, eqAtomS_same l hL 4002 (by omega), Option.bind_some, if_pos rfl]
  simp only [bne_self_eq_false, laws_FnExactParseAsk.j0, Bool.false_eq_true, if_false]
  rw [(hm 4001 (by omega)).1, Option.bind_some, (hm 4001 (by omega)).2, Option.bind_some, if_neg (by omega), if_pos rfl, hi 4001 (by omega), Option.bind_some, eqAtomS_same l hL 4001 (by omega), Option.bind_some, if_pos rfl]
  simp only [bne_self_eq_false, laws_FnExactParseAsk.j1, Bool.false_eq_true, if_false]
  rw [(hm 4000 (by omega)).2, Option.bind_some, if_neg (by omega), if_pos rfl]

end Go.Proofs.YtchpopocnaoabaaDoor.Pure
