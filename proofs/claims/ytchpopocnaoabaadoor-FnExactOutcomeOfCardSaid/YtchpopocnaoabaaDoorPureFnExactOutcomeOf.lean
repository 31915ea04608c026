import Derived.Test.YtchpopocnaoabaaDoorPlawsFnExactOutcomeOf
import Derived.Test.YtchpopocnaoabaaDoorMachText
-- Written by mp.py (the session's own driver over the kit's printer) for the seat YtchpopocnaoabaaDoor.
namespace Go.Proofs.YtchpopocnaoabaaDoor.P
open Go.RowKit Go.Proofs.YtchpopocnaoabaaDoorW.PrintWords Go.Proofs.YtchpopocnaoabaaDoorW.PrintLast Go.Proofs.YtchpopocnaoabaaDoorW.PrintMore
attribute [local go_sem] max2_int min2_int max_two min_two max_three min_three max_four min_four
set_option linter.unusedVariables false
set_option linter.unusedSimpArgs false

/-- What is left of the law FnExactOutcomeOf: no program and no memory in it. -/
def laws_FnExactOutcomeOf.Left : Prop := ∀ (l0_0 : List Int) (l0_1 : List (S167)), (l0_0.length ≤ 9223372036854775807) → (l0_1.length ≤ 9223372036854775807 ∧ ∀ q_ ∈ l0_1, ((q_.f1.length ≤ 9223372036854775807) ∧ (q_.f2.length ≤ 9223372036854775807))) → ((∀ q_ ∈ l0_0, (-9223372036854775808 ≤ q_ ∧ q_ ≤ 9223372036854775807))) → ((∀ q_ ∈ l0_1, ((-9223372036854775808 ≤ q_.f0 ∧ q_.f0 ≤ 9223372036854775807) ∧ ((∀ pq_ ∈ q_.f1, (-9223372036854775808 ≤ pq_ ∧ pq_ ≤ 9223372036854775807)) ∧ ((∀ pq_ ∈ q_.f2, ((-9223372036854775808 ≤ pq_.f0 ∧ pq_.f0 ≤ 9223372036854775807) ∧ ((-9223372036854775808 ≤ pq_.f1 ∧ pq_.f1 ≤ 9223372036854775807))))))))) → ∃ k, laws_FnExactOutcomeOf.f k l0_0 l0_1 = some true
end Go.Proofs.YtchpopocnaoabaaDoor.P

/- The law FnExactOutcomeOf answers true: the program's OutcomeOf gives what the reference's gives, for every machine; the machine is left as it was. No condition. -/
namespace Go.Proofs.YtchpopocnaoabaaDoor.Pure
open Go.RowKit Go.Proofs.YtchpopocnaoabaaDoor.P Go.Proofs.YtchpopocnaoabaaDoor.Gen Go.Proofs.YtchpopocnaoabaaDoorW.PrintWords

theorem FnExactOutcomeOf : laws_FnExactOutcomeOf.Left := by
  intro m l hm hl _ hr
  refine ⟨2200000, ?_⟩
  unfold laws_FnExactOutcomeOf.f
  obtain ⟨n, hz, hc⟩ := szMachine m l 1048576 hm hl (by omega) (by omega) 2200000 (by omega)
  rw [hz, Option.bind_some]
  rcases hc with hc | ⟨h0, _, hm2, hl2, hq⟩
  · rw [if_pos hc]
  · rw [if_neg (by omega)]
    have hi : ∀ t ∈ cpThrs l, ThrI t := by
      intro t ht
      obtain ⟨x, hx, rfl⟩ := List.mem_map.1 ht
      obtain ⟨r0, r1, r2⟩ := hr x hx
      refine ⟨r0, r1, fun y hy => ?_, ?_⟩
      · obtain ⟨z, hz, rfl⟩ := List.mem_map.1 hy
        exact ⟨(r2 z hz).1, (r2 z hz).2⟩
      · have := (hq x hx).2
        show (x.f2.map cpSlot).length ≤ 1048576
        rw [List.length_map]
        exact this
    have hs := cpThrs_small hq
    have hL : (cpThrs l).length ≤ 1048576 := by rw [cpThrs_len]; omega
    simp only [toMachine m l 2200000 (by omega) (by omega) hq (by omega), Option.bind_some, spec_outcomeOf m (cpThrs l) hi 2200000 (by omega), impl_outcomeOf m (cpThrs l) hi 2200000 (by omega), eqMachine_same m (cpThrs l) (by omega) hL hs 2200000 (by omega), if_true]

end Go.Proofs.YtchpopocnaoabaaDoor.Pure
