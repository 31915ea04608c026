/- The law FnExactStripFences answers true: the program's StripFences gives what the reference's gives, for every program, in memory of its own, and leaves the program as it was. No condition. -/
import Derived.Test.YtlfbdafghpmahaaV2
import Derived.Test.YtlfbdafghpmahaaQFnExactStripFences
import Derived.Test.YtlfbdafghpmahaaStrip
import Derived.Test.YtlfbdafghpmahaaMarkCodes
namespace Go.Proofs.Ytlfbdafghpmahaa.Pure
open Go.RowKit Go.Proofs.Ytlfbdafghpmahaa.P Go.Proofs.Ytlfbdafghpmahaa.Gen Go.Proofs.YtlfbdafghpmahaaW.PrintWords

theorem FnExactStripFences : laws_FnExactStripFences.Left := by
  intro c l h
  refine ⟨2500000, ?_⟩
  unfold laws_FnExactStripFences.f
  obtain ⟨n, hn, hz⟩ := szProg c l 1048576 h.1 h.2 (by omega) (by omega) 2500000 (by omega)
  rw [hn, Option.bind_some]
  by_cases hneg : n < 0
  · rw [if_pos hneg]
  · rw [if_neg hneg]
    rcases hz with hz | ⟨h0, _, hl, hq⟩
    · exact absurd hz hneg
    · have hl' : l.length ≤ 1048576 := by omega
      have hq' : ∀ q ∈ l, q.length ≤ 1048576 := fun q hx => by have := hq q hx; omega
      have hcl : (cpProg l).length ≤ 1048576 := by rw [cpProg_len]; exact hl'
      have hcq := cpProg_small hq'
      obtain ⟨s1, s2⟩ := stripsV_small c (cpProg l)
      obtain ⟨t, ht0, ht⟩ := markProg c (cpProg l) 1 hcl hcq (by omega) (by omega)
      obtain ⟨u, hu0, hu⟩ := markProg (stripsV c (cpProg l)).1 (stripsV c (cpProg l)).2.1 1 (by omega) (fun q hq => by have := s2 q hq; omega) (by omega) (by omega)
      have e1 := eqProg_same (stripsV c (cpProg l)).1 (stripsV c (cpProg l)).2.1 (by show _ ≤ _; omega) (fun q hq => by have := s2 q hq; omega) 2500000 (by omega)
      have e2 := eqProg_same c (cpProg l) (by show _ ≤ _; omega) hcq 2500000 (by omega)
      have nt : ¬ t < 0 := by omega
      have nu : ¬ u < 0 := by omega
      simp only [toProg c l 2500000 hl' hq' (by omega), Option.bind_some, spec_strip c (cpProg l) 2500000 (by omega), impl_strip c (cpProg l) 2500000 (by omega), e1, e2, if_true, bne_self_eq_false, Bool.false_eq_true, if_false, ht 2500000 (by omega), hu 2500000 (by omega), if_neg nt, if_neg nu]

end Go.Proofs.Ytlfbdafghpmahaa.Pure
