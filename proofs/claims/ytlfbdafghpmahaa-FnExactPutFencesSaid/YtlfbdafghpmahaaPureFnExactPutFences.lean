/- The law FnExactPutFences answers true: the program's PutFences gives what the reference's gives, for every program and all spots, in memory of its own, and leaves both as they were. No condition. -/
import Derived.Test.YtlfbdafghpmahaaV2
import Derived.Test.YtlfbdafghpmahaaQFnExactPutFences
import Derived.Test.YtlfbdafghpmahaaPut
import Derived.Test.YtlfbdafghpmahaaMarkCodes
namespace Go.Proofs.Ytlfbdafghpmahaa.Pure
open Go.RowKit Go.Proofs.Ytlfbdafghpmahaa.P Go.Proofs.Ytlfbdafghpmahaa.Gen Go.Proofs.YtlfbdafghpmahaaW.PrintWords
set_option linter.unusedSimpArgs false
set_option linter.unusedVariables false

abbrev Spt0 := S119
def cpSpt (x : Spt0) : Spt := ⟨x.f0, x.f1⟩
theorem toSpotS (l : List Spt0) (k : Nat) (hl : l.length ≤ 1048576) (hk : l.length < k) : laws_toSpotS.f k l = some (l.map cpSpt) := by
  unfold laws_toSpotS.f
  rw [if_pos (by omega), if_pos (by omega), Int.toNat_natCast]
  exact fill_loop l cpSpt z96 (fun k out i => laws_toSpotS.l0 k l out i) (fun k out j h ho => by
    simp only [laws_toSpotS.l0, laws_toSpot.f, Option.bind_some]
    rw [if_pos (by omega), if_pos (by omega), if_pos (by omega), show rd_T119 l (j : Int) = l[j] from getD_nat _ l j h, wrap_succ h (by omega), Int.toNat_natCast]
    rfl) (fun k out => by
    simp only [laws_toSpotS.l0]
    rw [if_neg (by omega)]) k hk
theorem FnExactPutFences : laws_FnExactPutFences.Left := by
  intro c l sp h hsp
  refine ⟨2500000, ?_⟩
  unfold laws_FnExactPutFences.f
  obtain ⟨n, hn, hz⟩ := szProg c l 1048576 h.1 h.2 (by omega) (by omega) 2500000 (by omega)
  rw [hn, Option.bind_some]
  by_cases hneg : n < 0
  · rw [if_pos hneg]
  · rw [if_neg hneg]
    rcases hz with hz | ⟨h0, hna, hl, hq⟩
    · exact absurd hz hneg
    · unfold laws_szSpotS.f
      rw [wrap_id (x := n - (sp.length : Int)) (by omega) (by omega)]
      by_cases c2 : n - (sp.length : Int) < 0
      · rw [if_pos c2, Option.bind_some, if_pos (by omega)]
      · rw [if_neg c2, Option.bind_some, if_neg c2]
        have hl' : l.length ≤ 1048576 := by omega
        have hs' : sp.length ≤ 1048576 := by omega
        have hq' : ∀ q ∈ l, q.length ≤ 1048576 := fun q hx => by have := hq q hx; omega
        have hcl : (cpProg l).length ≤ 1048576 := by rw [cpProg_len]; exact hl'
        have hcq := cpProg_small hq'
        have hcs : (sp.map cpSpt).length ≤ 1048576 := by simpa using hs'
        obtain ⟨s1, s2⟩ := putFV_small c (cpProg l) (sp.map cpSpt)
        obtain ⟨t, ht0, htu, ht⟩ := markProg_le c (cpProg l) 1 hcl hcq (by omega) (by omega)
        obtain ⟨u, hu0, hu⟩ := markProg (putFV c (cpProg l) (sp.map cpSpt)).1 (putFV c (cpProg l) (sp.map cpSpt)).2.1 1 (by omega) (fun q hq => by have := s2 q hq; omega) (by omega) (by omega)
        have e1 := eqProg_same (putFV c (cpProg l) (sp.map cpSpt)).1 (putFV c (cpProg l) (sp.map cpSpt)).2.1 (by show _ ≤ _; omega) (fun q hq => by have := s2 q hq; omega) 2500000 (by omega)
        have e2 := eqProg_same c (cpProg l) (by show _ ≤ _; omega) hcq 2500000 (by omega)
        have e3 := eqSpots_same (sp.map cpSpt) hcs 2500000 (by omega)
        have nt : ¬ t < 0 := by omega
        have nu : ¬ u < 0 := by omega
        obtain ⟨m, hm0, hm⟩ : ∃ m : Int × List Spt, 0 ≤ m.1 ∧ laws_markSpotS.f 2500000 (sp.map cpSpt) t = some m := by
          obtain ⟨l', _, hl'⟩ := markSpotS_only (sp.map cpSpt) t hcs ht0 (by omega)
          exact ⟨(t + 2 * (sp.map cpSpt).length, l'), by simp only; omega, hl' 2500000 (by omega)⟩
        have nm : ¬ m.1 < 0 := by omega
        simp only [toProg c l 2500000 hl' hq' (by omega), toSpotS sp 2500000 hs' (by omega), Option.bind_some, spec_putF c (cpProg l) (sp.map cpSpt) 2500000 (by omega), impl_putF c (cpProg l) (sp.map cpSpt) hcs 2500000 (by omega), e1, e2, e3, if_true, bne_self_eq_false, Bool.false_eq_true, if_false, ht 2500000 (by omega), hu 2500000 (by omega), hm, if_neg nt, if_neg nu, if_neg nm]

end Go.Proofs.Ytlfbdafghpmahaa.Pure
