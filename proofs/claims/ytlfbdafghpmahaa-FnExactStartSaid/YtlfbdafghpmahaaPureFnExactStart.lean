import Derived.Test.YtlfbdafghpmahaaPlawsFnExactStart
import Derived.Test.YtlfbdafghpmahaaMarkCodes
import Derived.Test.YtlfbdafghpmahaaMarkMach
-- Written by mp.py (the session's own driver over the kit's printer) for the seat Ytlfbdafghpmahaa.
namespace Go.Proofs.Ytlfbdafghpmahaa.P
open Go.RowKit Go.Proofs.YtlfbdafghpmahaaW.PrintWords Go.Proofs.YtlfbdafghpmahaaW.PrintLast Go.Proofs.YtlfbdafghpmahaaW.PrintMore
attribute [local go_sem] max2_int min2_int max_two min_two max_three min_three max_four min_four
set_option linter.unusedVariables false
set_option linter.unusedSimpArgs false

/-- What is left of the law FnExactStart: no program and no memory in it. -/
def laws_FnExactStart.Left : Prop := ∀ (a0_0 : Int) (l0_1 : List (List (S84))), (l0_1.length ≤ 9223372036854775807 ∧ ∀ q_ ∈ l0_1, q_.length ≤ 9223372036854775807) → ∃ k, laws_FnExactStart.f k a0_0 l0_1 = some true
end Go.Proofs.Ytlfbdafghpmahaa.P

/- The law FnExactStart answers true: the program's Start gives what the reference's gives, for every program, in memory of its own, and leaves the program as it was. No condition. -/
namespace Go.Proofs.Ytlfbdafghpmahaa.Pure
open Go.RowKit Go.Proofs.Ytlfbdafghpmahaa.P Go.Proofs.Ytlfbdafghpmahaa.Gen Go.Proofs.YtlfbdafghpmahaaW.PrintWords
set_option linter.unusedSimpArgs false
set_option linter.unusedVariables false

def thr0 : Thr := ⟨0, List.replicate 4 0, []⟩
def startV (c : Int) (l : List (List Ins)) : List Int × List Thr × Bool := if progB c l = true then (List.replicate c.toNat 0, List.replicate l.length thr0, true) else ([], [], false)
theorem rep_snoc (t : Nat) : List.replicate t thr0 ++ [thr0] = List.replicate (t + 1) thr0 := (List.replicate_succ' ..).symm
theorem impl_threads (n : Nat) (hn : n ≤ 3) (m : List Int) : ∀ d k (t : Nat), t + d = n → d < k → impl_start.l0 k (n : Int) (t : Int) m (List.replicate t thr0) = some (m, List.replicate n thr0) := by
  intro d
  induction d with
  | zero =>
    intro k t ht hk
    obtain ⟨k, rfl⟩ : ∃ q, k = q + 1 := ⟨k - 1, by omega⟩
    obtain rfl : t = n := by omega
    simp only [impl_start.l0]
    rw [if_neg (by omega)]
  | succ d ih =>
    intro k t ht hk
    obtain ⟨k, rfl⟩ : ∃ q, k = q + 1 := ⟨k - 1, by omega⟩
    simp only [impl_start.l0]
    rw [if_pos (by omega), if_pos (by omega), if_pos (by simp; omega), wrap_succ (n := 100) (by omega) (by omega)]
    have := ih k (t + 1) (by omega) (by omega)
    rw [← rep_snoc] at this
    exact this
theorem spec_threads (l : List (List Ins)) (hn : l.length ≤ 3) (c : Int) (m : List Int) : ∀ d k (t : Nat), t + d = l.length → d < k → spec_Start.l0 k (t : Int) c l m (List.replicate t thr0) = some (m, List.replicate l.length thr0, true) := by
  intro d
  induction d with
  | zero =>
    intro k t ht hk
    obtain ⟨k, rfl⟩ : ∃ q, k = q + 1 := ⟨k - 1, by omega⟩
    obtain rfl : t = l.length := by omega
    simp only [spec_Start.l0]
    rw [if_neg (by omega)]
  | succ d ih =>
    intro k t ht hk
    obtain ⟨k, rfl⟩ : ∃ q, k = q + 1 := ⟨k - 1, by omega⟩
    simp only [spec_Start.l0]
    rw [if_pos (by omega), if_pos (by omega), if_pos (by simp; omega), wrap_succ (n := 100) (by omega) (by omega)]
    have := ih k (t + 1) (by omega) (by omega)
    rw [← rep_snoc] at this
    exact this
theorem impl_startV (c : Int) (l : List (List Ins)) (k : Nat) (hk : 10 ≤ k) : impl_Start.f k c l = some (startV c l) := by
  unfold impl_Start.f impl_start.f startV
  rw [impl_progOk, Option.bind_some]
  by_cases h : progB c l = true
  · obtain ⟨h1, h2, _⟩ := progB_facts h
    rw [if_pos h, if_pos h, if_pos (by omega), if_pos (by omega)]
    have := impl_threads l.length (by omega) (List.replicate c.toNat 0) l.length k 0 (by omega) (by omega)
    have h0 : impl_start.l0 k (l.length : Int) 0 (List.replicate c.toNat 0) ([] : List Thr) = _ := this
    rw [h0]
    rfl
  · rw [if_neg h, if_neg h]
theorem spec_startV (c : Int) (l : List (List Ins)) (k : Nat) (hk : 130 ≤ k) : spec_Start.f k c l = some (startV c l) := by
  unfold spec_Start.f startV
  rw [spec_progOk c l k hk, Option.bind_some]
  by_cases h : progB c l = true
  · obtain ⟨h1, h2, _⟩ := progB_facts h
    rw [if_pos h, if_pos h, if_pos (by omega), if_pos (by omega)]
    exact spec_threads l (by omega) c (List.replicate c.toNat 0) l.length k 0 (by omega) (by omega)
  · rw [if_neg h, if_neg h]
theorem startV_small (c : Int) (l : List (List Ins)) : (startV c l).1.length ≤ 16 ∧ (startV c l).2.1.length ≤ 3 ∧ ∀ q ∈ (startV c l).2.1, q.f1.length ≤ 1048576 ∧ q.f2.length ≤ 1048576 := by
  unfold startV
  by_cases h : progB c l = true
  · obtain ⟨h1, h2, _⟩ := progB_facts h
    rw [if_pos h]
    refine ⟨by simp; omega, by simp; omega, fun q hq => ?_⟩
    have := (List.mem_replicate.1 hq).2
    subst this
    exact ⟨by decide, by decide⟩
  · rw [if_neg h]
    exact ⟨by simp, by simp, fun q hq => by cases hq⟩
theorem FnExactStart : laws_FnExactStart.Left := by
  intro c l h
  refine ⟨2500000, ?_⟩
  unfold laws_FnExactStart.f
  obtain ⟨n, hn, hz⟩ := szProg c l 1048576 h.1 h.2 (by omega) (by omega) 2500000 (by omega)
  rw [hn, Option.bind_some]
  by_cases hneg : n < 0
  · rw [if_pos hneg]
  · rw [if_neg hneg]
    rcases hz with hz | ⟨h0, _, hl, hq⟩
    · exact absurd hz hneg
    · have hl' : l.length ≤ 1048576 := by omega
      have hq' : ∀ q ∈ l, q.length ≤ 1048576 := fun q hx => by have := hq q hx; omega
      have hcl : (cpProg l).length ≤ 1048576 := by rw [cpProg_len]; exact hl'
      have hcq := cpProg_small hq'
      obtain ⟨s1, s2, s3⟩ := startV_small c (cpProg l)
      obtain ⟨t, ht0, ht⟩ := markProg c (cpProg l) 1 hcl hcq (by omega) (by omega)
      obtain ⟨u, hu0, hu⟩ := markMachine (startV c (cpProg l)).1 (startV c (cpProg l)).2.1 1 (by omega) (by omega) s3 (by omega) (by omega)
      have e1 := eqMachine_same (startV c (cpProg l)).1 (startV c (cpProg l)).2.1 (by omega) (by omega) s3 2500000 (by omega)
      have e2 := eqProg_same c (cpProg l) (by show _ ≤ _; omega) hcq 2500000 (by omega)
      have nt : ¬ t < 0 := by omega
      have nu : ¬ u < 0 := by omega
      simp only [toProg c l 2500000 hl' hq' (by omega), Option.bind_some, spec_startV c (cpProg l) 2500000 (by omega), impl_startV c (cpProg l) 2500000 (by omega), e1, e2, if_true, bne_self_eq_false, Bool.false_eq_true, if_false, ht 2500000 (by omega), hu 2500000 (by omega), if_neg nt, if_neg nu]

end Go.Proofs.Ytlfbdafghpmahaa.Pure
