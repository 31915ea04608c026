import Derived.Test.YtpcfcdnmpginhaaPlawsFnExactAtEnd
import Derived.Test.YtpcfcdnmpginhaaMOk
-- Written by mp.py (the session's own driver over the kit's printer) for the seat Ytpcfcdnmpginhaa.
namespace Go.Proofs.Ytpcfcdnmpginhaa.P
open Go.RowKit Go.Proofs.YtpcfcdnmpginhaaW.PrintWords Go.Proofs.YtpcfcdnmpginhaaW.PrintLast Go.Proofs.YtpcfcdnmpginhaaW.PrintMore
attribute [local go_sem] max2_int min2_int max_two min_two max_three min_three max_four min_four
set_option linter.unusedVariables false
set_option linter.unusedSimpArgs false

/-- What is left of the law FnExactAtEnd: no program and no memory in it. -/
def laws_FnExactAtEnd.Left : Prop := ∀ (a0_0 : Int) (l0_1 : List (List (S176))) (l1_0 : List Int) (l1_1 : List (S205)), (l0_1.length ≤ 9223372036854775807 ∧ ∀ q_ ∈ l0_1, q_.length ≤ 9223372036854775807) → (l1_0.length ≤ 9223372036854775807) → (l1_1.length ≤ 9223372036854775807 ∧ ∀ q_ ∈ l1_1, ((q_.f1.length ≤ 9223372036854775807) ∧ (q_.f2.length ≤ 9223372036854775807))) → ∃ k, laws_FnExactAtEnd.f k a0_0 l0_1 l1_0 l1_1 = some true
end Go.Proofs.Ytpcfcdnmpginhaa.P

/- The law FnExactAtEnd answers true: the program's AtEnd gives what the reference's gives, for every program and machine, and leaves both as they were. No condition. -/
namespace Go.Proofs.Ytpcfcdnmpginhaa.Pure
open Go.RowKit Go.Proofs.Ytpcfcdnmpginhaa.P Go.Proofs.Ytpcfcdnmpginhaa.Gen Go.Proofs.YtpcfcdnmpginhaaW.PrintWords

def endB (q : List Ins) (t : Thr) : Bool := decide (t.f0 = (q.length : Int)) && decide (t.f2.length = 0)
def atEndB (c : Int) (l : List (List Ins)) (m : List Int) (ths : List Thr) : Bool := machB c l m ths && (l.zip ths).all fun z => endB z.1 z.2
theorem spec_end (c : Int) (l : List (List Ins)) (m : List Int) (ths : List Thr) (he : l.length = ths.length) (hl : ths.length ≤ 3) (k : Nat) (hk : 20 ≤ k) : spec_l04End.f k c l m ths = some ((l.zip ths).all fun z => endB z.1 z.2) := by
  unfold spec_l04End.f
  refine loop_zip l ths he endB (fun k i => spec_l04End.l0 k i c l m ths) 1 1 (fun k j h h' R hK hc hR => ?_) (fun k => ?_) k (by omega)
  · obtain ⟨k, rfl⟩ : ∃ m, k = m + 1 := ⟨k - 1, by omega⟩
    simp only [spec_l04End.l0]
    have e := rdCode l j h
    rw [if_pos (by omega), if_pos (by omega), if_pos (by omega), rdThr' _ _ h', wrap_succ h' (by omega), hR k (by omega)]
    simp only [rd_L17, e]
    generalize ths[j] = t at *
    generalize l[j] = q at *
    unfold endB
    by_cases h1 : t.f0 = (q.length : Int)
    · rw [if_pos h1, decide_eq_true h1, Bool.true_and]
      by_cases h2 : t.f2.length = 0
      · rw [if_neg (by omega), decide_eq_true h2]
        rfl
      · rw [if_pos (by omega), decide_eq_false h2]
        rfl
    · rw [if_neg h1, decide_eq_false h1]
      rfl
  · simp only [spec_l04End.l0]
    rw [if_neg (by omega)]
theorem impl_end (c : Int) (l : List (List Ins)) (m : List Int) (ths : List Thr) (he : l.length = ths.length) (hl : ths.length ≤ 3) (k : Nat) (hk : 20 ≤ k) : impl_atEnd.f k c l m ths = some ((l.zip ths).all fun z => !(decide (z.2.f0 < (z.1.length : Int))) && decide (z.2.f2.length = 0)) := by
  unfold impl_atEnd.f
  refine loop_zip l ths he (fun q t => !(decide (t.f0 < (q.length : Int))) && decide (t.f2.length = 0)) (fun k i => impl_atEnd.l0 k ths (ths.length : Int) i c l) 1 1 (fun k j h h' R hK hc hR => ?_) (fun k => ?_) k (by omega)
  · obtain ⟨k, rfl⟩ : ∃ m, k = m + 1 := ⟨k - 1, by omega⟩
    simp only [impl_atEnd.l0]
    have e := rdCode l j h
    rw [if_pos (by omega), if_pos (by omega), if_pos (by omega), if_pos (by omega), rdThr' _ _ h', wrap_succ h' (by omega), hR k (by omega)]
    simp only [rd_L17, e]
    generalize ths[j] = t at *
    generalize l[j] = q at *
    by_cases h1 : t.f0 < (q.length : Int)
    · rw [if_pos h1, decide_eq_true h1]
      rfl
    · rw [if_neg h1, decide_eq_false h1]
      by_cases h2 : t.f2.length = 0
      · rw [if_neg (by omega), decide_eq_true h2]
        rfl
      · rw [if_pos (by omega), decide_eq_false h2]
        rfl
  · simp only [impl_atEnd.l0]
    rw [if_neg (by omega)]
theorem spec_atEnd (c : Int) (l : List (List Ins)) (m : List Int) (ths : List Thr) (hm : m.length ≤ 1048576) (ht : ths.length ≤ 1048576) (k : Nat) (hk : 200 ≤ k) : spec_AtEnd.f k c l m ths = some (atEndB c l m ths) := by
  unfold spec_AtEnd.f atEndB
  rw [spec_machineOk c l m ths hm ht k hk, Option.bind_some]
  by_cases h : machB c l m ths = true
  · obtain ⟨hp, h2, _⟩ := machB_facts h
    obtain ⟨_, ⟨_, h3⟩, _⟩ := progB_facts hp
    rw [if_pos h, h, Bool.true_and, spec_end c l m ths h2.symm (by omega) k (by omega)]
    rfl
  · rw [if_neg h]
    simp [h]
theorem impl_atEnd (c : Int) (l : List (List Ins)) (m : List Int) (ths : List Thr) (k : Nat) (hk : 200 ≤ k) : impl_AtEnd.f k c l m ths = some (atEndB c l m ths) := by
  unfold impl_AtEnd.f atEndB
  rw [impl_machineOk c l m ths k (by omega), Option.bind_some]
  by_cases h : machB c l m ths = true
  · obtain ⟨hp, h2, h4⟩ := machB_facts h
    obtain ⟨_, ⟨_, h3⟩, _⟩ := progB_facts hp
    rw [if_pos h, h, Bool.true_and, impl_end c l m ths h2.symm (by omega) k (by omega), Option.bind_some]
    congr 1
    rw [Bool.eq_iff_iff, List.all_eq_true, List.all_eq_true]
    have key : ∀ z ∈ l.zip ths, (!(decide (z.2.f0 < (z.1.length : Int))) && decide (z.2.f2.length = 0)) = endB z.1 z.2 := fun z hz => by
      have := thrB_pc (h4 z hz)
      unfold endB
      congr 1
      by_cases e : z.2.f0 < (z.1.length : Int)
      · rw [decide_eq_true e, decide_eq_false (by omega)]
        rfl
      · rw [decide_eq_false e, decide_eq_true (by omega)]
        rfl
    exact ⟨fun H z hz => (key z hz) ▸ H z hz, fun H z hz => (key z hz).symm ▸ H z hz⟩
  · rw [if_neg h]
    simp [h]
theorem FnExactAtEnd : laws_FnExactAtEnd.Left := by
  intro c l m l1 hl hm hl1
  have hl1' : LenThr l1 := hl1
  refine ⟨3145730, ?_⟩
  unfold laws_FnExactAtEnd.f
  obtain ⟨n, hn, hs⟩ := szProg c l 1048576 hl.1 hl.2 (by omega) (by omega) 3145730 (by omega)
  rw [hn, Option.bind_some]
  by_cases h0 : n < 0
  · rw [if_pos h0]
  · rw [if_neg h0]
    rcases hs with hs | ⟨_, a1, a2, a3⟩
    · exact absurd hs h0
    · obtain ⟨n', hn', hs'⟩ := szMachine m l1 n hm hl1' (by omega) (by omega) 3145730 (by omega)
      rw [hn', Option.bind_some]
      by_cases h1 : n' < 0
      · rw [if_pos h1]
      · rw [if_neg h1]
        rcases hs' with hs' | ⟨_, b1, b2, b3, b4⟩
        · exact absurd hs' h1
        · have s1 := cpThrs_len l1
          have s2 := cpThrs_small b4
          have s3 : ∀ q ∈ l, q.length ≤ 1048576 := fun q hq => by have := a3 q hq; omega
          have s4 := cpProg_len l
          simp only [toProg c l 3145730 (by omega) s3 (by omega), toMachine m l1 3145730 (by omega) (by omega) b4 (by omega), Option.bind_some, spec_atEnd c (cpProg l) m (cpThrs l1) (by omega) (by omega) 3145730 (by omega), impl_atEnd c (cpProg l) m (cpThrs l1) 3145730 (by omega), eqProg_same c (cpProg l) (by show _ ≤ _; omega) (cpProg_small s3) 3145730 (by omega), eqMachine_same m (cpThrs l1) (by omega) (by omega) s2 3145730 (by omega)]
          simp

end Go.Proofs.Ytpcfcdnmpginhaa.Pure
