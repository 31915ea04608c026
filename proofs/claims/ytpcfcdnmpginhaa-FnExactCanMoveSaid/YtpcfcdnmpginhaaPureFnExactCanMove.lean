import Derived.Test.YtpcfcdnmpginhaaPlawsFnExactCanMove
import Derived.Test.YtpcfcdnmpginhaaMOk
-- Written by mp.py (the session's own driver over the kit's printer) for the seat Ytpcfcdnmpginhaa.
namespace Go.Proofs.Ytpcfcdnmpginhaa.P
open Go.RowKit Go.Proofs.YtpcfcdnmpginhaaW.PrintWords Go.Proofs.YtpcfcdnmpginhaaW.PrintLast Go.Proofs.YtpcfcdnmpginhaaW.PrintMore
attribute [local go_sem] max2_int min2_int max_two min_two max_three min_three max_four min_four
set_option linter.unusedVariables false
set_option linter.unusedSimpArgs false

/-- What is left of the law FnExactCanMove: no program and no memory in it. -/
def laws_FnExactCanMove.Left : Prop := ∀ (a0_0 : Int) (l0_1 : List (List (S176))) (l1_0 : List Int) (l1_1 : List (S205)) (a2_0 : Int) (a2_1 : Bool), (l0_1.length ≤ 9223372036854775807 ∧ ∀ q_ ∈ l0_1, q_.length ≤ 9223372036854775807) → (l1_0.length ≤ 9223372036854775807) → (l1_1.length ≤ 9223372036854775807 ∧ ∀ q_ ∈ l1_1, ((q_.f1.length ≤ 9223372036854775807) ∧ (q_.f2.length ≤ 9223372036854775807))) → ∃ k, laws_FnExactCanMove.f k a0_0 l0_1 l1_0 l1_1 a2_0 a2_1 = some true
end Go.Proofs.Ytpcfcdnmpginhaa.P

/- The law FnExactCanMove answers true: the program's CanMove gives what the reference's gives, for every program, machine and move, and leaves them as they were. No condition. -/
namespace Go.Proofs.Ytpcfcdnmpginhaa.Pure
open Go.RowKit Go.Proofs.Ytpcfcdnmpginhaa.P Go.Proofs.Ytpcfcdnmpginhaa.Gen Go.Proofs.YtpcfcdnmpginhaaW.PrintWords

def waitB (x : Ins) : Bool := if x.f0 = 4 then true else if x.f0 = 5 then true else x.f0 == 7
theorem spec_wait (x : Ins) : spec_HasFence.f x.f0 x.f1 x.f2 x.f3 = some (waitB x) := by
  unfold spec_HasFence.f waitB
  repeat' split
  all_goals rfl
theorem impl_wait (x : Ins) : impl_HasFence.f x.f0 x.f1 x.f2 x.f3 = some (waitB x) := by
  unfold impl_HasFence.f waitB
  repeat' split
  all_goals rfl
/-- Can a thread move (with its code q)? -/
def canT (q : List Ins) (t : Thr) (d : Bool) : Bool :=
  if d = true then decide ((t.f2.length : Int) > 0) else if t.f0 = (q.length : Int) then false
  else if (rd_T153 q t.f0).f0 = 3 then decide ((t.f2.length : Int) < 3) else if waitB (rd_T153 q t.f0) = true then (t.f2.length : Int) == 0 else true
def canB (c : Int) (l : List (List Ins)) (m : List Int) (ths : List Thr) (i : Int) (d : Bool) : Bool :=
  machB c l m ths && (inB i 0 ((ths.length : Int) - 1) && canT (l.getD i.toNat []) (rd_T137 ths i) d)
theorem mem_zip_at {l : List (List Ins)} {ths : List Thr} (h : ths.length = l.length) {i : Int} (h0 : 0 ≤ i) (h1 : i < ths.length) : (l.getD i.toNat [], rd_T137 ths i) ∈ l.zip ths := by
  obtain ⟨j, rfl⟩ : ∃ j : Nat, i = j := ⟨i.toNat, by omega⟩
  have hj : j < ths.length := by omega
  have hj' : j < l.length := by omega
  rw [rdThr' ths j hj, rdCode l j hj']
  have hz : j < (l.zip ths).length := by rw [List.length_zip]; omega
  have := List.getElem_mem hz
  rwa [List.getElem_zip] at this
theorem spec_can (c : Int) (l : List (List Ins)) (m : List Int) (ths : List Thr) (h : machB c l m ths = true) (i : Int) (d : Bool) (h0 : 0 ≤ i) (h1 : i < ths.length) : spec_l04Can.f c l m ths i d = some (canT (l.getD i.toNat []) (rd_T137 ths i) d) := by
  obtain ⟨hp, h2, h4⟩ := machB_facts h
  have hpc := thrB_pc (h4 _ (mem_zip_at h2 h0 h1))
  unfold spec_l04Can.f
  rw [if_pos (by omega), if_pos (by omega), if_pos (show i < (l.length : Int) by omega)]
  simp only [rd_L17]
  simp only at hpc
  generalize rd_T137 ths i = t at hpc ⊢
  unfold canT
  simp only [spec_wait, Option.bind_some]
  by_cases e0 : d = true
  · simp [e0]
  · rw [if_neg e0, if_neg e0]
    by_cases e1 : t.f0 = ((l.getD i.toNat []).length : Int)
    · rw [if_pos e1, if_pos e1]
    · rw [if_neg e1, if_neg e1, if_pos (by omega), if_pos (by omega)]
      split
      · rfl
      · split <;> rfl
theorem impl_can (c : Int) (l : List (List Ins)) (m : List Int) (ths : List Thr) (h : machB c l m ths = true) (i : Int) (d : Bool) : impl_canMove.f c l m ths i d = some (inB i 0 ((ths.length : Int) - 1) && canT (l.getD i.toNat []) (rd_T137 ths i) d) := by
  obtain ⟨hp, h2, h4⟩ := machB_facts h
  obtain ⟨_, ⟨_, h3⟩, _⟩ := progB_facts hp
  unfold impl_canMove.f
  rw [within, wrap_id (by omega) (by omega), Option.bind_some]
  by_cases hi : inB i 0 ((ths.length : Int) - 1) = true
  · have := inB_true.1 hi
    have hpc := thrB_pc (h4 _ (mem_zip_at h2 (i := i) (by omega) (by omega)))
    rw [if_pos hi, hi, Bool.true_and, if_pos (by omega), if_pos (by omega), if_pos (show i < (l.length : Int) by omega)]
    simp only [rd_L17]
    simp only at hpc
    generalize rd_T137 ths i = t at hpc ⊢
    unfold canT
    simp only [impl_wait, Option.bind_some]
    by_cases e0 : d = true
    · simp [e0]
    · rw [if_neg e0, if_neg e0]
      by_cases e1 : t.f0 = ((l.getD i.toNat []).length : Int)
      · rw [if_pos e1, if_pos e1]
      · rw [if_neg e1, if_neg e1, if_pos (by omega), if_pos (by omega)]
        split
        · rfl
        · split <;> rfl
  · rw [if_neg hi]
    simp [hi]
theorem spec_canMove (c : Int) (l : List (List Ins)) (m : List Int) (ths : List Thr) (i : Int) (d : Bool) (hm : m.length ≤ 1048576) (ht : ths.length ≤ 1048576) (k : Nat) (hk : 200 ≤ k) : spec_CanMove.f k c l m ths i d = some (canB c l m ths i d) := by
  unfold spec_CanMove.f canB
  rw [spec_machineOk c l m ths hm ht k hk, Option.bind_some]
  by_cases h : machB c l m ths = true
  · obtain ⟨hp, h2, _⟩ := machB_facts h
    obtain ⟨_, ⟨_, h3⟩, _⟩ := progB_facts hp
    rw [if_pos h, h, Bool.true_and, l01In, wrap_id (by omega) (by omega), Option.bind_some, h2]
    by_cases hi : inB i 0 ((l.length : Int) - 1) = true
    · have := inB_true.1 hi
      rw [if_pos hi, hi, Bool.true_and, spec_can c l m ths h i d (by omega) (by omega)]
      rfl
    · rw [if_neg hi]
      simp [hi]
  · rw [if_neg h]
    simp [h]
theorem impl_canMove' (c : Int) (l : List (List Ins)) (m : List Int) (ths : List Thr) (i : Int) (d : Bool) (k : Nat) (hk : 200 ≤ k) : impl_CanMove.f k c l m ths i d = some (canB c l m ths i d) := by
  unfold impl_CanMove.f canB
  rw [impl_machineOk c l m ths k (by omega), Option.bind_some]
  by_cases h : machB c l m ths = true
  · rw [if_pos h, h, Bool.true_and, impl_can c l m ths h i d]
    rfl
  · rw [if_neg h]
    simp [h]
theorem FnExactCanMove : laws_FnExactCanMove.Left := by
  intro c l m l1 i d hl hm hl1
  have hl1' : LenThr l1 := hl1
  refine ⟨3145730, ?_⟩
  unfold laws_FnExactCanMove.f laws_toMove.f
  obtain ⟨n, hn, hs⟩ := szProg c l 1048576 hl.1 hl.2 (by omega) (by omega) 3145730 (by omega)
  rw [hn, Option.bind_some]
  by_cases h0 : n < 0
  · rw [if_pos h0]
  · rw [if_neg h0]
    rcases hs with hs | ⟨_, a1, a2, a3⟩
    · exact absurd hs h0
    · obtain ⟨n', hn', hs'⟩ := szMachine m l1 n hm hl1' (by omega) (by omega) 3145730 (by omega)
      rw [hn', Option.bind_some]
      by_cases h1 : n' < 0
      · rw [if_pos h1]
      · rw [if_neg h1]
        rcases hs' with hs' | ⟨_, b1, b2, b3, b4⟩
        · exact absurd hs' h1
        · have s1 := cpThrs_len l1
          have s2 := cpThrs_small b4
          have s3 : ∀ q ∈ l, q.length ≤ 1048576 := fun q hq => by have := a3 q hq; omega
          have s4 := cpProg_len l
          simp only [toProg c l 3145730 (by omega) s3 (by omega), toMachine m l1 3145730 (by omega) (by omega) b4 (by omega), Option.bind_some, spec_canMove c (cpProg l) m (cpThrs l1) i d (by omega) (by omega) 3145730 (by omega), impl_canMove' c (cpProg l) m (cpThrs l1) i d 3145730 (by omega), eqProg_same c (cpProg l) (by show _ ≤ _; omega) (cpProg_small s3) 3145730 (by omega), eqMachine_same m (cpThrs l1) (by omega) (by omega) s2 3145730 (by omega)]
          simp

end Go.Proofs.Ytpcfcdnmpginhaa.Pure
