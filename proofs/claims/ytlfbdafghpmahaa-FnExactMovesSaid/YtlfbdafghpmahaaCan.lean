/- Can a thread of a valid machine move: the program's test and the reference's. No condition but that lengths are lengths. -/
import Derived.Test.YtlfbdafghpmahaaMOk
import Derived.Test.YtlfbdafghpmahaaPimplcanMove
import Derived.Test.YtlfbdafghpmahaaPspecl04Can
namespace Go.Proofs.Ytlfbdafghpmahaa.Pure
open Go.RowKit Go.Proofs.Ytlfbdafghpmahaa.P Go.Proofs.Ytlfbdafghpmahaa.Gen Go.Proofs.YtlfbdafghpmahaaW.PrintWords

def waitB (x : Ins) : Bool := if x.f0 = 4 then true else if x.f0 = 5 then true else x.f0 == 7
theorem spec_wait (x : Ins) : spec_HasFence.f x.f0 x.f1 x.f2 x.f3 = some (waitB x) := by
  unfold spec_HasFence.f waitB
  repeat' split
  all_goals rfl
theorem impl_wait (x : Ins) : impl_HasFence.f x.f0 x.f1 x.f2 x.f3 = some (waitB x) := by
  unfold impl_HasFence.f waitB
  repeat' split
  all_goals rfl
/-- Can a thread move (with its code q)? -/
def canT (q : List Ins) (t : Thr) (d : Bool) : Bool :=
  if d = true then decide ((t.f2.length : Int) > 0) else if t.f0 = (q.length : Int) then false
  else if (rd_T82 q t.f0).f0 = 3 then decide ((t.f2.length : Int) < 3) else if waitB (rd_T82 q t.f0) = true then (t.f2.length : Int) == 0 else true
def canB (c : Int) (l : List (List Ins)) (m : List Int) (ths : List Thr) (i : Int) (d : Bool) : Bool :=
  machB c l m ths && (inB i 0 ((ths.length : Int) - 1) && canT (l.getD i.toNat []) (rd_T102 ths i) d)
theorem mem_zip_at {l : List (List Ins)} {ths : List Thr} (h : ths.length = l.length) {i : Int} (h0 : 0 ≤ i) (h1 : i < ths.length) : (l.getD i.toNat [], rd_T102 ths i) ∈ l.zip ths := by
  obtain ⟨j, rfl⟩ : ∃ j : Nat, i = j := ⟨i.toNat, by omega⟩
  have hj : j < ths.length := by omega
  have hj' : j < l.length := by omega
  rw [rdThr' ths j hj, rdCode l j hj']
  have hz : j < (l.zip ths).length := by rw [List.length_zip]; omega
  have := List.getElem_mem hz
  rwa [List.getElem_zip] at this
theorem spec_can (c : Int) (l : List (List Ins)) (m : List Int) (ths : List Thr) (h : machB c l m ths = true) (i : Int) (d : Bool) (h0 : 0 ≤ i) (h1 : i < ths.length) : spec_l04Can.f c l m ths i d = some (canT (l.getD i.toNat []) (rd_T102 ths i) d) := by
  obtain ⟨hp, h2, h4⟩ := machB_facts h
  have hpc := thrB_pc (h4 _ (mem_zip_at h2 h0 h1))
  unfold spec_l04Can.f
  rw [if_pos (by omega), if_pos (by omega), if_pos (show i < (l.length : Int) by omega)]
  simp only [rd_L4]
  simp only at hpc
  generalize rd_T102 ths i = t at hpc ⊢
  unfold canT
  simp only [spec_wait, Option.bind_some]
  by_cases e0 : d = true
  · simp [e0]
  · rw [if_neg e0, if_neg e0]
    by_cases e1 : t.f0 = ((l.getD i.toNat []).length : Int)
    · rw [if_pos e1, if_pos e1]
    · rw [if_neg e1, if_neg e1, if_pos (by omega), if_pos (by omega)]
      split
      · rfl
      · split <;> rfl
theorem impl_can (c : Int) (l : List (List Ins)) (m : List Int) (ths : List Thr) (h : machB c l m ths = true) (i : Int) (d : Bool) : impl_canMove.f c l m ths i d = some (inB i 0 ((ths.length : Int) - 1) && canT (l.getD i.toNat []) (rd_T102 ths i) d) := by
  obtain ⟨hp, h2, h4⟩ := machB_facts h
  obtain ⟨_, ⟨_, h3⟩, _⟩ := progB_facts hp
  unfold impl_canMove.f
  rw [within, wrap_id (by omega) (by omega), Option.bind_some]
  by_cases hi : inB i 0 ((ths.length : Int) - 1) = true
  · have := inB_true.1 hi
    have hpc := thrB_pc (h4 _ (mem_zip_at h2 (i := i) (by omega) (by omega)))
    rw [if_pos hi, hi, Bool.true_and, if_pos (by omega), if_pos (by omega), if_pos (show i < (l.length : Int) by omega)]
    simp only [rd_L4]
    simp only at hpc
    generalize rd_T102 ths i = t at hpc ⊢
    unfold canT
    simp only [impl_wait, Option.bind_some]
    by_cases e0 : d = true
    · simp [e0]
    · rw [if_neg e0, if_neg e0]
      by_cases e1 : t.f0 = ((l.getD i.toNat []).length : Int)
      · rw [if_pos e1, if_pos e1]
      · rw [if_neg e1, if_neg e1, if_pos (by omega), if_pos (by omega)]
        split
        · rfl
        · split <;> rfl
  · rw [if_neg hi]
    simp [hi]

end Go.Proofs.Ytlfbdafghpmahaa.Pure
