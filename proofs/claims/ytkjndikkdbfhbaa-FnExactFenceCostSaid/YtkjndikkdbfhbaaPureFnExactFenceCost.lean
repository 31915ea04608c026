import Derived.Test.YtkjndikkdbfhbaaPlawsFnExactFenceCost
import Derived.Test.YtkjndikkdbfhbaaPrg
-- Written by mp.py (the session's own driver over the kit's printer) for the seat Ytkjndikkdbfhbaa.
namespace Go.Proofs.Ytkjndikkdbfhbaa.P
open Go.RowKit Go.Proofs.YtkjndikkdbfhbaaW.PrintWords Go.Proofs.YtkjndikkdbfhbaaW.PrintLast Go.Proofs.YtkjndikkdbfhbaaW.PrintMore
attribute [local go_sem] max2_int min2_int max_two min_two max_three min_three max_four min_four
set_option linter.unusedVariables false
set_option linter.unusedSimpArgs false

/-- What is left of the law FnExactFenceCost: no program and no memory in it. -/
def laws_FnExactFenceCost.Left : Prop := ∀ (a0_0 : Int) (l0_1 : List (List (S178))), (l0_1.length ≤ 9223372036854775807 ∧ ∀ q_ ∈ l0_1, q_.length ≤ 9223372036854775807) → ∃ k, laws_FnExactFenceCost.f k a0_0 l0_1 = some true
end Go.Proofs.Ytkjndikkdbfhbaa.P

/- The law FnExactFenceCost answers true: the program's FenceCost gives what the reference's gives, for every program, and leaves the program as it was. No condition. -/
namespace Go.Proofs.Ytkjndikkdbfhbaa.Pure
open Go.RowKit Go.Proofs.Ytkjndikkdbfhbaa.P Go.Proofs.Ytkjndikkdbfhbaa.Gen Go.Proofs.YtkjndikkdbfhbaaW.PrintWords

/-- Has an instruction a fence? -/
def fenceB (x : Ins) : Bool := if x.f0 = 4 then true else if x.f0 = 5 then true else x.f0 == 7
theorem spec_fence (x : Ins) : spec_HasFence.f x.f0 x.f1 x.f2 x.f3 = some (fenceB x) := by
  unfold spec_HasFence.f fenceB
  repeat' split
  all_goals rfl
theorem impl_fence (x : Ins) : impl_HasFence.f x.f0 x.f1 x.f2 x.f3 = some (fenceB x) := by
  unfold impl_HasFence.f fenceB
  repeat' split
  all_goals rfl
def cnt : List Ins → Int
  | [] => 0
  | x :: r => (if fenceB x = true then 1 else 0) + cnt r
def tot : List (List Ins) → Int
  | [] => 0
  | q :: r => cnt q + tot r
theorem cnt_bounds (q : List Ins) : 0 ≤ cnt q ∧ cnt q ≤ q.length := by
  induction q with
  | nil => simp [cnt]
  | cons x r ih =>
    simp only [cnt, List.length_cons]
    split <;> omega
theorem spec_inner (c : Int) (l : List (List Ins)) (i : Nat) (hi : i < l.length) (hl : l.length ≤ 3) (h16 : l[i].length ≤ 16) (R : Int → Option Int) (K : Nat) (M : Int) (hM : M ≤ 1000) (hR : ∀ k b, K ≤ k → 0 ≤ b → b ≤ M → spec_FenceCost.l0 k b ((i + 1 : Nat) : Int) c l = R b) :
    ∀ d k (j : Nat) (b : Int), j ≤ l[i].length → l[i].length - j = d → K + d < k → 0 ≤ b → b + d ≤ M →
      spec_FenceCost.l1 k b (i : Int) (j : Int) c l = R (b + cnt (l[i].drop j)) := by
  intro d
  induction d with
  | zero =>
    intro k j b hj hd hk hb hbM
    obtain ⟨k, rfl⟩ : ∃ m, k = m + 1 := ⟨k - 1, by omega⟩
    obtain rfl : j = l[i].length := by omega
    have e := rdCode l i hi
    simp only [spec_FenceCost.l1, rd_L9, e]
    rw [if_pos (by omega), if_pos (by omega), if_neg (by omega), wrap_succ hi (by omega), hR k b (by omega) hb (by omega), List.drop_length]
    simp [cnt]
  | succ d ih =>
    intro k j b hj hd hk hb hbM
    obtain ⟨k, rfl⟩ : ∃ m, k = m + 1 := ⟨k - 1, by omega⟩
    have hlt : j < l[i].length := by omega
    have e := rdCode l i hi
    simp only [spec_FenceCost.l1, rd_L9, e]
    rw [if_pos (by omega), if_pos (by omega), if_pos (by omega), if_pos (by omega), rdIns _ _ hlt, spec_fence, Option.bind_some, wrap_id (x := (j : Int) + 1) (by omega) (by omega), List.drop_eq_getElem_cons hlt]
    simp only [cnt]
    by_cases f : fenceB l[i][j] = true
    · rw [if_pos f, if_pos f, wrap_id (by omega) (by omega)]
      have := ih k (j + 1) (b + 1) (by omega) (by omega) (by omega) (by omega) (by omega)
      rw [show ((j : Int) + 1) = ((j + 1 : Nat) : Int) by omega, this, Int.add_assoc]
    · rw [if_neg f, if_neg f]
      have := ih k (j + 1) b (by omega) (by omega) (by omega) (by omega) (by omega)
      rw [show ((j : Int) + 1) = ((j + 1 : Nat) : Int) by omega, this, Int.zero_add]
theorem spec_outer (c : Int) (l : List (List Ins)) (hl : l.length ≤ 3) (h16 : ∀ q ∈ l, q.length ≤ 16) : ∀ d k (i : Nat) (b : Int), i ≤ l.length → l.length - i = d → d * 40 < k → 0 ≤ b → b + 16 * d ≤ 1000 → spec_FenceCost.l0 k b (i : Int) c l = some (b + tot (l.drop i)) := by
  intro d
  induction d with
  | zero =>
    intro k i b hi hd hk hb hbM
    obtain ⟨k, rfl⟩ : ∃ m, k = m + 1 := ⟨k - 1, by omega⟩
    obtain rfl : i = l.length := by omega
    simp only [spec_FenceCost.l0]
    rw [if_neg (by omega), List.drop_length]
    simp [tot]
  | succ d ih =>
    intro k i b hi hd hk hb hbM
    obtain ⟨k, rfl⟩ : ∃ m, k = m + 1 := ⟨k - 1, by omega⟩
    have hlt : i < l.length := by omega
    have hq := h16 _ (List.getElem_mem hlt)
    simp only [spec_FenceCost.l0]
    rw [if_pos (by omega)]
    have := spec_inner c l i hlt hl hq (fun b => some (b + tot (l.drop (i + 1)))) (d * 40 + 1) (b + 16) (by omega) (fun k b' hk hb' hbb => ih k (i + 1) b' (by omega) (by omega) (by omega) hb' (by omega)) l[i].length k 0 b (Nat.zero_le _) (by omega) (by omega) hb (by omega)
    have h' : spec_FenceCost.l1 k b (i : Int) 0 c l = some (b + cnt l[i] + tot (l.drop (i + 1))) := by simpa using this
    rw [h', List.drop_eq_getElem_cons hlt]
    simp only [tot]
    rw [Int.add_assoc]
theorem impl_inner (l : List (List Ins)) (i : Nat) (hi : i < l.length) (hl : l.length ≤ 3) (h16 : l[i].length ≤ 16) (R : Int → Option Int) (K : Nat) (M : Int) (hM : M ≤ 1000) (hR : ∀ k b, K ≤ k → 0 ≤ b → b ≤ M → impl_FenceCost.l0 k b l (l.length : Int) ((i + 1 : Nat) : Int) = R b) :
    ∀ d k (j : Nat) (b : Int), j ≤ l[i].length → l[i].length - j = d → K + d < k → 0 ≤ b → b + d ≤ M →
      impl_FenceCost.l1 k b l (l.length : Int) (i : Int) l[i] (l[i].length : Int) (j : Int) = R (b + cnt (l[i].drop j)) := by
  intro d
  induction d with
  | zero =>
    intro k j b hj hd hk hb hbM
    obtain ⟨k, rfl⟩ : ∃ m, k = m + 1 := ⟨k - 1, by omega⟩
    obtain rfl : j = l[i].length := by omega
    simp only [impl_FenceCost.l1]
    rw [if_neg (by omega), wrap_succ hi (by omega), hR k b (by omega) hb (by omega), List.drop_length]
    simp [cnt]
  | succ d ih =>
    intro k j b hj hd hk hb hbM
    obtain ⟨k, rfl⟩ : ∃ m, k = m + 1 := ⟨k - 1, by omega⟩
    have hlt : j < l[i].length := by omega
    simp only [impl_FenceCost.l1]
    rw [if_pos (by omega), if_pos (by omega), if_pos (by omega), rdIns _ _ hlt, impl_fence, Option.bind_some, wrap_id (x := (j : Int) + 1) (by omega) (by omega), List.drop_eq_getElem_cons hlt]
    simp only [cnt, impl_flag.f]
    by_cases f : fenceB l[i][j] = true
    · rw [if_pos f, if_pos f, Option.bind_some, wrap_id (by omega) (by omega)]
      have := ih k (j + 1) (b + 1) (by omega) (by omega) (by omega) (by omega) (by omega)
      rw [show ((j : Int) + 1) = ((j + 1 : Nat) : Int) by omega, this, Int.add_assoc]
    · rw [if_neg f, if_neg f, Option.bind_some, wrap_id (by omega) (by omega), Int.add_zero]
      have := ih k (j + 1) b (by omega) (by omega) (by omega) (by omega) (by omega)
      rw [show ((j : Int) + 1) = ((j + 1 : Nat) : Int) by omega, this, Int.zero_add]
theorem impl_outer (l : List (List Ins)) (hl : l.length ≤ 3) (h16 : ∀ q ∈ l, q.length ≤ 16) : ∀ d k (i : Nat) (b : Int), i ≤ l.length → l.length - i = d → d * 40 < k → 0 ≤ b → b + 16 * d ≤ 1000 → impl_FenceCost.l0 k b l (l.length : Int) (i : Int) = some (b + tot (l.drop i)) := by
  intro d
  induction d with
  | zero =>
    intro k i b hi hd hk hb hbM
    obtain ⟨k, rfl⟩ : ∃ m, k = m + 1 := ⟨k - 1, by omega⟩
    obtain rfl : i = l.length := by omega
    simp only [impl_FenceCost.l0]
    rw [if_neg (by omega), List.drop_length]
    simp [tot]
  | succ d ih =>
    intro k i b hi hd hk hb hbM
    obtain ⟨k, rfl⟩ : ∃ m, k = m + 1 := ⟨k - 1, by omega⟩
    have hlt : i < l.length := by omega
    have hq := h16 _ (List.getElem_mem hlt)
    have e := rdCode l i hlt
    simp only [impl_FenceCost.l0, rd_L9, e]
    rw [if_pos (by omega), if_pos (by omega), if_pos (by omega)]
    have := impl_inner l i hlt hl hq (fun b => some (b + tot (l.drop (i + 1)))) (d * 40 + 1) (b + 16) (by omega) (fun k b' hk hb' hbb => ih k (i + 1) b' (by omega) (by omega) (by omega) hb' (by omega)) l[i].length k 0 b (Nat.zero_le _) (by omega) (by omega) hb (by omega)
    have h' : impl_FenceCost.l1 k b l (l.length : Int) (i : Int) l[i] (l[i].length : Int) 0 = some (b + cnt l[i] + tot (l.drop (i + 1))) := by simpa using this
    rw [h', List.drop_eq_getElem_cons hlt]
    simp only [tot]
    rw [Int.add_assoc]
def costV (c : Int) (l : List (List Ins)) : Int := if progB c l = true then tot l else -1
theorem impl_cost (c : Int) (l : List (List Ins)) (k : Nat) (hk : 130 ≤ k) : impl_FenceCost.f k c l = some (costV c l) := by
  unfold impl_FenceCost.f costV
  rw [impl_progOk, Option.bind_some]
  by_cases h : progB c l = true
  · obtain ⟨_, ⟨h1, h2⟩, h3⟩ := progB_facts h
    rw [if_pos h, if_pos h]
    have := impl_outer l h2 h3 l.length k 0 0 (Nat.zero_le _) (by omega) (by omega) (by omega) (by omega)
    simpa using this
  · rw [if_neg h, if_neg h]
theorem spec_cost (c : Int) (l : List (List Ins)) (k : Nat) (hk : 130 ≤ k) : spec_FenceCost.f k c l = some (costV c l) := by
  unfold spec_FenceCost.f costV
  rw [spec_progOk c l k hk, Option.bind_some]
  by_cases h : progB c l = true
  · obtain ⟨_, ⟨h1, h2⟩, h3⟩ := progB_facts h
    rw [if_pos h, if_pos h]
    have := spec_outer c l h2 h3 l.length k 0 0 (Nat.zero_le _) (by omega) (by omega) (by omega) (by omega)
    simpa using this
  · rw [if_neg h, if_neg h]
theorem FnExactFenceCost : laws_FnExactFenceCost.Left := by
  intro c l hl
  refine ⟨3145730, ?_⟩
  unfold laws_FnExactFenceCost.f
  obtain ⟨n, hn, hs⟩ := szProg c l 1048576 hl.1 hl.2 (by omega) (by omega) 3145730 (by omega)
  rw [hn, Option.bind_some]
  by_cases h0 : n < 0
  · rw [if_pos h0]
  · rw [if_neg h0]
    rcases hs with hs | ⟨_, _, h1, h2⟩
    · exact absurd hs h0
    · have s2 : ∀ q ∈ l, q.length ≤ 1048576 := fun q hq => by have := h2 q hq; omega
      have hcl := cpProg_len l
      simp only [toProg c l 3145730 (by omega) s2 (by omega), Option.bind_some, spec_cost c (cpProg l) 3145730 (by omega), impl_cost c (cpProg l) 3145730 (by omega), eqProg_same c (cpProg l) (by show _ ≤ _; omega) (cpProg_small s2) 3145730 (by omega)]
      simp

end Go.Proofs.Ytkjndikkdbfhbaa.Pure
