import Derived.Test.YtpcfcdnmpginhaaPlawsFnExactHoldersOf
import Derived.Test.YtpcfcdnmpginhaaBenchMark
-- Written by mp.py (the session's own driver over the kit's printer) for the seat Ytpcfcdnmpginhaa.
namespace Go.Proofs.Ytpcfcdnmpginhaa.P
open Go.RowKit Go.Proofs.YtpcfcdnmpginhaaW.PrintWords Go.Proofs.YtpcfcdnmpginhaaW.PrintLast Go.Proofs.YtpcfcdnmpginhaaW.PrintMore
attribute [local go_sem] max2_int min2_int max_two min_two max_three min_three max_four min_four
set_option linter.unusedVariables false
set_option linter.unusedSimpArgs false

/-- What is left of the law FnExactHoldersOf: no program and no memory in it. -/
def laws_FnExactHoldersOf.Left : Prop := ∀ (l0_0 : List Int) (l0_1 : List (S194)) (l0_2 : List Int) (l0_3 : List Int) (a0_4 : Int) (a1 : Int), (l0_0.length ≤ 9223372036854775807) → (l0_1.length ≤ 9223372036854775807) → (l0_2.length ≤ 9223372036854775807) → (l0_3.length ≤ 9223372036854775807) → ∃ k, laws_FnExactHoldersOf.f k l0_0 l0_1 l0_2 l0_3 a0_4 a1 = some true
end Go.Proofs.Ytpcfcdnmpginhaa.P

/- The law FnExactHoldersOf answers true: the program's HoldersOf gives what the reference's gives, for every bench and number, in memory of its own, and leaves the bench as it was. No condition. -/
namespace Go.Proofs.Ytpcfcdnmpginhaa.Pure
open Go.RowKit Go.Proofs.Ytpcfcdnmpginhaa.P Go.Proofs.Ytpcfcdnmpginhaa.Gen Go.Proofs.YtpcfcdnmpginhaaW.PrintWords

def stepHoldersOf (t : Int) (out : List Int) (h : Hld) : List Int := if h.f1 = t then out ++ [h.f0] else out
def valHoldersOf (A : List Int) (H : List Hld) (B C : List Int) (n t : Int) : List Int := if benchB A H B C n = true then H.foldl (stepHoldersOf t) [] else []
theorem stepHoldersOf_len (t : Int) (out : List Int) (h : Hld) : (stepHoldersOf t out h).length ≤ out.length + 1 := by
  unfold stepHoldersOf
  split
  · simp
  · omega
theorem valHoldersOf_len (A : List Int) (H : List Hld) (B C : List Int) (n t : Int) : (valHoldersOf A H B C n t).length ≤ 300 := by
  unfold valHoldersOf
  by_cases h : benchB A H B C n = true
  · obtain ⟨_, _, _, f4⟩ := benchB_facts h
    rw [if_pos h]
    have key : ∀ (l : List Hld) (out : List Int), (l.foldl (stepHoldersOf t) out).length ≤ out.length + l.length := by
      intro l
      induction l with
      | nil => intro out; simp
      | cons x l ih =>
        intro out
        have := ih (stepHoldersOf t out x)
        have := stepHoldersOf_len t out x
        simp only [List.foldl_cons, List.length_cons]
        omega
    have := key H []
    simp at this
    omega
  · rw [if_neg h]
    simp
theorem impl_HoldersOf (A : List Int) (H : List Hld) (B C : List Int) (n t : Int) (hs : A.length + B.length + C.length ≤ 1048576) (hH : H.length ≤ 1048576) (k : Nat) (hk : 2 * H.length + (A.length + B.length + C.length) + 20 ≤ k) : impl_HoldersOf.f k A H B C n t = some (valHoldersOf A H B C n t) := by
  unfold impl_HoldersOf.f impl_Bench_holdersOf.f valHoldersOf
  rw [impl_benchOk A H B C n hs hH k hk, Option.bind_some]
  by_cases h : benchB A H B C n = true
  · obtain ⟨_, _, _, f4⟩ := benchB_facts h
    rw [if_pos h, if_pos h]
    have := loop_inv H (stepHoldersOf t) id (fun k out i => impl_Bench_holdersOf.l0 k t out H (H.length : Int) i) (fun j out => out.length ≤ j)
      (fun j out hj ho => by have := stepHoldersOf_len t out H[j]; omega)
      (fun k out j hj ho => by
        simp only [impl_Bench_holdersOf.l0]
        rw [if_pos (by omega), if_pos (by omega), if_pos (by omega), rdHld H j hj, wrap_succ hj (by omega)]
        unfold stepHoldersOf
        by_cases c : H[j].f1 = t
        · rw [if_pos c, if_pos (by omega), if_pos c]
        · rw [if_neg c, if_neg c])
      (fun k out ho => by
        simp only [impl_Bench_holdersOf.l0]
        rw [if_neg (by omega)]
        rfl) k [] (by simp) (by omega)
    rw [this]
    rfl
  · rw [if_neg h, if_neg h]
theorem spec_HoldersOf (A : List Int) (H : List Hld) (B C : List Int) (n t : Int) (hA : A.length ≤ 1048576) (hB : B.length ≤ 1048576) (hC : C.length ≤ 1048576) (k : Nat) (hk : 200000 ≤ k) : spec_HoldersOf.f k A H B C n t = some (valHoldersOf A H B C n t) := by
  unfold spec_HoldersOf.f valHoldersOf
  rw [spec_benchOk A H B C n hA hB hC k hk, Option.bind_some]
  by_cases h : benchB A H B C n = true
  · obtain ⟨_, _, _, f4⟩ := benchB_facts h
    rw [if_pos h, if_pos h]
    have := loop_inv H (stepHoldersOf t) id (fun k out i => spec_HoldersOf.l0 k t out i A H B C n) (fun j out => out.length ≤ j)
      (fun j out hj ho => by have := stepHoldersOf_len t out H[j]; omega)
      (fun k out j hj ho => by
        simp only [spec_HoldersOf.l0]
        rw [if_pos (by omega), if_pos (by omega), rdHld H j hj, wrap_succ hj (by omega)]
        unfold stepHoldersOf
        by_cases c : H[j].f1 = t
        · rw [if_pos c, if_pos (by omega), if_pos c]
        · rw [if_neg c, if_neg c])
      (fun k out ho => by
        simp only [spec_HoldersOf.l0]
        rw [if_neg (by omega)]
        rfl) k [] (by simp) (by omega)
    exact this
  · rw [if_neg h, if_neg h]
theorem FnExactHoldersOf : laws_FnExactHoldersOf.Left := by
  intro A H B C n t hA hH hB hC
  refine ⟨3145732, ?_⟩
  unfold laws_FnExactHoldersOf.f
  obtain ⟨m, hm, hs⟩ := szBench A H B C n hA hH hB hC
  rw [hm, Option.bind_some]
  by_cases h0 : m < 0
  · rw [if_pos h0]
  · rw [if_neg h0]
    have hs := hs.resolve_left h0
    have hl : (H.map cpHold).length = H.length := List.length_map _
    have hv := valHoldersOf_len A (H.map cpHold) B C n t
    obtain ⟨q, A', H', B', C', hq, hmark⟩ := markBench A (H.map cpHold) B C n (by omega)
    have hq' : ¬ q < 0 := by omega
    have hneg : ¬ (1 + ((valHoldersOf A (H.map cpHold) B C n t).length : Int) < 0) := by omega
    have e1 := toBench A H B C n 3145732 (by omega) (by omega) (by omega) (by omega) (by omega)
    have e2 := toBench A H B C n 3145731 (by omega) (by omega) (by omega) (by omega) (by omega)
    have e3 := spec_HoldersOf A (H.map cpHold) B C n t (by omega) (by omega) (by omega) 3145732 (by omega)
    have e4 := impl_HoldersOf A (H.map cpHold) B C n t (by omega) (by omega) 3145732 (by omega)
    have e5 := impl_HoldersOf A (H.map cpHold) B C n t (by omega) (by omega) 3145731 (by omega)
    have e6 := eqIntS (valHoldersOf A (H.map cpHold) B C n t) (valHoldersOf A (H.map cpHold) B C n t) (by show _ ≤ _; omega) 3145732 (by omega)
    have e7 := eqIntS (valHoldersOf A (H.map cpHold) B C n t) (valHoldersOf A (H.map cpHold) B C n t) (by show _ ≤ _; omega) 3145731 (by omega)
    have e8 := eqBench_same A (H.map cpHold) B C n 3145732 (by omega) (by omega) (by omega) (by omega) (by omega)
    have e9 := hmark 3145732 (by omega)
    have e10 := markIntS (valHoldersOf A (H.map cpHold) B C n t) 1 3145731 (by show _ ≤ _; omega) (by omega) (by omega) (by omega)
    have e11 := heldIntS 1 (valHoldersOf A (H.map cpHold) B C n t).length 3145731 (by omega) (by omega) (by omega) (by omega)
    simp only [e1, e3, e4, e6, e8, e9, Option.bind_some, decide_true, if_true, if_neg hq', laws_FnExactHoldersOf.j0, Bool.not_true, Bool.false_eq_true, if_false, e10, e11, if_neg hneg, e2, e5, e7]

end Go.Proofs.Ytpcfcdnmpginhaa.Pure
