/- The law FnExactLiveRefs answers true: the program's LiveRefs gives what the reference's gives, for every heap, in memory of its own, and leaves the heap as it was. No condition. -/
import Derived.Test.YtkjndikkdbfhbaaQFnExactLiveRefs
import Derived.Test.YtkjndikkdbfhbaaReads
namespace Go.Proofs.Ytkjndikkdbfhbaa.Pure
open Go.RowKit Go.Proofs.Ytkjndikkdbfhbaa.P Go.Proofs.Ytkjndikkdbfhbaa.Gen Go.Proofs.YtkjndikkdbfhbaaW.PrintWords

theorem heapB_lens {g : List Int} {v : List Bool} (h : heapB g v = true) : 1 ≤ g.length ∧ g.length ≤ 24 ∧ v.length = g.length := by
  unfold heapB at h
  simp only [Bool.and_eq_true, decide_eq_true_eq] at h
  have := inB_true.1 h.1.1
  exact ⟨by omega, by omega, h.1.2⟩
/-- One object more: a reference, if it is live. -/
def liveStep (g : List Int) (v : List Bool) (out : List Ref) (j : Nat) : List Ref := if rdOf false v (j : Int) = true then out ++ [⟨(j : Int), rd g (j : Int)⟩] else out
def liveV (g : List Int) (v : List Bool) : List Ref := if heapB g v = true then (List.range g.length).foldl (liveStep g v) [] else []
theorem liveStep_len (g : List Int) (v : List Bool) (out : List Ref) (j : Nat) : (liveStep g v out j).length ≤ out.length + 1 := by
  unfold liveStep
  split
  · simp
  · omega
theorem liveV_len (g : List Int) (v : List Bool) : (liveV g v).length ≤ 24 := by
  unfold liveV
  by_cases h : heapB g v = true
  · obtain ⟨h1, h2, h3⟩ := heapB_lens h
    rw [if_pos h]
    have key : ∀ (l : List Nat) (out : List Ref), (l.foldl (liveStep g v) out).length ≤ out.length + l.length := by
      intro l
      induction l with
      | nil => intro out; simp
      | cons x l ih =>
        intro out
        have := ih (liveStep g v out x)
        have := liveStep_len g v out x
        simp only [List.foldl_cons, List.length_cons]
        omega
    have := key (List.range g.length) []
    simp at this ⊢
    omega
  · rw [if_neg h]
    simp
theorem impl_liveRefs (g : List Int) (v : List Bool) (k : Nat) (hk : 26 ≤ k) : impl_LiveRefs.f k g v = some (liveV g v) := by
  unfold impl_LiveRefs.f liveV
  rw [impl_heapOk g v k hk, Option.bind_some]
  by_cases h : heapB g v = true
  · obtain ⟨h1, h2, h3⟩ := heapB_lens h
    rw [if_pos h, if_pos h, show (0 : Int) = ((0 : Nat) : Int) from rfl]
    have := loop_inv (List.range g.length) (liveStep g v) id (fun k out i => impl_LiveRefs.l0 k out v (v.length : Int) i g v) (fun j out => out.length ≤ j)
      (fun j out hj ho => by have := liveStep_len g v out (List.range g.length)[j]; omega)
      (fun k out j hj ho => by
        have hj' : j < g.length := by simpa using hj
        simp only [impl_LiveRefs.l0, List.getElem_range]
        rw [if_pos (by omega), if_pos (by omega), if_pos (by omega), wrap_succ hj' (by omega)]
        unfold liveStep
        by_cases c : rdOf false v (j : Int) = true
        · rw [if_pos c, if_pos (by omega), if_pos (by omega), if_pos c]
        · rw [if_neg c, if_neg c])
      (fun k out ho => by
        simp only [impl_LiveRefs.l0, List.length_range]
        rw [if_neg (by omega)]
        rfl) k [] (by simp) (by simp; omega)
    exact this
  · rw [if_neg h, if_neg h]
theorem spec_liveRefs (g : List Int) (v : List Bool) (k : Nat) (hk : 26 ≤ k) : spec_LiveRefs.f k g v = some (liveV g v) := by
  unfold spec_LiveRefs.f liveV
  rw [spec_heapOk g v k hk, Option.bind_some]
  by_cases h : heapB g v = true
  · obtain ⟨h1, h2, h3⟩ := heapB_lens h
    rw [if_pos h, if_pos h]
    have := loop_inv (List.range g.length) (liveStep g v) id (fun k out i => spec_LiveRefs.l0 k out i g v) (fun j out => out.length ≤ j)
      (fun j out hj ho => by have := liveStep_len g v out (List.range g.length)[j]; omega)
      (fun k out j hj ho => by
        have hj' : j < g.length := by simpa using hj
        simp only [spec_LiveRefs.l0, List.getElem_range]
        rw [if_pos (by omega), if_pos (by omega), wrap_succ hj' (by omega)]
        unfold liveStep
        by_cases c : rdOf false v (j : Int) = true
        · rw [if_pos c, if_pos (by omega), if_pos (by omega), if_pos c]
        · rw [if_neg c, if_neg c])
      (fun k out ho => by
        simp only [spec_LiveRefs.l0, List.length_range]
        rw [if_neg (by omega)]
        rfl) k [] (by simp) (by simp; omega)
    exact this
  · rw [if_neg h, if_neg h]

theorem FnExactLiveRefs : laws_FnExactLiveRefs.Left := by
  intro g v hg hv
  refine ⟨1048578, ?_⟩
  unfold laws_FnExactLiveRefs.f
  obtain ⟨n, hn, hs⟩ := szHeap g v hg hv
  rw [hn, Option.bind_some]
  by_cases h0 : n < 0
  · rw [if_pos h0]
  · obtain ⟨h1, h2⟩ := hs (by omega)
    have hl := liveV_len g v
    obtain ⟨m, g', v', hm, hmark⟩ := markHeap_some g v h1 h2 1048578 (by omega)
    obtain ⟨r', hr', hheld⟩ := markRefS (liveV g v) 1 (by unfold Len; omega) (by omega) (by omega)
    have hneg : ¬ (1 + 2 * ((liveV g v).length : Int) < 0) := by omega
    have hm' : ¬ m < 0 := by omega
    rw [if_neg h0]
    simp only [toHeap g v _ h1 h2 (show 1048576 < 1048578 by omega), Option.bind_some, spec_liveRefs g v 1048578 (by omega), impl_liveRefs g v 1048578 (by omega), eqHeap_same g v h1 h2 1048578 (by omega), eqRefS_same (liveV g v) (by unfold Len; omega) 1048578 (by omega), hmark, if_true, if_neg hm', Bool.not_true,
      laws_FnExactLiveRefs.j0, Bool.false_eq_true, if_false, (hheld 1048577 (by omega)).1, (hheld 1048577 (by omega)).2, if_neg hneg, toHeap g v 1048577 h1 h2 (by omega), impl_liveRefs g v 1048577 (by omega), eqRefS_same (liveV g v) (by unfold Len; omega) 1048577 (by omega)]

end Go.Proofs.Ytkjndikkdbfhbaa.Pure
