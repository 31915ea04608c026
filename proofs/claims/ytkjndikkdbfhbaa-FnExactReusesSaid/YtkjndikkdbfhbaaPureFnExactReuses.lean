/- The law FnExactReuses answers true: the program's Reuses gives what the reference's gives, for every heap, and leaves it as it was. No condition. -/
import Derived.Test.YtkjndikkdbfhbaaQFnExactReuses
import Derived.Test.YtkjndikkdbfhbaaHeap
namespace Go.Proofs.Ytkjndikkdbfhbaa.Pure
open Go.RowKit Go.Proofs.Ytkjndikkdbfhbaa.P Go.Proofs.Ytkjndikkdbfhbaa.Gen Go.Proofs.YtkjndikkdbfhbaaW.PrintWords Go.Proofs.YtkjndikkdbfhbaaW.PrintMore

theorem heapB_gens {g : List Int} {v : List Bool} (h : heapB g v = true) : 1 ≤ g.length ∧ g.length ≤ 24 ∧ v.length = g.length ∧ ∀ x ∈ g, 0 ≤ x ∧ x ≤ 1000000 := by
  unfold heapB at h
  simp only [Bool.and_eq_true, decide_eq_true_eq, List.all_eq_true] at h
  obtain ⟨⟨h1, h2⟩, h3⟩ := h
  have h1' := inB_true.1 h1
  refine ⟨by omega, by omega, h2, fun x hx => ?_⟩
  obtain ⟨j, hj, rfl⟩ := List.getElem_of_mem hx
  have := h3 (g[j], v[j]'(by omega)) (by
    rw [List.mem_iff_getElem]
    exact ⟨j, by simp; omega, by simp⟩)
  unfold genB at this
  rw [Bool.and_eq_true] at this
  exact inB_true.1 this.1

def reuseV (g : List Int) (v : List Bool) : Int := if heapB g v = true then g.foldl (fun b x => wrap64 (b + (mx 0 (x - 1)))) 0 else -1

theorem impl_reuses (g : List Int) (v : List Bool) (k : Nat) (hk : 26 ≤ k) : impl_Reuses.f k g v = some (reuseV g v) := by
  unfold impl_Reuses.f reuseV
  rw [impl_heapOk g v k hk, Option.bind_some]
  by_cases h : heapB g v = true
  · obtain ⟨h1, h2, h3, h4⟩ := heapB_gens h
    rw [if_pos h, if_pos h]
    exact loop_fold g (fun b x => wrap64 (b + (mx 0 (x - 1)))) id (fun k b i => impl_Reuses.l0 k b g (g.length : Int) i) (fun k b j hj => by
      have hx := h4 g[j] (List.getElem_mem hj)
      simp only [impl_Reuses.l0]
      rw [if_pos (by omega), if_pos (by omega), if_pos (by omega), rd_nat _ _ hj, wrap_succ hj (by omega), wrap_id (x := g[j] - 1) (by omega) (by omega)]) (fun k b => by
      simp only [impl_Reuses.l0]
      rw [if_neg (by omega)]
      rfl) k 0 (by omega)
  · rw [if_neg h, if_neg h]

theorem spec_loop (g : List Int) (v : List Bool) (hg : g.length ≤ 24) (h4 : ∀ x ∈ g, 0 ≤ x ∧ x ≤ 1000000) : ∀ (d k : Nat) (b : Int) (j : Nat), j ≤ g.length → g.length - j = d → d < k → 0 ≤ b → b ≤ 1000000 * j →
    spec_Reuses.l0 k b (j : Int) g v = some ((g.drop j).foldl (fun b x => wrap64 (b + (mx 0 (x - 1)))) b) := by
  intro d
  induction d with
  | zero =>
    intro k b j hj hd hk h0 hb
    obtain ⟨k, rfl⟩ : ∃ m, k = m + 1 := ⟨k - 1, by omega⟩
    obtain rfl : j = g.length := by omega
    simp only [spec_Reuses.l0]
    rw [if_neg (by omega), List.drop_length]
    rfl
  | succ d ih =>
    intro k b j hj hd hk h0 hb
    obtain ⟨k, rfl⟩ : ∃ m, k = m + 1 := ⟨k - 1, by omega⟩
    have hlt : j < g.length := by omega
    have hx := h4 g[j] (List.getElem_mem hlt)
    simp only [spec_Reuses.l0]
    rw [if_pos (by omega), if_pos (by omega), rd_nat _ _ hlt, wrap_succ hlt (by omega), wrap_id (x := b + g[j]) (by omega) (by omega), List.drop_eq_getElem_cons hlt, List.foldl_cons]
    by_cases c : g[j] = 0
    · rw [if_pos c, ih k _ (j + 1) (by omega) (by omega) (by omega) (by omega) (by omega), c]
      have e : wrap64 (b + mx 0 (0 - 1)) = b + 0 := by
        rw [show mx 0 (0 - 1) = 0 from by decide, wrap_id (by omega) (by omega)]
      rw [e]
    · rw [if_neg c, wrap_id (x := b + g[j] - 1) (by omega) (by omega), ih k _ (j + 1) (by omega) (by omega) (by omega) (by omega) (by omega)]
      have e : wrap64 (b + mx 0 (g[j] - 1)) = b + g[j] - 1 := by
        have : mx 0 (g[j] - 1) = g[j] - 1 := by unfold mx; split <;> omega
        rw [this, wrap_id (by omega) (by omega)]
        omega
      rw [e]
theorem spec_reuses (g : List Int) (v : List Bool) (k : Nat) (hk : 26 ≤ k) : spec_Reuses.f k g v = some (reuseV g v) := by
  unfold spec_Reuses.f reuseV
  rw [spec_heapOk g v k hk, Option.bind_some]
  by_cases h : heapB g v = true
  · obtain ⟨h1, h2, h3, h4⟩ := heapB_gens h
    rw [if_pos h, if_pos h]
    exact spec_loop g v h2 h4 g.length k 0 0 (by omega) (by omega) (by omega) (by omega) (by omega)
  · rw [if_neg h, if_neg h]

theorem FnExactReuses : laws_FnExactReuses.Left := by
  intro g v hg hv
  refine ⟨1048577, ?_⟩
  unfold laws_FnExactReuses.f
  obtain ⟨n, hn, hs⟩ := szHeap g v hg hv
  rw [hn, Option.bind_some]
  by_cases h0 : n < 0
  · rw [if_pos h0]
  · obtain ⟨h1, h2⟩ := hs (by omega)
    rw [if_neg h0]
    simp only [toHeap g v _ h1 h2 (show 1048576 < 1048577 by omega), Option.bind_some, spec_reuses g v 1048577 (by omega), impl_reuses g v 1048577 (by omega), eqHeap_same g v h1 h2 1048577 (by omega)]
    simp

end Go.Proofs.Ytkjndikkdbfhbaa.Pure
