/- The draws of memories: from every seed the reference's drawer comes to an end, with a memory. No condition but that lengths are lengths. -/
import Derived.Test.YtchpopocnaoabaaDoorScal
import Derived.Test.YtchpopocnaoabaaDoorPlawsbig
import Derived.Test.YtchpopocnaoabaaDoorPlawsbig
import Derived.Test.YtchpopocnaoabaaDoorPlawsbig
import Derived.Test.YtchpopocnaoabaaDoorPlawsbig
import Derived.Laws.BitsLemmas
namespace Go.Proofs.YtchpopocnaoabaaDoor.Pure
open Go.RowKit Go.Proofs.YtchpopocnaoabaaDoor.P Go.Proofs.YtchpopocnaoabaaDoor.Gen Go.Proofs.YtchpopocnaoabaaDoorW.PrintWords

theorem and_255 (x : Int) : 0 ≤ Go.bits .and .i64 x 255 ∧ Go.bits .and .i64 x 255 ≤ 255 := by
  have h : (BitVec.ofInt 64 x &&& BitVec.ofInt 64 255).toNat < 2 ^ 8 := by
    rw [BitVec.toNat_and]
    exact Nat.and_lt_two_pow _ (by decide)
  have e : Go.bits .and .i64 x 255 = IntKind.i64.wrap ((BitVec.ofInt 64 x &&& BitVec.ofInt 64 255).toNat : Int) := rfl
  rw [e, IntKind.wrap_i64]
  omega
theorem byte_ok (l : List Int) (p s : Int) (hl : Len l) (h0 : 0 ≤ p) : ∃ b p' s', spec_l01Byte.f l p s = some (b, p', s') ∧ 0 ≤ b ∧ b ≤ 255 ∧ 0 ≤ p' := by
  unfold spec_l01Byte.f
  unfold Len at hl
  by_cases h : p < (l.length : Int)
  · rw [if_pos h, if_pos h0]
    have hw : wrap64 (p + 1) = p + 1 := wrap_id (by omega) (by omega)
    have := and_255 (wrap64 ((Go.bits .and .i64 (Go.bits .xor .i64 ((wrap64 ((wrap64 (s * 6364136223846793005)) + 1442695040888963407)) / 8589934592) ((wrap64 ((wrap64 (s * 6364136223846793005)) + 1442695040888963407)) / 35184372088832)) 255) + (wrap64 (rd l p))))
    exact ⟨_, _, _, rfl, this.1, this.2, by omega⟩
  · rw [if_neg h]
    have := and_255 (Go.bits .xor .i64 ((wrap64 ((wrap64 (s * 6364136223846793005)) + 1442695040888963407)) / 8589934592) ((wrap64 ((wrap64 (s * 6364136223846793005)) + 1442695040888963407)) / 35184372088832))
    exact ⟨_, _, _, rfl, this.1, this.2, h0⟩
theorem below_ok (l : List Int) (p s a : Int) (hl : Len l) (h0 : 0 ≤ p) : ∃ x p' s', spec_l01Below.f l p s a = some (x, p', s') ∧ 0 ≤ x ∧ (0 < a → x < a) ∧ 0 ≤ p' := by
  unfold spec_l01Below.f
  by_cases ha : a ≤ 0
  · rw [if_pos ha]
    exact ⟨_, _, _, rfl, by omega, by omega, h0⟩
  · rw [if_neg ha]
    by_cases h2 : a ≤ 256
    · rw [if_pos h2]
      obtain ⟨b, p', s', e, b0, b1, hp⟩ := byte_ok l p s hl h0
      rw [e, Option.bind_some, if_neg (by omega)]
      exact ⟨_, _, _, rfl, Int.tmod_nonneg _ b0, fun h => Int.tmod_lt_of_pos _ h, hp⟩
    · rw [if_neg h2]
      obtain ⟨b1, p1, s1, e1, l1, u1, hp1⟩ := byte_ok l p s hl h0
      obtain ⟨b2, p2, s2, e2, l2, u2, hp2⟩ := byte_ok l p1 s1 hl hp1
      obtain ⟨b3, p3, s3, e3, l3, u3, hp3⟩ := byte_ok l p2 s2 hl hp2
      rw [e1, Option.bind_some, e2, Option.bind_some, e3, Option.bind_some, if_neg (by omega)]
      refine ⟨_, _, _, rfl, Int.tmod_nonneg _ ?_, fun h => Int.tmod_lt_of_pos _ h, hp3⟩
      simp only
      rw [wrap_id (x := b1 * 65536) (by omega) (by omega), wrap_id (x := b2 * 256) (by omega) (by omega), wrap_id (x := b1 * 65536 + b2 * 256) (by omega) (by omega), wrap_id (by omega) (by omega)]
      omega
theorem once_ok (l : List Int) (p s a : Int) (hl : Len l) (h0 : 0 ≤ p) : ∃ b p' s', spec_l01Once.f l p s a = some (b, p', s') ∧ 0 ≤ p' := by
  unfold spec_l01Once.f
  obtain ⟨x, p', s', e, _, _, hp⟩ := below_ok l p s a hl h0
  rw [e]
  exact ⟨_, _, _, rfl, hp⟩
theorem pick_ok (l : List Int) (p s : Int) (m : List Int) (hl : Len l) (h0 : 0 ≤ p) (hm : 1 ≤ m.length) : ∃ x p' s', spec_l01PickInt.f l p s m = some (x, p', s') ∧ x ∈ m ∧ 0 ≤ p' := by
  unfold spec_l01PickInt.f
  obtain ⟨x, p', s', e, h1, h2, hp⟩ := below_ok l p s m.length hl h0
  have h3 := h2 (by omega)
  obtain ⟨n, rfl⟩ := Int.eq_ofNat_of_zero_le h1
  have hn : n < m.length := by have : (n : Int) < m.length := h3; omega
  rw [e, Option.bind_some, if_pos h1, if_pos h3]
  exact ⟨_, _, _, rfl, by show rd m ((n : Nat) : Int) ∈ m; rw [rd_nat m n hn]; exact List.getElem_mem hn, hp⟩
theorem new_loop (l : List Int) (hl : Len l) : ∀ d (j : Nat) (s : Int) k, j ≤ 4000 → 4000 - j = d → d < k → ∃ s', spec_l01New.l0 k l s (j : Int) = some (l, 0, s') := by
  unfold Len at hl
  intro d
  induction d with
  | zero =>
    intro j s k hj hd hk
    obtain ⟨k, rfl⟩ : ∃ m, k = m + 1 := ⟨k - 1, by omega⟩
    simp only [spec_l01New.l0]
    by_cases h : (j : Int) < (l.length : Int)
    · rw [if_pos h, if_neg (by omega)]
      exact ⟨_, rfl⟩
    · rw [if_neg h]
      exact ⟨_, rfl⟩
  | succ d ih =>
    intro j s k hj hd hk
    obtain ⟨k, rfl⟩ : ∃ m, k = m + 1 := ⟨k - 1, by omega⟩
    simp only [spec_l01New.l0]
    by_cases h : (j : Int) < (l.length : Int)
    · rw [if_pos h, if_pos (by omega), if_pos (by omega), wrap_succ (n := l.length) (by omega) hl]
      exact ih (j + 1) _ k (by omega) (by omega) (by omega)
    · rw [if_neg h]
      exact ⟨_, rfl⟩
theorem new_ok (l : List Int) (hl : Len l) (k : Nat) (hk : 4000 < k) : ∃ s', spec_l01New.f k l = some (l, 0, s') := by
  unfold spec_l01New.f
  exact new_loop l hl 4000 0 _ k (by omega) (by omega) (by omega)

end Go.Proofs.YtchpopocnaoabaaDoor.Pure
