/- The draw of a memory comes to an end. No condition but that lengths are lengths. -/
import Derived.Test.YtchpopocnaoabaaDoorDraw
import Derived.Test.YtchpopocnaoabaaDoorPspecl01DrawMem
import Derived.Test.YtchpopocnaoabaaDoorPspecDrawMemOk
namespace Go.Proofs.YtchpopocnaoabaaDoor.Pure
open Go.RowKit Go.Proofs.YtchpopocnaoabaaDoor.P Go.Proofs.YtchpopocnaoabaaDoor.Gen Go.Proofs.YtchpopocnaoabaaDoorW.PrintWords

theorem drawValue_ok (l : List Int) (p s : Int) (hl : Len l) (h0 : 0 ≤ p) : ∃ x p' s', spec_l01DrawValue.f l p s = some (x, p', s') ∧ 0 ≤ p' := by
  unfold spec_l01DrawValue.f
  obtain ⟨a, p1, s1, e1, _, _, hp1⟩ := below_ok l p s 50 hl h0
  obtain ⟨b, p2, s2, e2, _, _, hp2⟩ := below_ok l p1 s1 50 hl hp1
  rw [e1, Option.bind_some, e2, Option.bind_some]
  obtain ⟨x, p3, s3, e3, _, hp3⟩ := pick_ok l p2 s2 [0, 1, 2, (-1), a, wrap64 (-b), 1000000, (-1000000)] hl hp2 (by simp)
  rw [e3]
  exact ⟨_, _, _, rfl, hp3⟩
theorem drawMem_loop (l : List Int) (hl : Len l) (n : Nat) (hn : n ≤ 100) : ∀ d (j : Nat) (p s : Int) k (acc : List Int), j ≤ n → n - j = d → d + 2 < k → acc.length = j → 0 ≤ p →
    ∃ m p' s', spec_l01DrawMem.l0 k (n : Int) (j : Int) l p s acc = some (m, p', s') ∧ 0 ≤ p' := by
  intro d
  induction d with
  | zero =>
    intro j p s k acc hj hd hk ha hp
    obtain ⟨k, rfl⟩ : ∃ m, k = m + 1 + 1 := ⟨k - 2, by omega⟩
    simp only [spec_l01DrawMem.l0]
    rw [if_neg (by omega)]
    obtain ⟨b, p1, s1, e1, hp1⟩ := once_ok l p s 25 hl hp
    rw [e1, Option.bind_some]
    have fin : ∀ c : Bool, (c = true → 0 < n) → ∃ m p' s', spec_l01DrawMem.j2 (k + 1) (n : Int) c l p1 s1 acc = some (m, p', s') ∧ 0 ≤ p' := by
      intro c hc
      simp only [spec_l01DrawMem.j2]
      cases c with
      | false => exact ⟨_, _, _, rfl, hp1⟩
      | true =>
        have h := hc rfl
        rw [if_pos rfl]
        obtain ⟨x, p2, s2, e2, x0, x1, hp2⟩ := below_ok l p1 s1 n hl hp1
        rw [e2, Option.bind_some]
        obtain ⟨y, p3, s3, e3, _, hp3⟩ := pick_ok l p2 s2 [1000001, (-1000001)] hl hp2 (by simp)
        rw [e3, Option.bind_some, if_pos x0, if_pos (by have := x1 (by omega); omega)]
        exact ⟨_, _, _, rfl, hp3⟩
    cases b with
    | false => exact fin false (by simp)
    | true =>
      rw [if_pos rfl]
      exact fin _ (by simp)
  | succ d ih =>
    intro j p s k acc hj hd hk ha hp
    obtain ⟨k, rfl⟩ : ∃ m, k = m + 1 := ⟨k - 1, by omega⟩
    simp only [spec_l01DrawMem.l0]
    rw [if_pos (by omega)]
    obtain ⟨x, p1, s1, e1, hp1⟩ := drawValue_ok l p s hl hp
    rw [e1, Option.bind_some, if_pos (by omega), wrap_succ (n := n) (by omega) (by omega)]
    exact ih (j + 1) _ _ k _ (by omega) (by omega) (by omega) (by simp; omega) hp1
theorem drawMem_j (l : List Int) (hl : Len l) (n : Int) (hn : n ≤ 100) (h0 : 0 ≤ n) (p s : Int) (hp : 0 ≤ p) (k : Nat) (hk : 200 ≤ k) : ∃ m p' s', spec_l01DrawMem.j0 k n l p s = some (m, p', s') ∧ 0 ≤ p' := by
  obtain ⟨k, rfl⟩ : ∃ m, k = m + 1 := ⟨k - 1, by omega⟩
  obtain ⟨n, rfl⟩ := Int.eq_ofNat_of_zero_le h0
  simp only [spec_l01DrawMem.j0]
  exact drawMem_loop l hl n (by omega) n 0 p s k [] (by omega) (by omega) (by omega) rfl hp
theorem drawMem_ok (l m : List Int) (hl : Len l) (p s : Int) (hp : 0 ≤ p) (k : Nat) (hk : 200 ≤ k) : ∃ r p' s', spec_l01DrawMem.f k l p s m = some (r, p', s') ∧ 0 ≤ p' := by
  unfold spec_l01DrawMem.f
  obtain ⟨x, p1, s1, e1, x0, x1, hp1⟩ := below_ok l p s 8 hl hp
  rw [e1, Option.bind_some]
  obtain ⟨b, p2, s2, e2, hp2⟩ := once_ok l p1 s1 12 hl hp1
  rw [e2, Option.bind_some]
  have := x1 (by omega)
  cases b with
  | true =>
    rw [if_pos rfl]
    obtain ⟨y, p3, s3, e3, hy, hp3⟩ := pick_ok l p2 s2 [0, 16, 17] hl hp2 (by simp)
    rw [e3, Option.bind_some]
    simp at hy
    exact drawMem_j l hl y (by omega) (by omega) _ _ hp3 k hk
  | false =>
    rw [if_neg (by simp)]
    have hw : wrap64 (1 + x) = 1 + x := wrap_id (by omega) (by omega)
    simp only [hw]
    exact drawMem_j l hl _ (by omega) (by omega) _ _ hp2 k hk
theorem drawMemOk (l : List Int) (hl : Len l) (k : Nat) (hk : 4100 ≤ k) : ∃ m, spec_DrawMemOk.f k l = some m := by
  unfold spec_DrawMemOk.f
  obtain ⟨s, e⟩ := new_ok l hl k (by omega)
  rw [e, Option.bind_some]
  obtain ⟨r, p', s', e2, _⟩ := drawMem_ok l l hl 0 s (by omega) k (by omega)
  rw [e2]
  exact ⟨_, rfl⟩

end Go.Proofs.YtchpopocnaoabaaDoor.Pure
