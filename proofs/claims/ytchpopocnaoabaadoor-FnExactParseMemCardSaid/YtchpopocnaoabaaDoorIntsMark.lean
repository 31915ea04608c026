/- Marks on whole numbers, and whether they are held. No condition but that lengths are lengths. -/
import Derived.Test.YtchpopocnaoabaaDoorInts
import Derived.Test.YtchpopocnaoabaaDoorPspecParseMem
import Derived.Test.YtchpopocnaoabaaDoorPspecParseMem
namespace Go.Proofs.YtchpopocnaoabaaDoor.Pure
open Go.RowKit Go.Proofs.YtchpopocnaoabaaDoor.P Go.Proofs.YtchpopocnaoabaaDoor.Gen Go.Proofs.YtchpopocnaoabaaDoorW.PrintWords

theorem markIntS_at (r : List Int) : ∀ (p : List Int) (a : Int) (k : Nat), Len (p ++ r) → 0 ≤ a → a + r.length ≤ 9223372036854775807 → r.length < k →
    laws_markIntS.l0 k (p ++ r) a (p.length : Int) = some (a + r.length, p ++ marks a r.length) := by
  induction r with
  | nil =>
    intro p a k hl h0 h1 hk
    obtain ⟨k, rfl⟩ : ∃ m, k = m + 1 := ⟨k - 1, by simp at hk; omega⟩
    simp only [laws_markIntS.l0]
    rw [if_neg (by simp)]
    simp [marks]
  | cons x r ih =>
    intro p a k hl h0 h1 hk
    obtain ⟨k, rfl⟩ : ∃ m, k = m + 1 := ⟨k - 1, by omega⟩
    have e : ((p ++ x :: r).length : Int) = p.length + r.length + 1 := by simp; omega
    have hl' : (p ++ x :: r).length ≤ 9223372036854775807 := hl
    simp only [List.length_cons] at h1 hk
    simp only [laws_markIntS.l0]
    rw [if_pos (by omega), if_pos (by omega), Int.toNat_natCast, set_mid, wrap_id (x := a + 1) (by omega) (by omega), wrap_succ (n := (p ++ x :: r).length) (by omega) hl']
    have := ih (p ++ [a]) (a + 1) k (by simpa [Len] using hl) (by omega) (by omega) (by omega)
    simp only [List.append_assoc, List.singleton_append, List.length_append, List.length_singleton] at this
    rw [this]
    simp only [marks, List.length_cons]
    refine congrArg some (Prod.ext ?_ rfl)
    show a + 1 + (r.length : Int) = a + ((r.length + 1 : Nat) : Int)
    omega

theorem markIntS (l : List Int) (a : Int) (k : Nat) (hl : Len l) (h0 : 0 ≤ a) (h1 : a + l.length ≤ 9223372036854775807) (hk : l.length < k) : laws_markIntS.f k l a = some (a + l.length, marks a l.length) :=
  markIntS_at l [] a k hl h0 h1 hk

theorem heldIntS_at (n : Nat) : ∀ (p : List Int) (a : Int) (k : Nat), p.length + n ≤ 9223372036854775807 → 0 ≤ a → a + n ≤ 9223372036854775807 → n < k →
    laws_heldIntS.l0 k (p ++ marks a n) a (p.length : Int) = some (a + n) := by
  induction n with
  | zero =>
    intro p a k hl h0 h1 hk
    obtain ⟨k, rfl⟩ : ∃ m, k = m + 1 := ⟨k - 1, by omega⟩
    simp only [laws_heldIntS.l0]
    rw [if_neg (by simp [marks])]
    simp
  | succ n ih =>
    intro p a k hl h0 h1 hk
    obtain ⟨k, rfl⟩ : ∃ m, k = m + 1 := ⟨k - 1, by omega⟩
    have e : ((p ++ a :: marks (a + 1) n).length : Int) = p.length + n + 1 := by simp [marks_length]; omega
    rw [show marks a (n + 1) = a :: marks (a + 1) n from rfl]
    simp only [laws_heldIntS.l0]
    rw [if_pos (by omega), if_pos (by omega), rd_nat _ p.length (by simp), get_mid, if_pos rfl, wrap_id (x := a + 1) (by omega) (by omega), wrap_succ (n := p.length + n + 1) (by omega) (by omega)]
    have := ih (p ++ [a]) (a + 1) k (by simp; omega) (by omega) (by omega) (by omega)
    simp only [List.append_assoc, List.singleton_append, List.length_append, List.length_singleton] at this
    rw [this]
    congr 1
    omega

theorem heldIntS (a : Int) (n k : Nat) (hl : n ≤ 9223372036854775807) (h0 : 0 ≤ a) (h1 : a + n ≤ 9223372036854775807) (hk : n < k) : laws_heldIntS.f k (marks a n) a = some (a + n) :=
  heldIntS_at n [] a k (by simpa using hl) h0 h1 hk


end Go.Proofs.YtchpopocnaoabaaDoor.Pure
