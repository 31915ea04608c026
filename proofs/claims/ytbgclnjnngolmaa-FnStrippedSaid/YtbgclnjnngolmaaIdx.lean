/- Plain words for slices.IndexFunc: the first place where a test holds, or -1; a load of some cells in line. -/
import Derived.Test.YtbgclnjnngolmaaV
namespace Go.Proofs.Ytbgclnjnngolmaa.Idx
open Go.RowKit Go.Proofs.YtbgclnjnngolmaaW.PrintWords

/-- The first place where p holds, or -1. -/
def idxOf {α : Type} (p : α → Bool) (l : List α) : Int := match l.findIdx? p with | some i => (i : Int) | none => -1
theorem idx_hit {α : Type} (p : α → Bool) (l : List α) (k : Nat) (hk : k < l.length) (h : p l[k] = true) (h' : ∀ j (hj : j < l.length), j < k → p l[j] = false) : l.findIdx? p = some k := by
  rw [List.findIdx?_eq_some_iff_getElem]
  exact ⟨hk, h, fun j hj => by rw [h' j (by omega) hj]; simp⟩
theorem idx_miss {α : Type} (p : α → Bool) (l : List α) (h' : ∀ j (hj : j < l.length), p l[j] = false) : l.findIdx? p = none := by
  rw [List.findIdx?_eq_none_iff]
  intro x hx
  obtain ⟨j, hj, rfl⟩ := List.getElem_of_mem hx
  exact h' j hj
theorem idx_any {α : Type} (p : α → Bool) (l : List α) : 0 ≤ idxOf p l ↔ l.any p = true := by
  unfold idxOf
  cases h : l.findIdx? p with
  | none =>
    rw [List.findIdx?_eq_none_iff] at h
    simp only [List.any_eq_true]
    constructor
    · intro h'; omega
    · rintro ⟨x, hx, hp⟩
      rw [h x hx] at hp
      cases hp
  | some i =>
    obtain ⟨hi, hp, _⟩ := List.findIdx?_eq_some_iff_getElem.1 h
    simp only [List.any_eq_true]
    exact ⟨fun _ => ⟨_, List.getElem_mem hi, hp⟩, fun _ => by omega⟩
theorem rd_nat' (l : List Int) (j : Nat) (h : j < l.length) : rd l (j : Int) = l[j] := by
  simp [rd, List.getD_eq_getElem?_getD, h]
theorem getD_nat' {α : Type} (d : α) (l : List α) (j : Nat) (h : j < l.length) : l.getD (j : Int).toNat d = l[j] := by
  simp [List.getD_eq_getElem?_getD, h]
theorem load_list (P : Program) (W : World) (a : Addr) (cs : List Value) (k : Nat) (hk : cs.length = k) (h : ∀ j v, cs[j]? = some v → W.cell? (a.add j) = some v) :
    Sem.run P (loadCellsFrom a 0 k #[]) W = .ok cs.toArray W := by
  have := run_loadCells_list (P := P) (w := W) a cs h
  rw [hk] at this
  simpa [loadCells] using this

end Go.Proofs.Ytbgclnjnngolmaa.Idx
