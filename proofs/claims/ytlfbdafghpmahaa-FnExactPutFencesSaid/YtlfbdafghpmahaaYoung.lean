/- Rows told with how old their blocks are: what a call made is younger than all that was there, and stays so. No condition. -/
import Derived.Test.YtlfbdafghpmahaaV2
import Derived.Test.YtlfbdafghpmahaaK
namespace Go.Proofs.Ytlfbdafghpmahaa.P
open Go.RowKit Go.Proofs.YtlfbdafghpmahaaW.PrintWords
namespace Kd
section
variable {α : Type} {d : Kd α} {e : Nat} {w1 W : World} {base : Nat} {ok : Nat → Prop} {v : Value} {xs : List α}
theorem S_young (h : Kd.S d e W base ok v xs) (hb : Below W.heap.size W w1) : Kd.S d e w1 base (fun k => ok k ∧ k < W.heap.size) v xs := Kd.S_below (Kd.S_mono (Kd.S_bound h) (fun _ hk => ⟨hk.1, hk.2.2.1⟩)) hb
theorem R_young (h : d.R e W base ok v xs) (hb : Below W.heap.size W w1) : d.R e w1 base (fun k => ok k ∧ k < W.heap.size) v xs := Kd.R_below (Kd.R_mono (Kd.R_bound h) (fun _ hk => ⟨hk.1, hk.2.2.1⟩)) hb
theorem S_fresh (h : Kd.S d e w1 W.heap.size ok v xs) (hb : base ≤ W.heap.size) : Kd.S d e w1 base (fun k => W.heap.size ≤ k ∧ ok k) v xs := Kd.S_lower (Kd.S_mono (Kd.S_bound h) (fun _ hk => ⟨hk.2.1, hk.1⟩)) hb
theorem R_fresh (h : d.R e w1 W.heap.size ok v xs) (hb : base ≤ W.heap.size) : d.R e w1 base (fun k => W.heap.size ≤ k ∧ ok k) v xs := Kd.R_lower (Kd.R_mono (Kd.R_bound h) (fun _ hk => ⟨hk.2.1, hk.1⟩)) hb
variable {S : Nat → Prop} {wx : World} {e' : Nat} {base' : Nat}
theorem S_keptX (_hx : Kd.S d e wx base ok v xs) (h : Kd.S d e W base ok v xs) (hk : Kept W w1 S) (hne : ∀ k, ok k → ¬ S k) : Kd.S d e w1 base ok v xs := Kd.S_kept h hk hne
theorem R_keptX (_hx : d.R e wx base ok v xs) (h : d.R e W base ok v xs) (hk : Kept W w1 S) (hne : ∀ k, ok k → ¬ S k) : d.R e w1 base ok v xs := Kd.R_kept h hk hne
end
end Kd
/-- A block of one type is none of another's. -/
theorem typed_ne {W : World} {E : List Nat} {g T : Nat} {cs : Array Value} (hs : ∃ q, q ∈ E ∧ ∃ cells, W.heap[g]? = some (.cells cells q (0, 0))) (hb : W.heap[g]? = some (.cells cs T (0, 0))) (ht : ∀ q, q ∈ E → q ≠ T) : False := by
  obtain ⟨q, hq, cells, hc⟩ := hs
  rw [hb] at hc
  injection hc with hc
  injection hc with _ h _
  exact ht q hq h.symm
end Go.Proofs.Ytlfbdafghpmahaa.P
