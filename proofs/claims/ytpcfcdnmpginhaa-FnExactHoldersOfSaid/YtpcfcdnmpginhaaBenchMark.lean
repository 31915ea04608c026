/- Marks on a bench. No condition but that lengths are small. -/
import Derived.Test.YtpcfcdnmpginhaaBench
import Derived.Test.YtpcfcdnmpginhaaPlawsmarkHoldS
namespace Go.Proofs.Ytpcfcdnmpginhaa.Pure
open Go.RowKit Go.Proofs.Ytpcfcdnmpginhaa.P Go.Proofs.Ytpcfcdnmpginhaa.Gen Go.Proofs.YtpcfcdnmpginhaaW.PrintWords

theorem markHoldS (l : List Hld) (a : Int) (hl : l.length ≤ 1048576) (h0 : 0 ≤ a) (h1 : a ≤ 1073741824) : ∃ r', ∀ k, l.length < k → laws_markHoldS.f k l a = some (a + 2 * l.length, r') := by
  obtain ⟨r', _, h⟩ := marked_only 2 (fun a _ => (⟨a, a + 1⟩ : Hld)) laws_markHoldS.l0 (fun k p x r a h0 ha hl => by
    have e : ((p ++ x :: r).length : Int) = p.length + r.length + 1 := by simp; omega
    have e2 : rd_T123 (p ++ (⟨a, x.f1⟩ : Hld) :: r) (p.length : Int) = ⟨a, x.f1⟩ := by rw [rdHld _ p.length (by simp), get_mid]
    have e3 : rd_T123 (p ++ x :: r) (p.length : Int) = x := by rw [rdHld _ p.length (by simp), get_mid]
    simp only [laws_markHoldS.l0, Option.bind_some]
    rw [if_pos (by omega), if_pos (by omega), Int.toNat_natCast, e3, set_mid, e2, set_mid, wrap_id (x := a + 1) (by omega) (by omega), wrap_id (x := a + 1 + 1) (by omega) (by omega), wrap_succ (n := (p ++ x :: r).length) (by omega) hl, show a + 1 + 1 = a + (2 : Nat) from by omega]) (fun k p a => by
    simp only [laws_markHoldS.l0]
    rw [if_neg (by omega)]) l [] a (by simp; omega) h0 (by simp; omega)
  exact ⟨r', fun k hk => by
    have := h k hk
    simpa [laws_markHoldS.f] using this⟩
theorem markBench (A : List Int) (H : List Hld) (B C : List Int) (n : Int) (hs : A.length + H.length + B.length + C.length ≤ 1048576) : ∃ m A' H' B' C', 0 ≤ m ∧ ∀ k, 1048576 < k → laws_markBench.f k A H B C n 1 = some (m, A', H', B', C') := by
  obtain ⟨H', hH⟩ := markHoldS H (1 + A.length) (by omega) (by omega) (by omega)
  refine ⟨1 + A.length + 2 * H.length + B.length + C.length, marks 1 A.length, H', marks (1 + A.length + 2 * H.length) B.length, marks (1 + A.length + 2 * H.length + B.length) C.length, by omega, fun k hk => ?_⟩
  unfold laws_markBench.f
  rw [markIntS A 1 k (by show _ ≤ _; omega) (by omega) (by omega) (by omega), Option.bind_some]
  simp only
  rw [hH k (by omega), Option.bind_some]
  simp only
  rw [markIntS B _ k (by show _ ≤ _; omega) (by omega) (by omega) (by omega), Option.bind_some]
  simp only
  rw [markIntS C _ k (by show _ ≤ _; omega) (by omega) (by omega) (by omega)]
  rfl

end Go.Proofs.Ytpcfcdnmpginhaa.Pure
