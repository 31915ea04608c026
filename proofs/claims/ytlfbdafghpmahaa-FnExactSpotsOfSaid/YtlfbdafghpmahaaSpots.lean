/- The laws' words on spots. No condition but that lengths are small. -/
import Derived.Test.YtlfbdafghpmahaaPrg
import Derived.Test.YtlfbdafghpmahaaPlawseqSpot
import Derived.Test.YtlfbdafghpmahaaPlawseqSpot
namespace Go.Proofs.Ytlfbdafghpmahaa.Pure
open Go.RowKit Go.Proofs.Ytlfbdafghpmahaa.P Go.Proofs.Ytlfbdafghpmahaa.Gen Go.Proofs.YtlfbdafghpmahaaW.PrintWords
set_option linter.unusedSimpArgs false
set_option linter.unusedVariables false

abbrev Spt := S96
theorem rdSpt (l : List Spt) (j : Nat) (h : j < l.length) : rd_T96 l (j : Int) = l[j] := getD_nat _ l j h
theorem eqSpots_same (l : List Spt) (hl : l.length ≤ 1048576) (k : Nat) (hk : l.length < k) : laws_eqSpotS.f k l l = some true := by
  unfold laws_eqSpotS.f
  rw [if_pos rfl]
  have := loop_all l (fun _ => true) (fun k i => laws_eqSpotS.l0 k l l i) (fun k j hj => by
    simp only [laws_eqSpotS.l0, laws_eqSpot.f]
    rw [if_pos (by omega), if_pos (by omega), if_pos (by omega), wrap_succ hj (by omega)]
    simp) (fun k => by
    simp only [laws_eqSpotS.l0]
    rw [if_neg (by omega)]) k hk
  rw [this]
  simp
theorem markSpotS_only (l : List Spt) (a : Int) (hl : l.length ≤ 1048576) (h0 : 0 ≤ a) (h1 : a ≤ 9000000000000000000) :
    ∃ l', l'.length = l.length ∧ ∀ k, l.length < k → laws_markSpotS.f k l a = some (a + 2 * l.length, l') := by
  have := marked_only 2 (fun a _ => (⟨a, a + 1⟩ : Spt)) laws_markSpotS.l0
    (fun k p x r a h0 h1 h2 => by
      have e : ((p ++ x :: r).length : Int) = p.length + r.length + 1 := by simp; omega
      have e2 : rd_T96 (p ++ (⟨a, x.f1⟩ : Spt) :: r) (p.length : Int) = ⟨a, x.f1⟩ := by rw [rdSpt _ p.length (by simp), get_mid]
      have e3 : rd_T96 (p ++ x :: r) (p.length : Int) = x := by rw [rdSpt _ p.length (by simp), get_mid]
      simp only [laws_markSpotS.l0, Option.bind_some]
      rw [if_pos (by omega), if_pos (by omega), Int.toNat_natCast, e3, set_mid, e2, set_mid, wrap_id (x := a + 1) (by omega) (by omega), wrap_id (x := a + 1 + 1) (by omega) (by omega), wrap_succ (n := (p ++ x :: r).length) (by omega) h2, show a + 1 + 1 = a + (2 : Nat) from by omega])
    (fun k p a => by simp only [laws_markSpotS.l0]; rw [if_neg (by omega)]) l [] a (by simp; omega) h0 (by omega)
  simpa [laws_markSpotS.f] using this

end Go.Proofs.Ytlfbdafghpmahaa.Pure
