/- Rows of bools: what marks write is what is found. No condition but that lengths are lengths. -/
import Derived.Test.YtimlilgdbkcpoaaGen
import Derived.Test.YtimlilgdbkcpoaaPlawsmarkBoolS
import Derived.Test.YtimlilgdbkcpoaaPlawsmarkBoolS
namespace Go.Proofs.Ytimlilgdbkcpoaa.Pure
open Go.RowKit Go.Proofs.Ytimlilgdbkcpoaa.P Go.Proofs.Ytimlilgdbkcpoaa.Gen Go.Proofs.YtimlilgdbkcpoaaW.PrintWords

theorem markBoolS (l : List Bool) (a : Int) (hl : Len l) (h0 : 0 ≤ a) (h1 : a + l.length ≤ 9223372036854775807) :
    ∃ l', l'.length = l.length ∧ ∀ k, l.length < k → laws_markBoolS.f k l a = some (a + l.length, l') ∧ laws_heldBoolS.f k l' a = some (a + l.length) := by
  have := marked 1 (fun a _ => Int.tmod a 3 == 0) laws_markBoolS.l0 laws_heldBoolS.l0
    (fun k p x r a h0 h1 h2 => by
      have e : ((p ++ x :: r).length : Int) = p.length + r.length + 1 := by simp; omega
      simp only [laws_markBoolS.l0]
      rw [if_pos (by omega), if_pos (by omega), Int.toNat_natCast, set_mid, wrap_id (x := a + 1) (by omega) (by omega), wrap_succ (n := (p ++ x :: r).length) (by omega) h2]
      rfl)
    (fun k p a => by simp only [laws_markBoolS.l0]; rw [if_neg (by omega)])
    (fun k p x r a h0 h1 h2 => by
      have e : ((p ++ (Int.tmod a 3 == 0) :: r).length : Int) = p.length + r.length + 1 := by simp; omega
      simp only [laws_heldBoolS.l0]
      rw [if_pos (by omega), if_pos (by omega), rdOf_nat _ _ p.length (by simp), get_mid, if_neg (by simp), wrap_id (x := a + 1) (by omega) (by omega), wrap_succ (n := (p ++ (Int.tmod a 3 == 0) :: r).length) (by omega) h2]
      rfl)
    (fun k p a => by simp only [laws_heldBoolS.l0]; rw [if_neg (by omega)]) l [] a hl h0 (by omega)
  simpa [laws_markBoolS.f, laws_heldBoolS.f] using this

end Go.Proofs.Ytimlilgdbkcpoaa.Pure
