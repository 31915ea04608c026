/- Marks on a row of atoms, and whether they are found. No condition but that lengths are small. -/
import Derived.Test.YtchpopocnaoabaaDoorAtoms
import Derived.Test.YtchpopocnaoabaaDoorPimplParseAsk
import Derived.Test.YtchpopocnaoabaaDoorPlawsheldAtomS
namespace Go.Proofs.YtchpopocnaoabaaDoor.Pure
open Go.RowKit Go.Proofs.YtchpopocnaoabaaDoor.P Go.Proofs.YtchpopocnaoabaaDoor.Gen Go.Proofs.YtchpopocnaoabaaDoorW.PrintWords

theorem rdAtm2 (l : List Atm) (j : Nat) (h : j < l.length) : rd_T110 l (j : Int) = l[j] := getD_nat _ l j h
theorem markAtm (l : List Atm) (a : Int) (hl : Len l) (h0 : 0 ≤ a) (h1 : a + 4 * l.length ≤ 9223372036854775807) :
    ∃ l', l'.length = l.length ∧ ∀ k, l.length < k → laws_markAtomS.f k l a = some (a + 4 * l.length, l') ∧ laws_heldAtomS.f k l' a = some (a + 4 * l.length) := by
  have := marked 4 (fun a _ => (⟨a, a + 1, a + 1 + 1, a + 1 + 1 + 1⟩ : Atm)) laws_markAtomS.l0 laws_heldAtomS.l0
    (fun k p x r a h0 h1 h2 => by
      have e : ((p ++ x :: r).length : Int) = p.length + r.length + 1 := by simp; omega
      simp only [laws_markAtomS.l0, Option.bind_some]
      rw [if_pos (by omega), if_pos (by omega), Int.toNat_natCast, set_mid, rdAtm2 _ p.length (by simp), get_mid, rdAtm2 _ p.length (by simp), get_mid, set_mid, rdAtm2 _ p.length (by simp), get_mid, set_mid, rdAtm2 _ p.length (by simp), get_mid, set_mid, wrap_id (x := a + 1) (by omega) (by omega), wrap_id (x := a + 1 + 1) (by omega) (by omega), wrap_id (x := a + 1 + 1 + 1) (by omega) (by omega), wrap_id (x := a + 1 + 1 + 1 + 1) (by omega) (by omega), wrap_succ (n := (p ++ x :: r).length) (by omega) h2, show a + 1 + 1 + 1 + 1 = a + (4 : Nat) from by omega])
    (fun k p a => by simp only [laws_markAtomS.l0]; rw [if_neg (by omega)])
    (fun k p x r a h0 h1 h2 => by
      have e : ((p ++ (⟨a, a + 1, a + 1 + 1, a + 1 + 1 + 1⟩ : Atm) :: r).length : Int) = p.length + r.length + 1 := by simp; omega
      simp only [laws_heldAtomS.l0]
      rw [if_pos (by omega), if_pos (by omega), rdAtm2 _ p.length (by simp), get_mid, if_pos rfl, wrap_id (x := a + 1) (by omega) (by omega), if_pos rfl, wrap_id (x := a + 1 + 1) (by omega) (by omega), if_pos rfl, wrap_id (x := a + 1 + 1 + 1) (by omega) (by omega), if_pos rfl, wrap_id (x := a + 1 + 1 + 1 + 1) (by omega) (by omega), wrap_succ (n := (p ++ (⟨a, a + 1, a + 1 + 1, a + 1 + 1 + 1⟩ : Atm) :: r).length) (by omega) h2, show a + 1 + 1 + 1 + 1 = a + (4 : Nat) from by omega])
    (fun k p a => by simp only [laws_heldAtomS.l0]; rw [if_neg (by omega)]) l [] a hl h0 (by omega)
  simpa [laws_markAtomS.f, laws_heldAtomS.f] using this

end Go.Proofs.YtchpopocnaoabaaDoor.Pure
