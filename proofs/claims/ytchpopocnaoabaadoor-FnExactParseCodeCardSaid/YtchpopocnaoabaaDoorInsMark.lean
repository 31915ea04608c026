/- Marks on a code, and whether they are found. No condition but that lengths are small. -/
import Derived.Test.YtchpopocnaoabaaDoorIns
import Derived.Test.YtchpopocnaoabaaDoorPlawsmarkInstrS
import Derived.Test.YtchpopocnaoabaaDoorPlawsmarkInstrS
namespace Go.Proofs.YtchpopocnaoabaaDoor.Pure
open Go.RowKit Go.Proofs.YtchpopocnaoabaaDoor.P Go.Proofs.YtchpopocnaoabaaDoor.Gen Go.Proofs.YtchpopocnaoabaaDoorW.PrintWords

theorem rdIns2 (l : List Ins) (j : Nat) (h : j < l.length) : rd_T37 l (j : Int) = l[j] := getD_nat _ l j h
theorem markIns (l : List Ins) (a : Int) (hl : Len l) (h0 : 0 ≤ a) (h1 : a + 4 * l.length ≤ 9223372036854775807) :
    ∃ l', l'.length = l.length ∧ ∀ k, l.length < k → laws_markInstrS.f k l a = some (a + 4 * l.length, l') ∧ laws_heldInstrS.f k l' a = some (a + 4 * l.length) := by
  have := marked 4 (fun a _ => (⟨a, a + 1, a + 1 + 1, a + 1 + 1 + 1⟩ : Ins)) laws_markInstrS.l0 laws_heldInstrS.l0
    (fun k p x r a h0 h1 h2 => by
      have e : ((p ++ x :: r).length : Int) = p.length + r.length + 1 := by simp; omega
      simp only [laws_markInstrS.l0, Option.bind_some]
      rw [if_pos (by omega), if_pos (by omega), Int.toNat_natCast, set_mid, rdIns2 _ p.length (by simp), get_mid, rdIns2 _ p.length (by simp), get_mid, set_mid, rdIns2 _ p.length (by simp), get_mid, set_mid, rdIns2 _ p.length (by simp), get_mid, set_mid, wrap_id (x := a + 1) (by omega) (by omega), wrap_id (x := a + 1 + 1) (by omega) (by omega), wrap_id (x := a + 1 + 1 + 1) (by omega) (by omega), wrap_id (x := a + 1 + 1 + 1 + 1) (by omega) (by omega), wrap_succ (n := (p ++ x :: r).length) (by omega) h2, show a + 1 + 1 + 1 + 1 = a + (4 : Nat) from by omega])
    (fun k p a => by simp only [laws_markInstrS.l0]; rw [if_neg (by omega)])
    (fun k p x r a h0 h1 h2 => by
      have e : ((p ++ (⟨a, a + 1, a + 1 + 1, a + 1 + 1 + 1⟩ : Ins) :: r).length : Int) = p.length + r.length + 1 := by simp; omega
      simp only [laws_heldInstrS.l0]
      rw [if_pos (by omega), if_pos (by omega), rdIns2 _ p.length (by simp), get_mid, if_pos rfl, wrap_id (x := a + 1) (by omega) (by omega), if_pos rfl, wrap_id (x := a + 1 + 1) (by omega) (by omega), if_pos rfl, wrap_id (x := a + 1 + 1 + 1) (by omega) (by omega), if_pos rfl, wrap_id (x := a + 1 + 1 + 1 + 1) (by omega) (by omega), wrap_succ (n := (p ++ (⟨a, a + 1, a + 1 + 1, a + 1 + 1 + 1⟩ : Ins) :: r).length) (by omega) h2, show a + 1 + 1 + 1 + 1 = a + (4 : Nat) from by omega])
    (fun k p a => by simp only [laws_heldInstrS.l0]; rw [if_neg (by omega)]) l [] a hl h0 (by omega)
  simpa [laws_markInstrS.f, laws_heldInstrS.f] using this

end Go.Proofs.YtchpopocnaoabaaDoor.Pure
