/- The laws' words on lists of atoms: copies, sizes, equality. No condition but that lengths are lengths. -/
import Derived.Test.YtchpopocnaoabaaDoorGen
import Derived.Test.YtchpopocnaoabaaDoorPlawsszAtomS
import Derived.Test.YtchpopocnaoabaaDoorPlawsszAtomS
import Derived.Test.YtchpopocnaoabaaDoorPlawseqAtom
namespace Go.Proofs.YtchpopocnaoabaaDoor.Pure
open Go.RowKit Go.Proofs.YtchpopocnaoabaaDoor.P Go.Proofs.YtchpopocnaoabaaDoor.Gen Go.Proofs.YtchpopocnaoabaaDoorW.PrintWords

abbrev Atm := S110
abbrev Atm0 := S128
/-- The copy of an atom that came in. -/
def cpAtom (x : Atm0) : Atm := ⟨x.f0, x.f1, x.f2, x.f3⟩
theorem toAtomS (l : List Atm0) (k : Nat) (hl : l.length ≤ 1048576) (hk : l.length < k) : laws_toAtomS.f k l = some (l.map cpAtom) := by
  unfold laws_toAtomS.f
  rw [if_pos (by omega), if_pos (by omega), Int.toNat_natCast]
  exact fill_loop l cpAtom z110 (fun k out i => laws_toAtomS.l0 k l out i) (fun k out j h ho => by
    simp only [laws_toAtomS.l0, laws_toAtom.f, Option.bind_some]
    rw [if_pos (by omega), if_pos (by omega), if_pos (by omega), show rd_T128 l (j : Int) = l[j] from getD_nat _ l j h, wrap_succ h (by omega), Int.toNat_natCast]
    rfl) (fun k out => by
    simp only [laws_toAtomS.l0]
    rw [if_neg (by omega)]) k hk
theorem szAtomS (l : List Atm0) (a : Int) (hl : Len l) (h0 : 0 ≤ a) (h1 : a ≤ 1048576) : laws_szAtomS.f l a = some (if l.length ≤ a then a - l.length else -1) := by
  unfold laws_szAtomS.f
  have hl' : l.length ≤ 9223372036854775807 := hl
  rw [wrap_id (x := a - (l.length : Int)) (by omega) (by omega)]
  by_cases c : (l.length : Int) ≤ a
  · rw [if_neg (by omega), if_pos c]
  · rw [if_pos (by omega), if_neg c]
theorem eqAtomS_same (l : List Atm) (hl : Len l) (k : Nat) (hk : l.length < k) : laws_eqAtomS.f k l l = some true := by
  unfold laws_eqAtomS.f
  have hl' : l.length ≤ 9223372036854775807 := hl
  rw [if_pos rfl]
  have := loop_all l (fun _ => true) (fun k i => laws_eqAtomS.l0 k l l i) (fun k j hj => by
    simp only [laws_eqAtomS.l0, laws_eqAtom.f]
    rw [if_pos (by omega), if_pos (by omega), if_pos (by omega), wrap_succ hj hl']
    simp) (fun k => by
    simp only [laws_eqAtomS.l0]
    rw [if_neg (by omega)]) k hk
  rw [this]
  simp

end Go.Proofs.YtchpopocnaoabaaDoor.Pure
