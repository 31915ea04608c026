/- The laws' words on codes: copies, sizes, equality. No condition but that lengths are lengths. -/
import Derived.Test.YtchpopocnaoabaaDoorScal
import Derived.Test.YtchpopocnaoabaaDoorPlawsszInstrS
import Derived.Test.YtchpopocnaoabaaDoorPlawsszInstrS
import Derived.Test.YtchpopocnaoabaaDoorPlawseqInstrS
namespace Go.Proofs.YtchpopocnaoabaaDoor.Pure
open Go.RowKit Go.Proofs.YtchpopocnaoabaaDoor.P Go.Proofs.YtchpopocnaoabaaDoor.Gen Go.Proofs.YtchpopocnaoabaaDoorW.PrintWords

abbrev Ins := S37
abbrev Ins0 := S44
def cpIns (x : Ins0) : Ins := ⟨x.f0, x.f1, x.f2, x.f3⟩
theorem toInstrS (l : List Ins0) (k : Nat) (hl : l.length ≤ 1048576) (hk : l.length < k) : laws_toInstrS.f k l = some (l.map cpIns) := by
  unfold laws_toInstrS.f
  rw [if_pos (by omega), if_pos (by omega), Int.toNat_natCast]
  exact fill_loop l cpIns z37 (fun k out i => laws_toInstrS.l0 k l out i) (fun k out j h ho => by
    simp only [laws_toInstrS.l0, laws_toInstr.f, Option.bind_some]
    rw [if_pos (by omega), if_pos (by omega), if_pos (by omega), show rd_T44 l (j : Int) = l[j] from getD_nat _ l j h, wrap_succ h (by omega), Int.toNat_natCast]
    rfl) (fun k out => by
    simp only [laws_toInstrS.l0]
    rw [if_neg (by omega)]) k hk
theorem szInstrS (l : List Ins0) (a : Int) (hl : Len l) (h0 : 0 ≤ a) (h1 : a ≤ 1048576) : laws_szInstrS.f l a = some (if l.length ≤ a then a - l.length else -1) := by
  unfold laws_szInstrS.f
  have hl' : l.length ≤ 9223372036854775807 := hl
  rw [wrap_id (x := a - (l.length : Int)) (by omega) (by omega)]
  by_cases c : (l.length : Int) ≤ a
  · rw [if_neg (by omega), if_pos c]
  · rw [if_pos (by omega), if_neg c]
theorem eqInstrS_same (l : List Ins) (hl : Len l) (k : Nat) (hk : l.length < k) : laws_eqInstrS.f k l l = some true := by
  unfold laws_eqInstrS.f
  have hl' : l.length ≤ 9223372036854775807 := hl
  rw [if_pos rfl]
  have := loop_all l (fun _ => true) (fun k i => laws_eqInstrS.l0 k l l i) (fun k j hj => by
    simp only [laws_eqInstrS.l0, laws_eqInstr.f]
    rw [if_pos (by omega), if_pos (by omega), if_pos (by omega), wrap_succ hj hl']
    simp) (fun k => by
    simp only [laws_eqInstrS.l0]
    rw [if_neg (by omega)]) k hk
  rw [this]
  simp

end Go.Proofs.YtchpopocnaoabaaDoor.Pure
