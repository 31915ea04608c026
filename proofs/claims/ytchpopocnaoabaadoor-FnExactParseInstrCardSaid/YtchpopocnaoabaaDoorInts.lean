/- Rows of whole numbers in the laws: when they are equal, what marks write and find, sizes, copies. No condition but that lengths are lengths. -/
import Derived.Test.YtchpopocnaoabaaDoorGen
import Derived.Test.YtchpopocnaoabaaDoorPlawseqIntS
import Derived.Test.YtchpopocnaoabaaDoorPlawsszIntS
import Derived.Test.YtchpopocnaoabaaDoorPlawsszIntS
namespace Go.Proofs.YtchpopocnaoabaaDoor.Pure
open Go.RowKit Go.Proofs.YtchpopocnaoabaaDoor.P Go.Proofs.YtchpopocnaoabaaDoor.Gen Go.Proofs.YtchpopocnaoabaaDoorW.PrintWords

theorem eqIntS (a b : List Int) (ha : Len a) (k : Nat) (hk : a.length < k) : laws_eqIntS.f k a b = some (decide (a = b)) := by
  unfold laws_eqIntS.f
  by_cases hl : a.length = b.length
  · rw [if_pos (by omega)]
    refine loop_same a b hl (fun k i => laws_eqIntS.l0 k a b i) (fun k j h h' => ?_) (fun k => ?_) k hk
    · simp only [laws_eqIntS.l0]
      rw [if_pos (by omega), if_pos (by omega), if_pos (by omega), rd_nat _ _ h, rd_nat _ _ h', wrap_succ h ha]
    · simp only [laws_eqIntS.l0]
      rw [if_neg (by omega)]
  · rw [if_neg (by omega)]
    refine congrArg some (Eq.symm (decide_eq_false fun h => hl ?_))
    rw [h]

theorem szIntS (l : List Int) (a : Int) (hl : Len l) (h0 : 0 ≤ a) (h1 : a ≤ 1048576) : laws_szIntS.f l a = some (if l.length ≤ a then a - l.length else -1) := by
  unfold laws_szIntS.f
  have hl' : l.length ≤ 9223372036854775807 := hl
  rw [wrap_id (x := a - (l.length : Int)) (by omega) (by omega)]
  by_cases c : (l.length : Int) ≤ a
  · rw [if_neg (by omega), if_pos c]
  · rw [if_pos (by omega), if_neg c]

theorem toIntS (l : List Int) (k : Nat) (hl : l.length ≤ 1048576) (hk : l.length < k) : laws_toIntS.f k l = some l := by
  unfold laws_toIntS.f
  rw [if_pos (by omega), if_pos (by omega), Int.toNat_natCast]
  have := fill_loop l id 0 (fun k out i => laws_toIntS.l0 k l out i) (fun k out j h ho => by
    simp only [laws_toIntS.l0]
    rw [if_pos (by omega), if_pos (by omega), if_pos (by omega), rd_nat _ _ h, wrap_succ h (by omega), Int.toNat_natCast]
    rfl) (fun k out => by
    simp only [laws_toIntS.l0]
    rw [if_neg (by omega)]) k hk
  simpa using this

end Go.Proofs.YtchpopocnaoabaaDoor.Pure
