/- Rows of bools in the laws: when they are equal, what marks write and find, sizes, copies. No condition but that lengths are lengths. -/
import Derived.Test.YtkjndikkdbfhbaaGen
import Derived.Test.YtkjndikkdbfhbaaPlawstoHeap
import Derived.Test.YtkjndikkdbfhbaaPlawsszBoolS
import Derived.Test.YtkjndikkdbfhbaaPlawsszBoolS
namespace Go.Proofs.Ytkjndikkdbfhbaa.Pure
open Go.RowKit Go.Proofs.Ytkjndikkdbfhbaa.P Go.Proofs.Ytkjndikkdbfhbaa.Gen Go.Proofs.YtkjndikkdbfhbaaW.PrintWords

theorem eqBoolS (a b : List Bool) (ha : Len a) (k : Nat) (hk : a.length < k) : laws_eqBoolS.f k a b = some (decide (a = b)) := by
  unfold laws_eqBoolS.f
  by_cases hl : a.length = b.length
  · rw [if_pos (by omega)]
    refine loop_same a b hl (fun k i => laws_eqBoolS.l0 k a b i) (fun k j h h' => ?_) (fun k => ?_) k hk
    · simp only [laws_eqBoolS.l0]
      rw [if_pos (by omega), if_pos (by omega), if_pos (by omega), rdOf_nat _ _ _ h, rdOf_nat _ _ _ h', wrap_succ h ha]
      by_cases c : a[j] = b[j] <;> simp [c]
    · simp only [laws_eqBoolS.l0]
      rw [if_neg (by omega)]
  · rw [if_neg (by omega)]
    refine congrArg some (Eq.symm (decide_eq_false fun h => hl ?_))
    rw [h]

theorem szBoolS (l : List Bool) (a : Int) (hl : Len l) (h0 : 0 ≤ a) (h1 : a ≤ 1048576) : laws_szBoolS.f l a = some (if l.length ≤ a then a - l.length else -1) := by
  unfold laws_szBoolS.f
  have hl' : l.length ≤ 9223372036854775807 := hl
  rw [wrap_id (x := a - (l.length : Int)) (by omega) (by omega)]
  by_cases c : (l.length : Int) ≤ a
  · rw [if_neg (by omega), if_pos c]
  · rw [if_pos (by omega), if_neg c]

theorem toBoolS (l : List Bool) (k : Nat) (hl : l.length ≤ 1048576) (hk : l.length < k) : laws_toBoolS.f k l = some l := by
  unfold laws_toBoolS.f
  rw [if_pos (by omega), if_pos (by omega), Int.toNat_natCast]
  have := fill_loop l id false (fun k out i => laws_toBoolS.l0 k l out i) (fun k out j h ho => by
    simp only [laws_toBoolS.l0]
    rw [if_pos (by omega), if_pos (by omega), if_pos (by omega), rdOf_nat _ _ _ h, wrap_succ h (by omega), Int.toNat_natCast]
    rfl) (fun k out => by
    simp only [laws_toBoolS.l0]
    rw [if_neg (by omega)]) k hk
  simpa using this

end Go.Proofs.Ytkjndikkdbfhbaa.Pure
