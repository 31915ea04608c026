/- What lies at an address: the program's Peek and the reference's. No condition but that lengths are lengths. -/
import Derived.Test.YtkjndikkdbfhbaaMem
import Derived.Test.YtkjndikkdbfhbaaPspecPeek
import Derived.Test.YtkjndikkdbfhbaaPspecPeek
namespace Go.Proofs.Ytkjndikkdbfhbaa.Pure
open Go.RowKit Go.Proofs.Ytkjndikkdbfhbaa.P Go.Proofs.Ytkjndikkdbfhbaa.Gen Go.Proofs.YtkjndikkdbfhbaaW.PrintWords

def peekV (l : List Int) (a : Int) : Int := if memB l = true ∧ inB a 0 (l.length - 1) = true then rd l a else 0
theorem hasAt (l : List Int) (a : Int) (h : memB l = true) : impl_Mem_has.f l a = some (inB a 0 (l.length - 1)) := by
  have := memB_len h
  unfold impl_Mem_has.f
  rw [within, wrap_id (by omega) (by omega)]
  rfl
theorem impl_peek (l : List Int) (a : Int) : impl_Peek.f l a = some (peekV l a) := by
  unfold impl_Peek.f peekV
  rw [impl_memOk, Option.bind_some]
  by_cases h : memB l = true
  · rw [if_pos h, hasAt l a h, Option.bind_some]
    by_cases h2 : inB a 0 (l.length - 1) = true
    · have := inB_true.1 h2
      rw [if_pos h2, if_pos (by omega), if_pos (by omega), if_pos ⟨h, h2⟩]
    · rw [if_neg h2, if_neg (fun q => h2 q.2)]
  · rw [if_neg h, if_neg (fun q => h q.1)]
theorem spec_peek (l : List Int) (a : Int) (k : Nat) (hk : 17 ≤ k) : spec_Peek.f k l a = some (peekV l a) := by
  unfold spec_Peek.f peekV
  rw [spec_memOk l k hk, Option.bind_some]
  by_cases h : memB l = true
  · have hl := memB_len h
    rw [if_pos h, l01In, wrap_id (by omega) (by omega), Option.bind_some]
    by_cases h2 : inB a 0 (l.length - 1) = true
    · have := inB_true.1 h2
      rw [if_pos h2, if_pos (by omega), if_pos (by omega), if_pos ⟨h, h2⟩]
    · rw [if_neg h2, if_neg (fun q => h2 q.2)]
  · rw [if_neg h, if_neg (fun q => h q.1)]

end Go.Proofs.Ytkjndikkdbfhbaa.Pure
