/- Is a memory valid: the program's test and the reference's, as one Bool; and the laws' words on memories. No condition but that lengths are lengths. -/
import Derived.Test.YtchpopocnaoabaaDoorVals
import Derived.Test.YtchpopocnaoabaaDoorInts
import Derived.Test.YtchpopocnaoabaaDoorPspecMemOk
import Derived.Test.YtchpopocnaoabaaDoorPimplMemOk
import Derived.Test.YtchpopocnaoabaaDoorPlawsszIntS
import Derived.Test.YtchpopocnaoabaaDoorPlawsszIntS
import Derived.Test.YtchpopocnaoabaaDoorPlawseqIntS
namespace Go.Proofs.YtchpopocnaoabaaDoor.Pure
open Go.RowKit Go.Proofs.YtchpopocnaoabaaDoor.P Go.Proofs.YtchpopocnaoabaaDoor.Gen Go.Proofs.YtchpopocnaoabaaDoorW.PrintWords

def memB (l : List Int) : Bool := inB (l.length : Int) 1 16 && l.all valB
theorem memB_len {l : List Int} (h : memB l = true) : 1 ≤ l.length ∧ l.length ≤ 16 := by
  unfold memB at h
  rw [Bool.and_eq_true] at h
  have := inB_true.1 h.1
  omega
theorem areValues (l : List Int) : impl_areValues.f l = some (l.all valB) := by
  unfold impl_areValues.f
  rfl
theorem impl_memOk (l : List Int) : impl_MemOk.f l = some (memB l) := by
  unfold impl_MemOk.f memB
  rw [within, Option.bind_some, areValues]
  by_cases h : inB (l.length : Int) 1 16 = true <;> simp [h]
theorem spec_memOk (l : List Int) (k : Nat) (hk : 17 ≤ k) : spec_MemOk.f k l = some (memB l) := by
  unfold spec_MemOk.f memB
  rw [l01In, Option.bind_some]
  by_cases h : inB (l.length : Int) 1 16 = true
  · have hl := inB_true.1 h
    rw [if_pos h, h, Bool.true_and]
    exact loop_all l valB (fun k i => spec_MemOk.l0 k i l) (fun k j hj => by
      simp only [spec_MemOk.l0]
      rw [if_pos (by omega), if_pos (by omega), rd_nat _ _ hj, l01Value, Option.bind_some, wrap_succ hj (by omega)]) (fun k => by
      simp only [spec_MemOk.l0]
      rw [if_neg (by omega)]) k (by omega)
  · simp only [Bool.not_eq_true] at h
    simp [h]

theorem toMem (l : List Int) (k : Nat) (hl : l.length ≤ 1048576) (hk : l.length < k) : laws_toMem.f k l = some l := by
  unfold laws_toMem.f
  rw [toIntS l k hl hk]
  rfl
theorem szMem (l : List Int) (a : Int) (hl : Len l) (h0 : 0 ≤ a) (h1 : a ≤ 1048576) : laws_szMem.f l a = some (if l.length ≤ a then a - l.length else -1) := by
  unfold laws_szMem.f
  rw [szIntS l a hl h0 h1, Option.bind_some]
  by_cases c : (l.length : Int) ≤ a
  · rw [if_pos c, if_neg (by omega)]
  · rw [if_neg c]
    rfl
theorem eqMem (a b : List Int) (ha : Len a) (k : Nat) (hk : a.length < k) : laws_eqMem.f k a b = some (decide (a = b)) := by
  unfold laws_eqMem.f
  rw [eqIntS a b ha k hk, Option.bind_some]
  by_cases h : a = b <;> simp [h]

end Go.Proofs.YtchpopocnaoabaaDoor.Pure
