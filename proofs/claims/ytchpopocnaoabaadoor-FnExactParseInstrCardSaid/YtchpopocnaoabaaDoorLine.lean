/- A memory's text: the program's and the reference's are the values with a blank between each two. No condition. -/
import Derived.Test.YtchpopocnaoabaaDoorNum
import Derived.Test.YtchpopocnaoabaaDoorMem
import Derived.Test.YtchpopocnaoabaaDoorPimplMemOk
import Derived.Test.YtchpopocnaoabaaDoorPlawsszIntS
namespace Go.Proofs.YtchpopocnaoabaaDoor.Pure
open Go.RowKit Go.Proofs.YtchpopocnaoabaaDoor.P Go.Proofs.YtchpopocnaoabaaDoor.Gen Go.Proofs.YtchpopocnaoabaaDoorW.PrintWords

/-- Numbers with a blank between each two. -/
def lineW (l : List Int) : List UInt8 := Go.Lib.join (l.map Go.Lib.itoa) [32]
theorem sp_mk : (⟨#[32]⟩ : ByteArray) = mk [32] := rfl
theorem ge0 {j : Nat} : (0 : Int) ≤ (j : Int) := by omega
theorem valB_range {x : Int} (h : valB x = true) : -1000000 ≤ x ∧ x ≤ 1000000 := by
  unfold valB at h
  exact inB_true.1 h
theorem memB_vals {l : List Int} (h : memB l = true) : ∀ x ∈ l, I64 x := by
  unfold memB at h
  rw [Bool.and_eq_true] at h
  intro x hx
  have := valB_range (List.all_eq_true.1 h.2 x hx)
  exact ⟨by omega, by omega⟩
theorem spacedF (l : List Int) (hl : l.length ≤ 16) (hv : ∀ x ∈ l, I64 x) (k : Nat) (hk : 40 ≤ k) : impl_spaced.f k l = some (mk (lineW l)) := by
  unfold impl_spaced.f
  obtain ⟨m, rfl⟩ : ∃ m, k = (m + 1) + l.length := ⟨k - 1 - l.length, by omega⟩
  rw [words_loop l Go.Lib.itoa 0 (fun k b i => impl_spaced.l0 k b l (l.length : Int) i) (fun k b j h _ hb => by
    have hr := hv _ (List.getElem_mem h)
    simp only [impl_spaced.l0]
    rw [if_pos (by omega), if_pos (by omega), if_pos (by omega), rd_nat _ _ h, itoaF _ hr.1 hr.2, Option.bind_some, if_pos (by omega), wrap_succ h (by omega)]) (m + 1) (by omega)]
  simp only [impl_spaced.l0]
  rw [if_neg (by omega), sp_mk, joinF _ _ (by rw [List.length_map]; omega)]
  · rfl
  · refine Nat.le_trans (join_len [32] 22 _ ?_) ?_
    · intro x hx
      obtain ⟨y, hy, rfl⟩ := List.mem_map.1 hx
      have := hv y hy
      have := itoa_len y this.1 this.2
      simp only [List.length_cons, List.length_nil]
      omega
    · rw [List.length_map]
      omega
theorem l01Line (l : List Int) (hl : l.length ≤ 16) (hv : ∀ x ∈ l, I64 x) (k : Nat) (hk : 40 ≤ k) : spec_l01Line.f k l = some (mk (lineW l)) := by
  unfold spec_l01Line.f
  refine line_loop l Go.Lib.itoa [32] 22 20 (fun x hx => ?_) (by omega) (fun k b i => spec_l01Line.l0 k l b i) (fun k s h hk hs => ?_) (fun k s j h hk h0 hs => ?_) (fun k s hk => ?_) k (by omega)
  · have := hv x hx
    have := itoa_len x this.1 this.2
    simp only [List.length_cons, List.length_nil]
    omega
  · subst hs
    have hr := hv _ (List.getElem_mem h)
    have hz := itoa_len l[0] hr.1 hr.2
    have hrd : rd l 0 = l[0] := rd_nat l 0 h
    simp only [spec_l01Line.l0]
    rw [if_pos (by omega), if_neg (by omega), if_pos (by omega), hrd, l01Num _ hr.1 hr.2 k hk, Option.bind_some, if_pos (by rw [mk_size, mk_size, List.length_nil]; omega), mk_append, show wrap64 (0 + 1) = 1 by unfold wrap64; omega]
  · have hr := hv _ (List.getElem_mem h)
    have hz := itoa_len l[j] hr.1 hr.2
    simp only [spec_l01Line.l0]
    rw [if_pos (by omega), if_pos (by omega), if_pos (by rw [mk_size]; omega), if_pos (by omega), rd_nat _ _ h, l01Num _ hr.1 hr.2 k hk, Option.bind_some, sp_mk, mk_append, if_pos (by rw [mk_size, mk_size, List.length_append, List.length_cons, List.length_nil]; omega), mk_append, wrap_succ h (by omega)]
  · simp only [spec_l01Line.l0]
    rw [if_neg (by omega)]

theorem lineW_len' (l : List Int) (hl : l.length ≤ 16) (hv : ∀ x ∈ l, I64 x) : (lineW l).length ≤ 352 := by
  refine Nat.le_trans (join_len [32] 22 _ ?_) ?_
  · intro x hx
    obtain ⟨y, hy, rfl⟩ := List.mem_map.1 hx
    have := itoa_len y (hv y hy).1 (hv y hy).2
    simp only [List.length_cons, List.length_nil]
    omega
  · rw [List.length_map]
    omega
/-- The text of a memory, none of one that is not valid. -/
def memTextW (l : List Int) : List UInt8 := if memB l = true then lineW l else []
theorem impl_memText (l : List Int) (k : Nat) (hk : 40 ≤ k) : impl_MemText.f k l = some (mk (memTextW l)) := by
  unfold impl_MemText.f memTextW
  rw [impl_memOk, Option.bind_some]
  by_cases h : memB l = true
  · rw [if_pos h, if_pos h, spacedF l (memB_len h).2 (memB_vals h) k hk]
    rfl
  · rw [if_neg h, if_neg h]
    rfl
theorem spec_memText (l : List Int) (k : Nat) (hk : 40 ≤ k) : spec_MemText.f k l = some (mk (memTextW l)) := by
  unfold spec_MemText.f memTextW
  rw [spec_memOk l k (by omega), Option.bind_some]
  by_cases h : memB l = true
  · rw [if_pos h, if_pos h, l01Line l (memB_len h).2 (memB_vals h) k hk]
    rfl
  · rw [if_neg h, if_neg h]
    rfl

end Go.Proofs.YtchpopocnaoabaaDoor.Pure
