/- A buffer's text: the program's and the reference's. No condition but that its numbers are ints and its length is one of an argument. -/
import Derived.Test.YtchpopocnaoabaaDoorNum
import Derived.Test.YtchpopocnaoabaaDoorSlot
import Derived.Test.YtchpopocnaoabaaDoorPimplBufText
import Derived.Test.YtchpopocnaoabaaDoorPspecBufText
namespace Go.Proofs.YtchpopocnaoabaaDoor.Pure
open Go.RowKit Go.Proofs.YtchpopocnaoabaaDoor.P Go.Proofs.YtchpopocnaoabaaDoor.Gen Go.Proofs.YtchpopocnaoabaaDoorW.PrintWords

def slotW (x : Slot) : List UInt8 := Go.Lib.itoa x.f0 ++ [61] ++ Go.Lib.itoa x.f1
def bufTextW (l : List Slot) : List UInt8 := if bufB l = true then (if l.length = 0 then [45] else Go.Lib.join (l.map slotW) [32]) else []
def SlotsI (l : List Slot) : Prop := ∀ x ∈ l, I64 x.f0 ∧ I64 x.f1
theorem slotW_len {x : Slot} (h : I64 x.f0 ∧ I64 x.f1) : (slotW x).length ≤ 43 := by
  have h1 := itoa_len x.f0 h.1.1 h.1.2
  have h2 := itoa_len x.f1 h.2.1 h.2.2
  unfold slotW
  simp only [List.length_append, List.length_cons, List.length_nil]
  omega
theorem eq_mk : (⟨#[61]⟩ : ByteArray) = mk [61] := rfl
theorem blank_mk : (⟨#[32]⟩ : ByteArray) = mk [32] := rfl
theorem impl_bufText (l : List Slot) (hl : l.length ≤ 1048576) (hi : SlotsI l) (k : Nat) (hk : l.length + 2 ≤ k) : impl_BufText.f k l = some (mk (bufTextW l)) := by
  unfold impl_BufText.f
  obtain ⟨m, rfl⟩ : ∃ m, k = (m + 1) + l.length := ⟨k - 1 - l.length, by omega⟩
  rw [words_loop l slotW 0 (fun k b i => impl_BufText.l0 k l b l (l.length : Int) i) (fun k b j h _ hb => by
    obtain ⟨ha, hv⟩ := hi _ (List.getElem_mem h)
    have h1 := itoa_len _ ha.1 ha.2
    have h2 := itoa_len _ hv.1 hv.2
    simp only [impl_BufText.l0]
    rw [if_pos (by omega), if_pos (by omega), if_pos (by omega), rdSlot _ _ h, itoaF _ ha.1 ha.2, Option.bind_some, if_pos (by rw [mk_size]; omega), itoaF _ hv.1 hv.2, Option.bind_some, eq_mk, mk_append,
      if_pos (by rw [mk_size, mk_size, List.length_append, List.length_cons, List.length_nil]; omega), if_pos (by omega), mk_append, wrap_succ h (by omega)]
    rfl) (m + 1) (by omega)]
  simp only [impl_BufText.l0]
  rw [if_neg (by omega), impl_bufOk, Option.bind_some]
  unfold bufTextW
  by_cases hb : bufB l = true
  · rw [if_pos hb, if_pos hb]
    have h3 := bufB_len hb
    by_cases h0 : l.length = 0
    · rw [if_pos (by omega), if_pos h0]
      rfl
    · rw [if_neg (by omega), if_neg h0, blank_mk, joinF _ _ (by rw [List.length_map]; omega)]
      · rfl
      · refine Nat.le_trans (join_len [32] 44 _ ?_) ?_
        · intro x hx
          obtain ⟨y, hy, rfl⟩ := List.mem_map.1 hx
          have := slotW_len (hi y hy)
          simp only [List.length_cons, List.length_nil]
          omega
        · rw [List.length_map]
          omega
  · rw [if_neg hb, if_neg hb]
    rfl
theorem spec_bufText (l : List Slot) (hi : SlotsI l) (k : Nat) (hk : 40 ≤ k) : spec_BufText.f k l = some (mk (bufTextW l)) := by
  unfold spec_BufText.f bufTextW
  rw [spec_bufOk l k (by omega), Option.bind_some]
  by_cases hb : bufB l = true
  · rw [if_pos hb, if_pos hb]
    have h3 := bufB_len hb
    by_cases h0 : l.length = 0
    · rw [if_pos (by omega), if_pos h0]
      rfl
    · rw [if_neg (by omega), if_neg h0]
      refine line_loop l slotW [32] 44 20 (fun x hx => ?_) (by omega) (fun k b i => spec_BufText.l0 k l b i) (fun k s h hk hs => ?_) (fun k s j h hk h0 hs => ?_) (fun k s hk => ?_) k (by omega)
      · have := slotW_len (hi x hx)
        simp only [List.length_cons, List.length_nil]
        omega
      · subst hs
        obtain ⟨ha, hv⟩ := hi _ (List.getElem_mem h)
        have h1 := itoa_len _ ha.1 ha.2
        have h2 := itoa_len _ hv.1 hv.2
        have hrd : rd_T119 l 0 = l[0] := rdSlot l 0 h
        simp only [spec_BufText.l0]
        rw [if_pos (by omega), if_neg (by omega), if_pos (by omega), hrd, l01Num _ ha.1 ha.2 k hk, Option.bind_some, if_pos (by rw [mk_size, mk_size, List.length_nil]; omega), mk_append, if_pos (by rw [mk_size, List.length_append, List.length_nil]; omega), l01Num _ hv.1 hv.2 k hk, Option.bind_some, eq_mk, mk_append,
          if_pos (by rw [mk_size, mk_size]; simp only [List.length_append, List.length_cons, List.length_nil]; omega), mk_append, show wrap64 (0 + 1) = 1 by unfold wrap64; omega]
        simp [slotW]
      · obtain ⟨ha, hv⟩ := hi _ (List.getElem_mem h)
        have h1 := itoa_len _ ha.1 ha.2
        have h2 := itoa_len _ hv.1 hv.2
        simp only [spec_BufText.l0]
        rw [if_pos (by omega), if_pos (by omega), if_pos (by rw [mk_size]; omega), if_pos (by omega), rdSlot _ _ h, l01Num _ ha.1 ha.2 k hk, Option.bind_some, blank_mk, mk_append, if_pos (by rw [mk_size, mk_size, List.length_append, List.length_cons, List.length_nil]; omega), mk_append,
          if_pos (by rw [mk_size]; simp only [List.length_append, List.length_cons, List.length_nil]; omega), l01Num _ hv.1 hv.2 k hk, Option.bind_some, eq_mk, mk_append, if_pos (by rw [mk_size, mk_size]; simp only [List.length_append, List.length_cons, List.length_nil]; omega), mk_append, wrap_succ h (by omega)]
        simp [slotW, List.append_assoc]
      · simp only [spec_BufText.l0]
        rw [if_neg (by omega)]
  · rw [if_neg hb, if_neg hb]
    rfl

end Go.Proofs.YtchpopocnaoabaaDoor.Pure
