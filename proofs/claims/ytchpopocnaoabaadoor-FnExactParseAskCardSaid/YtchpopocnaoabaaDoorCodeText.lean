/- A code's text: the program's and the reference's. No condition but that its numbers are ints and its length is one of an argument. -/
import Derived.Test.YtchpopocnaoabaaDoorInstrText
import Derived.Test.YtchpopocnaoabaaDoorIns
import Derived.Test.YtchpopocnaoabaaDoorPimplCodeText
import Derived.Test.YtchpopocnaoabaaDoorPlawsszInstrS
namespace Go.Proofs.YtchpopocnaoabaaDoor.Pure
open Go.RowKit Go.Proofs.YtchpopocnaoabaaDoor.P Go.Proofs.YtchpopocnaoabaaDoor.Gen Go.Proofs.YtchpopocnaoabaaDoorW.PrintWords

def insW (x : Ins) : List UInt8 := instrW x.f0 x.f1 x.f2 x.f3
def insOk (x : Ins) : Bool := inB x.f0 0 8
def codeTextW (l : List Ins) : ByteArray × Bool := if decide (l.length ≤ 16) && l.all insOk then (mk (Go.Lib.join (l.map insW) [59, 32]), true) else (mk [], false)
def InsI (x : Ins) : Prop := I64 x.f1 ∧ I64 x.f2 ∧ I64 x.f3
theorem insW_len {x : Ins} (h : InsI x) : (insW x).length ≤ 88 := instrW_len _ _ _ _ h.1 h.2.1 h.2.2
theorem semi_mk : (⟨#[59, 32]⟩ : ByteArray) = mk [59, 32] := rfl
theorem rdIns1 (l : List Ins) (j : Nat) (h : j < l.length) : rd_T37 l (j : Int) = l[j] := getD_nat _ l j h
theorem has_empty {α : Type} (l : List α) (w : α → List UInt8) (ok : α → Bool) (hw : ∀ x ∈ l, w x = [] ↔ ok x = false) (h : l.length ≤ 1048576) :
    slices_Contains_string_string.f ((l.map w).map mk) (⟨#[]⟩ : ByteArray) = some (!(l.all ok)) := by
  unfold slices_Contains_string_string.f
  rw [if_pos (by rw [List.length_map, List.length_map]; omega)]
  refine congrArg some ?_
  rw [Bool.eq_iff_iff, Go.Lib.containsS_iff, Bool.not_eq_true', ← Bool.not_eq_true, List.all_eq_true]
  constructor
  · intro hm hall
    obtain ⟨y, hy, e⟩ := List.mem_map.1 hm
    obtain ⟨x, hx, rfl⟩ := List.mem_map.1 hy
    have := (hw x hx).1 (mk_inj (e.trans mk_empty))
    rw [hall x hx] at this
    cases this
  · intro hn
    obtain ⟨x, hx, hf⟩ : ∃ x ∈ l, ok x = false := by
      apply Classical.byContradiction
      intro hc
      apply hn
      intro x hx
      cases h : ok x with
      | true => rfl
      | false => exact absurd ⟨x, hx, h⟩ hc
    exact List.mem_map.2 ⟨w x, List.mem_map.2 ⟨x, hx, rfl⟩, by rw [(hw x hx).2 hf]; rfl⟩
theorem insW_nil (x : Ins) : insW x = [] ↔ insOk x = false := instrW_nil _ _ _ _

theorem impl_codeText (l : List Ins) (hl : l.length ≤ 1048576) (hi : ∀ x ∈ l, InsI x) (k : Nat) (hk : l.length + 5 ≤ k) : impl_CodeText.f k l = some (codeTextW l) := by
  unfold impl_CodeText.f
  obtain ⟨m, rfl⟩ : ∃ m, k = (m + 1) + l.length := ⟨k - 1 - l.length, by omega⟩
  rw [words_loop l insW 3 (fun k b i => impl_CodeText.l0 k l b l (l.length : Int) i) (fun k b j h hk hb => by
    obtain ⟨h1, h2, h3⟩ := hi _ (List.getElem_mem h)
    simp only [impl_CodeText.l0]
    rw [if_pos (by omega), if_pos (by omega), if_pos (by omega), rdIns1 _ _ h, impl_instrText _ _ _ _ h1 h2 h3 k hk, Option.bind_some, if_pos (by omega), wrap_succ h (by omega)]
    rfl) (m + 1) (by omega)]
  simp only [impl_CodeText.l0]
  rw [if_neg (by omega)]
  unfold codeTextW
  by_cases h16 : l.length ≤ 16
  · rw [if_neg (by omega), has_empty l insW insOk (fun x _ => insW_nil x) hl, Option.bind_some, decide_eq_true h16, Bool.true_and]
    by_cases ha : l.all insOk = true
    · rw [ha, if_neg (by decide), if_pos rfl, semi_mk, joinF _ _ (by rw [List.length_map]; omega)]
      · rfl
      · refine Nat.le_trans (join_len [59, 32] 90 _ ?_) ?_
        · intro x hx
          obtain ⟨y, hy, rfl⟩ := List.mem_map.1 hx
          have := insW_len (hi y hy)
          simp only [List.length_cons, List.length_nil]
          omega
        · rw [List.length_map]
          omega
    · simp only [Bool.not_eq_true] at ha
      rw [ha]
      rfl
  · rw [if_pos (by omega), decide_eq_false h16]
    rfl
theorem spec_codeText (l : List Ins) (hi : ∀ x ∈ l, InsI x) (k : Nat) (hk : 80 ≤ k) : spec_CodeText.f k l = some (codeTextW l) := by
  unfold spec_CodeText.f codeTextW
  by_cases h16 : l.length ≤ 16
  · rw [if_neg (by omega), decide_eq_true h16, Bool.true_and]
    refine line_loop_ok l insW insOk [59, 32] 90 30 0 (fun x hx => ?_) (by omega) (fun k b i => spec_CodeText.l0 k l b i) (fun k s j h hk hok => ?_) (fun k h hk hok => ?_) (fun k s j h hk h0 hs hok => ?_) (fun k s hk => ?_) k (by omega)
    · have := insW_len (hi x hx)
      simp only [List.length_cons, List.length_nil]
      omega
    · obtain ⟨h1, h2, h3⟩ := hi _ (List.getElem_mem h)
      have he : instrW (l[j]).f0 (l[j]).f1 (l[j]).f2 (l[j]).f3 = [] := (insW_nil _).2 hok
      simp only [spec_CodeText.l0]
      rw [if_pos (by omega), if_pos (by omega), rdIns1 _ _ h, spec_instrText _ _ _ _ h1 h2 h3 k hk, Option.bind_some, he, if_pos (by rw [mk_toList])]
      rfl
    · obtain ⟨h1, h2, h3⟩ := hi _ (List.getElem_mem h)
      have hw := insW_len ⟨h1, h2, h3⟩
      have he : ¬ instrW (l[0]).f0 (l[0]).f1 (l[0]).f2 (l[0]).f3 = [] := fun e => by rw [(insW_nil (l[0])).1 e] at hok; cases hok
      have hrd : rd_T37 l 0 = l[0] := rdIns1 l 0 h
      have hw' : (instrW (l[0]).f0 (l[0]).f1 (l[0]).f2 (l[0]).f3).length ≤ 88 := hw
      simp only [spec_CodeText.l0]
      rw [if_pos (by omega), if_pos (by omega), hrd, spec_instrText _ _ _ _ h1 h2 h3 k hk, Option.bind_some, if_neg (by rw [mk_toList]; exact he), if_neg (by omega), if_pos (by rw [mk_size, mk_size, List.length_nil]; omega), mk_append, show wrap64 (0 + 1) = 1 by unfold wrap64; omega]
      rfl
    · obtain ⟨h1, h2, h3⟩ := hi _ (List.getElem_mem h)
      have hw := insW_len ⟨h1, h2, h3⟩
      have he : ¬ instrW (l[j]).f0 (l[j]).f1 (l[j]).f2 (l[j]).f3 = [] := fun e => by rw [(insW_nil (l[j])).1 e] at hok; cases hok
      have hw' : (instrW (l[j]).f0 (l[j]).f1 (l[j]).f2 (l[j]).f3).length ≤ 88 := hw
      simp only [spec_CodeText.l0]
      rw [if_pos (by omega), if_pos (by omega), rdIns1 _ _ h, spec_instrText _ _ _ _ h1 h2 h3 k hk, Option.bind_some, if_neg (by rw [mk_toList]; exact he), if_pos (by omega), if_pos (by rw [mk_size]; omega), semi_mk, mk_append,
        if_pos (by rw [mk_size, mk_size, List.length_append, List.length_cons, List.length_cons, List.length_nil]; omega), mk_append, wrap_succ h (by omega)]
      rfl
    · simp only [spec_CodeText.l0]
      rw [if_neg (by omega)]
  · rw [if_pos (by omega), decide_eq_false h16]
    rfl

end Go.Proofs.YtchpopocnaoabaaDoor.Pure
