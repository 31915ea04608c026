/- An instruction's text: the program's and the reference's. No condition but that its numbers are ints. -/
import Derived.Test.YtchpopocnaoabaaDoorNum
import Derived.Test.YtchpopocnaoabaaDoorScal
import Derived.Test.YtchpopocnaoabaaDoorPimplInstrText
import Derived.Test.YtchpopocnaoabaaDoorPspecInstrText
namespace Go.Proofs.YtchpopocnaoabaaDoor.Pure
open Go.RowKit Go.Proofs.YtchpopocnaoabaaDoor.P Go.Proofs.YtchpopocnaoabaaDoor.Gen Go.Proofs.YtchpopocnaoabaaDoorW.PrintWords
set_option linter.unusedSimpArgs false

/-- The words of an instruction's text. -/
def instrWs (op r s n : Int) : List (List UInt8) :=
  if op = 0 then [[115, 101, 116], Go.Lib.itoa r, Go.Lib.itoa n] else if op = 1 then [[97, 100, 100], Go.Lib.itoa r, Go.Lib.itoa s] else
  if op = 2 then [[108, 111, 97, 100], Go.Lib.itoa r, Go.Lib.itoa n] else if op = 3 then [[115, 116, 111, 114, 101], Go.Lib.itoa r, Go.Lib.itoa n] else
  if op = 4 then [[102, 101, 110, 99, 101]] else if op = 5 then [[99, 97, 115], Go.Lib.itoa r, Go.Lib.itoa s, Go.Lib.itoa n] else
  if op = 6 then [[106, 122], Go.Lib.itoa r, Go.Lib.itoa n] else if op = 7 then [[115, 119, 97, 112], Go.Lib.itoa r, Go.Lib.itoa s, Go.Lib.itoa n] else
  [[115, 117, 98], Go.Lib.itoa r, Go.Lib.itoa s]
def instrW (op r s n : Int) : List UInt8 := if inB op 0 8 = true then Go.Lib.join (instrWs op r s n) [32] else []
theorem instrWs_short (op r s n : Int) (hr : I64 r) (hs : I64 s) (hn : I64 n) : (instrWs op r s n).length ≤ 4 ∧ ∀ x ∈ instrWs op r s n, x.length + 1 ≤ 22 := by
  have h1 := itoa_len r hr.1 hr.2
  have h2 := itoa_len s hs.1 hs.2
  have h3 := itoa_len n hn.1 hn.2
  have key : ∀ ws : List (List UInt8), ws.length ≤ 4 ∧ (∀ x ∈ ws, x.length + 1 ≤ 22) → ws.length ≤ 4 ∧ ∀ x ∈ ws, x.length + 1 ≤ 22 := fun _ h => h
  unfold instrWs
  repeat' split
  all_goals
    refine ⟨by simp, ?_⟩
    intro x hx
    simp only [List.mem_cons, List.mem_nil_iff, or_false] at hx
    rcases hx with rfl | rfl | rfl | rfl
    all_goals first | omega | (simp only [List.length_cons, List.length_nil]; omega) | skip
  all_goals
    rcases hx with rfl | rfl | rfl
    all_goals first | omega | (simp only [List.length_cons, List.length_nil]; omega) | skip
theorem instrJoin (op r s n : Int) (hr : I64 r) (hs : I64 s) (hn : I64 n) : strings_Join.f ((instrWs op r s n).map mk) (⟨#[32]⟩ : ByteArray) = some (mk (Go.Lib.join (instrWs op r s n) [32])) := by
  obtain ⟨hl, hx⟩ := instrWs_short op r s n hr hs hn
  have := join_len [32] 22 _ hx
  exact joinF _ [32] (by omega) (by omega)

theorem impl_instrText_at (op r s n : Int) (hr : I64 r) (hs : I64 s) (hn : I64 n) : impl_InstrText.f 3 op r s n = some (mk (instrW op r s n)) := by
  unfold impl_InstrText.f instrW
  rw [within, Option.bind_some]
  by_cases h : inB op 0 8 = true
  · have ho := inB_true.1 h
    rw [if_pos h, if_pos h]
    have hj := instrJoin op r s n hr hs hn
    obtain h | h | h | h | h | h | h | h | h : op = 0 ∨ op = 1 ∨ op = 2 ∨ op = 3 ∨ op = 4 ∨ op = 5 ∨ op = 6 ∨ op = 7 ∨ op = 8 := by omega
    all_goals
      subst h
      rw [← hj]
      simp [instrWs, impl_mnemonics.f, impl_Instr_usesR.f, impl_Instr_usesS.f, impl_Instr_usesN.f, impl_InstrText.j0, impl_InstrText.j1, itoaF r hr.1 hr.2, itoaF s hs.1 hs.2, itoaF n hn.1 hn.2, rdOf]
      rfl
  · rw [if_neg h, if_neg h]
    rfl
theorem impl_instrText (op r s n : Int) (hr : I64 r) (hs : I64 s) (hn : I64 n) (k : Nat) (hk : 3 ≤ k) : impl_InstrText.f k op r s n = some (mk (instrW op r s n)) :=
  at_rounds (impl_InstrText.mono op r s n) hk (impl_instrText_at op r s n hr hs hn)

/-- What one letter of a form adds. -/
def letterW (r s n : Int) (c : UInt8) : List UInt8 := if c = 114 then 32 :: Go.Lib.itoa r else if c = 115 then 32 :: Go.Lib.itoa s else if c = 110 then 32 :: Go.Lib.itoa n else []
theorem bt_mk (f : List UInt8) (j : Nat) (h : j < f.length) : bt (mk f) (j : Int) = (f[j].toNat : Int) := by
  unfold bt
  rw [dif_pos (by rw [Int.toNat_natCast, mk_size]; exact h)]
  simp [mk, ByteArray.getElem_eq_getElem_data]
theorem byte_is (b : UInt8) (c : Nat) (hc : c < 256) : ((b.toNat : Int) = ((c : Nat) : Int)) ↔ b = UInt8.ofNat c := by
  have e : (UInt8.ofNat c).toNat = c := by
    rw [UInt8.toNat_ofNat']
    exact Nat.mod_eq_of_lt hc
  constructor
  · intro h
    apply UInt8.toNat_inj.1
    omega
  · intro h
    rw [h, e]
theorem letters (op r s n : Int) (hr : I64 r) (hs : I64 s) (hn : I64 n) (f : List UInt8) (hf : f.length ≤ 10) : ∀ d (j : Nat) k (o : List UInt8), j ≤ f.length → f.length - j = d → 20 + d < k → o.length + 22 * d ≤ 1000 →
    spec_InstrText.l0 k (mk o) (mk f) (j : Int) op r s n = some (mk (o ++ ((f.drop j).map (letterW r s n)).flatten)) := by
  intro d
  induction d with
  | zero =>
    intro j k o hj hd hk _
    obtain ⟨k, rfl⟩ : ∃ m, k = m + 1 := ⟨k - 1, by omega⟩
    simp only [spec_InstrText.l0]
    rw [if_neg (by rw [mk_size]; omega), List.drop_of_length_le (by omega)]
    simp
  | succ d ih =>
    intro j k o hj hd hk ho
    obtain ⟨k, rfl⟩ : ∃ m, k = m + 1 := ⟨k - 1, by omega⟩
    have hlt : j < f.length := by omega
    have h1 := itoa_len r hr.1 hr.2
    have h2 := itoa_len s hs.1 hs.2
    have h3 := itoa_len n hn.1 hn.2
    have hc1 : ((f[j].toNat : Int) = 114) ↔ f[j] = 114 := byte_is f[j] 114 (by omega)
    have hc2 : ((f[j].toNat : Int) = 115) ↔ f[j] = 115 := byte_is f[j] 115 (by omega)
    have hc3 : ((f[j].toNat : Int) = 110) ↔ f[j] = 110 := byte_is f[j] 110 (by omega)
    have step : ∀ x : Int, I64 x → (Go.Lib.itoa x).length ≤ 21 → letterW r s n f[j] = 32 :: Go.Lib.itoa x →
        (if (mk o).size + 1 ≤ 9223372036854775807 then ((spec_l01Num.f k x).bind fun t5 => (if ((mk o) ++ (⟨#[32]⟩ : ByteArray)).size + t5.size ≤ 9223372036854775807 then (spec_InstrText.l0 k (((mk o) ++ (⟨#[32]⟩ : ByteArray)) ++ t5) (mk f) (wrap64 ((j : Int) + 1)) op r s n) else (none))) else (none)) = some (mk (o ++ ((f.drop j).map (letterW r s n)).flatten)) := by
      intro x hx hl hw
      have e1 : (mk o) ++ (⟨#[32]⟩ : ByteArray) = mk (o ++ [32]) := mk_append o [32]
      rw [if_pos (by rw [mk_size]; omega), l01Num x hx.1 hx.2 k (by omega), Option.bind_some, e1, if_pos (by rw [mk_size, mk_size, List.length_append, List.length_cons, List.length_nil]; omega), mk_append, wrap_succ hlt (by omega),
        ih (j + 1) k _ (by omega) (by omega) (by omega) (by simp only [List.length_append, List.length_cons, List.length_nil]; omega), List.drop_eq_getElem_cons hlt, List.map_cons, List.flatten_cons, hw]
      simp [List.append_assoc]
    simp only [spec_InstrText.l0]
    rw [if_pos (by rw [mk_size]; omega), if_pos (by omega), bt_mk f j hlt]
    by_cases c1 : f[j] = 114
    · rw [if_pos (hc1.2 c1)]
      exact step r hr h1 (by unfold letterW; rw [if_pos c1])
    · rw [if_neg (fun h => c1 (hc1.1 h))]
      by_cases c2 : f[j] = 115
      · rw [if_pos (hc2.2 c2)]
        exact step s hs h2 (by unfold letterW; rw [if_neg c1, if_pos c2])
      · rw [if_neg (fun h => c2 (hc2.1 h))]
        by_cases c3 : f[j] = 110
        · rw [if_pos (hc3.2 c3)]
          exact step n hn h3 (by unfold letterW; rw [if_neg c1, if_neg c2, if_pos c3])
        · rw [if_neg (fun h => c3 (hc3.1 h)), wrap_succ hlt (by omega), ih (j + 1) k _ (by omega) (by omega) (by omega) (by omega), List.drop_eq_getElem_cons hlt, List.map_cons, List.flatten_cons]
          have : letterW r s n f[j] = [] := by unfold letterW; rw [if_neg c1, if_neg c2, if_neg c3]
          rw [this]
          simp

theorem spec_instrText (op r s n : Int) (hr : I64 r) (hs : I64 s) (hn : I64 n) (k : Nat) (hk : 30 ≤ k) : spec_InstrText.f k op r s n = some (mk (instrW op r s n)) := by
  unfold spec_InstrText.f instrW
  rw [l01In, Option.bind_some]
  by_cases h : inB op 0 8 = true
  · have ho := inB_true.1 h
    rw [if_pos h, if_pos h]
    have go : ∀ (w f : List UInt8), w.length ≤ 10 → f.length ≤ 3 → spec_InstrText.l0 k (mk w) (mk f) 0 op r s n = some (mk (w ++ (f.map (letterW r s n)).flatten)) := by
      intro w f hw hf
      have := letters op r s n hr hs hn f (by omega) f.length 0 k w (by omega) (by omega) (by omega) (by omega)
      simpa using this
    obtain h' | h' | h' | h' | h' | h' | h' | h' | h' : op = 0 ∨ op = 1 ∨ op = 2 ∨ op = 3 ∨ op = 4 ∨ op = 5 ∨ op = 6 ∨ op = 7 ∨ op = 8 := by omega
    · subst h'; exact (go [115, 101, 116] [114, 110] (by decide) (by decide)).trans (by simp [instrWs, letterW, Go.Lib.join_cons, Go.Lib.joinTail])
    · subst h'; exact (go [97, 100, 100] [114, 115] (by decide) (by decide)).trans (by simp [instrWs, letterW, Go.Lib.join_cons, Go.Lib.joinTail])
    · subst h'; exact (go [108, 111, 97, 100] [114, 110] (by decide) (by decide)).trans (by simp [instrWs, letterW, Go.Lib.join_cons, Go.Lib.joinTail])
    · subst h'; exact (go [115, 116, 111, 114, 101] [114, 110] (by decide) (by decide)).trans (by simp [instrWs, letterW, Go.Lib.join_cons, Go.Lib.joinTail])
    · subst h'; exact (go [102, 101, 110, 99, 101] [] (by decide) (by decide)).trans (by simp [instrWs, letterW, Go.Lib.join_cons, Go.Lib.joinTail])
    · subst h'; exact (go [99, 97, 115] [114, 115, 110] (by decide) (by decide)).trans (by simp [instrWs, letterW, Go.Lib.join_cons, Go.Lib.joinTail])
    · subst h'; exact (go [106, 122] [114, 110] (by decide) (by decide)).trans (by simp [instrWs, letterW, Go.Lib.join_cons, Go.Lib.joinTail])
    · subst h'; exact (go [115, 119, 97, 112] [114, 115, 110] (by decide) (by decide)).trans (by simp [instrWs, letterW, Go.Lib.join_cons, Go.Lib.joinTail])
    · subst h'; exact (go [115, 117, 98] [114, 115] (by decide) (by decide)).trans (by simp [instrWs, letterW, Go.Lib.join_cons, Go.Lib.joinTail])
  · rw [if_neg h, if_neg h]
    rfl
theorem instrW_len (op r s n : Int) (hr : I64 r) (hs : I64 s) (hn : I64 n) : (instrW op r s n).length ≤ 88 := by
  unfold instrW
  split
  · obtain ⟨hl, hx⟩ := instrWs_short op r s n hr hs hn
    have := join_len [32] 22 _ hx
    omega
  · simp
theorem instrW_nil (op r s n : Int) : instrW op r s n = [] ↔ inB op 0 8 = false := by
  unfold instrW
  cases h : inB op 0 8 with
  | false => simp
  | true =>
    simp only [if_true]
    have key : ∀ ws : List (List UInt8), (∃ x r, ws = x :: r ∧ x ≠ []) → Go.Lib.join ws [32] ≠ [] := by
      rintro _ ⟨x, r, rfl, hx⟩
      exact join_ne _ _ _ hx
    have hne : Go.Lib.join (instrWs op r s n) [32] ≠ [] := by
      apply key
      unfold instrWs
      repeat' split
      all_goals exact ⟨_, _, rfl, by simp⟩
    simp [hne]

end Go.Proofs.YtchpopocnaoabaaDoor.Pure
