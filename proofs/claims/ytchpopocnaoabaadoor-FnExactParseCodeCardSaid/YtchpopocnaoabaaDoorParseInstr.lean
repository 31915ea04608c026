/- Parsing an instruction's text: the program's and the reference's ParseInstr give an instruction exactly where the text is the text of one that uses what it holds. No condition but on the length. -/
import Derived.Test.YtchpopocnaoabaaDoorRead
import Derived.Test.YtchpopocnaoabaaDoorVals
import Derived.Test.YtchpopocnaoabaaDoorInstrText
import Derived.Test.YtchpopocnaoabaaDoorPimplParseInstr
import Derived.Test.YtchpopocnaoabaaDoorPspecParseInstr
import Derived.Test.YtchpopocnaoabaaDoorPstringsSplit
import Derived.Lib.CountLaws
namespace Go.Proofs.YtchpopocnaoabaaDoor.Pure
open Go.RowKit Go.Proofs.YtchpopocnaoabaaDoor.P Go.Proofs.YtchpopocnaoabaaDoor.Gen Go.Proofs.YtchpopocnaoabaaDoorW.PrintWords Go.Proofs.YtchpopocnaoabaaDoor.Split

theorem parts_no (c : UInt8) : ∀ l, ∀ w ∈ parts c l, c ∉ w
 | [] => by simp [parts]
 | b :: l => by
  have ih := parts_no c l
  obtain ⟨p, r, h⟩ := parts_cons c l
  unfold parts
  rw [h] at ih ⊢
  split
  ·intro w hw
   rcases List.mem_cons.1 hw with rfl | hw
   ·simp
   ·exact ih w hw
  ·next hb =>
   intro w hw
   rcases List.mem_cons.1 hw with rfl | hw
   ·have := ih p List.mem_cons_self
    simp only [List.mem_cons, not_or]
    exact ⟨fun e => hb e.symm, this⟩
   ·exact ih w (List.mem_cons_of_mem _ hw)
theorem count_words (c : UInt8) : ∀ (ws : List (List UInt8)) (w : List UInt8), (∀ x ∈ w :: ws, c ∉ x) → Go.Lib.count (Go.Lib.join (w :: ws) [c]) [c] = ws.length
 | [], w, h => by
  rw [Go.Lib.join_one]
  exact Go.Lib.count_miss (index_noword c [] w (h w List.mem_cons_self))
 | x :: ws, w, h => by
  have e : Go.Lib.join (w :: x :: ws) [c] = w ++ [c] ++ Go.Lib.join (x :: ws) [c] := by rw [Go.Lib.join_cons, joinTail_join, List.append_assoc]
  have hi := index_word c [] w (Go.Lib.join (x :: ws) [c]) (h w List.mem_cons_self)
  rw [e, Go.Lib.count_hit (by simp) hi, ← List.length_append, List.drop_left, count_words c ws x (fun y hy => h y (List.mem_cons_of_mem _ hy)), List.length_cons]
  omega
theorem splitF (t : List UInt8) (ht : t.length ≤ 1048576) : strings_Split.f (mk t) (mk [32]) = some ((parts 32 t).map mk) := by
 unfold strings_Split.f
 rw [if_pos (by rw [mk_size]; omega), if_pos (by rw [mk_size]; simp)]
 refine congrArg some ?_
 have h := Go.Lib.splitB_data (mk [32]) 0 (Go.Lib.countB (mk t) (mk [32])) (mk t)
 rw [mk_list, mk_list] at h
 have hk : Go.Lib.countB (mk t) (mk [32]) = Go.Lib.count t [32] := by
  unfold Go.Lib.countB
  rw [mk_list, mk_list]
 obtain ⟨p, r, hp⟩ := parts_cons 32 t
 have hno := parts_no 32 t
 have hj := join_parts 32 t
 rw [hp] at hno hj
 have hs : Go.Lib.splitK [32] 0 (Go.Lib.count t [32]) t = parts 32 t := by
  rw [hp]
  conv => lhs; rw [← hj]
  exact splitK_words 32 [] r p _ hno (by rw [count_words 32 r p hno]; exact Nat.le_refl _)
 rw [hk, hs] at h
 rw [← h, List.map_map, hk]
 have : (mk ∘ fun s : ByteArray => s.data.toList) = id := by funext s; exact list_mk s
 rw [this, List.map_id]

def usesSB (op : Int) : Bool := op == 1 || op == 8 || op == 5 || op == 7
def usesNB (op : Int) : Bool := !(op == 1 || op == 8 || op == 4)
theorem uR (a b c d : Int) : impl_Instr_usesR.f a b c d = some (a != 4) := rfl
theorem uS (a b c d : Int) : impl_Instr_usesS.f a b c d = some (usesSB a) := by
 unfold impl_Instr_usesS.f usesSB
 repeat' split
 all_goals simp_all
theorem uN (a b c d : Int) : impl_Instr_usesN.f a b c d = some (usesNB a) := by
 unfold impl_Instr_usesN.f usesNB
 repeat' split
 all_goals simp_all [bne]
/-- An instruction that has a text: what it does not use is nought. -/
def goodI (op r s n : Int) : Bool := inB op 0 8 && valB r && valB s && valB n && (op != 4 || r == 0) && (usesSB op || s == 0) && (usesNB op || n == 0)
abbrev Ans := Int × Int × Int × Int × Bool
def zeroA : Ans := (0, 0, 0, 0, false)

/-! ### the reference -/
def wordsI : List (List UInt8) := [[115, 101, 116], [97, 100, 100], [108, 111, 97, 100], [115, 116, 111, 114, 101], [102, 101, 110, 99, 101], [99, 97, 115], [106, 122], [115, 119, 97, 112], [115, 117, 98]]
def formsI : List (List UInt8) := [[114, 110], [114, 115], [114, 110], [114, 110], [], [114, 115, 110], [114, 110], [114, 115, 110], [114, 115]]
def wordW (j : Nat) : List UInt8 := wordsI.getD j []
def formW (j : Nat) : List UInt8 := formsI.getD j []
theorem nine {j : Nat} (h : j ≤ 8) : j = 0 ∨ j = 1 ∨ j = 2 ∨ j = 3 ∨ j = 4 ∨ j = 5 ∨ j = 6 ∨ j = 7 ∨ j = 8 := by omega
theorem l02WordF (j : Nat) (h : j ≤ 8) : spec_l02Word.f (j : Int) = some (mk (wordW j)) := by
 rcases nine h with rfl | rfl | rfl | rfl | rfl | rfl | rfl | rfl | rfl <;> rfl
theorem l02FormF (j : Nat) (h : j ≤ 8) : spec_l02Form.f (j : Int) = some (mk (formW j)) := by
 unfold spec_l02Form.f
 rw [Option.bind_some, l01In, Option.bind_some, if_pos (inB_true.2 (by omega)), if_pos (by omega)]
 rcases nine h with rfl | rfl | rfl | rfl | rfl | rfl | rfl | rfl | rfl <;> rfl
theorem formW_len (j : Nat) : (formW j).length ≤ 3 := by
 by_cases h : j ≤ 8
 ·rcases nine h with rfl | rfl | rfl | rfl | rfl | rfl | rfl | rfl | rfl <;> decide
 unfold formW
 rw [List.getD_eq_getElem?_getD, List.getElem?_eq_none (by show 9 ≤ j; omega)]
 simp
def okW (w : List UInt8) : Bool := (readR w).2 && valB (readR w).1
def fillW : List UInt8 → List (List UInt8) → Int → Int → Int → Option (Int × Int × Int)
 | [], _, r, s, n => some (r, s, n)
 | _ :: _, [], _, _, _ => none
 | c :: f, w :: ws, r, s, n => if okW w = true then fillW f ws (if c = 114 then (readR w).1 else r) (if c = 114 then s else if c = 115 then (readR w).1 else s) (if c = 114 then n else if c = 115 then n else if c = 110 then (readR w).1 else n) else none
def fillA (op : Int) : Option (Int × Int × Int) → Ans
 | none => zeroA
 | some (r, s, n) => (op, r, s, n, true)
theorem fill_loop (ws : List (List UInt8)) (hw : ∀ w ∈ ws, w.length ≤ 1048576) (f : List UInt8) (hf : ws.length = 1 + f.length) (hf3 : f.length ≤ 3) (op : Int) : ∀ d (i k : Nat) (r s n : Int), i ≤ f.length → f.length - i = d → 60 + 2 * d < k →
  spec_ParseInstr.l1 k (ws.map mk) (mk f) (i : Int) 0 0 0 0 op r s n = some (fillA op (fillW (f.drop i) (ws.drop (i + 1)) r s n)) := by
 intro d
 induction d with
 | zero =>
  intro i k r s n hi hd hk
  obtain ⟨k, rfl⟩ : ∃ m, k = m + 1 := ⟨k - 1, by omega⟩
  simp only [spec_ParseInstr.l1]
  rw [if_neg (by rw [mk_size]; omega), List.drop_of_length_le (show f.length ≤ i by omega)]
  rfl
 | succ d ih =>
  intro i k r s n hi hd hk
  obtain ⟨k, rfl⟩ : ∃ m, k = m + 1 + 1 := ⟨k - 2, by omega⟩
  have hlt : i < f.length := by omega
  have hlw : i + 1 < ws.length := by omega
  have hw1 : wrap64 (1 + (i : Int)) = ((i + 1 : Nat) : Int) := by rw [Int.add_comm]; exact wrap_succ hlt (by omega)
  simp only [spec_ParseInstr.l1]
  rw [if_pos (by rw [mk_size]; omega), hw1, if_pos (by omega), if_pos (by rw [List.length_map]; omega), rdB ws (i + 1) hlw, l01Read _ (hw _ (List.getElem_mem hlw)) (k + 1) (by omega), Option.bind_some,
   List.drop_eq_getElem_cons hlt, List.drop_eq_getElem_cons hlw]
  have hbt := bt_mk f i hlt
  have key : ∀ bad : Bool, (bad = !okW ws[i + 1]) → spec_ParseInstr.j3 (k + 1) (ws.map mk) (mk f) (i : Int) (readR ws[i + 1]).1 bad 0 0 0 0 op r s n = some (fillA op (fillW (f[i] :: f.drop (i + 1)) (ws[i + 1] :: ws.drop (i + 1 + 1)) r s n)) := by
   intro bad hb
   simp only [spec_ParseInstr.j3, fillW]
   cases hok : okW ws[i + 1] with
   | false =>
    rw [hok] at hb
    rw [hb, if_pos (by decide), if_neg (by decide)]
    rfl
   | true =>
    rw [hok] at hb
    rw [hb, if_neg (by decide), if_pos rfl, if_pos (by omega), if_pos (by rw [mk_size]; omega), hbt, wrap_succ hlt (by omega)]
    have hc1 : ((f[i].toNat : Int) = 114) ↔ f[i] = 114 := byte_is f[i] 114 (by omega)
    have hc2 : ((f[i].toNat : Int) = 115) ↔ f[i] = 115 := byte_is f[i] 115 (by omega)
    have hc3 : ((f[i].toNat : Int) = 110) ↔ f[i] = 110 := byte_is f[i] 110 (by omega)
    simp only [hc1, hc2, hc3]
    by_cases c1 : f[i] = 114
    ·simp only [if_pos c1]
     exact ih (i + 1) k _ _ _ (by omega) (by omega) (by omega)
    simp only [if_neg c1]
    by_cases c2 : f[i] = 115
    ·simp only [if_pos c2]
     exact ih (i + 1) k _ _ _ (by omega) (by omega) (by omega)
    simp only [if_neg c2]
    by_cases c3 : f[i] = 110
    rotate_left
    ·simp only [if_neg c3]
     exact ih (i + 1) k _ _ _ (by omega) (by omega) (by omega)
    simp only [if_pos c3]
    exact ih (i + 1) k _ _ _ (by omega) (by omega) (by omega)
  cases hr : (readR ws[i + 1]).2 with
  | false =>
   rw [if_neg (by decide)]
   exact key true (by unfold okW; rw [hr]; rfl)
  | true =>
   rw [if_pos rfl, l01Value, Option.bind_some]
   exact key _ (by unfold okW; rw [hr]; rfl)
def findI : List Nat → List UInt8 → List (List UInt8) → Ans
 | [], _, _ => zeroA
 | j :: js, w0, rest => if w0 = wordW j ∧ rest.length = (formW j).length then fillA (j : Int) (fillW (formW j) rest 0 0 0) else findI js w0 rest
theorem find_loop (w0 : List UInt8) (rest : List (List UInt8)) (hw : ∀ w ∈ w0 :: rest, w.length ≤ 1048576) (hn : rest.length ≤ 1000) : ∀ d (j k : Nat), j ≤ 9 → 9 - j = d → 100 + 2 * d < k →
  spec_ParseInstr.l0 k ((w0 :: rest).map mk) (j : Int) 0 0 0 0 = some (findI (List.range' j d) w0 rest) := by
 intro d
 induction d with
 | zero =>
  intro j k hj hd hk
  obtain ⟨k, rfl⟩ : ∃ m, k = m + 1 := ⟨k - 1, by omega⟩
  simp only [spec_ParseInstr.l0]
  rw [if_neg (by omega)]
  rfl
 | succ d ih =>
  intro j k hj hd hk
  obtain ⟨k, rfl⟩ : ∃ m, k = m + 1 + 1 := ⟨k - 2, by omega⟩
  have hlt : j < 9 := by omega
  have h3 := formW_len j
  simp only [spec_ParseInstr.l0]
  rw [if_pos (by omega), l02FormF j (by omega), Option.bind_some, if_pos (by rw [List.length_map, List.length_cons]; omega), l02WordF j (by omega), Option.bind_some, List.range'_succ]
  have h0 : rdOf ByteArray.empty ((w0 :: rest).map mk) 0 = mk w0 := rfl
  rw [h0, mk_toList, mk_toList]
  simp only [findI, spec_ParseInstr.j1]
  rw [wrap_succ hlt (by omega), mk_size, List.length_map, List.length_cons]
  have hw1 : wrap64 (1 + ((formW j).length : Int)) = 1 + ((formW j).length : Int) := wrap_id (by omega) (by omega)
  rw [hw1]
  by_cases c : w0 = wordW j
  rotate_left
  ·rw [if_neg c, if_pos trivial, if_neg (fun h => c h.1)]
   exact ih (j + 1) k (by omega) (by omega) (by omega)
  rw [if_pos c]
  by_cases c2 : rest.length = (formW j).length
  rotate_left
  ·rw [if_pos (by simp only [bne_iff_ne, ne_eq]; omega), if_neg (fun h => c2 h.2)]
   exact ih (j + 1) k (by omega) (by omega) (by omega)
  rw [if_neg (by simp only [bne_iff_ne, ne_eq, Decidable.not_not]; omega), if_pos ⟨c, c2⟩]
  have := fill_loop (w0 :: rest) hw (formW j) (by rw [List.length_cons]; omega) h3 (j : Int) (formW j).length 0 k 0 0 0 (by omega) (by omega) (by omega)
  simpa using this
theorem spec_parseInstr_all (t : List UInt8) (ht : t.length ≤ 60) (w0 : List UInt8) (rest : List (List UInt8)) (hp : parts 32 t = w0 :: rest) (k : Nat) (hk : 300 ≤ k) :
  spec_ParseInstr.f k (mk t) = some (findI [0, 1, 2, 3, 4, 5, 6, 7, 8] w0 rest) := by
 unfold spec_ParseInstr.f
 rw [if_neg (by rw [mk_size]; omega)]
 have h1 : spec_l01Parts.f k (mk t) 32 = _ := l01Parts t 32 (by omega) k (by omega)
 have hj := join_parts 32 t
 have hlen := parts_len 32 t
 rw [hp] at hj hlen
 rw [h1, Option.bind_some, hp]
 exact find_loop w0 rest (fun w hw => by have := join_ge [32] _ w hw; rw [hj] at this; omega) (by simp only [List.length_cons] at hlen; omega) 9 0 k (by omega) (by omega) (by omega)

theorem okW_sound {w : List UInt8} (h : okW w = true) : w = Go.Lib.itoa (readR w).1 ∧ valB (readR w).1 = true := by
 unfold okW at h
 rw [Bool.and_eq_true] at h
 exact ⟨(readR_true h.1).1, h.2⟩
theorem okW_itoa {x : Int} (h : valB x = true) : okW (Go.Lib.itoa x) = true ∧ (readR (Go.Lib.itoa x)).1 = x := by
 have hx := valB_range h
 have := readR_itoa x (by omega)
 unfold okW
 rw [this]
 exact ⟨by simp [h], rfl⟩
theorem val0 : valB 0 = true := by decide
theorem two_of {rest : List (List UInt8)} (h : rest.length = 2) : ∃ a b, rest = [a, b] := by
 match rest, h with
 | [a, b], _ => exact ⟨a, b, rfl⟩
theorem three_of {rest : List (List UInt8)} (h : rest.length = 3) : ∃ a b c, rest = [a, b, c] := by
 match rest, h with
 | [a, b, c], _ => exact ⟨a, b, c, rfl⟩
def Sound (j : Nat) (rest : List (List UInt8)) : Prop := fillA (j : Int) (fillW (formW j) rest 0 0 0) = zeroA ∨
  ∃ r s n, fillA (j : Int) (fillW (formW j) rest 0 0 0) = ((j : Int), r, s, n, true) ∧ goodI j r s n = true ∧ instrW j r s n = Go.Lib.join (wordW j :: rest) [32]
theorem sound_rn (j : Nat) (hf : formW j = [114, 110]) (hg : ∀ r n, valB r = true → valB n = true → goodI j r 0 n = true) (ht : ∀ r n, instrW j r 0 n = Go.Lib.join [wordW j, Go.Lib.itoa r, Go.Lib.itoa n] [32]) (rest : List (List UInt8)) (hl : rest.length = (formW j).length) : Sound j rest := by
 rw [hf] at hl
 obtain ⟨a, b, rfl⟩ := two_of hl
 unfold Sound
 rw [hf]
 by_cases h1 : okW a = true
 rotate_left
 ·exact Or.inl (by simp [fillW, fillA, h1])
 by_cases h2 : okW b = true
 rotate_left
 ·exact Or.inl (by simp [fillW, fillA, h1, h2])
 obtain ⟨a1, a2⟩ := okW_sound h1
 obtain ⟨b1, b2⟩ := okW_sound h2
 refine Or.inr ⟨(readR a).1, 0, (readR b).1, by simp [fillW, fillA, h1, h2], hg _ _ a2 b2, ?_⟩
 rw [ht, ← a1, ← b1]
theorem sound_rs (j : Nat) (hf : formW j = [114, 115]) (hg : ∀ r s, valB r = true → valB s = true → goodI j r s 0 = true) (ht : ∀ r s, instrW j r s 0 = Go.Lib.join [wordW j, Go.Lib.itoa r, Go.Lib.itoa s] [32]) (rest : List (List UInt8)) (hl : rest.length = (formW j).length) : Sound j rest := by
 rw [hf] at hl
 obtain ⟨a, b, rfl⟩ := two_of hl
 unfold Sound
 rw [hf]
 by_cases h1 : okW a = true
 rotate_left
 ·exact Or.inl (by simp [fillW, fillA, h1])
 by_cases h2 : okW b = true
 rotate_left
 ·exact Or.inl (by simp [fillW, fillA, h1, h2])
 obtain ⟨a1, a2⟩ := okW_sound h1
 obtain ⟨b1, b2⟩ := okW_sound h2
 refine Or.inr ⟨(readR a).1, (readR b).1, 0, by simp [fillW, fillA, h1, h2], hg _ _ a2 b2, ?_⟩
 rw [ht, ← a1, ← b1]
theorem sound_rsn (j : Nat) (hf : formW j = [114, 115, 110]) (hg : ∀ r s n, valB r = true → valB s = true → valB n = true → goodI j r s n = true) (ht : ∀ r s n, instrW j r s n = Go.Lib.join [wordW j, Go.Lib.itoa r, Go.Lib.itoa s, Go.Lib.itoa n] [32]) (rest : List (List UInt8)) (hl : rest.length = (formW j).length) : Sound j rest := by
 rw [hf] at hl
 obtain ⟨a, b, c, rfl⟩ := three_of hl
 unfold Sound
 rw [hf]
 by_cases h1 : okW a = true
 rotate_left
 ·exact Or.inl (by simp [fillW, fillA, h1])
 by_cases h2 : okW b = true
 rotate_left
 ·exact Or.inl (by simp [fillW, fillA, h1, h2])
 by_cases h3 : okW c = true
 rotate_left
 ·exact Or.inl (by simp [fillW, fillA, h1, h2, h3])
 obtain ⟨a1, a2⟩ := okW_sound h1
 obtain ⟨b1, b2⟩ := okW_sound h2
 obtain ⟨c1, c2⟩ := okW_sound h3
 refine Or.inr ⟨(readR a).1, (readR b).1, (readR c).1, by simp [fillW, fillA, h1, h2, h3], hg _ _ _ a2 b2 c2, ?_⟩
 rw [ht, ← a1, ← b1, ← c1]
/-- What the reference reads is an instruction that has this text, or nothing. -/
theorem fill_sound (j : Nat) (hj : j ≤ 8) (rest : List (List UInt8)) (hl : rest.length = (formW j).length) : Sound j rest := by
 rcases nine hj with rfl | rfl | rfl | rfl | rfl | rfl | rfl | rfl | rfl
 ·exact sound_rn 0 rfl (fun r n h1 h2 => by simp [goodI, inB, h1, h2, val0, usesSB, usesNB]) (fun r n => by simp [instrW, inB, instrWs, wordW, wordsI]) rest hl
 ·exact sound_rs 1 rfl (fun r n h1 h2 => by simp [goodI, inB, h1, h2, val0, usesSB, usesNB]) (fun r n => by simp [instrW, inB, instrWs, wordW, wordsI]) rest hl
 ·exact sound_rn 2 rfl (fun r n h1 h2 => by simp [goodI, inB, h1, h2, val0, usesSB, usesNB]) (fun r n => by simp [instrW, inB, instrWs, wordW, wordsI]) rest hl
 ·exact sound_rn 3 rfl (fun r n h1 h2 => by simp [goodI, inB, h1, h2, val0, usesSB, usesNB]) (fun r n => by simp [instrW, inB, instrWs, wordW, wordsI]) rest hl
 ·have : rest = [] := List.length_eq_zero_iff.1 hl
  rw [this]
  exact Or.inr ⟨0, 0, 0, rfl, by decide, rfl⟩
 ·exact sound_rsn 5 rfl (fun r s n h1 h2 h3 => by simp [goodI, inB, h1, h2, h3, usesSB, usesNB]) (fun r s n => by simp [instrW, inB, instrWs, wordW, wordsI]) rest hl
 ·exact sound_rn 6 rfl (fun r n h1 h2 => by simp [goodI, inB, h1, h2, val0, usesSB, usesNB]) (fun r n => by simp [instrW, inB, instrWs, wordW, wordsI]) rest hl
 ·exact sound_rsn 7 rfl (fun r s n h1 h2 h3 => by simp [goodI, inB, h1, h2, h3, usesSB, usesNB]) (fun r s n => by simp [instrW, inB, instrWs, wordW, wordsI]) rest hl
 ·exact sound_rs 8 rfl (fun r n h1 h2 => by simp [goodI, inB, h1, h2, val0, usesSB, usesNB]) (fun r n => by simp [instrW, inB, instrWs, wordW, wordsI]) rest hl
theorem find_sound (w0 : List UInt8) (rest : List (List UInt8)) : ∀ js : List Nat, (∀ j ∈ js, j ≤ 8) → findI js w0 rest = zeroA ∨
  ∃ op r s n, findI js w0 rest = (op, r, s, n, true) ∧ goodI op r s n = true ∧ instrW op r s n = Go.Lib.join (w0 :: rest) [32]
 | [], _ => Or.inl rfl
 | j :: js, h => by
  unfold findI
  split
  ·next c =>
   rcases fill_sound j (h j List.mem_cons_self) rest c.2 with e | ⟨r, s, n, e1, e2, e3⟩
   ·exact Or.inl e
   ·exact Or.inr ⟨j, r, s, n, e1, e2, by rw [e3, c.1]⟩
  ·exact find_sound w0 rest js fun i hi => h i (List.mem_cons_of_mem _ hi)

/-! ### the program -/
def okA (w : List UInt8) : Bool := !(atoiR w).2 && valB (atoiR w).1
def fin2 (t : List UInt8) (op r s : Int) (ns : List Int) : Ans :=
 if t = [] then zeroA else if instrW op r s (if usesNB op = true then rd ns 0 else 0) = t then (op, r, s, (if usesNB op = true then rd ns 0 else 0), true) else zeroA
def fin1 (t : List UInt8) (op r : Int) (ns : List Int) : Ans := if usesSB op = true then fin2 t op r (rd ns 0) (ns.drop 1) else fin2 t op r 0 ns
def finI (t : List UInt8) (op : Int) (ns : List Int) : Ans := if (op != 4) = true then fin1 t op (rd ns 0) (ns.drop 1) else fin1 t op 0 ns
theorem val64 {x : Int} (h : valB x = true) : I64 x := by
 have := valB_range h
 unfold I64
 omega
theorem rd_val {ns : List Int} (h : ∀ x ∈ ns, valB x = true) (hl : 0 < ns.length) : valB (rd ns 0) = true := by
 have := rd_nat ns 0 hl
 rw [show ((0 : Nat) : Int) = 0 from rfl] at this
 rw [this]
 exact h _ (List.getElem_mem hl)
theorem j2_eq (t : List UInt8) (op r s : Int) (ns : List Int) (hr : valB r = true) (hs : valB s = true) (hn : ∀ x ∈ ns, valB x = true) (hl : 0 < ns.length) (k : Nat) (hk : 10 ≤ k) : impl_ParseInstr.j2 k (mk t) ns op r s 0 = some (fin2 t op r s ns) := by
 obtain ⟨k, rfl⟩ : ∃ m, k = m + 1 := ⟨k - 1, by omega⟩
 have h1 := rd_val hn hl
 simp only [impl_ParseInstr.j2]
 unfold fin2
 rw [uN, Option.bind_some, mk_toList, impl_instrText op r s (rd ns 0) (val64 hr) (val64 hs) (val64 h1) k (by omega), impl_instrText op r s 0 (val64 hr) (val64 hs) (val64 val0) k (by omega), Option.bind_some, Option.bind_some, mk_toList, mk_toList]
 cases hN : usesNB op with
 | true =>
  rw [if_pos rfl, if_pos (by omega)]
  simp only [if_true]
  split
  ·rfl
  ·split <;> rfl
 | false =>
  rw [if_neg (by decide)]
  simp only [Bool.false_eq_true, if_false]
  split
  ·rfl
  ·split <;> rfl
theorem j1_eq (t : List UInt8) (op r : Int) (ns : List Int) (hr : valB r = true) (hn : ∀ x ∈ ns, valB x = true) (hl : 1 < ns.length) (k : Nat) (hk : 12 ≤ k) : impl_ParseInstr.j1 k (mk t) ns op r 0 0 = some (fin1 t op r ns) := by
 obtain ⟨k, rfl⟩ : ∃ m, k = m + 1 := ⟨k - 1, by omega⟩
 simp only [impl_ParseInstr.j1]
 unfold fin1
 rw [uS, Option.bind_some]
 cases hS : usesSB op with
 | true =>
  rw [if_pos rfl, if_pos (by omega), if_pos (by omega), if_pos rfl]
  exact j2_eq t op r _ _ hr (rd_val hn (by omega)) (fun x hx => hn x (List.mem_of_mem_drop hx)) (by rw [List.length_drop]; show 0 < ns.length - 1; omega) k (by omega)
 | false =>
  rw [if_neg (by decide), if_neg (by decide)]
  exact j2_eq t op r 0 ns hr val0 hn (by omega) k (by omega)
def idxI (w0 : List UInt8) : Int := Go.Lib.idxOfS (wordsI.map mk) (mk w0)
theorem impl_loop (t w0 : List UInt8) (rest : List (List UInt8)) (hw : ∀ w ∈ rest, w.length ≤ 1048576) (hn : rest.length ≤ 1000) : ∀ d (j k : Nat) (acc : List Int), j ≤ rest.length → rest.length - j = d → 30 + d < k → acc.length = j → (∀ x ∈ acc, valB x = true) →
  impl_ParseInstr.l0 k (mk t) ((w0 :: rest).map mk) acc (rest.map mk) (rest.length : Int) (j : Int) =
   some (if (rest.drop j).all okA = true then finI t (idxI w0) (acc ++ (rest.drop j).map (fun w => (atoiR w).1) ++ [0, 0, 0]) else zeroA) := by
 intro d
 induction d with
 | zero =>
  intro j k acc hj hd hk ha hv
  obtain ⟨k, rfl⟩ : ∃ m, k = m + 1 := ⟨k - 1, by omega⟩
  simp only [impl_ParseInstr.l0]
  have hm : impl_mnemonics.f = some (wordsI.map mk) := rfl
  have h0 : rdOf ByteArray.empty ((w0 :: rest).map mk) 0 = mk w0 := rfl
  have hi : slices_Index_string_string.f (wordsI.map mk) (mk w0) = some (idxI w0) := by
   unfold slices_Index_string_string.f
   rw [if_pos (by decide)]
   rfl
  rw [if_neg (by omega), hm, Option.bind_some, if_pos (by rw [List.length_map, List.length_cons]; omega), h0, hi, Option.bind_some, Option.bind_some, if_pos (by simp; omega), Option.bind_some, uR, Option.bind_some, List.drop_of_length_le (show rest.length ≤ j by omega)]
  simp only [List.all_nil, if_true, List.map_nil, List.append_nil]
  have hv3 : ∀ x ∈ acc ++ [0, 0, 0], valB x = true := by
   intro x hx
   rcases List.mem_append.1 hx with h | h
   ·exact hv x h
   ·simp only [List.mem_cons, List.mem_nil_iff, or_false, or_self] at h
    rw [h]
    exact val0
  have hl3 : 3 ≤ (acc ++ [0, 0, 0]).length := by simp
  unfold finI
  cases hR : (idxI w0 != 4) with
  | true =>
   rw [if_pos rfl, if_pos (by omega), if_pos (by omega), if_pos rfl]
   exact j1_eq t _ _ _ (rd_val hv3 (by omega)) (fun x hx => hv3 x (List.mem_of_mem_drop hx)) (by rw [List.length_drop]; show 1 < (acc ++ [0, 0, 0]).length - 1; omega) k (by omega)
  | false =>
   rw [if_neg (by decide), if_neg (by decide)]
   exact j1_eq t _ 0 _ val0 hv3 (by omega) k (by omega)
 | succ d ih =>
  intro j k acc hj hd hk ha hv
  obtain ⟨k, rfl⟩ : ∃ m, k = m + 1 := ⟨k - 1, by omega⟩
  have hlt : j < rest.length := by omega
  simp only [impl_ParseInstr.l0]
  rw [if_pos (by omega), if_pos (by omega), if_pos (by rw [List.length_map]; omega), rdB rest j hlt, atoiF _ (hw _ (List.getElem_mem hlt)), Option.bind_some, List.drop_eq_getElem_cons hlt, List.all_cons]
  cases hb : (atoiR rest[j]).2 with
  | true =>
   have : okA rest[j] = false := by unfold okA; rw [hb]; rfl
   rw [if_pos rfl, this]
   rfl
  | false =>
   have hin : impl_within.f (atoiR rest[j]).1 (-1000000) 1000000 = some (valB (atoiR rest[j]).1) := within _ _ _
   have hok : okA rest[j] = valB (atoiR rest[j]).1 := by unfold okA; rw [hb]; rfl
   rw [if_neg (by decide), hin, Option.bind_some, hok]
   cases hx : valB (atoiR rest[j]).1 with
   | false =>
    rw [if_neg (by decide)]
    rfl
   | true =>
    rw [if_pos rfl, if_pos (by omega), wrap_succ hlt (by omega), ih (j + 1) k _ (by omega) (by omega) (by omega) (by simp; omega) (by
     intro x hx'
     rcases List.mem_append.1 hx' with h | h
     ·exact hv x h
     ·simp only [List.mem_cons, List.mem_nil_iff, or_false] at h
      rw [h]
      exact hx)]
    have e : acc ++ [(atoiR rest[j]).1] ++ (rest.drop (j + 1)).map (fun w => (atoiR w).1) ++ [0, 0, 0] = acc ++ ((atoiR rest[j]).1 :: (rest.drop (j + 1)).map (fun w => (atoiR w).1)) ++ [0, 0, 0] := by simp only [List.append_assoc, List.cons_append, List.nil_append]
    rw [e]
    rfl
theorem impl_parseInstr_all (t : List UInt8) (ht : t.length ≤ 60) (w0 : List UInt8) (rest : List (List UInt8)) (hp : parts 32 t = w0 :: rest) (k : Nat) (hk : 300 ≤ k) :
  impl_ParseInstr.f k (mk t) = some (if rest.all okA = true then finI t (idxI w0) (rest.map (fun w => (atoiR w).1) ++ [0, 0, 0]) else zeroA) := by
 unfold impl_ParseInstr.f
 have hj := join_parts 32 t
 have hlen := parts_len 32 t
 rw [hp] at hj hlen
 rw [if_neg (by rw [mk_size]; omega), sep_mk, splitF t (by omega), Option.bind_some, hp, if_pos (by rw [List.length_map, List.length_cons]; omega), Option.bind_some]
 have e : ((w0 :: rest).map mk).drop 1 = rest.map mk := rfl
 rw [e]
 have := impl_loop t w0 rest (fun w hw => by have := join_ge [32] _ w (List.mem_cons_of_mem w0 hw); rw [hj] at this; omega) (by simp only [List.length_cons] at hlen; omega) rest.length 0 k [] (by omega) (by omega) (by simp only [List.length_cons] at hlen; omega) rfl (by simp)
 rw [List.length_map]
 simpa using this
def SoundI (t : List UInt8) (op : Int) (a : Ans) : Prop := a = zeroA ∨ ∃ r s n, a = (op, r, s, n, true) ∧ goodI op r s n = true ∧ instrW op r s n = t
theorem fin2_sound (t : List UInt8) (op r s : Int) (ms : List Int) (hr : valB r = true) (hs : valB s = true) (hm : ∀ x ∈ ms, valB x = true) (hl : 0 < ms.length) (h4 : (op != 4 || r == 0) = true) (h5 : (usesSB op || s == 0) = true) : SoundI t op (fin2 t op r s ms) := by
 unfold fin2
 have hv : valB (if usesNB op = true then rd ms 0 else 0) = true := by
  split
  ·exact rd_val hm hl
  ·exact val0
 have hz : (usesNB op || (if usesNB op = true then rd ms 0 else 0) == 0) = true := by
  cases usesNB op <;> simp
 generalize (if usesNB op = true then rd ms 0 else 0) = n at hv hz ⊢
 by_cases ht : t = []
 ·rw [if_pos ht]
  exact Or.inl rfl
 rw [if_neg ht]
 by_cases e : instrW op r s n = t
 rotate_left
 ·rw [if_neg e]
  exact Or.inl rfl
 rw [if_pos e]
 refine Or.inr ⟨r, s, n, rfl, ?_, e⟩
 have h0 : inB op 0 8 = true := by
  cases h : inB op 0 8 with
  | true => rfl
  | false => exact absurd (e.symm.trans ((instrW_nil op r s n).2 h)) ht
 unfold goodI
 rw [h0, hr, hs, hv, h4, h5, hz]
 rfl
theorem fin1_sound (t : List UInt8) (op r : Int) (ms : List Int) (hr : valB r = true) (hm : ∀ x ∈ ms, valB x = true) (hl : 1 < ms.length) (h4 : (op != 4 || r == 0) = true) : SoundI t op (fin1 t op r ms) := by
 unfold fin1
 cases h : usesSB op with
 | true =>
  rw [if_pos rfl]
  exact fin2_sound t op r _ _ hr (rd_val hm (by omega)) (fun x hx => hm x (List.mem_of_mem_drop hx)) (by rw [List.length_drop]; omega) h4 (by rw [h]; rfl)
 | false =>
  rw [if_neg (by decide)]
  exact fin2_sound t op r 0 _ hr val0 hm (by omega) h4 (by simp)
theorem fin_sound (t : List UInt8) (op : Int) (ns : List Int) (hn : ∀ x ∈ ns, valB x = true) (hl : 3 ≤ ns.length) : SoundI t op (finI t op ns) := by
 unfold finI
 cases h : (op != 4) with
 | true =>
  rw [if_pos rfl]
  exact fin1_sound t op _ _ (rd_val hn (by omega)) (fun x hx => hn x (List.mem_of_mem_drop hx)) (by rw [List.length_drop]; omega) (by rw [h]; rfl)
 | false =>
  rw [if_neg (by decide)]
  exact fin1_sound t op 0 _ val0 hn (by omega) (by simp)

/-! ### both -/
theorem instrW_parts (op r s n : Int) (h : inB op 0 8 = true) : ∃ w0 rest, instrWs op r s n = w0 :: rest ∧ instrW op r s n = Go.Lib.join (w0 :: rest) [32] ∧ parts 32 (instrW op r s n) = w0 :: rest := by
 have e : instrW op r s n = Go.Lib.join (instrWs op r s n) [32] := by unfold instrW; rw [if_pos h]
 have hno : ∀ x ∈ instrWs op r s n, (32 : UInt8) ∉ x := by
  have h1 := not_in_itoa r 32 (by decide)
  have h2 := not_in_itoa s 32 (by decide)
  have h3 := not_in_itoa n 32 (by decide)
  unfold instrWs
  repeat' split
  all_goals
   simp only [List.mem_cons, List.not_mem_nil, or_false, forall_eq_or_imp, forall_eq]
   first
    | exact ⟨by decide, h1, h2, h3⟩
    | exact ⟨by decide, h1, h2⟩
    | exact ⟨by decide, h1, h3⟩
    | decide
 have hc : ∃ w0 rest, instrWs op r s n = w0 :: rest := by
  unfold instrWs
  repeat' split
  all_goals exact ⟨_, _, rfl⟩
 obtain ⟨w0, rest, hw⟩ := hc
 rw [hw] at e hno
 exact ⟨w0, rest, hw, e, by rw [e]; exact parts_words 32 rest w0 hno⟩
theorem goodI_of {op r s n : Int} (h : goodI op r s n = true) : (0 ≤ op ∧ op ≤ 8) ∧ valB r = true ∧ valB s = true ∧ valB n = true ∧ (op = 4 → r = 0) ∧ (usesSB op = false → s = 0) ∧ (usesNB op = false → n = 0) := by
 unfold goodI at h
 simp only [Bool.and_eq_true, Bool.or_eq_true, bne_iff_ne, beq_iff_eq, ne_eq] at h
 obtain ⟨⟨⟨⟨⟨⟨h1, h2⟩, h3⟩, h4⟩, h5⟩, h6⟩, h7⟩ := h
 refine ⟨inB_true.1 h1, h2, h3, h4, fun e => ?_, fun e => ?_, fun e => ?_⟩
 ·rcases h5 with h | h
  ·exact absurd e h
  ·exact h
 ·rcases h6 with h | h
  ·rw [h] at e; cases e
  ·exact h
 ·rcases h7 with h | h
  ·rw [h] at e; cases e
  ·exact h
theorem okA_itoa {x : Int} (h : valB x = true) : okA (Go.Lib.itoa x) = true ∧ (atoiR (Go.Lib.itoa x)).1 = x := by
 have hx := valB_range h
 have := atoiR_itoa x (by omega)
 unfold okA
 rw [this]
 exact ⟨by simp [h], rfl⟩
theorem idx_words : idxI [115, 101, 116] = 0 ∧ idxI [97, 100, 100] = 1 ∧ idxI [108, 111, 97, 100] = 2 ∧ idxI [115, 116, 111, 114, 101] = 3 ∧ idxI [102, 101, 110, 99, 101] = 4 ∧ idxI [99, 97, 115] = 5 ∧ idxI [106, 122] = 6 ∧ idxI [115, 119, 97, 112] = 7 ∧ idxI [115, 117, 98] = 8 := by
 refine ⟨?_, ?_, ?_, ?_, ?_, ?_, ?_, ?_, ?_⟩ <;> rfl
theorem rd0 (x : Int) (l : List Int) : rd (x :: l) 0 = x := rfl
/-- Both read the text of an instruction back. -/
theorem both_yes (op r s n : Int) (h : goodI op r s n = true) (w0 : List UInt8) (rest : List (List UInt8)) (hw : instrWs op r s n = w0 :: rest) :
  findI [0, 1, 2, 3, 4, 5, 6, 7, 8] w0 rest = (op, r, s, n, true) ∧ rest.all okA = true ∧ finI (instrW op r s n) (idxI w0) (rest.map (fun w => (atoiR w).1) ++ [0, 0, 0]) = (op, r, s, n, true) := by
 obtain ⟨h0, hr, hs, hn, g4, gs, gn⟩ := goodI_of h
 have hne : instrW op r s n ≠ [] := fun e => by
  have := (instrW_nil op r s n).1 e
  rw [inB_true.2 h0] at this
  cases this
 have r1 := okW_itoa hr
 have s1 := okW_itoa hs
 have n1 := okW_itoa hn
 have r2 := okA_itoa hr
 have s2 := okA_itoa hs
 have n2 := okA_itoa hn
 obtain h' | h' | h' | h' | h' | h' | h' | h' | h' : op = 0 ∨ op = 1 ∨ op = 2 ∨ op = 3 ∨ op = 4 ∨ op = 5 ∨ op = 6 ∨ op = 7 ∨ op = 8 := by omega
 all_goals
  subst h'
  simp only [instrWs] at hw
  simp at hw
  obtain ⟨rfl, rfl⟩ := hw
  try obtain rfl := g4 rfl
  try obtain rfl := gs rfl
  try obtain rfl := gn rfl
  refine ⟨?_, ?_, ?_⟩
  ·simp [findI, wordW, wordsI, formW, formsI, fillW, fillA, r1.1, r1.2, s1.1, s1.2, n1.1, n1.2]
  ·simp [r2.1, s2.1, n2.1]
  ·simp [idx_words, finI, fin1, fin2, usesSB, usesNB, rd0, r2.2, s2.2, n2.2, hne]
theorem atoiR_vals {rest : List (List UInt8)} (h : rest.all okA = true) : ∀ x ∈ rest.map (fun w => (atoiR w).1) ++ [0, 0, 0], valB x = true := by
 intro x hx
 rcases List.mem_append.1 hx with h' | h'
 ·obtain ⟨w, hw, rfl⟩ := List.mem_map.1 h'
  have := List.all_eq_true.1 h w hw
  unfold okA at this
  rw [Bool.and_eq_true] at this
  exact this.2
 ·simp only [List.mem_cons, List.mem_nil_iff, or_false, or_self] at h'
  rw [h']
  exact val0
def isInstr (t : List UInt8) : Prop := ∃ op r s n, goodI op r s n = true ∧ t = instrW op r s n
theorem parseInstr_yes (op r s n : Int) (h : goodI op r s n = true) (ht : (instrW op r s n).length ≤ 60) (k : Nat) (hk : 300 ≤ k) :
  spec_ParseInstr.f k (mk (instrW op r s n)) = some (op, r, s, n, true) ∧ impl_ParseInstr.f k (mk (instrW op r s n)) = some (op, r, s, n, true) := by
 obtain ⟨w0, rest, hw, _, hp⟩ := instrW_parts op r s n (inB_true.2 (goodI_of h).1)
 obtain ⟨h1, h2, h3⟩ := both_yes op r s n h w0 rest hw
 rw [spec_parseInstr_all _ ht w0 rest hp k hk, impl_parseInstr_all _ ht w0 rest hp k hk, h1, if_pos h2, h3]
 exact ⟨rfl, rfl⟩
theorem parseInstr_no (t : List UInt8) (hn : ¬ isInstr t) (k : Nat) (hk : 300 ≤ k) : spec_ParseInstr.f k (mk t) = some zeroA ∧ impl_ParseInstr.f k (mk t) = some zeroA := by
 by_cases ht : t.length ≤ 60
 rotate_left
 ·unfold spec_ParseInstr.f impl_ParseInstr.f
  rw [if_pos (by rw [mk_size]; omega), if_pos (by rw [mk_size]; omega)]
  exact ⟨rfl, rfl⟩
 obtain ⟨w0, rest, hp⟩ := parts_cons 32 t
 have hj := join_parts 32 t
 rw [hp] at hj
 rw [spec_parseInstr_all t ht w0 rest hp k hk, impl_parseInstr_all t ht w0 rest hp k hk]
 constructor
 ·rcases find_sound w0 rest [0, 1, 2, 3, 4, 5, 6, 7, 8] (by decide) with e | ⟨op, r, s, n, _, e2, e3⟩
  ·rw [e]
  ·exact absurd ⟨op, r, s, n, e2, by rw [e3, hj]⟩ hn
 ·by_cases ha : rest.all okA = true
  ·rw [if_pos ha]
   rcases fin_sound t (idxI w0) _ (atoiR_vals ha) (by simp) with e | ⟨r, s, n, _, e2, e3⟩
   ·rw [e]
   ·exact absurd ⟨_, r, s, n, e2, e3.symm⟩ hn
  ·rw [if_neg ha]
theorem parseInstr_same (t : List UInt8) : ∃ a : Ans, (∀ k, 300 ≤ k → spec_ParseInstr.f k (mk t) = some a) ∧ (∀ k, 300 ≤ k → impl_ParseInstr.f k (mk t) = some a) := by
 by_cases h : isInstr t
 rotate_left
 ·exact ⟨zeroA, fun k hk => (parseInstr_no t h k hk).1, fun k hk => (parseInstr_no t h k hk).2⟩
 obtain ⟨op, r, s, n, hg, rfl⟩ := h
 by_cases ht : (instrW op r s n).length ≤ 60
 ·exact ⟨_, fun k hk => (parseInstr_yes op r s n hg ht k hk).1, fun k hk => (parseInstr_yes op r s n hg ht k hk).2⟩
 refine ⟨zeroA, fun k _ => ?_, fun k _ => ?_⟩
 ·unfold spec_ParseInstr.f
  rw [if_pos (by rw [mk_size]; omega)]
  rfl
 ·unfold impl_ParseInstr.f
  rw [if_pos (by rw [mk_size]; omega)]
  rfl

end Go.Proofs.YtchpopocnaoabaaDoor.Pure
