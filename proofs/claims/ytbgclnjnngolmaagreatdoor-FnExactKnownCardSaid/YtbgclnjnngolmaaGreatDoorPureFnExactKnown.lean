import Derived.Test.YtbgclnjnngolmaaGreatDoorPlawsFnExactKnown
import Derived.Test.YtbgclnjnngolmaaGreatDoorSplit
import Derived.Test.YtbgclnjnngolmaaGreatDoorNum
import Derived.Test.YtbgclnjnngolmaaGreatDoorScal
import Derived.Test.YtbgclnjnngolmaaGreatDoorTextP
import Derived.Test.YtbgclnjnngolmaaGreatDoorPspecl01Parts
import Derived.Test.YtbgclnjnngolmaaGreatDoorPstringsSplitN
import Derived.Test.YtbgclnjnngolmaaGreatDoorPstrconvAtoi
import Derived.Test.YtbgclnjnngolmaaGreatDoorPspecl01Value
import Derived.Test.YtbgclnjnngolmaaGreatDoorPimplisValue
import Derived.Test.YtbgclnjnngolmaaGreatDoorPimplInstrText
import Derived.Test.YtbgclnjnngolmaaGreatDoorPimplParseInstr
import Derived.Test.YtbgclnjnngolmaaGreatDoorPspecParseInstr
import Derived.Test.YtbgclnjnngolmaaGreatDoorPstringsSplit
import Derived.Lib.CountLaws
import Derived.Test.YtbgclnjnngolmaaGreatDoorPlawseqInstrS
import Derived.Test.YtbgclnjnngolmaaGreatDoorPimplParseCode
import Derived.Test.YtbgclnjnngolmaaGreatDoorPspecParseCode
import Derived.Test.YtbgclnjnngolmaaGreatDoorGen
import Derived.Test.YtbgclnjnngolmaaGreatDoorPlawseqAtomS
import Derived.Test.YtbgclnjnngolmaaGreatDoorPimplAtomtext
import Derived.Test.YtbgclnjnngolmaaGreatDoorPspecAskText
import Derived.Test.YtbgclnjnngolmaaGreatDoorPimplparseAtom
import Derived.Test.YtbgclnjnngolmaaGreatDoorPspecl06Atom
import Derived.Test.YtbgclnjnngolmaaGreatDoorPstringsCut
import Derived.Test.YtbgclnjnngolmaaGreatDoorPstringsTrim
import Derived.Test.YtbgclnjnngolmaaGreatDoorPimplParseAsk
import Derived.Test.YtbgclnjnngolmaaGreatDoorPspecParseAsk
import Derived.Test.YtbgclnjnngolmaaGreatDoorPlawseqProg
import Derived.Test.YtbgclnjnngolmaaGreatDoorPimplKnown
import Derived.Test.YtbgclnjnngolmaaGreatDoorPspecKnown
import Derived.Test.YtbgclnjnngolmaaGreatDoorPlawsmarkProg
import Derived.Test.YtbgclnjnngolmaaGreatDoorPlawsmarkAtomS
-- Written by mp.py (the session's own driver over the kit's printer) for the seat YtbgclnjnngolmaaGreatDoor.
namespace Go.Proofs.YtbgclnjnngolmaaGreatDoor.P
open Go.RowKit Go.Proofs.YtbgclnjnngolmaaGreatDoorW.PrintWords Go.Proofs.YtbgclnjnngolmaaGreatDoorW.PrintLast Go.Proofs.YtbgclnjnngolmaaGreatDoorW.PrintMore
attribute [local go_sem] max2_int min2_int max_two min_two max_three min_three max_four min_four
set_option linter.unusedVariables false
set_option linter.unusedSimpArgs false

/-- What is left of the law FnExactKnown: no program and no memory in it. -/
def laws_FnExactKnown.Left : Prop := ∀ (a0 : ByteArray), (a0.size ≤ 140737488351232) → ∃ k, laws_FnExactKnown.f k a0 = some true
end Go.Proofs.YtbgclnjnngolmaaGreatDoor.P

/- The reference's parting of texts and reading of numbers. No condition but on lengths. -/
namespace Go.Proofs.YtbgclnjnngolmaaGreatDoor.Pure
open Go.RowKit Go.Proofs.YtbgclnjnngolmaaGreatDoor.P Go.Proofs.YtbgclnjnngolmaaGreatDoor.Gen Go.Proofs.YtbgclnjnngolmaaGreatDoorW.PrintWords Go.Proofs.YtbgclnjnngolmaaGreatDoor.Split

theorem mk_extract (l : List UInt8) (a b : Nat) : (mk l).extract a b = mk ((l.drop a).take (b - a)) := by
  apply ByteArray.ext
  simp [mk, ByteArray.data_extract, List.extract_eq_take_drop]
theorem bt_mk' (f : List UInt8) (j : Nat) (h : j < f.length) : bt (mk f) (j : Int) = (f[j].toNat : Int) := by
  unfold bt
  rw [dif_pos (by rw [Int.toNat_natCast, mk_size]; exact h)]
  simp [mk, ByteArray.getElem_eq_getElem_data]
theorem byte_is' (b c : UInt8) : ((b.toNat : Int) = (c.toNat : Int)) ↔ b = c := by
  constructor
  · intro h
    apply UInt8.toNat_inj.1
    omega
  · intro h
    rw [h]
theorem rdB (ws : List (List UInt8)) (j : Nat) (h : j < ws.length) : rdOf ByteArray.empty (ws.map mk) (j : Int) = mk ws[j] := by
  rw [rdOf_nat _ _ _ (by rw [List.length_map]; exact h), List.getElem_map]

/-- A piece put ahead of the first part. -/
def ahead (p : List UInt8) : List (List UInt8) → List (List UInt8)
  | [] => [p]
  | q :: r => (p ++ q) :: r
theorem parts_loop (l : List UInt8) (c : UInt8) (hl : l.length ≤ 1048576) : ∀ d (i a : Nat) (out : List ByteArray) k, a ≤ i → i ≤ l.length → l.length - i = d → c ∉ (l.drop a).take (i - a) → d + 1 < k → out.length ≤ a →
    spec_l01Parts.l0 k (mk l) (c.toNat : Int) out (a : Int) (i : Int) = some (out ++ (ahead ((l.drop a).take (i - a)) (parts c (l.drop i))).map mk) := by
  intro d
  induction d with
  | zero =>
    intro i a out k ha hi hd hc hk ho
    obtain ⟨k, rfl⟩ : ∃ m, k = m + 1 + 1 := ⟨k - 2, by omega⟩
    obtain rfl : i = l.length := by omega
    simp only [spec_l01Parts.l0]
    rw [if_pos (by rw [mk_size]; omega), if_pos (by rw [mk_size]), if_pos (by omega), if_pos (by omega), if_pos (by omega), if_neg (by rw [mk_size]; have : wrap64 ((l.length : Int) + 1) = (l.length : Int) + 1 := wrap_id (by omega) (by omega); omega), Int.toNat_natCast, Int.toNat_natCast, mk_extract, List.drop_length]
    simp [parts, ahead]
  | succ d ih =>
    intro i a out k ha hi hd hc hk ho
    obtain ⟨k, rfl⟩ : ∃ m, k = m + 1 := ⟨k - 1, by omega⟩
    have hlt : i < l.length := by omega
    simp only [spec_l01Parts.l0]
    rw [if_pos (by rw [mk_size]; omega), if_neg (by rw [mk_size]; omega), if_pos (by omega), if_pos (by rw [mk_size]; omega), bt_mk' l i hlt]
    have hw : wrap64 ((i : Int) + 1) = ((i + 1 : Nat) : Int) := wrap_succ hlt (by omega)
    by_cases hb : l[i] = c
    · rw [if_pos ((byte_is' _ _).2 hb), if_pos (by omega), if_pos (by omega), if_pos (by omega), hw, Int.toNat_natCast, Int.toNat_natCast, mk_extract,
        ih (i + 1) (i + 1) _ k (Nat.le_refl _) (by omega) (by omega) (by simp) (by omega) (by simp; omega), Nat.sub_self, List.take_zero, List.drop_eq_getElem_cons hlt]
      have e : parts c (l[i] :: l.drop (i + 1)) = [] :: parts c (l.drop (i + 1)) := by
        conv => lhs; unfold parts
        rw [if_pos hb]
      rw [e]
      obtain ⟨p, r, hp⟩ := parts_cons c (l.drop (i + 1))
      rw [hp]
      simp [ahead]
    · rw [if_neg (fun h => hb ((byte_is' _ _).1 h)), hw]
      have e1 : (l.drop a).take (i + 1 - a) = (l.drop a).take (i - a) ++ [l[i]] := by
        rw [show i + 1 - a = (i - a) + 1 by omega, List.take_add_one, List.getElem?_drop, show a + (i - a) = i by omega, List.getElem?_eq_getElem hlt]
        rfl
      rw [ih (i + 1) a out k (by omega) (by omega) (by omega) (by rw [e1]; simp only [List.mem_append, List.mem_singleton, not_or]; exact ⟨hc, fun h => hb h.symm⟩) (by omega) ho, e1, List.drop_eq_getElem_cons hlt]
      have e : parts c (l[i] :: l.drop (i + 1)) = match parts c (l.drop (i + 1)) with | [] => [[l[i]]] | p :: r => (l[i] :: p) :: r := by
        conv => lhs; unfold parts
        rw [if_neg hb]
        rfl
      rw [e]
      obtain ⟨p, r, hp⟩ := parts_cons c (l.drop (i + 1))
      rw [hp]
      simp [ahead]
theorem l01Parts (l : List UInt8) (c : UInt8) (hl : l.length ≤ 1048576) (k : Nat) (hk : l.length + 1 < k) : spec_l01Parts.f k (mk l) (c.toNat : Int) = some ((parts c l).map mk) := by
  unfold spec_l01Parts.f
  have := parts_loop l c hl l.length 0 0 [] k (Nat.le_refl _) (by omega) (by omega) (by simp) (by omega) (by simp)
  obtain ⟨p, r, hp⟩ := parts_cons c l
  simpa [ahead, hp] using this

/-- What stands behind the sign. -/
def magW (w : List UInt8) : List UInt8 := if w.head? = some 45 then w.tail else w
/-- A number read as the reference reads it. -/
def readR (w : List UInt8) : Int × Bool :=
  if 1 ≤ (magW w).length ∧ (magW w).length ≤ 7 then
    match Go.Lib.decFrom 0 (magW w) with
    | none => (0, false)
    | some n => if (magW w).length < w.length then (-(n : Int), Go.Lib.itoa (-(n : Int)) == w) else ((n : Int), Go.Lib.itoa (n : Int) == w)
  else (0, false)
theorem read_loop (w ds : List UInt8) (hds : ds.length ≤ 7) (K : Nat) (hK : 20 ≤ K) : ∀ d (j acc : Nat) k, j ≤ ds.length → ds.length - j = d → K + d < k → acc < 10 ^ j →
    spec_l01Read.l0 k (mk w) (mk ds) (acc : Int) (j : Int) = some (match Go.Lib.decFrom acc (ds.drop j) with | none => (0, false) | some n => if ds.length < w.length then (-(n : Int), Go.Lib.itoa (-(n : Int)) == w) else ((n : Int), Go.Lib.itoa (n : Int) == w)) := by
  intro d
  induction d with
  | zero =>
    intro j acc k hj hd hk ha
    obtain ⟨k, rfl⟩ : ∃ m, k = m + 1 := ⟨k - 1, by omega⟩
    obtain rfl : j = ds.length := by omega
    have hp : 10 ^ ds.length ≤ 10 ^ 7 := Nat.pow_le_pow_right (by omega) hds
    have hw : wrap64 (-(acc : Int)) = -(acc : Int) := wrap_id (by omega) (by omega)
    have hbe : ∀ z : List UInt8, ((mk z).toList == (mk w).toList) = (z == w) := fun z => by rw [mk_toList, mk_toList]
    simp only [spec_l01Read.l0]
    rw [if_neg (by rw [mk_size]; omega), mk_size, mk_size, List.drop_length]
    simp only [Go.Lib.decFrom]
    by_cases h : ds.length < w.length
    · rw [if_pos (by omega), if_pos h, hw, l01Num _ (by omega) (by omega) k (by omega), Option.bind_some, hbe]
    · rw [if_neg (by omega), if_neg h, l01Num _ (by omega) (by omega) k (by omega), Option.bind_some, hbe]
  | succ d ih =>
    intro j acc k hj hd hk ha
    obtain ⟨k, rfl⟩ : ∃ m, k = m + 1 := ⟨k - 1, by omega⟩
    have hlt : j < ds.length := by omega
    have hp : 10 ^ j ≤ 10 ^ 6 := Nat.pow_le_pow_right (by omega) (by omega)
    have hb : (ds[j]).toNat < 256 := (ds[j]).toNat_lt
    simp only [spec_l01Read.l0]
    rw [if_pos (by rw [mk_size]; omega), if_pos (by omega), bt_mk' ds j hlt, List.drop_eq_getElem_cons hlt]
    generalize ds[j] = b at *
    by_cases h1 : b.toNat < 48
    · rw [if_pos (by omega)]
      simp only [Go.Lib.decFrom, Go.Lib.digitVal, if_neg (show ¬ (48 ≤ b.toNat ∧ b.toNat ≤ 57) by omega)]
    · rw [if_neg (by omega)]
      by_cases h2 : 57 < b.toNat
      · rw [if_pos (by omega)]
        simp only [Go.Lib.decFrom, Go.Lib.digitVal, if_neg (show ¬ (48 ≤ b.toNat ∧ b.toNat ≤ 57) by omega)]
      · rw [if_neg (by omega)]
        have e : wrap64 ((wrap64 ((wrap64 (10 * (acc : Int))) + (wrap64 (b.toNat : Int)))) - 48) = ((acc * 10 + (b.toNat - 48) : Nat) : Int) := by
          rw [wrap_id (x := 10 * (acc : Int)) (by omega) (by omega), wrap_id (x := (b.toNat : Int)) (by omega) (by omega), wrap_id (x := 10 * (acc : Int) + (b.toNat : Int)) (by omega) (by omega), wrap_id (by omega) (by omega)]
          omega
        rw [e, wrap_succ hlt (by omega), ih (j + 1) _ k (by omega) (by omega) (by omega) (by rw [Nat.pow_succ]; omega)]
        simp only [Go.Lib.decFrom, Go.Lib.digitVal, if_pos (show 48 ≤ b.toNat ∧ b.toNat ≤ 57 by omega)]
theorem read_mag (w : List UInt8) (ds : List UInt8) (k : Nat) (hk : 30 ≤ k) (hm : magW w = ds) : spec_l01Read.j1 k (mk w) (mk ds) = some (readR w) := by
  obtain ⟨k, rfl⟩ : ∃ m, k = m + 1 := ⟨k - 1, by omega⟩
  simp only [spec_l01Read.j1]
  unfold readR
  rw [l01In, Option.bind_some, mk_size, hm]
  by_cases h : 1 ≤ ds.length ∧ ds.length ≤ 7
  · rw [if_pos (inB_true.2 (by omega)), if_pos h]
    have := read_loop w ds h.2 20 (by omega) ds.length 0 0 k (by omega) (by omega) (by omega) (by simp)
    simpa using this
  · rw [if_neg (fun c => h (by have := inB_true.1 c; omega)), if_neg h]
theorem l01Read (w : List UInt8) (hw : w.length ≤ 1048576) (k : Nat) (hk : 40 ≤ k) : spec_l01Read.f k (mk w) = some (readR w) := by
  unfold spec_l01Read.f
  obtain ⟨k, rfl⟩ : ∃ m, k = m + 1 := ⟨k - 1, by omega⟩
  cases w with
  | nil =>
    rw [if_neg (by rw [mk_size]; simp)]
    simp only [spec_l01Read.j0, Bool.false_eq_true, if_false]
    exact read_mag [] [] k (by omega) rfl
  | cons b r =>
    have hb : bt (mk (b :: r)) 0 = (b.toNat : Int) := bt_mk' (b :: r) 0 (by simp)
    rw [if_pos (by rw [mk_size]; simp), if_pos (by rw [mk_size]; simp), hb]
    simp only [spec_l01Read.j0]
    by_cases c : b = 45
    · rw [if_pos (by rw [c]; rfl), if_pos (by rw [mk_size, List.length_cons]; omega), mk_extract]
      refine read_mag (b :: r) _ k (by omega) ?_
      unfold magW
      rw [c]
      simp [mk_size]
    · rw [if_neg (by
        intro h
        have h1 := beq_iff_eq.1 h
        exact c ((byte_is' b 45).1 h1))]
      refine read_mag (b :: r) _ k (by omega) ?_
      unfold magW
      rw [if_neg (by simp [c])]
theorem readR_true {w : List UInt8} (h : (readR w).2 = true) : w = Go.Lib.itoa (readR w).1 ∧ -10000000 < (readR w).1 ∧ (readR w).1 < 10000000 := by
  unfold readR at h ⊢
  split at h
  · next hl =>
    rw [if_pos hl]
    cases c : Go.Lib.decFrom 0 (magW w) with
    | none => rw [c] at h; cases h
    | some n =>
      rw [c] at h
      have hb := Go.Lib.decFrom_lt _ 0 n c
      have hp : 10 ^ (magW w).length ≤ 10 ^ 7 := Nat.pow_le_pow_right (by omega) hl.2
      simp only at h ⊢
      split at h
      · next hc =>
        rw [if_pos hc]
        exact ⟨(beq_iff_eq.1 h).symm, by omega, by omega⟩
      · next hc =>
        rw [if_neg hc]
        exact ⟨(beq_iff_eq.1 h).symm, by omega, by omega⟩
  · cases h
theorem digits7 (u : Nat) (h : u < 10000000) : (Go.Lib.decDigits u).length ≤ 7 := by
  by_cases c : u = 0
  · rw [c, Go.Lib.decDigits, dif_pos (by omega)]
    simp
  · have := digs_len 7 u (by omega)
    unfold digs at this
    rwa [if_neg c] at this
theorem readR_itoa (x : Int) (h : -10000000 < x ∧ x < 10000000) : readR (Go.Lib.itoa x) = (x, true) := by
  unfold Go.Lib.itoa
  by_cases c : x < 0
  · rw [if_pos c]
    have hm : magW (45 :: Go.Lib.decDigits x.natAbs) = Go.Lib.decDigits x.natAbs := rfl
    have hl := digits7 x.natAbs (by omega)
    have hn : 1 ≤ (Go.Lib.decDigits x.natAbs).length := List.length_pos_iff.2 (decDigits_ne _)
    unfold readR
    rw [hm, if_pos ⟨hn, hl⟩, decFrom_digits]
    simp only
    rw [if_pos (by simp)]
    have e : -((x.natAbs : Nat) : Int) = x := by omega
    rw [e]
    unfold Go.Lib.itoa
    rw [if_pos c]
    simp
  · rw [if_neg c]
    have hl := digits7 x.toNat (by omega)
    have hn : 1 ≤ (Go.Lib.decDigits x.toNat).length := List.length_pos_iff.2 (decDigits_ne _)
    have hm : magW (Go.Lib.decDigits x.toNat) = Go.Lib.decDigits x.toNat := by
      unfold magW
      rw [if_neg]
      intro h45
      obtain ⟨d, hd⟩ := Go.Lib.digit_of_decFrom _ 0 _ (decFrom_digits x.toNat) 0 45 (by rw [← h45, List.head?_eq_getElem?])
      have := Go.Lib.digitVal_eq hd
      simp at this
    unfold readR
    rw [hm, if_pos ⟨hn, hl⟩, decFrom_digits]
    simp only
    rw [if_neg (by omega)]
    have e : ((x.toNat : Nat) : Int) = x := by omega
    rw [e]
    unfold Go.Lib.itoa
    rw [if_neg c]
    simp
theorem atoiR_itoa (x : Int) (h : -10000000 < x ∧ x < 10000000) : atoiR (Go.Lib.itoa x) = (x, false) := by
  unfold atoiR
  rw [atoiAll_itoa x (by omega)]
/-- A word is no longer than what it is part of. -/
theorem join_ge (sep : List UInt8) : ∀ (ws : List (List UInt8)), ∀ x ∈ ws, x.length ≤ (Go.Lib.join ws sep).length
  | [], x, h => by cases h
  | [y], x, h => by
    rw [Go.Lib.join_one]
    simp only [List.mem_cons, List.mem_nil_iff, or_false] at h
    rw [h]
    exact Nat.le_refl _
  | y :: z :: r, x, h => by
    rw [Go.Lib.join_cons, joinTail_join, List.length_append, List.length_append]
    rcases List.mem_cons.1 h with rfl | h
    · omega
    · have := join_ge sep (z :: r) x h
      omega

theorem sep_mk : (⟨#[32]⟩ : ByteArray) = mk [32] := rfl
/-- strings.SplitN at a separator, of a text. -/
theorem splitNF (l sep : List UInt8) (n : Nat) (hl : l.length ≤ 1048576) (hs : 1 ≤ sep.length) (hn : 1 ≤ n) (hn2 : n ≤ 100) : strings_SplitN.f (mk l) (mk sep) (n : Int) = some ((Go.Lib.splitK sep 0 (min n (l.length + 1) - 1) l).map mk) := by
  unfold strings_SplitN.f
  rw [if_pos (by rw [mk_size]; omega), if_pos (by rw [mk_size]; exact hs), if_pos (by omega), Int.toNat_natCast, mk_size]
  refine congrArg some ?_
  have h := Go.Lib.splitB_data (mk sep) 0 (min n (l.length + 1) - 1) (mk l)
  rw [mk_list, mk_list] at h
  rw [← h, List.map_map]
  have : (mk ∘ fun s : ByteArray => s.data.toList) = id := by funext s; exact list_mk s
  rw [this, List.map_id]
theorem atoiF (w : List UInt8) (h : w.length ≤ 1048576) : strconv_Atoi.f (mk w) = some (atoiR w) := by
  unfold strconv_Atoi.f
  rw [if_pos (by rw [mk_size]; omega), mk_list]

theorem parts_len (c : UInt8) : ∀ l, (parts c l).length ≤ l.length + 1
  | [] => by simp [parts]
  | b :: l => by
    have ih := parts_len c l
    obtain ⟨p, r, h⟩ := parts_cons c l
    unfold parts
    rw [h] at ih ⊢
    split <;> simp only [List.length_cons] at ih ⊢ <;> omega


end Go.Proofs.YtbgclnjnngolmaaGreatDoor.Pure

/- Values: the program's and the reference's test. No condition. -/
namespace Go.Proofs.YtbgclnjnngolmaaGreatDoor.Pure
open Go.RowKit Go.Proofs.YtbgclnjnngolmaaGreatDoor.P Go.Proofs.YtbgclnjnngolmaaGreatDoor.Gen Go.Proofs.YtbgclnjnngolmaaGreatDoorW.PrintWords

theorem l01Value (v : Int) : spec_l01Value.f v = some (valB v) := by
  unfold spec_l01Value.f valB
  rw [l01In]
  rfl
theorem isValue (v : Int) : impl_isValue.f v = some (valB v) := by
  unfold impl_isValue.f valB
  rw [within]
  rfl

theorem valB_range {x : Int} (h : valB x = true) : -1000000 ≤ x ∧ x ≤ 1000000 := by
  unfold valB at h
  exact inB_true.1 h

end Go.Proofs.YtbgclnjnngolmaaGreatDoor.Pure

/- An instruction's text: the words, and the program's. No condition but that its numbers are ints. -/
namespace Go.Proofs.YtbgclnjnngolmaaGreatDoor.Pure
open Go.RowKit Go.Proofs.YtbgclnjnngolmaaGreatDoor.P Go.Proofs.YtbgclnjnngolmaaGreatDoor.Gen Go.Proofs.YtbgclnjnngolmaaGreatDoorW.PrintWords
set_option linter.unusedSimpArgs false

/-- The words of an instruction's text. -/
def instrWs (op r s n : Int) : List (List UInt8) :=
  if op = 0 then [[115, 101, 116], Go.Lib.itoa r, Go.Lib.itoa n] else if op = 1 then [[97, 100, 100], Go.Lib.itoa r, Go.Lib.itoa s] else
  if op = 2 then [[108, 111, 97, 100], Go.Lib.itoa r, Go.Lib.itoa n] else if op = 3 then [[115, 116, 111, 114, 101], Go.Lib.itoa r, Go.Lib.itoa n] else
  if op = 4 then [[102, 101, 110, 99, 101]] else if op = 5 then [[99, 97, 115], Go.Lib.itoa r, Go.Lib.itoa s, Go.Lib.itoa n] else
  if op = 6 then [[106, 122], Go.Lib.itoa r, Go.Lib.itoa n] else if op = 7 then [[115, 119, 97, 112], Go.Lib.itoa r, Go.Lib.itoa s, Go.Lib.itoa n] else
  [[115, 117, 98], Go.Lib.itoa r, Go.Lib.itoa s]
def instrW (op r s n : Int) : List UInt8 := if inB op 0 8 = true then Go.Lib.join (instrWs op r s n) [32] else []
theorem instrWs_short (op r s n : Int) (hr : I64 r) (hs : I64 s) (hn : I64 n) : (instrWs op r s n).length ≤ 4 ∧ ∀ x ∈ instrWs op r s n, x.length + 1 ≤ 22 := by
  have h1 := itoa_len r hr.1 hr.2
  have h2 := itoa_len s hs.1 hs.2
  have h3 := itoa_len n hn.1 hn.2
  have key : ∀ ws : List (List UInt8), ws.length ≤ 4 ∧ (∀ x ∈ ws, x.length + 1 ≤ 22) → ws.length ≤ 4 ∧ ∀ x ∈ ws, x.length + 1 ≤ 22 := fun _ h => h
  unfold instrWs
  repeat' split
  all_goals
    refine ⟨by simp, ?_⟩
    intro x hx
    simp only [List.mem_cons, List.mem_nil_iff, or_false] at hx
    rcases hx with rfl | rfl | rfl | rfl
    all_goals first | omega | (simp only [List.length_cons, List.length_nil]; omega) | skip
  all_goals
    rcases hx with rfl | rfl | rfl
    all_goals first | omega | (simp only [List.length_cons, List.length_nil]; omega) | skip
theorem instrJoin (op r s n : Int) (hr : I64 r) (hs : I64 s) (hn : I64 n) : strings_Join.f ((instrWs op r s n).map mk) (⟨#[32]⟩ : ByteArray) = some (mk (Go.Lib.join (instrWs op r s n) [32])) := by
  obtain ⟨hl, hx⟩ := instrWs_short op r s n hr hs hn
  have := join_len [32] 22 _ hx
  exact joinF _ [32] (by omega) (by omega)

theorem impl_instrText_at (op r s n : Int) (hr : I64 r) (hs : I64 s) (hn : I64 n) : impl_InstrText.f 3 op r s n = some (mk (instrW op r s n)) := by
  unfold impl_InstrText.f instrW
  rw [within, Option.bind_some]
  by_cases h : inB op 0 8 = true
  · have ho := inB_true.1 h
    rw [if_pos h, if_pos h]
    have hj := instrJoin op r s n hr hs hn
    obtain h | h | h | h | h | h | h | h | h : op = 0 ∨ op = 1 ∨ op = 2 ∨ op = 3 ∨ op = 4 ∨ op = 5 ∨ op = 6 ∨ op = 7 ∨ op = 8 := by omega
    all_goals
      subst h
      rw [← hj]
      simp [instrWs, impl_mnemonics.f, impl_Instr_usesR.f, impl_Instr_usesS.f, impl_Instr_usesN.f, impl_InstrText.j0, impl_InstrText.j1, itoaF r hr.1 hr.2, itoaF s hs.1 hs.2, itoaF n hn.1 hn.2, rdOf]
      rfl
  · rw [if_neg h, if_neg h]
    rfl
theorem impl_instrText (op r s n : Int) (hr : I64 r) (hs : I64 s) (hn : I64 n) (k : Nat) (hk : 3 ≤ k) : impl_InstrText.f k op r s n = some (mk (instrW op r s n)) :=
  at_rounds (impl_InstrText.mono op r s n) hk (impl_instrText_at op r s n hr hs hn)

theorem bt_mk (f : List UInt8) (j : Nat) (h : j < f.length) : bt (mk f) (j : Int) = (f[j].toNat : Int) := by
  unfold bt
  rw [dif_pos (by rw [Int.toNat_natCast, mk_size]; exact h)]
  simp [mk, ByteArray.getElem_eq_getElem_data]
theorem byte_is (b : UInt8) (c : Nat) (hc : c < 256) : ((b.toNat : Int) = ((c : Nat) : Int)) ↔ b = UInt8.ofNat c := by
  have e : (UInt8.ofNat c).toNat = c := by
    rw [UInt8.toNat_ofNat']
    exact Nat.mod_eq_of_lt hc
  constructor
  · intro h
    apply UInt8.toNat_inj.1
    omega
  · intro h
    rw [h, e]
theorem instrW_len (op r s n : Int) (hr : I64 r) (hs : I64 s) (hn : I64 n) : (instrW op r s n).length ≤ 88 := by
  unfold instrW
  split
  · obtain ⟨hl, hx⟩ := instrWs_short op r s n hr hs hn
    have := join_len [32] 22 _ hx
    omega
  · simp
theorem instrW_nil (op r s n : Int) : instrW op r s n = [] ↔ inB op 0 8 = false := by
  unfold instrW
  cases h : inB op 0 8 with
  | false => simp
  | true =>
    simp only [if_true]
    have key : ∀ ws : List (List UInt8), (∃ x r, ws = x :: r ∧ x ≠ []) → Go.Lib.join ws [32] ≠ [] := by
      rintro _ ⟨x, r, rfl, hx⟩
      exact join_ne _ _ _ hx
    have hne : Go.Lib.join (instrWs op r s n) [32] ≠ [] := by
      apply key
      unfold instrWs
      repeat' split
      all_goals exact ⟨_, _, rfl, by simp⟩
    simp [hne]

end Go.Proofs.YtbgclnjnngolmaaGreatDoor.Pure

/- Parsing an instruction's text: the program's and the reference's ParseInstr give an instruction exactly where the text is the text of one that uses what it holds. No condition but on the length. -/
namespace Go.Proofs.YtbgclnjnngolmaaGreatDoor.Pure
open Go.RowKit Go.Proofs.YtbgclnjnngolmaaGreatDoor.P Go.Proofs.YtbgclnjnngolmaaGreatDoor.Gen Go.Proofs.YtbgclnjnngolmaaGreatDoorW.PrintWords Go.Proofs.YtbgclnjnngolmaaGreatDoor.Split

theorem parts_no (c : UInt8) : ∀ l, ∀ w ∈ parts c l, c ∉ w
 | [] => by simp [parts]
 | b :: l => by
  have ih := parts_no c l
  obtain ⟨p, r, h⟩ := parts_cons c l
  unfold parts
  rw [h] at ih ⊢
  split
  ·intro w hw
   rcases List.mem_cons.1 hw with rfl | hw
   ·simp
   ·exact ih w hw
  ·next hb =>
   intro w hw
   rcases List.mem_cons.1 hw with rfl | hw
   ·have := ih p List.mem_cons_self
    simp only [List.mem_cons, not_or]
    exact ⟨fun e => hb e.symm, this⟩
   ·exact ih w (List.mem_cons_of_mem _ hw)
theorem count_words (c : UInt8) : ∀ (ws : List (List UInt8)) (w : List UInt8), (∀ x ∈ w :: ws, c ∉ x) → Go.Lib.count (Go.Lib.join (w :: ws) [c]) [c] = ws.length
 | [], w, h => by
  rw [Go.Lib.join_one]
  exact Go.Lib.count_miss (index_noword c [] w (h w List.mem_cons_self))
 | x :: ws, w, h => by
  have e : Go.Lib.join (w :: x :: ws) [c] = w ++ [c] ++ Go.Lib.join (x :: ws) [c] := by rw [Go.Lib.join_cons, joinTail_join, List.append_assoc]
  have hi := index_word c [] w (Go.Lib.join (x :: ws) [c]) (h w List.mem_cons_self)
  rw [e, Go.Lib.count_hit (by simp) hi, ← List.length_append, List.drop_left, count_words c ws x (fun y hy => h y (List.mem_cons_of_mem _ hy)), List.length_cons]
  omega
theorem splitF (t : List UInt8) (ht : t.length ≤ 1048576) : strings_Split.f (mk t) (mk [32]) = some ((parts 32 t).map mk) := by
 unfold strings_Split.f
 rw [if_pos (by rw [mk_size]; omega), if_pos (by rw [mk_size]; simp)]
 refine congrArg some ?_
 have h := Go.Lib.splitB_data (mk [32]) 0 (Go.Lib.countB (mk t) (mk [32])) (mk t)
 rw [mk_list, mk_list] at h
 have hk : Go.Lib.countB (mk t) (mk [32]) = Go.Lib.count t [32] := by
  unfold Go.Lib.countB
  rw [mk_list, mk_list]
 obtain ⟨p, r, hp⟩ := parts_cons 32 t
 have hno := parts_no 32 t
 have hj := join_parts 32 t
 rw [hp] at hno hj
 have hs : Go.Lib.splitK [32] 0 (Go.Lib.count t [32]) t = parts 32 t := by
  rw [hp]
  conv => lhs; rw [← hj]
  exact splitK_words 32 [] r p _ hno (by rw [count_words 32 r p hno]; exact Nat.le_refl _)
 rw [hk, hs] at h
 rw [← h, List.map_map, hk]
 have : (mk ∘ fun s : ByteArray => s.data.toList) = id := by funext s; exact list_mk s
 rw [this, List.map_id]

def usesSB (op : Int) : Bool := op == 1 || op == 8 || op == 5 || op == 7
def usesNB (op : Int) : Bool := !(op == 1 || op == 8 || op == 4)
theorem uR (a b c d : Int) : impl_Instr_usesR.f a b c d = some (a != 4) := rfl
theorem uS (a b c d : Int) : impl_Instr_usesS.f a b c d = some (usesSB a) := by
 unfold impl_Instr_usesS.f usesSB
 repeat' split
 all_goals simp_all
theorem uN (a b c d : Int) : impl_Instr_usesN.f a b c d = some (usesNB a) := by
 unfold impl_Instr_usesN.f usesNB
 repeat' split
 all_goals simp_all [bne]
/-- An instruction that has a text: what it does not use is nought. -/
def goodI (op r s n : Int) : Bool := inB op 0 8 && valB r && valB s && valB n && (op != 4 || r == 0) && (usesSB op || s == 0) && (usesNB op || n == 0)
abbrev Ans := Int × Int × Int × Int × Bool
def zeroA : Ans := (0, 0, 0, 0, false)

/-! ### the reference -/
def wordsI : List (List UInt8) := [[115, 101, 116], [97, 100, 100], [108, 111, 97, 100], [115, 116, 111, 114, 101], [102, 101, 110, 99, 101], [99, 97, 115], [106, 122], [115, 119, 97, 112], [115, 117, 98]]
def formsI : List (List UInt8) := [[114, 110], [114, 115], [114, 110], [114, 110], [], [114, 115, 110], [114, 110], [114, 115, 110], [114, 115]]
def wordW (j : Nat) : List UInt8 := wordsI.getD j []
def formW (j : Nat) : List UInt8 := formsI.getD j []
theorem nine {j : Nat} (h : j ≤ 8) : j = 0 ∨ j = 1 ∨ j = 2 ∨ j = 3 ∨ j = 4 ∨ j = 5 ∨ j = 6 ∨ j = 7 ∨ j = 8 := by omega
theorem l02WordF (j : Nat) (h : j ≤ 8) : spec_l02Word.f (j : Int) = some (mk (wordW j)) := by
 rcases nine h with rfl | rfl | rfl | rfl | rfl | rfl | rfl | rfl | rfl <;> rfl
theorem l02FormF (j : Nat) (h : j ≤ 8) : spec_l02Form.f (j : Int) = some (mk (formW j)) := by
 unfold spec_l02Form.f
 rw [Option.bind_some, l01In, Option.bind_some, if_pos (inB_true.2 (by omega)), if_pos (by omega)]
 rcases nine h with rfl | rfl | rfl | rfl | rfl | rfl | rfl | rfl | rfl <;> rfl
theorem formW_len (j : Nat) : (formW j).length ≤ 3 := by
 by_cases h : j ≤ 8
 ·rcases nine h with rfl | rfl | rfl | rfl | rfl | rfl | rfl | rfl | rfl <;> decide
 unfold formW
 rw [List.getD_eq_getElem?_getD, List.getElem?_eq_none (by show 9 ≤ j; omega)]
 simp
def okW (w : List UInt8) : Bool := (readR w).2 && valB (readR w).1
def fillW : List UInt8 → List (List UInt8) → Int → Int → Int → Option (Int × Int × Int)
 | [], _, r, s, n => some (r, s, n)
 | _ :: _, [], _, _, _ => none
 | c :: f, w :: ws, r, s, n => if okW w = true then fillW f ws (if c = 114 then (readR w).1 else r) (if c = 114 then s else if c = 115 then (readR w).1 else s) (if c = 114 then n else if c = 115 then n else if c = 110 then (readR w).1 else n) else none
def fillA (op : Int) : Option (Int × Int × Int) → Ans
 | none => zeroA
 | some (r, s, n) => (op, r, s, n, true)
theorem fill_loop (ws : List (List UInt8)) (hw : ∀ w ∈ ws, w.length ≤ 1048576) (f : List UInt8) (hf : ws.length = 1 + f.length) (hf3 : f.length ≤ 3) (op : Int) : ∀ d (i k : Nat) (r s n : Int), i ≤ f.length → f.length - i = d → 60 + 2 * d < k →
  spec_ParseInstr.l1 k (ws.map mk) (mk f) (i : Int) 0 0 0 0 op r s n = some (fillA op (fillW (f.drop i) (ws.drop (i + 1)) r s n)) := by
 intro d
 induction d with
 | zero =>
  intro i k r s n hi hd hk
  obtain ⟨k, rfl⟩ : ∃ m, k = m + 1 := ⟨k - 1, by omega⟩
  simp only [spec_ParseInstr.l1]
  rw [if_neg (by rw [mk_size]; omega), List.drop_of_length_le (show f.length ≤ i by omega)]
  rfl
 | succ d ih =>
  intro i k r s n hi hd hk
  obtain ⟨k, rfl⟩ : ∃ m, k = m + 1 + 1 := ⟨k - 2, by omega⟩
  have hlt : i < f.length := by omega
  have hlw : i + 1 < ws.length := by omega
  have hw1 : wrap64 (1 + (i : Int)) = ((i + 1 : Nat) : Int) := by rw [Int.add_comm]; exact wrap_succ hlt (by omega)
  simp only [spec_ParseInstr.l1]
  rw [if_pos (by rw [mk_size]; omega), hw1, if_pos (by omega), if_pos (by rw [List.length_map]; omega), rdB ws (i + 1) hlw, l01Read _ (hw _ (List.getElem_mem hlw)) (k + 1) (by omega), Option.bind_some,
   List.drop_eq_getElem_cons hlt, List.drop_eq_getElem_cons hlw]
  have hbt := bt_mk f i hlt
  have key : ∀ bad : Bool, (bad = !okW ws[i + 1]) → spec_ParseInstr.j3 (k + 1) (ws.map mk) (mk f) (i : Int) (readR ws[i + 1]).1 bad 0 0 0 0 op r s n = some (fillA op (fillW (f[i] :: f.drop (i + 1)) (ws[i + 1] :: ws.drop (i + 1 + 1)) r s n)) := by
   intro bad hb
   simp only [spec_ParseInstr.j3, fillW]
   cases hok : okW ws[i + 1] with
   | false =>
    rw [hok] at hb
    rw [hb, if_pos (by decide), if_neg (by decide)]
    rfl
   | true =>
    rw [hok] at hb
    rw [hb, if_neg (by decide), if_pos rfl, if_pos (by omega), if_pos (by rw [mk_size]; omega), hbt, wrap_succ hlt (by omega)]
    have hc1 : ((f[i].toNat : Int) = 114) ↔ f[i] = 114 := byte_is f[i] 114 (by omega)
    have hc2 : ((f[i].toNat : Int) = 115) ↔ f[i] = 115 := byte_is f[i] 115 (by omega)
    have hc3 : ((f[i].toNat : Int) = 110) ↔ f[i] = 110 := byte_is f[i] 110 (by omega)
    simp only [hc1, hc2, hc3]
    by_cases c1 : f[i] = 114
    ·simp only [if_pos c1]
     exact ih (i + 1) k _ _ _ (by omega) (by omega) (by omega)
    simp only [if_neg c1]
    by_cases c2 : f[i] = 115
    ·simp only [if_pos c2]
     exact ih (i + 1) k _ _ _ (by omega) (by omega) (by omega)
    simp only [if_neg c2]
    by_cases c3 : f[i] = 110
    rotate_left
    ·simp only [if_neg c3]
     exact ih (i + 1) k _ _ _ (by omega) (by omega) (by omega)
    simp only [if_pos c3]
    exact ih (i + 1) k _ _ _ (by omega) (by omega) (by omega)
  cases hr : (readR ws[i + 1]).2 with
  | false =>
   rw [if_neg (by decide)]
   exact key true (by unfold okW; rw [hr]; rfl)
  | true =>
   rw [if_pos rfl, l01Value, Option.bind_some]
   exact key _ (by unfold okW; rw [hr]; rfl)
def findI : List Nat → List UInt8 → List (List UInt8) → Ans
 | [], _, _ => zeroA
 | j :: js, w0, rest => if w0 = wordW j ∧ rest.length = (formW j).length then fillA (j : Int) (fillW (formW j) rest 0 0 0) else findI js w0 rest
theorem find_loop (w0 : List UInt8) (rest : List (List UInt8)) (hw : ∀ w ∈ w0 :: rest, w.length ≤ 1048576) (hn : rest.length ≤ 1000) : ∀ d (j k : Nat), j ≤ 9 → 9 - j = d → 100 + 2 * d < k →
  spec_ParseInstr.l0 k ((w0 :: rest).map mk) (j : Int) 0 0 0 0 = some (findI (List.range' j d) w0 rest) := by
 intro d
 induction d with
 | zero =>
  intro j k hj hd hk
  obtain ⟨k, rfl⟩ : ∃ m, k = m + 1 := ⟨k - 1, by omega⟩
  simp only [spec_ParseInstr.l0]
  rw [if_neg (by omega)]
  rfl
 | succ d ih =>
  intro j k hj hd hk
  obtain ⟨k, rfl⟩ : ∃ m, k = m + 1 + 1 := ⟨k - 2, by omega⟩
  have hlt : j < 9 := by omega
  have h3 := formW_len j
  simp only [spec_ParseInstr.l0]
  rw [if_pos (by omega), l02FormF j (by omega), Option.bind_some, if_pos (by rw [List.length_map, List.length_cons]; omega), l02WordF j (by omega), Option.bind_some, List.range'_succ]
  have h0 : rdOf ByteArray.empty ((w0 :: rest).map mk) 0 = mk w0 := rfl
  rw [h0, mk_toList, mk_toList]
  simp only [findI, spec_ParseInstr.j1]
  rw [wrap_succ hlt (by omega), mk_size, List.length_map, List.length_cons]
  have hw1 : wrap64 (1 + ((formW j).length : Int)) = 1 + ((formW j).length : Int) := wrap_id (by omega) (by omega)
  rw [hw1]
  by_cases c : w0 = wordW j
  rotate_left
  ·rw [if_neg c, if_pos trivial, if_neg (fun h => c h.1)]
   exact ih (j + 1) k (by omega) (by omega) (by omega)
  rw [if_pos c]
  by_cases c2 : rest.length = (formW j).length
  rotate_left
  ·rw [if_pos (by simp only [bne_iff_ne, ne_eq]; omega), if_neg (fun h => c2 h.2)]
   exact ih (j + 1) k (by omega) (by omega) (by omega)
  rw [if_neg (by simp only [bne_iff_ne, ne_eq, Decidable.not_not]; omega), if_pos ⟨c, c2⟩]
  have := fill_loop (w0 :: rest) hw (formW j) (by rw [List.length_cons]; omega) h3 (j : Int) (formW j).length 0 k 0 0 0 (by omega) (by omega) (by omega)
  simpa using this
theorem spec_parseInstr_all (t : List UInt8) (ht : t.length ≤ 60) (w0 : List UInt8) (rest : List (List UInt8)) (hp : parts 32 t = w0 :: rest) (k : Nat) (hk : 300 ≤ k) :
  spec_ParseInstr.f k (mk t) = some (findI [0, 1, 2, 3, 4, 5, 6, 7, 8] w0 rest) := by
 unfold spec_ParseInstr.f
 rw [if_neg (by rw [mk_size]; omega)]
 have h1 : spec_l01Parts.f k (mk t) 32 = _ := l01Parts t 32 (by omega) k (by omega)
 have hj := join_parts 32 t
 have hlen := parts_len 32 t
 rw [hp] at hj hlen
 rw [h1, Option.bind_some, hp]
 exact find_loop w0 rest (fun w hw => by have := join_ge [32] _ w hw; rw [hj] at this; omega) (by simp only [List.length_cons] at hlen; omega) 9 0 k (by omega) (by omega) (by omega)

theorem okW_sound {w : List UInt8} (h : okW w = true) : w = Go.Lib.itoa (readR w).1 ∧ valB (readR w).1 = true := by
 unfold okW at h
 rw [Bool.and_eq_true] at h
 exact ⟨(readR_true h.1).1, h.2⟩
theorem okW_itoa {x : Int} (h : valB x = true) : okW (Go.Lib.itoa x) = true ∧ (readR (Go.Lib.itoa x)).1 = x := by
 have hx := valB_range h
 have := readR_itoa x (by omega)
 unfold okW
 rw [this]
 exact ⟨by simp [h], rfl⟩
theorem val0 : valB 0 = true := by decide
theorem two_of {rest : List (List UInt8)} (h : rest.length = 2) : ∃ a b, rest = [a, b] := by
 match rest, h with
 | [a, b], _ => exact ⟨a, b, rfl⟩
theorem three_of {rest : List (List UInt8)} (h : rest.length = 3) : ∃ a b c, rest = [a, b, c] := by
 match rest, h with
 | [a, b, c], _ => exact ⟨a, b, c, rfl⟩
def Sound (j : Nat) (rest : List (List UInt8)) : Prop := fillA (j : Int) (fillW (formW j) rest 0 0 0) = zeroA ∨
  ∃ r s n, fillA (j : Int) (fillW (formW j) rest 0 0 0) = ((j : Int), r, s, n, true) ∧ goodI j r s n = true ∧ instrW j r s n = Go.Lib.join (wordW j :: rest) [32]
theorem sound_rn (j : Nat) (hf : formW j = [114, 110]) (hg : ∀ r n, valB r = true → valB n = true → goodI j r 0 n = true) (ht : ∀ r n, instrW j r 0 n = Go.Lib.join [wordW j, Go.Lib.itoa r, Go.Lib.itoa n] [32]) (rest : List (List UInt8)) (hl : rest.length = (formW j).length) : Sound j rest := by
 rw [hf] at hl
 obtain ⟨a, b, rfl⟩ := two_of hl
 unfold Sound
 rw [hf]
 by_cases h1 : okW a = true
 rotate_left
 ·exact Or.inl (by simp [fillW, fillA, h1])
 by_cases h2 : okW b = true
 rotate_left
 ·exact Or.inl (by simp [fillW, fillA, h1, h2])
 obtain ⟨a1, a2⟩ := okW_sound h1
 obtain ⟨b1, b2⟩ := okW_sound h2
 refine Or.inr ⟨(readR a).1, 0, (readR b).1, by simp [fillW, fillA, h1, h2], hg _ _ a2 b2, ?_⟩
 rw [ht, ← a1, ← b1]
theorem sound_rs (j : Nat) (hf : formW j = [114, 115]) (hg : ∀ r s, valB r = true → valB s = true → goodI j r s 0 = true) (ht : ∀ r s, instrW j r s 0 = Go.Lib.join [wordW j, Go.Lib.itoa r, Go.Lib.itoa s] [32]) (rest : List (List UInt8)) (hl : rest.length = (formW j).length) : Sound j rest := by
 rw [hf] at hl
 obtain ⟨a, b, rfl⟩ := two_of hl
 unfold Sound
 rw [hf]
 by_cases h1 : okW a = true
 rotate_left
 ·exact Or.inl (by simp [fillW, fillA, h1])
 by_cases h2 : okW b = true
 rotate_left
 ·exact Or.inl (by simp [fillW, fillA, h1, h2])
 obtain ⟨a1, a2⟩ := okW_sound h1
 obtain ⟨b1, b2⟩ := okW_sound h2
 refine Or.inr ⟨(readR a).1, (readR b).1, 0, by simp [fillW, fillA, h1, h2], hg _ _ a2 b2, ?_⟩
 rw [ht, ← a1, ← b1]
theorem sound_rsn (j : Nat) (hf : formW j = [114, 115, 110]) (hg : ∀ r s n, valB r = true → valB s = true → valB n = true → goodI j r s n = true) (ht : ∀ r s n, instrW j r s n = Go.Lib.join [wordW j, Go.Lib.itoa r, Go.Lib.itoa s, Go.Lib.itoa n] [32]) (rest : List (List UInt8)) (hl : rest.length = (formW j).length) : Sound j rest := by
 rw [hf] at hl
 obtain ⟨a, b, c, rfl⟩ := three_of hl
 unfold Sound
 rw [hf]
 by_cases h1 : okW a = true
 rotate_left
 ·exact Or.inl (by simp [fillW, fillA, h1])
 by_cases h2 : okW b = true
 rotate_left
 ·exact Or.inl (by simp [fillW, fillA, h1, h2])
 by_cases h3 : okW c = true
 rotate_left
 ·exact Or.inl (by simp [fillW, fillA, h1, h2, h3])
 obtain ⟨a1, a2⟩ := okW_sound h1
 obtain ⟨b1, b2⟩ := okW_sound h2
 obtain ⟨c1, c2⟩ := okW_sound h3
 refine Or.inr ⟨(readR a).1, (readR b).1, (readR c).1, by simp [fillW, fillA, h1, h2, h3], hg _ _ _ a2 b2 c2, ?_⟩
 rw [ht, ← a1, ← b1, ← c1]
/-- What the reference reads is an instruction that has this text, or nothing. -/
theorem fill_sound (j : Nat) (hj : j ≤ 8) (rest : List (List UInt8)) (hl : rest.length = (formW j).length) : Sound j rest := by
 rcases nine hj with rfl | rfl | rfl | rfl | rfl | rfl | rfl | rfl | rfl
 ·exact sound_rn 0 rfl (fun r n h1 h2 => by simp [goodI, inB, h1, h2, val0, usesSB, usesNB]) (fun r n => by simp [instrW, inB, instrWs, wordW, wordsI]) rest hl
 ·exact sound_rs 1 rfl (fun r n h1 h2 => by simp [goodI, inB, h1, h2, val0, usesSB, usesNB]) (fun r n => by simp [instrW, inB, instrWs, wordW, wordsI]) rest hl
 ·exact sound_rn 2 rfl (fun r n h1 h2 => by simp [goodI, inB, h1, h2, val0, usesSB, usesNB]) (fun r n => by simp [instrW, inB, instrWs, wordW, wordsI]) rest hl
 ·exact sound_rn 3 rfl (fun r n h1 h2 => by simp [goodI, inB, h1, h2, val0, usesSB, usesNB]) (fun r n => by simp [instrW, inB, instrWs, wordW, wordsI]) rest hl
 ·have : rest = [] := List.length_eq_zero_iff.1 hl
  rw [this]
  exact Or.inr ⟨0, 0, 0, rfl, by decide, rfl⟩
 ·exact sound_rsn 5 rfl (fun r s n h1 h2 h3 => by simp [goodI, inB, h1, h2, h3, usesSB, usesNB]) (fun r s n => by simp [instrW, inB, instrWs, wordW, wordsI]) rest hl
 ·exact sound_rn 6 rfl (fun r n h1 h2 => by simp [goodI, inB, h1, h2, val0, usesSB, usesNB]) (fun r n => by simp [instrW, inB, instrWs, wordW, wordsI]) rest hl
 ·exact sound_rsn 7 rfl (fun r s n h1 h2 h3 => by simp [goodI, inB, h1, h2, h3, usesSB, usesNB]) (fun r s n => by simp [instrW, inB, instrWs, wordW, wordsI]) rest hl
 ·exact sound_rs 8 rfl (fun r n h1 h2 => by simp [goodI, inB, h1, h2, val0, usesSB, usesNB]) (fun r n => by simp [instrW, inB, instrWs, wordW, wordsI]) rest hl
theorem find_sound (w0 : List UInt8) (rest : List (List UInt8)) : ∀ js : List Nat, (∀ j ∈ js, j ≤ 8) → findI js w0 rest = zeroA ∨
  ∃ op r s n, findI js w0 rest = (op, r, s, n, true) ∧ goodI op r s n = true ∧ instrW op r s n = Go.Lib.join (w0 :: rest) [32]
 | [], _ => Or.inl rfl
 | j :: js, h => by
  unfold findI
  split
  ·next c =>
   rcases fill_sound j (h j List.mem_cons_self) rest c.2 with e | ⟨r, s, n, e1, e2, e3⟩
   ·exact Or.inl e
   ·exact Or.inr ⟨j, r, s, n, e1, e2, by rw [e3, c.1]⟩
  ·exact find_sound w0 rest js fun i hi => h i (List.mem_cons_of_mem _ hi)

/-! ### the program -/
def okA (w : List UInt8) : Bool := !(atoiR w).2 && valB (atoiR w).1
def fin2 (t : List UInt8) (op r s : Int) (ns : List Int) : Ans :=
 if t = [] then zeroA else if instrW op r s (if usesNB op = true then rd ns 0 else 0) = t then (op, r, s, (if usesNB op = true then rd ns 0 else 0), true) else zeroA
def fin1 (t : List UInt8) (op r : Int) (ns : List Int) : Ans := if usesSB op = true then fin2 t op r (rd ns 0) (ns.drop 1) else fin2 t op r 0 ns
def finI (t : List UInt8) (op : Int) (ns : List Int) : Ans := if (op != 4) = true then fin1 t op (rd ns 0) (ns.drop 1) else fin1 t op 0 ns
theorem val64 {x : Int} (h : valB x = true) : I64 x := by
 have := valB_range h
 unfold I64
 omega
theorem rd_val {ns : List Int} (h : ∀ x ∈ ns, valB x = true) (hl : 0 < ns.length) : valB (rd ns 0) = true := by
 have := rd_nat ns 0 hl
 rw [show ((0 : Nat) : Int) = 0 from rfl] at this
 rw [this]
 exact h _ (List.getElem_mem hl)
theorem j2_eq (t : List UInt8) (op r s : Int) (ns : List Int) (hr : valB r = true) (hs : valB s = true) (hn : ∀ x ∈ ns, valB x = true) (hl : 0 < ns.length) (k : Nat) (hk : 10 ≤ k) : impl_ParseInstr.j2 k (mk t) ns op r s 0 = some (fin2 t op r s ns) := by
 obtain ⟨k, rfl⟩ : ∃ m, k = m + 1 := ⟨k - 1, by omega⟩
 have h1 := rd_val hn hl
 simp only [impl_ParseInstr.j2]
 unfold fin2
 rw [uN, Option.bind_some, mk_toList, impl_instrText op r s (rd ns 0) (val64 hr) (val64 hs) (val64 h1) k (by omega), impl_instrText op r s 0 (val64 hr) (val64 hs) (val64 val0) k (by omega), Option.bind_some, Option.bind_some, mk_toList, mk_toList]
 cases hN : usesNB op with
 | true =>
  rw [if_pos rfl, if_pos (by omega)]
  simp only [if_true]
  split
  ·rfl
  ·split <;> rfl
 | false =>
  rw [if_neg (by decide)]
  simp only [Bool.false_eq_true, if_false]
  split
  ·rfl
  ·split <;> rfl
theorem j1_eq (t : List UInt8) (op r : Int) (ns : List Int) (hr : valB r = true) (hn : ∀ x ∈ ns, valB x = true) (hl : 1 < ns.length) (k : Nat) (hk : 12 ≤ k) : impl_ParseInstr.j1 k (mk t) ns op r 0 0 = some (fin1 t op r ns) := by
 obtain ⟨k, rfl⟩ : ∃ m, k = m + 1 := ⟨k - 1, by omega⟩
 simp only [impl_ParseInstr.j1]
 unfold fin1
 rw [uS, Option.bind_some]
 cases hS : usesSB op with
 | true =>
  rw [if_pos rfl, if_pos (by omega), if_pos (by omega), if_pos rfl]
  exact j2_eq t op r _ _ hr (rd_val hn (by omega)) (fun x hx => hn x (List.mem_of_mem_drop hx)) (by rw [List.length_drop]; show 0 < ns.length - 1; omega) k (by omega)
 | false =>
  rw [if_neg (by decide), if_neg (by decide)]
  exact j2_eq t op r 0 ns hr val0 hn (by omega) k (by omega)
def idxI (w0 : List UInt8) : Int := Go.Lib.idxOfS (wordsI.map mk) (mk w0)
theorem impl_loop (t w0 : List UInt8) (rest : List (List UInt8)) (hw : ∀ w ∈ rest, w.length ≤ 1048576) (hn : rest.length ≤ 1000) : ∀ d (j k : Nat) (acc : List Int), j ≤ rest.length → rest.length - j = d → 30 + d < k → acc.length = j → (∀ x ∈ acc, valB x = true) →
  impl_ParseInstr.l0 k (mk t) ((w0 :: rest).map mk) acc (rest.map mk) (rest.length : Int) (j : Int) =
   some (if (rest.drop j).all okA = true then finI t (idxI w0) (acc ++ (rest.drop j).map (fun w => (atoiR w).1) ++ [0, 0, 0]) else zeroA) := by
 intro d
 induction d with
 | zero =>
  intro j k acc hj hd hk ha hv
  obtain ⟨k, rfl⟩ : ∃ m, k = m + 1 := ⟨k - 1, by omega⟩
  simp only [impl_ParseInstr.l0]
  have hm : impl_mnemonics.f = some (wordsI.map mk) := rfl
  have h0 : rdOf ByteArray.empty ((w0 :: rest).map mk) 0 = mk w0 := rfl
  have hi : slices_Index_string_string.f (wordsI.map mk) (mk w0) = some (idxI w0) := by
   unfold slices_Index_string_string.f
   rw [if_pos (by decide)]
   rfl
  rw [if_neg (by omega), hm, Option.bind_some, if_pos (by rw [List.length_map, List.length_cons]; omega), h0, hi, Option.bind_some, Option.bind_some, if_pos (by simp; omega), Option.bind_some, uR, Option.bind_some, List.drop_of_length_le (show rest.length ≤ j by omega)]
  simp only [List.all_nil, if_true, List.map_nil, List.append_nil]
  have hv3 : ∀ x ∈ acc ++ [0, 0, 0], valB x = true := by
   intro x hx
   rcases List.mem_append.1 hx with h | h
   ·exact hv x h
   ·simp only [List.mem_cons, List.mem_nil_iff, or_false, or_self] at h
    rw [h]
    exact val0
  have hl3 : 3 ≤ (acc ++ [0, 0, 0]).length := by simp
  unfold finI
  cases hR : (idxI w0 != 4) with
  | true =>
   rw [if_pos rfl, if_pos (by omega), if_pos (by omega), if_pos rfl]
   exact j1_eq t _ _ _ (rd_val hv3 (by omega)) (fun x hx => hv3 x (List.mem_of_mem_drop hx)) (by rw [List.length_drop]; show 1 < (acc ++ [0, 0, 0]).length - 1; omega) k (by omega)
  | false =>
   rw [if_neg (by decide), if_neg (by decide)]
   exact j1_eq t _ 0 _ val0 hv3 (by omega) k (by omega)
 | succ d ih =>
  intro j k acc hj hd hk ha hv
  obtain ⟨k, rfl⟩ : ∃ m, k = m + 1 := ⟨k - 1, by omega⟩
  have hlt : j < rest.length := by omega
  simp only [impl_ParseInstr.l0]
  rw [if_pos (by omega), if_pos (by omega), if_pos (by rw [List.length_map]; omega), rdB rest j hlt, atoiF _ (hw _ (List.getElem_mem hlt)), Option.bind_some, List.drop_eq_getElem_cons hlt, List.all_cons]
  cases hb : (atoiR rest[j]).2 with
  | true =>
   have : okA rest[j] = false := by unfold okA; rw [hb]; rfl
   rw [if_pos rfl, this]
   rfl
  | false =>
   have hin : impl_within.f (atoiR rest[j]).1 (-1000000) 1000000 = some (valB (atoiR rest[j]).1) := within _ _ _
   have hok : okA rest[j] = valB (atoiR rest[j]).1 := by unfold okA; rw [hb]; rfl
   rw [if_neg (by decide), hin, Option.bind_some, hok]
   cases hx : valB (atoiR rest[j]).1 with
   | false =>
    rw [if_neg (by decide)]
    rfl
   | true =>
    rw [if_pos rfl, if_pos (by omega), wrap_succ hlt (by omega), ih (j + 1) k _ (by omega) (by omega) (by omega) (by simp; omega) (by
     intro x hx'
     rcases List.mem_append.1 hx' with h | h
     ·exact hv x h
     ·simp only [List.mem_cons, List.mem_nil_iff, or_false] at h
      rw [h]
      exact hx)]
    have e : acc ++ [(atoiR rest[j]).1] ++ (rest.drop (j + 1)).map (fun w => (atoiR w).1) ++ [0, 0, 0] = acc ++ ((atoiR rest[j]).1 :: (rest.drop (j + 1)).map (fun w => (atoiR w).1)) ++ [0, 0, 0] := by simp only [List.append_assoc, List.cons_append, List.nil_append]
    rw [e]
    rfl
theorem impl_parseInstr_all (t : List UInt8) (ht : t.length ≤ 60) (w0 : List UInt8) (rest : List (List UInt8)) (hp : parts 32 t = w0 :: rest) (k : Nat) (hk : 300 ≤ k) :
  impl_ParseInstr.f k (mk t) = some (if rest.all okA = true then finI t (idxI w0) (rest.map (fun w => (atoiR w).1) ++ [0, 0, 0]) else zeroA) := by
 unfold impl_ParseInstr.f
 have hj := join_parts 32 t
 have hlen := parts_len 32 t
 rw [hp] at hj hlen
 rw [if_neg (by rw [mk_size]; omega), sep_mk, splitF t (by omega), Option.bind_some, hp, if_pos (by rw [List.length_map, List.length_cons]; omega), Option.bind_some]
 have e : ((w0 :: rest).map mk).drop 1 = rest.map mk := rfl
 rw [e]
 have := impl_loop t w0 rest (fun w hw => by have := join_ge [32] _ w (List.mem_cons_of_mem w0 hw); rw [hj] at this; omega) (by simp only [List.length_cons] at hlen; omega) rest.length 0 k [] (by omega) (by omega) (by simp only [List.length_cons] at hlen; omega) rfl (by simp)
 rw [List.length_map]
 simpa using this
def SoundI (t : List UInt8) (op : Int) (a : Ans) : Prop := a = zeroA ∨ ∃ r s n, a = (op, r, s, n, true) ∧ goodI op r s n = true ∧ instrW op r s n = t
theorem fin2_sound (t : List UInt8) (op r s : Int) (ms : List Int) (hr : valB r = true) (hs : valB s = true) (hm : ∀ x ∈ ms, valB x = true) (hl : 0 < ms.length) (h4 : (op != 4 || r == 0) = true) (h5 : (usesSB op || s == 0) = true) : SoundI t op (fin2 t op r s ms) := by
 unfold fin2
 have hv : valB (if usesNB op = true then rd ms 0 else 0) = true := by
  split
  ·exact rd_val hm hl
  ·exact val0
 have hz : (usesNB op || (if usesNB op = true then rd ms 0 else 0) == 0) = true := by
  cases usesNB op <;> simp
 generalize (if usesNB op = true then rd ms 0 else 0) = n at hv hz ⊢
 by_cases ht : t = []
 ·rw [if_pos ht]
  exact Or.inl rfl
 rw [if_neg ht]
 by_cases e : instrW op r s n = t
 rotate_left
 ·rw [if_neg e]
  exact Or.inl rfl
 rw [if_pos e]
 refine Or.inr ⟨r, s, n, rfl, ?_, e⟩
 have h0 : inB op 0 8 = true := by
  cases h : inB op 0 8 with
  | true => rfl
  | false => exact absurd (e.symm.trans ((instrW_nil op r s n).2 h)) ht
 unfold goodI
 rw [h0, hr, hs, hv, h4, h5, hz]
 rfl
theorem fin1_sound (t : List UInt8) (op r : Int) (ms : List Int) (hr : valB r = true) (hm : ∀ x ∈ ms, valB x = true) (hl : 1 < ms.length) (h4 : (op != 4 || r == 0) = true) : SoundI t op (fin1 t op r ms) := by
 unfold fin1
 cases h : usesSB op with
 | true =>
  rw [if_pos rfl]
  exact fin2_sound t op r _ _ hr (rd_val hm (by omega)) (fun x hx => hm x (List.mem_of_mem_drop hx)) (by rw [List.length_drop]; omega) h4 (by rw [h]; rfl)
 | false =>
  rw [if_neg (by decide)]
  exact fin2_sound t op r 0 _ hr val0 hm (by omega) h4 (by simp)
theorem fin_sound (t : List UInt8) (op : Int) (ns : List Int) (hn : ∀ x ∈ ns, valB x = true) (hl : 3 ≤ ns.length) : SoundI t op (finI t op ns) := by
 unfold finI
 cases h : (op != 4) with
 | true =>
  rw [if_pos rfl]
  exact fin1_sound t op _ _ (rd_val hn (by omega)) (fun x hx => hn x (List.mem_of_mem_drop hx)) (by rw [List.length_drop]; omega) (by rw [h]; rfl)
 | false =>
  rw [if_neg (by decide)]
  exact fin1_sound t op 0 _ val0 hn (by omega) (by simp)

/-! ### both -/
theorem instrW_parts (op r s n : Int) (h : inB op 0 8 = true) : ∃ w0 rest, instrWs op r s n = w0 :: rest ∧ instrW op r s n = Go.Lib.join (w0 :: rest) [32] ∧ parts 32 (instrW op r s n) = w0 :: rest := by
 have e : instrW op r s n = Go.Lib.join (instrWs op r s n) [32] := by unfold instrW; rw [if_pos h]
 have hno : ∀ x ∈ instrWs op r s n, (32 : UInt8) ∉ x := by
  have h1 := not_in_itoa r 32 (by decide)
  have h2 := not_in_itoa s 32 (by decide)
  have h3 := not_in_itoa n 32 (by decide)
  unfold instrWs
  repeat' split
  all_goals
   simp only [List.mem_cons, List.not_mem_nil, or_false, forall_eq_or_imp, forall_eq]
   first
    | exact ⟨by decide, h1, h2, h3⟩
    | exact ⟨by decide, h1, h2⟩
    | exact ⟨by decide, h1, h3⟩
    | decide
 have hc : ∃ w0 rest, instrWs op r s n = w0 :: rest := by
  unfold instrWs
  repeat' split
  all_goals exact ⟨_, _, rfl⟩
 obtain ⟨w0, rest, hw⟩ := hc
 rw [hw] at e hno
 exact ⟨w0, rest, hw, e, by rw [e]; exact parts_words 32 rest w0 hno⟩
theorem goodI_of {op r s n : Int} (h : goodI op r s n = true) : (0 ≤ op ∧ op ≤ 8) ∧ valB r = true ∧ valB s = true ∧ valB n = true ∧ (op = 4 → r = 0) ∧ (usesSB op = false → s = 0) ∧ (usesNB op = false → n = 0) := by
 unfold goodI at h
 simp only [Bool.and_eq_true, Bool.or_eq_true, bne_iff_ne, beq_iff_eq, ne_eq] at h
 obtain ⟨⟨⟨⟨⟨⟨h1, h2⟩, h3⟩, h4⟩, h5⟩, h6⟩, h7⟩ := h
 refine ⟨inB_true.1 h1, h2, h3, h4, fun e => ?_, fun e => ?_, fun e => ?_⟩
 ·rcases h5 with h | h
  ·exact absurd e h
  ·exact h
 ·rcases h6 with h | h
  ·rw [h] at e; cases e
  ·exact h
 ·rcases h7 with h | h
  ·rw [h] at e; cases e
  ·exact h
theorem okA_itoa {x : Int} (h : valB x = true) : okA (Go.Lib.itoa x) = true ∧ (atoiR (Go.Lib.itoa x)).1 = x := by
 have hx := valB_range h
 have := atoiR_itoa x (by omega)
 unfold okA
 rw [this]
 exact ⟨by simp [h], rfl⟩
theorem idx_words : idxI [115, 101, 116] = 0 ∧ idxI [97, 100, 100] = 1 ∧ idxI [108, 111, 97, 100] = 2 ∧ idxI [115, 116, 111, 114, 101] = 3 ∧ idxI [102, 101, 110, 99, 101] = 4 ∧ idxI [99, 97, 115] = 5 ∧ idxI [106, 122] = 6 ∧ idxI [115, 119, 97, 112] = 7 ∧ idxI [115, 117, 98] = 8 := by
 refine ⟨?_, ?_, ?_, ?_, ?_, ?_, ?_, ?_, ?_⟩ <;> rfl
theorem rd0 (x : Int) (l : List Int) : rd (x :: l) 0 = x := rfl
/-- Both read the text of an instruction back. -/
theorem both_yes (op r s n : Int) (h : goodI op r s n = true) (w0 : List UInt8) (rest : List (List UInt8)) (hw : instrWs op r s n = w0 :: rest) :
  findI [0, 1, 2, 3, 4, 5, 6, 7, 8] w0 rest = (op, r, s, n, true) ∧ rest.all okA = true ∧ finI (instrW op r s n) (idxI w0) (rest.map (fun w => (atoiR w).1) ++ [0, 0, 0]) = (op, r, s, n, true) := by
 obtain ⟨h0, hr, hs, hn, g4, gs, gn⟩ := goodI_of h
 have hne : instrW op r s n ≠ [] := fun e => by
  have := (instrW_nil op r s n).1 e
  rw [inB_true.2 h0] at this
  cases this
 have r1 := okW_itoa hr
 have s1 := okW_itoa hs
 have n1 := okW_itoa hn
 have r2 := okA_itoa hr
 have s2 := okA_itoa hs
 have n2 := okA_itoa hn
 obtain h' | h' | h' | h' | h' | h' | h' | h' | h' : op = 0 ∨ op = 1 ∨ op = 2 ∨ op = 3 ∨ op = 4 ∨ op = 5 ∨ op = 6 ∨ op = 7 ∨ op = 8 := by omega
 all_goals
  subst h'
  simp only [instrWs] at hw
  simp at hw
  obtain ⟨rfl, rfl⟩ := hw
  try obtain rfl := g4 rfl
  try obtain rfl := gs rfl
  try obtain rfl := gn rfl
  refine ⟨?_, ?_, ?_⟩
  ·simp [findI, wordW, wordsI, formW, formsI, fillW, fillA, r1.1, r1.2, s1.1, s1.2, n1.1, n1.2]
  ·simp [r2.1, s2.1, n2.1]
  ·simp [idx_words, finI, fin1, fin2, usesSB, usesNB, rd0, r2.2, s2.2, n2.2, hne]
theorem atoiR_vals {rest : List (List UInt8)} (h : rest.all okA = true) : ∀ x ∈ rest.map (fun w => (atoiR w).1) ++ [0, 0, 0], valB x = true := by
 intro x hx
 rcases List.mem_append.1 hx with h' | h'
 ·obtain ⟨w, hw, rfl⟩ := List.mem_map.1 h'
  have := List.all_eq_true.1 h w hw
  unfold okA at this
  rw [Bool.and_eq_true] at this
  exact this.2
 ·simp only [List.mem_cons, List.mem_nil_iff, or_false, or_self] at h'
  rw [h']
  exact val0
def isInstr (t : List UInt8) : Prop := ∃ op r s n, goodI op r s n = true ∧ t = instrW op r s n
theorem parseInstr_yes (op r s n : Int) (h : goodI op r s n = true) (ht : (instrW op r s n).length ≤ 60) (k : Nat) (hk : 300 ≤ k) :
  spec_ParseInstr.f k (mk (instrW op r s n)) = some (op, r, s, n, true) ∧ impl_ParseInstr.f k (mk (instrW op r s n)) = some (op, r, s, n, true) := by
 obtain ⟨w0, rest, hw, _, hp⟩ := instrW_parts op r s n (inB_true.2 (goodI_of h).1)
 obtain ⟨h1, h2, h3⟩ := both_yes op r s n h w0 rest hw
 rw [spec_parseInstr_all _ ht w0 rest hp k hk, impl_parseInstr_all _ ht w0 rest hp k hk, h1, if_pos h2, h3]
 exact ⟨rfl, rfl⟩
theorem parseInstr_no (t : List UInt8) (hn : ¬ isInstr t) (k : Nat) (hk : 300 ≤ k) : spec_ParseInstr.f k (mk t) = some zeroA ∧ impl_ParseInstr.f k (mk t) = some zeroA := by
 by_cases ht : t.length ≤ 60
 rotate_left
 ·unfold spec_ParseInstr.f impl_ParseInstr.f
  rw [if_pos (by rw [mk_size]; omega), if_pos (by rw [mk_size]; omega)]
  exact ⟨rfl, rfl⟩
 obtain ⟨w0, rest, hp⟩ := parts_cons 32 t
 have hj := join_parts 32 t
 rw [hp] at hj
 rw [spec_parseInstr_all t ht w0 rest hp k hk, impl_parseInstr_all t ht w0 rest hp k hk]
 constructor
 ·rcases find_sound w0 rest [0, 1, 2, 3, 4, 5, 6, 7, 8] (by decide) with e | ⟨op, r, s, n, _, e2, e3⟩
  ·rw [e]
  ·exact absurd ⟨op, r, s, n, e2, by rw [e3, hj]⟩ hn
 ·by_cases ha : rest.all okA = true
  ·rw [if_pos ha]
   rcases fin_sound t (idxI w0) _ (atoiR_vals ha) (by simp) with e | ⟨r, s, n, _, e2, e3⟩
   ·rw [e]
   ·exact absurd ⟨_, r, s, n, e2, e3.symm⟩ hn
  ·rw [if_neg ha]
theorem parseInstr_same (t : List UInt8) : ∃ a : Ans, (∀ k, 300 ≤ k → spec_ParseInstr.f k (mk t) = some a) ∧ (∀ k, 300 ≤ k → impl_ParseInstr.f k (mk t) = some a) := by
 by_cases h : isInstr t
 rotate_left
 ·exact ⟨zeroA, fun k hk => (parseInstr_no t h k hk).1, fun k hk => (parseInstr_no t h k hk).2⟩
 obtain ⟨op, r, s, n, hg, rfl⟩ := h
 by_cases ht : (instrW op r s n).length ≤ 60
 ·exact ⟨_, fun k hk => (parseInstr_yes op r s n hg ht k hk).1, fun k hk => (parseInstr_yes op r s n hg ht k hk).2⟩
 refine ⟨zeroA, fun k _ => ?_, fun k _ => ?_⟩
 ·unfold spec_ParseInstr.f
  rw [if_pos (by rw [mk_size]; omega)]
  rfl
 ·unfold impl_ParseInstr.f
  rw [if_pos (by rw [mk_size]; omega)]
  rfl

end Go.Proofs.YtbgclnjnngolmaaGreatDoor.Pure

/- An instruction of the program; equality of codes in the laws. No condition but that lengths are lengths. -/
namespace Go.Proofs.YtbgclnjnngolmaaGreatDoor.Pure
open Go.RowKit Go.Proofs.YtbgclnjnngolmaaGreatDoor.P Go.Proofs.YtbgclnjnngolmaaGreatDoor.Gen Go.Proofs.YtbgclnjnngolmaaGreatDoorW.PrintWords

abbrev Ins := S55
theorem eqInstrS_same (l : List Ins) (hl : Len l) (k : Nat) (hk : l.length < k) : laws_eqInstrS.f k l l = some true := by
  unfold laws_eqInstrS.f
  have hl' : l.length ≤ 9223372036854775807 := hl
  rw [if_pos rfl]
  have := loop_all l (fun _ => true) (fun k i => laws_eqInstrS.l0 k l l i) (fun k j hj => by
    simp only [laws_eqInstrS.l0, laws_eqInstr.f]
    rw [if_pos (by omega), if_pos (by omega), if_pos (by omega), wrap_succ hj hl']
    simp) (fun k => by
    simp only [laws_eqInstrS.l0]
    rw [if_neg (by omega)]) k hk
  rw [this]
  simp

end Go.Proofs.YtbgclnjnngolmaaGreatDoor.Pure

/- Parsing a code's text: the program's and the reference's ParseCode give a code exactly where the text is its text. No condition but on the length. -/
namespace Go.Proofs.YtbgclnjnngolmaaGreatDoor.Pure
open Go.RowKit Go.Proofs.YtbgclnjnngolmaaGreatDoor.P Go.Proofs.YtbgclnjnngolmaaGreatDoor.Gen Go.Proofs.YtbgclnjnngolmaaGreatDoorW.PrintWords Go.Proofs.YtbgclnjnngolmaaGreatDoor.Split

noncomputable def pI (t : List UInt8) : Ans := (parseInstr_same t).choose
theorem pI_spec (t : List UInt8) (k : Nat) (hk : 300 ≤ k) : spec_ParseInstr.f k (mk t) = some (pI t) := (parseInstr_same t).choose_spec.1 k hk
theorem pI_impl (t : List UInt8) (k : Nat) (hk : 300 ≤ k) : impl_ParseInstr.f k (mk t) = some (pI t) := (parseInstr_same t).choose_spec.2 k hk
noncomputable def okP (t : List UInt8) : Bool := (pI t).2.2.2.2
noncomputable def pX (t : List UInt8) : Ins := ⟨(pI t).1, (pI t).2.1, (pI t).2.2.1, (pI t).2.2.2.1⟩
def insT (x : Ins) : List UInt8 := instrW x.f0 x.f1 x.f2 x.f3
def goodX (x : Ins) : Bool := goodI x.f0 x.f1 x.f2 x.f3
theorem itoa_short {x : Int} (h : valB x = true) : (Go.Lib.itoa x).length + 1 ≤ 9 := by
 have hx := valB_range h
 unfold Go.Lib.itoa
 split
 ·have := digits7 x.natAbs (by omega)
  simp only [List.length_cons]
  omega
 ·have := digits7 x.toNat (by omega)
  omega
theorem instrWs_good (op r s n : Int) (hr : valB r = true) (hs : valB s = true) (hn : valB n = true) : (instrWs op r s n).length ≤ 4 ∧ ∀ x ∈ instrWs op r s n, x.length + 1 ≤ 9 := by
 have h1 := itoa_short hr
 have h2 := itoa_short hs
 have h3 := itoa_short hn
 unfold instrWs
 repeat' split
 all_goals
  refine ⟨by simp, ?_⟩
  simp only [List.mem_cons, List.not_mem_nil, or_false, forall_eq_or_imp, forall_eq]
  first
   | exact ⟨by decide, h1, h2, h3⟩
   | exact ⟨by decide, h1, h2⟩
   | exact ⟨by decide, h1, h3⟩
   | decide
theorem instrW_short {op r s n : Int} (h : goodI op r s n = true) : (instrW op r s n).length ≤ 36 := by
 obtain ⟨h0, hr, hs, hn, _⟩ := goodI_of h
 obtain ⟨hl, hx⟩ := instrWs_good op r s n hr hs hn
 have := join_len [32] 9 _ hx
 unfold instrW
 rw [if_pos (inB_true.2 h0)]
 omega
theorem pI_good {x : Ins} (h : goodX x = true) : okP (insT x) = true ∧ pX (insT x) = x := by
 have h1 := (parseInstr_yes x.f0 x.f1 x.f2 x.f3 h (by have := instrW_short h; omega) 300 (Nat.le_refl _)).1
 have h2 := pI_spec (insT x) 300 (Nat.le_refl _)
 have e : pI (insT x) = (x.f0, x.f1, x.f2, x.f3, true) := Option.some.inj (h2.symm.trans h1)
 unfold okP pX
 rw [e]
 exact ⟨rfl, rfl⟩
theorem pI_ok {t : List UInt8} (h : okP t = true) : goodX (pX t) = true ∧ insT (pX t) = t := by
 by_cases hi : isInstr t
 ·obtain ⟨op, r, s, n, hg, rfl⟩ := hi
  have := pI_good (x := ⟨op, r, s, n⟩) hg
  have e : pX (instrW op r s n) = ⟨op, r, s, n⟩ := this.2
  rw [e]
  exact ⟨hg, rfl⟩
 have h1 := (parseInstr_no t hi 300 (Nat.le_refl _)).1
 have h2 := pI_spec t 300 (Nat.le_refl _)
 have e : pI t = zeroA := Option.some.inj (h2.symm.trans h1)
 unfold okP at h
 rw [e] at h
 cases h
abbrev CodeA := List Ins × Bool
/-- What the words of a code come to. -/
noncomputable def codeRes (ws : List (List UInt8)) : CodeA := if (ws.all okP && decide (ws.length ≤ 16)) = true then (ws.map pX, true) else ([], false)

theorem impl_code_loop (ws : List (List UInt8)) (hn : ws.length ≤ 1000) : ∀ d (i k : Nat) (acc : List Ins), i ≤ ws.length → ws.length - i = d → 320 + d < k → acc.length = i → i ≤ 16 →
  impl_ParseCode.l0 k acc (ws.map mk) (ws.length : Int) (i : Int) = some (if ((ws.drop i).all okP && decide (ws.length ≤ 16)) = true then (acc ++ (ws.drop i).map pX, true) else ([], false)) := by
 intro d
 induction d with
 | zero =>
  intro i k acc hi hd hk ha h16
  obtain ⟨k, rfl⟩ : ∃ m, k = m + 1 := ⟨k - 1, by omega⟩
  simp only [impl_ParseCode.l0]
  rw [if_neg (by omega), List.drop_of_length_le (show ws.length ≤ i by omega), decide_eq_true (show ws.length ≤ 16 by omega)]
  simp
 | succ d ih =>
  intro i k acc hi hd hk ha h16
  obtain ⟨k, rfl⟩ : ∃ m, k = m + 1 := ⟨k - 1, by omega⟩
  have hlt : i < ws.length := by omega
  simp only [impl_ParseCode.l0]
  rw [if_pos (by omega), if_pos (by omega), if_pos (by rw [List.length_map]; omega), rdB ws i hlt, pI_impl _ k (by omega), Option.bind_some, List.drop_eq_getElem_cons hlt, List.all_cons]
  cases hok : okP ws[i] with
  | false =>
   have : (pI ws[i]).2.2.2.2 = false := hok
   rw [this, if_neg (by decide)]
   rfl
  | true =>
   have : (pI ws[i]).2.2.2.2 = true := hok
   rw [this, if_pos rfl]
   by_cases c : i = 16
   ·rw [if_pos (by omega), decide_eq_false (show ¬ ws.length ≤ 16 by omega), Bool.and_false, if_neg (by decide)]
   rw [if_neg (by omega), if_pos (by omega), wrap_succ hlt (by omega)]
   have e : (⟨(pI ws[i]).1, (pI ws[i]).2.1, (pI ws[i]).2.2.1, (pI ws[i]).2.2.2.1⟩ : Ins) = pX ws[i] := rfl
   rw [e, ih (i + 1) k (acc ++ [pX ws[i]]) (by omega) (by omega) (by omega) (by rw [List.length_append, List.length_singleton]; omega) (by omega), Bool.true_and, List.map_cons, List.append_assoc]
   rfl
def sp (p : List UInt8) : Bool := p.head? == some 32
theorem spec_code_loop (ps : List (List UInt8)) (hn : ps.length ≤ 1000) : ∀ d (i k : Nat) (acc : List Ins), 1 ≤ i → i ≤ ps.length → ps.length - i = d → 320 + 2 * d < k → acc.length = i →
  spec_ParseCode.l0 k acc (ps.map mk) (i : Int) = some (if (((ps.drop i).all fun p => sp p && okP p.tail) && decide (ps.length ≤ 16)) = true then (acc ++ (ps.drop i).map (fun p => pX p.tail), true) else ([], false)) := by
 intro d
 induction d with
 | zero =>
  intro i k acc h1 hi hd hk ha
  obtain ⟨k, rfl⟩ : ∃ m, k = m + 1 := ⟨k - 1, by omega⟩
  simp only [spec_ParseCode.l0]
  rw [if_neg (by rw [List.length_map]; omega), List.drop_of_length_le (show ps.length ≤ i by omega)]
  by_cases c : ps.length ≤ 16
  rotate_left
  ·rw [if_pos (by omega), decide_eq_false c]
   simp
  rw [if_neg (by omega), decide_eq_true c]
  simp
 | succ d ih =>
  intro i k acc h1 hi hd hk ha
  obtain ⟨k, rfl⟩ : ∃ m, k = m + 1 + 1 := ⟨k - 2, by omega⟩
  have hlt : i < ps.length := by omega
  simp only [spec_ParseCode.l0]
  rw [if_pos (by rw [List.length_map]; omega), if_pos (by omega), if_pos (by omega), rdB ps i hlt, List.drop_eq_getElem_cons hlt, List.all_cons, List.map_cons]
  generalize ps[i] = p
  have bad : ∀ x : Bool, sp p = false → x = true → spec_ParseCode.j1 (k + 1) acc (ps.map mk) (i : Int) (mk p) x = some (if ((sp p && okP p.tail && (ps.drop (i + 1)).all fun p => sp p && okP p.tail) && decide (ps.length ≤ 16)) = true then (acc ++ (pX p.tail :: (ps.drop (i + 1)).map fun p => pX p.tail), true) else ([], false)) := by
   intro x hs hx
   simp only [spec_ParseCode.j1]
   rw [if_pos hx, hs]
   rfl
  cases p with
  | nil =>
   rw [if_pos (by rw [mk_size]; rfl)]
   exact bad true rfl rfl
  | cons b q =>
   have hb : bt (mk (b :: q)) 0 = (b.toNat : Int) := bt_mk' (b :: q) 0 (by simp)
   rw [if_neg (by rw [mk_size, List.length_cons]; omega), if_pos (by rw [mk_size, List.length_cons]; omega), hb]
   by_cases c : b = 32
   rotate_left
   ·refine bad _ ?_ ?_
    ·unfold sp
     simp [c]
    ·simp only [bne_iff_ne, ne_eq]
     intro h
     exact c ((byte_is' b 32).1 h)
   have hs : sp (b :: q) = true := by unfold sp; rw [c]; rfl
   have hx : ((b.toNat : Int) != 32) = false := by rw [c]; rfl
   rw [hx, hs]
   simp only [spec_ParseCode.j1, List.tail_cons]
   have hex : (mk (b :: q)).extract 1 (mk (b :: q)).size = mk q := by
    rw [mk_extract, mk_size]
    simp
   rw [if_neg (by decide), if_pos (by rw [mk_size, List.length_cons]; omega), hex, pI_spec q k (by omega), Option.bind_some]
   rcases Bool.eq_false_or_eq_true (okP q) with hok | hok
   rotate_left
   ·have : (pI q).2.2.2.2 = false := hok
    rw [this, if_neg (by decide)]
    simp only [hok, Bool.and_false, Bool.false_and, Bool.false_eq_true, if_false]
   ·have : (pI q).2.2.2.2 = true := hok
    have e : (⟨(pI q).1, (pI q).2.1, (pI q).2.2.1, (pI q).2.2.2.1⟩ : Ins) = pX q := rfl
    rw [this, if_pos rfl, if_pos (by omega), wrap_succ hlt (by omega), e, ih (i + 1) k (acc ++ [pX q]) (by omega) (by omega) (by omega) (by omega) (by rw [List.length_append, List.length_singleton]; omega), List.append_assoc]
    simp only [hok, Bool.true_and]
    rfl
theorem all_two {α : Type} (l : List α) (p q : α → Bool) : (l.all fun x => p x && q x) = (l.all p && l.all q) := by
 induction l with
 | nil => rfl
 | cons x l ih =>
  rw [List.all_cons, List.all_cons, List.all_cons, ih]
  cases p x <;> cases q x <;> cases l.all p <;> rfl
theorem splitLong (sep : List UInt8) (hs : sep ≠ []) : ∀ (ws : List (List UInt8)) (w : List UInt8), ws.length ≤ (Go.Lib.join (w :: ws) sep).length
 | [], w => Nat.zero_le _
 | x :: ws, w => by
  have := splitLong sep hs ws x
  have h1 : 0 < sep.length := List.length_pos_iff.2 hs
  rw [Go.Lib.join_cons, joinTail_join, List.length_append, List.length_append, List.length_cons]
  omega
theorem impl_parseCode_all (t : List UInt8) (ht : t.length ≤ 1048576) (hne : t ≠ []) (k : Nat) (hk : 400 ≤ k) : impl_ParseCode.f k (mk t) = some (codeRes (Go.Lib.splitK [59, 32] 0 (min 17 (t.length + 1) - 1) t)) := by
 unfold impl_ParseCode.f
 have h17 := splitNF t [59, 32] 17 ht (by simp) (by omega) (by omega)
 rw [show ((17 : Nat) : Int) = 17 from rfl] at h17
 have hs : (⟨#[59, 32]⟩ : ByteArray) = mk [59, 32] := rfl
 rw [Option.bind_some, mk_toList, if_neg hne, hs, h17, Option.bind_some, List.length_map]
 have hlen := splitK_len [59, 32] (min 17 (t.length + 1) - 1) t
 have := impl_code_loop (Go.Lib.splitK [59, 32] 0 (min 17 (t.length + 1) - 1) t) (by omega) _ 0 k [] (by omega) rfl (by omega) rfl (by omega)
 rw [List.drop_zero, List.nil_append] at this
 exact this
theorem codeRes_cons (p : List UInt8) (r : List (List UInt8)) : codeRes (p :: r.map List.tail) = if ((okP p && r.all (okP ∘ List.tail)) && decide (r.length + 1 ≤ 16)) = true then (pX p :: r.map (pX ∘ List.tail), true) else ([], false) := by
 unfold codeRes
 rw [List.all_cons, List.all_map, List.map_cons, List.map_map, List.length_cons, List.length_map]
theorem spec_parseCode_all (t : List UInt8) (ht : t.length ≤ 992) (hne : t ≠ []) (p : List UInt8) (r : List (List UInt8)) (hp : parts 59 t = p :: r) (k : Nat) (hk : 4000 ≤ k) :
  spec_ParseCode.f k (mk t) = some (if r.all sp = true then codeRes (p :: r.map List.tail) else ([], false)) := by
 unfold spec_ParseCode.f
 obtain ⟨k, rfl⟩ : ∃ m, k = m + 1 := ⟨k - 1, by omega⟩
 have h1 : spec_l01Parts.f (k + 1) (mk t) 59 = _ := l01Parts t 59 (by omega) (k + 1) (by omega)
 have hlen := parts_len 59 t
 rw [hp, List.length_cons] at hlen
 rw [mk_toList, if_neg hne, if_neg (by rw [mk_size]; omega), h1, Option.bind_some, hp]
 simp only [spec_ParseCode.l0]
 have h0 : rdOf ByteArray.empty ((p :: r).map mk) 0 = mk p := rfl
 rw [if_pos (by rw [List.length_map, List.length_cons]; omega), if_pos (by omega), if_neg (by omega), h0, pI_spec p k (by omega), Option.bind_some]
 rw [codeRes_cons]
 rcases Bool.eq_false_or_eq_true (okP p) with hok | hok
 rotate_left
 ·have : (pI p).2.2.2.2 = false := hok
  rw [this, if_neg (by decide), hok]
  cases r.all sp <;> rfl
 ·have : (pI p).2.2.2.2 = true := hok
  rw [hok]
  have e : (⟨(pI p).1, (pI p).2.1, (pI p).2.2.1, (pI p).2.2.2.1⟩ : Ins) = pX p := rfl
  have hw : wrap64 (0 + 1) = ((1 : Nat) : Int) := by unfold wrap64; omega
  rw [this, if_pos rfl, if_pos (by simp), hw, e]
  have hl := spec_code_loop (p :: r) (by rw [List.length_cons]; omega) r.length 1 k ([] ++ [pX p]) (Nat.le_refl _) (by rw [List.length_cons]; omega) (by rw [List.length_cons]; omega) (by omega) rfl
  rw [show (p :: r).drop 1 = r from rfl] at hl
  refine hl.trans (congrArg some ?_)
  have ea : (r.all fun p => sp p && okP p.tail) = (r.all sp && r.all (okP ∘ List.tail)) := all_two r sp (okP ∘ List.tail)
  rw [ea, List.length_cons]
  cases r.all sp <;> cases r.all (okP ∘ List.tail) <;> cases decide (r.length + 1 ≤ 16) <;> rfl

/-! ### both -/
def goodCode (l : List Ins) : Prop := l.length ≤ 16 ∧ ∀ x ∈ l, goodX x = true
def codeW (l : List Ins) : List UInt8 := Go.Lib.join (l.map insT) [59, 32]
theorem insT_no {x : Ins} (h : goodX x = true) (c : UInt8) (hc : c = 59) : c ∉ insT x := by
 subst hc
 obtain ⟨w0, rest, hw, e, _⟩ := instrW_parts x.f0 x.f1 x.f2 x.f3 (inB_true.2 (goodI_of h).1)
 have hno : ∀ y ∈ instrWs x.f0 x.f1 x.f2 x.f3, (59 : UInt8) ∉ y := by
  have h1 := not_in_itoa x.f1 59 (by decide)
  have h2 := not_in_itoa x.f2 59 (by decide)
  have h3 := not_in_itoa x.f3 59 (by decide)
  unfold instrWs
  repeat' split
  all_goals
   simp only [List.mem_cons, List.not_mem_nil, or_false, forall_eq_or_imp, forall_eq]
   first
    | exact ⟨by decide, h1, h2, h3⟩
    | exact ⟨by decide, h1, h2⟩
    | exact ⟨by decide, h1, h3⟩
    | decide
 rw [hw] at hno
 unfold insT
 rw [e]
 intro hm
 have key : ∀ ws : List (List UInt8), (∀ y ∈ ws, (59 : UInt8) ∉ y) → (59 : UInt8) ∉ Go.Lib.join ws [32] := by
  intro ws
  induction ws with
  | nil => intro _ h; cases h
  | cons y ws ih =>
   intro h
   cases ws with
   | nil =>
    rw [Go.Lib.join_one]
    exact h y List.mem_cons_self
   | cons z ws =>
    rw [Go.Lib.join_cons, joinTail_join]
    have := ih fun a ha => h a (List.mem_cons_of_mem _ ha)
    have h0 := h y List.mem_cons_self
    simp only [List.mem_append, List.mem_singleton, not_or]
    exact ⟨h0, by decide, this⟩
 exact key _ hno hm
theorem codeRes_good (l : List Ins) (h : goodCode l) : codeRes (l.map insT) = (l, true) := by
 unfold codeRes
 have h1 : (l.map insT).all okP = true := by
  rw [List.all_eq_true]
  intro w hw
  obtain ⟨x, hx, rfl⟩ := List.mem_map.1 hw
  exact (pI_good (h.2 x hx)).1
 have h2 : (l.map insT).map pX = l := by
  rw [List.map_map]
  conv => rhs; rw [← List.map_id l]
  exact List.map_congr_left fun x hx => (pI_good (h.2 x hx)).2
 rw [h1, List.length_map, decide_eq_true h.1, h2]
 rfl
theorem codeRes_sound (ws : List (List UInt8)) : codeRes ws = ([], false) ∨ ∃ l, goodCode l ∧ ws = l.map insT := by
 unfold codeRes
 by_cases h : (ws.all okP && decide (ws.length ≤ 16)) = true
 rotate_left
 ·rw [if_neg h]
  exact Or.inl rfl
 rw [Bool.and_eq_true, decide_eq_true_eq] at h
 refine Or.inr ⟨ws.map pX, ⟨by rw [List.length_map]; exact h.2, fun x hx => ?_⟩, ?_⟩
 ·obtain ⟨w, hw, rfl⟩ := List.mem_map.1 hx
  exact (pI_ok (List.all_eq_true.1 h.1 w hw)).1
 ·rw [List.map_map]
  conv => lhs; rw [← List.map_id ws]
  exact List.map_congr_left fun w hw => (pI_ok (List.all_eq_true.1 h.1 w hw)).2.symm
theorem join_blank (p : List UInt8) : ∀ ws : List (List UInt8), Go.Lib.join (p :: ws) [59, 32] = Go.Lib.join (p :: ws.map (32 :: ·)) [59] := by
 intro ws
 induction ws generalizing p with
 | nil => rfl
 | cons x ws ih =>
  rw [List.map_cons, Go.Lib.join_cons, Go.Lib.join_cons, joinTail_join, joinTail_join, ih x]
  cases ws with
  | nil => simp [Go.Lib.join_one]
  | cons y ws =>
   rw [List.map_cons, Go.Lib.join_cons, Go.Lib.join_cons]
   simp
theorem insT_ne {x : Ins} (h : goodX x = true) : insT x ≠ [] := fun e => by
 have := (instrW_nil x.f0 x.f1 x.f2 x.f3).1 e
 rw [inB_true.2 (goodI_of h).1] at this
 cases this
theorem codeW_len (l : List Ins) (h : goodCode l) : (codeW l).length ≤ 608 := by
 have h1 : ∀ x ∈ l.map insT, x.length + ([59, 32] : List UInt8).length ≤ 38 := by
  intro w hw
  obtain ⟨x, hx, rfl⟩ := List.mem_map.1 hw
  have := instrW_short (h.2 x hx)
  show (instrW x.f0 x.f1 x.f2 x.f3).length + 2 ≤ 38
  omega
 have := join_len [59, 32] 38 _ h1
 rw [List.length_map] at this
 have h2 := h.1
 unfold codeW
 have : l.length * 38 ≤ 16 * 38 := Nat.mul_le_mul_right 38 h2
 omega
theorem parseCode_yes (x : Ins) (r : List Ins) (h : goodCode (x :: r)) (k : Nat) (hk : 4000 ≤ k) :
  spec_ParseCode.f k (mk (codeW (x :: r))) = some (x :: r, true) ∧ impl_ParseCode.f k (mk (codeW (x :: r))) = some (x :: r, true) := by
 have hne : codeW (x :: r) ≠ [] := join_ne _ _ _ (insT_ne (h.2 x List.mem_cons_self))
 have hl := codeW_len _ h
 have hlong := splitLong [59, 32] (by simp) (r.map insT) (insT x)
 have hno : ∀ w ∈ insT x :: r.map insT, (59 : UInt8) ∉ w := by
  intro w hw
  rw [← List.map_cons] at hw
  obtain ⟨y, hy, rfl⟩ := List.mem_map.1 hw
  exact insT_no (h.2 y hy) 59 rfl
 have h16 := h.1
 rw [List.length_cons] at h16
 constructor
 ·have hp : parts 59 (codeW (x :: r)) = insT x :: (r.map insT).map (32 :: ·) := by
   unfold codeW
   rw [List.map_cons, join_blank, parts_words]
   intro w hw
   rcases List.mem_cons.1 hw with rfl | hw
   ·exact hno _ List.mem_cons_self
   ·obtain ⟨v, hv, rfl⟩ := List.mem_map.1 hw
    have := hno v (List.mem_cons_of_mem _ hv)
    simp only [List.mem_cons, not_or]
    exact ⟨by decide, this⟩
  rw [spec_parseCode_all _ (by omega) hne _ _ hp k hk]
  have h1 : ((r.map insT).map (32 :: ·)).all sp = true := by
   rw [List.all_eq_true]
   intro w hw
   obtain ⟨v, _, rfl⟩ := List.mem_map.1 hw
   rfl
  have h2 : ((r.map insT).map (32 :: ·)).map List.tail = r.map insT := by
   rw [List.map_map]
   conv => rhs; rw [← List.map_id (r.map insT)]
   exact List.map_congr_left fun w _ => rfl
  rw [if_pos h1, h2, ← List.map_cons, codeRes_good _ h]
 ·rw [impl_parseCode_all _ (by omega) hne k (by omega)]
  have hs : Go.Lib.splitK [59, 32] 0 (min 17 ((codeW (x :: r)).length + 1) - 1) (codeW (x :: r)) = (x :: r).map insT := by
   have e : codeW (x :: r) = Go.Lib.join (insT x :: r.map insT) [59, 32] := rfl
   rw [List.length_map] at hlong
   rw [e, List.map_cons]
   exact splitK_words 59 [32] (r.map insT) (insT x) _ hno (by rw [List.length_map]; omega)
  rw [hs, codeRes_good _ h]
theorem parseCode_no (t : List UInt8) (ht : t.length ≤ 1048576) (hne : t ≠ []) (hn : ∀ l, goodCode l → t ≠ codeW l) (k : Nat) (hk : 4000 ≤ k) :
  spec_ParseCode.f k (mk t) = some ([], false) ∧ impl_ParseCode.f k (mk t) = some ([], false) := by
 constructor
 ·by_cases hl : t.length ≤ 992
  ·obtain ⟨p, r, hp⟩ := parts_cons 59 t
   have hj := join_parts 59 t
   rw [hp] at hj
   rw [spec_parseCode_all t hl hne p r hp k hk]
   by_cases hs : r.all sp = true
   rotate_left
   ·rw [if_neg hs]
   rw [if_pos hs]
   rcases codeRes_sound (p :: r.map List.tail) with e | ⟨l, hg, e⟩
   ·rw [e]
   ·refine absurd ?_ (hn l hg)
    unfold codeW
    have hr : (r.map List.tail).map (32 :: ·) = r := by
     rw [List.map_map]
     conv => rhs; rw [← List.map_id r]
     refine List.map_congr_left fun w hw => ?_
     have := List.all_eq_true.1 hs w hw
     unfold sp at this
     cases w with
     | nil => cases this
     | cons b q =>
      have hb : b = 32 := by simpa using this
      rw [hb]
      rfl
    rw [← e, join_blank, hr, hj]
  ·unfold spec_ParseCode.f
   rw [mk_toList, if_neg hne, if_pos (by rw [mk_size]; omega)]
 ·rw [impl_parseCode_all t ht hne k (by omega)]
  rcases codeRes_sound (Go.Lib.splitK [59, 32] 0 (min 17 (t.length + 1) - 1) t) with e | ⟨l, hg, e⟩
  ·rw [e]
  ·refine absurd ?_ (hn l hg)
   unfold codeW
   rw [← e, splitK_join [59, 32] (by simp)]
theorem parseCode_nil (k : Nat) : spec_ParseCode.f k (mk []) = some ([], true) ∧ impl_ParseCode.f k (mk []) = some ([], true) := by
 unfold spec_ParseCode.f impl_ParseCode.f
 rw [Option.bind_some, mk_toList, if_pos rfl, if_pos rfl]
 exact ⟨rfl, rfl⟩
theorem parseCode_same (t : List UInt8) (ht : t.length ≤ 1048576) : ∃ l b, l.length ≤ 16 ∧ (∀ k, 4000 ≤ k → spec_ParseCode.f k (mk t) = some (l, b)) ∧ (∀ k, 4000 ≤ k → impl_ParseCode.f k (mk t) = some (l, b)) := by
 by_cases hne : t = []
 ·subst hne
  exact ⟨[], true, by simp, fun k _ => (parseCode_nil k).1, fun k _ => (parseCode_nil k).2⟩
 by_cases h : ∃ l, goodCode l ∧ t = codeW l
 rotate_left
 ·have hn : ∀ l, goodCode l → t ≠ codeW l := fun l hg e => h ⟨l, hg, e⟩
  exact ⟨[], false, by simp, fun k hk => (parseCode_no t ht hne hn k hk).1, fun k hk => (parseCode_no t ht hne hn k hk).2⟩
 obtain ⟨l, hg, rfl⟩ := h
 cases l with
 | nil => exact absurd rfl hne
 | cons x r => exact ⟨x :: r, true, hg.1, fun k hk => (parseCode_yes x r hg k hk).1, fun k hk => (parseCode_yes x r hg k hk).2⟩

end Go.Proofs.YtbgclnjnngolmaaGreatDoor.Pure

/- An atom of the program; equality of rows of atoms in the laws. No condition but that lengths are lengths. -/
namespace Go.Proofs.YtbgclnjnngolmaaGreatDoor.Pure
open Go.RowKit Go.Proofs.YtbgclnjnngolmaaGreatDoor.P Go.Proofs.YtbgclnjnngolmaaGreatDoor.Gen Go.Proofs.YtbgclnjnngolmaaGreatDoorW.PrintWords

abbrev Atm := S46
theorem eqAtomS_same (l : List Atm) (hl : Len l) (k : Nat) (hk : l.length < k) : laws_eqAtomS.f k l l = some true := by
  unfold laws_eqAtomS.f
  have hl' : l.length ≤ 9223372036854775807 := hl
  rw [if_pos rfl]
  have := loop_all l (fun _ => true) (fun k i => laws_eqAtomS.l0 k l l i) (fun k j hj => by
    simp only [laws_eqAtomS.l0, laws_eqAtom.f]
    rw [if_pos (by omega), if_pos (by omega), if_pos (by omega), wrap_succ hj hl']
    simp) (fun k => by
    simp only [laws_eqAtomS.l0]
    rw [if_neg (by omega)]) k hk
  rw [this]
  simp

end Go.Proofs.YtbgclnjnngolmaaGreatDoor.Pure

/- A query's text: the program's and the reference's. No condition but that its length is one of an argument. -/
namespace Go.Proofs.YtbgclnjnngolmaaGreatDoor.Pure
open Go.RowKit Go.Proofs.YtbgclnjnngolmaaGreatDoor.P Go.Proofs.YtbgclnjnngolmaaGreatDoor.Gen Go.Proofs.YtbgclnjnngolmaaGreatDoorW.PrintWords

/-- Has an atom a text? -/
def atOk (x : Atm) : Bool := (x.f0 == 0 || (x.f0 == 1 && x.f1 == 0)) && (valB x.f1 && (valB x.f2 && valB x.f3))
def atW (x : Atm) : List UInt8 := if atOk x = true then (if x.f0 = 0 then Go.Lib.itoa x.f1 ++ [58] ++ Go.Lib.itoa x.f2 ++ [61] ++ Go.Lib.itoa x.f3 else [91] ++ Go.Lib.itoa x.f2 ++ [93, 61] ++ Go.Lib.itoa x.f3) else []
def askTextW (l : List Atm) : ByteArray × Bool := if decide (l.length ≤ 8) && l.all atOk then (mk (Go.Lib.join (l.map atW) [32, 38, 32]), true) else (mk [], false)
theorem val_I64 {x : Int} (h : valB x = true) : I64 x := by
  unfold valB at h
  have := inB_true.1 h
  exact ⟨by omega, by omega⟩
theorem atOk_vals {x : Atm} (h : atOk x = true) : valB x.f1 = true ∧ valB x.f2 = true ∧ valB x.f3 = true := by
  unfold atOk at h
  simp only [Bool.and_eq_true] at h
  exact h.2
theorem atW_len (x : Atm) : (atW x).length ≤ 70 := by
  unfold atW
  split
  · next h =>
    obtain ⟨h1, h2, h3⟩ := atOk_vals h
    have e1 := itoa_len x.f1 (val_I64 h1).1 (val_I64 h1).2
    have e2 := itoa_len x.f2 (val_I64 h2).1 (val_I64 h2).2
    have e3 := itoa_len x.f3 (val_I64 h3).1 (val_I64 h3).2
    split <;> simp only [List.length_append, List.length_cons, List.length_nil] <;> omega
  · simp
theorem atW_nil (x : Atm) : atW x = [] ↔ atOk x = false := by
  unfold atW
  cases h : atOk x with
  | false => simp
  | true =>
    simp only [if_true]
    split <;> simp [itoa_ne]
theorem col_mk : (⟨#[58]⟩ : ByteArray) = mk [58] := rfl
theorem equ_mk : (⟨#[61]⟩ : ByteArray) = mk [61] := rfl
theorem bra_mk : (⟨#[91]⟩ : ByteArray) = mk [91] := rfl
theorem ket_mk : (⟨#[93, 61]⟩ : ByteArray) = mk [93, 61] := rfl
theorem amp_mk : (⟨#[32, 38, 32]⟩ : ByteArray) = mk [32, 38, 32] := rfl

theorem impl_atText_at (x : Atm) : impl_Atom_text.f 2 x.f0 x.f1 x.f2 x.f3 = some (mk (atW x)) := by
  unfold impl_Atom_text.f
  simp only [isValue, Option.bind_some]
  have bad : ∀ b, atOk x = false → b = true → impl_Atom_text.j0 2 b x.f0 x.f1 x.f2 x.f3 = some (mk (atW x)) := by
    intro b hb hx
    subst hx
    rw [(atW_nil x).2 hb]
    rfl
  by_cases h1 : valB x.f1 = true
  · rw [if_pos h1]
    by_cases h2 : valB x.f2 = true
    · rw [if_pos h2]
      by_cases h3 : valB x.f3 = true
      · rw [h3]
        have e1 := itoa_len x.f1 (val_I64 h1).1 (val_I64 h1).2
        have e2 := itoa_len x.f2 (val_I64 h2).1 (val_I64 h2).2
        have e3 := itoa_len x.f3 (val_I64 h3).1 (val_I64 h3).2
        simp only [impl_Atom_text.j0, Bool.not_true, Bool.false_eq_true, if_false]
        rw [itoaF x.f2 (val_I64 h2).1 (val_I64 h2).2, Option.bind_some, itoaF x.f3 (val_I64 h3).1 (val_I64 h3).2, Option.bind_some]
        by_cases k0 : x.f0 = 0
        · have ho : atOk x = true := by unfold atOk; simp [k0, h1, h2, h3]
          rw [if_pos k0, itoaF x.f1 (val_I64 h1).1 (val_I64 h1).2, Option.bind_some, if_pos (by rw [mk_size]; omega), col_mk, mk_append, if_pos (by rw [mk_size, mk_size, List.length_append, List.length_cons, List.length_nil]; omega), mk_append,
            if_pos (by rw [mk_size]; simp only [List.length_append, List.length_cons, List.length_nil]; omega), equ_mk, mk_append, if_pos (by rw [mk_size, mk_size]; simp only [List.length_append, List.length_cons, List.length_nil]; omega), mk_append]
          unfold atW
          rw [if_pos ho, if_pos k0]
        · rw [if_neg k0]
          by_cases k1 : x.f0 = 1
          · rw [if_pos k1]
            by_cases t0 : x.f1 = 0
            · have ho : atOk x = true := by unfold atOk; rw [h1, h2, h3, k1, t0]; rfl
              rw [if_pos t0, if_pos (by rw [mk_size]; omega), bra_mk, mk_append, if_pos (by rw [mk_size, List.length_append, List.length_cons, List.length_nil]; omega), ket_mk, mk_append,
                if_pos (by rw [mk_size, mk_size]; simp only [List.length_append, List.length_cons, List.length_nil]; omega), mk_append]
              unfold atW
              rw [if_pos ho, if_neg k0]
            · have ho : atOk x = false := by unfold atOk; rw [k1]; simp [t0]
              rw [if_neg t0, (atW_nil x).2 ho]
              rfl
          · have ho : atOk x = false := by unfold atOk; simp [k0, k1]
            rw [if_neg k1, (atW_nil x).2 ho]
            rfl
      · have ho : atOk x = false := by unfold atOk; simp only [Bool.not_eq_true] at h3; simp [h3]
        exact bad _ ho (by simp [h3])
    · have ho : atOk x = false := by unfold atOk; simp only [Bool.not_eq_true] at h2; simp [h2]
      rw [if_neg h2]
      exact bad _ ho rfl
  · have ho : atOk x = false := by unfold atOk; simp only [Bool.not_eq_true] at h1; simp [h1]
    rw [if_neg h1]
    exact bad _ ho rfl
theorem impl_atText (x : Atm) (k : Nat) (hk : 2 ≤ k) : impl_Atom_text.f k x.f0 x.f1 x.f2 x.f3 = some (mk (atW x)) :=
  at_rounds (impl_Atom_text.mono x.f0 x.f1 x.f2 x.f3) hk (impl_atText_at x)
theorem rdAtm1 (l : List Atm) (j : Nat) (h : j < l.length) : rd_T46 l (j : Int) = l[j] := getD_nat _ l j h

/-- One atom in the reference's loop. -/
theorem spec_at (x : Atm) (K : Nat → ByteArray → Option (ByteArray × Bool)) (s : List UInt8) (hs : s.length ≤ 4611686018427387904 + 3) (k : Nat) (hk : 20 ≤ k) (ho : atOk x = true) :
    (if x.f0 = 0 then ((spec_l01Num.f k x.f1).bind fun t10 => (if (mk s).size + t10.size ≤ 9223372036854775807 then (if ((mk s) ++ t10).size + 1 ≤ 9223372036854775807 then ((spec_l01Num.f k x.f2).bind fun t11 => (if (((mk s) ++ t10) ++ (⟨#[58]⟩ : ByteArray)).size + t11.size ≤ 9223372036854775807 then (if ((((mk s) ++ t10) ++ (⟨#[58]⟩ : ByteArray)) ++ t11).size + 1 ≤ 9223372036854775807 then ((spec_l01Num.f k x.f3).bind fun t12 => (if (((((mk s) ++ t10) ++ (⟨#[58]⟩ : ByteArray)) ++ t11) ++ (⟨#[61]⟩ : ByteArray)).size + t12.size ≤ 9223372036854775807 then (K k ((((((mk s) ++ t10) ++ (⟨#[58]⟩ : ByteArray)) ++ t11) ++ (⟨#[61]⟩ : ByteArray)) ++ t12)) else (none))) else (none)) else (none))) else (none)) else (none)))
      else (if (mk s).size + 1 ≤ 9223372036854775807 then ((spec_l01Num.f k x.f2).bind fun t13 => (if ((mk s) ++ (⟨#[91]⟩ : ByteArray)).size + t13.size ≤ 9223372036854775807 then (if (((mk s) ++ (⟨#[91]⟩ : ByteArray)) ++ t13).size + 2 ≤ 9223372036854775807 then ((spec_l01Num.f k x.f3).bind fun t14 => (if ((((mk s) ++ (⟨#[91]⟩ : ByteArray)) ++ t13) ++ (⟨#[93, 61]⟩ : ByteArray)).size + t14.size ≤ 9223372036854775807 then (K k (((((mk s) ++ (⟨#[91]⟩ : ByteArray)) ++ t13) ++ (⟨#[93, 61]⟩ : ByteArray)) ++ t14)) else (none))) else (none)) else (none))) else (none))) = K k (mk (s ++ atW x)) := by
  obtain ⟨h1, h2, h3⟩ := atOk_vals ho
  have e1 := itoa_len x.f1 (val_I64 h1).1 (val_I64 h1).2
  have e2 := itoa_len x.f2 (val_I64 h2).1 (val_I64 h2).2
  have e3 := itoa_len x.f3 (val_I64 h3).1 (val_I64 h3).2
  have n1 := l01Num x.f1 (val_I64 h1).1 (val_I64 h1).2 k hk
  have n2 := l01Num x.f2 (val_I64 h2).1 (val_I64 h2).2 k hk
  have n3 := l01Num x.f3 (val_I64 h3).1 (val_I64 h3).2 k hk
  by_cases k0 : x.f0 = 0
  · rw [if_pos k0, n1, Option.bind_some, if_pos (by rw [mk_size, mk_size]; omega), mk_append, if_pos (by rw [mk_size, List.length_append]; omega), n2, Option.bind_some, col_mk, mk_append, if_pos (by rw [mk_size, mk_size]; simp only [List.length_append, List.length_cons, List.length_nil]; omega), mk_append,
      if_pos (by rw [mk_size]; simp only [List.length_append, List.length_cons, List.length_nil]; omega), n3, Option.bind_some, equ_mk, mk_append, if_pos (by rw [mk_size, mk_size]; simp only [List.length_append, List.length_cons, List.length_nil]; omega), mk_append]
    unfold atW
    rw [if_pos ho, if_pos k0]
    simp only [List.append_assoc]
  · rw [if_neg k0, if_pos (by rw [mk_size]; omega), n2, Option.bind_some, bra_mk, mk_append, if_pos (by rw [mk_size, mk_size, List.length_append, List.length_cons, List.length_nil]; omega), mk_append, if_pos (by rw [mk_size]; simp only [List.length_append, List.length_cons, List.length_nil]; omega), n3, Option.bind_some, ket_mk, mk_append,
      if_pos (by rw [mk_size, mk_size]; simp only [List.length_append, List.length_cons, List.length_nil]; omega), mk_append]
    unfold atW
    rw [if_pos ho, if_neg k0]
    simp only [List.append_assoc]

/-- The reference's test of an atom, told as one. -/
theorem spec_asks (l : List Atm) (s : ByteArray) (i : Int) (x : Atm) (k : Nat) :
    ((spec_l01In.f x.f0 0 1).bind fun t3 => (if t3 = true then (if x.f0 = 1 then (if x.f1 = 0 then ((spec_l01Value.f x.f1).bind fun t4 => (if t4 = true then ((spec_l01Value.f x.f2).bind fun t5 => (if t5 = true then ((spec_l01Value.f x.f3).bind fun t6 => (spec_AskText.j1 k l s i (!t6) x.f0 x.f1 x.f2 x.f3)) else (spec_AskText.j1 k l s i true x.f0 x.f1 x.f2 x.f3))) else (spec_AskText.j1 k l s i true x.f0 x.f1 x.f2 x.f3))) else (spec_AskText.j1 k l s i true x.f0 x.f1 x.f2 x.f3)) else ((spec_l01Value.f x.f1).bind fun t7 => (if t7 = true then ((spec_l01Value.f x.f2).bind fun t8 => (if t8 = true then ((spec_l01Value.f x.f3).bind fun t9 => (spec_AskText.j1 k l s i (!t9) x.f0 x.f1 x.f2 x.f3)) else (spec_AskText.j1 k l s i true x.f0 x.f1 x.f2 x.f3))) else (spec_AskText.j1 k l s i true x.f0 x.f1 x.f2 x.f3)))) else (spec_AskText.j1 k l s i true x.f0 x.f1 x.f2 x.f3))) = spec_AskText.j1 k l s i (!(atOk x)) x.f0 x.f1 x.f2 x.f3 := by
  simp only [l01In, l01Value, Option.bind_some]
  unfold atOk
  by_cases h : inB x.f0 0 1 = true
  · rw [if_pos h]
    have hr := inB_true.1 h
    by_cases k1 : x.f0 = 1
    · rw [if_pos k1]
      by_cases t0 : x.f1 = 0
      · rw [if_pos t0]
        cases h1 : valB x.f1 <;> cases h2 : valB x.f2 <;> cases h3 : valB x.f3 <;> simp [k1, t0]
      · rw [if_neg t0]
        have e0 : (x.f1 == 0) = false := beq_eq_false_iff_ne.mpr t0
        rw [e0, k1]
        rfl
    · rw [if_neg k1]
      have k0 : x.f0 = 0 := by omega
      cases h1 : valB x.f1 <;> cases h2 : valB x.f2 <;> cases h3 : valB x.f3 <;> simp [k0]
  · rw [if_neg h]
    have h' : ¬ (0 ≤ x.f0 ∧ x.f0 ≤ 1) := fun c => h (inB_true.2 c)
    have k0 : x.f0 ≠ 0 := by omega
    have k1 : x.f0 ≠ 1 := by omega
    have e0 : (x.f0 == 0) = false := beq_eq_false_iff_ne.mpr k0
    have e1 : (x.f0 == 1) = false := beq_eq_false_iff_ne.mpr k1
    rw [e0, e1]
    rfl

theorem spec_askText (l : List Atm) (k : Nat) (hk : 80 ≤ k) : spec_AskText.f k l = some (askTextW l) := by
  unfold spec_AskText.f askTextW
  by_cases h8 : l.length ≤ 8
  · rw [if_neg (by omega), decide_eq_true h8, Bool.true_and]
    refine line_loop_ok l atW atOk [32, 38, 32] 73 20 2 (fun x hx => ?_) (by omega) (fun k b i => spec_AskText.l0 k l b i) (fun k s j h hk hok => ?_) (fun k h hk hok => ?_) (fun k s j h hk h0 hs hok => ?_) (fun k s hk => ?_) k (by omega)
    · have := atW_len x
      simp only [List.length_cons, List.length_nil]
      omega
    · simp only [spec_AskText.l0]
      rw [if_pos (by omega), if_pos (by omega), rdAtm1 _ _ h, spec_asks, hok]
      rfl
    · have hrd : rd_T46 l 0 = l[0] := rdAtm1 l 0 h
      simp only [spec_AskText.l0]
      rw [if_pos (by omega), if_pos (by omega), hrd, spec_asks, hok]
      simp only [spec_AskText.j1, Bool.not_true, Bool.false_eq_true, if_false]
      rw [if_neg (by omega)]
      simp only [spec_AskText.j2]
      refine (spec_at l[0] (fun k z => spec_AskText.l0 k l z (wrap64 (0 + 1))) [] (by simp) k hk hok).trans ?_
      rw [show wrap64 (0 + 1) = 1 by unfold wrap64; omega]
      rfl
    · simp only [spec_AskText.l0]
      rw [if_pos (by omega), if_pos (by omega), rdAtm1 _ _ h, spec_asks, hok]
      simp only [spec_AskText.j1, Bool.not_true, Bool.false_eq_true, if_false]
      rw [if_pos (by omega), if_pos (by rw [mk_size]; omega), amp_mk, mk_append]
      simp only [spec_AskText.j2]
      refine (spec_at l[j] (fun k z => spec_AskText.l0 k l z (wrap64 ((j : Int) + 1))) (s ++ [32, 38, 32]) (by simp; omega) k hk hok).trans ?_
      rw [wrap_succ h (by omega)]
    · simp only [spec_AskText.l0]
      rw [if_neg (by omega)]
  · rw [if_pos (by omega), decide_eq_false h8]
    rfl

end Go.Proofs.YtbgclnjnngolmaaGreatDoor.Pure

/- Parsing an atom's text, in the program and in the reference. No condition but on the length. -/
namespace Go.Proofs.YtbgclnjnngolmaaGreatDoor.Pure
open Go.RowKit Go.Proofs.YtbgclnjnngolmaaGreatDoor.P Go.Proofs.YtbgclnjnngolmaaGreatDoor.Gen Go.Proofs.YtbgclnjnngolmaaGreatDoorW.PrintWords Go.Proofs.YtbgclnjnngolmaaGreatDoor.Split

abbrev AnsA := Int × Int × Int × Int × Bool
def noneA : AnsA := (0, 0, 0, 0, false)
theorem cut_hit (c : UInt8) (w rest : List UInt8) (h : c ∉ w) : Go.Lib.cut (w ++ c :: rest) [c] = (w, rest, true) := by
  have e : w ++ c :: rest = w ++ [c] ++ rest := by simp
  have hi := index_word c [] w rest h
  unfold Go.Lib.cut
  rw [e, hi, if_pos (by omega), Int.toNat_natCast]
  have e1 : (w ++ [c] ++ rest).take w.length = w := by rw [List.append_assoc, List.take_left]
  have e2 : (w ++ [c] ++ rest).drop (w.length + [c].length) = rest := by rw [← List.length_append, List.drop_left]
  rw [e1, e2]
theorem cut_miss (c : UInt8) (w : List UInt8) (h : c ∉ w) : Go.Lib.cut w [c] = (w, [], false) := by
  unfold Go.Lib.cut
  rw [index_noword c [] w h, if_neg (by omega)]
theorem cut_len (l : List UInt8) (c : UInt8) : (Go.Lib.cut l [c]).1.length ≤ l.length ∧ (Go.Lib.cut l [c]).2.1.length ≤ l.length := by
  unfold Go.Lib.cut
  split
  · simp only [List.length_take, List.length_drop]
    omega
  · simp
theorem cutF (l : List UInt8) (c : UInt8) (h : l.length ≤ 1048576) : strings_Cut.f (mk l) (mk [c]) = some (mk (Go.Lib.cut l [c]).1, mk (Go.Lib.cut l [c]).2.1, (Go.Lib.cut l [c]).2.2) := by
  unfold strings_Cut.f
  rw [if_pos (by rw [mk_size]; omega), mk_list, mk_list]
  rfl
theorem dropWhile_le (p : UInt8 → Bool) : ∀ l : List UInt8, (l.dropWhile p).length ≤ l.length
  | [] => Nat.le_refl _
  | b :: l => by
    rw [List.dropWhile_cons]
    split
    · have := dropWhile_le p l
      simp only [List.length_cons]
      omega
    · exact Nat.le_refl _
theorem trim_len (l cs : List UInt8) : (Go.Lib.trimS l cs).length ≤ l.length := by
  unfold Go.Lib.trimS Go.Lib.trimLeftS Go.Lib.trimRightS
  refine Nat.le_trans (dropWhile_le _ _) ?_
  rw [List.length_reverse]
  refine Nat.le_trans (dropWhile_le _ _) ?_
  rw [List.length_reverse]
  exact Nat.le_refl _
theorem trimF (l : List UInt8) (h : l.length ≤ 1048576) : strings_Trim.f (mk l) (mk [91, 93]) = some (mk (Go.Lib.trimS l [91, 93])) := by
  unfold strings_Trim.f
  rw [if_pos (by rw [mk_size]; omega), mk_list, mk_list, if_pos ⟨by rw [mk_size]; simp, by decide⟩]
  rfl
theorem trim_box (l : List UInt8) (hne : l ≠ []) (h1 : (91 : UInt8) ∉ l) (h2 : (93 : UInt8) ∉ l) : Go.Lib.trimS (91 :: (l ++ [93])) [91, 93] = l := by
  have hc : ∀ b ∈ l, ([91, 93] : List UInt8).contains b = false := by
    intro b hb
    have e1 : b ≠ 91 := fun e => h1 (e ▸ hb)
    have e2 : b ≠ 93 := fun e => h2 (e ▸ hb)
    simp [e1, e2]
  have hr : ∀ m : List UInt8, m ≠ [] → (∀ b ∈ m, ([91, 93] : List UInt8).contains b = false) → m.dropWhile (([91, 93] : List UInt8).contains ·) = m := by
    intro m hm hb
    cases m with
    | nil => exact absurd rfl hm
    | cons b m =>
      have := hb b List.mem_cons_self
      rw [List.dropWhile_cons, if_neg (by rw [this]; decide)]
  unfold Go.Lib.trimS Go.Lib.trimLeftS Go.Lib.trimRightS
  have er : (91 :: (l ++ [93])).reverse = 93 :: (l.reverse ++ [91]) := by simp
  have e93 : (93 :: (l.reverse ++ [91])).dropWhile (([91, 93] : List UInt8).contains ·) = l.reverse ++ [91] := by
    rw [List.dropWhile_cons, if_pos (by decide)]
    obtain ⟨b, m, hm⟩ : ∃ b m, l.reverse = b :: m := by
      cases h : l.reverse with
      | nil => exact absurd (List.reverse_eq_nil_iff.1 h) hne
      | cons b m => exact ⟨b, m, rfl⟩
    have hb : b ∈ l := by
      rw [← List.mem_reverse, hm]
      exact List.mem_cons_self
    rw [hm, List.cons_append, List.dropWhile_cons, if_neg (by rw [hc b hb]; decide)]
  rw [er, e93, List.reverse_append, List.reverse_reverse]
  show (91 :: l).dropWhile _ = l
  rw [List.dropWhile_cons, if_pos (by decide)]
  exact hr l hne hc

/-! ### the program -/
theorem atom_step (k : Nat) (t : List UInt8) (ws : List (List UInt8)) (hl : ws.length = 3) (hw : ∀ w ∈ ws, w.length ≤ 1048576) (q a b c : Int) (i : Nat) (h : i < ws.length) :
    impl_parseAtom.l0 (k + 1) (mk t) (ws.map mk) 3 (i : Int) q a b c = if (atoiR ws[i]).2 = true then some noneA else impl_parseAtom.l0 k (mk t) (ws.map mk) 3 ((i + 1 : Nat) : Int) q (if i = 0 then (atoiR ws[i]).1 else a) (if i = 1 then (atoiR ws[i]).1 else b) (if i = 0 then c else if i = 1 then c else (atoiR ws[i]).1) := by
  simp only [impl_parseAtom.l0]
  rw [if_pos (by omega), if_pos (by omega), if_pos (by rw [List.length_map]; omega), rdB ws i h, atoiF _ (hw _ (List.getElem_mem h)), Option.bind_some, wrap_succ h (by omega)]
  by_cases hb : (atoiR ws[i]).2 = true
  · rw [if_pos hb, if_pos hb]
    rfl
  · rw [if_neg hb, if_neg hb]
    by_cases h0 : i = 0
    · subst h0
      rfl
    · rw [if_neg (by omega)]
      by_cases h1 : i = 1
      · subst h1
        rfl
      · rw [if_neg (by omega)]
        simp only [if_neg h0, if_neg h1]
def at3 (t : List UInt8) (q : Int) (w0 w1 w2 : List UInt8) : AnsA :=
  if (atoiR w0).2 = true then noneA else if (atoiR w1).2 = true then noneA else if (atoiR w2).2 = true then noneA else (q, (atoiR w0).1, (atoiR w1).1, (atoiR w2).1, atW ⟨q, (atoiR w0).1, (atoiR w1).1, (atoiR w2).1⟩ == t)
theorem atom_run (t : List UInt8) (q : Int) (w0 w1 w2 : List UInt8) (hw : ∀ w ∈ [w0, w1, w2], w.length ≤ 1048576) (k : Nat) (hk : 10 ≤ k) :
    impl_parseAtom.l0 k (mk t) ([w0, w1, w2].map mk) 3 0 q 0 0 0 = some (at3 t q w0 w1 w2) := by
  obtain ⟨k, rfl⟩ : ∃ m, k = m + 1 + 1 + 1 + 1 := ⟨k - 4, by omega⟩
  unfold at3
  have s0 := atom_step (k + 1 + 1 + 1) t [w0, w1, w2] rfl hw q 0 0 0 0 (by simp)
  rw [show ((0 : Nat) : Int) = 0 from rfl] at s0
  rw [s0]
  by_cases h0 : (atoiR w0).2 = true
  · rw [if_pos h0]
    exact if_pos h0
  · rw [if_neg h0]
    refine (if_neg h0).trans ?_
    rw [atom_step (k + 1 + 1) t [w0, w1, w2] rfl hw q _ _ _ 1 (by simp)]
    by_cases h1 : (atoiR w1).2 = true
    · rw [if_pos h1]
      exact if_pos h1
    · rw [if_neg h1]
      refine (if_neg h1).trans ?_
      rw [atom_step (k + 1) t [w0, w1, w2] rfl hw q _ _ _ 2 (by simp)]
      by_cases h2 : (atoiR w2).2 = true
      · rw [if_pos h2]
        exact if_pos h2
      · rw [if_neg h2]
        refine (if_neg h2).trans ?_
        simp only [impl_parseAtom.l0]
        rw [if_neg (by omega)]
        have := impl_atText ⟨q, (atoiR w0).1, (atoiR w1).1, (atoiR w2).1⟩ k
        by_cases hk2 : 2 ≤ k
        · have h := this hk2
          simp only at h
          show (impl_Atom_text.f k q (atoiR w0).1 (atoiR w1).1 (atoiR w2).1).bind _ = _
          rw [h, Option.bind_some, mk_toList, mk_toList]
          simp
        · omega
def atomI (t : List UInt8) : AnsA :=
  if (Go.Lib.cut (Go.Lib.cut t [61]).1 [58]).2.2 = true then at3 t 0 (Go.Lib.cut (Go.Lib.cut t [61]).1 [58]).1 (Go.Lib.cut (Go.Lib.cut t [61]).1 [58]).2.1 (Go.Lib.cut t [61]).2.1
  else at3 t 1 [48] (Go.Lib.trimS (Go.Lib.cut t [61]).1 [91, 93]) (Go.Lib.cut t [61]).2.1
theorem impl_atom (t : List UInt8) (ht : t.length ≤ 1048576) (k : Nat) (hk : 10 ≤ k) : impl_parseAtom.f k (mk t) = some (atomI t) := by
  unfold impl_parseAtom.f atomI
  have c1 := cut_len t 61
  have c2 := cut_len (Go.Lib.cut t [61]).1 58
  rw [equ_mk, col_mk, cutF t 61 ht, Option.bind_some]
  simp only
  rw [cutF _ 58 (by omega), Option.bind_some]
  by_cases h : (Go.Lib.cut (Go.Lib.cut t [61]).1 [58]).2.2 = true
  · rw [if_pos h, if_pos h, Option.bind_some]
    exact atom_run t 0 _ _ _ (by
      intro w hw
      simp only [List.mem_cons, List.not_mem_nil, or_false] at hw
      rcases hw with rfl | rfl | rfl <;> omega) k hk
  · rw [if_neg h, if_neg h]
    have hb : (⟨#[91, 93]⟩ : ByteArray) = mk [91, 93] := rfl
    have h48 : (⟨#[48]⟩ : ByteArray) = mk [48] := rfl
    have c3 := trim_len (Go.Lib.cut t [61]).1 [91, 93]
    rw [hb, trimF _ (by omega), Option.bind_some, Option.bind_some, h48]
    exact atom_run t 1 _ _ _ (by
      intro w hw
      simp only [List.mem_cons, List.not_mem_nil, or_false] at hw
      rcases hw with rfl | rfl | rfl
      · simp
      · omega
      · omega) k hk
def okQ (t : List UInt8) : Bool := (atomI t).2.2.2.2
def atX (t : List UInt8) : Atm := ⟨(atomI t).1, (atomI t).2.1, (atomI t).2.2.1, (atomI t).2.2.2.1⟩
theorem at3_ok (t : List UInt8) (q : Int) (w0 w1 w2 : List UInt8) (h : (at3 t q w0 w1 w2).2.2.2.2 = true) : atW ⟨(at3 t q w0 w1 w2).1, (at3 t q w0 w1 w2).2.1, (at3 t q w0 w1 w2).2.2.1, (at3 t q w0 w1 w2).2.2.2.1⟩ = t := by
  unfold at3 at h ⊢
  by_cases h0 : (atoiR w0).2 = true
  · rw [if_pos h0] at h
    cases h
  · rw [if_neg h0] at h ⊢
    by_cases h1 : (atoiR w1).2 = true
    · rw [if_pos h1] at h
      cases h
    · rw [if_neg h1] at h ⊢
      by_cases h2 : (atoiR w2).2 = true
      · rw [if_pos h2] at h
        cases h
      · rw [if_neg h2] at h ⊢
        exact beq_iff_eq.1 h
theorem okQ_nil : okQ [] = false := by rfl
theorem okQ_sound {t : List UInt8} (h : okQ t = true) : atW (atX t) = t ∧ atOk (atX t) = true := by
  have e : atW (atX t) = t := by
    unfold okQ at h
    unfold atX
    unfold atomI at h ⊢
    split at h
    · next c =>
      rw [if_pos c]
      exact at3_ok _ _ _ _ _ h
    · next c =>
      rw [if_neg c]
      exact at3_ok _ _ _ _ _ h
  refine ⟨e, ?_⟩
  cases ho : atOk (atX t) with
  | true => rfl
  | false =>
    have := (atW_nil (atX t)).2 ho
    rw [e] at this
    rw [this, okQ_nil] at h
    cases h
theorem itoa_not (x : Int) (c : UInt8) (h : numByte c = false) : c ∉ Go.Lib.itoa x := not_in_itoa x c h
theorem at_kinds {x : Atm} (h : atOk x = true) : x.f0 = 0 ∨ (x.f0 = 1 ∧ x.f1 = 0) := by
  unfold atOk at h
  simp only [Bool.and_eq_true, Bool.or_eq_true, beq_iff_eq] at h
  exact h.1
theorem okQ_good {x : Atm} (h : atOk x = true) : okQ (atW x) = true ∧ atX (atW x) = x := by
  obtain ⟨v1, v2, v3⟩ := atOk_vals h
  have r1 := valB_range v1
  have r2 := valB_range v2
  have r3 := valB_range v3
  have a1 := atoiR_itoa x.f1 (by omega)
  have a2 := atoiR_itoa x.f2 (by omega)
  have a3 := atoiR_itoa x.f3 (by omega)
  have key : atomI (atW x) = (x.f0, x.f1, x.f2, x.f3, true) := by
    rcases at_kinds h with k0 | ⟨k1, t0⟩
    · have e : atW x = (Go.Lib.itoa x.f1 ++ 58 :: Go.Lib.itoa x.f2) ++ 61 :: Go.Lib.itoa x.f3 := by
        unfold atW
        rw [if_pos h, if_pos k0]
        simp
      have hc1 := cut_hit 61 (Go.Lib.itoa x.f1 ++ 58 :: Go.Lib.itoa x.f2) (Go.Lib.itoa x.f3) (by
        simp only [List.mem_append, List.mem_cons, not_or]
        exact ⟨itoa_not _ _ (by decide), by decide, itoa_not _ _ (by decide)⟩)
      have hc2 := cut_hit 58 (Go.Lib.itoa x.f1) (Go.Lib.itoa x.f2) (itoa_not _ _ (by decide))
      unfold atomI
      conv => lhs; rw [e]
      rw [hc1]
      simp only
      rw [hc2]
      simp only [if_true]
      unfold at3
      rw [a1, a2, a3, ← e]
      have ex : (⟨0, x.f1, x.f2, x.f3⟩ : Atm) = x := by cases x; simp_all
      simp [ex, k0]
    · have e : atW x = (91 :: (Go.Lib.itoa x.f2 ++ [93])) ++ 61 :: Go.Lib.itoa x.f3 := by
        unfold atW
        rw [if_pos h, if_neg (by omega)]
        simp
      have n2 : ∀ c : UInt8, numByte c = false → c ≠ 91 → c ≠ 93 → c ∉ 91 :: (Go.Lib.itoa x.f2 ++ [93]) := by
        intro c hn h1 h2
        simp only [List.mem_cons, List.mem_append, List.not_mem_nil, or_false, not_or]
        exact ⟨h1, itoa_not _ _ hn, h2⟩
      have hc1 := cut_hit 61 (91 :: (Go.Lib.itoa x.f2 ++ [93])) (Go.Lib.itoa x.f3) (n2 61 (by decide) (by decide) (by decide))
      have hc2 := cut_miss 58 (91 :: (Go.Lib.itoa x.f2 ++ [93])) (n2 58 (by decide) (by decide) (by decide))
      have ht := trim_box (Go.Lib.itoa x.f2) (itoa_ne _) (itoa_not _ _ (by decide)) (itoa_not _ _ (by decide))
      have a0 : atoiR [48] = (0, false) := by rfl
      unfold atomI
      conv => lhs; rw [e]
      rw [hc1]
      simp only
      rw [hc2]
      simp only [Bool.false_eq_true, if_false]
      rw [ht]
      unfold at3
      rw [a0, a2, a3, ← e]
      have ex : (⟨1, 0, x.f2, x.f3⟩ : Atm) = x := by cases x; simp_all
      simp [ex, k1, t0]
  unfold okQ atX
  rw [key]
  exact ⟨rfl, rfl⟩

/-! ### the reference -/
def innerW (a : List UInt8) : List UInt8 := (a.drop 1).take (a.length - 2)
def boxed (a : List UInt8) : Bool := decide (2 < a.length) && (a.head? == some 91 && a.getLast? == some 93)
def pairR (a : List UInt8) (v : Int) : AnsA :=
  match parts 58 a with
  | [c, d] => (0, (readR c).1, (readR d).1, v, (readR c).2 && (readR d).2)
  | _ => noneA
def sideR (a : List UInt8) (v : Int) : AnsA := if boxed a = true then (1, 0, (readR (innerW a)).1, v, (readR (innerW a)).2) else pairR a v
def atomR (t : List UInt8) : AnsA :=
  match parts 61 t with
  | [a, b] => if (readR b).2 = true then sideR a (readR b).1 else noneA
  | _ => noneA
theorem j0_true (a : List UInt8) (v : Int) (h : 2 < a.length) (hl : a.length ≤ 1000) (k : Nat) (hk : 100 ≤ k) : spec_l06Atom.j0 k v (mk a) (a.length : Int) true = some (1, 0, (readR (innerW a)).1, v, (readR (innerW a)).2) := by
  obtain ⟨k, rfl⟩ : ∃ m, k = m + 1 := ⟨k - 1, by omega⟩
  simp only [spec_l06Atom.j0]
  have hw : wrap64 ((a.length : Int) - 1) = ((a.length - 1 : Nat) : Int) := by rw [wrap_id (by omega) (by omega)]; omega
  have hi : (innerW a).length ≤ 1000 := by unfold innerW; simp only [List.length_take, List.length_drop]; omega
  rw [if_pos trivial, hw, if_pos (by omega), if_pos (by rw [mk_size]; omega), Int.toNat_natCast, mk_extract, Nat.sub_sub]
  show (spec_l01Read.f k (mk (innerW a))).bind _ = _
  rw [l01Read _ (by omega) k (by omega), Option.bind_some]
theorem j0_false (a : List UInt8) (v : Int) (hl : a.length ≤ 1000) (n : Int) (k : Nat) (hk : 1100 ≤ k) : spec_l06Atom.j0 k v (mk a) n false = some (pairR a v) := by
  obtain ⟨k, rfl⟩ : ∃ m, k = m + 1 := ⟨k - 1, by omega⟩
  have hp : spec_l01Parts.f k (mk a) 58 = _ := l01Parts a 58 (by omega) k (by omega)
  have hj := join_parts 58 a
  simp only [spec_l06Atom.j0]
  rw [if_neg (by simp), hp, Option.bind_some]
  unfold pairR
  rcases h : parts 58 a with _ | ⟨c, _ | ⟨d, _ | ⟨e, r⟩⟩⟩
  · rfl
  · rfl
  · rw [h] at hj
    have l1 := join_ge [58] [c, d] c (by simp)
    have l2 := join_ge [58] [c, d] d (by simp)
    rw [hj] at l1 l2
    rw [if_pos (by rfl), if_pos (by simp)]
    show (spec_l01Read.f k (mk c)).bind _ = _
    rw [l01Read c (by omega) k (by omega), Option.bind_some, if_pos (by simp)]
    show (spec_l01Read.f k (mk d)).bind _ = _
    rw [l01Read d (by omega) k (by omega), Option.bind_some]
    cases hc : (readR c).2 <;> simp [hc]
  · rw [if_neg (by simp only [List.map_cons, List.length_cons]; omega)]
    rfl
theorem spec_atom (t : List UInt8) (ht : t.length ≤ 1000) (k : Nat) (hk : 1200 ≤ k) : spec_l06Atom.f k (mk t) = some (atomR t) := by
  have hp : spec_l01Parts.f k (mk t) 61 = _ := l01Parts t 61 (by omega) k (by omega)
  have hj := join_parts 61 t
  unfold spec_l06Atom.f atomR
  rw [hp, Option.bind_some]
  rcases h : parts 61 t with _ | ⟨a, _ | ⟨b, _ | ⟨e, r⟩⟩⟩
  · rfl
  · rfl
  · rw [h] at hj
    have l1 := join_ge [61] [a, b] a (by simp)
    have l2 := join_ge [61] [a, b] b (by simp)
    rw [hj] at l1 l2
    rw [if_pos (by rfl), if_pos (by simp)]
    have r1 : rdOf ByteArray.empty ([a, b].map mk) 1 = mk b := rfl
    have r0 : rdOf ByteArray.empty ([a, b].map mk) 0 = mk a := rfl
    rw [r1, r0, l01Read b (by omega) k (by omega), Option.bind_some, mk_size]
    simp only
    by_cases hb : (readR b).2 = true
    · rw [if_pos hb, if_pos hb, if_pos (by simp)]
      unfold sideR
      by_cases h2 : 2 < a.length
      · have hw : wrap64 ((a.length : Int) - 1) = ((a.length - 1 : Nat) : Int) := by rw [wrap_id (by omega) (by omega)]; omega
        have b0 := bt_mk' a 0 (by omega)
        have b1 := bt_mk' a (a.length - 1) (by omega)
        rw [show ((0 : Nat) : Int) = 0 from rfl] at b0
        rw [if_pos (by omega), if_pos (by omega), hw, b0, b1]
        have hh : a.head? = some a[0] := by rw [List.head?_eq_getElem?, List.getElem?_eq_getElem (by omega)]
        have hg : a.getLast? = some a[a.length - 1] := by rw [List.getLast?_eq_getElem?, List.getElem?_eq_getElem (by omega)]
        by_cases c1 : a[0] = 91
        · rw [if_pos (by rw [c1]; rfl), if_pos (by omega), if_pos (by omega)]
          by_cases c2 : a[a.length - 1] = 93
          · have hbx : boxed a = true := by unfold boxed; rw [hh, hg, c1, c2, decide_eq_true h2]; rfl
            have he : (((a[a.length - 1]).toNat : Int) == 93) = true := by rw [c2]; rfl
            rw [he, if_pos hbx]
            exact j0_true a _ h2 (by omega) k (by omega)
          · have hbx : ¬ boxed a = true := by unfold boxed; rw [hh, hg]; simp [c2]
            have he : (((a[a.length - 1]).toNat : Int) == 93) = false := by
              rw [beq_eq_false_iff_ne]
              exact fun e => c2 ((byte_is' _ 93).1 e)
            rw [he, if_neg hbx]
            exact j0_false a _ (by omega) _ k (by omega)
        · have hbx : ¬ boxed a = true := by unfold boxed; rw [hh]; simp [c1]
          have n91 : ¬ (((a[0]).toNat : Int) = 91) := fun e => c1 ((byte_is' _ 91).1 e)
          rw [if_neg n91, if_neg hbx]
          exact j0_false a _ (by omega) _ k (by omega)
      · have hbx : ¬ boxed a = true := by unfold boxed; simp [h2]
        rw [if_neg (by omega), if_neg hbx]
        exact j0_false a _ (by omega) _ k (by omega)
    · rw [if_neg hb, if_neg hb]
      rfl
  · rw [if_neg (by simp only [List.map_cons, List.length_cons]; omega)]
    rfl
theorem atomR_good {x : Atm} (h : atOk x = true) : atomR (atW x) = (x.f0, x.f1, x.f2, x.f3, true) := by
  obtain ⟨v1, v2, v3⟩ := atOk_vals h
  have r1 := valB_range v1
  have r2 := valB_range v2
  have r3 := valB_range v3
  have a1 := readR_itoa x.f1 (by omega)
  have a2 := readR_itoa x.f2 (by omega)
  have a3 := readR_itoa x.f3 (by omega)
  unfold atomR
  rcases at_kinds h with k0 | ⟨k1, t0⟩
  · have e : atW x = (Go.Lib.itoa x.f1 ++ 58 :: Go.Lib.itoa x.f2) ++ 61 :: Go.Lib.itoa x.f3 := by
      unfold atW
      rw [if_pos h, if_pos k0]
      simp
    rw [e, parts_app 61 _ _ (by
      simp only [List.mem_append, List.mem_cons, not_or]
      exact ⟨itoa_not _ _ (by decide), by decide, itoa_not _ _ (by decide)⟩), parts_none 61 _ (itoa_not _ _ (by decide))]
    simp only
    rw [a3, if_pos rfl]
    unfold sideR
    have hb : ¬ boxed (Go.Lib.itoa x.f1 ++ 58 :: Go.Lib.itoa x.f2) = true := by
      unfold boxed
      have : ((Go.Lib.itoa x.f1 ++ 58 :: Go.Lib.itoa x.f2).head? == some 91) = false := by
        rw [beq_eq_false_iff_ne]
        intro he
        cases hi : Go.Lib.itoa x.f1 with
        | nil => exact itoa_ne _ hi
        | cons b m =>
          rw [hi] at he
          have hb : b = 91 := by simpa using he
          have := itoa_not x.f1 91 (by decide)
          rw [hi, hb] at this
          exact this List.mem_cons_self
      rw [this]
      simp
    rw [if_neg hb]
    unfold pairR
    rw [parts_app 58 _ _ (itoa_not _ _ (by decide)), parts_none 58 _ (itoa_not _ _ (by decide))]
    simp only
    rw [a1, a2, k0]
    rfl
  · have e : atW x = (91 :: (Go.Lib.itoa x.f2 ++ [93])) ++ 61 :: Go.Lib.itoa x.f3 := by
      unfold atW
      rw [if_pos h, if_neg (by omega)]
      simp
    rw [e, parts_app 61 _ _ (by
      simp only [List.mem_cons, List.mem_append, List.not_mem_nil, or_false, not_or]
      exact ⟨by decide, itoa_not _ _ (by decide), by decide⟩), parts_none 61 _ (itoa_not _ _ (by decide))]
    simp only
    rw [a3, if_pos rfl]
    unfold sideR
    have hn : 1 ≤ (Go.Lib.itoa x.f2).length := List.length_pos_iff.2 (itoa_ne _)
    have hb : boxed (91 :: (Go.Lib.itoa x.f2 ++ [93])) = true := by
      unfold boxed
      have hg : (91 :: (Go.Lib.itoa x.f2 ++ [93])).getLast? = some 93 := by
        rw [← List.cons_append, List.getLast?_concat]
      rw [hg, decide_eq_true (by simp only [List.length_cons, List.length_append, List.length_nil]; omega)]
      rfl
    rw [if_pos hb]
    have hin : innerW (91 :: (Go.Lib.itoa x.f2 ++ [93])) = Go.Lib.itoa x.f2 := by
      unfold innerW
      simp
    rw [hin, a2, k1, t0]

end Go.Proofs.YtbgclnjnngolmaaGreatDoor.Pure

/- Parsing a query's text: the program's and the reference's ParseAsk give a query exactly where the text is its text. No condition but on the length. -/
namespace Go.Proofs.YtbgclnjnngolmaaGreatDoor.Pure
open Go.RowKit Go.Proofs.YtbgclnjnngolmaaGreatDoor.P Go.Proofs.YtbgclnjnngolmaaGreatDoor.Gen Go.Proofs.YtbgclnjnngolmaaGreatDoorW.PrintWords Go.Proofs.YtbgclnjnngolmaaGreatDoor.Split

abbrev AskA := List Atm × Bool
def goodAsk (l : List Atm) : Prop := l.length ≤ 8 ∧ ∀ x ∈ l, atOk x = true
def askW (l : List Atm) : List UInt8 := Go.Lib.join (l.map atW) [32, 38, 32]
def askRes (ws : List (List UInt8)) : AskA := if (ws.all okQ && decide (ws.length ≤ 8)) = true then (ws.map atX, true) else ([], false)
theorem splitLongQ (sep : List UInt8) (hs : sep ≠ []) : ∀ (ws : List (List UInt8)) (w : List UInt8), ws.length ≤ (Go.Lib.join (w :: ws) sep).length
  | [], w => Nat.zero_le _
  | x :: ws, w => by
    have := splitLongQ sep hs ws x
    have h1 : 0 < sep.length := List.length_pos_iff.2 hs
    rw [Go.Lib.join_cons, joinTail_join, List.length_append, List.length_append, List.length_cons]
    omega
theorem impl_ask_loop (ws : List (List UInt8)) (hn : ws.length ≤ 1000) (hw : ∀ w ∈ ws, w.length ≤ 1048576) : ∀ d (i k : Nat) (acc : List Atm), i ≤ ws.length → ws.length - i = d → 20 + d < k → acc.length = i → i ≤ 8 →
    impl_ParseAsk.l0 k acc (ws.map mk) (ws.length : Int) (i : Int) = some (if ((ws.drop i).all okQ && decide (ws.length ≤ 8)) = true then (acc ++ (ws.drop i).map atX, true) else ([], false)) := by
  intro d
  induction d with
  | zero =>
    intro i k acc hi hd hk ha h16
    obtain ⟨k, rfl⟩ : ∃ m, k = m + 1 := ⟨k - 1, by omega⟩
    simp only [impl_ParseAsk.l0]
    rw [if_neg (by omega), List.drop_of_length_le (show ws.length ≤ i by omega), decide_eq_true (show ws.length ≤ 8 by omega)]
    simp
  | succ d ih =>
    intro i k acc hi hd hk ha h16
    obtain ⟨k, rfl⟩ : ∃ m, k = m + 1 := ⟨k - 1, by omega⟩
    have hlt : i < ws.length := by omega
    simp only [impl_ParseAsk.l0]
    rw [if_pos (by omega), if_pos (by omega), if_pos (by rw [List.length_map]; omega), rdB ws i hlt, impl_atom _ (hw _ (List.getElem_mem hlt)) k (by omega), Option.bind_some, List.drop_eq_getElem_cons hlt, List.all_cons]
    cases hok : okQ ws[i] with
    | false =>
      have : (atomI ws[i]).2.2.2.2 = false := hok
      rw [this, if_neg (by decide)]
      rfl
    | true =>
      have : (atomI ws[i]).2.2.2.2 = true := hok
      rw [this, if_pos rfl]
      by_cases c : i = 8
      · rw [if_pos (by omega), decide_eq_false (show ¬ ws.length ≤ 8 by omega), Bool.and_false, if_neg (by decide)]
      · rw [if_neg (by omega), if_pos (by omega), wrap_succ hlt (by omega)]
        have e : (⟨(atomI ws[i]).1, (atomI ws[i]).2.1, (atomI ws[i]).2.2.1, (atomI ws[i]).2.2.2.1⟩ : Atm) = atX ws[i] := rfl
        rw [e, ih (i + 1) k (acc ++ [atX ws[i]]) (by omega) (by omega) (by omega) (by rw [List.length_append, List.length_singleton]; omega) (by omega), Bool.true_and, List.map_cons, List.append_assoc]
        rfl
theorem impl_parseAsk_all (t : List UInt8) (ht : t.length ≤ 1048576) (hne : t ≠ []) (k : Nat) (hk : 400 ≤ k) : impl_ParseAsk.f k (mk t) = some (askRes (Go.Lib.splitK [32, 38, 32] 0 (min 9 (t.length + 1) - 1) t)) := by
  unfold impl_ParseAsk.f
  have h9 := splitNF t [32, 38, 32] 9 ht (by simp) (by omega) (by omega)
  rw [show ((9 : Nat) : Int) = 9 from rfl] at h9
  rw [Option.bind_some, mk_toList, if_neg hne, amp_mk, h9, Option.bind_some, List.length_map]
  have hlen := splitK_len [32, 38, 32] (min 9 (t.length + 1) - 1) t
  have hj := splitK_join [32, 38, 32] (by simp) (min 9 (t.length + 1) - 1) t
  have := impl_ask_loop (Go.Lib.splitK [32, 38, 32] 0 (min 9 (t.length + 1) - 1) t) (by omega) (fun w hw => by have := join_ge [32, 38, 32] _ w hw; rw [hj] at this; omega) _ 0 k [] (by omega) rfl (by omega) rfl (by omega)
  rw [List.drop_zero, List.nil_append] at this
  exact this

/-! ### the reference -/
def atY (p : List UInt8) : Atm := ⟨(atomR p).1, (atomR p).2.1, (atomR p).2.2.1, (atomR p).2.2.2.1⟩
def askR : Bool → List (List UInt8) → List Atm → Option (List Atm)
  | _, [], acc => some acc
  | true, p :: r, acc => if p = [38] then askR false r acc else none
  | false, p :: r, acc => if (atomR p).2.2.2.2 = true then askR true r (acc ++ [atY p]) else none
def finQ (t : List UInt8) (l : List Atm) : AskA := if (askTextW l).2 = true then (if (askTextW l).1.toList = (mk t).toList then (l, true) else ([], false)) else ([], false)
def endQ (t : List UInt8) : Option (List Atm) → AskA
  | none => ([], false)
  | some l => finQ t l
theorem spec_ask_loop (t : List UInt8) (ps : List (List UInt8)) (hn : ps.length ≤ 1000) (hw : ∀ w ∈ ps, w.length ≤ 1000) : ∀ d (i k : Nat) (acc : List Atm), i ≤ ps.length → ps.length - i = d → 1300 + d < k → acc.length ≤ i →
    spec_ParseAsk.l0 k (mk t) acc (ps.map mk) (i : Int) = some (endQ t (askR (decide (i % 2 = 1)) (ps.drop i) acc)) := by
  intro d
  induction d with
  | zero =>
    intro i k acc hi hd hk ha
    obtain ⟨k, rfl⟩ : ∃ m, k = m + 1 := ⟨k - 1, by omega⟩
    simp only [spec_ParseAsk.l0]
    rw [if_neg (by rw [List.length_map]; omega), List.drop_of_length_le (show ps.length ≤ i by omega), spec_askText acc k (by omega), Option.bind_some]
    have : askR (decide (i % 2 = 1)) [] acc = some acc := by cases decide (i % 2 = 1) <;> rfl
    rw [this]
    show _ = some (finQ t acc)
    unfold finQ
    split
    · split <;> rfl
    · rfl
  | succ d ih =>
    intro i k acc hi hd hk ha
    obtain ⟨k, rfl⟩ : ∃ m, k = m + 1 := ⟨k - 1, by omega⟩
    have hlt : i < ps.length := by omega
    have hm : Int.tmod (i : Int) 2 = ((i % 2 : Nat) : Int) := by rw [Int.tmod_eq_emod_of_nonneg (by omega)]; omega
    simp only [spec_ParseAsk.l0]
    rw [if_pos (by rw [List.length_map]; omega), hm, rdB ps i hlt, List.drop_eq_getElem_cons hlt]
    by_cases c : i % 2 = 1
    · have c' : ¬ (i + 1) % 2 = 1 := by omega
      rw [if_pos (by omega), if_pos (by omega), decide_eq_true c, mk_toList]
      unfold askR
      by_cases e : ps[i] = [38]
      · rw [if_pos e, if_pos e, wrap_succ hlt (by omega), ih (i + 1) k acc (by omega) (by omega) (by omega) (by omega), decide_eq_false c']
      · rw [if_neg e, if_neg e]
        rfl
    · have c' : (i + 1) % 2 = 1 := by omega
      rw [if_neg (by omega), if_pos (by omega), decide_eq_false c, spec_atom _ (hw _ (List.getElem_mem hlt)) k (by omega), Option.bind_some]
      unfold askR
      by_cases e : (atomR ps[i]).2.2.2.2 = true
      · rw [if_pos e, if_pos e, if_pos (by omega), wrap_succ hlt (by omega)]
        have ey : (⟨(atomR ps[i]).1, (atomR ps[i]).2.1, (atomR ps[i]).2.2.1, (atomR ps[i]).2.2.2.1⟩ : Atm) = atY ps[i] := rfl
        rw [ey, ih (i + 1) k (acc ++ [atY ps[i]]) (by omega) (by omega) (by omega) (by rw [List.length_append, List.length_singleton]; omega), decide_eq_true c']
      · rw [if_neg e, if_neg e]
        rfl
theorem spec_parseAsk_all (t : List UInt8) (ht : t.length ≤ 320) (hne : t ≠ []) (k : Nat) (hk : 4000 ≤ k) : spec_ParseAsk.f k (mk t) = some (endQ t (askR false (parts 32 t) [])) := by
  unfold spec_ParseAsk.f
  have h1 : spec_l01Parts.f k (mk t) 32 = _ := l01Parts t 32 (by omega) k (by omega)
  have hlen := parts_len 32 t
  have hj := join_parts 32 t
  rw [mk_toList, if_neg hne, if_neg (by rw [mk_size]; omega), h1, Option.bind_some]
  exact spec_ask_loop t (parts 32 t) (by omega) (fun w hw => by have := join_ge [32] _ w hw; rw [hj] at this; omega) _ 0 k [] (by omega) rfl (by omega) (by simp)

/-! ### both -/
theorem askTextW_good (l : List Atm) (h : goodAsk l) : askTextW l = (mk (askW l), true) := by
  unfold askTextW
  have : l.all atOk = true := List.all_eq_true.2 h.2
  rw [this, decide_eq_true h.1]
  rfl
theorem finQ_sound (t : List UInt8) (l : List Atm) : finQ t l = ([], false) ∨ (goodAsk l ∧ t = askW l) := by
  unfold finQ
  by_cases h : (decide (l.length ≤ 8) && l.all atOk) = true
  · rw [Bool.and_eq_true, decide_eq_true_eq] at h
    have hg : goodAsk l := ⟨h.1, List.all_eq_true.1 h.2⟩
    rw [askTextW_good l hg]
    simp only [if_true]
    by_cases e : (mk (askW l)).toList = (mk t).toList
    · rw [mk_toList, mk_toList] at e
      exact Or.inr ⟨hg, e.symm⟩
    · rw [if_neg e]
      exact Or.inl rfl
  · have : askTextW l = (mk [], false) := by
      unfold askTextW
      rw [if_neg h]
    rw [this]
    exact Or.inl rfl
theorem askRes_good (l : List Atm) (h : goodAsk l) : askRes (l.map atW) = (l, true) := by
  unfold askRes
  have h1 : (l.map atW).all okQ = true := by
    rw [List.all_eq_true]
    intro w hw
    obtain ⟨x, hx, rfl⟩ := List.mem_map.1 hw
    exact (okQ_good (h.2 x hx)).1
  have h2 : (l.map atW).map atX = l := by
    rw [List.map_map]
    conv => rhs; rw [← List.map_id l]
    exact List.map_congr_left fun x hx => (okQ_good (h.2 x hx)).2
  rw [h1, List.length_map, decide_eq_true h.1, h2]
  rfl
theorem askRes_sound (ws : List (List UInt8)) : askRes ws = ([], false) ∨ ∃ l, goodAsk l ∧ ws = l.map atW := by
  unfold askRes
  by_cases h : (ws.all okQ && decide (ws.length ≤ 8)) = true
  · rw [Bool.and_eq_true, decide_eq_true_eq] at h
    refine Or.inr ⟨ws.map atX, ⟨by rw [List.length_map]; exact h.2, fun x hx => ?_⟩, ?_⟩
    · obtain ⟨w, hw, rfl⟩ := List.mem_map.1 hx
      exact (okQ_sound (List.all_eq_true.1 h.1 w hw)).2
    · rw [List.map_map]
      conv => lhs; rw [← List.map_id ws]
      exact List.map_congr_left fun w hw => (okQ_sound (List.all_eq_true.1 h.1 w hw)).1.symm
  · rw [if_neg h]
    exact Or.inl rfl
theorem join_amp (p : List UInt8) : ∀ ws : List (List UInt8), Go.Lib.join (p :: ws) [32, 38, 32] = Go.Lib.join (p :: ws.flatMap (fun w => [[38], w])) [32] := by
  intro ws
  induction ws generalizing p with
  | nil => rfl
  | cons x ws ih =>
    rw [List.flatMap_cons, Go.Lib.join_cons, joinTail_join, ih x]
    show _ = Go.Lib.join (p :: [38] :: x :: ws.flatMap fun w => [[38], w]) [32]
    rw [Go.Lib.join_cons p, joinTail_join, Go.Lib.join_cons [38], joinTail_join]
    simp
theorem atW_no (x : Atm) : (32 : UInt8) ∉ atW x := by
  have h1 := itoa_not x.f1 32 (by decide)
  have h2 := itoa_not x.f2 32 (by decide)
  have h3 := itoa_not x.f3 32 (by decide)
  unfold atW
  split
  · split
    · simp only [List.mem_append, List.mem_cons, List.not_mem_nil, or_false, not_or]
      exact ⟨⟨⟨⟨h1, by decide⟩, h2⟩, by decide⟩, h3⟩
    · simp only [List.mem_append, List.mem_cons, List.not_mem_nil, or_false, not_or]
      exact ⟨⟨⟨by decide, h2⟩, by decide, by decide⟩, h3⟩
  · simp
theorem askR_good : ∀ (r : List Atm) (acc : List Atm), (∀ x ∈ r, atOk x = true) → askR true ((r.map atW).flatMap (fun w => [[38], w])) acc = some (acc ++ r)
  | [], acc, _ => by simp [askR]
  | x :: r, acc, h => by
    have hx := atomR_good (h x List.mem_cons_self)
    have ey : atY (atW x) = x := by unfold atY; rw [hx]
    rw [List.map_cons, List.flatMap_cons]
    show askR true ([38] :: atW x :: (r.map atW).flatMap fun w => [[38], w]) acc = _
    simp only [askR, if_true]
    rw [hx]
    simp only [if_true]
    rw [ey, askR_good r _ (fun y hy => h y (List.mem_cons_of_mem _ hy))]
    simp
theorem itoa_shortQ {x : Int} (h : valB x = true) : (Go.Lib.itoa x).length ≤ 8 := by
  have hx := valB_range h
  unfold Go.Lib.itoa
  split
  · have := digits7 x.natAbs (by omega)
    simp only [List.length_cons]
    omega
  · have := digits7 x.toNat (by omega)
    omega
theorem atW_short {x : Atm} (h : atOk x = true) : (atW x).length ≤ 30 := by
  obtain ⟨v1, v2, v3⟩ := atOk_vals h
  have h1 := itoa_shortQ v1
  have h2 := itoa_shortQ v2
  have h3 := itoa_shortQ v3
  unfold atW
  rw [if_pos h]
  split <;> simp only [List.length_append, List.length_cons, List.length_nil] <;> omega
theorem askW_len (l : List Atm) (h : goodAsk l) : (askW l).length ≤ 264 := by
  have h1 : ∀ x ∈ l.map atW, x.length + ([32, 38, 32] : List UInt8).length ≤ 33 := by
    intro w hw
    obtain ⟨x, hx, rfl⟩ := List.mem_map.1 hw
    have := atW_short (h.2 x hx)
    show (atW x).length + 3 ≤ 33
    omega
  have h3 := join_len [32, 38, 32] 33 _ h1
  rw [List.length_map] at h3
  have h2 : l.length * 33 ≤ 8 * 33 := Nat.mul_le_mul_right 33 h.1
  unfold askW
  omega
theorem parseAsk_yes (x : Atm) (r : List Atm) (h : goodAsk (x :: r)) (k : Nat) (hk : 4000 ≤ k) :
    spec_ParseAsk.f k (mk (askW (x :: r))) = some (x :: r, true) ∧ impl_ParseAsk.f k (mk (askW (x :: r))) = some (x :: r, true) := by
  have hxne : atW x ≠ [] := fun e => by
    have := (atW_nil x).1 e
    rw [h.2 x List.mem_cons_self] at this
    cases this
  have hne : askW (x :: r) ≠ [] := join_ne _ _ _ hxne
  have hl := askW_len _ h
  have hlong := splitLongQ [32, 38, 32] (by simp) (r.map atW) (atW x)
  have h16 := h.1
  rw [List.length_cons] at h16
  constructor
  · have hp : parts 32 (askW (x :: r)) = atW x :: (r.map atW).flatMap (fun w => [[38], w]) := by
      unfold askW
      rw [List.map_cons, join_amp, parts_words]
      intro w hw
      rcases List.mem_cons.1 hw with rfl | hw
      · exact atW_no x
      · obtain ⟨v, hv, hw⟩ := List.mem_flatMap.1 hw
        obtain ⟨y, _, rfl⟩ := List.mem_map.1 hv
        simp only [List.mem_cons, List.not_mem_nil, or_false] at hw
        rcases hw with rfl | rfl
        · decide
        · exact atW_no y
    have hx := atomR_good (h.2 x List.mem_cons_self)
    have ey : atY (atW x) = x := by unfold atY; rw [hx]
    rw [spec_parseAsk_all _ (by omega) hne k hk, hp]
    simp only [askR]
    rw [hx]
    simp only [if_true]
    rw [ey, askR_good r _ (fun y hy => h.2 y (List.mem_cons_of_mem _ hy))]
    show some (finQ _ ([] ++ [x] ++ r)) = _
    rw [List.nil_append, List.singleton_append]
    unfold finQ
    rw [askTextW_good _ h]
    simp
  · rw [impl_parseAsk_all _ (by omega) hne k (by omega)]
    have hs : Go.Lib.splitK [32, 38, 32] 0 (min 9 ((askW (x :: r)).length + 1) - 1) (askW (x :: r)) = (x :: r).map atW := by
      have e : askW (x :: r) = Go.Lib.join (atW x :: r.map atW) [32, 38, 32] := rfl
      rw [List.length_map] at hlong
      rw [e, List.map_cons]
      refine splitK_words 32 [38, 32] (r.map atW) (atW x) _ ?_ (by rw [List.length_map]; omega)
      intro w hw
      rw [← List.map_cons] at hw
      obtain ⟨y, _, rfl⟩ := List.mem_map.1 hw
      exact atW_no y
    rw [hs, askRes_good _ h]
theorem parseAsk_no (t : List UInt8) (ht : t.length ≤ 1048576) (hne : t ≠ []) (hn : ∀ l, goodAsk l → t ≠ askW l) (k : Nat) (hk : 4000 ≤ k) :
    spec_ParseAsk.f k (mk t) = some ([], false) ∧ impl_ParseAsk.f k (mk t) = some ([], false) := by
  constructor
  · by_cases hl : t.length ≤ 320
    · rw [spec_parseAsk_all t hl hne k hk]
      cases askR false (parts 32 t) [] with
      | none => rfl
      | some l =>
        rcases finQ_sound t l with e | ⟨hg, e⟩
        · exact congrArg some e
        · exact absurd e (hn l hg)
    · unfold spec_ParseAsk.f
      rw [mk_toList, if_neg hne, if_pos (by rw [mk_size]; omega)]
  · rw [impl_parseAsk_all t ht hne k (by omega)]
    rcases askRes_sound (Go.Lib.splitK [32, 38, 32] 0 (min 9 (t.length + 1) - 1) t) with e | ⟨l, hg, e⟩
    · rw [e]
    · refine absurd ?_ (hn l hg)
      unfold askW
      rw [← e, splitK_join [32, 38, 32] (by simp)]
theorem parseAsk_nil (k : Nat) : spec_ParseAsk.f k (mk []) = some ([], true) ∧ impl_ParseAsk.f k (mk []) = some ([], true) := by
  unfold spec_ParseAsk.f impl_ParseAsk.f
  rw [Option.bind_some, mk_toList, if_pos rfl, if_pos rfl]
  exact ⟨rfl, rfl⟩
theorem parseAsk_same (t : List UInt8) (ht : t.length ≤ 1048576) : ∃ l b, l.length ≤ 16 ∧ (∀ k, 4000 ≤ k → spec_ParseAsk.f k (mk t) = some (l, b)) ∧ (∀ k, 4000 ≤ k → impl_ParseAsk.f k (mk t) = some (l, b)) := by
  by_cases hne : t = []
  · subst hne
    exact ⟨[], true, by simp, fun k _ => (parseAsk_nil k).1, fun k _ => (parseAsk_nil k).2⟩
  · by_cases h : ∃ l, goodAsk l ∧ t = askW l
    · obtain ⟨l, hg, rfl⟩ := h
      cases l with
      | nil => exact absurd rfl hne
      | cons x r => exact ⟨x :: r, true, by have := hg.1; omega, fun k hk => (parseAsk_yes x r hg k hk).1, fun k hk => (parseAsk_yes x r hg k hk).2⟩
    · have hn : ∀ l, goodAsk l → t ≠ askW l := fun l hg e => h ⟨l, hg, e⟩
      exact ⟨[], false, by simp, fun k hk => (parseAsk_no t ht hne hn k hk).1, fun k hk => (parseAsk_no t ht hne hn k hk).2⟩

end Go.Proofs.YtbgclnjnngolmaaGreatDoor.Pure

/- Equality of programs in the laws. No condition but that lengths are lengths. -/
namespace Go.Proofs.YtbgclnjnngolmaaGreatDoor.Pure
open Go.RowKit Go.Proofs.YtbgclnjnngolmaaGreatDoor.P Go.Proofs.YtbgclnjnngolmaaGreatDoor.Gen Go.Proofs.YtbgclnjnngolmaaGreatDoorW.PrintWords

theorem rdIns (l : List Ins) (j : Nat) (h : j < l.length) : rd_T55 l (j : Int) = l[j] := getD_nat _ l j h
theorem rdCode (l : List (List Ins)) (j : Nat) (h : j < l.length) : l.getD (j : Int).toNat [] = l[j] := getD_nat _ l j h
theorem eqInstrSS_same (l : List (List Ins)) (hl : Len l) (hq : ∀ q ∈ l, q.length ≤ 1048576) (k : Nat) (hk : l.length + 1048577 < k) : laws_eqInstrSS.f k l l = some true := by
  unfold laws_eqInstrSS.f
  have hl' : l.length ≤ 9223372036854775807 := hl
  rw [if_pos rfl]
  have key : ∀ d k (j : Nat), j ≤ l.length → l.length - j = d → d + 1048577 < k → laws_eqInstrSS.l0 k l l (j : Int) = some true := by
    intro d
    induction d with
    | zero =>
      intro k j hj hd hk
      obtain ⟨k, rfl⟩ : ∃ m, k = m + 1 := ⟨k - 1, by omega⟩
      obtain rfl : j = l.length := by omega
      simp only [laws_eqInstrSS.l0]
      rw [if_neg (by omega)]
    | succ d ih =>
      intro k j hj hd hk
      obtain ⟨k, rfl⟩ : ∃ m, k = m + 1 := ⟨k - 1, by omega⟩
      have hlt : j < l.length := by omega
      have e : l.getD (j : Int).toNat [] = l[j] := getD_nat _ l j hlt
      have h16 := hq _ (List.getElem_mem hlt)
      simp only [laws_eqInstrSS.l0, rd_L5, e]
      rw [if_pos (by omega), if_pos (by omega), if_pos (by omega), eqInstrS_same l[j] (by show _ ≤ _; omega) k (by omega), Option.bind_some, if_pos rfl, wrap_succ hlt hl']
      exact ih k (j + 1) (by omega) (by omega) (by omega)
  exact key l.length k 0 (Nat.zero_le _) (by omega) hk
theorem eqProg_same (c : Int) (l : List (List Ins)) (hl : Len l) (hq : ∀ q ∈ l, q.length ≤ 1048576) (k : Nat) (hk : l.length + 1048577 < k) : laws_eqProg.f k c l c l = some true := by
  unfold laws_eqProg.f
  rw [if_pos rfl, eqInstrSS_same l hl hq k hk]
  rfl

end Go.Proofs.YtbgclnjnngolmaaGreatDoor.Pure

/- The classic tests by name: the program's and the reference's Known. No condition. -/
namespace Go.Proofs.YtbgclnjnngolmaaGreatDoor.Pure
open Go.RowKit Go.Proofs.YtbgclnjnngolmaaGreatDoor.P Go.Proofs.YtbgclnjnngolmaaGreatDoor.Gen Go.Proofs.YtbgclnjnngolmaaGreatDoorW.PrintWords Go.Proofs.YtbgclnjnngolmaaGreatDoor.Split

def namesK : List ByteArray := (([(⟨#[83, 66]⟩ : ByteArray), (⟨#[83, 66, 70]⟩ : ByteArray), (⟨#[77, 80]⟩ : ByteArray), (⟨#[76, 66]⟩ : ByteArray), (⟨#[67, 79]⟩ : ByteArray), (⟨#[82, 87]⟩ : ByteArray), (⟨#[87, 67]⟩ : ByteArray), (⟨#[83, 87]⟩ : ByteArray)] : List ByteArray))
def codesK : List (List ByteArray) := (([(([(⟨#[115, 101, 116, 32, 49, 32, 49, 59, 32, 115, 116, 111, 114, 101, 32, 49, 32, 48, 59, 32, 108, 111, 97, 100, 32, 48, 32, 49]⟩ : ByteArray), (⟨#[115, 101, 116, 32, 49, 32, 49, 59, 32, 115, 116, 111, 114, 101, 32, 49, 32, 49, 59, 32, 108, 111, 97, 100, 32, 48, 32, 48]⟩ : ByteArray)] : List ByteArray)), (([(⟨#[115, 101, 116, 32, 49, 32, 49, 59, 32, 115, 116, 111, 114, 101, 32, 49, 32, 48, 59, 32, 102, 101, 110, 99, 101, 59, 32, 108, 111, 97, 100, 32, 48, 32, 49]⟩ : ByteArray), (⟨#[115, 101, 116, 32, 49, 32, 49, 59, 32, 115, 116, 111, 114, 101, 32, 49, 32, 49, 59, 32, 102, 101, 110, 99, 101, 59, 32, 108, 111, 97, 100, 32, 48, 32, 48]⟩ : ByteArray)] : List ByteArray)), (([(⟨#[115, 101, 116, 32, 49, 32, 49, 59, 32, 115, 116, 111, 114, 101, 32, 49, 32, 48, 59, 32, 115, 116, 111, 114, 101, 32, 49, 32, 49]⟩ : ByteArray), (⟨#[108, 111, 97, 100, 32, 48, 32, 49, 59, 32, 108, 111, 97, 100, 32, 49, 32, 48]⟩ : ByteArray)] : List ByteArray)), (([(⟨#[115, 101, 116, 32, 49, 32, 49, 59, 32, 108, 111, 97, 100, 32, 48, 32, 48, 59, 32, 115, 116, 111, 114, 101, 32, 49, 32, 49]⟩ : ByteArray), (⟨#[115, 101, 116, 32, 49, 32, 49, 59, 32, 108, 111, 97, 100, 32, 48, 32, 49, 59, 32, 115, 116, 111, 114, 101, 32, 49, 32, 48]⟩ : ByteArray)] : List ByteArray)), (([(⟨#[115, 101, 116, 32, 49, 32, 49, 59, 32, 115, 116, 111, 114, 101, 32, 49, 32, 48]⟩ : ByteArray), (⟨#[108, 111, 97, 100, 32, 48, 32, 48, 59, 32, 108, 111, 97, 100, 32, 50, 32, 48]⟩ : ByteArray)] : List ByteArray)), (([(⟨#[115, 101, 116, 32, 49, 32, 49, 59, 32, 115, 116, 111, 114, 101, 32, 49, 32, 48, 59, 32, 108, 111, 97, 100, 32, 48, 32, 48, 59, 32, 108, 111, 97, 100, 32, 50, 32, 49]⟩ : ByteArray), (⟨#[115, 101, 116, 32, 49, 32, 49, 59, 32, 115, 116, 111, 114, 101, 32, 49, 32, 49, 59, 32, 108, 111, 97, 100, 32, 48, 32, 49, 59, 32, 108, 111, 97, 100, 32, 50, 32, 48]⟩ : ByteArray)] : List ByteArray)), (([(⟨#[115, 101, 116, 32, 49, 32, 49, 59, 32, 115, 116, 111, 114, 101, 32, 49, 32, 48]⟩ : ByteArray), (⟨#[115, 101, 116, 32, 49, 32, 49, 59, 32, 108, 111, 97, 100, 32, 48, 32, 48, 59, 32, 115, 116, 111, 114, 101, 32, 49, 32, 49]⟩ : ByteArray), (⟨#[108, 111, 97, 100, 32, 48, 32, 49, 59, 32, 108, 111, 97, 100, 32, 50, 32, 48]⟩ : ByteArray)] : List ByteArray)), (([(⟨#[115, 101, 116, 32, 49, 32, 49, 59, 32, 115, 119, 97, 112, 32, 48, 32, 49, 32, 48, 59, 32, 108, 111, 97, 100, 32, 50, 32, 49]⟩ : ByteArray), (⟨#[115, 101, 116, 32, 49, 32, 49, 59, 32, 115, 119, 97, 112, 32, 48, 32, 49, 32, 49, 59, 32, 108, 111, 97, 100, 32, 50, 32, 48]⟩ : ByteArray)] : List ByteArray))] : List (List ByteArray)))
def asksK : List ByteArray := (([(⟨#[48, 58, 48, 61, 48, 32, 38, 32, 49, 58, 48, 61, 48]⟩ : ByteArray), (⟨#[48, 58, 48, 61, 48, 32, 38, 32, 49, 58, 48, 61, 48]⟩ : ByteArray), (⟨#[49, 58, 48, 61, 49, 32, 38, 32, 49, 58, 49, 61, 48]⟩ : ByteArray), (⟨#[48, 58, 48, 61, 49, 32, 38, 32, 49, 58, 48, 61, 49]⟩ : ByteArray), (⟨#[49, 58, 48, 61, 49, 32, 38, 32, 49, 58, 50, 61, 48]⟩ : ByteArray), (⟨#[48, 58, 48, 61, 49, 32, 38, 32, 48, 58, 50, 61, 48, 32, 38, 32, 49, 58, 48, 61, 49, 32, 38, 32, 49, 58, 50, 61, 48]⟩ : ByteArray), (⟨#[49, 58, 48, 61, 49, 32, 38, 32, 50, 58, 48, 61, 49, 32, 38, 32, 50, 58, 50, 61, 48]⟩ : ByteArray), (⟨#[48, 58, 50, 61, 48, 32, 38, 32, 49, 58, 50, 61, 48]⟩ : ByteArray)] : List ByteArray))
noncomputable def cB (t : ByteArray) : List Ins := if h : t.data.toList.length ≤ 1048576 then (parseCode_same t.data.toList h).choose else []
noncomputable def qB (t : ByteArray) : List Atm := if h : t.data.toList.length ≤ 1048576 then (parseAsk_same t.data.toList h).choose else []
theorem cB_ok (t : ByteArray) (h : t.size ≤ 1048576) : (cB t).length ≤ 16 ∧ ∃ b, (∀ k, 4000 ≤ k → spec_ParseCode.f k t = some (cB t, b)) ∧ (∀ k, 4000 ≤ k → impl_ParseCode.f k t = some (cB t, b)) := by
  have h' : t.data.toList.length ≤ 1048576 := h
  have e : cB t = (parseCode_same t.data.toList h').choose := by unfold cB; rw [dif_pos h']
  obtain ⟨b, h1, h2, h3⟩ := (parseCode_same t.data.toList h').choose_spec
  rw [← e] at h1 h2 h3
  rw [list_mk] at h2 h3
  exact ⟨h1, b, h2, h3⟩
theorem qB_ok (t : ByteArray) (h : t.size ≤ 1048576) : (qB t).length ≤ 16 ∧ ∃ b, (∀ k, 4000 ≤ k → spec_ParseAsk.f k t = some (qB t, b)) ∧ (∀ k, 4000 ≤ k → impl_ParseAsk.f k t = some (qB t, b)) := by
  have h' : t.data.toList.length ≤ 1048576 := h
  have e : qB t = (parseAsk_same t.data.toList h').choose := by unfold qB; rw [dif_pos h']
  obtain ⟨b, h1, h2, h3⟩ := (parseAsk_same t.data.toList h').choose_spec
  rw [← e] at h1 h2 h3
  rw [list_mk] at h2 h3
  exact ⟨h1, b, h2, h3⟩
theorem rdW (ws : List ByteArray) (j : Nat) (h : j < ws.length) : rdOf ByteArray.empty ws (j : Int) = ws[j] := rdOf_nat _ _ _ h
theorem impl_known_loop (q : ByteArray) (hq : q.size ≤ 1048576) (ts : List ByteArray) (hn : ts.length ≤ 100) (hw : ∀ t ∈ ts, t.size ≤ 1048576) : ∀ d (j k : Nat) (acc : List (List Ins)), j ≤ ts.length → ts.length - j = d → 4100 + d < k → acc.length ≤ j →
    impl_Known.l0 k q ts (ts.length : Int) (j : Int) 2 acc = some (2, acc ++ (ts.drop j).map cB, qB q, true) := by
  intro d
  induction d with
  | zero =>
    intro j k acc hj hd hk ha
    obtain ⟨k, rfl⟩ : ∃ m, k = m + 1 := ⟨k - 1, by omega⟩
    obtain ⟨_, b, _, h2⟩ := qB_ok q hq
    simp only [impl_Known.l0]
    rw [if_neg (by omega), h2 k (by omega), Option.bind_some, List.drop_of_length_le (by omega)]
    simp
  | succ d ih =>
    intro j k acc hj hd hk ha
    obtain ⟨k, rfl⟩ : ∃ m, k = m + 1 := ⟨k - 1, by omega⟩
    have hlt : j < ts.length := by omega
    obtain ⟨_, b, _, h2⟩ := cB_ok ts[j] (hw _ (List.getElem_mem hlt))
    simp only [impl_Known.l0]
    rw [if_pos (by omega), if_pos (by omega), if_pos (by omega), rdW ts j hlt, h2 k (by omega), Option.bind_some, if_pos (by omega), wrap_succ hlt (by omega), ih (j + 1) k _ (by omega) (by omega) (by omega) (by rw [List.length_append, List.length_singleton]; omega), List.drop_eq_getElem_cons hlt, List.map_cons, List.append_assoc]
    rfl
theorem spec_codes_loop (ts : List ByteArray) (hn : ts.length ≤ 100) (hw : ∀ t ∈ ts, t.size ≤ 1048576) : ∀ d (j k : Nat) (acc : List (List Ins)), j ≤ ts.length → ts.length - j = d → 4100 + d < k → acc.length ≤ j →
    spec_l06Codes.l0 k ts acc (j : Int) = some (acc ++ (ts.drop j).map cB) := by
  intro d
  induction d with
  | zero =>
    intro j k acc hj hd hk ha
    obtain ⟨k, rfl⟩ : ∃ m, k = m + 1 := ⟨k - 1, by omega⟩
    simp only [spec_l06Codes.l0]
    rw [if_neg (by omega), List.drop_of_length_le (by omega)]
    simp
  | succ d ih =>
    intro j k acc hj hd hk ha
    obtain ⟨k, rfl⟩ : ∃ m, k = m + 1 := ⟨k - 1, by omega⟩
    have hlt : j < ts.length := by omega
    obtain ⟨_, b, h1, _⟩ := cB_ok ts[j] (hw _ (List.getElem_mem hlt))
    simp only [spec_l06Codes.l0]
    rw [if_pos (by omega), if_pos (by omega), rdW ts j hlt, h1 k (by omega), Option.bind_some, if_pos (by omega), wrap_succ hlt (by omega), ih (j + 1) k _ (by omega) (by omega) (by omega) (by rw [List.length_append, List.length_singleton]; omega), List.drop_eq_getElem_cons hlt, List.map_cons, List.append_assoc]
    rfl
abbrev AnsK := Int × List (List Ins) × List Atm × Bool
noncomputable def ansK (i : Nat) : AnsK := (2, (codesK.getD i []).map cB, qB (asksK.getD i ByteArray.empty), true)
theorem eightK {i : Nat} (h : i < 8) : i = 0 ∨ i = 1 ∨ i = 2 ∨ i = 3 ∨ i = 4 ∨ i = 5 ∨ i = 6 ∨ i = 7 := by omega
theorem smallK {i : Nat} (h : i < 8) : (codesK.getD i []).length ≤ 3 ∧ 1 ≤ (codesK.getD i []).length ∧ (∀ t ∈ codesK.getD i [], t.size ≤ 1048576) ∧ (asksK.getD i ByteArray.empty).size ≤ 1048576 := by
  rcases eightK h with rfl | rfl | rfl | rfl | rfl | rfl | rfl | rfl
  all_goals
    refine ⟨by decide, by decide, ?_, by decide⟩
    intro t ht
    simp only [codesK, List.getD_cons_zero, List.getD_cons_succ, List.mem_cons, List.not_mem_nil, or_false] at ht
    first
      | (rcases ht with rfl | rfl | rfl <;> decide)
      | (rcases ht with rfl | rfl <;> decide)
theorem impl_known_at (a0 : ByteArray) {i : Nat} (hi : i < 8) (h : (namesK.getD i ByteArray.empty).toList = a0.toList) : impl_known.f a0 = some (codesK.getD i [], asksK.getD i ByteArray.empty) := by
  unfold impl_known.f
  rw [← h]
  rcases eightK hi with rfl | rfl | rfl | rfl | rfl | rfl | rfl | rfl
  all_goals
    simp only [namesK, List.getD_cons_zero, List.getD_cons_succ, ByteArray.toList_eq]
    rfl
theorem impl_known_none (a0 : ByteArray) (h : ∀ i, i < 8 → (namesK.getD i ByteArray.empty).toList ≠ a0.toList) : impl_known.f a0 = some ([], (⟨#[]⟩ : ByteArray)) := by
  have g : ∀ (i : Nat) (l : List UInt8), i < 8 → (namesK.getD i ByteArray.empty).toList = l → ¬ a0.toList = l := fun i l hi e e2 => h i hi (e.trans e2.symm)
  have nm : ∀ l : List UInt8, (mk l).toList = l := mk_toList
  unfold impl_known.f
  rw [if_neg (g 0 _ (by omega) (nm _)), if_neg (g 1 _ (by omega) (nm _)), if_neg (g 2 _ (by omega) (nm _)), if_neg (g 3 _ (by omega) (nm _)), if_neg (g 4 _ (by omega) (nm _)), if_neg (g 5 _ (by omega) (nm _)), if_neg (g 6 _ (by omega) (nm _)), if_neg (g 7 _ (by omega) (nm _))]
theorem spec_known_step (a0 : ByteArray) {i : Nat} (hi : i < 8) (k : Nat) (hk : 4300 ≤ k) : spec_Known.l0 (k + 1) a0 namesK codesK asksK (i : Int) = if (namesK.getD i ByteArray.empty).toList = a0.toList then some (ansK i) else spec_Known.l0 k a0 namesK codesK asksK ((i + 1 : Nat) : Int) := by
  obtain ⟨s1, s2, s3, s4⟩ := smallK hi
  have l1 : (namesK.length : Int) = 8 := rfl
  have l2 : (codesK.length : Int) = 8 := rfl
  have l3 : (asksK.length : Int) = 8 := rfl
  simp only [spec_Known.l0]
  have e1 : rdOf ByteArray.empty namesK (i : Int) = namesK.getD i ByteArray.empty := by unfold rdOf; rw [Int.toNat_natCast]
  have e2 : rdOf ByteArray.empty asksK (i : Int) = asksK.getD i ByteArray.empty := by unfold rdOf; rw [Int.toNat_natCast]
  have e3 : rd_L6 codesK (i : Int) = codesK.getD i [] := by unfold rd_L6; rw [Int.toNat_natCast]
  rw [l1, l2, l3, if_pos (by omega), if_pos (by omega), e1, e2, e3, wrap_succ (n := 8) (by omega) (by omega)]
  by_cases h : (namesK.getD i ByteArray.empty).toList = a0.toList
  · obtain ⟨_, b, q1, _⟩ := qB_ok (asksK.getD i ByteArray.empty) s4
    have hc := spec_codes_loop (codesK.getD i []) (by omega) s3 _ 0 k [] (by omega) rfl (by omega) (by simp)
    rw [if_pos h, if_pos h, if_pos (by omega), q1 k (by omega), Option.bind_some, if_pos (by omega)]
    have hc' : spec_l06Codes.f k (codesK.getD i []) = some ((codesK.getD i []).map cB) := by
      unfold spec_l06Codes.f
      simpa using hc
    rw [hc', Option.bind_some]
    rfl
  · rw [if_neg h, if_neg h]
theorem spec_known_skip (a0 : ByteArray) : ∀ (i : Nat), i ≤ 8 → (∀ j, j < i → (namesK.getD j ByteArray.empty).toList ≠ a0.toList) → ∀ k, 4400 ≤ k → spec_Known.l0 (k + i) a0 namesK codesK asksK 0 = spec_Known.l0 k a0 namesK codesK asksK (i : Int)
  | 0, _, _, k, _ => rfl
  | i + 1, hi, h, k, hk => by
    have := spec_known_skip a0 i (by omega) (fun j hj => h j (by omega)) (k + 1) (by omega)
    rw [show k + (i + 1) = k + 1 + i by omega, this, spec_known_step a0 (by omega) k (by omega), if_neg (h i (by omega))]
theorem known_same (a0 : ByteArray) : ∃ (c : Int) (l : List (List Ins)) (q : List Atm) (b : Bool), l.length ≤ 3 ∧ (∀ x ∈ l, x.length ≤ 1048576) ∧ q.length ≤ 16 ∧ (∀ k, 5000 ≤ k → spec_Known.f k a0 = some (c, l, q, b)) ∧ (∀ k, 5000 ≤ k → impl_Known.f k a0 = some (c, l, q, b)) := by
  by_cases hex : ∃ i, i < 8 ∧ (namesK.getD i ByteArray.empty).toList = a0.toList ∧ ∀ j, j < i → (namesK.getD j ByteArray.empty).toList ≠ a0.toList
  · obtain ⟨i, hi, he, hmin⟩ := hex
    obtain ⟨s1, s2, s3, s4⟩ := smallK hi
    refine ⟨2, (codesK.getD i []).map cB, qB (asksK.getD i ByteArray.empty), true, by rw [List.length_map]; exact s1, ?_, (qB_ok _ s4).1, fun k hk => ?_, fun k hk => ?_⟩
    · intro x hx
      obtain ⟨t, ht, rfl⟩ := List.mem_map.1 hx
      have := (cB_ok t (s3 t ht)).1
      omega
    · have hs := spec_known_skip a0 i (by omega) hmin (k - i) (by omega)
      rw [show k - i + i = k by omega] at hs
      obtain ⟨m, hm⟩ : ∃ m, k - i = m + 1 := ⟨k - i - 1, by omega⟩
      show spec_Known.l0 k a0 namesK codesK asksK 0 = _
      rw [hs, hm, spec_known_step a0 hi m (by omega), if_pos he]
      rfl
    · unfold impl_Known.f
      rw [impl_known_at a0 hi he, Option.bind_some]
      simp only
      rw [if_neg (by omega)]
      have := impl_known_loop (asksK.getD i ByteArray.empty) s4 (codesK.getD i []) (by omega) s3 _ 0 k [] (by omega) rfl (by omega) (by simp)
      simpa using this
  · have hall : ∀ n i, i < n → i < 8 → (namesK.getD i ByteArray.empty).toList ≠ a0.toList := by
      intro n
      induction n with
      | zero => intro i hi; omega
      | succ n ih =>
        intro i hi h8 he
        by_cases c : i < n
        · exact ih i c h8 he
        · exact hex ⟨i, h8, he, fun j hj => ih j (by omega) (by omega)⟩
    have hno : ∀ i, i < 8 → (namesK.getD i ByteArray.empty).toList ≠ a0.toList := fun i hi => hall 9 i (by omega) hi
    refine ⟨0, [], [], false, by simp, by simp, by simp, fun k hk => ?_, fun k hk => ?_⟩
    · have hs := spec_known_skip a0 8 (by omega) hno (k - 8) (by omega)
      rw [show k - 8 + 8 = k by omega] at hs
      obtain ⟨m, hm⟩ : ∃ m, k - 8 = m + 1 := ⟨k - 9, by omega⟩
      show spec_Known.l0 k a0 namesK codesK asksK 0 = _
      rw [hs, hm]
      simp only [spec_Known.l0]
      rw [if_neg (by show ¬ ((8 : Nat) : Int) < (8 : Int); omega)]
    · unfold impl_Known.f
      rw [impl_known_none a0 hno, Option.bind_some]
      rfl

end Go.Proofs.YtbgclnjnngolmaaGreatDoor.Pure

/- Marks on a code and on a row of codes, and whether they are found. No condition but that lengths are small. -/
namespace Go.Proofs.YtbgclnjnngolmaaGreatDoor.Pure
open Go.RowKit Go.Proofs.YtbgclnjnngolmaaGreatDoor.P Go.Proofs.YtbgclnjnngolmaaGreatDoor.Gen Go.Proofs.YtbgclnjnngolmaaGreatDoorW.PrintWords

theorem markInstrS (l : List Ins) (a : Int) (hl : Len l) (h0 : 0 ≤ a) (h1 : a + 4 * l.length ≤ 9223372036854775807) :
    ∃ l', l'.length = l.length ∧ ∀ k, l.length < k → laws_markInstrS.f k l a = some (a + 4 * l.length, l') ∧ laws_heldInstrS.f k l' a = some (a + 4 * l.length) := by
  have := marked 4 (fun a _ => (⟨a, a + 1, a + 1 + 1, a + 1 + 1 + 1⟩ : Ins)) laws_markInstrS.l0 laws_heldInstrS.l0
    (fun k p x r a h0 h1 h2 => by
      have e : ((p ++ x :: r).length : Int) = p.length + r.length + 1 := by simp; omega
      simp only [laws_markInstrS.l0, Option.bind_some]
      rw [if_pos (by omega), if_pos (by omega), Int.toNat_natCast, set_mid, rdIns _ p.length (by simp), get_mid, rdIns _ p.length (by simp), get_mid, set_mid, rdIns _ p.length (by simp), get_mid, set_mid, rdIns _ p.length (by simp), get_mid, set_mid, wrap_id (x := a + 1) (by omega) (by omega), wrap_id (x := a + 1 + 1) (by omega) (by omega), wrap_id (x := a + 1 + 1 + 1) (by omega) (by omega), wrap_id (x := a + 1 + 1 + 1 + 1) (by omega) (by omega), wrap_succ (n := (p ++ x :: r).length) (by omega) h2, show a + 1 + 1 + 1 + 1 = a + (4 : Nat) from by omega])
    (fun k p a => by simp only [laws_markInstrS.l0]; rw [if_neg (by omega)])
    (fun k p x r a h0 h1 h2 => by
      have e : ((p ++ (⟨a, a + 1, a + 1 + 1, a + 1 + 1 + 1⟩ : Ins) :: r).length : Int) = p.length + r.length + 1 := by simp; omega
      simp only [laws_heldInstrS.l0]
      rw [if_pos (by omega), if_pos (by omega), rdIns _ p.length (by simp), get_mid, if_pos rfl, wrap_id (x := a + 1) (by omega) (by omega), if_pos rfl, wrap_id (x := a + 1 + 1) (by omega) (by omega), if_pos rfl, wrap_id (x := a + 1 + 1 + 1) (by omega) (by omega), if_pos rfl, wrap_id (x := a + 1 + 1 + 1 + 1) (by omega) (by omega), wrap_succ (n := (p ++ (⟨a, a + 1, a + 1 + 1, a + 1 + 1 + 1⟩ : Ins) :: r).length) (by omega) h2, show a + 1 + 1 + 1 + 1 = a + (4 : Nat) from by omega])
    (fun k p a => by simp only [laws_heldInstrS.l0]; rw [if_neg (by omega)]) l [] a hl h0 (by omega)
  simpa [laws_markInstrS.f, laws_heldInstrS.f] using this
theorem markSS_at (r : List (List Ins)) : ∀ (p : List (List Ins)) (a : Int), (p ++ r).length ≤ 1048576 → (∀ q ∈ r, q.length ≤ 1048576) → 0 ≤ a → a + 4194304 * r.length ≤ 4611686018427387904 →
    ∃ (t : Int) (r' : List (List Ins)), r'.length = r.length ∧ a ≤ t ∧ t ≤ a + 4194304 * r.length ∧ ∀ k, r.length + 1048577 < k → laws_markInstrSS.l0 k (p ++ r) a (p.length : Int) = some (t, p ++ r') ∧ laws_heldInstrSS.l0 k (p ++ r') a (p.length : Int) = some t := by
  induction r with
  | nil =>
    intro p a hl hq h0 h1
    refine ⟨a, [], rfl, Int.le_refl _, by simp, fun k hk => ?_⟩
    obtain ⟨k, rfl⟩ : ∃ m, k = m + 1 := ⟨k - 1, by omega⟩
    simp only [List.append_nil, laws_markInstrSS.l0, laws_heldInstrSS.l0]
    rw [if_neg (by omega), if_neg (by omega)]
    exact ⟨by simp, rfl⟩
  | cons x r ih =>
    intro p a hl hq h0 h1
    have hx := hq x (List.mem_cons_self ..)
    simp only [List.length_cons] at h1
    obtain ⟨x', hx', hm⟩ := markInstrS x a (by show _ ≤ _; omega) h0 (by omega)
    obtain ⟨t, r', hr', ht, htu, h⟩ := ih (p ++ [x']) (a + 4 * x.length) (by simp at hl ⊢; omega) (fun q h => hq q (List.mem_cons_of_mem _ h)) (by omega) (by omega)
    refine ⟨t, x' :: r', by simp [hr'], by omega, by simp only [List.length_cons]; omega, fun k hk => ?_⟩
    obtain ⟨k, rfl⟩ : ∃ m, k = m + 1 := ⟨k - 1, by omega⟩
    simp only [List.length_cons] at hk
    obtain ⟨h2, h3⟩ := h k (by omega)
    obtain ⟨m1, m2⟩ := hm k (by omega)
    have e : ((p ++ x :: r).length : Int) = p.length + r.length + 1 := by simp; omega
    have e' : ((p ++ x' :: r').length : Int) = p.length + r'.length + 1 := by simp; omega
    have g1 : (p ++ x :: r).getD (p.length : Int).toNat [] = x := by rw [rdCode _ p.length (by simp), get_mid]
    have g2 : (p ++ x' :: r').getD (p.length : Int).toNat [] = x' := by rw [rdCode _ p.length (by simp), get_mid]
    simp only [List.append_assoc, List.singleton_append, List.length_append, List.length_singleton] at h2 h3
    have w1 : wrap64 ((p.length : Int) + 1) = ((p.length + 1 : Nat) : Int) := wrap_succ (n := (p ++ x :: r).length) (by omega) (by omega)
    have c0 : (0 : Int) ≤ p.length := Int.natCast_nonneg _
    have c3 : ¬ (a + 4 * (x.length : Int) < 0) := by omega
    clear hk hq ht htu hr' hx hx' hm ih h hl h1 h0
    have c1 : (p.length : Int) < ((p ++ x :: r).length : Int) := by omega
    have c2 : (p.length : Int) < ((p ++ x' :: r').length : Int) := by omega
    constructor
    · simp only [laws_markInstrSS.l0, g1]
      rw [if_pos c1, if_pos c0, m1, Option.bind_some]
      simp only
      rw [Int.toNat_natCast, set_mid, w1, h2]
    · simp only [laws_heldInstrSS.l0, rd_L5, g2]
      rw [if_pos c2, if_pos c0, m2, Option.bind_some, if_neg c3, w1, h3]
/-- The marks tell a number, the same however many rounds there are. -/
theorem markProg_le (c : Int) (l : List (List Ins)) (a : Int) (hl : l.length ≤ 1048576) (hq : ∀ q ∈ l, q.length ≤ 1048576) (h0 : 0 ≤ a) (h1 : a ≤ 1073741824) : ∃ t, 0 ≤ t ∧ t ≤ 5000000000000 ∧ ∀ k, l.length + 1048577 < k → laws_markProg.f k c l a = some t := by
  obtain ⟨t, r', hr', ht, htu, h⟩ := markSS_at l [] a (by simpa using hl) hq h0 (by omega)
  simp only [List.nil_append] at h
  have h' : ∀ k, l.length + 1048577 < k → laws_markProg.f k c l a = some t := fun k hk => by
    obtain ⟨m1, m2⟩ := h k hk
    have m1' : laws_markInstrSS.f k l a = some (t, r') := m1
    have m2' : laws_heldInstrSS.f k r' a = some t := m2
    unfold laws_markProg.f laws_heldProg.f
    rw [m1', Option.bind_some]
    simp only
    rw [m2', Option.bind_some, if_neg (by omega), Option.bind_some, if_pos rfl]
  exact ⟨t, by omega, by omega, h'⟩
theorem markProg (c : Int) (l : List (List Ins)) (a : Int) (hl : l.length ≤ 1048576) (hq : ∀ q ∈ l, q.length ≤ 1048576) (h0 : 0 ≤ a) (h1 : a ≤ 1073741824) : ∃ t, 0 ≤ t ∧ ∀ k, l.length + 1048577 < k → laws_markProg.f k c l a = some t := by
  obtain ⟨t, h, _, h2⟩ := markProg_le c l a hl hq h0 h1
  exact ⟨t, h, h2⟩

end Go.Proofs.YtbgclnjnngolmaaGreatDoor.Pure

/- Marks on a row of atoms, and whether they are found. No condition but that lengths are small. -/
namespace Go.Proofs.YtbgclnjnngolmaaGreatDoor.Pure
open Go.RowKit Go.Proofs.YtbgclnjnngolmaaGreatDoor.P Go.Proofs.YtbgclnjnngolmaaGreatDoor.Gen Go.Proofs.YtbgclnjnngolmaaGreatDoorW.PrintWords

theorem rdAtm2 (l : List Atm) (j : Nat) (h : j < l.length) : rd_T46 l (j : Int) = l[j] := getD_nat _ l j h
theorem markAtm (l : List Atm) (a : Int) (hl : Len l) (h0 : 0 ≤ a) (h1 : a + 4 * l.length ≤ 9223372036854775807) :
    ∃ l', l'.length = l.length ∧ ∀ k, l.length < k → laws_markAtomS.f k l a = some (a + 4 * l.length, l') ∧ laws_heldAtomS.f k l' a = some (a + 4 * l.length) := by
  have := marked 4 (fun a _ => (⟨a, a + 1, a + 1 + 1, a + 1 + 1 + 1⟩ : Atm)) laws_markAtomS.l0 laws_heldAtomS.l0
    (fun k p x r a h0 h1 h2 => by
      have e : ((p ++ x :: r).length : Int) = p.length + r.length + 1 := by simp; omega
      simp only [laws_markAtomS.l0, Option.bind_some]
      rw [if_pos (by omega), if_pos (by omega), Int.toNat_natCast, set_mid, rdAtm2 _ p.length (by simp), get_mid, rdAtm2 _ p.length (by simp), get_mid, set_mid, rdAtm2 _ p.length (by simp), get_mid, set_mid, rdAtm2 _ p.length (by simp), get_mid, set_mid, wrap_id (x := a + 1) (by omega) (by omega), wrap_id (x := a + 1 + 1) (by omega) (by omega), wrap_id (x := a + 1 + 1 + 1) (by omega) (by omega), wrap_id (x := a + 1 + 1 + 1 + 1) (by omega) (by omega), wrap_succ (n := (p ++ x :: r).length) (by omega) h2, show a + 1 + 1 + 1 + 1 = a + (4 : Nat) from by omega])
    (fun k p a => by simp only [laws_markAtomS.l0]; rw [if_neg (by omega)])
    (fun k p x r a h0 h1 h2 => by
      have e : ((p ++ (⟨a, a + 1, a + 1 + 1, a + 1 + 1 + 1⟩ : Atm) :: r).length : Int) = p.length + r.length + 1 := by simp; omega
      simp only [laws_heldAtomS.l0]
      rw [if_pos (by omega), if_pos (by omega), rdAtm2 _ p.length (by simp), get_mid, if_pos rfl, wrap_id (x := a + 1) (by omega) (by omega), if_pos rfl, wrap_id (x := a + 1 + 1) (by omega) (by omega), if_pos rfl, wrap_id (x := a + 1 + 1 + 1) (by omega) (by omega), if_pos rfl, wrap_id (x := a + 1 + 1 + 1 + 1) (by omega) (by omega), wrap_succ (n := (p ++ (⟨a, a + 1, a + 1 + 1, a + 1 + 1 + 1⟩ : Atm) :: r).length) (by omega) h2, show a + 1 + 1 + 1 + 1 = a + (4 : Nat) from by omega])
    (fun k p a => by simp only [laws_heldAtomS.l0]; rw [if_neg (by omega)]) l [] a hl h0 (by omega)
  simpa [laws_markAtomS.f, laws_heldAtomS.f] using this

end Go.Proofs.YtbgclnjnngolmaaGreatDoor.Pure

/- The law FnExactKnown answers true: the program's Known gives what the reference's gives, for every name, in memory of its own. No condition. -/
namespace Go.Proofs.YtbgclnjnngolmaaGreatDoor.Pure
open Go.RowKit Go.Proofs.YtbgclnjnngolmaaGreatDoor.P Go.Proofs.YtbgclnjnngolmaaGreatDoor.Gen Go.Proofs.YtbgclnjnngolmaaGreatDoorW.PrintWords

theorem FnExactKnown : laws_FnExactKnown.Left := by
  intro a0 ha
  refine ⟨2000002, ?_⟩
  unfold laws_FnExactKnown.f
  by_cases hsz : (a0.size : Int) > 1048576
  · rw [if_pos hsz]
  rw [if_neg hsz]
  obtain ⟨c, l, q, b, hl, hx, hq, hs, hi⟩ := known_same a0
  have hL : Len l := by unfold Len; omega
  have hQ : Len q := by unfold Len; omega
  obtain ⟨t, ht0, ht1, ht⟩ := markProg_le c l 1 (by omega) hx (by omega) (by omega)
  obtain ⟨q', hq', hm⟩ := markAtm q t hQ ht0 (by omega)
  have e1 := eqProg_same c l hL hx 2000002 (by omega)
  have e2 := eqAtomS_same q hQ 2000002 (by omega)
  have nt : ¬ t < 0 := by omega
  have nu : ¬ (t + 4 * (q.length : Int) < 0) := by omega
  obtain ⟨m1, m2⟩ := hm 2000002 (by omega)
  simp only [hs 2000002 (by omega), hi 2000002 (by omega), Option.bind_some, e1, e2, if_true, bne_self_eq_false, Bool.false_eq_true, if_false, ht 2000002 (by omega), m1, m2, if_neg nt, if_neg nu]

end Go.Proofs.YtbgclnjnngolmaaGreatDoor.Pure
