/- The reference's parting of texts and reading of numbers. No condition but on lengths. -/
import Derived.Test.YtchpopocnaoabaaDoorSplit
import Derived.Test.YtchpopocnaoabaaDoorNum
import Derived.Test.YtchpopocnaoabaaDoorScal
import Derived.Test.YtchpopocnaoabaaDoorTextP
import Derived.Test.YtchpopocnaoabaaDoorPspecl01Parts
import Derived.Test.YtchpopocnaoabaaDoorPstringsSplitN
import Derived.Test.YtchpopocnaoabaaDoorPstrconvAtoi
import Derived.Test.YtchpopocnaoabaaDoorPspecl01Parts
namespace Go.Proofs.YtchpopocnaoabaaDoor.Pure
open Go.RowKit Go.Proofs.YtchpopocnaoabaaDoor.P Go.Proofs.YtchpopocnaoabaaDoor.Gen Go.Proofs.YtchpopocnaoabaaDoorW.PrintWords Go.Proofs.YtchpopocnaoabaaDoor.Split

theorem mk_extract (l : List UInt8) (a b : Nat) : (mk l).extract a b = mk ((l.drop a).take (b - a)) := by
  apply ByteArray.ext
  simp [mk, ByteArray.data_extract, List.extract_eq_take_drop]
theorem bt_mk' (f : List UInt8) (j : Nat) (h : j < f.length) : bt (mk f) (j : Int) = (f[j].toNat : Int) := by
  unfold bt
  rw [dif_pos (by rw [Int.toNat_natCast, mk_size]; exact h)]
  simp [mk, ByteArray.getElem_eq_getElem_data]
theorem byte_is' (b c : UInt8) : ((b.toNat : Int) = (c.toNat : Int)) ↔ b = c := by
  constructor
  · intro h
    apply UInt8.toNat_inj.1
    omega
  · intro h
    rw [h]
theorem rdB (ws : List (List UInt8)) (j : Nat) (h : j < ws.length) : rdOf ByteArray.empty (ws.map mk) (j : Int) = mk ws[j] := by
  rw [rdOf_nat _ _ _ (by rw [List.length_map]; exact h), List.getElem_map]

/-- A piece put ahead of the first part. -/
def ahead (p : List UInt8) : List (List UInt8) → List (List UInt8)
  | [] => [p]
  | q :: r => (p ++ q) :: r
theorem parts_loop (l : List UInt8) (c : UInt8) (hl : l.length ≤ 1048576) : ∀ d (i a : Nat) (out : List ByteArray) k, a ≤ i → i ≤ l.length → l.length - i = d → c ∉ (l.drop a).take (i - a) → d + 1 < k → out.length ≤ a →
    spec_l01Parts.l0 k (mk l) (c.toNat : Int) out (a : Int) (i : Int) = some (out ++ (ahead ((l.drop a).take (i - a)) (parts c (l.drop i))).map mk) := by
  intro d
  induction d with
  | zero =>
    intro i a out k ha hi hd hc hk ho
    obtain ⟨k, rfl⟩ : ∃ m, k = m + 1 + 1 := ⟨k - 2, by omega⟩
    obtain rfl : i = l.length := by omega
    simp only [spec_l01Parts.l0]
    rw [if_pos (by rw [mk_size]; omega), if_pos (by rw [mk_size]), if_pos (by omega), if_pos (by omega), if_pos (by omega), if_neg (by rw [mk_size]; have : wrap64 ((l.length : Int) + 1) = (l.length : Int) + 1 := wrap_id (by omega) (by omega); omega), Int.toNat_natCast, Int.toNat_natCast, mk_extract, List.drop_length]
    simp [parts, ahead]
  | succ d ih =>
    intro i a out k ha hi hd hc hk ho
    obtain ⟨k, rfl⟩ : ∃ m, k = m + 1 := ⟨k - 1, by omega⟩
    have hlt : i < l.length := by omega
    simp only [spec_l01Parts.l0]
    rw [if_pos (by rw [mk_size]; omega), if_neg (by rw [mk_size]; omega), if_pos (by omega), if_pos (by rw [mk_size]; omega), bt_mk' l i hlt]
    have hw : wrap64 ((i : Int) + 1) = ((i + 1 : Nat) : Int) := wrap_succ hlt (by omega)
    by_cases hb : l[i] = c
    · rw [if_pos ((byte_is' _ _).2 hb), if_pos (by omega), if_pos (by omega), if_pos (by omega), hw, Int.toNat_natCast, Int.toNat_natCast, mk_extract,
        ih (i + 1) (i + 1) _ k (Nat.le_refl _) (by omega) (by omega) (by simp) (by omega) (by simp; omega), Nat.sub_self, List.take_zero, List.drop_eq_getElem_cons hlt]
      have e : parts c (l[i] :: l.drop (i + 1)) = [] :: parts c (l.drop (i + 1)) := by
        conv => lhs; unfold parts
        rw [if_pos hb]
      rw [e]
      obtain ⟨p, r, hp⟩ := parts_cons c (l.drop (i + 1))
      rw [hp]
      simp [ahead]
    · rw [if_neg (fun h => hb ((byte_is' _ _).1 h)), hw]
      have e1 : (l.drop a).take (i + 1 - a) = (l.drop a).take (i - a) ++ [l[i]] := by
        rw [show i + 1 - a = (i - a) + 1 by omega, List.take_add_one, List.getElem?_drop, show a + (i - a) = i by omega, List.getElem?_eq_getElem hlt]
        rfl
      rw [ih (i + 1) a out k (by omega) (by omega) (by omega) (by rw [e1]; simp only [List.mem_append, List.mem_singleton, not_or]; exact ⟨hc, fun h => hb h.symm⟩) (by omega) ho, e1, List.drop_eq_getElem_cons hlt]
      have e : parts c (l[i] :: l.drop (i + 1)) = match parts c (l.drop (i + 1)) with | [] => [[l[i]]] | p :: r => (l[i] :: p) :: r := by
        conv => lhs; unfold parts
        rw [if_neg hb]
        rfl
      rw [e]
      obtain ⟨p, r, hp⟩ := parts_cons c (l.drop (i + 1))
      rw [hp]
      simp [ahead]
theorem l01Parts (l : List UInt8) (c : UInt8) (hl : l.length ≤ 1048576) (k : Nat) (hk : l.length + 1 < k) : spec_l01Parts.f k (mk l) (c.toNat : Int) = some ((parts c l).map mk) := by
  unfold spec_l01Parts.f
  have := parts_loop l c hl l.length 0 0 [] k (Nat.le_refl _) (by omega) (by omega) (by simp) (by omega) (by simp)
  obtain ⟨p, r, hp⟩ := parts_cons c l
  simpa [ahead, hp] using this

/-- What stands behind the sign. -/
def magW (w : List UInt8) : List UInt8 := if w.head? = some 45 then w.tail else w
/-- A number read as the reference reads it. -/
def readR (w : List UInt8) : Int × Bool :=
  if 1 ≤ (magW w).length ∧ (magW w).length ≤ 7 then
    match Go.Lib.decFrom 0 (magW w) with
    | none => (0, false)
    | some n => if (magW w).length < w.length then (-(n : Int), Go.Lib.itoa (-(n : Int)) == w) else ((n : Int), Go.Lib.itoa (n : Int) == w)
  else (0, false)
theorem read_loop (w ds : List UInt8) (hds : ds.length ≤ 7) (K : Nat) (hK : 20 ≤ K) : ∀ d (j acc : Nat) k, j ≤ ds.length → ds.length - j = d → K + d < k → acc < 10 ^ j →
    spec_l01Read.l0 k (mk w) (mk ds) (acc : Int) (j : Int) = some (match Go.Lib.decFrom acc (ds.drop j) with | none => (0, false) | some n => if ds.length < w.length then (-(n : Int), Go.Lib.itoa (-(n : Int)) == w) else ((n : Int), Go.Lib.itoa (n : Int) == w)) := by
  intro d
  induction d with
  | zero =>
    intro j acc k hj hd hk ha
    obtain ⟨k, rfl⟩ : ∃ m, k = m + 1 := ⟨k - 1, by omega⟩
    obtain rfl : j = ds.length := by omega
    have hp : 10 ^ ds.length ≤ 10 ^ 7 := Nat.pow_le_pow_right (by omega) hds
    have hw : wrap64 (-(acc : Int)) = -(acc : Int) := wrap_id (by omega) (by omega)
    have hbe : ∀ z : List UInt8, ((mk z).toList == (mk w).toList) = (z == w) := fun z => by rw [mk_toList, mk_toList]
    simp only [spec_l01Read.l0]
    rw [if_neg (by rw [mk_size]; omega), mk_size, mk_size, List.drop_length]
    simp only [Go.Lib.decFrom]
    by_cases h : ds.length < w.length
    · rw [if_pos (by omega), if_pos h, hw, l01Num _ (by omega) (by omega) k (by omega), Option.bind_some, hbe]
    · rw [if_neg (by omega), if_neg h, l01Num _ (by omega) (by omega) k (by omega), Option.bind_some, hbe]
  | succ d ih =>
    intro j acc k hj hd hk ha
    obtain ⟨k, rfl⟩ : ∃ m, k = m + 1 := ⟨k - 1, by omega⟩
    have hlt : j < ds.length := by omega
    have hp : 10 ^ j ≤ 10 ^ 6 := Nat.pow_le_pow_right (by omega) (by omega)
    have hb : (ds[j]).toNat < 256 := (ds[j]).toNat_lt
    simp only [spec_l01Read.l0]
    rw [if_pos (by rw [mk_size]; omega), if_pos (by omega), bt_mk' ds j hlt, List.drop_eq_getElem_cons hlt]
    generalize ds[j] = b at *
    by_cases h1 : b.toNat < 48
    · rw [if_pos (by omega)]
      simp only [Go.Lib.decFrom, Go.Lib.digitVal, if_neg (show ¬ (48 ≤ b.toNat ∧ b.toNat ≤ 57) by omega)]
    · rw [if_neg (by omega)]
      by_cases h2 : 57 < b.toNat
      · rw [if_pos (by omega)]
        simp only [Go.Lib.decFrom, Go.Lib.digitVal, if_neg (show ¬ (48 ≤ b.toNat ∧ b.toNat ≤ 57) by omega)]
      · rw [if_neg (by omega)]
        have e : wrap64 ((wrap64 ((wrap64 (10 * (acc : Int))) + (wrap64 (b.toNat : Int)))) - 48) = ((acc * 10 + (b.toNat - 48) : Nat) : Int) := by
          rw [wrap_id (x := 10 * (acc : Int)) (by omega) (by omega), wrap_id (x := (b.toNat : Int)) (by omega) (by omega), wrap_id (x := 10 * (acc : Int) + (b.toNat : Int)) (by omega) (by omega), wrap_id (by omega) (by omega)]
          omega
        rw [e, wrap_succ hlt (by omega), ih (j + 1) _ k (by omega) (by omega) (by omega) (by rw [Nat.pow_succ]; omega)]
        simp only [Go.Lib.decFrom, Go.Lib.digitVal, if_pos (show 48 ≤ b.toNat ∧ b.toNat ≤ 57 by omega)]
theorem read_mag (w : List UInt8) (ds : List UInt8) (k : Nat) (hk : 30 ≤ k) (hm : magW w = ds) : spec_l01Read.j1 k (mk w) (mk ds) = some (readR w) := by
  obtain ⟨k, rfl⟩ : ∃ m, k = m + 1 := ⟨k - 1, by omega⟩
  simp only [spec_l01Read.j1]
  unfold readR
  rw [l01In, Option.bind_some, mk_size, hm]
  by_cases h : 1 ≤ ds.length ∧ ds.length ≤ 7
  · rw [if_pos (inB_true.2 (by omega)), if_pos h]
    have := read_loop w ds h.2 20 (by omega) ds.length 0 0 k (by omega) (by omega) (by omega) (by simp)
    simpa using this
  · rw [if_neg (fun c => h (by have := inB_true.1 c; omega)), if_neg h]
theorem l01Read (w : List UInt8) (hw : w.length ≤ 1048576) (k : Nat) (hk : 40 ≤ k) : spec_l01Read.f k (mk w) = some (readR w) := by
  unfold spec_l01Read.f
  obtain ⟨k, rfl⟩ : ∃ m, k = m + 1 := ⟨k - 1, by omega⟩
  cases w with
  | nil =>
    rw [if_neg (by rw [mk_size]; simp)]
    simp only [spec_l01Read.j0, Bool.false_eq_true, if_false]
    exact read_mag [] [] k (by omega) rfl
  | cons b r =>
    have hb : bt (mk (b :: r)) 0 = (b.toNat : Int) := bt_mk' (b :: r) 0 (by simp)
    rw [if_pos (by rw [mk_size]; simp), if_pos (by rw [mk_size]; simp), hb]
    simp only [spec_l01Read.j0]
    by_cases c : b = 45
    · rw [if_pos (by rw [c]; rfl), if_pos (by rw [mk_size, List.length_cons]; omega), mk_extract]
      refine read_mag (b :: r) _ k (by omega) ?_
      unfold magW
      rw [c]
      simp [mk_size]
    · rw [if_neg (by
        intro h
        have h1 := beq_iff_eq.1 h
        exact c ((byte_is' b 45).1 h1))]
      refine read_mag (b :: r) _ k (by omega) ?_
      unfold magW
      rw [if_neg (by simp [c])]
theorem readR_true {w : List UInt8} (h : (readR w).2 = true) : w = Go.Lib.itoa (readR w).1 ∧ -10000000 < (readR w).1 ∧ (readR w).1 < 10000000 := by
  unfold readR at h ⊢
  split at h
  · next hl =>
    rw [if_pos hl]
    cases c : Go.Lib.decFrom 0 (magW w) with
    | none => rw [c] at h; cases h
    | some n =>
      rw [c] at h
      have hb := Go.Lib.decFrom_lt _ 0 n c
      have hp : 10 ^ (magW w).length ≤ 10 ^ 7 := Nat.pow_le_pow_right (by omega) hl.2
      simp only at h ⊢
      split at h
      · next hc =>
        rw [if_pos hc]
        exact ⟨(beq_iff_eq.1 h).symm, by omega, by omega⟩
      · next hc =>
        rw [if_neg hc]
        exact ⟨(beq_iff_eq.1 h).symm, by omega, by omega⟩
  · cases h
theorem digits7 (u : Nat) (h : u < 10000000) : (Go.Lib.decDigits u).length ≤ 7 := by
  by_cases c : u = 0
  · rw [c, Go.Lib.decDigits, dif_pos (by omega)]
    simp
  · have := digs_len 7 u (by omega)
    unfold digs at this
    rwa [if_neg c] at this
theorem readR_itoa (x : Int) (h : -10000000 < x ∧ x < 10000000) : readR (Go.Lib.itoa x) = (x, true) := by
  unfold Go.Lib.itoa
  by_cases c : x < 0
  · rw [if_pos c]
    have hm : magW (45 :: Go.Lib.decDigits x.natAbs) = Go.Lib.decDigits x.natAbs := rfl
    have hl := digits7 x.natAbs (by omega)
    have hn : 1 ≤ (Go.Lib.decDigits x.natAbs).length := List.length_pos_iff.2 (decDigits_ne _)
    unfold readR
    rw [hm, if_pos ⟨hn, hl⟩, decFrom_digits]
    simp only
    rw [if_pos (by simp)]
    have e : -((x.natAbs : Nat) : Int) = x := by omega
    rw [e]
    unfold Go.Lib.itoa
    rw [if_pos c]
    simp
  · rw [if_neg c]
    have hl := digits7 x.toNat (by omega)
    have hn : 1 ≤ (Go.Lib.decDigits x.toNat).length := List.length_pos_iff.2 (decDigits_ne _)
    have hm : magW (Go.Lib.decDigits x.toNat) = Go.Lib.decDigits x.toNat := by
      unfold magW
      rw [if_neg]
      intro h45
      obtain ⟨d, hd⟩ := Go.Lib.digit_of_decFrom _ 0 _ (decFrom_digits x.toNat) 0 45 (by rw [← h45, List.head?_eq_getElem?])
      have := Go.Lib.digitVal_eq hd
      simp at this
    unfold readR
    rw [hm, if_pos ⟨hn, hl⟩, decFrom_digits]
    simp only
    rw [if_neg (by omega)]
    have e : ((x.toNat : Nat) : Int) = x := by omega
    rw [e]
    unfold Go.Lib.itoa
    rw [if_neg c]
    simp
theorem atoiR_itoa (x : Int) (h : -10000000 < x ∧ x < 10000000) : atoiR (Go.Lib.itoa x) = (x, false) := by
  unfold atoiR
  rw [atoiAll_itoa x (by omega)]
/-- A word is no longer than what it is part of. -/
theorem join_ge (sep : List UInt8) : ∀ (ws : List (List UInt8)), ∀ x ∈ ws, x.length ≤ (Go.Lib.join ws sep).length
  | [], x, h => by cases h
  | [y], x, h => by
    rw [Go.Lib.join_one]
    simp only [List.mem_cons, List.mem_nil_iff, or_false] at h
    rw [h]
    exact Nat.le_refl _
  | y :: z :: r, x, h => by
    rw [Go.Lib.join_cons, joinTail_join, List.length_append, List.length_append]
    rcases List.mem_cons.1 h with rfl | h
    · omega
    · have := join_ge sep (z :: r) x h
      omega

theorem sep_mk : (⟨#[32]⟩ : ByteArray) = mk [32] := rfl
/-- strings.SplitN at a separator, of a text. -/
theorem splitNF (l sep : List UInt8) (n : Nat) (hl : l.length ≤ 1048576) (hs : 1 ≤ sep.length) (hn : 1 ≤ n) (hn2 : n ≤ 100) : strings_SplitN.f (mk l) (mk sep) (n : Int) = some ((Go.Lib.splitK sep 0 (min n (l.length + 1) - 1) l).map mk) := by
  unfold strings_SplitN.f
  rw [if_pos (by rw [mk_size]; omega), if_pos (by rw [mk_size]; exact hs), if_pos (by omega), Int.toNat_natCast, mk_size]
  refine congrArg some ?_
  have h := Go.Lib.splitB_data (mk sep) 0 (min n (l.length + 1) - 1) (mk l)
  rw [mk_list, mk_list] at h
  rw [← h, List.map_map]
  have : (mk ∘ fun s : ByteArray => s.data.toList) = id := by funext s; exact list_mk s
  rw [this, List.map_id]
theorem atoiF (w : List UInt8) (h : w.length ≤ 1048576) : strconv_Atoi.f (mk w) = some (atoiR w) := by
  unfold strconv_Atoi.f
  rw [if_pos (by rw [mk_size]; omega), mk_list]

theorem parts_len (c : UInt8) : ∀ l, (parts c l).length ≤ l.length + 1
  | [] => by simp [parts]
  | b :: l => by
    have ih := parts_len c l
    obtain ⟨p, r, h⟩ := parts_cons c l
    unfold parts
    rw [h] at ih ⊢
    split <;> simp only [List.length_cons] at ih ⊢ <;> omega


end Go.Proofs.YtchpopocnaoabaaDoor.Pure
