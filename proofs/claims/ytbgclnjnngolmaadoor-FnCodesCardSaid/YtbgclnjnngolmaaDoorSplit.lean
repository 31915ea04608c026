/- Texts taken apart at a separator, and numbers read back: plain lists of bytes, no program in sight. No condition. -/
import Derived.Lib.Split
import Derived.Lib.IndexMore
import Derived.Lib.AtoiAllCases
import Derived.Lib.AtoiTie
import Derived.Lib.ItoaNum
import Derived.Lib.SlTrimSet
import Derived.Lib.Join
namespace Go.Proofs.YtbgclnjnngolmaaDoor.Split
open Go.Lib
set_option linter.unusedSimpArgs false

/-- A text parted at every byte c. -/
def parts (c : UInt8) : List UInt8 → List (List UInt8)
  | [] => [[]]
  | b :: l => if b = c then [] :: parts c l else match parts c l with
    | [] => [[b]]
    | p :: r => (b :: p) :: r
theorem parts_cons (c : UInt8) : ∀ l, ∃ p r, parts c l = p :: r
  | [] => ⟨[], [], rfl⟩
  | b :: l => by
    obtain ⟨p, r, h⟩ := parts_cons c l
    unfold parts
    split
    · exact ⟨_, _, rfl⟩
    · rw [h]; exact ⟨_, _, rfl⟩
theorem joinTail_cons (sep x : List UInt8) (r : List (List UInt8)) : joinTail sep (x :: r) = sep ++ x ++ joinTail sep r := by simp [joinTail]
theorem joinTail_join (sep x : List UInt8) (r : List (List UInt8)) : joinTail sep (x :: r) = sep ++ join (x :: r) sep := by
  rw [joinTail_cons, join_cons, List.append_assoc]
theorem join_parts (c : UInt8) : ∀ l, join (parts c l) [c] = l
  | [] => rfl
  | b :: l => by
    have ih := join_parts c l
    obtain ⟨p, r, h⟩ := parts_cons c l
    unfold parts
    split
    · next e =>
      subst e
      rw [join_cons, h, joinTail_join, ← h, ih]
      rfl
    · rw [h]
      rw [h, join_cons] at ih
      show join ((b :: p) :: r) [c] = b :: l
      rw [join_cons, List.cons_append, ih]
theorem parts_none (c : UInt8) : ∀ w, c ∉ w → parts c w = [w]
  | [], _ => rfl
  | b :: w, h => by
    have ih := parts_none c w (fun hc => h (List.mem_cons_of_mem _ hc))
    unfold parts
    rw [if_neg (fun e => h (by rw [e]; exact List.mem_cons_self)), ih]
theorem parts_app (c : UInt8) (l : List UInt8) : ∀ w, c ∉ w → parts c (w ++ c :: l) = w :: parts c l
  | [], _ => by
    show parts c (c :: l) = _
    conv => lhs; unfold parts
    rw [if_pos rfl]
  | b :: w, h => by
    have ih := parts_app c l w (fun hc => h (List.mem_cons_of_mem _ hc))
    show parts c (b :: (w ++ c :: l)) = _
    conv => lhs; unfold parts
    rw [if_neg (fun e => h (by rw [e]; exact List.mem_cons_self)), ih]
theorem parts_words (c : UInt8) : ∀ (ws : List (List UInt8)) (w : List UInt8), (∀ x ∈ w :: ws, c ∉ x) → parts c (join (w :: ws) [c]) = w :: ws
  | [], w, h => by
    rw [join_one]
    exact parts_none c w (h w List.mem_cons_self)
  | x :: ws, w, h => by
    rw [join_cons, joinTail_join]
    show parts c (w ++ c :: join (x :: ws) [c]) = _
    rw [parts_app c _ w (h w List.mem_cons_self), parts_words c ws x (fun y hy => h y (List.mem_cons_of_mem _ hy))]

/-- The first place of a separator whose first byte no word has. -/
theorem index_word (c0 : UInt8) (s' w rest : List UInt8) (h : c0 ∉ w) : index (w ++ (c0 :: s') ++ rest) (c0 :: s') = w.length := by
  refine index_first (by simp) ?_ ?_
  · unfold occAt
    rw [List.append_assoc, List.drop_left]
    simp [List.isPrefixOf_iff_prefix]
  · intro j hj
    cases ho : occAt (w ++ (c0 :: s') ++ rest) (c0 :: s') j with
    | false => rfl
    | true =>
      have := occAt_head rfl ho
      rw [List.append_assoc, List.getElem?_append_left hj, List.getElem?_eq_getElem hj] at this
      exact absurd (Option.some.inj this ▸ List.getElem_mem hj) h
theorem index_noword (c0 : UInt8) (s' w : List UInt8) (h : c0 ∉ w) : index w (c0 :: s') = -1 := by
  refine index_none fun j _ => ?_
  cases ho : occAt w (c0 :: s') j with
  | false => rfl
  | true =>
    have := occAt_head rfl ho
    exact absurd (List.mem_of_getElem? this) h
theorem splitK_words (c0 : UInt8) (s' : List UInt8) : ∀ (ws : List (List UInt8)) (w : List UInt8) (k : Nat), (∀ x ∈ w :: ws, c0 ∉ x) → ws.length ≤ k → splitK (c0 :: s') 0 k (join (w :: ws) (c0 :: s')) = w :: ws
  | [], w, k, h, _ => by
    rw [join_one]
    cases k with
    | zero => rfl
    | succ k =>
      unfold splitK
      rw [index_noword c0 s' w (h w List.mem_cons_self)]
      rfl
  | x :: ws, w, k, h, hk => by
    obtain ⟨k, rfl⟩ : ∃ m, k = m + 1 := ⟨k - 1, by simp only [List.length_cons] at hk; omega⟩
    have e : join (w :: x :: ws) (c0 :: s') = w ++ (c0 :: s') ++ join (x :: ws) (c0 :: s') := by rw [join_cons, joinTail_join, List.append_assoc]
    have hi := index_word c0 s' w (join (x :: ws) (c0 :: s')) (h w List.mem_cons_self)
    rw [e]
    unfold splitK
    rw [hi, if_neg (by simp), Int.toNat_natCast, Nat.add_zero]
    have e1 : (w ++ (c0 :: s') ++ join (x :: ws) (c0 :: s')).take w.length = w := by rw [List.append_assoc, List.take_left]
    have e2 : (w ++ (c0 :: s') ++ join (x :: ws) (c0 :: s')).drop (w.length + (c0 :: s').length) = join (x :: ws) (c0 :: s') := by
      rw [← List.length_append, List.drop_left]
    rw [e1, e2, splitK_words c0 s' ws x k (fun y hy => h y (List.mem_cons_of_mem _ hy)) (by simp only [List.length_cons] at hk; omega)]
theorem splitK_cons (sep : List UInt8) : ∀ (k : Nat) (s : List UInt8), ∃ p r, splitK sep 0 k s = p :: r
  | 0, s => ⟨s, [], rfl⟩
  | k + 1, s => by
    unfold splitK
    split
    · exact ⟨_, _, rfl⟩
    · exact ⟨_, _, rfl⟩
theorem splitK_join (sep : List UInt8) (hsep : sep ≠ []) : ∀ (k : Nat) (s : List UInt8), join (splitK sep 0 k s) sep = s
  | 0, s => join_one _ _
  | k + 1, s => by
    unfold splitK
    rcases index_spec s sep with ⟨h, _⟩ | ⟨i, h, hi, ho, _⟩
    · rw [h]
      exact join_one _ _
    · rw [h, if_neg (by simp), Int.toNat_natCast, Nat.add_zero]
      obtain ⟨p, r, hc⟩ := splitK_cons sep k (s.drop (i + sep.length))
      have ih := splitK_join sep hsep k (s.drop (i + sep.length))
      rw [join_cons, hc, joinTail_join, ← hc, ih]
      have hpre : sep <+: s.drop i := by
        unfold occAt at ho
        exact List.isPrefixOf_iff_prefix.1 ho
      obtain ⟨t, ht⟩ := hpre
      have hd : s.drop (i + sep.length) = t := by
        rw [← List.drop_drop, ← ht, List.drop_left]
      rw [hd, ht, List.take_append_drop]
theorem splitK_len (sep : List UInt8) : ∀ (k : Nat) (s : List UInt8), (splitK sep 0 k s).length ≤ k + 1
  | 0, s => Nat.le_refl _
  | k + 1, s => by
    unfold splitK
    split
    · simp
    · have := splitK_len sep k (s.drop ((index s sep).toNat + sep.length))
      simp only [List.length_cons]
      omega

/-- Is it a byte of a numeral? -/
def numByte (b : UInt8) : Bool := b == 45 || (decide (48 ≤ b.toNat) && decide (b.toNat ≤ 57))
theorem digit_byte (m : Nat) (h : m < 10) : numByte (UInt8.ofNat (48 + m)) = true ∧ digitVal (UInt8.ofNat (48 + m)) = some m := by
  have key : ∀ m : Fin 10, numByte (UInt8.ofNat (48 + m.val)) = true ∧ digitVal (UInt8.ofNat (48 + m.val)) = some m.val := by decide +kernel
  exact key ⟨m, h⟩
theorem decDigits_bytes : ∀ u, ∀ b ∈ decDigits u, numByte b = true := by
  intro u
  induction u using Nat.strongRecOn with
  | _ u ih =>
    intro b hb
    rw [decDigits] at hb
    split at hb
    · next h =>
      simp only [List.mem_cons, List.mem_nil_iff, or_false] at hb
      rw [hb]
      exact (digit_byte u h).1
    · rcases List.mem_append.1 hb with h | h
      · exact ih (u / 10) (by omega) b h
      · simp only [List.mem_cons, List.mem_nil_iff, or_false] at h
        rw [h]
        exact (digit_byte (u % 10) (Nat.mod_lt _ (by omega))).1
theorem itoa_bytes (x : Int) : ∀ b ∈ itoa x, numByte b = true := by
  intro b hb
  unfold itoa at hb
  split at hb
  · rcases List.mem_cons.1 hb with rfl | h
    · rfl
    · exact decDigits_bytes _ b h
  · exact decDigits_bytes _ b hb
theorem not_in_itoa (x : Int) (c : UInt8) (h : numByte c = false) : c ∉ itoa x := fun hc => by
  rw [itoa_bytes x c hc] at h
  cases h
theorem decFrom_snoc (b : UInt8) (d : Nat) (hb : digitVal b = some d) : ∀ (l : List UInt8) (acc n : Nat), decFrom acc l = some n → decFrom acc (l ++ [b]) = some (n * 10 + d)
  | [], acc, n, h => by
    simp only [decFrom] at h
    obtain rfl := Option.some.inj h
    simp [decFrom, hb]
  | x :: l, acc, n, h => by
    simp only [List.cons_append, decFrom] at h ⊢
    cases hx : digitVal x with
    | none => rw [hx] at h; simp at h
    | some q =>
      rw [hx] at h
      exact decFrom_snoc b d hb l _ n (by simpa using h)
theorem decFrom_digits : ∀ u, decFrom 0 (decDigits u) = some u := by
  intro u
  induction u using Nat.strongRecOn with
  | _ u ih =>
    rw [decDigits]
    split
    · next h =>
      have e := (digit_byte u h).2
      generalize UInt8.ofNat (48 + u) = b at e
      simp [decFrom, e]
    · have h1 := ih (u / 10) (by omega)
      rw [decFrom_snoc _ _ (digit_byte (u % 10) (Nat.mod_lt _ (by omega))).2 _ _ _ h1]
      refine congrArg some ?_
      omega
theorem decDigits_ne (u : Nat) : decDigits u ≠ [] := by
  intro h
  have h1 := decDigits_length u
  have h2 := nDigits_pos u
  rw [h, List.length_nil] at h1
  omega
theorem decNat_digits (u : Nat) : decNat (decDigits u) = some u := by
  unfold decNat
  rw [if_neg (by simp [List.isEmpty_iff, decDigits_ne]), decFrom_digits]
theorem decDigits_short (u : Nat) (h : u < 100000000) : (decDigits u).length ≤ 8 := by
  rw [decDigits_length]
  apply Classical.byContradiction
  intro hc
  have h1 : 9 ≤ nDigits u := by omega
  have key : ∀ k u, k + 1 ≤ nDigits u → 1 ≤ k → 10 ^ k ≤ u := by
    intro k
    induction k with
    | zero => intro u _ h; omega
    | succ k ih =>
      intro u hk _
      by_cases c : u < 10
      · rw [nDigits_small c] at hk; omega
      · rw [nDigits_big c] at hk
        rcases Nat.eq_zero_or_pos k with rfl | hk0
        · simp; omega
        · have := ih (u / 10) (by omega) hk0
          rw [Nat.pow_succ]
          omega
  have := key 8 u h1 (by omega)
  omega
/-- A number of few digits is read back. -/
theorem atoiAll_itoa (x : Int) (h : -100000000 < x ∧ x < 100000000) : atoiAll (itoa x) = .ok x := by
  unfold itoa
  by_cases c : x < 0
  · rw [if_pos c, atoiAll_minus, signed_short (by have := decDigits_short x.natAbs (by omega); omega), decNat_digits]
    show NumEnd.ok (-(x.natAbs : Int)) = _
    congr 1
    omega
  · rw [if_neg c]
    have hl := decDigits_short x.toNat (by omega)
    obtain ⟨b, r, hb⟩ : ∃ b r, decDigits x.toNat = b :: r := by
      cases h : decDigits x.toNat with
      | nil => exact absurd h (decDigits_ne _)
      | cons b r => exact ⟨b, r, rfl⟩
    have hv : ∃ d, digitVal b = some d := digit_of_decFrom _ 0 _ (decFrom_digits x.toNat) 0 b (by rw [hb]; rfl)
    obtain ⟨d, hd⟩ := hv
    have hr := digitVal_eq hd
    rw [hb, atoiAll_plain b r (by omega) (by omega), ← hb, signless_short (by omega), decNat_digits]
    show NumEnd.ok ((x.toNat : Int)) = _
    congr 1
    omega

end Go.Proofs.YtbgclnjnngolmaaDoor.Split
