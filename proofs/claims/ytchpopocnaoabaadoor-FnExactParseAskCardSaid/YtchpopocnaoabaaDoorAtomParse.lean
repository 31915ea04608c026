/- Parsing an atom's text, in the program and in the reference. No condition but on the length. -/
import Derived.Test.YtchpopocnaoabaaDoorRead
import Derived.Test.YtchpopocnaoabaaDoorVals
import Derived.Test.YtchpopocnaoabaaDoorAskText
import Derived.Test.YtchpopocnaoabaaDoorPimplparseAtom
import Derived.Test.YtchpopocnaoabaaDoorPspecl06Atom
import Derived.Test.YtchpopocnaoabaaDoorPstringsCut
import Derived.Test.YtchpopocnaoabaaDoorPstringsTrim
namespace Go.Proofs.YtchpopocnaoabaaDoor.Pure
open Go.RowKit Go.Proofs.YtchpopocnaoabaaDoor.P Go.Proofs.YtchpopocnaoabaaDoor.Gen Go.Proofs.YtchpopocnaoabaaDoorW.PrintWords Go.Proofs.YtchpopocnaoabaaDoor.Split

abbrev AnsA := Int × Int × Int × Int × Bool
def noneA : AnsA := (0, 0, 0, 0, false)
theorem cut_hit (c : UInt8) (w rest : List UInt8) (h : c ∉ w) : Go.Lib.cut (w ++ c :: rest) [c] = (w, rest, true) := by
  have e : w ++ c :: rest = w ++ [c] ++ rest := by simp
  have hi := index_word c [] w rest h
  unfold Go.Lib.cut
  rw [e, hi, if_pos (by omega), Int.toNat_natCast]
  have e1 : (w ++ [c] ++ rest).take w.length = w := by rw [List.append_assoc, List.take_left]
  have e2 : (w ++ [c] ++ rest).drop (w.length + [c].length) = rest := by rw [← List.length_append, List.drop_left]
  rw [e1, e2]
theorem cut_miss (c : UInt8) (w : List UInt8) (h : c ∉ w) : Go.Lib.cut w [c] = (w, [], false) := by
  unfold Go.Lib.cut
  rw [index_noword c [] w h, if_neg (by omega)]
theorem cut_len (l : List UInt8) (c : UInt8) : (Go.Lib.cut l [c]).1.length ≤ l.length ∧ (Go.Lib.cut l [c]).2.1.length ≤ l.length := by
  unfold Go.Lib.cut
  split
  · simp only [List.length_take, List.length_drop]
    omega
  · simp
theorem cutF (l : List UInt8) (c : UInt8) (h : l.length ≤ 1048576) : strings_Cut.f (mk l) (mk [c]) = some (mk (Go.Lib.cut l [c]).1, mk (Go.Lib.cut l [c]).2.1, (Go.Lib.cut l [c]).2.2) := by
  unfold strings_Cut.f
  rw [if_pos (by rw [mk_size]; omega), mk_list, mk_list]
  rfl
theorem dropWhile_le (p : UInt8 → Bool) : ∀ l : List UInt8, (l.dropWhile p).length ≤ l.length
  | [] => Nat.le_refl _
  | b :: l => by
    rw [List.dropWhile_cons]
    split
    · have := dropWhile_le p l
      simp only [List.length_cons]
      omega
    · exact Nat.le_refl _
theorem trim_len (l cs : List UInt8) : (Go.Lib.trimS l cs).length ≤ l.length := by
  unfold Go.Lib.trimS Go.Lib.trimLeftS Go.Lib.trimRightS
  refine Nat.le_trans (dropWhile_le _ _) ?_
  rw [List.length_reverse]
  refine Nat.le_trans (dropWhile_le _ _) ?_
  rw [List.length_reverse]
  exact Nat.le_refl _
theorem trimF (l : List UInt8) (h : l.length ≤ 1048576) : strings_Trim.f (mk l) (mk [91, 93]) = some (mk (Go.Lib.trimS l [91, 93])) := by
  unfold strings_Trim.f
  rw [if_pos (by rw [mk_size]; omega), mk_list, mk_list, if_pos ⟨by rw [mk_size]; simp, by decide⟩]
  rfl
theorem trim_box (l : List UInt8) (hne : l ≠ []) (h1 : (91 : UInt8) ∉ l) (h2 : (93 : UInt8) ∉ l) : Go.Lib.trimS (91 :: (l ++ [93])) [91, 93] = l := by
  have hc : ∀ b ∈ l, ([91, 93] : List UInt8).contains b = false := by
    intro b hb
    have e1 : b ≠ 91 := fun e => h1 (e ▸ hb)
    have e2 : b ≠ 93 := fun e => h2 (e ▸ hb)
    simp [e1, e2]
  have hr : ∀ m : List UInt8, m ≠ [] → (∀ b ∈ m, ([91, 93] : List UInt8).contains b = false) → m.dropWhile (([91, 93] : List UInt8).contains ·) = m := by
    intro m hm hb
    cases m with
    | nil => exact absurd rfl hm
    | cons b m =>
      have := hb b List.mem_cons_self
      rw [List.dropWhile_cons, if_neg (by rw [this]; decide)]
  unfold Go.Lib.trimS Go.Lib.trimLeftS Go.Lib.trimRightS
  have er : (91 :: (l ++ [93])).reverse = 93 :: (l.reverse ++ [91]) := by simp
  have e93 : (93 :: (l.reverse ++ [91])).dropWhile (([91, 93] : List UInt8).contains ·) = l.reverse ++ [91] := by
    rw [List.dropWhile_cons, if_pos (by decide)]
    obtain ⟨b, m, hm⟩ : ∃ b m, l.reverse = b :: m := by
      cases h : l.reverse with
      | nil => exact absurd (List.reverse_eq_nil_iff.1 h) hne
      | cons b m => exact ⟨b, m, rfl⟩
    have hb : b ∈ l := by
      rw [← List.mem_reverse, hm]
      exact List.mem_cons_self
    rw [hm, List.cons_append, List.dropWhile_cons, if_neg (by rw [hc b hb]; decide)]
  rw [er, e93, List.reverse_append, List.reverse_reverse]
  show (91 :: l).dropWhile _ = l
  rw [List.dropWhile_cons, if_pos (by decide)]
  exact hr l hne hc

/-! ### the program -/
theorem atom_step (k : Nat) (t : List UInt8) (ws : List (List UInt8)) (hl : ws.length = 3) (hw : ∀ w ∈ ws, w.length ≤ 1048576) (q a b c : Int) (i : Nat) (h : i < ws.length) :
    impl_parseAtom.l0 (k + 1) (mk t) (ws.map mk) 3 (i : Int) q a b c = if (atoiR ws[i]).2 = true then some noneA else impl_parseAtom.l0 k (mk t) (ws.map mk) 3 ((i + 1 : Nat) : Int) q (if i = 0 then (atoiR ws[i]).1 else a) (if i = 1 then (atoiR ws[i]).1 else b) (if i = 0 then c else if i = 1 then c else (atoiR ws[i]).1) := by
  simp only [impl_parseAtom.l0]
  rw [if_pos (by omega), if_pos (by omega), if_pos (by rw [List.length_map]; omega), rdB ws i h, atoiF _ (hw _ (List.getElem_mem h)), Option.bind_some, wrap_succ h (by omega)]
  by_cases hb : (atoiR ws[i]).2 = true
  · rw [if_pos hb, if_pos hb]
    rfl
  · rw [if_neg hb, if_neg hb]
    by_cases h0 : i = 0
    · subst h0
      rfl
    · rw [if_neg (by omega)]
      by_cases h1 : i = 1
      · subst h1
        rfl
      · rw [if_neg (by omega)]
        simp only [if_neg h0, if_neg h1]
def at3 (t : List UInt8) (q : Int) (w0 w1 w2 : List UInt8) : AnsA :=
  if (atoiR w0).2 = true then noneA else if (atoiR w1).2 = true then noneA else if (atoiR w2).2 = true then noneA else (q, (atoiR w0).1, (atoiR w1).1, (atoiR w2).1, atW ⟨q, (atoiR w0).1, (atoiR w1).1, (atoiR w2).1⟩ == t)
theorem atom_run (t : List UInt8) (q : Int) (w0 w1 w2 : List UInt8) (hw : ∀ w ∈ [w0, w1, w2], w.length ≤ 1048576) (k : Nat) (hk : 10 ≤ k) :
    impl_parseAtom.l0 k (mk t) ([w0, w1, w2].map mk) 3 0 q 0 0 0 = some (at3 t q w0 w1 w2) := by
  obtain ⟨k, rfl⟩ : ∃ m, k = m + 1 + 1 + 1 + 1 := ⟨k - 4, by omega⟩
  unfold at3
  have s0 := atom_step (k + 1 + 1 + 1) t [w0, w1, w2] rfl hw q 0 0 0 0 (by simp)
  rw [show ((0 : Nat) : Int) = 0 from rfl] at s0
  rw [s0]
  by_cases h0 : (atoiR w0).2 = true
  · rw [if_pos h0]
    exact if_pos h0
  · rw [if_neg h0]
    refine (if_neg h0).trans ?_
    rw [atom_step (k + 1 + 1) t [w0, w1, w2] rfl hw q _ _ _ 1 (by simp)]
    by_cases h1 : (atoiR w1).2 = true
    · rw [if_pos h1]
      exact if_pos h1
    · rw [if_neg h1]
      refine (if_neg h1).trans ?_
      rw [atom_step (k + 1) t [w0, w1, w2] rfl hw q _ _ _ 2 (by simp)]
      by_cases h2 : (atoiR w2).2 = true
      · rw [if_pos h2]
        exact if_pos h2
      · rw [if_neg h2]
        refine (if_neg h2).trans ?_
        simp only [impl_parseAtom.l0]
        rw [if_neg (by omega)]
        have := impl_atText ⟨q, (atoiR w0).1, (atoiR w1).1, (atoiR w2).1⟩ k
        by_cases hk2 : 2 ≤ k
        · have h := this hk2
          simp only at h
          show (impl_Atom_text.f k q (atoiR w0).1 (atoiR w1).1 (atoiR w2).1).bind _ = _
          rw [h, Option.bind_some, mk_toList, mk_toList]
          simp
        · omega
def atomI (t : List UInt8) : AnsA :=
  if (Go.Lib.cut (Go.Lib.cut t [61]).1 [58]).2.2 = true then at3 t 0 (Go.Lib.cut (Go.Lib.cut t [61]).1 [58]).1 (Go.Lib.cut (Go.Lib.cut t [61]).1 [58]).2.1 (Go.Lib.cut t [61]).2.1
  else at3 t 1 [48] (Go.Lib.trimS (Go.Lib.cut t [61]).1 [91, 93]) (Go.Lib.cut t [61]).2.1
theorem impl_atom (t : List UInt8) (ht : t.length ≤ 1048576) (k : Nat) (hk : 10 ≤ k) : impl_parseAtom.f k (mk t) = some (atomI t) := by
  unfold impl_parseAtom.f atomI
  have c1 := cut_len t 61
  have c2 := cut_len (Go.Lib.cut t [61]).1 58
  rw [equ_mk, col_mk, cutF t 61 ht, Option.bind_some]
  simp only
  rw [cutF _ 58 (by omega), Option.bind_some]
  by_cases h : (Go.Lib.cut (Go.Lib.cut t [61]).1 [58]).2.2 = true
  · rw [if_pos h, if_pos h, Option.bind_some]
    exact atom_run t 0 _ _ _ (by
      intro w hw
      simp only [List.mem_cons, List.not_mem_nil, or_false] at hw
      rcases hw with rfl | rfl | rfl <;> omega) k hk
  · rw [if_neg h, if_neg h]
    have hb : (⟨#[91, 93]⟩ : ByteArray) = mk [91, 93] := rfl
    have h48 : (⟨#[48]⟩ : ByteArray) = mk [48] := rfl
    have c3 := trim_len (Go.Lib.cut t [61]).1 [91, 93]
    rw [hb, trimF _ (by omega), Option.bind_some, Option.bind_some, h48]
    exact atom_run t 1 _ _ _ (by
      intro w hw
      simp only [List.mem_cons, List.not_mem_nil, or_false] at hw
      rcases hw with rfl | rfl | rfl
      · simp
      · omega
      · omega) k hk
def okQ (t : List UInt8) : Bool := (atomI t).2.2.2.2
def atX (t : List UInt8) : Atm := ⟨(atomI t).1, (atomI t).2.1, (atomI t).2.2.1, (atomI t).2.2.2.1⟩
theorem at3_ok (t : List UInt8) (q : Int) (w0 w1 w2 : List UInt8) (h : (at3 t q w0 w1 w2).2.2.2.2 = true) : atW ⟨(at3 t q w0 w1 w2).1, (at3 t q w0 w1 w2).2.1, (at3 t q w0 w1 w2).2.2.1, (at3 t q w0 w1 w2).2.2.2.1⟩ = t := by
  unfold at3 at h ⊢
  by_cases h0 : (atoiR w0).2 = true
  · rw [if_pos h0] at h
    cases h
  · rw [if_neg h0] at h ⊢
    by_cases h1 : (atoiR w1).2 = true
    · rw [if_pos h1] at h
      cases h
    · rw [if_neg h1] at h ⊢
      by_cases h2 : (atoiR w2).2 = true
      · rw [if_pos h2] at h
        cases h
      · rw [if_neg h2] at h ⊢
        exact beq_iff_eq.1 h
theorem okQ_nil : okQ [] = false := by rfl
theorem okQ_sound {t : List UInt8} (h : okQ t = true) : atW (atX t) = t ∧ atOk (atX t) = true := by
  have e : atW (atX t) = t := by
    unfold okQ at h
    unfold atX
    unfold atomI at h ⊢
    split at h
    · next c =>
      rw [if_pos c]
      exact at3_ok _ _ _ _ _ h
    · next c =>
      rw [if_neg c]
      exact at3_ok _ _ _ _ _ h
  refine ⟨e, ?_⟩
  cases ho : atOk (atX t) with
  | true => rfl
  | false =>
    have := (atW_nil (atX t)).2 ho
    rw [e] at this
    rw [this, okQ_nil] at h
    cases h
theorem itoa_not (x : Int) (c : UInt8) (h : numByte c = false) : c ∉ Go.Lib.itoa x := not_in_itoa x c h
theorem at_kinds {x : Atm} (h : atOk x = true) : x.f0 = 0 ∨ (x.f0 = 1 ∧ x.f1 = 0) := by
  unfold atOk at h
  simp only [Bool.and_eq_true, Bool.or_eq_true, beq_iff_eq] at h
  exact h.1
theorem okQ_good {x : Atm} (h : atOk x = true) : okQ (atW x) = true ∧ atX (atW x) = x := by
  obtain ⟨v1, v2, v3⟩ := atOk_vals h
  have r1 := valB_range v1
  have r2 := valB_range v2
  have r3 := valB_range v3
  have a1 := atoiR_itoa x.f1 (by omega)
  have a2 := atoiR_itoa x.f2 (by omega)
  have a3 := atoiR_itoa x.f3 (by omega)
  have key : atomI (atW x) = (x.f0, x.f1, x.f2, x.f3, true) := by
    rcases at_kinds h with k0 | ⟨k1, t0⟩
    · have e : atW x = (Go.Lib.itoa x.f1 ++ 58 :: Go.Lib.itoa x.f2) ++ 61 :: Go.Lib.itoa x.f3 := by
        unfold atW
        rw [if_pos h, if_pos k0]
        simp
      have hc1 := cut_hit 61 (Go.Lib.itoa x.f1 ++ 58 :: Go.Lib.itoa x.f2) (Go.Lib.itoa x.f3) (by
        simp only [List.mem_append, List.mem_cons, not_or]
        exact ⟨itoa_not _ _ (by decide), by decide, itoa_not _ _ (by decide)⟩)
      have hc2 := cut_hit 58 (Go.Lib.itoa x.f1) (Go.Lib.itoa x.f2) (itoa_not _ _ (by decide))
      unfold atomI
      conv => lhs; rw [e]
      rw [hc1]
      simp only
      rw [hc2]
      simp only [if_true]
      unfold at3
      rw [a1, a2, a3, ← e]
      have ex : (⟨0, x.f1, x.f2, x.f3⟩ : Atm) = x := by cases x; simp_all
      simp [ex, k0]
    · have e : atW x = (91 :: (Go.Lib.itoa x.f2 ++ [93])) ++ 61 :: Go.Lib.itoa x.f3 := by
        unfold atW
        rw [if_pos h, if_neg (by omega)]
        simp
      have n2 : ∀ c : UInt8, numByte c = false → c ≠ 91 → c ≠ 93 → c ∉ 91 :: (Go.Lib.itoa x.f2 ++ [93]) := by
        intro c hn h1 h2
        simp only [List.mem_cons, List.mem_append, List.not_mem_nil, or_false, not_or]
        exact ⟨h1, itoa_not _ _ hn, h2⟩
      have hc1 := cut_hit 61 (91 :: (Go.Lib.itoa x.f2 ++ [93])) (Go.Lib.itoa x.f3) (n2 61 (by decide) (by decide) (by decide))
      have hc2 := cut_miss 58 (91 :: (Go.Lib.itoa x.f2 ++ [93])) (n2 58 (by decide) (by decide) (by decide))
      have ht := trim_box (Go.Lib.itoa x.f2) (itoa_ne _) (itoa_not _ _ (by decide)) (itoa_not _ _ (by decide))
      have a0 : atoiR [48] = (0, false) := by rfl
      unfold atomI
      conv => lhs; rw [e]
      rw [hc1]
      simp only
      rw [hc2]
      simp only [Bool.false_eq_true, if_false]
      rw [ht]
      unfold at3
      rw [a0, a2, a3, ← e]
      have ex : (⟨1, 0, x.f2, x.f3⟩ : Atm) = x := by cases x; simp_all
      simp [ex, k1, t0]
  unfold okQ atX
  rw [key]
  exact ⟨rfl, rfl⟩

/-! ### the reference -/
def innerW (a : List UInt8) : List UInt8 := (a.drop 1).take (a.length - 2)
def boxed (a : List UInt8) : Bool := decide (2 < a.length) && (a.head? == some 91 && a.getLast? == some 93)
def pairR (a : List UInt8) (v : Int) : AnsA :=
  match parts 58 a with
  | [c, d] => (0, (readR c).1, (readR d).1, v, (readR c).2 && (readR d).2)
  | _ => noneA
def sideR (a : List UInt8) (v : Int) : AnsA := if boxed a = true then (1, 0, (readR (innerW a)).1, v, (readR (innerW a)).2) else pairR a v
def atomR (t : List UInt8) : AnsA :=
  match parts 61 t with
  | [a, b] => if (readR b).2 = true then sideR a (readR b).1 else noneA
  | _ => noneA
theorem j0_true (a : List UInt8) (v : Int) (h : 2 < a.length) (hl : a.length ≤ 1000) (k : Nat) (hk : 100 ≤ k) : spec_l06Atom.j0 k v (mk a) (a.length : Int) true = some (1, 0, (readR (innerW a)).1, v, (readR (innerW a)).2) := by
  obtain ⟨k, rfl⟩ : ∃ m, k = m + 1 := ⟨k - 1, by omega⟩
  simp only [spec_l06Atom.j0]
  have hw : wrap64 ((a.length : Int) - 1) = ((a.length - 1 : Nat) : Int) := by rw [wrap_id (by omega) (by omega)]; omega
  have hi : (innerW a).length ≤ 1000 := by unfold innerW; simp only [List.length_take, List.length_drop]; omega
  rw [if_pos trivial, hw, if_pos (by omega), if_pos (by rw [mk_size]; omega), Int.toNat_natCast, mk_extract, Nat.sub_sub]
  show (spec_l01Read.f k (mk (innerW a))).bind _ = _
  rw [l01Read _ (by omega) k (by omega), Option.bind_some]
theorem j0_false (a : List UInt8) (v : Int) (hl : a.length ≤ 1000) (n : Int) (k : Nat) (hk : 1100 ≤ k) : spec_l06Atom.j0 k v (mk a) n false = some (pairR a v) := by
  obtain ⟨k, rfl⟩ : ∃ m, k = m + 1 := ⟨k - 1, by omega⟩
  have hp : spec_l01Parts.f k (mk a) 58 = _ := l01Parts a 58 (by omega) k (by omega)
  have hj := join_parts 58 a
  simp only [spec_l06Atom.j0]
  rw [if_neg (by simp), hp, Option.bind_some]
  unfold pairR
  rcases h : parts 58 a with _ | ⟨c, _ | ⟨d, _ | ⟨e, r⟩⟩⟩
  · rfl
  · rfl
  · rw [h] at hj
    have l1 := join_ge [58] [c, d] c (by simp)
    have l2 := join_ge [58] [c, d] d (by simp)
    rw [hj] at l1 l2
    rw [if_pos (by rfl), if_pos (by simp)]
    show (spec_l01Read.f k (mk c)).bind _ = _
    rw [l01Read c (by omega) k (by omega), Option.bind_some, if_pos (by simp)]
    show (spec_l01Read.f k (mk d)).bind _ = _
    rw [l01Read d (by omega) k (by omega), Option.bind_some]
    cases hc : (readR c).2 <;> simp [hc]
  · rw [if_neg (by simp only [List.map_cons, List.length_cons]; omega)]
    rfl
theorem spec_atom (t : List UInt8) (ht : t.length ≤ 1000) (k : Nat) (hk : 1200 ≤ k) : spec_l06Atom.f k (mk t) = some (atomR t) := by
  have hp : spec_l01Parts.f k (mk t) 61 = _ := l01Parts t 61 (by omega) k (by omega)
  have hj := join_parts 61 t
  unfold spec_l06Atom.f atomR
  rw [hp, Option.bind_some]
  rcases h : parts 61 t with _ | ⟨a, _ | ⟨b, _ | ⟨e, r⟩⟩⟩
  · rfl
  · rfl
  · rw [h] at hj
    have l1 := join_ge [61] [a, b] a (by simp)
    have l2 := join_ge [61] [a, b] b (by simp)
    rw [hj] at l1 l2
    rw [if_pos (by rfl), if_pos (by simp)]
    have r1 : rdOf ByteArray.empty ([a, b].map mk) 1 = mk b := rfl
    have r0 : rdOf ByteArray.empty ([a, b].map mk) 0 = mk a := rfl
    rw [r1, r0, l01Read b (by omega) k (by omega), Option.bind_some, mk_size]
    simp only
    by_cases hb : (readR b).2 = true
    · rw [if_pos hb, if_pos hb, if_pos (by simp)]
      unfold sideR
      by_cases h2 : 2 < a.length
      · have hw : wrap64 ((a.length : Int) - 1) = ((a.length - 1 : Nat) : Int) := by rw [wrap_id (by omega) (by omega)]; omega
        have b0 := bt_mk' a 0 (by omega)
        have b1 := bt_mk' a (a.length - 1) (by omega)
        rw [show ((0 : Nat) : Int) = 0 from rfl] at b0
        rw [if_pos (by omega), if_pos (by omega), hw, b0, b1]
        have hh : a.head? = some a[0] := by rw [List.head?_eq_getElem?, List.getElem?_eq_getElem (by omega)]
        have hg : a.getLast? = some a[a.length - 1] := by rw [List.getLast?_eq_getElem?, List.getElem?_eq_getElem (by omega)]
        by_cases c1 : a[0] = 91
        · rw [if_pos (by rw [c1]; rfl), if_pos (by omega), if_pos (by omega)]
          by_cases c2 : a[a.length - 1] = 93
          · have hbx : boxed a = true := by unfold boxed; rw [hh, hg, c1, c2, decide_eq_true h2]; rfl
            have he : (((a[a.length - 1]).toNat : Int) == 93) = true := by rw [c2]; rfl
            rw [he, if_pos hbx]
            exact j0_true a _ h2 (by omega) k (by omega)
          · have hbx : ¬ boxed a = true := by unfold boxed; rw [hh, hg]; simp [c2]
            have he : (((a[a.length - 1]).toNat : Int) == 93) = false := by
              rw [beq_eq_false_iff_ne]
              exact fun e => c2 ((byte_is' _ 93).1 e)
            rw [he, if_neg hbx]
            exact j0_false a _ (by omega) _ k (by omega)
        · have hbx : ¬ boxed a = true := by unfold boxed; rw [hh]; simp [c1]
          have n91 : ¬ (((a[0]).toNat : Int) = 91) := fun e => c1 ((byte_is' _ 91).1 e)
          rw [if_neg n91, if_neg hbx]
          exact j0_false a _ (by omega) _ k (by omega)
      · have hbx : ¬ boxed a = true := by unfold boxed; simp [h2]
        rw [if_neg (by omega), if_neg hbx]
        exact j0_false a _ (by omega) _ k (by omega)
    · rw [if_neg hb, if_neg hb]
      rfl
  · rw [if_neg (by simp only [List.map_cons, List.length_cons]; omega)]
    rfl
theorem atomR_good {x : Atm} (h : atOk x = true) : atomR (atW x) = (x.f0, x.f1, x.f2, x.f3, true) := by
  obtain ⟨v1, v2, v3⟩ := atOk_vals h
  have r1 := valB_range v1
  have r2 := valB_range v2
  have r3 := valB_range v3
  have a1 := readR_itoa x.f1 (by omega)
  have a2 := readR_itoa x.f2 (by omega)
  have a3 := readR_itoa x.f3 (by omega)
  unfold atomR
  rcases at_kinds h with k0 | ⟨k1, t0⟩
  · have e : atW x = (Go.Lib.itoa x.f1 ++ 58 :: Go.Lib.itoa x.f2) ++ 61 :: Go.Lib.itoa x.f3 := by
      unfold atW
      rw [if_pos h, if_pos k0]
      simp
    rw [e, parts_app 61 _ _ (by
      simp only [List.mem_append, List.mem_cons, not_or]
      exact ⟨itoa_not _ _ (by decide), by decide, itoa_not _ _ (by decide)⟩), parts_none 61 _ (itoa_not _ _ (by decide))]
    simp only
    rw [a3, if_pos rfl]
    unfold sideR
    have hb : ¬ boxed (Go.Lib.itoa x.f1 ++ 58 :: Go.Lib.itoa x.f2) = true := by
      unfold boxed
      have : ((Go.Lib.itoa x.f1 ++ 58 :: Go.Lib.itoa x.f2).head? == some 91) = false := by
        rw [beq_eq_false_iff_ne]
        intro he
        cases hi : Go.Lib.itoa x.f1 with
        | nil => exact itoa_ne _ hi
        | cons b m =>
          rw [hi] at he
          have hb : b = 91 := by simpa using he
          have := itoa_not x.f1 91 (by decide)
          rw [hi, hb] at this
          exact this List.mem_cons_self
      rw [this]
      simp
    rw [if_neg hb]
    unfold pairR
    rw [parts_app 58 _ _ (itoa_not _ _ (by decide)), parts_none 58 _ (itoa_not _ _ (by decide))]
    simp only
    rw [a1, a2, k0]
    rfl
  · have e : atW x = (91 :: (Go.Lib.itoa x.f2 ++ [93])) ++ 61 :: Go.Lib.itoa x.f3 := by
      unfold atW
      rw [if_pos h, if_neg (by omega)]
      simp
    rw [e, parts_app 61 _ _ (by
      simp only [List.mem_cons, List.mem_append, List.not_mem_nil, or_false, not_or]
      exact ⟨by decide, itoa_not _ _ (by decide), by decide⟩), parts_none 61 _ (itoa_not _ _ (by decide))]
    simp only
    rw [a3, if_pos rfl]
    unfold sideR
    have hn : 1 ≤ (Go.Lib.itoa x.f2).length := List.length_pos_iff.2 (itoa_ne _)
    have hb : boxed (91 :: (Go.Lib.itoa x.f2 ++ [93])) = true := by
      unfold boxed
      have hg : (91 :: (Go.Lib.itoa x.f2 ++ [93])).getLast? = some 93 := by
        rw [← List.cons_append, List.getLast?_concat]
      rw [hg, decide_eq_true (by simp only [List.length_cons, List.length_append, List.length_nil]; omega)]
      rfl
    rw [if_pos hb]
    have hin : innerW (91 :: (Go.Lib.itoa x.f2 ++ [93])) = Go.Lib.itoa x.f2 := by
      unfold innerW
      simp
    rw [hin, a2, k1, t0]

end Go.Proofs.YtchpopocnaoabaaDoor.Pure
