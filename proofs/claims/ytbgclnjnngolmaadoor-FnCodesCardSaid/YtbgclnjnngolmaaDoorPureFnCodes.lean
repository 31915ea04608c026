import Derived.Test.YtbgclnjnngolmaaDoorPlawsFnCodes
import Derived.Test.YtbgclnjnngolmaaDoorScal
import Derived.Test.YtbgclnjnngolmaaDoorSplit
import Derived.Test.YtbgclnjnngolmaaDoorTextP
import Derived.Test.YtbgclnjnngolmaaDoorPimplCodeText
import Derived.Test.YtbgclnjnngolmaaDoorPimplParseCode
import Derived.Test.YtbgclnjnngolmaaDoorPspecProgOk
import Derived.Lib.ItoaLen
import Derived.Laws.Strings
import Derived.Lib.CountLaws
import Derived.Test.YtbgclnjnngolmaaDoorPimplWithFences
import Derived.Test.YtbgclnjnngolmaaDoorPspecWithFences
import Derived.Test.YtbgclnjnngolmaaDoorPlawsbig
import Derived.Test.YtbgclnjnngolmaaDoorPspecl01Size
import Derived.Laws.BitsLemmas
import Derived.Test.YtbgclnjnngolmaaDoorPspecDrawProgOk
-- Written by mp.py (the session's own driver over the kit's printer) for the seat YtbgclnjnngolmaaDoor.
namespace Go.Proofs.YtbgclnjnngolmaaDoor.P
open Go.RowKit Go.Proofs.YtbgclnjnngolmaaDoorW.PrintWords Go.Proofs.YtbgclnjnngolmaaDoorW.PrintLast Go.Proofs.YtbgclnjnngolmaaDoorW.PrintMore
attribute [local go_sem] max2_int min2_int max_two min_two max_three min_three max_four min_four
set_option linter.unusedVariables false
set_option linter.unusedSimpArgs false

/-- What is left of the law FnCodes: no program and no memory in it. -/
def laws_FnCodes.Left : Prop := ∀ (l0 : List Int), (l0.length ≤ 9223372036854775807) → ∃ k, laws_FnCodes.f k l0 = some true
end Go.Proofs.YtbgclnjnngolmaaDoor.P

/- Codes' texts read back by the program, and the reference's test of a program. (Picked by tools/pick.py out of the templates of the single laws, for a seat without the reference's own parsing.) No condition but on lengths. -/
namespace Go.Proofs.YtbgclnjnngolmaaDoor.Pure
open Go.RowKit Go.Proofs.YtbgclnjnngolmaaDoor.P Go.Proofs.YtbgclnjnngolmaaDoor.Gen Go.Proofs.YtbgclnjnngolmaaDoorW.PrintWords Go.Proofs.YtbgclnjnngolmaaDoor.Split
set_option linter.unusedSimpArgs false
set_option linter.unusedVariables false

/-- A string out of its bytes. -/
def mk (l : List UInt8) : ByteArray := ⟨l.toArray⟩
theorem mk_size (l : List UInt8) : (mk l).size = l.length := by simp [mk, ByteArray.size]
theorem mk_list (l : List UInt8) : (mk l).data.toList = l := by simp [mk]
theorem list_mk (s : ByteArray) : mk s.data.toList = s := by cases s; simp [mk]
theorem mk_inj {a b : List UInt8} (h : mk a = mk b) : a = b := by
  have := congrArg (fun s : ByteArray => s.data.toList) h
  simpa [mk] using this
/-- The digits of a number, none for 0. -/
def digs (u : Nat) : List UInt8 := if u = 0 then [] else Go.Lib.decDigits u
theorem digs_step (u : Nat) (h : 0 < u) : digs u = digs (u / 10) ++ [UInt8.ofNat (48 + u % 10)] := by
  unfold digs
  rw [if_neg (by omega)]
  by_cases c : u < 10
  · rw [Go.Lib.decDigits, dif_pos c, if_pos (by omega), Nat.mod_eq_of_lt c]
    rfl
  · rw [Go.Lib.decDigits, dif_neg c, if_neg (by omega)]
theorem digs_len (d : Nat) : ∀ u, u < 10 ^ d → (digs u).length ≤ d := by
  induction d with
  | zero =>
    intro u h
    obtain rfl : u = 0 := by simpa using h
    simp [digs]
  | succ d ih =>
    intro u h
    by_cases c : u = 0
    · simp [digs, c]
    · rw [digs_step u (by omega), List.length_append]
      have := ih (u / 10) (by rw [Nat.pow_succ] at h; omega)
      simp only [List.length_cons, List.length_nil]
      omega
theorem itoaF (x : Int) (h0 : -9223372036854775808 ≤ x) (h1 : x ≤ 9223372036854775807) : strconv_Itoa.f x = some (mk (Go.Lib.itoa x)) := by
  unfold strconv_Itoa.f
  rw [if_pos h0, if_pos h1]
  rfl
theorem itoa_len (x : Int) (h0 : -9223372036854775808 ≤ x) (h1 : x ≤ 9223372036854775807) : (Go.Lib.itoa x).length ≤ 21 := Go.Lib.itoa_length_le x h0 h1
/-- A whole number that an int holds. -/
def I64 (x : Int) : Prop := -9223372036854775808 ≤ x ∧ x ≤ 9223372036854775807
theorem mk_toList (l : List UInt8) : (mk l).toList = l := by rw [ByteArray.toList_eq, mk_list]
theorem mk_empty : (⟨#[]⟩ : ByteArray) = mk [] := rfl
theorem join_len (sep : List UInt8) (M : Nat) (xs : List (List UInt8)) (h : ∀ x ∈ xs, x.length + sep.length ≤ M) : (Go.Lib.join xs sep).length ≤ xs.length * M := by
  cases xs with
  | nil => simp [Go.Lib.join_nil]
  | cons y r =>
    rw [Go.Lib.join_cons, List.length_append]
    have key : ∀ l : List (List UInt8), (∀ x ∈ l, x.length + sep.length ≤ M) → (Go.Lib.joinTail sep l).length ≤ l.length * M := by
      intro l
      induction l with
      | nil => intro _; simp [Go.Lib.joinTail]
      | cons z t ih =>
        intro hz
        have h1 := ih (fun x hx => hz x (List.mem_cons_of_mem _ hx))
        have h2 := hz z (by simp)
        have e : Go.Lib.joinTail sep (z :: t) = (sep ++ z) ++ Go.Lib.joinTail sep t := by simp [Go.Lib.joinTail]
        rw [e, List.length_append, List.length_append, List.length_cons, Nat.succ_mul]
        omega
    have h1 := key r (fun x hx => h x (List.mem_cons_of_mem _ hx))
    have h2 := h y (by simp)
    rw [List.length_cons, Nat.succ_mul]
    omega
theorem join_ne (sep : List UInt8) (x : List UInt8) (r : List (List UInt8)) (h : x ≠ []) : Go.Lib.join (x :: r) sep ≠ [] := by
  rw [Go.Lib.join_cons]
  intro e
  exact h (List.append_eq_nil_iff.1 e).1
/-- strings.Join of words. -/
theorem joinF (ws : List (List UInt8)) (sep : List UInt8) (h0 : ws.length ≤ 1099511627776) (h1 : (Go.Lib.join ws sep).length ≤ 140737488355328) : strings_Join.f (ws.map mk) (mk sep) = some (mk (Go.Lib.join ws sep)) := by
  unfold strings_Join.f
  have e : (ws.map mk).map (·.data.toList) = ws := by
    rw [List.map_map]
    have : (fun s : ByteArray => s.data.toList) ∘ mk = id := by funext l; exact mk_list l
    rw [this, List.map_id]
  rw [if_pos (by rw [List.length_map]; exact h0), e, mk_list, if_pos h1]
  rfl
/-- A loop that collects a word of each element. -/
theorem words_loop {α γ : Type} (l : List α) (w : α → List UInt8) (K : Nat) (F : Nat → List ByteArray → Int → Option γ)
    (hs : ∀ k b (j : Nat) (h : j < l.length), K ≤ k → b.length = j → F (k + 1) b (j : Int) = F k (b ++ [mk (w l[j])]) ((j + 1 : Nat) : Int)) :
    ∀ k, K ≤ k → F (k + l.length) [] 0 = F k ((l.map w).map mk) (l.length : Int) := by
  intro k hK
  have key : ∀ d (j : Nat), j ≤ l.length → l.length - j = d → F (k + d) (((l.take j).map w).map mk) (j : Int) = F k ((l.map w).map mk) (l.length : Int) := by
    intro d
    induction d with
    | zero =>
      intro j hj hd
      obtain rfl : j = l.length := by omega
      rw [List.take_length]
      rfl
    | succ d ih =>
      intro j hj hd
      have hlt : j < l.length := by omega
      have e : ((l.take (j + 1)).map w).map mk = ((l.take j).map w).map mk ++ [mk (w l[j])] := by
        rw [List.take_add_one, List.getElem?_eq_getElem hlt, Option.toList_some, List.map_append, List.map_append]
        rfl
      rw [← Nat.add_assoc, hs (k + d) _ j hlt (by omega) (by rw [List.length_map, List.length_map, List.length_take]; omega), ← ih (j + 1) (by omega) (by omega), e]
  have := key l.length 0 (Nat.zero_le _) (by omega)
  simpa using this
/-- The words of an instruction's text. -/
def instrWs (op r s n : Int) : List (List UInt8) :=
  if op = 0 then [[115, 101, 116], Go.Lib.itoa r, Go.Lib.itoa n] else if op = 1 then [[97, 100, 100], Go.Lib.itoa r, Go.Lib.itoa s] else
  if op = 2 then [[108, 111, 97, 100], Go.Lib.itoa r, Go.Lib.itoa n] else if op = 3 then [[115, 116, 111, 114, 101], Go.Lib.itoa r, Go.Lib.itoa n] else
  if op = 4 then [[102, 101, 110, 99, 101]] else if op = 5 then [[99, 97, 115], Go.Lib.itoa r, Go.Lib.itoa s, Go.Lib.itoa n] else
  if op = 6 then [[106, 122], Go.Lib.itoa r, Go.Lib.itoa n] else if op = 7 then [[115, 119, 97, 112], Go.Lib.itoa r, Go.Lib.itoa s, Go.Lib.itoa n] else
  [[115, 117, 98], Go.Lib.itoa r, Go.Lib.itoa s]
def instrW (op r s n : Int) : List UInt8 := if inB op 0 8 = true then Go.Lib.join (instrWs op r s n) [32] else []
theorem instrWs_short (op r s n : Int) (hr : I64 r) (hs : I64 s) (hn : I64 n) : (instrWs op r s n).length ≤ 4 ∧ ∀ x ∈ instrWs op r s n, x.length + 1 ≤ 22 := by
  have h1 := itoa_len r hr.1 hr.2
  have h2 := itoa_len s hs.1 hs.2
  have h3 := itoa_len n hn.1 hn.2
  have key : ∀ ws : List (List UInt8), ws.length ≤ 4 ∧ (∀ x ∈ ws, x.length + 1 ≤ 22) → ws.length ≤ 4 ∧ ∀ x ∈ ws, x.length + 1 ≤ 22 := fun _ h => h
  unfold instrWs
  repeat' split
  all_goals
    refine ⟨by simp, ?_⟩
    intro x hx
    simp only [List.mem_cons, List.mem_nil_iff, or_false] at hx
    rcases hx with rfl | rfl | rfl | rfl
    all_goals first | omega | (simp only [List.length_cons, List.length_nil]; omega) | skip
  all_goals
    rcases hx with rfl | rfl | rfl
    all_goals first | omega | (simp only [List.length_cons, List.length_nil]; omega) | skip
theorem instrJoin (op r s n : Int) (hr : I64 r) (hs : I64 s) (hn : I64 n) : strings_Join.f ((instrWs op r s n).map mk) (⟨#[32]⟩ : ByteArray) = some (mk (Go.Lib.join (instrWs op r s n) [32])) := by
  obtain ⟨hl, hx⟩ := instrWs_short op r s n hr hs hn
  have := join_len [32] 22 _ hx
  exact joinF _ [32] (by omega) (by omega)
theorem impl_instrText_at (op r s n : Int) (hr : I64 r) (hs : I64 s) (hn : I64 n) : impl_InstrText.f 3 op r s n = some (mk (instrW op r s n)) := by
  unfold impl_InstrText.f instrW
  rw [within, Option.bind_some]
  by_cases h : inB op 0 8 = true
  · have ho := inB_true.1 h
    rw [if_pos h, if_pos h]
    have hj := instrJoin op r s n hr hs hn
    obtain h | h | h | h | h | h | h | h | h : op = 0 ∨ op = 1 ∨ op = 2 ∨ op = 3 ∨ op = 4 ∨ op = 5 ∨ op = 6 ∨ op = 7 ∨ op = 8 := by omega
    all_goals
      subst h
      rw [← hj]
      simp [instrWs, impl_mnemonics.f, impl_Instr_usesR.f, impl_Instr_usesS.f, impl_Instr_usesN.f, impl_InstrText.j0, impl_InstrText.j1, itoaF r hr.1 hr.2, itoaF s hs.1 hs.2, itoaF n hn.1 hn.2, rdOf]
      rfl
  · rw [if_neg h, if_neg h]
    rfl
theorem impl_instrText (op r s n : Int) (hr : I64 r) (hs : I64 s) (hn : I64 n) (k : Nat) (hk : 3 ≤ k) : impl_InstrText.f k op r s n = some (mk (instrW op r s n)) :=
  at_rounds (impl_InstrText.mono op r s n) hk (impl_instrText_at op r s n hr hs hn)
theorem instrW_len (op r s n : Int) (hr : I64 r) (hs : I64 s) (hn : I64 n) : (instrW op r s n).length ≤ 88 := by
  unfold instrW
  split
  · obtain ⟨hl, hx⟩ := instrWs_short op r s n hr hs hn
    have := join_len [32] 22 _ hx
    omega
  · simp
theorem instrW_nil (op r s n : Int) : instrW op r s n = [] ↔ inB op 0 8 = false := by
  unfold instrW
  cases h : inB op 0 8 with
  | false => simp
  | true =>
    simp only [if_true]
    have key : ∀ ws : List (List UInt8), (∃ x r, ws = x :: r ∧ x ≠ []) → Go.Lib.join ws [32] ≠ [] := by
      rintro _ ⟨x, r, rfl, hx⟩
      exact join_ne _ _ _ hx
    have hne : Go.Lib.join (instrWs op r s n) [32] ≠ [] := by
      apply key
      unfold instrWs
      repeat' split
      all_goals exact ⟨_, _, rfl, by simp⟩
    simp [hne]
theorem valB_range {x : Int} (h : valB x = true) : -1000000 ≤ x ∧ x ≤ 1000000 := by
  unfold valB at h
  exact inB_true.1 h
theorem rdB (ws : List (List UInt8)) (j : Nat) (h : j < ws.length) : rdOf ByteArray.empty (ws.map mk) (j : Int) = mk ws[j] := by
  rw [rdOf_nat _ _ _ (by rw [List.length_map]; exact h), List.getElem_map]
/-- What stands behind the sign. -/
def magW (w : List UInt8) : List UInt8 := if w.head? = some 45 then w.tail else w
/-- A number read as the reference reads it. -/
def readR (w : List UInt8) : Int × Bool :=
  if 1 ≤ (magW w).length ∧ (magW w).length ≤ 7 then
    match Go.Lib.decFrom 0 (magW w) with
    | none => (0, false)
    | some n => if (magW w).length < w.length then (-(n : Int), Go.Lib.itoa (-(n : Int)) == w) else ((n : Int), Go.Lib.itoa (n : Int) == w)
  else (0, false)
theorem digits7 (u : Nat) (h : u < 10000000) : (Go.Lib.decDigits u).length ≤ 7 := by
  by_cases c : u = 0
  · rw [c, Go.Lib.decDigits, dif_pos (by omega)]
    simp
  · have := digs_len 7 u (by omega)
    unfold digs at this
    rwa [if_neg c] at this
theorem readR_itoa (x : Int) (h : -10000000 < x ∧ x < 10000000) : readR (Go.Lib.itoa x) = (x, true) := by
  unfold Go.Lib.itoa
  by_cases c : x < 0
  · rw [if_pos c]
    have hm : magW (45 :: Go.Lib.decDigits x.natAbs) = Go.Lib.decDigits x.natAbs := rfl
    have hl := digits7 x.natAbs (by omega)
    have hn : 1 ≤ (Go.Lib.decDigits x.natAbs).length := List.length_pos_iff.2 (decDigits_ne _)
    unfold readR
    rw [hm, if_pos ⟨hn, hl⟩, decFrom_digits]
    simp only
    rw [if_pos (by simp)]
    have e : -((x.natAbs : Nat) : Int) = x := by omega
    rw [e]
    unfold Go.Lib.itoa
    rw [if_pos c]
    simp
  · rw [if_neg c]
    have hl := digits7 x.toNat (by omega)
    have hn : 1 ≤ (Go.Lib.decDigits x.toNat).length := List.length_pos_iff.2 (decDigits_ne _)
    have hm : magW (Go.Lib.decDigits x.toNat) = Go.Lib.decDigits x.toNat := by
      unfold magW
      rw [if_neg]
      intro h45
      obtain ⟨d, hd⟩ := Go.Lib.digit_of_decFrom _ 0 _ (decFrom_digits x.toNat) 0 45 (by rw [← h45, List.head?_eq_getElem?])
      have := Go.Lib.digitVal_eq hd
      simp at this
    unfold readR
    rw [hm, if_pos ⟨hn, hl⟩, decFrom_digits]
    simp only
    rw [if_neg (by omega)]
    have e : ((x.toNat : Nat) : Int) = x := by omega
    rw [e]
    unfold Go.Lib.itoa
    rw [if_neg c]
    simp
theorem atoiR_itoa (x : Int) (h : -10000000 < x ∧ x < 10000000) : atoiR (Go.Lib.itoa x) = (x, false) := by
  unfold atoiR
  rw [atoiAll_itoa x (by omega)]
/-- A word is no longer than what it is part of. -/
theorem join_ge (sep : List UInt8) : ∀ (ws : List (List UInt8)), ∀ x ∈ ws, x.length ≤ (Go.Lib.join ws sep).length
  | [], x, h => by cases h
  | [y], x, h => by
    rw [Go.Lib.join_one]
    simp only [List.mem_cons, List.mem_nil_iff, or_false] at h
    rw [h]
    exact Nat.le_refl _
  | y :: z :: r, x, h => by
    rw [Go.Lib.join_cons, joinTail_join, List.length_append, List.length_append]
    rcases List.mem_cons.1 h with rfl | h
    · omega
    · have := join_ge sep (z :: r) x h
      omega
theorem sep_mk : (⟨#[32]⟩ : ByteArray) = mk [32] := rfl
/-- strings.SplitN at a separator, of a text. -/
theorem splitNF (l sep : List UInt8) (n : Nat) (hl : l.length ≤ 1048576) (hs : 1 ≤ sep.length) (hn : 1 ≤ n) (hn2 : n ≤ 100) : strings_SplitN.f (mk l) (mk sep) (n : Int) = some ((Go.Lib.splitK sep 0 (min n (l.length + 1) - 1) l).map mk) := by
  unfold strings_SplitN.f
  rw [if_pos (by rw [mk_size]; omega), if_pos (by rw [mk_size]; exact hs), if_pos (by omega), Int.toNat_natCast, mk_size]
  refine congrArg some ?_
  have h := Go.Lib.splitB_data (mk sep) 0 (min n (l.length + 1) - 1) (mk l)
  rw [mk_list, mk_list] at h
  rw [← h, List.map_map]
  have : (mk ∘ fun s : ByteArray => s.data.toList) = id := by funext s; exact list_mk s
  rw [this, List.map_id]
theorem atoiF (w : List UInt8) (h : w.length ≤ 1048576) : strconv_Atoi.f (mk w) = some (atoiR w) := by
  unfold strconv_Atoi.f
  rw [if_pos (by rw [mk_size]; omega), mk_list]
theorem parts_len (c : UInt8) : ∀ l, (parts c l).length ≤ l.length + 1
  | [] => by simp [parts]
  | b :: l => by
    have ih := parts_len c l
    obtain ⟨p, r, h⟩ := parts_cons c l
    unfold parts
    rw [h] at ih ⊢
    split <;> simp only [List.length_cons] at ih ⊢ <;> omega
theorem parts_no (c : UInt8) : ∀ l, ∀ w ∈ parts c l, c ∉ w
  | [] => by simp [parts]
  | b :: l => by
    have ih := parts_no c l
    obtain ⟨p, r, h⟩ := parts_cons c l
    unfold parts
    rw [h] at ih ⊢
    split
    · intro w hw
      rcases List.mem_cons.1 hw with rfl | hw
      · simp
      · exact ih w hw
    · next hb =>
      intro w hw
      rcases List.mem_cons.1 hw with rfl | hw
      · have := ih p List.mem_cons_self
        simp only [List.mem_cons, not_or]
        exact ⟨fun e => hb e.symm, this⟩
      · exact ih w (List.mem_cons_of_mem _ hw)
theorem count_words (c : UInt8) : ∀ (ws : List (List UInt8)) (w : List UInt8), (∀ x ∈ w :: ws, c ∉ x) → Go.Lib.count (Go.Lib.join (w :: ws) [c]) [c] = ws.length
  | [], w, h => by
    rw [Go.Lib.join_one]
    exact Go.Lib.count_miss (index_noword c [] w (h w List.mem_cons_self))
  | x :: ws, w, h => by
    have e : Go.Lib.join (w :: x :: ws) [c] = w ++ [c] ++ Go.Lib.join (x :: ws) [c] := by rw [Go.Lib.join_cons, joinTail_join, List.append_assoc]
    have hi := index_word c [] w (Go.Lib.join (x :: ws) [c]) (h w List.mem_cons_self)
    rw [e, Go.Lib.count_hit (by simp) hi, ← List.length_append, List.drop_left, count_words c ws x (fun y hy => h y (List.mem_cons_of_mem _ hy)), List.length_cons]
    omega
theorem splitF (t : List UInt8) (ht : t.length ≤ 1048576) : strings_Split.f (mk t) (mk [32]) = some ((parts 32 t).map mk) := by
  unfold strings_Split.f
  rw [if_pos (by rw [mk_size]; omega), if_pos (by rw [mk_size]; simp)]
  refine congrArg some ?_
  have h := Go.Lib.splitB_data (mk [32]) 0 (Go.Lib.countB (mk t) (mk [32])) (mk t)
  rw [mk_list, mk_list] at h
  have hk : Go.Lib.countB (mk t) (mk [32]) = Go.Lib.count t [32] := by
    unfold Go.Lib.countB
    rw [mk_list, mk_list]
  obtain ⟨p, r, hp⟩ := parts_cons 32 t
  have hno := parts_no 32 t
  have hj := join_parts 32 t
  rw [hp] at hno hj
  have hs : Go.Lib.splitK [32] 0 (Go.Lib.count t [32]) t = parts 32 t := by
    rw [hp]
    conv => lhs; rw [← hj]
    exact splitK_words 32 [] r p _ hno (by rw [count_words 32 r p hno]; exact Nat.le_refl _)
  rw [hk, hs] at h
  rw [← h, List.map_map, hk]
  have : (mk ∘ fun s : ByteArray => s.data.toList) = id := by funext s; exact list_mk s
  rw [this, List.map_id]
def usesSB (op : Int) : Bool := op == 1 || op == 8 || op == 5 || op == 7
def usesNB (op : Int) : Bool := !(op == 1 || op == 8 || op == 4)
theorem uR (a b c d : Int) : impl_Instr_usesR.f a b c d = some (a != 4) := rfl
theorem uS (a b c d : Int) : impl_Instr_usesS.f a b c d = some (usesSB a) := by
  unfold impl_Instr_usesS.f usesSB
  repeat' split
  all_goals simp_all
theorem uN (a b c d : Int) : impl_Instr_usesN.f a b c d = some (usesNB a) := by
  unfold impl_Instr_usesN.f usesNB
  repeat' split
  all_goals simp_all [bne]
/-- An instruction that has a text: what it does not use is nought. -/
def goodI (op r s n : Int) : Bool := inB op 0 8 && valB r && valB s && valB n && (op != 4 || r == 0) && (usesSB op || s == 0) && (usesNB op || n == 0)
abbrev Ans := Int × Int × Int × Int × Bool
def zeroA : Ans := (0, 0, 0, 0, false)
def wordsI : List (List UInt8) := [[115, 101, 116], [97, 100, 100], [108, 111, 97, 100], [115, 116, 111, 114, 101], [102, 101, 110, 99, 101], [99, 97, 115], [106, 122], [115, 119, 97, 112], [115, 117, 98]]
def formsI : List (List UInt8) := [[114, 110], [114, 115], [114, 110], [114, 110], [], [114, 115, 110], [114, 110], [114, 115, 110], [114, 115]]
def wordW (j : Nat) : List UInt8 := wordsI.getD j []
def formW (j : Nat) : List UInt8 := formsI.getD j []
def okW (w : List UInt8) : Bool := (readR w).2 && valB (readR w).1
def fillW : List UInt8 → List (List UInt8) → Int → Int → Int → Option (Int × Int × Int)
  | [], _, r, s, n => some (r, s, n)
  | _ :: _, [], _, _, _ => none
  | c :: f, w :: ws, r, s, n => if okW w = true then fillW f ws (if c = 114 then (readR w).1 else r) (if c = 114 then s else if c = 115 then (readR w).1 else s) (if c = 114 then n else if c = 115 then n else if c = 110 then (readR w).1 else n) else none
def fillA (op : Int) : Option (Int × Int × Int) → Ans
  | none => zeroA
  | some (r, s, n) => (op, r, s, n, true)
def findI : List Nat → List UInt8 → List (List UInt8) → Ans
  | [], _, _ => zeroA
  | j :: js, w0, rest => if w0 = wordW j ∧ rest.length = (formW j).length then fillA (j : Int) (fillW (formW j) rest 0 0 0) else findI js w0 rest
theorem okW_itoa {x : Int} (h : valB x = true) : okW (Go.Lib.itoa x) = true ∧ (readR (Go.Lib.itoa x)).1 = x := by
  have hx := valB_range h
  have := readR_itoa x (by omega)
  unfold okW
  rw [this]
  exact ⟨by simp [h], rfl⟩
theorem val0 : valB 0 = true := by decide
def okA (w : List UInt8) : Bool := !(atoiR w).2 && valB (atoiR w).1
def fin2 (t : List UInt8) (op r s : Int) (ns : List Int) : Ans :=
  if t = [] then zeroA else if instrW op r s (if usesNB op = true then rd ns 0 else 0) = t then (op, r, s, (if usesNB op = true then rd ns 0 else 0), true) else zeroA
def fin1 (t : List UInt8) (op r : Int) (ns : List Int) : Ans := if usesSB op = true then fin2 t op r (rd ns 0) (ns.drop 1) else fin2 t op r 0 ns
def finI (t : List UInt8) (op : Int) (ns : List Int) : Ans := if (op != 4) = true then fin1 t op (rd ns 0) (ns.drop 1) else fin1 t op 0 ns
theorem val64 {x : Int} (h : valB x = true) : I64 x := by
  have := valB_range h
  unfold I64
  omega
theorem rd_val {ns : List Int} (h : ∀ x ∈ ns, valB x = true) (hl : 0 < ns.length) : valB (rd ns 0) = true := by
  have := rd_nat ns 0 hl
  rw [show ((0 : Nat) : Int) = 0 from rfl] at this
  rw [this]
  exact h _ (List.getElem_mem hl)
theorem j2_eq (t : List UInt8) (op r s : Int) (ns : List Int) (hr : valB r = true) (hs : valB s = true) (hn : ∀ x ∈ ns, valB x = true) (hl : 0 < ns.length) (k : Nat) (hk : 10 ≤ k) : impl_ParseInstr.j2 k (mk t) ns op r s 0 = some (fin2 t op r s ns) := by
  obtain ⟨k, rfl⟩ : ∃ m, k = m + 1 := ⟨k - 1, by omega⟩
  have h1 := rd_val hn hl
  simp only [impl_ParseInstr.j2]
  unfold fin2
  rw [uN, Option.bind_some, mk_toList, impl_instrText op r s (rd ns 0) (val64 hr) (val64 hs) (val64 h1) k (by omega), impl_instrText op r s 0 (val64 hr) (val64 hs) (val64 val0) k (by omega), Option.bind_some, Option.bind_some, mk_toList, mk_toList]
  cases hN : usesNB op with
  | true =>
    rw [if_pos rfl, if_pos (by omega)]
    simp only [if_true]
    split
    · rfl
    · split <;> rfl
  | false =>
    rw [if_neg (by decide)]
    simp only [Bool.false_eq_true, if_false]
    split
    · rfl
    · split <;> rfl
theorem j1_eq (t : List UInt8) (op r : Int) (ns : List Int) (hr : valB r = true) (hn : ∀ x ∈ ns, valB x = true) (hl : 1 < ns.length) (k : Nat) (hk : 12 ≤ k) : impl_ParseInstr.j1 k (mk t) ns op r 0 0 = some (fin1 t op r ns) := by
  obtain ⟨k, rfl⟩ : ∃ m, k = m + 1 := ⟨k - 1, by omega⟩
  simp only [impl_ParseInstr.j1]
  unfold fin1
  rw [uS, Option.bind_some]
  cases hS : usesSB op with
  | true =>
    rw [if_pos rfl, if_pos (by omega), if_pos (by omega), if_pos rfl]
    exact j2_eq t op r _ _ hr (rd_val hn (by omega)) (fun x hx => hn x (List.mem_of_mem_drop hx)) (by rw [List.length_drop]; show 0 < ns.length - 1; omega) k (by omega)
  | false =>
    rw [if_neg (by decide), if_neg (by decide)]
    exact j2_eq t op r 0 ns hr val0 hn (by omega) k (by omega)
def idxI (w0 : List UInt8) : Int := Go.Lib.idxOfS (wordsI.map mk) (mk w0)
theorem impl_loop (t w0 : List UInt8) (rest : List (List UInt8)) (hw : ∀ w ∈ rest, w.length ≤ 1048576) (hn : rest.length ≤ 1000) : ∀ d (j k : Nat) (acc : List Int), j ≤ rest.length → rest.length - j = d → 30 + d < k → acc.length = j → (∀ x ∈ acc, valB x = true) →
    impl_ParseInstr.l0 k (mk t) ((w0 :: rest).map mk) acc (rest.map mk) (rest.length : Int) (j : Int) =
      some (if (rest.drop j).all okA = true then finI t (idxI w0) (acc ++ (rest.drop j).map (fun w => (atoiR w).1) ++ [0, 0, 0]) else zeroA) := by
  intro d
  induction d with
  | zero =>
    intro j k acc hj hd hk ha hv
    obtain ⟨k, rfl⟩ : ∃ m, k = m + 1 := ⟨k - 1, by omega⟩
    simp only [impl_ParseInstr.l0]
    have hm : impl_mnemonics.f = some (wordsI.map mk) := rfl
    have h0 : rdOf ByteArray.empty ((w0 :: rest).map mk) 0 = mk w0 := rfl
    have hi : slices_Index_string_string.f (wordsI.map mk) (mk w0) = some (idxI w0) := by
      unfold slices_Index_string_string.f
      rw [if_pos (by decide)]
      rfl
    rw [if_neg (by omega), hm, Option.bind_some, if_pos (by rw [List.length_map, List.length_cons]; omega), h0, hi, Option.bind_some, Option.bind_some, if_pos (by simp; omega), Option.bind_some, uR, Option.bind_some, List.drop_of_length_le (show rest.length ≤ j by omega)]
    simp only [List.all_nil, if_true, List.map_nil, List.append_nil]
    have hv3 : ∀ x ∈ acc ++ [0, 0, 0], valB x = true := by
      intro x hx
      rcases List.mem_append.1 hx with h | h
      · exact hv x h
      · simp only [List.mem_cons, List.mem_nil_iff, or_false, or_self] at h
        rw [h]
        exact val0
    have hl3 : 3 ≤ (acc ++ [0, 0, 0]).length := by simp
    unfold finI
    cases hR : (idxI w0 != 4) with
    | true =>
      rw [if_pos rfl, if_pos (by omega), if_pos (by omega), if_pos rfl]
      exact j1_eq t _ _ _ (rd_val hv3 (by omega)) (fun x hx => hv3 x (List.mem_of_mem_drop hx)) (by rw [List.length_drop]; show 1 < (acc ++ [0, 0, 0]).length - 1; omega) k (by omega)
    | false =>
      rw [if_neg (by decide), if_neg (by decide)]
      exact j1_eq t _ 0 _ val0 hv3 (by omega) k (by omega)
  | succ d ih =>
    intro j k acc hj hd hk ha hv
    obtain ⟨k, rfl⟩ : ∃ m, k = m + 1 := ⟨k - 1, by omega⟩
    have hlt : j < rest.length := by omega
    simp only [impl_ParseInstr.l0]
    rw [if_pos (by omega), if_pos (by omega), if_pos (by rw [List.length_map]; omega), rdB rest j hlt, atoiF _ (hw _ (List.getElem_mem hlt)), Option.bind_some, List.drop_eq_getElem_cons hlt, List.all_cons]
    cases hb : (atoiR rest[j]).2 with
    | true =>
      have : okA rest[j] = false := by unfold okA; rw [hb]; rfl
      rw [if_pos rfl, this]
      rfl
    | false =>
      have hin : impl_within.f (atoiR rest[j]).1 (-1000000) 1000000 = some (valB (atoiR rest[j]).1) := within _ _ _
      have hok : okA rest[j] = valB (atoiR rest[j]).1 := by unfold okA; rw [hb]; rfl
      rw [if_neg (by decide), hin, Option.bind_some, hok]
      cases hx : valB (atoiR rest[j]).1 with
      | false =>
        rw [if_neg (by decide)]
        rfl
      | true =>
        rw [if_pos rfl, if_pos (by omega), wrap_succ hlt (by omega), ih (j + 1) k _ (by omega) (by omega) (by omega) (by simp; omega) (by
          intro x hx'
          rcases List.mem_append.1 hx' with h | h
          · exact hv x h
          · simp only [List.mem_cons, List.mem_nil_iff, or_false] at h
            rw [h]
            exact hx)]
        have e : acc ++ [(atoiR rest[j]).1] ++ (rest.drop (j + 1)).map (fun w => (atoiR w).1) ++ [0, 0, 0] = acc ++ ((atoiR rest[j]).1 :: (rest.drop (j + 1)).map (fun w => (atoiR w).1)) ++ [0, 0, 0] := by simp only [List.append_assoc, List.cons_append, List.nil_append]
        rw [e]
        rfl
theorem impl_parseInstr_all (t : List UInt8) (ht : t.length ≤ 60) (w0 : List UInt8) (rest : List (List UInt8)) (hp : parts 32 t = w0 :: rest) (k : Nat) (hk : 300 ≤ k) :
    impl_ParseInstr.f k (mk t) = some (if rest.all okA = true then finI t (idxI w0) (rest.map (fun w => (atoiR w).1) ++ [0, 0, 0]) else zeroA) := by
  unfold impl_ParseInstr.f
  have hj := join_parts 32 t
  have hlen := parts_len 32 t
  rw [hp] at hj hlen
  rw [if_neg (by rw [mk_size]; omega), sep_mk, splitF t (by omega), Option.bind_some, hp, if_pos (by rw [List.length_map, List.length_cons]; omega), Option.bind_some]
  have e : ((w0 :: rest).map mk).drop 1 = rest.map mk := rfl
  rw [e]
  have := impl_loop t w0 rest (fun w hw => by have := join_ge [32] _ w (List.mem_cons_of_mem w0 hw); rw [hj] at this; omega) (by simp only [List.length_cons] at hlen; omega) rest.length 0 k [] (by omega) (by omega) (by simp only [List.length_cons] at hlen; omega) rfl (by simp)
  rw [List.length_map]
  simpa using this
theorem instrW_parts (op r s n : Int) (h : inB op 0 8 = true) : ∃ w0 rest, instrWs op r s n = w0 :: rest ∧ instrW op r s n = Go.Lib.join (w0 :: rest) [32] ∧ parts 32 (instrW op r s n) = w0 :: rest := by
  have e : instrW op r s n = Go.Lib.join (instrWs op r s n) [32] := by unfold instrW; rw [if_pos h]
  have hno : ∀ x ∈ instrWs op r s n, (32 : UInt8) ∉ x := by
    have h1 := not_in_itoa r 32 (by decide)
    have h2 := not_in_itoa s 32 (by decide)
    have h3 := not_in_itoa n 32 (by decide)
    unfold instrWs
    repeat' split
    all_goals
      simp only [List.mem_cons, List.not_mem_nil, or_false, forall_eq_or_imp, forall_eq]
      first
        | exact ⟨by decide, h1, h2, h3⟩
        | exact ⟨by decide, h1, h2⟩
        | exact ⟨by decide, h1, h3⟩
        | decide
  have hc : ∃ w0 rest, instrWs op r s n = w0 :: rest := by
    unfold instrWs
    repeat' split
    all_goals exact ⟨_, _, rfl⟩
  obtain ⟨w0, rest, hw⟩ := hc
  rw [hw] at e hno
  exact ⟨w0, rest, hw, e, by rw [e]; exact parts_words 32 rest w0 hno⟩
theorem goodI_of {op r s n : Int} (h : goodI op r s n = true) : (0 ≤ op ∧ op ≤ 8) ∧ valB r = true ∧ valB s = true ∧ valB n = true ∧ (op = 4 → r = 0) ∧ (usesSB op = false → s = 0) ∧ (usesNB op = false → n = 0) := by
  unfold goodI at h
  simp only [Bool.and_eq_true, Bool.or_eq_true, bne_iff_ne, beq_iff_eq, ne_eq] at h
  obtain ⟨⟨⟨⟨⟨⟨h1, h2⟩, h3⟩, h4⟩, h5⟩, h6⟩, h7⟩ := h
  refine ⟨inB_true.1 h1, h2, h3, h4, fun e => ?_, fun e => ?_, fun e => ?_⟩
  · rcases h5 with h | h
    · exact absurd e h
    · exact h
  · rcases h6 with h | h
    · rw [h] at e; cases e
    · exact h
  · rcases h7 with h | h
    · rw [h] at e; cases e
    · exact h
theorem okA_itoa {x : Int} (h : valB x = true) : okA (Go.Lib.itoa x) = true ∧ (atoiR (Go.Lib.itoa x)).1 = x := by
  have hx := valB_range h
  have := atoiR_itoa x (by omega)
  unfold okA
  rw [this]
  exact ⟨by simp [h], rfl⟩
theorem idx_words : idxI [115, 101, 116] = 0 ∧ idxI [97, 100, 100] = 1 ∧ idxI [108, 111, 97, 100] = 2 ∧ idxI [115, 116, 111, 114, 101] = 3 ∧ idxI [102, 101, 110, 99, 101] = 4 ∧ idxI [99, 97, 115] = 5 ∧ idxI [106, 122] = 6 ∧ idxI [115, 119, 97, 112] = 7 ∧ idxI [115, 117, 98] = 8 := by
  refine ⟨?_, ?_, ?_, ?_, ?_, ?_, ?_, ?_, ?_⟩ <;> rfl
theorem rd0 (x : Int) (l : List Int) : rd (x :: l) 0 = x := rfl
/-- Both read the text of an instruction back. -/
theorem both_yes (op r s n : Int) (h : goodI op r s n = true) (w0 : List UInt8) (rest : List (List UInt8)) (hw : instrWs op r s n = w0 :: rest) :
    findI [0, 1, 2, 3, 4, 5, 6, 7, 8] w0 rest = (op, r, s, n, true) ∧ rest.all okA = true ∧ finI (instrW op r s n) (idxI w0) (rest.map (fun w => (atoiR w).1) ++ [0, 0, 0]) = (op, r, s, n, true) := by
  obtain ⟨h0, hr, hs, hn, g4, gs, gn⟩ := goodI_of h
  have hne : instrW op r s n ≠ [] := fun e => by
    have := (instrW_nil op r s n).1 e
    rw [inB_true.2 h0] at this
    cases this
  have r1 := okW_itoa hr
  have s1 := okW_itoa hs
  have n1 := okW_itoa hn
  have r2 := okA_itoa hr
  have s2 := okA_itoa hs
  have n2 := okA_itoa hn
  obtain h' | h' | h' | h' | h' | h' | h' | h' | h' : op = 0 ∨ op = 1 ∨ op = 2 ∨ op = 3 ∨ op = 4 ∨ op = 5 ∨ op = 6 ∨ op = 7 ∨ op = 8 := by omega
  all_goals
    subst h'
    simp only [instrWs] at hw
    simp at hw
    obtain ⟨rfl, rfl⟩ := hw
    try obtain rfl := g4 rfl
    try obtain rfl := gs rfl
    try obtain rfl := gn rfl
    refine ⟨?_, ?_, ?_⟩
    · simp [findI, wordW, wordsI, formW, formsI, fillW, fillA, r1.1, r1.2, s1.1, s1.2, n1.1, n1.2]
    · simp [r2.1, s2.1, n2.1]
    · simp [idx_words, finI, fin1, fin2, usesSB, usesNB, rd0, r2.2, s2.2, n2.2, hne]
abbrev Ins := S37
theorem rdIns (l : List Ins) (j : Nat) (h : j < l.length) : rd_T37 l (j : Int) = l[j] := getD_nat _ l j h
theorem rdCode (l : List (List Ins)) (j : Nat) (h : j < l.length) : l.getD (j : Int).toNat [] = l[j] := getD_nat _ l j h
def insT (x : Ins) : List UInt8 := instrW x.f0 x.f1 x.f2 x.f3
def goodX (x : Ins) : Bool := goodI x.f0 x.f1 x.f2 x.f3
theorem itoa_short {x : Int} (h : valB x = true) : (Go.Lib.itoa x).length + 1 ≤ 9 := by
  have hx := valB_range h
  unfold Go.Lib.itoa
  split
  · have := digits7 x.natAbs (by omega)
    simp only [List.length_cons]
    omega
  · have := digits7 x.toNat (by omega)
    omega
theorem instrWs_good (op r s n : Int) (hr : valB r = true) (hs : valB s = true) (hn : valB n = true) : (instrWs op r s n).length ≤ 4 ∧ ∀ x ∈ instrWs op r s n, x.length + 1 ≤ 9 := by
  have h1 := itoa_short hr
  have h2 := itoa_short hs
  have h3 := itoa_short hn
  unfold instrWs
  repeat' split
  all_goals
    refine ⟨by simp, ?_⟩
    simp only [List.mem_cons, List.not_mem_nil, or_false, forall_eq_or_imp, forall_eq]
    first
      | exact ⟨by decide, h1, h2, h3⟩
      | exact ⟨by decide, h1, h2⟩
      | exact ⟨by decide, h1, h3⟩
      | decide
theorem instrW_short {op r s n : Int} (h : goodI op r s n = true) : (instrW op r s n).length ≤ 36 := by
  obtain ⟨h0, hr, hs, hn, _⟩ := goodI_of h
  obtain ⟨hl, hx⟩ := instrWs_good op r s n hr hs hn
  have := join_len [32] 9 _ hx
  unfold instrW
  rw [if_pos (inB_true.2 h0)]
  omega
theorem splitLong (sep : List UInt8) (hs : sep ≠ []) : ∀ (ws : List (List UInt8)) (w : List UInt8), ws.length ≤ (Go.Lib.join (w :: ws) sep).length
  | [], w => Nat.zero_le _
  | x :: ws, w => by
    have := splitLong sep hs ws x
    have h1 : 0 < sep.length := List.length_pos_iff.2 hs
    rw [Go.Lib.join_cons, joinTail_join, List.length_append, List.length_append, List.length_cons]
    omega
def goodCode (l : List Ins) : Prop := l.length ≤ 16 ∧ ∀ x ∈ l, goodX x = true
def codeW (l : List Ins) : List UInt8 := Go.Lib.join (l.map insT) [59, 32]
theorem insT_no {x : Ins} (h : goodX x = true) (c : UInt8) (hc : c = 59) : c ∉ insT x := by
  subst hc
  obtain ⟨w0, rest, hw, e, _⟩ := instrW_parts x.f0 x.f1 x.f2 x.f3 (inB_true.2 (goodI_of h).1)
  have hno : ∀ y ∈ instrWs x.f0 x.f1 x.f2 x.f3, (59 : UInt8) ∉ y := by
    have h1 := not_in_itoa x.f1 59 (by decide)
    have h2 := not_in_itoa x.f2 59 (by decide)
    have h3 := not_in_itoa x.f3 59 (by decide)
    unfold instrWs
    repeat' split
    all_goals
      simp only [List.mem_cons, List.not_mem_nil, or_false, forall_eq_or_imp, forall_eq]
      first
        | exact ⟨by decide, h1, h2, h3⟩
        | exact ⟨by decide, h1, h2⟩
        | exact ⟨by decide, h1, h3⟩
        | decide
  rw [hw] at hno
  unfold insT
  rw [e]
  intro hm
  have key : ∀ ws : List (List UInt8), (∀ y ∈ ws, (59 : UInt8) ∉ y) → (59 : UInt8) ∉ Go.Lib.join ws [32] := by
    intro ws
    induction ws with
    | nil => intro _ h; cases h
    | cons y ws ih =>
      intro h
      cases ws with
      | nil =>
        rw [Go.Lib.join_one]
        exact h y List.mem_cons_self
      | cons z ws =>
        rw [Go.Lib.join_cons, joinTail_join]
        have := ih fun a ha => h a (List.mem_cons_of_mem _ ha)
        have h0 := h y List.mem_cons_self
        simp only [List.mem_append, List.mem_singleton, not_or]
        exact ⟨h0, by decide, this⟩
  exact key _ hno hm
theorem join_blank (p : List UInt8) : ∀ ws : List (List UInt8), Go.Lib.join (p :: ws) [59, 32] = Go.Lib.join (p :: ws.map (32 :: ·)) [59] := by
  intro ws
  induction ws generalizing p with
  | nil => rfl
  | cons x ws ih =>
    rw [List.map_cons, Go.Lib.join_cons, Go.Lib.join_cons, joinTail_join, joinTail_join, ih x]
    cases ws with
    | nil => simp [Go.Lib.join_one]
    | cons y ws =>
      rw [List.map_cons, Go.Lib.join_cons, Go.Lib.join_cons]
      simp
theorem insT_ne {x : Ins} (h : goodX x = true) : insT x ≠ [] := fun e => by
  have := (instrW_nil x.f0 x.f1 x.f2 x.f3).1 e
  rw [inB_true.2 (goodI_of h).1] at this
  cases this
theorem codeW_len (l : List Ins) (h : goodCode l) : (codeW l).length ≤ 608 := by
  have h1 : ∀ x ∈ l.map insT, x.length + ([59, 32] : List UInt8).length ≤ 38 := by
    intro w hw
    obtain ⟨x, hx, rfl⟩ := List.mem_map.1 hw
    have := instrW_short (h.2 x hx)
    show (instrW x.f0 x.f1 x.f2 x.f3).length + 2 ≤ 38
    omega
  have := join_len [59, 32] 38 _ h1
  rw [List.length_map] at this
  have h2 := h.1
  unfold codeW
  have : l.length * 38 ≤ 16 * 38 := Nat.mul_le_mul_right 38 h2
  omega
def insW (x : Ins) : List UInt8 := instrW x.f0 x.f1 x.f2 x.f3
def insOk (x : Ins) : Bool := inB x.f0 0 8
def codeTextW (l : List Ins) : ByteArray × Bool := if decide (l.length ≤ 16) && l.all insOk then (mk (Go.Lib.join (l.map insW) [59, 32]), true) else (mk [], false)
def InsI (x : Ins) : Prop := I64 x.f1 ∧ I64 x.f2 ∧ I64 x.f3
theorem insW_len {x : Ins} (h : InsI x) : (insW x).length ≤ 88 := instrW_len _ _ _ _ h.1 h.2.1 h.2.2
theorem semi_mk : (⟨#[59, 32]⟩ : ByteArray) = mk [59, 32] := rfl
theorem rdIns1 (l : List Ins) (j : Nat) (h : j < l.length) : rd_T37 l (j : Int) = l[j] := getD_nat _ l j h
theorem has_empty {α : Type} (l : List α) (w : α → List UInt8) (ok : α → Bool) (hw : ∀ x ∈ l, w x = [] ↔ ok x = false) (h : l.length ≤ 1048576) :
    slices_Contains_string_string.f ((l.map w).map mk) (⟨#[]⟩ : ByteArray) = some (!(l.all ok)) := by
  unfold slices_Contains_string_string.f
  rw [if_pos (by rw [List.length_map, List.length_map]; omega)]
  refine congrArg some ?_
  rw [Bool.eq_iff_iff, Go.Lib.containsS_iff, Bool.not_eq_true', ← Bool.not_eq_true, List.all_eq_true]
  constructor
  · intro hm hall
    obtain ⟨y, hy, e⟩ := List.mem_map.1 hm
    obtain ⟨x, hx, rfl⟩ := List.mem_map.1 hy
    have := (hw x hx).1 (mk_inj (e.trans mk_empty))
    rw [hall x hx] at this
    cases this
  · intro hn
    obtain ⟨x, hx, hf⟩ : ∃ x ∈ l, ok x = false := by
      apply Classical.byContradiction
      intro hc
      apply hn
      intro x hx
      cases h : ok x with
      | true => rfl
      | false => exact absurd ⟨x, hx, h⟩ hc
    exact List.mem_map.2 ⟨w x, List.mem_map.2 ⟨x, hx, rfl⟩, by rw [(hw x hx).2 hf]; rfl⟩
theorem insW_nil (x : Ins) : insW x = [] ↔ insOk x = false := instrW_nil _ _ _ _
theorem impl_codeText (l : List Ins) (hl : l.length ≤ 1048576) (hi : ∀ x ∈ l, InsI x) (k : Nat) (hk : l.length + 5 ≤ k) : impl_CodeText.f k l = some (codeTextW l) := by
  unfold impl_CodeText.f
  obtain ⟨m, rfl⟩ : ∃ m, k = (m + 1) + l.length := ⟨k - 1 - l.length, by omega⟩
  rw [words_loop l insW 3 (fun k b i => impl_CodeText.l0 k l b l (l.length : Int) i) (fun k b j h hk hb => by
    obtain ⟨h1, h2, h3⟩ := hi _ (List.getElem_mem h)
    simp only [impl_CodeText.l0]
    rw [if_pos (by omega), if_pos (by omega), if_pos (by omega), rdIns1 _ _ h, impl_instrText _ _ _ _ h1 h2 h3 k hk, Option.bind_some, if_pos (by omega), wrap_succ h (by omega)]
    rfl) (m + 1) (by omega)]
  simp only [impl_CodeText.l0]
  rw [if_neg (by omega)]
  unfold codeTextW
  by_cases h16 : l.length ≤ 16
  · rw [if_neg (by omega), has_empty l insW insOk (fun x _ => insW_nil x) hl, Option.bind_some, decide_eq_true h16, Bool.true_and]
    by_cases ha : l.all insOk = true
    · rw [ha, if_neg (by decide), if_pos rfl, semi_mk, joinF _ _ (by rw [List.length_map]; omega)]
      · rfl
      · refine Nat.le_trans (join_len [59, 32] 90 _ ?_) ?_
        · intro x hx
          obtain ⟨y, hy, rfl⟩ := List.mem_map.1 hx
          have := insW_len (hi y hy)
          simp only [List.length_cons, List.length_nil]
          omega
        · rw [List.length_map]
          omega
    · simp only [Bool.not_eq_true] at ha
      rw [ha]
      rfl
  · rw [if_pos (by omega), decide_eq_false h16]
    rfl
/-- Is (op, r, s, n) an instruction of a code of z instructions, of a program with c cells? -/
def insB (op r s n c z : Int) : Bool :=
  inB c 1 16 && inB z 0 16 && inB op 0 8 && inB r 0 3 && inB s 0 3 &&
  (op != 4 || r == 0) && (op == 1 || op == 8 || op == 5 || op == 7 || s == 0) && (!(op == 1 || op == 8 || op == 4) || n == 0) &&
  (op == 1 || op == 8 || op == 4 || (if op = 0 then inB n (-1000) 1000 else if op = 6 then inB n 0 z else inB n 0 (c - 1)))
/-- Which fields an operation names: 114 r, 115 s, 110 n. -/
def namedB (op f : Int) : Bool :=
  if f = 114 then op != 4 else if f = 115 then op == 1 || op == 8 || op == 5 || op == 7 else !(op == 1 || op == 8 || op == 4)
theorem named_at (op f : Int) (h0 : 0 ≤ op) (h8 : op ≤ 8) (hf : f = 114 ∨ f = 115 ∨ f = 110) : spec_l02Named.f 5 op f = some (namedB op f) := by
  obtain h | h | h | h | h | h | h | h | h : op = 0 ∨ op = 1 ∨ op = 2 ∨ op = 3 ∨ op = 4 ∨ op = 5 ∨ op = 6 ∨ op = 7 ∨ op = 8 := by omega
  all_goals
    subst h
    obtain h | h | h := hf
    all_goals
      subst h
      decide +kernel
theorem named (op f : Int) (h0 : 0 ≤ op) (h8 : op ≤ 8) (hf : f = 114 ∨ f = 115 ∨ f = 110) (k : Nat) (hk : 5 ≤ k) : spec_l02Named.f k op f = some (namedB op f) :=
  at_rounds (spec_l02Named.mono op f) hk (named_at op f h0 h8 hf)
theorem spec_instrOk_at (op r s n c z : Int) : spec_InstrOk.f 10 op r s n c z = some (insB op r s n c z) := by
  unfold spec_InstrOk.f insB
  simp only [l01In, Option.bind_some]
  by_cases h1 : inB c 1 16 = true
  · by_cases h2 : inB z 0 16 = true
    · by_cases h3 : inB op 0 8 = true
      · simp only [h1, h2, h3, if_true, Bool.true_and, Bool.not_true]
        have hc := inB_true.1 h1
        have hw : wrap64 (c - 1) = c - 1 := wrap_id (by omega) (by omega)
        have ho := inB_true.1 h3
        have hnm := fun f hf => named op f ho.1 ho.2 hf 8 (by omega)
        simp only [spec_InstrOk.j0, l01In, Option.bind_some]
        by_cases h4 : inB r 0 3 = true
        · by_cases h5 : inB s 0 3 = true
          · simp only [h4, h5, if_true, Bool.true_and, Bool.not_true, spec_InstrOk.j1, hnm 114 (by omega), hnm 115 (by omega), hnm 110 (by omega), Option.bind_some]
            obtain h | h | h | h | h | h | h | h | h : op = 0 ∨ op = 1 ∨ op = 2 ∨ op = 3 ∨ op = 4 ∨ op = 5 ∨ op = 6 ∨ op = 7 ∨ op = 8 := by omega
            all_goals
              subst h
              simp only [spec_InstrOk.j2, spec_InstrOk.j3, l01In, Option.bind_some, hw, namedB]
              by_cases hr : r = 0 <;> by_cases hs : s = 0 <;> by_cases hn : n = 0 <;> simp [hr, hs, hn]
          · simp [h4, h5, spec_InstrOk.j1]
        · simp [h4, spec_InstrOk.j1]
      · simp [h1, h2, h3, spec_InstrOk.j0]
    · simp [h1, h2, spec_InstrOk.j0]
  · simp [h1, spec_InstrOk.j0]
theorem spec_instrOk (op r s n c z : Int) (k : Nat) (hk : 10 ≤ k) : spec_InstrOk.f k op r s n c z = some (insB op r s n c z) :=
  at_rounds (spec_InstrOk.mono op r s n c z) hk (spec_instrOk_at op r s n c z)
def codeB (c : Int) (q : List Ins) : Bool := decide (q.length ≤ 16) && q.all fun x => insB x.f0 x.f1 x.f2 x.f3 c (q.length : Int)
def progB (c : Int) (l : List (List Ins)) : Bool := inB c 1 16 && (inB (l.length : Int) 1 3 && l.all (codeB c))
theorem progB_facts {c : Int} {l : List (List Ins)} (h : progB c l = true) : (1 ≤ c ∧ c ≤ 16) ∧ (1 ≤ l.length ∧ l.length ≤ 3) ∧ ∀ q ∈ l, q.length ≤ 16 := by
  unfold progB at h
  simp only [Bool.and_eq_true, List.all_eq_true] at h
  have h1 := inB_true.1 h.1
  have h2 := inB_true.1 h.2.1
  refine ⟨h1, ⟨by omega, by omega⟩, fun q hq => ?_⟩
  have := h.2.2 q hq
  unfold codeB at this
  rw [Bool.and_eq_true] at this
  exact of_decide_eq_true this.1
theorem spec_progOk_inner (c : Int) (l : List (List Ins)) (i : Nat) (hi : i < l.length) (hl : l.length ≤ 3) (h16 : l[i].length ≤ 16) (R : Option Bool) (K : Nat) (hR : ∀ k, K ≤ k → spec_ProgOk.l0 k ((i + 1 : Nat) : Int) c l = R) :
    ∀ d k (j : Nat), j ≤ l[i].length → l[i].length - j = d → K + d + 12 < k →
      spec_ProgOk.l1 k (i : Int) (j : Int) c l = if ((l[i].drop j).all fun x => insB x.f0 x.f1 x.f2 x.f3 c (l[i].length : Int)) = true then R else some false := by
  intro d
  induction d with
  | zero =>
    intro k j hj hd hk
    obtain ⟨k, rfl⟩ : ∃ m, k = m + 1 := ⟨k - 1, by omega⟩
    obtain rfl : j = l[i].length := by omega
    simp only [spec_ProgOk.l1]
    rw [if_pos (by omega), if_pos (by omega)]
    have e := rdCode l i hi
    simp only [rd_L4, e]
    rw [if_neg (by omega), wrap_succ hi (by omega), hR k (by omega), List.drop_length]
    rfl
  | succ d ih =>
    intro k j hj hd hk
    obtain ⟨k, rfl⟩ : ∃ m, k = m + 1 := ⟨k - 1, by omega⟩
    have hlt : j < l[i].length := by omega
    simp only [spec_ProgOk.l1]
    rw [if_pos (by omega), if_pos (by omega)]
    have e := rdCode l i hi
    simp only [rd_L4, e]
    rw [if_pos (by omega), if_pos (by omega), rdIns _ _ hlt, spec_instrOk _ _ _ _ _ _ k (by omega), Option.bind_some, wrap_succ hlt (by omega), List.drop_eq_getElem_cons hlt, List.all_cons]
    by_cases c1 : insB l[i][j].f0 l[i][j].f1 l[i][j].f2 l[i][j].f3 c (l[i].length : Int) = true
    · rw [if_pos c1, ih k (j + 1) (by omega) (by omega) (by omega), c1, Bool.true_and]
    · rw [if_neg c1]
      simp [c1]
theorem spec_progOk_outer (c : Int) (l : List (List Ins)) (hl : l.length ≤ 3) : ∀ d k (i : Nat), i ≤ l.length → l.length - i = d → d * 40 < k → spec_ProgOk.l0 k (i : Int) c l = some ((l.drop i).all (codeB c)) := by
  intro d
  induction d with
  | zero =>
    intro k i hi hd hk
    obtain ⟨k, rfl⟩ : ∃ m, k = m + 1 := ⟨k - 1, by omega⟩
    obtain rfl : i = l.length := by omega
    simp only [spec_ProgOk.l0]
    rw [if_neg (by omega), List.drop_length]
    rfl
  | succ d ih =>
    intro k i hi hd hk
    obtain ⟨k, rfl⟩ : ∃ m, k = m + 1 := ⟨k - 1, by omega⟩
    have hlt : i < l.length := by omega
    simp only [spec_ProgOk.l0]
    rw [if_pos (by omega), if_pos (by omega)]
    have e := rdCode l i hlt
    simp only [rd_L4, e]
    rw [List.drop_eq_getElem_cons hlt, List.all_cons]
    by_cases h : l[i].length ≤ 16
    · rw [if_neg (by omega)]
      have := spec_progOk_inner c l i hlt hl h (some ((l.drop (i + 1)).all (codeB c))) (d * 40 + 1) (fun k hk => ih k (i + 1) (by omega) (by omega) (by omega)) l[i].length k 0 (Nat.zero_le _) (by omega) (by omega)
      rw [show (0 : Int) = ((0 : Nat) : Int) from rfl, this, List.drop_zero]
      unfold codeB
      rw [decide_eq_true h, Bool.true_and]
      by_cases c1 : (l[i].all fun x => insB x.f0 x.f1 x.f2 x.f3 c (l[i].length : Int)) = true
      · rw [if_pos c1, c1, Bool.true_and]
      · rw [if_neg c1]
        simp [c1]
    · rw [if_pos (by omega)]
      unfold codeB
      simp [h]
theorem spec_progOk (c : Int) (l : List (List Ins)) (k : Nat) (hk : 130 ≤ k) : spec_ProgOk.f k c l = some (progB c l) := by
  unfold spec_ProgOk.f progB
  obtain ⟨k, rfl⟩ : ∃ m, k = m + 1 := ⟨k - 1, by omega⟩
  simp only [l01In, Option.bind_some, spec_ProgOk.j0]
  by_cases h1 : inB c 1 16 = true
  · by_cases h2 : inB (l.length : Int) 1 3 = true
    · have := inB_true.1 h2
      simp only [h1, h2, if_true, Bool.not_true, Bool.true_and, Bool.false_eq_true, if_false]
      have := spec_progOk_outer c l (by omega) l.length k 0 (Nat.zero_le _) (by omega) (by omega)
      simpa using this
    · simp [h1, h2]
  · simp [h1]

/-! ### the program reads back what it wrote -/
theorem impl_yes (x : Ins) (h : goodX x = true) (k : Nat) (hk : 300 ≤ k) : impl_ParseInstr.f k (mk (insT x)) = some (x.f0, x.f1, x.f2, x.f3, true) := by
  have hs := instrW_short h
  obtain ⟨w0, rest, hw, _, hp⟩ := instrW_parts x.f0 x.f1 x.f2 x.f3 (inB_true.2 (goodI_of h).1)
  obtain ⟨_, h2, h3⟩ := both_yes x.f0 x.f1 x.f2 x.f3 h w0 rest hw
  unfold insT
  rw [impl_parseInstr_all _ (by omega) w0 rest hp k hk, if_pos h2, h3]
theorem impl_code_yes (l : List Ins) (hl : l.length ≤ 16) (hg : ∀ x ∈ l, goodX x = true) : ∀ d (i k : Nat) (acc : List Ins), i ≤ l.length → l.length - i = d → 320 + d < k → acc.length = i →
    impl_ParseCode.l0 k acc ((l.map insT).map mk) (l.length : Int) (i : Int) = some (acc ++ l.drop i, true) := by
  intro d
  induction d with
  | zero =>
    intro i k acc hi hd hk ha
    obtain ⟨k, rfl⟩ : ∃ m, k = m + 1 := ⟨k - 1, by omega⟩
    simp only [impl_ParseCode.l0]
    rw [if_neg (by omega), List.drop_of_length_le (show l.length ≤ i by omega), List.append_nil]
  | succ d ih =>
    intro i k acc hi hd hk ha
    obtain ⟨k, rfl⟩ : ∃ m, k = m + 1 := ⟨k - 1, by omega⟩
    have hlt : i < l.length := by omega
    have e : rdOf ByteArray.empty ((l.map insT).map mk) (i : Int) = mk (insT l[i]) := by
      rw [rdB (l.map insT) i (by rw [List.length_map]; exact hlt), List.getElem_map]
    simp only [impl_ParseCode.l0]
    rw [if_pos (by omega), if_pos (by omega), if_pos (by rw [List.length_map, List.length_map]; omega), e, impl_yes _ (hg _ (List.getElem_mem hlt)) k (by omega), Option.bind_some]
    simp only [if_true]
    rw [if_neg (by omega), if_pos (by omega), wrap_succ hlt (by omega), ih (i + 1) k _ (by omega) (by omega) (by omega) (by rw [List.length_append, List.length_singleton]; omega), List.drop_eq_getElem_cons hlt, List.append_assoc]
    rfl
theorem impl_parseCode_yes (l : List Ins) (h : goodCode l) (k : Nat) (hk : 400 ≤ k) : impl_ParseCode.f k (mk (codeW l)) = some (l, true) := by
  cases l with
  | nil =>
    unfold impl_ParseCode.f
    have e : codeW [] = [] := rfl
    rw [e, Option.bind_some, mk_toList, if_pos rfl]
  | cons x r =>
    have hne : codeW (x :: r) ≠ [] := join_ne _ _ _ (insT_ne (h.2 x List.mem_cons_self))
    have hl := codeW_len _ h
    have hlong := splitLong [59, 32] (by simp) (r.map insT) (insT x)
    have hno : ∀ w ∈ insT x :: r.map insT, (59 : UInt8) ∉ w := by
      intro w hw
      rw [← List.map_cons] at hw
      obtain ⟨y, hy, rfl⟩ := List.mem_map.1 hw
      exact insT_no (h.2 y hy) 59 rfl
    have h16 := h.1
    have h16' := h16
    rw [List.length_cons] at h16'
    have hsp : Go.Lib.splitK [59, 32] 0 (min 17 ((codeW (x :: r)).length + 1) - 1) (codeW (x :: r)) = (x :: r).map insT := by
      have e : codeW (x :: r) = Go.Lib.join (insT x :: r.map insT) [59, 32] := rfl
      rw [List.length_map] at hlong
      rw [e, List.map_cons]
      exact splitK_words 59 [32] (r.map insT) (insT x) _ hno (by rw [List.length_map]; omega)
    unfold impl_ParseCode.f
    have h17 := splitNF (codeW (x :: r)) [59, 32] 17 (by omega) (by simp) (by omega) (by omega)
    rw [show ((17 : Nat) : Int) = 17 from rfl] at h17
    have hs : (⟨#[59, 32]⟩ : ByteArray) = mk [59, 32] := rfl
    rw [Option.bind_some, mk_toList, if_neg hne, hs, h17, Option.bind_some, hsp, List.length_map, List.length_map]
    have := impl_code_yes (x :: r) h16 h.2 _ 0 k [] (by omega) rfl (by omega) rfl
    rw [List.drop_zero, List.nil_append] at this
    exact this
theorem insB_good {x : Ins} {c z : Int} (h : insB x.f0 x.f1 x.f2 x.f3 c z = true) : goodX x = true := by
  unfold insB at h
  simp only [Bool.and_eq_true, inB_true] at h
  obtain ⟨⟨⟨⟨⟨⟨⟨⟨h1, h2⟩, h3⟩, h4⟩, h5⟩, h6⟩, h7⟩, h8⟩, h9⟩ := h
  have hn : valB x.f3 = true := by
    unfold valB
    rw [inB_true]
    simp only [Bool.or_eq_true, beq_iff_eq] at h9
    simp only [Bool.or_eq_true, Bool.not_eq_true', beq_iff_eq] at h8
    rcases h9 with h9 | h9
    · rcases h8 with h8 | h8
      · simp only [Bool.or_eq_false_iff, beq_eq_false_iff_ne] at h8
        omega
      · omega
    · split at h9
      · have := inB_true.1 h9; omega
      · split at h9
        · have := inB_true.1 h9; omega
        · have := inB_true.1 h9; omega
  unfold goodX goodI usesSB usesNB
  rw [hn, inB_true.2 h3, show valB x.f1 = true from inB_true.2 (by omega), show valB x.f2 = true from inB_true.2 (by omega), h6]
  simp only [Bool.true_and, Bool.and_eq_true, Bool.and_true]
  exact ⟨h7, h8⟩
theorem codeB_good {c : Int} {q : List Ins} (h : codeB c q = true) : goodCode q := by
  unfold codeB at h
  rw [Bool.and_eq_true, List.all_eq_true] at h
  exact ⟨of_decide_eq_true h.1, fun x hx => insB_good (h.2 x hx)⟩
/-- The text of a good code, as the program gives it. -/
theorem codeText_good (l : List Ins) (h : goodCode l) (k : Nat) (hk : 30 ≤ k) : impl_CodeText.f k l = some (mk (codeW l), true) := by
  have h16 := h.1
  have hi : ∀ x ∈ l, InsI x := fun x hx => by
    obtain ⟨_, h1, h2, h3, _⟩ := goodI_of (h.2 x hx)
    have e1 := valB_range h1
    have e2 := valB_range h2
    have e3 := valB_range h3
    exact ⟨⟨by omega, by omega⟩, ⟨by omega, by omega⟩, ⟨by omega, by omega⟩⟩
  rw [impl_codeText l (by omega) hi k (by omega)]
  unfold codeTextW
  have ha : l.all insOk = true := by
    rw [List.all_eq_true]
    intro x hx
    exact inB_true.2 (goodI_of (h.2 x hx)).1
  rw [decide_eq_true h16, ha]
  rfl

end Go.Proofs.YtbgclnjnngolmaaDoor.Pure

/- Fences behind stores: the program's and the reference's WithFences, as one; it comes to rest, and behind each store stands a fence. No condition but that lengths are small. -/
namespace Go.Proofs.YtbgclnjnngolmaaDoor.Pure
open Go.RowKit Go.Proofs.YtbgclnjnngolmaaDoor.P Go.Proofs.YtbgclnjnngolmaaDoor.Gen Go.Proofs.YtbgclnjnngolmaaDoorW.PrintWords
set_option linter.unusedSimpArgs false
set_option linter.unusedVariables false

def fenceI : Ins := ⟨4, 0, 0, 0⟩
theorem eta_ (x : Ins) : (⟨x.f0, x.f1, x.f2, x.f3⟩ : Ins) = x := rfl
/-- Is the instruction at place j a store that no fence follows? -/
def bareB (l : List Ins) (j : Nat) : Bool := if (rd_T37 l (j : Int)).f0 = 3 then (if ((j + 1 : Nat) : Int) = (l.length : Int) then true else ((rd_T37 l ((j + 1 : Nat) : Int)).f0 != 4)) else false
theorem bare_eq (l : List Ins) (j : Nat) (h : j < l.length) (hl : l.length ≤ 16) : impl_isBareStore.f l (j : Int) = some (bareB l j) := by
  unfold impl_isBareStore.f bareB
  rw [if_pos (by omega), if_pos (by omega), wrap_succ h (by omega)]
  by_cases a : (rd_T37 l (j : Int)).f0 = 3
  · rw [if_pos a, if_pos a]
    by_cases b : ((j + 1 : Nat) : Int) = (l.length : Int)
    · rw [if_pos b, if_pos b]
    · rw [if_neg b, if_neg b, if_pos (by omega), if_pos (by omega)]
  · rw [if_neg a, if_neg a]
def stepW (l : List Ins) (s : List Ins × List Int) (j : Nat) : List Ins × List Int :=
  (if bareB l j = true then (s.1 ++ [rd_T37 l (j : Int)]) ++ [fenceI] else s.1 ++ [rd_T37 l (j : Int)], s.2 ++ [(s.1.length : Int)])
def runW (l : List Ins) : Nat → Nat → List Ins × List Int → List Ins × List Int
  | 0, _, s => s
  | d + 1, j, s => runW l d (j + 1) (stepW l s j)
theorem stepW_len1 (l : List Ins) (s : List Ins × List Int) (j : Nat) : (stepW l s j).1.length ≤ s.1.length + 2 := by
  unfold stepW
  split <;> simp
theorem stepW_len2 (l : List Ins) (s : List Ins × List Int) (j : Nat) : (stepW l s j).2.length = s.2.length + 1 := by
  unfold stepW
  simp
theorem runW_len (l : List Ins) : ∀ d j s, (runW l d j s).1.length ≤ s.1.length + 2 * d ∧ (runW l d j s).2.length = s.2.length + d := by
  intro d
  induction d with
  | zero => intro j s; exact ⟨Nat.le_refl _, rfl⟩
  | succ d ih =>
    intro j s
    have h := ih (j + 1) (stepW l s j)
    have h1 := stepW_len1 l s j
    have h2 := stepW_len2 l s j
    simp only [runW]
    omega
theorem runW_mem (l : List Ins) : ∀ d j s x, x ∈ (runW l d j s).1 ↔ (x ∈ s.1 ∨ (x = fenceI ∧ ∃ i, j ≤ i ∧ i < j + d ∧ bareB l i = true) ∨ ∃ i : Nat, j ≤ i ∧ i < j + d ∧ x = rd_T37 l (i : Int)) := by
  intro d
  induction d with
  | zero =>
    intro j s x
    simp only [runW]
    constructor
    · exact .inl
    · rintro (h | ⟨_, i, h1, h2, _⟩ | ⟨i, h1, h2, _⟩)
      · exact h
      · omega
      · omega
  | succ d ih =>
    intro j s x
    simp only [runW]
    rw [ih (j + 1) (stepW l s j) x]
    have hs : x ∈ (stepW l s j).1 ↔ x ∈ s.1 ∨ x = rd_T37 l (j : Int) ∨ (x = fenceI ∧ bareB l j = true) := by
      unfold stepW
      by_cases b : bareB l j = true
      · simp [b]
      · simp [b]
    rw [hs]
    constructor
    · rintro ((h | h | ⟨h, hb⟩) | ⟨h, i, h1, h2, h3⟩ | ⟨i, h1, h2, h3⟩)
      · exact .inl h
      · exact .inr (.inr ⟨j, Nat.le_refl _, by omega, h⟩)
      · exact .inr (.inl ⟨h, j, Nat.le_refl _, by omega, hb⟩)
      · exact .inr (.inl ⟨h, i, by omega, by omega, h3⟩)
      · exact .inr (.inr ⟨i, by omega, by omega, h3⟩)
    · rintro (h | ⟨h, i, h1, h2, h3⟩ | ⟨i, h1, h2, h3⟩)
      · exact .inl (.inl h)
      · by_cases e : i = j
        · subst e; exact .inl (.inr (.inr ⟨h, h3⟩))
        · exact .inr (.inl ⟨h, i, by omega, by omega, h3⟩)
      · by_cases e : i = j
        · subst e; exact .inl (.inr (.inl h3))
        · exact .inr (.inr ⟨i, by omega, by omega, h3⟩)
/-- A jump that leads out of a code of n instructions. -/
def badB (n : Nat) (x : Ins) : Bool := x.f0 == 6 && !(inB x.f3 0 (n : Int))
theorem run_any (l : List Ins) : (runW l l.length 0 ([], [])).1.any (badB l.length) = l.any (badB l.length) := by
  rw [Bool.eq_iff_iff, List.any_eq_true, List.any_eq_true]
  constructor
  · rintro ⟨x, hx, hb⟩
    rw [runW_mem] at hx
    rcases hx with h | ⟨h, _⟩ | ⟨i, _, h2, h3⟩
    · cases h
    · subst h
      cases hb
    · refine ⟨x, ?_, hb⟩
      rw [h3, rdIns l i (by omega)]
      exact List.getElem_mem _
  · rintro ⟨x, hx, hb⟩
    obtain ⟨i, hi, rfl⟩ := List.getElem_of_mem hx
    exact ⟨l[i], (runW_mem l _ _ _ _).2 (.inr (.inr ⟨i, Nat.zero_le _, by omega, (rdIns l i hi).symm⟩)), hb⟩
def fixI (p : List Int) (x : Ins) : Ins := if x.f0 = 6 then ⟨x.f0, x.f1, x.f2, rd p x.f3⟩ else x
def endV (n : Nat) (out : List Ins) (p : List Int) : List Ins × Bool :=
  if out.any (badB n) = true then ([], false) else if out.length > 16 then ([], false) else (out.map (fixI p), true)
theorem impl_fix (l out : List Ins) (p : List Int) (_hn : l.length ≤ 16) (ho : out.length ≤ 32) (hp : p.length = l.length + 1) (k : Nat) (hk : 40 ≤ k) : impl_fenced.l1 k l out p (out.length : Int) 0 = some (endV l.length out p) := by
  have key : ∀ d k (i : Nat), i ≤ out.length → out.length - i = d → d < k → impl_fenced.l1 k l ((out.take i).map (fixI p) ++ out.drop i) p (out.length : Int) (i : Int) = some (if (out.drop i).any (badB l.length) = true then ([], false) else if out.length > 16 then ([], false) else (out.map (fixI p), true)) := by
    intro d
    induction d with
    | zero =>
      intro k i hi hd hk
      obtain ⟨k, rfl⟩ : ∃ m, k = m + 1 := ⟨k - 1, by omega⟩
      obtain rfl : i = out.length := by omega
      simp only [impl_fenced.l1]
      rw [if_neg (by omega), List.drop_length, List.take_length, List.append_nil, List.length_map]
      by_cases c : out.length > 16
      · rw [if_pos (by omega), if_neg (by simp), if_pos c]
      · rw [if_neg (by omega), if_neg (by simp), if_neg c]
    | succ d ih =>
      intro k i hi hd hk
      obtain ⟨k, rfl⟩ : ∃ m, k = m + 1 := ⟨k - 1, by omega⟩
      have hlt : i < out.length := by omega
      have hlen : ((out.take i).map (fixI p)).length = i := by simp; omega
      have hl2 : (((out.take i).map (fixI p) ++ out[i] :: out.drop (i + 1)).length : Int) = (out.length : Int) := by simp; omega
      have hget : rd_T37 ((out.take i).map (fixI p) ++ out[i] :: out.drop (i + 1)) (i : Int) = out[i] := by
        have := get_mid ((out.take i).map (fixI p)) out[i] (out.drop (i + 1)) (by rw [hlen]; omega)
        rw [rdIns _ i (by omega)]
        simp only [hlen] at this
        exact this
      have hset : ∀ y, ((out.take i).map (fixI p) ++ out[i] :: out.drop (i + 1)).set i y = (out.take i).map (fixI p) ++ y :: out.drop (i + 1) := fun y => by
        have := set_mid ((out.take i).map (fixI p)) out[i] y (out.drop (i + 1))
        rw [hlen] at this
        exact this
      have hnext : ∀ y, y = fixI p out[i] → (out.take i).map (fixI p) ++ y :: out.drop (i + 1) = (out.take (i + 1)).map (fixI p) ++ out.drop (i + 1) := fun y hy => by
        rw [List.take_succ_eq_append_getElem hlt, List.map_append, hy, List.append_assoc]
        rfl
      rw [List.drop_eq_getElem_cons hlt]
      simp only [impl_fenced.l1, within, Option.bind_some]
      rw [hl2, hget, if_pos (by omega), if_pos (by omega), if_pos (by omega), Int.toNat_natCast, wrap_succ hlt (by omega), hset, List.any_cons]
      by_cases o6 : out[i].f0 = 6
      · rw [if_pos o6]
        by_cases b : inB out[i].f3 0 (l.length : Int) = true
        · have r := inB_true.1 b
          have hb : badB l.length out[i] = false := by unfold badB; rw [b]; simp
          rw [if_pos b, if_pos (by omega), if_pos (by omega), hnext _ (by unfold fixI; rw [if_pos o6]), ih k (i + 1) (by omega) (by omega) (by omega), hb, Bool.false_or]
        · have hb : badB l.length out[i] = true := by unfold badB; rw [Bool.not_eq_true] at b; rw [b]; simp [o6]
          rw [if_neg b, hb, Bool.true_or, if_pos rfl]
      · have hb : badB l.length out[i] = false := by unfold badB; simp [o6]
        rw [if_neg o6, hnext _ (by unfold fixI; rw [if_neg o6]), ih k (i + 1) (by omega) (by omega) (by omega), hb, Bool.false_or]
  have := key out.length k 0 (Nat.zero_le _) (by omega) (by omega)
  simpa [endV] using this
theorem impl_first (l : List Ins) (hn : l.length ≤ 16) : ∀ d k (j : Nat) (s : List Ins × List Int), j + d = l.length → s.1.length ≤ 2 * j → s.2.length = j → d + 41 < k →
    impl_fenced.l0 k l l s.1 s.2 (l.length : Int) (j : Int) = some (endV l.length (runW l d j s).1 ((runW l d j s).2 ++ [((runW l d j s).1.length : Int)])) := by
  intro d
  induction d with
  | zero =>
    intro k j s hj h1 h2 hk
    obtain ⟨k, rfl⟩ : ∃ m, k = m + 1 := ⟨k - 1, by omega⟩
    simp only [impl_fenced.l0, runW]
    rw [if_neg (by omega), if_pos (by omega), impl_fix l s.1 (s.2 ++ [(s.1.length : Int)]) hn (by omega) (by simp; omega) k (by omega)]
  | succ d ih =>
    intro k j s hj h1 h2 hk
    obtain ⟨k, rfl⟩ : ∃ m, k = m + 1 := ⟨k - 1, by omega⟩
    have hlt : j < l.length := by omega
    have hl1 := stepW_len1 l s j
    have hl2 := stepW_len2 l s j
    have := ih k (j + 1) (stepW l s j) (by omega) (by omega) (by omega) (by omega)
    simp only [impl_fenced.l0, runW, Option.bind_some, eta_]
    rw [if_pos (by omega), if_pos (by omega), if_pos (by omega), if_pos (by omega), if_pos (by omega), bare_eq l j hlt hn, Option.bind_some, wrap_succ hlt (by omega), ← this]
    by_cases b : bareB l j = true
    · have e : stepW l s j = ((s.1 ++ [rd_T37 l (j : Int)]) ++ [fenceI], s.2 ++ [(s.1.length : Int)]) := by unfold stepW; rw [if_pos b]
      rw [if_pos b, if_pos (by rw [List.length_append]; simp; omega), e]
      rfl
    · have e : stepW l s j = (s.1 ++ [rd_T37 l (j : Int)], s.2 ++ [(s.1.length : Int)]) := by unfold stepW; rw [if_neg b]
      rw [if_neg b, e]
def withV (l : List Ins) : List Ins × Bool :=
  if l.length > 16 then ([], false) else endV l.length (runW l l.length 0 ([], [])).1 ((runW l l.length 0 ([], [])).2 ++ [((runW l l.length 0 ([], [])).1.length : Int)])
theorem impl_with (l : List Ins) (k : Nat) (hk : 100 ≤ k) : impl_WithFences.f k l = some (withV l) := by
  unfold impl_WithFences.f withV
  by_cases h : l.length > 16
  · rw [if_pos (by omega), if_pos h]
  · rw [if_neg (by omega), if_neg h]
    unfold impl_fenced.f
    exact impl_first l (by omega) l.length k 0 ([], []) (by omega) (by simp) rfl (by omega)
theorem spec_fix (n : Nat) (out : List Ins) (p : List Int) (ho : out.length ≤ 32) (_hn : n ≤ 16) (hp : p.length = n + 1) (hb : ∀ x ∈ out, badB n x = false) (k : Nat) (hk : 40 ≤ k) : spec_WithFences.l1 k out p 0 = some (out.map (fixI p), true) := by
  have key : ∀ d k (i : Nat), i ≤ out.length → out.length - i = d → d < k → spec_WithFences.l1 k ((out.take i).map (fixI p) ++ out.drop i) p (i : Int) = some (out.map (fixI p), true) := by
    intro d
    induction d with
    | zero =>
      intro k i hi hd hk
      obtain ⟨k, rfl⟩ : ∃ m, k = m + 1 := ⟨k - 1, by omega⟩
      obtain rfl : i = out.length := by omega
      simp only [spec_WithFences.l1]
      rw [List.drop_length, List.take_length, List.append_nil, List.length_map, if_neg (by omega)]
    | succ d ih =>
      intro k i hi hd hk
      obtain ⟨k, rfl⟩ : ∃ m, k = m + 1 := ⟨k - 1, by omega⟩
      have hlt : i < out.length := by omega
      have hlen : ((out.take i).map (fixI p)).length = i := by simp; omega
      have hl2 : (((out.take i).map (fixI p) ++ out[i] :: out.drop (i + 1)).length : Int) = (out.length : Int) := by simp; omega
      have hget : rd_T37 ((out.take i).map (fixI p) ++ out[i] :: out.drop (i + 1)) (i : Int) = out[i] := by
        have := get_mid ((out.take i).map (fixI p)) out[i] (out.drop (i + 1)) (by rw [hlen]; omega)
        rw [rdIns _ i (by omega)]
        simp only [hlen] at this
        exact this
      have hset : ∀ y, ((out.take i).map (fixI p) ++ out[i] :: out.drop (i + 1)).set i y = (out.take i).map (fixI p) ++ y :: out.drop (i + 1) := fun y => by
        have := set_mid ((out.take i).map (fixI p)) out[i] y (out.drop (i + 1))
        rw [hlen] at this
        exact this
      have hnext : ∀ y, y = fixI p out[i] → (out.take i).map (fixI p) ++ y :: out.drop (i + 1) = (out.take (i + 1)).map (fixI p) ++ out.drop (i + 1) := fun y hy => by
        rw [List.take_succ_eq_append_getElem hlt, List.map_append, hy, List.append_assoc]
        rfl
      rw [List.drop_eq_getElem_cons hlt]
      simp only [spec_WithFences.l1]
      rw [hl2, hget, if_pos (by omega), if_pos (by omega), Int.toNat_natCast, wrap_succ hlt (by omega), hset]
      by_cases o6 : out[i].f0 = 6
      · have hx := hb out[i] (List.getElem_mem _)
        have b : inB out[i].f3 0 (n : Int) = true := by
          unfold badB at hx
          simpa [o6] using hx
        have r := inB_true.1 b
        rw [if_pos o6, if_pos (by omega), if_pos (by omega), hnext _ (by unfold fixI; rw [if_pos o6]), ih k (i + 1) (by omega) (by omega) (by omega)]
      · rw [if_neg o6, hnext _ (by unfold fixI; rw [if_neg o6]), ih k (i + 1) (by omega) (by omega) (by omega)]
  have := key out.length k 0 (Nat.zero_le _) (by omega) (by omega)
  simpa using this
theorem spec_first (l : List Ins) (hn : l.length ≤ 16) (R : Option (List Ins × Bool)) (hR : ∀ k, 40 ≤ k → l.any (badB l.length) = false → (if ((runW l l.length 0 ([], [])).1.length : Int) > 16 then some (([] : List Ins), false) else spec_WithFences.l1 k (runW l l.length 0 ([], [])).1 ((runW l l.length 0 ([], [])).2 ++ [((runW l l.length 0 ([], [])).1.length : Int)]) 0) = R) :
    ∀ d k (j : Nat) (s : List Ins × List Int), j + d = l.length → s.1.length ≤ 2 * j → s.2.length = j → (∀ x ∈ l.take j, badB l.length x = false) → runW l d j s = runW l l.length 0 ([], []) → 2 * d + 41 < k →
      spec_WithFences.l0 k l s.1 s.2 (j : Int) = if l.any (badB l.length) = true then some ([], false) else R := by
  intro d
  induction d with
  | zero =>
    intro k j s hj h1 h2 hb hr hk
    obtain ⟨k, rfl⟩ : ∃ m, k = m + 1 := ⟨k - 1, by omega⟩
    obtain rfl : j = l.length := by omega
    rw [List.take_length] at hb
    have hany : l.any (badB l.length) = false := by
      rw [List.any_eq_false]
      intro x hx
      rw [hb x hx]
      decide
    have hR' := hR k (by omega) hany
    rw [← hr] at hR'
    simp only [runW] at hR'
    simp only [spec_WithFences.l0]
    have e : (if l.any (badB l.length) = true then some (([] : List Ins), false) else R) = R := by rw [hany]; rfl
    rw [if_neg (by omega), if_pos (by omega), e]
    exact hR'
  | succ d ih =>
    intro k j s hj h1 h2 hb hr hk
    obtain ⟨k, rfl⟩ : ∃ m, k = m + 2 := ⟨k - 2, by omega⟩
    have hlt : j < l.length := by omega
    have hl1 := stepW_len1 l s j
    have hl2 := stepW_len2 l s j
    by_cases hbad : badB l.length l[j] = true
    · have hany : l.any (badB l.length) = true := List.any_eq_true.2 ⟨_, List.getElem_mem hlt, hbad⟩
      unfold badB at hbad
      simp only [Bool.and_eq_true, beq_iff_eq, Bool.not_eq_true'] at hbad
      simp only [spec_WithFences.l0, spec_WithFences.j1, l01In, Option.bind_some]
      rw [if_pos (by omega), if_pos (by omega), rdIns l j hlt, if_pos hbad.1, hbad.2, if_pos (by decide), hany, if_pos rfl]
    · rw [Bool.not_eq_true] at hbad
      have hj1 : (if l[j].f0 = 6 then spec_WithFences.j1 (k + 1) l s.1 s.2 (j : Int) (!(inB l[j].f3 0 (l.length : Int))) else spec_WithFences.j1 (k + 1) l s.1 s.2 (j : Int) false) = spec_WithFences.j1 (k + 1) l s.1 s.2 (j : Int) false := by
        by_cases o6 : l[j].f0 = 6
        · have b : inB l[j].f3 0 (l.length : Int) = true := by
            unfold badB at hbad
            simpa [o6] using hbad
          rw [if_pos o6, b]
          rfl
        · rw [if_neg o6]
      have := ih k (j + 1) (stepW l s j) (by omega) (by omega) (by omega) (fun x hx => by
        rw [List.take_succ_eq_append_getElem hlt, List.mem_append, List.mem_singleton] at hx
        rcases hx with hx | rfl
        · exact hb x hx
        · exact hbad) hr (by omega)
      rw [← this]
      simp only [spec_WithFences.l0, l01In, Option.bind_some]
      rw [if_pos (by omega), if_pos (by omega), rdIns l j hlt, hj1]
      simp only [spec_WithFences.j1, Option.bind_some, eta_]
      rw [if_neg (by decide), if_pos (by omega), if_pos (by omega), if_pos (by omega), if_pos (by omega), wrap_succ hlt (by omega)]
      have hrd := rdIns l j hlt
      have hw : s.1.length + 1 < 4398046511104 := by omega
      by_cases a : l[j].f0 = 3
      · rw [hrd, if_pos a]
        by_cases b : ((j + 1 : Nat) : Int) = (l.length : Int)
        · have hbb : bareB l j = true := by unfold bareB; rw [hrd, if_pos a, if_pos b]
          have e : stepW l s j = ((s.1 ++ [l[j]]) ++ [fenceI], s.2 ++ [(s.1.length : Int)]) := by unfold stepW; rw [if_pos hbb, hrd]
          rw [if_pos b, if_pos (by simpa using hw), e]
          rfl
        · rw [if_neg b, if_pos (by omega), if_pos (by omega)]
          by_cases c : (rd_T37 l ((j + 1 : Nat) : Int)).f0 = 4
          · have hbb : bareB l j = false := by unfold bareB; rw [hrd, if_pos a, if_neg b, c]; rfl
            have e : stepW l s j = (s.1 ++ [l[j]], s.2 ++ [(s.1.length : Int)]) := by unfold stepW; rw [hbb, if_neg (by decide), hrd]
            rw [if_pos c, e]
          · have hbb : bareB l j = true := by unfold bareB; rw [hrd, if_pos a, if_neg b]; simpa using c
            have e : stepW l s j = ((s.1 ++ [l[j]]) ++ [fenceI], s.2 ++ [(s.1.length : Int)]) := by unfold stepW; rw [if_pos hbb, hrd]
            rw [if_neg c, if_pos (by simpa using hw), e]
            rfl
      · have hbb : bareB l j = false := by unfold bareB; rw [hrd, if_neg a]
        have e : stepW l s j = (s.1 ++ [l[j]], s.2 ++ [(s.1.length : Int)]) := by unfold stepW; rw [hbb, if_neg (by decide), hrd]
        rw [hrd, if_neg a, e]
theorem spec_with (l : List Ins) (k : Nat) (hk : 200 ≤ k) : spec_WithFences.f k l = some (withV l) := by
  unfold spec_WithFences.f withV
  by_cases h : l.length > 16
  · rw [if_pos (by omega), if_pos h]
  · rw [if_neg (by omega), if_neg h]
    have hlen := runW_len l l.length 0 ([], [])
    simp only [List.length_nil, Nat.zero_add] at hlen
    have := spec_first l (by omega) (some (if (runW l l.length 0 ([], [])).1.length > 16 then (([] : List Ins), false) else ((runW l l.length 0 ([], [])).1.map (fixI ((runW l l.length 0 ([], [])).2 ++ [((runW l l.length 0 ([], [])).1.length : Int)])), true))) (fun k hk hany => by
      by_cases c : (runW l l.length 0 ([], [])).1.length > 16
      · rw [if_pos (by omega), if_pos c]
      · rw [if_neg (by omega), if_neg c, spec_fix l.length _ _ (by omega) (by omega) (by simp; omega) (fun x hx => by
          have ha := run_any l
          rw [hany, List.any_eq_false] at ha
          simpa using ha x hx) k hk]) l.length k 0 ([], []) (by omega) (by simp) rfl (by simp) rfl (by omega)
    have h0 : spec_WithFences.l0 k l [] [] 0 = _ := this
    rw [h0]
    unfold endV
    rw [run_any]
    by_cases c : l.any (badB l.length) = true
    · rw [if_pos c, if_pos c]
    · rw [if_neg c, if_neg c]
theorem withV_len (l : List Ins) : (withV l).1.length ≤ 32 := by
  unfold withV
  by_cases h : l.length > 16
  · rw [if_pos h]; simp
  · rw [if_neg h]
    unfold endV
    split
    · simp
    · split
      · simp
      · simp only [List.length_map]
        omega

/-- What WithFences puts together, told along the list. -/
def outR : List Ins → List Ins
  | [] => []
  | x :: r => if x.f0 = 3 ∧ (∀ y, r.head? = some y → y.f0 ≠ 4) then x :: fenceI :: outR r else x :: outR r
theorem bareB_at (l : List Ins) (j : Nat) (h : j < l.length) (hl : l.length ≤ 1000) : bareB l j = true ↔ (l[j].f0 = 3 ∧ ∀ y, (l.drop (j + 1)).head? = some y → y.f0 ≠ 4) := by
  unfold bareB
  rw [rdIns l j h]
  by_cases a : l[j].f0 = 3
  · rw [if_pos a]
    by_cases b : ((j + 1 : Nat) : Int) = (l.length : Int)
    · rw [if_pos b, List.drop_of_length_le (by omega)]
      simp [a]
    · have h1 : j + 1 < l.length := by omega
      rw [if_neg b, rdIns l (j + 1) h1, List.drop_eq_getElem_cons h1]
      constructor
      · intro h
        refine ⟨a, fun y hy => ?_⟩
        rw [← Option.some.inj hy]
        simpa using h
      · intro h
        simpa using h.2 _ rfl
  · rw [if_neg a]
    simp [a]
theorem runW_out (l : List Ins) (hl : l.length ≤ 1000) : ∀ d j s, j + d = l.length → (runW l d j s).1 = s.1 ++ outR (l.drop j) := by
  intro d
  induction d with
  | zero =>
    intro j s hj
    rw [List.drop_of_length_le (by omega)]
    simp [runW, outR]
  | succ d ih =>
    intro j s hj
    have hlt : j < l.length := by omega
    simp only [runW]
    have e : outR (l[j] :: l.drop (j + 1)) = if l[j].f0 = 3 ∧ (∀ y, (l.drop (j + 1)).head? = some y → y.f0 ≠ 4) then l[j] :: fenceI :: outR (l.drop (j + 1)) else l[j] :: outR (l.drop (j + 1)) := by
      rw [outR]
    rw [ih (j + 1) _ (by omega), List.drop_eq_getElem_cons hlt, e]
    unfold stepW
    rw [rdIns l j hlt]
    by_cases b : bareB l j = true
    · rw [if_pos b, if_pos ((bareB_at l j hlt hl).1 b)]
      simp
    · rw [if_neg b, if_neg (fun h => b ((bareB_at l j hlt hl).2 h))]
      simp
/-- Behind every store stands a fence. -/
def folB : List Ins → Bool
  | [] => true
  | x :: r => (x.f0 != 3 || (match r with | [] => false | y :: _ => y.f0 == 4)) && folB r
theorem outR_head : ∀ (r : List Ins), (outR r).head? = r.head?
  | [] => rfl
  | x :: r => by
    unfold outR
    split <;> rfl
theorem folB_cons (x : Ins) (r : List Ins) : folB (x :: r) = true ↔ (x.f0 = 3 → ∃ y, r.head? = some y ∧ y.f0 = 4) ∧ folB r = true := by
  cases r with
  | nil => simp [folB]
  | cons y r =>
    have e : folB (x :: y :: r) = ((x.f0 != 3 || y.f0 == 4) && folB (y :: r)) := rfl
    rw [e, Bool.and_eq_true, Bool.or_eq_true, bne_iff_ne, beq_iff_eq]
    constructor
    · rintro ⟨h1, h2⟩
      refine ⟨fun h3 => ⟨y, rfl, ?_⟩, h2⟩
      rcases h1 with h1 | h1
      · exact absurd h3 h1
      · exact h1
    · rintro ⟨h1, h2⟩
      refine ⟨?_, h2⟩
      by_cases h3 : x.f0 = 3
      · obtain ⟨z, hz, h4⟩ := h1 h3
        obtain rfl := Option.some.inj hz
        exact .inr h4
      · exact .inl h3
theorem folB_out : ∀ r : List Ins, folB (outR r) = true
  | [] => rfl
  | x :: r => by
    have ih := folB_out r
    unfold outR
    split
    · rw [folB_cons, folB_cons]
      exact ⟨fun _ => ⟨fenceI, rfl, rfl⟩, fun h => absurd h (by decide), ih⟩
    · next h =>
      rw [folB_cons]
      refine ⟨fun h3 => ?_, ih⟩
      rw [outR_head]
      apply Classical.byContradiction
      intro hc
      exact h ⟨h3, fun y hy h4 => hc ⟨y, hy, h4⟩⟩
theorem fixI_f0 (p : List Int) (x : Ins) : (fixI p x).f0 = x.f0 := by
  unfold fixI
  split <;> rfl
theorem folB_fix (p : List Int) : ∀ r : List Ins, folB r = true → folB (r.map (fixI p)) = true
  | [], _ => rfl
  | x :: r, h => by
    rw [folB_cons] at h
    rw [List.map_cons, folB_cons]
    refine ⟨fun h3 => ?_, folB_fix p r h.2⟩
    rw [fixI_f0] at h3
    obtain ⟨y, hy, h4⟩ := h.1 h3
    exact ⟨fixI p y, by rw [List.head?_map, hy]; rfl, by rw [fixI_f0]; exact h4⟩
theorem folB_at : ∀ (l : List Ins), folB l = true → ∀ j (h : j < l.length), l[j].f0 = 3 → ∃ h' : j + 1 < l.length, l[j + 1].f0 = 4
  | [], _, j, h, _ => absurd h (by simp)
  | x :: r, hf, 0, h, h3 => by
    obtain ⟨y, hy, h4⟩ := ((folB_cons x r).1 hf).1 h3
    cases r with
    | nil => cases hy
    | cons z r =>
      obtain rfl : z = y := Option.some.inj hy
      exact ⟨by simp, h4⟩
  | x :: r, hf, j + 1, h, h3 => by
    obtain ⟨h', h4⟩ := folB_at r ((folB_cons x r).1 hf).2 j (by simpa using h) h3
    exact ⟨by simpa using h', h4⟩
theorem folB_bare (l : List Ins) (hl : l.length ≤ 1000) (h : folB l = true) (j : Nat) (hj : j < l.length) : bareB l j = false := by
  rw [← Bool.not_eq_true]
  intro b
  obtain ⟨h3, hn⟩ := (bareB_at l j hj hl).1 b
  obtain ⟨h', h4⟩ := folB_at l h j hj h3
  rw [List.drop_eq_getElem_cons h'] at hn
  exact hn _ rfl h4
theorem runW_rest (l : List Ins) (hl : l.length ≤ 1000) (h : folB l = true) : ∀ d j s, j + d = l.length → s.1.length = j → runW l d j s = (s.1 ++ l.drop j, s.2 ++ (List.range' j d).map Int.ofNat) := by
  intro d
  induction d with
  | zero =>
    intro j s hj _
    rw [List.drop_of_length_le (by omega)]
    simp [runW]
  | succ d ih =>
    intro j s hj hs
    have hlt : j < l.length := by omega
    have e : stepW l s j = (s.1 ++ [l[j]], s.2 ++ [(s.1.length : Int)]) := by
      unfold stepW
      rw [folB_bare l hl h j hlt, if_neg (by decide), rdIns l j hlt]
    simp only [runW]
    rw [e, ih (j + 1) _ (by omega) (by simp [hs]), List.drop_eq_getElem_cons hlt, hs]
    simp [List.range'_succ]
theorem rd_range (n t : Nat) (h : t ≤ n) : rd ((List.range' 0 n).map Int.ofNat ++ [(n : Int)]) (t : Int) = (t : Int) := by
  rw [rd_nat _ t (by simp; omega)]
  by_cases e : t < n
  · rw [List.getElem_append_left (by simp; exact e)]
    simp
  · obtain rfl : t = n := by omega
    rw [List.getElem_append_right (by simp)]
    simp
/-- WithFences again gives the same. -/
theorem withV_again (l : List Ins) (h : (withV l).2 = true) : withV (withV l).1 = ((withV l).1, true) ∧ folB (withV l).1 = true ∧ (withV l).1.length ≤ 16 := by
  unfold withV at h
  by_cases h16 : l.length > 16
  · rw [if_pos h16] at h
    cases h
  rw [if_neg h16] at h
  have hout := runW_out l (by omega) l.length 0 ([], []) (by omega)
  rw [List.nil_append, List.drop_zero] at hout
  have hlen := runW_len l l.length 0 ([], [])
  have hpos : ∀ (j : Nat), True := fun _ => trivial
  have e : withV l = ((outR l).map (fixI ((runW l l.length 0 ([], [])).2 ++ [((runW l l.length 0 ([], [])).1.length : Int)])), true) ∧ (outR l).length ≤ 16 ∧ (outR l).any (badB l.length) = false := by
    unfold withV
    rw [if_neg h16]
    unfold endV at h ⊢
    rw [hout] at h ⊢
    by_cases c1 : (outR l).any (badB l.length) = true
    · rw [if_pos c1] at h
      cases h
    · rw [if_neg c1] at h ⊢
      by_cases c2 : (outR l).length > 16
      · rw [if_pos c2] at h
        cases h
      · rw [if_neg c2]
        exact ⟨rfl, by omega, by simpa using c1⟩
  obtain ⟨e, h16', hbad⟩ := e
  rw [e]
  have hP : ∀ x ∈ (runW l l.length 0 ([], [])).2 ++ [((runW l l.length 0 ([], [])).1.length : Int)], 0 ≤ x ∧ x ≤ ((outR l).length : Int) := by
    have key : ∀ d j (s : List Ins × List Int), (∀ x ∈ s.2, 0 ≤ x ∧ x ≤ (s.1.length : Int)) → ∀ x ∈ (runW l d j s).2, 0 ≤ x ∧ x ≤ ((runW l d j s).1.length : Int) := by
      intro d
      induction d with
      | zero => intro j s hs; exact hs
      | succ d ih =>
        intro j s hs
        refine ih (j + 1) (stepW l s j) (fun x hx => ?_)
        have h1 : s.1.length ≤ (stepW l s j).1.length := by unfold stepW; split <;> simp
        unfold stepW at hx
        simp only [List.mem_append, List.mem_singleton] at hx
        rcases hx with hx | rfl
        · have := hs x hx; omega
        · omega
    intro x hx
    rw [← hout]
    rcases List.mem_append.1 hx with hx | hx
    · exact key l.length 0 ([], []) (fun x hx => by cases hx) x hx
    · rw [List.mem_singleton.1 hx]; omega
  have hpl : ((runW l l.length 0 ([], [])).2 ++ [((runW l l.length 0 ([], [])).1.length : Int)]).length = l.length + 1 := by
    simp only [List.length_append, List.length_singleton, List.length_nil] at hlen ⊢
    omega
  generalize (runW l l.length 0 ([], [])).2 ++ [((runW l l.length 0 ([], [])).1.length : Int)] = p at hP hpl
  have hfol : folB ((outR l).map (fixI p)) = true := folB_fix p _ (folB_out l)
  refine ⟨?_, hfol, by simpa using h16'⟩
  have hlm : ((outR l).map (fixI p)).length = (outR l).length := List.length_map _
  have hjump : ∀ x ∈ (outR l).map (fixI p), x.f0 = 6 → 0 ≤ x.f3 ∧ x.f3 ≤ ((outR l).length : Int) := by
    intro x hx h6
    obtain ⟨y, hy, rfl⟩ := List.mem_map.1 hx
    rw [fixI_f0] at h6
    rw [List.any_eq_false] at hbad
    have hb := hbad y hy
    unfold badB at hb
    simp only [h6, beq_self_eq_true, Bool.true_and, Bool.not_eq_true', Bool.not_eq_false] at hb
    have r := inB_true.1 hb
    unfold fixI
    rw [if_pos h6]
    simp only
    obtain ⟨t, ht⟩ := Int.eq_ofNat_of_zero_le r.1
    have htl : t < p.length := by omega
    rw [ht, rd_nat p t htl]
    exact hP _ (List.getElem_mem htl)
  generalize (outR l).map (fixI p) = q at hfol hlm hjump ⊢
  have hq : q.length ≤ 16 := by omega
  show withV q = (q, true)
  unfold withV
  rw [if_neg (by omega), runW_rest q (by omega) hfol q.length 0 ([], []) (by omega) rfl]
  unfold endV
  simp only [List.nil_append, List.drop_zero]
  have hb2 : q.any (badB q.length) = false := by
    rw [List.any_eq_false]
    intro x hx hb
    unfold badB at hb
    simp only [Bool.and_eq_true, beq_iff_eq, Bool.not_eq_true'] at hb
    have := hjump x hx hb.1
    rw [inB_false] at hb
    exact hb.2 (by omega)
  rw [hb2, if_neg (by decide), if_neg (by omega)]
  refine congrArg (·, true) ?_
  conv => rhs; rw [← List.map_id q]
  refine List.map_congr_left fun x hx => ?_
  unfold fixI
  by_cases h6 : x.f0 = 6
  · rw [if_pos h6]
    have := hjump x hx h6
    obtain ⟨t, ht⟩ := Int.eq_ofNat_of_zero_le this.1
    rw [ht, rd_range q.length t (by omega), ← ht]
    rfl
  · rw [if_neg h6]
    rfl

end Go.Proofs.YtbgclnjnngolmaaDoor.Pure

/- The draws of memories: from every seed the reference's drawer comes to an end, with a memory. No condition but that lengths are lengths. -/
namespace Go.Proofs.YtbgclnjnngolmaaDoor.Pure
open Go.RowKit Go.Proofs.YtbgclnjnngolmaaDoor.P Go.Proofs.YtbgclnjnngolmaaDoor.Gen Go.Proofs.YtbgclnjnngolmaaDoorW.PrintWords

theorem and_255 (x : Int) : 0 ≤ Go.bits .and .i64 x 255 ∧ Go.bits .and .i64 x 255 ≤ 255 := by
  have h : (BitVec.ofInt 64 x &&& BitVec.ofInt 64 255).toNat < 2 ^ 8 := by
    rw [BitVec.toNat_and]
    exact Nat.and_lt_two_pow _ (by decide)
  have e : Go.bits .and .i64 x 255 = IntKind.i64.wrap ((BitVec.ofInt 64 x &&& BitVec.ofInt 64 255).toNat : Int) := rfl
  rw [e, IntKind.wrap_i64]
  omega
theorem byte_ok (l : List Int) (p s : Int) (hl : Len l) (h0 : 0 ≤ p) : ∃ b p' s', spec_l01Byte.f l p s = some (b, p', s') ∧ 0 ≤ b ∧ b ≤ 255 ∧ 0 ≤ p' := by
  unfold spec_l01Byte.f
  unfold Len at hl
  by_cases h : p < (l.length : Int)
  · rw [if_pos h, if_pos h0]
    have hw : wrap64 (p + 1) = p + 1 := wrap_id (by omega) (by omega)
    have := and_255 (wrap64 ((Go.bits .and .i64 (Go.bits .xor .i64 ((wrap64 ((wrap64 (s * 6364136223846793005)) + 1442695040888963407)) / 8589934592) ((wrap64 ((wrap64 (s * 6364136223846793005)) + 1442695040888963407)) / 35184372088832)) 255) + (wrap64 (rd l p))))
    exact ⟨_, _, _, rfl, this.1, this.2, by omega⟩
  · rw [if_neg h]
    have := and_255 (Go.bits .xor .i64 ((wrap64 ((wrap64 (s * 6364136223846793005)) + 1442695040888963407)) / 8589934592) ((wrap64 ((wrap64 (s * 6364136223846793005)) + 1442695040888963407)) / 35184372088832))
    exact ⟨_, _, _, rfl, this.1, this.2, h0⟩
theorem below_ok (l : List Int) (p s a : Int) (hl : Len l) (h0 : 0 ≤ p) : ∃ x p' s', spec_l01Below.f l p s a = some (x, p', s') ∧ 0 ≤ x ∧ (0 < a → x < a) ∧ 0 ≤ p' := by
  unfold spec_l01Below.f
  by_cases ha : a ≤ 0
  · rw [if_pos ha]
    exact ⟨_, _, _, rfl, by omega, by omega, h0⟩
  · rw [if_neg ha]
    by_cases h2 : a ≤ 256
    · rw [if_pos h2]
      obtain ⟨b, p', s', e, b0, b1, hp⟩ := byte_ok l p s hl h0
      rw [e, Option.bind_some, if_neg (by omega)]
      exact ⟨_, _, _, rfl, Int.tmod_nonneg _ b0, fun h => Int.tmod_lt_of_pos _ h, hp⟩
    · rw [if_neg h2]
      obtain ⟨b1, p1, s1, e1, l1, u1, hp1⟩ := byte_ok l p s hl h0
      obtain ⟨b2, p2, s2, e2, l2, u2, hp2⟩ := byte_ok l p1 s1 hl hp1
      obtain ⟨b3, p3, s3, e3, l3, u3, hp3⟩ := byte_ok l p2 s2 hl hp2
      rw [e1, Option.bind_some, e2, Option.bind_some, e3, Option.bind_some, if_neg (by omega)]
      refine ⟨_, _, _, rfl, Int.tmod_nonneg _ ?_, fun h => Int.tmod_lt_of_pos _ h, hp3⟩
      simp only
      rw [wrap_id (x := b1 * 65536) (by omega) (by omega), wrap_id (x := b2 * 256) (by omega) (by omega), wrap_id (x := b1 * 65536 + b2 * 256) (by omega) (by omega), wrap_id (by omega) (by omega)]
      omega
theorem once_ok (l : List Int) (p s a : Int) (hl : Len l) (h0 : 0 ≤ p) : ∃ b p' s', spec_l01Once.f l p s a = some (b, p', s') ∧ 0 ≤ p' := by
  unfold spec_l01Once.f
  obtain ⟨x, p', s', e, _, _, hp⟩ := below_ok l p s a hl h0
  rw [e]
  exact ⟨_, _, _, rfl, hp⟩
theorem pick_ok (l : List Int) (p s : Int) (m : List Int) (hl : Len l) (h0 : 0 ≤ p) (hm : 1 ≤ m.length) : ∃ x p' s', spec_l01PickInt.f l p s m = some (x, p', s') ∧ x ∈ m ∧ 0 ≤ p' := by
  unfold spec_l01PickInt.f
  obtain ⟨x, p', s', e, h1, h2, hp⟩ := below_ok l p s m.length hl h0
  have h3 := h2 (by omega)
  obtain ⟨n, rfl⟩ := Int.eq_ofNat_of_zero_le h1
  have hn : n < m.length := by have : (n : Int) < m.length := h3; omega
  rw [e, Option.bind_some, if_pos h1, if_pos h3]
  exact ⟨_, _, _, rfl, by show rd m ((n : Nat) : Int) ∈ m; rw [rd_nat m n hn]; exact List.getElem_mem hn, hp⟩
theorem new_loop (l : List Int) (hl : Len l) : ∀ d (j : Nat) (s : Int) k, j ≤ 4000 → 4000 - j = d → d < k → ∃ s', spec_l01New.l0 k l s (j : Int) = some (l, 0, s') := by
  unfold Len at hl
  intro d
  induction d with
  | zero =>
    intro j s k hj hd hk
    obtain ⟨k, rfl⟩ : ∃ m, k = m + 1 := ⟨k - 1, by omega⟩
    simp only [spec_l01New.l0]
    by_cases h : (j : Int) < (l.length : Int)
    · rw [if_pos h, if_neg (by omega)]
      exact ⟨_, rfl⟩
    · rw [if_neg h]
      exact ⟨_, rfl⟩
  | succ d ih =>
    intro j s k hj hd hk
    obtain ⟨k, rfl⟩ : ∃ m, k = m + 1 := ⟨k - 1, by omega⟩
    simp only [spec_l01New.l0]
    by_cases h : (j : Int) < (l.length : Int)
    · rw [if_pos h, if_pos (by omega), if_pos (by omega), wrap_succ (n := l.length) (by omega) hl]
      exact ih (j + 1) _ k (by omega) (by omega) (by omega)
    · rw [if_neg h]
      exact ⟨_, rfl⟩
theorem new_ok (l : List Int) (hl : Len l) (k : Nat) (hk : 4000 < k) : ∃ s', spec_l01New.f k l = some (l, 0, s') := by
  unfold spec_l01New.f
  exact new_loop l hl 4000 0 _ k (by omega) (by omega) (by omega)

end Go.Proofs.YtbgclnjnngolmaaDoor.Pure

/- The draws of programs: from every seed the reference's drawer comes to an end, with few codes of few instructions. No condition but that lengths are lengths. -/
namespace Go.Proofs.YtbgclnjnngolmaaDoor.Pure
open Go.RowKit Go.Proofs.YtbgclnjnngolmaaDoor.P Go.Proofs.YtbgclnjnngolmaaDoor.Gen Go.Proofs.YtbgclnjnngolmaaDoorW.PrintWords
set_option linter.unusedSimpArgs false
set_option linter.unusedVariables false

theorem named2 (op f : Int) (h0 : 0 ≤ op) (h8 : op ≤ 8) (hf : f = 114 ∨ f = 115) (k : Nat) (hk : 5 ≤ k) : ∃ b, spec_l02Named.f k op f = some b :=
  ⟨_, named op f h0 h8 (by omega) k hk⟩
theorem drawJ2 (l : List Int) (hl : Len l) (p s c n o x1 x2 x3 x4 : Int) (b : Bool) (h0 : 0 ≤ p) (k : Nat) (hk : 1 ≤ k) : ∃ a b' d e p' s', spec_l02DrawInstr.j2 k c n o b l p s x1 x2 x3 x4 = some (a, b', d, e, p', s') ∧ 0 ≤ p' := by
  obtain ⟨k, rfl⟩ : ∃ m, k = m + 1 := ⟨k - 1, by omega⟩
  simp only [spec_l02DrawInstr.j2]
  split
  · obtain ⟨x, p1, s1, e1, _, _, hp1⟩ := below_ok l p s c hl h0
    rw [e1, Option.bind_some]
    exact ⟨_, _, _, _, _, _, rfl, hp1⟩
  · split
    · obtain ⟨x, p1, s1, e1, _, _, hp1⟩ := below_ok l p s (wrap64 (n + 1)) hl h0
      rw [e1, Option.bind_some]
      exact ⟨_, _, _, _, _, _, rfl, hp1⟩
    · exact ⟨_, _, _, _, _, _, rfl, h0⟩
theorem drawJ1 (l : List Int) (hl : Len l) (p s c n x1 x2 x3 x4 : Int) (h0 : 0 ≤ p) (k : Nat) (hk : 2 ≤ k) : ∃ a b' d e p' s', spec_l02DrawInstr.j1 k c n l p s x1 x2 x3 x4 = some (a, b', d, e, p', s') ∧ 0 ≤ p' := by
  obtain ⟨k, rfl⟩ : ∃ m, k = m + 1 := ⟨k - 1, by omega⟩
  simp only [spec_l02DrawInstr.j1]
  split
  · obtain ⟨z, p1, s1, e1, _, hp1⟩ := pick_ok l p s [0, 1, 1, 2, 5, -1, 1000] hl h0 (by simp)
    rw [e1, Option.bind_some]
    exact ⟨_, _, _, _, _, _, rfl, hp1⟩
  · split
    · exact drawJ2 l hl p s c n x1 x1 x2 x3 x4 _ h0 k (by omega)
    · split
      · exact drawJ2 l hl p s c n x1 x1 x2 x3 x4 _ h0 k (by omega)
      · split
        · exact drawJ2 l hl p s c n x1 x1 x2 x3 x4 _ h0 k (by omega)
        · exact drawJ2 l hl p s c n x1 x1 x2 x3 x4 _ h0 k (by omega)
theorem drawJ0 (l : List Int) (hl : Len l) (p s c n x1 x2 x3 x4 : Int) (h8 : 0 ≤ x1 ∧ x1 ≤ 8) (h0 : 0 ≤ p) (k : Nat) (hk : 10 ≤ k) : ∃ a b' d e p' s', spec_l02DrawInstr.j0 k c n l p s x1 x2 x3 x4 = some (a, b', d, e, p', s') ∧ 0 ≤ p' := by
  obtain ⟨k, rfl⟩ : ∃ m, k = m + 1 := ⟨k - 1, by omega⟩
  simp only [spec_l02DrawInstr.j0]
  obtain ⟨b, hb⟩ := named2 x1 115 h8.1 h8.2 (.inr rfl) k (by omega)
  rw [hb, Option.bind_some]
  split
  · obtain ⟨x, p1, s1, e1, _, _, hp1⟩ := below_ok l p s 3 hl h0
    rw [e1, Option.bind_some]
    exact drawJ1 l hl p1 s1 c n x1 x2 x x4 hp1 k (by omega)
  · exact drawJ1 l hl p s c n x1 x2 x3 x4 h0 k (by omega)
theorem drawInstr_ok (l : List Int) (p s c n : Int) (hl : Len l) (h0 : 0 ≤ p) (k : Nat) (hk : 20 ≤ k) : ∃ a b d e p' s', spec_l02DrawInstr.f k l p s c n = some (a, b, d, e, p', s') ∧ 0 ≤ p' := by
  unfold spec_l02DrawInstr.f
  obtain ⟨o, p1, s1, e1, ho, hp1⟩ := pick_ok l p s [0, 0, 1, 2, 2, 2, 3, 3, 3, 3, 4, 5, 6, 7, 8] hl h0 (by simp)
  have h8 : 0 ≤ o ∧ o ≤ 8 := by
    simp only [List.mem_cons, List.not_mem_nil, or_false] at ho
    omega
  rw [e1, Option.bind_some]
  simp only
  obtain ⟨b, hb⟩ := named2 o 114 h8.1 h8.2 (.inl rfl) k (by omega)
  rw [hb, Option.bind_some]
  split
  · obtain ⟨x, p2, s2, e2, _, _, hp2⟩ := below_ok l p1 s1 3 hl hp1
    rw [e2, Option.bind_some]
    exact drawJ0 l hl p2 s2 c n o x 0 0 h8 hp2 k (by omega)
  · exact drawJ0 l hl p1 s1 c n o 0 0 0 h8 hp1 k (by omega)
theorem bendInstr_ok (l : List Int) (p s a b c d : Int) (hl : Len l) (h0 : 0 ≤ p) : ∃ a' b' c' d' p' s', spec_l02BendInstr.f l p s a b c d = some (a', b', c', d', p', s') ∧ 0 ≤ p' := by
  unfold spec_l02BendInstr.f
  obtain ⟨x, p1, s1, e1, l1, u1, hp1⟩ := below_ok l p s 4 hl h0
  rw [e1, Option.bind_some]
  simp only
  split
  · obtain ⟨y, p2, s2, e2, _, _, hp2⟩ := below_ok l p1 s1 9 hl hp1
    rw [e2, Option.bind_some]
    simp only
    obtain ⟨z, p3, s3, e3, _, hp3⟩ := pick_ok l p2 s2 [-1, 9, y] hl hp2 (by simp)
    rw [e3, Option.bind_some]
    exact ⟨_, _, _, _, _, _, rfl, hp3⟩
  · split
    · obtain ⟨z, p3, s3, e3, _, hp3⟩ := pick_ok l p1 s1 [-1, 3, 4] hl hp1 (by simp)
      rw [e3, Option.bind_some]
      exact ⟨_, _, _, _, _, _, rfl, hp3⟩
    · split
      · obtain ⟨z, p3, s3, e3, _, hp3⟩ := pick_ok l p1 s1 [-1, 3, 4, 1] hl hp1 (by simp)
        rw [e3, Option.bind_some]
        exact ⟨_, _, _, _, _, _, rfl, hp3⟩
      · split
        · obtain ⟨z, p3, s3, e3, _, hp3⟩ := pick_ok l p1 s1 [-1, 15, 16, 17, 1000, 1001, -1000, -1001] hl hp1 (by simp)
          rw [e3, Option.bind_some]
          exact ⟨_, _, _, _, _, _, rfl, hp3⟩
        · exact ⟨_, _, _, _, _, _, rfl, hp1⟩
theorem drawCode_ok (l : List Int) (hl : Len l) (c : Int) (n : Int) (hn : n ≤ 20) : ∀ d k (j : Nat) (acc : List Ins) (p s : Int), acc.length = j → (n - j).toNat = d → 30 + d < k → 0 ≤ p →
    ∃ q p' s', spec_l02DrawCode.l0 k c n acc (j : Int) l p s = some (q, p', s') ∧ 0 ≤ p' ∧ (q.length : Int) = max n j := by
  intro d
  induction d with
  | zero =>
    intro k j acc p s ha hd hk h0
    obtain ⟨k, rfl⟩ : ∃ m, k = m + 1 := ⟨k - 1, by omega⟩
    simp only [spec_l02DrawCode.l0]
    rw [if_neg (by omega)]
    exact ⟨_, _, _, rfl, h0, by omega⟩
  | succ d ih =>
    intro k j acc p s ha hd hk h0
    obtain ⟨k, rfl⟩ : ∃ m, k = m + 1 := ⟨k - 1, by omega⟩
    simp only [spec_l02DrawCode.l0]
    obtain ⟨a, b, e, f, p1, s1, e1, hp1⟩ := drawInstr_ok l p s c n hl h0 k (by omega)
    rw [if_pos (by omega), e1, Option.bind_some, if_pos (by omega), wrap_id (x := (j : Int) + 1) (by omega) (by omega)]
    obtain ⟨q, p2, s2, e2, hp2, hq⟩ := ih k (j + 1) (acc ++ [⟨a, b, e, f⟩]) p1 s1 (by simp [ha]) (by omega) (by omega) hp1
    exact ⟨q, p2, s2, by rw [show (j : Int) + 1 = ((j + 1 : Nat) : Int) by omega]; exact e2, hp2, by omega⟩
def smallP (m : Nat) (l : List (List Ins)) : Prop := l.length ≤ m ∧ ∀ q ∈ l, q.length ≤ 20
theorem drawProg_j3 (l : List Int) (hl : Len l) (most n : Int) (K : Nat) (j : Nat) (c : Int) (acc : List (List Ins)) (hacc : smallP 3 acc) (hj : acc.length = j) (hj3 : j < 3)
    (ih : ∀ k (acc : List (List Ins)) p s, smallP 3 acc → acc.length = j + 1 → K ≤ k → 0 ≤ p → ∃ a r p' s', spec_l02DrawProg.l0 k most n ((j + 1 : Nat) : Int) l p s c acc = some (a, r, p', s') ∧ 0 ≤ p' ∧ smallP 3 r)
    (k : Nat) (hk : K < k) (q : List Ins) (hq : q.length ≤ 20) (b : Bool) (hb : b = true → 2 ≤ q.length) (p s : Int) (h0 : 0 ≤ p) :
    ∃ a r p' s', spec_l02DrawProg.j3 k most n (j : Int) q b l p s c acc = some (a, r, p', s') ∧ 0 ≤ p' ∧ smallP 3 r := by
  obtain ⟨k, rfl⟩ : ∃ m, k = m + 1 := ⟨k - 1, by omega⟩
  have h1 := hacc.1
  have hadd : ∀ q' : List Ins, q'.length ≤ 20 → smallP 3 (acc ++ [q']) := fun q' hq' => ⟨by simp; omega, fun x hx => by
    rcases List.mem_append.1 hx with hx | hx
    · exact hacc.2 x hx
    · rw [List.mem_singleton.1 hx]; exact hq'⟩
  have hw : wrap64 ((j : Int) + 1) = ((j + 1 : Nat) : Int) := by rw [wrap_id (by omega) (by omega)]; omega
  simp only [spec_l02DrawProg.j3]
  by_cases hbb : b = true
  · have h2 := hb hbb
    rw [if_pos hbb]
    obtain ⟨x1, p1, s1, e1, _, _, hp1⟩ := below_ok l p s 2 hl h0
    rw [e1, Option.bind_some]
    simp only
    obtain ⟨x2, p2, s2, e2, _, _, hp2⟩ := below_ok l p1 s1 3 hl hp1
    rw [e2, Option.bind_some]
    simp only
    rw [if_pos (by omega), Option.bind_some]
    obtain ⟨x3, p3, s3, e3, _, _, hp3⟩ := below_ok l p2 s2 c hl hp2
    rw [e3, Option.bind_some]
    simp only
    rw [if_pos (by omega), if_pos (by omega), hw]
    exact ih k _ p3 s3 (hadd _ (by simpa using hq)) (by simp [hj]) (by omega) hp3
  · rw [if_neg hbb, if_pos (by omega), hw]
    exact ih k _ p s (hadd _ hq) (by simp [hj]) (by omega) h0
theorem drawProg_loop (l : List Int) (hl : Len l) (most : Int) (hm : most ≤ 16) (n : Int) (hn : n ≤ 3) (c : Int) : ∀ d k (j : Nat) (acc : List (List Ins)) (p s : Int), smallP 3 acc → acc.length = j → (n - j).toNat = d → d * 10 + 70 < k → 0 ≤ p →
    ∃ a r p' s', spec_l02DrawProg.l0 k most n (j : Int) l p s c acc = some (a, r, p', s') ∧ 0 ≤ p' ∧ smallP 3 r := by
  intro d
  induction d with
  | zero =>
    intro k j acc p s hs hj hd hk h0
    obtain ⟨k, rfl⟩ : ∃ m, k = m + 1 := ⟨k - 1, by omega⟩
    simp only [spec_l02DrawProg.l0]
    rw [if_neg (by omega)]
    exact ⟨_, _, _, _, rfl, h0, hs⟩
  | succ d ih =>
    intro k j acc p s hs hj hd hk h0
    obtain ⟨k, rfl⟩ : ∃ m, k = m + 4 := ⟨k - 4, by omega⟩
    have key : ∀ (x8 : Int) (p s : Int), x8 ≤ 16 → 0 ≤ p → ∃ a r p' s', spec_l02DrawProg.j2 (k + 2) most n (j : Int) x8 l p s c acc = some (a, r, p', s') ∧ 0 ≤ p' ∧ smallP 3 r := by
      intro x8 p s hx8 h0
      simp only [spec_l02DrawProg.j2]
      unfold spec_l02DrawCode.f
      obtain ⟨q, p1, s1, e1, hp1, hq⟩ := drawCode_ok l hl c x8 (by omega) (x8 - (0 : Nat)).toNat (k + 1) 0 [] p s rfl rfl (by omega) h0
      rw [show (0 : Int) = ((0 : Nat) : Int) from rfl, e1, Option.bind_some]
      simp only
      obtain ⟨x2, p2, s2, e2, _, _, hp2⟩ := below_ok l p1 s1 3 hl hp1
      rw [e2, Option.bind_some]
      simp only
      have hq20 : q.length ≤ 20 := by omega
      have ih' : ∀ k (acc : List (List Ins)) p s, smallP 3 acc → acc.length = j + 1 → d * 10 + 71 ≤ k → 0 ≤ p → ∃ a r p' s', spec_l02DrawProg.l0 k most n ((j + 1 : Nat) : Int) l p s c acc = some (a, r, p', s') ∧ 0 ≤ p' ∧ smallP 3 r :=
        fun k acc p s h1 h2 h3 h4 => ih k (j + 1) acc p s h1 h2 (by omega) (by omega) h4
      split
      · exact drawProg_j3 l hl most n (d * 10 + 71) j c acc hs hj (by omega) ih' (k + 1) (by omega) q hq20 _ (fun h => by have := of_decide_eq_true h; omega) p2 s2 hp2
      · exact drawProg_j3 l hl most n (d * 10 + 71) j c acc hs hj (by omega) ih' (k + 1) (by omega) q hq20 _ (fun h => by cases h) p2 s2 hp2
    simp only [spec_l02DrawProg.l0]
    rw [if_pos (by omega)]
    obtain ⟨x, p1, s1, e1, hx0, hx1, hp1⟩ := below_ok l p s most hl h0
    rw [e1, Option.bind_some]
    simp only
    have hx : x ≤ 15 := by
      by_cases h : 0 < most
      · have := hx1 h; omega
      · unfold spec_l01Below.f at e1
        rw [if_pos (by omega)] at e1
        have := congrArg (·.1) (Option.some.inj e1)
        simp only at this
        omega
    have hw : wrap64 (1 + x) = 1 + x := wrap_id (by omega) (by omega)
    rw [hw]
    split
    · simp only [spec_l02DrawProg.j1]
      split
      · exact key 3 p1 s1 (by omega) hp1
      · exact key (1 + x) p1 s1 (by omega) hp1
    · simp only [spec_l02DrawProg.j1]
      rw [if_neg (by decide)]
      exact key (1 + x) p1 s1 (by omega) hp1
theorem drawProg_ok (l : List Int) (hl : Len l) (p s most : Int) (hm : most ≤ 16) (h0 : 0 ≤ p) (k : Nat) (hk : 120 ≤ k) : ∃ a r p' s', spec_l02DrawProg.f k l p s most = some (a, r, p', s') ∧ 0 ≤ p' ∧ smallP 3 r := by
  unfold spec_l02DrawProg.f
  obtain ⟨x1, p1, s1, e1, _, _, hp1⟩ := below_ok l p s 3 hl h0
  rw [e1, Option.bind_some]
  simp only
  obtain ⟨x2, p2, s2, e2, l2, u2, hp2⟩ := below_ok l p1 s1 3 hl hp1
  rw [e2, Option.bind_some]
  simp only
  have h3 := u2 (by omega)
  have hw : wrap64 (1 + x2) = 1 + x2 := wrap_id (by omega) (by omega)
  rw [hw]
  exact drawProg_loop l hl most hm (1 + x2) (by omega) _ _ k 0 [] p2 s2 ⟨by simp, by simp⟩ rfl rfl (by omega) hp2
theorem l02Codes_ok (l : List Ins) (hl : l.length ≤ 20) (k : Nat) (hk : 30 ≤ k) : spec_l02Codes.f k l = some l := by
  have key : ∀ d k (j : Nat), j ≤ l.length → l.length - j = d → d < k → spec_l02Codes.l0 k l (l.take j) (j : Int) = some l := by
    intro d
    induction d with
    | zero =>
      intro k j hj hd hk
      obtain ⟨k, rfl⟩ : ∃ m, k = m + 1 := ⟨k - 1, by omega⟩
      simp only [spec_l02Codes.l0]
      rw [if_neg (by omega), List.take_of_length_le (by omega)]
    | succ d ih =>
      intro k j hj hd hk
      obtain ⟨k, rfl⟩ : ∃ m, k = m + 1 := ⟨k - 1, by omega⟩
      have hlt : j < l.length := by omega
      simp only [spec_l02Codes.l0]
      rw [if_pos (by omega), if_pos (by omega), if_pos (by rw [List.length_take]; omega), rdIns l j hlt, wrap_succ hlt (by omega)]
      have e : l.take j ++ [(⟨l[j].f0, l[j].f1, l[j].f2, l[j].f3⟩ : Ins)] = l.take (j + 1) := by rw [List.take_succ_eq_append_getElem hlt]
      rw [e]
      exact ih k (j + 1) (by omega) (by omega) (by omega)
  have := key l.length k 0 (by omega) (by omega) (by omega)
  simpa [spec_l02Codes.f] using this
theorem bend_j0 (l : List Int) (hl : Len l) (b : Bool) (p s c : Int) (r : List (List Ins)) (hr : smallP 3 r) (hb : b = true → ∃ h : 0 < r.length, 0 < r[0].length) (h0 : 0 ≤ p) (k : Nat) (hk : 40 ≤ k) : ∃ a r' p' s', spec_l02Bend.j0 k b l p s c r = some (a, r', p', s') ∧ 0 ≤ p' ∧ smallP 5 r' := by
  obtain ⟨k, rfl⟩ : ∃ m, k = m + 1 := ⟨k - 1, by omega⟩
  simp only [spec_l02Bend.j0]
  by_cases hbb : b = true
  · obtain ⟨h1, h2⟩ := hb hbb
    have hq := hr.2 _ (List.getElem_mem h1)
    have e : rd_L4 r 0 = r[0] := rdCode r 0 h1
    rw [if_pos hbb, if_pos (by omega), e, l02Codes_ok _ hq k (by omega), Option.bind_some]
    obtain ⟨x, p1, s1, e1, l1, u1, hp1⟩ := below_ok l p s (r[0].length : Int) hl h0
    have u := u1 (by omega)
    rw [e1, Option.bind_some]
    simp only
    rw [if_pos l1, if_pos u]
    obtain ⟨a', b', c', d', p2, s2, e2, hp2⟩ := bendInstr_ok l p1 s1 (rd_T37 r[0] x).f0 (rd_T37 r[0] x).f1 (rd_T37 r[0] x).f2 (rd_T37 r[0] x).f3 hl hp1
    rw [e2, Option.bind_some]
    refine ⟨_, _, _, _, rfl, hp2, by rw [List.length_set]; have := hr.1; omega, fun q hx => ?_⟩
    rcases List.mem_or_eq_of_mem_set hx with hx | rfl
    · exact hr.2 q hx
    · rw [List.length_set]; exact hq
  · rw [if_neg hbb]
    exact ⟨_, _, _, _, rfl, h0, by have := hr.1; omega, hr.2⟩
theorem bend_ok (l : List Int) (hl : Len l) (p s c : Int) (r : List (List Ins)) (hr : smallP 3 r) (h0 : 0 ≤ p) (k : Nat) (hk : 40 ≤ k) : ∃ a r' p' s', spec_l02Bend.f k l p s c r = some (a, r', p', s') ∧ 0 ≤ p' ∧ smallP 5 r' := by
  have h3 := hr.1
  have hr5 : smallP 5 r := ⟨by omega, hr.2⟩
  unfold spec_l02Bend.f
  rw [Option.bind_some]
  simp only
  obtain ⟨x, p1, s1, e1, l1, u1, hp1⟩ := below_ok l p s 4 hl h0
  rw [e1, Option.bind_some]
  simp only
  split
  · obtain ⟨z, p2, s2, e2, _, hp2⟩ := pick_ok l p1 s1 [0, 1, 16, 17] hl hp1 (by simp)
    rw [e2, Option.bind_some]
    exact ⟨_, _, _, _, rfl, hp2, hr5⟩
  · split
    · rw [Option.bind_some, if_pos (by simp only [List.length_cons, List.length_nil]; omega)]
      refine ⟨_, _, _, _, rfl, hp1, by simp only [List.length_append, List.length_cons, List.length_nil]; omega, fun q hx => ?_⟩
      rcases List.mem_append.1 hx with hx | hx
      · exact hr.2 q hx
      · simp only [List.mem_cons, List.not_mem_nil, or_false, or_self] at hx
        rw [hx]; simp
    · split
      · exact ⟨_, _, _, _, rfl, hp1, by simp, by simp⟩
      · split
        · split
          · next h1 =>
            have hlen : 0 < r.length := by omega
            have e : rd_L4 r 0 = r[0] := rdCode r 0 hlen
            first | rw [if_pos (by omega), e] | rw [e]
            exact bend_j0 l hl _ p1 s1 c r hr (fun h => ⟨hlen, by have := of_decide_eq_true h; omega⟩) hp1 k hk
          · exact bend_j0 l hl _ p1 s1 c r hr (fun h => by cases h) hp1 k hk
        · exact ⟨_, _, _, _, rfl, hp1, hr5⟩

end Go.Proofs.YtbgclnjnngolmaaDoor.Pure

/- The law FnCodes answers true: from every seed, the text of each code of the drawn program is read back as that code, WithFences comes to rest, and behind each store then stands a fence. No condition. -/
namespace Go.Proofs.YtbgclnjnngolmaaDoor.Pure
open Go.RowKit Go.Proofs.YtbgclnjnngolmaaDoor.P Go.Proofs.YtbgclnjnngolmaaDoor.Gen Go.Proofs.YtbgclnjnngolmaaDoorW.PrintWords
set_option linter.unusedSimpArgs false
set_option linter.unusedVariables false

theorem sameCode_refl (l : List Ins) (hl : l.length ≤ 1000) (k : Nat) (hk : l.length < k) : laws_sameCode.f k l l = some true := by
  unfold laws_sameCode.f
  rw [if_pos rfl]
  have := loop_all l (fun _ => true) (fun k i => laws_sameCode.l0 k l l i) (fun k j hj => by
    simp only [laws_sameCode.l0]
    rw [if_pos (by omega), if_pos (by omega), if_pos (by omega), wrap_succ hj (by omega)]
    simp) (fun k => by
    simp only [laws_sameCode.l0]
    rw [if_neg (by omega)]) k hk
  rw [this]
  simp
theorem fences_loop (t c : Int) (P : List (List Ins)) (q : List Ins) (hq : q.length ≤ 16) (hf : folB q = true) (R : Option Bool) (K : Nat) (hR : ∀ k, K ≤ k → laws_FnCodes.l0 k (wrap64 (t + 1)) c P = R) :
    ∀ d k (j : Nat), j ≤ q.length → q.length - j = d → K + d < k → laws_FnCodes.l1 k t q (j : Int) c P = R := by
  intro d
  induction d with
  | zero =>
    intro k j hj hd hk
    obtain ⟨k, rfl⟩ : ∃ m, k = m + 1 := ⟨k - 1, by omega⟩
    simp only [laws_FnCodes.l1]
    rw [if_neg (by omega), hR k (by omega)]
  | succ d ih =>
    intro k j hj hd hk
    obtain ⟨k, rfl⟩ : ∃ m, k = m + 1 := ⟨k - 1, by omega⟩
    have hlt : j < q.length := by omega
    simp only [laws_FnCodes.l1]
    rw [if_pos (by omega), if_pos (by omega), rdIns q j hlt, wrap_succ hlt (by omega)]
    by_cases h3 : q[j].f0 = 3
    · obtain ⟨h', h4⟩ := folB_at q hf j hlt h3
      rw [if_pos h3, if_neg (by omega), if_pos (by omega), if_pos (by omega), rdIns q (j + 1) h', if_pos h4, ih k (j + 1) (by omega) (by omega) (by omega)]
    · rw [if_neg h3, ih k (j + 1) (by omega) (by omega) (by omega)]
theorem codes_loop (c : Int) (P : List (List Ins)) (hP : P.length ≤ 3) (hc : ∀ q ∈ P, codeB c q = true) : ∀ d k (t : Nat), t + d = P.length → d * 100 + 1000 < k → laws_FnCodes.l0 k (t : Int) c P = some true := by
  intro d
  induction d with
  | zero =>
    intro k t ht hk
    obtain ⟨k, rfl⟩ : ∃ m, k = m + 1 := ⟨k - 1, by omega⟩
    simp only [laws_FnCodes.l0]
    rw [if_neg (by omega)]
  | succ d ih =>
    intro k t ht hk
    obtain ⟨k, rfl⟩ : ∃ m, k = m + 3 := ⟨k - 3, by omega⟩
    have hlt : t < P.length := by omega
    have hg := codeB_good (hc _ (List.getElem_mem hlt))
    have h16 := hg.1
    have e : rd_L4 P (t : Int) = P[t] := rdCode P t hlt
    simp only [laws_FnCodes.l0]
    rw [if_pos (by omega), if_pos (by omega), e, codeText_good _ hg _ (by omega), Option.bind_some]
    simp only
    rw [impl_parseCode_yes _ hg _ (by omega), Option.bind_some]
    simp only [if_true]
    rw [sameCode_refl _ (by omega) _ (by omega), Option.bind_some]
    simp only [laws_FnCodes.j1, Bool.not_true]
    rw [if_neg (by decide), if_pos (by omega), if_pos (by omega), e, spec_with _ _ (by omega), Option.bind_some]
    have hw : wrap64 ((t : Int) + 1) = ((t + 1 : Nat) : Int) := wrap_succ hlt (by omega)
    by_cases h2 : (withV P[t]).2 = true
    · obtain ⟨w1, w2, w3⟩ := withV_again P[t] h2
      rw [if_pos h2, impl_with _ _ (by omega), Option.bind_some, impl_with _ _ (by omega), Option.bind_some, w1]
      simp only [if_true, h2]
      rw [sameCode_refl _ (by omega) _ (by omega), Option.bind_some]
      simp only [laws_FnCodes.j2, Bool.not_true]
      rw [if_neg (by decide)]
      exact fences_loop (t : Int) c P (withV P[t]).1 w3 w2 (some true) (d * 100 + 1001) (fun k hk => by rw [hw]; exact ih k (t + 1) (by omega) (by omega)) _ k 0 (by omega) rfl (by omega)
    · rw [if_neg h2, hw]
      exact ih _ (t + 1) (by omega) (by omega)

theorem FnCodes : laws_FnCodes.Left := by
  intro l hl
  refine ⟨5000, ?_⟩
  unfold laws_FnCodes.f laws_big.f
  rw [Option.bind_some]
  split
  · rfl
  have key : ∃ c P, spec_DrawProgOk.f 5000 l = some (c, P) ∧ smallP 5 P := by
    obtain ⟨s0, e0⟩ := new_ok l hl 5000 (by omega)
    obtain ⟨m, em, hm⟩ : ∃ m, spec_l01Size.f l 16 = some m ∧ m ≤ 16 := by
      unfold spec_l01Size.f
      split
      · exact ⟨_, rfl, by omega⟩
      · exact ⟨_, rfl, by omega⟩
    obtain ⟨c, P, p1, s1, e1, hp1, hs1⟩ := drawProg_ok l hl 0 s0 m hm (by omega) 5000 (by omega)
    obtain ⟨b, p2, s2, e2, hp2⟩ := once_ok l p1 s1 3 hl hp1
    unfold spec_DrawProgOk.f
    rw [e0, Option.bind_some, em, Option.bind_some]
    simp only
    rw [e1, Option.bind_some]
    simp only
    rw [e2, Option.bind_some]
    simp only
    split
    · obtain ⟨c', P', p3, s3, e3, _, hs3⟩ := bend_ok l hl p2 s2 c P hs1 hp2 5000 (by omega)
      rw [e3, Option.bind_some]
      exact ⟨_, _, rfl, hs3⟩
    · exact ⟨_, _, rfl, by have := hs1.1; omega, hs1.2⟩
  obtain ⟨c, P, e, hs⟩ := key
  rw [e, Option.bind_some]
  simp only
  rw [spec_progOk c P _ (by omega), Option.bind_some]
  by_cases h : progB c P = true
  · rw [if_pos h]
    have h3 := (progB_facts h).2.1.2
    have hc : ∀ q ∈ P, codeB c q = true := by
      unfold progB at h
      simp only [Bool.and_eq_true, List.all_eq_true] at h
      exact h.2.2
    exact codes_loop c P h3 hc P.length 5000 0 (by omega) (by omega)
  · rw [if_neg h]

end Go.Proofs.YtbgclnjnngolmaaDoor.Pure
