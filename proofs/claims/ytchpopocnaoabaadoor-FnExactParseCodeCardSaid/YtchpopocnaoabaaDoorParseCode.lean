/- Parsing a code's text: the program's and the reference's ParseCode give a code exactly where the text is its text. No condition but on the length. -/
import Derived.Test.YtchpopocnaoabaaDoorParseInstr
import Derived.Test.YtchpopocnaoabaaDoorIns
import Derived.Test.YtchpopocnaoabaaDoorPimplParseCode
import Derived.Test.YtchpopocnaoabaaDoorPspecParseCode
namespace Go.Proofs.YtchpopocnaoabaaDoor.Pure
open Go.RowKit Go.Proofs.YtchpopocnaoabaaDoor.P Go.Proofs.YtchpopocnaoabaaDoor.Gen Go.Proofs.YtchpopocnaoabaaDoorW.PrintWords Go.Proofs.YtchpopocnaoabaaDoor.Split

noncomputable def pI (t : List UInt8) : Ans := (parseInstr_same t).choose
theorem pI_spec (t : List UInt8) (k : Nat) (hk : 300 ≤ k) : spec_ParseInstr.f k (mk t) = some (pI t) := (parseInstr_same t).choose_spec.1 k hk
theorem pI_impl (t : List UInt8) (k : Nat) (hk : 300 ≤ k) : impl_ParseInstr.f k (mk t) = some (pI t) := (parseInstr_same t).choose_spec.2 k hk
noncomputable def okP (t : List UInt8) : Bool := (pI t).2.2.2.2
noncomputable def pX (t : List UInt8) : Ins := ⟨(pI t).1, (pI t).2.1, (pI t).2.2.1, (pI t).2.2.2.1⟩
def insT (x : Ins) : List UInt8 := instrW x.f0 x.f1 x.f2 x.f3
def goodX (x : Ins) : Bool := goodI x.f0 x.f1 x.f2 x.f3
theorem itoa_short {x : Int} (h : valB x = true) : (Go.Lib.itoa x).length + 1 ≤ 9 := by
 have hx := valB_range h
 unfold Go.Lib.itoa
 split
 ·have := digits7 x.natAbs (by omega)
  simp only [List.length_cons]
  omega
 ·have := digits7 x.toNat (by omega)
  omega
theorem instrWs_good (op r s n : Int) (hr : valB r = true) (hs : valB s = true) (hn : valB n = true) : (instrWs op r s n).length ≤ 4 ∧ ∀ x ∈ instrWs op r s n, x.length + 1 ≤ 9 := by
 have h1 := itoa_short hr
 have h2 := itoa_short hs
 have h3 := itoa_short hn
 unfold instrWs
 repeat' split
 all_goals
  refine ⟨by simp, ?_⟩
  simp only [List.mem_cons, List.not_mem_nil, or_false, forall_eq_or_imp, forall_eq]
  first
   | exact ⟨by decide, h1, h2, h3⟩
   | exact ⟨by decide, h1, h2⟩
   | exact ⟨by decide, h1, h3⟩
   | decide
theorem instrW_short {op r s n : Int} (h : goodI op r s n = true) : (instrW op r s n).length ≤ 36 := by
 obtain ⟨h0, hr, hs, hn, _⟩ := goodI_of h
 obtain ⟨hl, hx⟩ := instrWs_good op r s n hr hs hn
 have := join_len [32] 9 _ hx
 unfold instrW
 rw [if_pos (inB_true.2 h0)]
 omega
theorem pI_good {x : Ins} (h : goodX x = true) : okP (insT x) = true ∧ pX (insT x) = x := by
 have h1 := (parseInstr_yes x.f0 x.f1 x.f2 x.f3 h (by have := instrW_short h; omega) 300 (Nat.le_refl _)).1
 have h2 := pI_spec (insT x) 300 (Nat.le_refl _)
 have e : pI (insT x) = (x.f0, x.f1, x.f2, x.f3, true) := Option.some.inj (h2.symm.trans h1)
 unfold okP pX
 rw [e]
 exact ⟨rfl, rfl⟩
theorem pI_ok {t : List UInt8} (h : okP t = true) : goodX (pX t) = true ∧ insT (pX t) = t := by
 by_cases hi : isInstr t
 ·obtain ⟨op, r, s, n, hg, rfl⟩ := hi
  have := pI_good (x := ⟨op, r, s, n⟩) hg
  have e : pX (instrW op r s n) = ⟨op, r, s, n⟩ := this.2
  rw [e]
  exact ⟨hg, rfl⟩
 have h1 := (parseInstr_no t hi 300 (Nat.le_refl _)).1
 have h2 := pI_spec t 300 (Nat.le_refl _)
 have e : pI t = zeroA := Option.some.inj (h2.symm.trans h1)
 unfold okP at h
 rw [e] at h
 cases h
abbrev CodeA := List Ins × Bool
/-- What the words of a code come to. -/
noncomputable def codeRes (ws : List (List UInt8)) : CodeA := if (ws.all okP && decide (ws.length ≤ 16)) = true then (ws.map pX, true) else ([], false)

theorem impl_code_loop (ws : List (List UInt8)) (hn : ws.length ≤ 1000) : ∀ d (i k : Nat) (acc : List Ins), i ≤ ws.length → ws.length - i = d → 320 + d < k → acc.length = i → i ≤ 16 →
  impl_ParseCode.l0 k acc (ws.map mk) (ws.length : Int) (i : Int) = some (if ((ws.drop i).all okP && decide (ws.length ≤ 16)) = true then (acc ++ (ws.drop i).map pX, true) else ([], false)) := by
 intro d
 induction d with
 | zero =>
  intro i k acc hi hd hk ha h16
  obtain ⟨k, rfl⟩ : ∃ m, k = m + 1 := ⟨k - 1, by omega⟩
  simp only [impl_ParseCode.l0]
  rw [if_neg (by omega), List.drop_of_length_le (show ws.length ≤ i by omega), decide_eq_true (show ws.length ≤ 16 by omega)]
  simp
 | succ d ih =>
  intro i k acc hi hd hk ha h16
  obtain ⟨k, rfl⟩ : ∃ m, k = m + 1 := ⟨k - 1, by omega⟩
  have hlt : i < ws.length := by omega
  simp only [impl_ParseCode.l0]
  rw [if_pos (by omega), if_pos (by omega), if_pos (by rw [List.length_map]; omega), rdB ws i hlt, pI_impl _ k (by omega), Option.bind_some, List.drop_eq_getElem_cons hlt, List.all_cons]
  cases hok : okP ws[i] with
  | false =>
   have : (pI ws[i]).2.2.2.2 = false := hok
   rw [this, if_neg (by decide)]
   rfl
  | true =>
   have : (pI ws[i]).2.2.2.2 = true := hok
   rw [this, if_pos rfl]
   by_cases c : i = 16
   ·rw [if_pos (by omega), decide_eq_false (show ¬ ws.length ≤ 16 by omega), Bool.and_false, if_neg (by decide)]
   rw [if_neg (by omega), if_pos (by omega), wrap_succ hlt (by omega)]
   have e : (⟨(pI ws[i]).1, (pI ws[i]).2.1, (pI ws[i]).2.2.1, (pI ws[i]).2.2.2.1⟩ : Ins) = pX ws[i] := rfl
   rw [e, ih (i + 1) k (acc ++ [pX ws[i]]) (by omega) (by omega) (by omega) (by rw [List.length_append, List.length_singleton]; omega) (by omega), Bool.true_and, List.map_cons, List.append_assoc]
   rfl
def sp (p : List UInt8) : Bool := p.head? == some 32
theorem spec_code_loop (ps : List (List UInt8)) (hn : ps.length ≤ 1000) : ∀ d (i k : Nat) (acc : List Ins), 1 ≤ i → i ≤ ps.length → ps.length - i = d → 320 + 2 * d < k → acc.length = i →
  spec_ParseCode.l0 k acc (ps.map mk) (i : Int) = some (if (((ps.drop i).all fun p => sp p && okP p.tail) && decide (ps.length ≤ 16)) = true then (acc ++ (ps.drop i).map (fun p => pX p.tail), true) else ([], false)) := by
 intro d
 induction d with
 | zero =>
  intro i k acc h1 hi hd hk ha
  obtain ⟨k, rfl⟩ : ∃ m, k = m + 1 := ⟨k - 1, by omega⟩
  simp only [spec_ParseCode.l0]
  rw [if_neg (by rw [List.length_map]; omega), List.drop_of_length_le (show ps.length ≤ i by omega)]
  by_cases c : ps.length ≤ 16
  rotate_left
  ·rw [if_pos (by omega), decide_eq_false c]
   simp
  rw [if_neg (by omega), decide_eq_true c]
  simp
 | succ d ih =>
  intro i k acc h1 hi hd hk ha
  obtain ⟨k, rfl⟩ : ∃ m, k = m + 1 + 1 := ⟨k - 2, by omega⟩
  have hlt : i < ps.length := by omega
  simp only [spec_ParseCode.l0]
  rw [if_pos (by rw [List.length_map]; omega), if_pos (by omega), if_pos (by omega), rdB ps i hlt, List.drop_eq_getElem_cons hlt, List.all_cons, List.map_cons]
  generalize ps[i] = p
  have bad : ∀ x : Bool, sp p = false → x = true → spec_ParseCode.j1 (k + 1) acc (ps.map mk) (i : Int) (mk p) x = some (if ((sp p && okP p.tail && (ps.drop (i + 1)).all fun p => sp p && okP p.tail) && decide (ps.length ≤ 16)) = true then (acc ++ (pX p.tail :: (ps.drop (i + 1)).map fun p => pX p.tail), true) else ([], false)) := by
   intro x hs hx
   simp only [spec_ParseCode.j1]
   rw [if_pos hx, hs]
   rfl
  cases p with
  | nil =>
   rw [if_pos (by rw [mk_size]; rfl)]
   exact bad true rfl rfl
  | cons b q =>
   have hb : bt (mk (b :: q)) 0 = (b.toNat : Int) := bt_mk' (b :: q) 0 (by simp)
   rw [if_neg (by rw [mk_size, List.length_cons]; omega), if_pos (by rw [mk_size, List.length_cons]; omega), hb]
   by_cases c : b = 32
   rotate_left
   ·refine bad _ ?_ ?_
    ·unfold sp
     simp [c]
    ·simp only [bne_iff_ne, ne_eq]
     intro h
     exact c ((byte_is' b 32).1 h)
   have hs : sp (b :: q) = true := by unfold sp; rw [c]; rfl
   have hx : ((b.toNat : Int) != 32) = false := by rw [c]; rfl
   rw [hx, hs]
   simp only [spec_ParseCode.j1, List.tail_cons]
   have hex : (mk (b :: q)).extract 1 (mk (b :: q)).size = mk q := by
    rw [mk_extract, mk_size]
    simp
   rw [if_neg (by decide), if_pos (by rw [mk_size, List.length_cons]; omega), hex, pI_spec q k (by omega), Option.bind_some]
   rcases Bool.eq_false_or_eq_true (okP q) with hok | hok
   rotate_left
   ·have : (pI q).2.2.2.2 = false := hok
    rw [this, if_neg (by decide)]
    simp only [hok, Bool.and_false, Bool.false_and, Bool.false_eq_true, if_false]
   ·have : (pI q).2.2.2.2 = true := hok
    have e : (⟨(pI q).1, (pI q).2.1, (pI q).2.2.1, (pI q).2.2.2.1⟩ : Ins) = pX q := rfl
    rw [this, if_pos rfl, if_pos (by omega), wrap_succ hlt (by omega), e, ih (i + 1) k (acc ++ [pX q]) (by omega) (by omega) (by omega) (by omega) (by rw [List.length_append, List.length_singleton]; omega), List.append_assoc]
    simp only [hok, Bool.true_and]
    rfl
theorem all_two {α : Type} (l : List α) (p q : α → Bool) : (l.all fun x => p x && q x) = (l.all p && l.all q) := by
 induction l with
 | nil => rfl
 | cons x l ih =>
  rw [List.all_cons, List.all_cons, List.all_cons, ih]
  cases p x <;> cases q x <;> cases l.all p <;> rfl
theorem splitLong (sep : List UInt8) (hs : sep ≠ []) : ∀ (ws : List (List UInt8)) (w : List UInt8), ws.length ≤ (Go.Lib.join (w :: ws) sep).length
 | [], w => Nat.zero_le _
 | x :: ws, w => by
  have := splitLong sep hs ws x
  have h1 : 0 < sep.length := List.length_pos_iff.2 hs
  rw [Go.Lib.join_cons, joinTail_join, List.length_append, List.length_append, List.length_cons]
  omega
theorem impl_parseCode_all (t : List UInt8) (ht : t.length ≤ 1048576) (hne : t ≠ []) (k : Nat) (hk : 400 ≤ k) : impl_ParseCode.f k (mk t) = some (codeRes (Go.Lib.splitK [59, 32] 0 (min 17 (t.length + 1) - 1) t)) := by
 unfold impl_ParseCode.f
 have h17 := splitNF t [59, 32] 17 ht (by simp) (by omega) (by omega)
 rw [show ((17 : Nat) : Int) = 17 from rfl] at h17
 have hs : (⟨#[59, 32]⟩ : ByteArray) = mk [59, 32] := rfl
 rw [Option.bind_some, mk_toList, if_neg hne, hs, h17, Option.bind_some, List.length_map]
 have hlen := splitK_len [59, 32] (min 17 (t.length + 1) - 1) t
 have := impl_code_loop (Go.Lib.splitK [59, 32] 0 (min 17 (t.length + 1) - 1) t) (by omega) _ 0 k [] (by omega) rfl (by omega) rfl (by omega)
 rw [List.drop_zero, List.nil_append] at this
 exact this
theorem codeRes_cons (p : List UInt8) (r : List (List UInt8)) : codeRes (p :: r.map List.tail) = if ((okP p && r.all (okP ∘ List.tail)) && decide (r.length + 1 ≤ 16)) = true then (pX p :: r.map (pX ∘ List.tail), true) else ([], false) := by
 unfold codeRes
 rw [List.all_cons, List.all_map, List.map_cons, List.map_map, List.length_cons, List.length_map]
theorem spec_parseCode_all (t : List UInt8) (ht : t.length ≤ 992) (hne : t ≠ []) (p : List UInt8) (r : List (List UInt8)) (hp : parts 59 t = p :: r) (k : Nat) (hk : 4000 ≤ k) :
  spec_ParseCode.f k (mk t) = some (if r.all sp = true then codeRes (p :: r.map List.tail) else ([], false)) := by
 unfold spec_ParseCode.f
 obtain ⟨k, rfl⟩ : ∃ m, k = m + 1 := ⟨k - 1, by omega⟩
 have h1 : spec_l01Parts.f (k + 1) (mk t) 59 = _ := l01Parts t 59 (by omega) (k + 1) (by omega)
 have hlen := parts_len 59 t
 rw [hp, List.length_cons] at hlen
 rw [mk_toList, if_neg hne, if_neg (by rw [mk_size]; omega), h1, Option.bind_some, hp]
 simp only [spec_ParseCode.l0]
 have h0 : rdOf ByteArray.empty ((p :: r).map mk) 0 = mk p := rfl
 rw [if_pos (by rw [List.length_map, List.length_cons]; omega), if_pos (by omega), if_neg (by omega), h0, pI_spec p k (by omega), Option.bind_some]
 rw [codeRes_cons]
 rcases Bool.eq_false_or_eq_true (okP p) with hok | hok
 rotate_left
 ·have : (pI p).2.2.2.2 = false := hok
  rw [this, if_neg (by decide), hok]
  cases r.all sp <;> rfl
 ·have : (pI p).2.2.2.2 = true := hok
  rw [hok]
  have e : (⟨(pI p).1, (pI p).2.1, (pI p).2.2.1, (pI p).2.2.2.1⟩ : Ins) = pX p := rfl
  have hw : wrap64 (0 + 1) = ((1 : Nat) : Int) := by unfold wrap64; omega
  rw [this, if_pos rfl, if_pos (by simp), hw, e]
  have hl := spec_code_loop (p :: r) (by rw [List.length_cons]; omega) r.length 1 k ([] ++ [pX p]) (Nat.le_refl _) (by rw [List.length_cons]; omega) (by rw [List.length_cons]; omega) (by omega) rfl
  rw [show (p :: r).drop 1 = r from rfl] at hl
  refine hl.trans (congrArg some ?_)
  have ea : (r.all fun p => sp p && okP p.tail) = (r.all sp && r.all (okP ∘ List.tail)) := all_two r sp (okP ∘ List.tail)
  rw [ea, List.length_cons]
  cases r.all sp <;> cases r.all (okP ∘ List.tail) <;> cases decide (r.length + 1 ≤ 16) <;> rfl

/-! ### both -/
def goodCode (l : List Ins) : Prop := l.length ≤ 16 ∧ ∀ x ∈ l, goodX x = true
def codeW (l : List Ins) : List UInt8 := Go.Lib.join (l.map insT) [59, 32]
theorem insT_no {x : Ins} (h : goodX x = true) (c : UInt8) (hc : c = 59) : c ∉ insT x := by
 subst hc
 obtain ⟨w0, rest, hw, e, _⟩ := instrW_parts x.f0 x.f1 x.f2 x.f3 (inB_true.2 (goodI_of h).1)
 have hno : ∀ y ∈ instrWs x.f0 x.f1 x.f2 x.f3, (59 : UInt8) ∉ y := by
  have h1 := not_in_itoa x.f1 59 (by decide)
  have h2 := not_in_itoa x.f2 59 (by decide)
  have h3 := not_in_itoa x.f3 59 (by decide)
  unfold instrWs
  repeat' split
  all_goals
   simp only [List.mem_cons, List.not_mem_nil, or_false, forall_eq_or_imp, forall_eq]
   first
    | exact ⟨by decide, h1, h2, h3⟩
    | exact ⟨by decide, h1, h2⟩
    | exact ⟨by decide, h1, h3⟩
    | decide
 rw [hw] at hno
 unfold insT
 rw [e]
 intro hm
 have key : ∀ ws : List (List UInt8), (∀ y ∈ ws, (59 : UInt8) ∉ y) → (59 : UInt8) ∉ Go.Lib.join ws [32] := by
  intro ws
  induction ws with
  | nil => intro _ h; cases h
  | cons y ws ih =>
   intro h
   cases ws with
   | nil =>
    rw [Go.Lib.join_one]
    exact h y List.mem_cons_self
   | cons z ws =>
    rw [Go.Lib.join_cons, joinTail_join]
    have := ih fun a ha => h a (List.mem_cons_of_mem _ ha)
    have h0 := h y List.mem_cons_self
    simp only [List.mem_append, List.mem_singleton, not_or]
    exact ⟨h0, by decide, this⟩
 exact key _ hno hm
theorem codeRes_good (l : List Ins) (h : goodCode l) : codeRes (l.map insT) = (l, true) := by
 unfold codeRes
 have h1 : (l.map insT).all okP = true := by
  rw [List.all_eq_true]
  intro w hw
  obtain ⟨x, hx, rfl⟩ := List.mem_map.1 hw
  exact (pI_good (h.2 x hx)).1
 have h2 : (l.map insT).map pX = l := by
  rw [List.map_map]
  conv => rhs; rw [← List.map_id l]
  exact List.map_congr_left fun x hx => (pI_good (h.2 x hx)).2
 rw [h1, List.length_map, decide_eq_true h.1, h2]
 rfl
theorem codeRes_sound (ws : List (List UInt8)) : codeRes ws = ([], false) ∨ ∃ l, goodCode l ∧ ws = l.map insT := by
 unfold codeRes
 by_cases h : (ws.all okP && decide (ws.length ≤ 16)) = true
 rotate_left
 ·rw [if_neg h]
  exact Or.inl rfl
 rw [Bool.and_eq_true, decide_eq_true_eq] at h
 refine Or.inr ⟨ws.map pX, ⟨by rw [List.length_map]; exact h.2, fun x hx => ?_⟩, ?_⟩
 ·obtain ⟨w, hw, rfl⟩ := List.mem_map.1 hx
  exact (pI_ok (List.all_eq_true.1 h.1 w hw)).1
 ·rw [List.map_map]
  conv => lhs; rw [← List.map_id ws]
  exact List.map_congr_left fun w hw => (pI_ok (List.all_eq_true.1 h.1 w hw)).2.symm
theorem join_blank (p : List UInt8) : ∀ ws : List (List UInt8), Go.Lib.join (p :: ws) [59, 32] = Go.Lib.join (p :: ws.map (32 :: ·)) [59] := by
 intro ws
 induction ws generalizing p with
 | nil => rfl
 | cons x ws ih =>
  rw [List.map_cons, Go.Lib.join_cons, Go.Lib.join_cons, joinTail_join, joinTail_join, ih x]
  cases ws with
  | nil => simp [Go.Lib.join_one]
  | cons y ws =>
   rw [List.map_cons, Go.Lib.join_cons, Go.Lib.join_cons]
   simp
theorem insT_ne {x : Ins} (h : goodX x = true) : insT x ≠ [] := fun e => by
 have := (instrW_nil x.f0 x.f1 x.f2 x.f3).1 e
 rw [inB_true.2 (goodI_of h).1] at this
 cases this
theorem codeW_len (l : List Ins) (h : goodCode l) : (codeW l).length ≤ 608 := by
 have h1 : ∀ x ∈ l.map insT, x.length + ([59, 32] : List UInt8).length ≤ 38 := by
  intro w hw
  obtain ⟨x, hx, rfl⟩ := List.mem_map.1 hw
  have := instrW_short (h.2 x hx)
  show (instrW x.f0 x.f1 x.f2 x.f3).length + 2 ≤ 38
  omega
 have := join_len [59, 32] 38 _ h1
 rw [List.length_map] at this
 have h2 := h.1
 unfold codeW
 have : l.length * 38 ≤ 16 * 38 := Nat.mul_le_mul_right 38 h2
 omega
theorem parseCode_yes (x : Ins) (r : List Ins) (h : goodCode (x :: r)) (k : Nat) (hk : 4000 ≤ k) :
  spec_ParseCode.f k (mk (codeW (x :: r))) = some (x :: r, true) ∧ impl_ParseCode.f k (mk (codeW (x :: r))) = some (x :: r, true) := by
 have hne : codeW (x :: r) ≠ [] := join_ne _ _ _ (insT_ne (h.2 x List.mem_cons_self))
 have hl := codeW_len _ h
 have hlong := splitLong [59, 32] (by simp) (r.map insT) (insT x)
 have hno : ∀ w ∈ insT x :: r.map insT, (59 : UInt8) ∉ w := by
  intro w hw
  rw [← List.map_cons] at hw
  obtain ⟨y, hy, rfl⟩ := List.mem_map.1 hw
  exact insT_no (h.2 y hy) 59 rfl
 have h16 := h.1
 rw [List.length_cons] at h16
 constructor
 ·have hp : parts 59 (codeW (x :: r)) = insT x :: (r.map insT).map (32 :: ·) := by
   unfold codeW
   rw [List.map_cons, join_blank, parts_words]
   intro w hw
   rcases List.mem_cons.1 hw with rfl | hw
   ·exact hno _ List.mem_cons_self
   ·obtain ⟨v, hv, rfl⟩ := List.mem_map.1 hw
    have := hno v (List.mem_cons_of_mem _ hv)
    simp only [List.mem_cons, not_or]
    exact ⟨by decide, this⟩
  rw [spec_parseCode_all _ (by omega) hne _ _ hp k hk]
  have h1 : ((r.map insT).map (32 :: ·)).all sp = true := by
   rw [List.all_eq_true]
   intro w hw
   obtain ⟨v, _, rfl⟩ := List.mem_map.1 hw
   rfl
  have h2 : ((r.map insT).map (32 :: ·)).map List.tail = r.map insT := by
   rw [List.map_map]
   conv => rhs; rw [← List.map_id (r.map insT)]
   exact List.map_congr_left fun w _ => rfl
  rw [if_pos h1, h2, ← List.map_cons, codeRes_good _ h]
 ·rw [impl_parseCode_all _ (by omega) hne k (by omega)]
  have hs : Go.Lib.splitK [59, 32] 0 (min 17 ((codeW (x :: r)).length + 1) - 1) (codeW (x :: r)) = (x :: r).map insT := by
   have e : codeW (x :: r) = Go.Lib.join (insT x :: r.map insT) [59, 32] := rfl
   rw [List.length_map] at hlong
   rw [e, List.map_cons]
   exact splitK_words 59 [32] (r.map insT) (insT x) _ hno (by rw [List.length_map]; omega)
  rw [hs, codeRes_good _ h]
theorem parseCode_no (t : List UInt8) (ht : t.length ≤ 1048576) (hne : t ≠ []) (hn : ∀ l, goodCode l → t ≠ codeW l) (k : Nat) (hk : 4000 ≤ k) :
  spec_ParseCode.f k (mk t) = some ([], false) ∧ impl_ParseCode.f k (mk t) = some ([], false) := by
 constructor
 ·by_cases hl : t.length ≤ 992
  ·obtain ⟨p, r, hp⟩ := parts_cons 59 t
   have hj := join_parts 59 t
   rw [hp] at hj
   rw [spec_parseCode_all t hl hne p r hp k hk]
   by_cases hs : r.all sp = true
   rotate_left
   ·rw [if_neg hs]
   rw [if_pos hs]
   rcases codeRes_sound (p :: r.map List.tail) with e | ⟨l, hg, e⟩
   ·rw [e]
   ·refine absurd ?_ (hn l hg)
    unfold codeW
    have hr : (r.map List.tail).map (32 :: ·) = r := by
     rw [List.map_map]
     conv => rhs; rw [← List.map_id r]
     refine List.map_congr_left fun w hw => ?_
     have := List.all_eq_true.1 hs w hw
     unfold sp at this
     cases w with
     | nil => cases this
     | cons b q =>
      have hb : b = 32 := by simpa using this
      rw [hb]
      rfl
    rw [← e, join_blank, hr, hj]
  ·unfold spec_ParseCode.f
   rw [mk_toList, if_neg hne, if_pos (by rw [mk_size]; omega)]
 ·rw [impl_parseCode_all t ht hne k (by omega)]
  rcases codeRes_sound (Go.Lib.splitK [59, 32] 0 (min 17 (t.length + 1) - 1) t) with e | ⟨l, hg, e⟩
  ·rw [e]
  ·refine absurd ?_ (hn l hg)
   unfold codeW
   rw [← e, splitK_join [59, 32] (by simp)]
theorem parseCode_nil (k : Nat) : spec_ParseCode.f k (mk []) = some ([], true) ∧ impl_ParseCode.f k (mk []) = some ([], true) := by
 unfold spec_ParseCode.f impl_ParseCode.f
 rw [Option.bind_some, mk_toList, if_pos rfl, if_pos rfl]
 exact ⟨rfl, rfl⟩
theorem parseCode_same (t : List UInt8) (ht : t.length ≤ 1048576) : ∃ l b, l.length ≤ 16 ∧ (∀ k, 4000 ≤ k → spec_ParseCode.f k (mk t) = some (l, b)) ∧ (∀ k, 4000 ≤ k → impl_ParseCode.f k (mk t) = some (l, b)) := by
 by_cases hne : t = []
 ·subst hne
  exact ⟨[], true, by simp, fun k _ => (parseCode_nil k).1, fun k _ => (parseCode_nil k).2⟩
 by_cases h : ∃ l, goodCode l ∧ t = codeW l
 rotate_left
 ·have hn : ∀ l, goodCode l → t ≠ codeW l := fun l hg e => h ⟨l, hg, e⟩
  exact ⟨[], false, by simp, fun k hk => (parseCode_no t ht hne hn k hk).1, fun k hk => (parseCode_no t ht hne hn k hk).2⟩
 obtain ⟨l, hg, rfl⟩ := h
 cases l with
 | nil => exact absurd rfl hne
 | cons x r => exact ⟨x :: r, true, hg.1, fun k hk => (parseCode_yes x r hg k hk).1, fun k hk => (parseCode_yes x r hg k hk).2⟩

end Go.Proofs.YtchpopocnaoabaaDoor.Pure
