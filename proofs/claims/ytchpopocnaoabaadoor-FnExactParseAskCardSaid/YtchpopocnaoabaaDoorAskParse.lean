/- Parsing a query's text: the program's and the reference's ParseAsk give a query exactly where the text is its text. No condition but on the length. -/
import Derived.Test.YtchpopocnaoabaaDoorAtomParse
import Derived.Test.YtchpopocnaoabaaDoorPimplParseAsk
import Derived.Test.YtchpopocnaoabaaDoorPspecParseAsk
namespace Go.Proofs.YtchpopocnaoabaaDoor.Pure
open Go.RowKit Go.Proofs.YtchpopocnaoabaaDoor.P Go.Proofs.YtchpopocnaoabaaDoor.Gen Go.Proofs.YtchpopocnaoabaaDoorW.PrintWords Go.Proofs.YtchpopocnaoabaaDoor.Split

abbrev AskA := List Atm × Bool
def goodAsk (l : List Atm) : Prop := l.length ≤ 8 ∧ ∀ x ∈ l, atOk x = true
def askW (l : List Atm) : List UInt8 := Go.Lib.join (l.map atW) [32, 38, 32]
def askRes (ws : List (List UInt8)) : AskA := if (ws.all okQ && decide (ws.length ≤ 8)) = true then (ws.map atX, true) else ([], false)
theorem splitLongQ (sep : List UInt8) (hs : sep ≠ []) : ∀ (ws : List (List UInt8)) (w : List UInt8), ws.length ≤ (Go.Lib.join (w :: ws) sep).length
  | [], w => Nat.zero_le _
  | x :: ws, w => by
    have := splitLongQ sep hs ws x
    have h1 : 0 < sep.length := List.length_pos_iff.2 hs
    rw [Go.Lib.join_cons, joinTail_join, List.length_append, List.length_append, List.length_cons]
    omega
theorem impl_ask_loop (ws : List (List UInt8)) (hn : ws.length ≤ 1000) (hw : ∀ w ∈ ws, w.length ≤ 1048576) : ∀ d (i k : Nat) (acc : List Atm), i ≤ ws.length → ws.length - i = d → 20 + d < k → acc.length = i → i ≤ 8 →
    impl_ParseAsk.l0 k acc (ws.map mk) (ws.length : Int) (i : Int) = some (if ((ws.drop i).all okQ && decide (ws.length ≤ 8)) = true then (acc ++ (ws.drop i).map atX, true) else ([], false)) := by
  intro d
  induction d with
  | zero =>
    intro i k acc hi hd hk ha h16
    obtain ⟨k, rfl⟩ : ∃ m, k = m + 1 := ⟨k - 1, by omega⟩
    simp only [impl_ParseAsk.l0]
    rw [if_neg (by omega), List.drop_of_length_le (show ws.length ≤ i by omega), decide_eq_true (show ws.length ≤ 8 by omega)]
    simp
  | succ d ih =>
    intro i k acc hi hd hk ha h16
    obtain ⟨k, rfl⟩ : ∃ m, k = m + 1 := ⟨k - 1, by omega⟩
    have hlt : i < ws.length := by omega
    simp only [impl_ParseAsk.l0]
    rw [if_pos (by omega), if_pos (by omega), if_pos (by rw [List.length_map]; omega), rdB ws i hlt, impl_atom _ (hw _ (List.getElem_mem hlt)) k (by omega), Option.bind_some, List.drop_eq_getElem_cons hlt, List.all_cons]
    cases hok : okQ ws[i] with
    | false =>
      have : (atomI ws[i]).2.2.2.2 = false := hok
      rw [this, if_neg (by decide)]
      rfl
    | true =>
      have : (atomI ws[i]).2.2.2.2 = true := hok
      rw [this, if_pos rfl]
      by_cases c : i = 8
      · rw [if_pos (by omega), decide_eq_false (show ¬ ws.length ≤ 8 by omega), Bool.and_false, if_neg (by decide)]
      · rw [if_neg (by omega), if_pos (by omega), wrap_succ hlt (by omega)]
        have e : (⟨(atomI ws[i]).1, (atomI ws[i]).2.1, (atomI ws[i]).2.2.1, (atomI ws[i]).2.2.2.1⟩ : Atm) = atX ws[i] := rfl
        rw [e, ih (i + 1) k (acc ++ [atX ws[i]]) (by omega) (by omega) (by omega) (by rw [List.length_append, List.length_singleton]; omega) (by omega), Bool.true_and, List.map_cons, List.append_assoc]
        rfl
theorem impl_parseAsk_all (t : List UInt8) (ht : t.length ≤ 1048576) (hne : t ≠ []) (k : Nat) (hk : 400 ≤ k) : impl_ParseAsk.f k (mk t) = some (askRes (Go.Lib.splitK [32, 38, 32] 0 (min 9 (t.length + 1) - 1) t)) := by
  unfold impl_ParseAsk.f
  have h9 := splitNF t [32, 38, 32] 9 ht (by simp) (by omega) (by omega)
  rw [show ((9 : Nat) : Int) = 9 from rfl] at h9
  rw [Option.bind_some, mk_toList, if_neg hne, amp_mk, h9, Option.bind_some, List.length_map]
  have hlen := splitK_len [32, 38, 32] (min 9 (t.length + 1) - 1) t
  have hj := splitK_join [32, 38, 32] (by simp) (min 9 (t.length + 1) - 1) t
  have := impl_ask_loop (Go.Lib.splitK [32, 38, 32] 0 (min 9 (t.length + 1) - 1) t) (by omega) (fun w hw => by have := join_ge [32, 38, 32] _ w hw; rw [hj] at this; omega) _ 0 k [] (by omega) rfl (by omega) rfl (by omega)
  rw [List.drop_zero, List.nil_append] at this
  exact this

/-! ### the reference -/
def atY (p : List UInt8) : Atm := ⟨(atomR p).1, (atomR p).2.1, (atomR p).2.2.1, (atomR p).2.2.2.1⟩
def askR : Bool → List (List UInt8) → List Atm → Option (List Atm)
  | _, [], acc => some acc
  | true, p :: r, acc => if p = [38] then askR false r acc else none
  | false, p :: r, acc => if (atomR p).2.2.2.2 = true then askR true r (acc ++ [atY p]) else none
def finQ (t : List UInt8) (l : List Atm) : AskA := if (askTextW l).2 = true then (if (askTextW l).1.toList = (mk t).toList then (l, true) else ([], false)) else ([], false)
def endQ (t : List UInt8) : Option (List Atm) → AskA
  | none => ([], false)
  | some l => finQ t l
theorem spec_ask_loop (t : List UInt8) (ps : List (List UInt8)) (hn : ps.length ≤ 1000) (hw : ∀ w ∈ ps, w.length ≤ 1000) : ∀ d (i k : Nat) (acc : List Atm), i ≤ ps.length → ps.length - i = d → 1300 + d < k → acc.length ≤ i →
    spec_ParseAsk.l0 k (mk t) acc (ps.map mk) (i : Int) = some (endQ t (askR (decide (i % 2 = 1)) (ps.drop i) acc)) := by
  intro d
  induction d with
  | zero =>
    intro i k acc hi hd hk ha
    obtain ⟨k, rfl⟩ : ∃ m, k = m + 1 := ⟨k - 1, by omega⟩
    simp only [spec_ParseAsk.l0]
    rw [if_neg (by rw [List.length_map]; omega), List.drop_of_length_le (show ps.length ≤ i by omega), spec_askText acc k (by omega), Option.bind_some]
    have : askR (decide (i % 2 = 1)) [] acc = some acc := by cases decide (i % 2 = 1) <;> rfl
    rw [this]
    show _ = some (finQ t acc)
    unfold finQ
    split
    · split <;> rfl
    · rfl
  | succ d ih =>
    intro i k acc hi hd hk ha
    obtain ⟨k, rfl⟩ : ∃ m, k = m + 1 := ⟨k - 1, by omega⟩
    have hlt : i < ps.length := by omega
    have hm : Int.tmod (i : Int) 2 = ((i % 2 : Nat) : Int) := by rw [Int.tmod_eq_emod_of_nonneg (by omega)]; omega
    simp only [spec_ParseAsk.l0]
    rw [if_pos (by rw [List.length_map]; omega), hm, rdB ps i hlt, List.drop_eq_getElem_cons hlt]
    by_cases c : i % 2 = 1
    · have c' : ¬ (i + 1) % 2 = 1 := by omega
      rw [if_pos (by omega), if_pos (by omega), decide_eq_true c, mk_toList]
      unfold askR
      by_cases e : ps[i] = [38]
      · rw [if_pos e, if_pos e, wrap_succ hlt (by omega), ih (i + 1) k acc (by omega) (by omega) (by omega) (by omega), decide_eq_false c']
      · rw [if_neg e, if_neg e]
        rfl
    · have c' : (i + 1) % 2 = 1 := by omega
      rw [if_neg (by omega), if_pos (by omega), decide_eq_false c, spec_atom _ (hw _ (List.getElem_mem hlt)) k (by omega), Option.bind_some]
      unfold askR
      by_cases e : (atomR ps[i]).2.2.2.2 = true
      · rw [if_pos e, if_pos e, if_pos (by omega), wrap_succ hlt (by omega)]
        have ey : (⟨(atomR ps[i]).1, (atomR ps[i]).2.1, (atomR ps[i]).2.2.1, (atomR ps[i]).2.2.2.1⟩ : Atm) = atY ps[i] := rfl
        rw [ey, ih (i + 1) k (acc ++ [atY ps[i]]) (by omega) (by omega) (by omega) (by rw [List.length_append, List.length_singleton]; omega), decide_eq_true c']
      · rw [if_neg e, if_neg e]
        rfl
theorem spec_parseAsk_all (t : List UInt8) (ht : t.length ≤ 320) (hne : t ≠ []) (k : Nat) (hk : 4000 ≤ k) : spec_ParseAsk.f k (mk t) = some (endQ t (askR false (parts 32 t) [])) := by
  unfold spec_ParseAsk.f
  have h1 : spec_l01Parts.f k (mk t) 32 = _ := l01Parts t 32 (by omega) k (by omega)
  have hlen := parts_len 32 t
  have hj := join_parts 32 t
  rw [mk_toList, if_neg hne, if_neg (by rw [mk_size]; omega), h1, Option.bind_some]
  exact spec_ask_loop t (parts 32 t) (by omega) (fun w hw => by have := join_ge [32] _ w hw; rw [hj] at this; omega) _ 0 k [] (by omega) rfl (by omega) (by simp)

/-! ### both -/
theorem askTextW_good (l : List Atm) (h : goodAsk l) : askTextW l = (mk (askW l), true) := by
  unfold askTextW
  have : l.all atOk = true := List.all_eq_true.2 h.2
  rw [this, decide_eq_true h.1]
  rfl
theorem finQ_sound (t : List UInt8) (l : List Atm) : finQ t l = ([], false) ∨ (goodAsk l ∧ t = askW l) := by
  unfold finQ
  by_cases h : (decide (l.length ≤ 8) && l.all atOk) = true
  · rw [Bool.and_eq_true, decide_eq_true_eq] at h
    have hg : goodAsk l := ⟨h.1, List.all_eq_true.1 h.2⟩
    rw [askTextW_good l hg]
    simp only [if_true]
    by_cases e : (mk (askW l)).toList = (mk t).toList
    · rw [mk_toList, mk_toList] at e
      exact Or.inr ⟨hg, e.symm⟩
    · rw [if_neg e]
      exact Or.inl rfl
  · have : askTextW l = (mk [], false) := by
      unfold askTextW
      rw [if_neg h]
    rw [this]
    exact Or.inl rfl
theorem askRes_good (l : List Atm) (h : goodAsk l) : askRes (l.map atW) = (l, true) := by
  unfold askRes
  have h1 : (l.map atW).all okQ = true := by
    rw [List.all_eq_true]
    intro w hw
    obtain ⟨x, hx, rfl⟩ := List.mem_map.1 hw
    exact (okQ_good (h.2 x hx)).1
  have h2 : (l.map atW).map atX = l := by
    rw [List.map_map]
    conv => rhs; rw [← List.map_id l]
    exact List.map_congr_left fun x hx => (okQ_good (h.2 x hx)).2
  rw [h1, List.length_map, decide_eq_true h.1, h2]
  rfl
theorem askRes_sound (ws : List (List UInt8)) : askRes ws = ([], false) ∨ ∃ l, goodAsk l ∧ ws = l.map atW := by
  unfold askRes
  by_cases h : (ws.all okQ && decide (ws.length ≤ 8)) = true
  · rw [Bool.and_eq_true, decide_eq_true_eq] at h
    refine Or.inr ⟨ws.map atX, ⟨by rw [List.length_map]; exact h.2, fun x hx => ?_⟩, ?_⟩
    · obtain ⟨w, hw, rfl⟩ := List.mem_map.1 hx
      exact (okQ_sound (List.all_eq_true.1 h.1 w hw)).2
    · rw [List.map_map]
      conv => lhs; rw [← List.map_id ws]
      exact List.map_congr_left fun w hw => (okQ_sound (List.all_eq_true.1 h.1 w hw)).1.symm
  · rw [if_neg h]
    exact Or.inl rfl
theorem join_amp (p : List UInt8) : ∀ ws : List (List UInt8), Go.Lib.join (p :: ws) [32, 38, 32] = Go.Lib.join (p :: ws.flatMap (fun w => [[38], w])) [32] := by
  intro ws
  induction ws generalizing p with
  | nil => rfl
  | cons x ws ih =>
    rw [List.flatMap_cons, Go.Lib.join_cons, joinTail_join, ih x]
    show _ = Go.Lib.join (p :: [38] :: x :: ws.flatMap fun w => [[38], w]) [32]
    rw [Go.Lib.join_cons p, joinTail_join, Go.Lib.join_cons [38], joinTail_join]
    simp
theorem atW_no (x : Atm) : (32 : UInt8) ∉ atW x := by
  have h1 := itoa_not x.f1 32 (by decide)
  have h2 := itoa_not x.f2 32 (by decide)
  have h3 := itoa_not x.f3 32 (by decide)
  unfold atW
  split
  · split
    · simp only [List.mem_append, List.mem_cons, List.not_mem_nil, or_false, not_or]
      exact ⟨⟨⟨⟨h1, by decide⟩, h2⟩, by decide⟩, h3⟩
    · simp only [List.mem_append, List.mem_cons, List.not_mem_nil, or_false, not_or]
      exact ⟨⟨⟨by decide, h2⟩, by decide, by decide⟩, h3⟩
  · simp
theorem askR_good : ∀ (r : List Atm) (acc : List Atm), (∀ x ∈ r, atOk x = true) → askR true ((r.map atW).flatMap (fun w => [[38], w])) acc = some (acc ++ r)
  | [], acc, _ => by simp [askR]
  | x :: r, acc, h => by
    have hx := atomR_good (h x List.mem_cons_self)
    have ey : atY (atW x) = x := by unfold atY; rw [hx]
    rw [List.map_cons, List.flatMap_cons]
    show askR true ([38] :: atW x :: (r.map atW).flatMap fun w => [[38], w]) acc = _
    simp only [askR, if_true]
    rw [hx]
    simp only [if_true]
    rw [ey, askR_good r _ (fun y hy => h y (List.mem_cons_of_mem _ hy))]
    simp
theorem itoa_shortQ {x : Int} (h : valB x = true) : (Go.Lib.itoa x).length ≤ 8 := by
  have hx := valB_range h
  unfold Go.Lib.itoa
  split
  · have := digits7 x.natAbs (by omega)
    simp only [List.length_cons]
    omega
  · have := digits7 x.toNat (by omega)
    omega
theorem atW_short {x : Atm} (h : atOk x = true) : (atW x).length ≤ 30 := by
  obtain ⟨v1, v2, v3⟩ := atOk_vals h
  have h1 := itoa_shortQ v1
  have h2 := itoa_shortQ v2
  have h3 := itoa_shortQ v3
  unfold atW
  rw [if_pos h]
  split <;> simp only [List.length_append, List.length_cons, List.length_nil] <;> omega
theorem askW_len (l : List Atm) (h : goodAsk l) : (askW l).length ≤ 264 := by
  have h1 : ∀ x ∈ l.map atW, x.length + ([32, 38, 32] : List UInt8).length ≤ 33 := by
    intro w hw
    obtain ⟨x, hx, rfl⟩ := List.mem_map.1 hw
    have := atW_short (h.2 x hx)
    show (atW x).length + 3 ≤ 33
    omega
  have h3 := join_len [32, 38, 32] 33 _ h1
  rw [List.length_map] at h3
  have h2 : l.length * 33 ≤ 8 * 33 := Nat.mul_le_mul_right 33 h.1
  unfold askW
  omega
theorem parseAsk_yes (x : Atm) (r : List Atm) (h : goodAsk (x :: r)) (k : Nat) (hk : 4000 ≤ k) :
    spec_ParseAsk.f k (mk (askW (x :: r))) = some (x :: r, true) ∧ impl_ParseAsk.f k (mk (askW (x :: r))) = some (x :: r, true) := by
  have hxne : atW x ≠ [] := fun e => by
    have := (atW_nil x).1 e
    rw [h.2 x List.mem_cons_self] at this
    cases this
  have hne : askW (x :: r) ≠ [] := join_ne _ _ _ hxne
  have hl := askW_len _ h
  have hlong := splitLongQ [32, 38, 32] (by simp) (r.map atW) (atW x)
  have h16 := h.1
  rw [List.length_cons] at h16
  constructor
  · have hp : parts 32 (askW (x :: r)) = atW x :: (r.map atW).flatMap (fun w => [[38], w]) := by
      unfold askW
      rw [List.map_cons, join_amp, parts_words]
      intro w hw
      rcases List.mem_cons.1 hw with rfl | hw
      · exact atW_no x
      · obtain ⟨v, hv, hw⟩ := List.mem_flatMap.1 hw
        obtain ⟨y, _, rfl⟩ := List.mem_map.1 hv
        simp only [List.mem_cons, List.not_mem_nil, or_false] at hw
        rcases hw with rfl | rfl
        · decide
        · exact atW_no y
    have hx := atomR_good (h.2 x List.mem_cons_self)
    have ey : atY (atW x) = x := by unfold atY; rw [hx]
    rw [spec_parseAsk_all _ (by omega) hne k hk, hp]
    simp only [askR]
    rw [hx]
    simp only [if_true]
    rw [ey, askR_good r _ (fun y hy => h.2 y (List.mem_cons_of_mem _ hy))]
    show some (finQ _ ([] ++ [x] ++ r)) = _
    rw [List.nil_append, List.singleton_append]
    unfold finQ
    rw [askTextW_good _ h]
    simp
  · rw [impl_parseAsk_all _ (by omega) hne k (by omega)]
    have hs : Go.Lib.splitK [32, 38, 32] 0 (min 9 ((askW (x :: r)).length + 1) - 1) (askW (x :: r)) = (x :: r).map atW := by
      have e : askW (x :: r) = Go.Lib.join (atW x :: r.map atW) [32, 38, 32] := rfl
      rw [List.length_map] at hlong
      rw [e, List.map_cons]
      refine splitK_words 32 [38, 32] (r.map atW) (atW x) _ ?_ (by rw [List.length_map]; omega)
      intro w hw
      rw [← List.map_cons] at hw
      obtain ⟨y, _, rfl⟩ := List.mem_map.1 hw
      exact atW_no y
    rw [hs, askRes_good _ h]
theorem parseAsk_no (t : List UInt8) (ht : t.length ≤ 1048576) (hne : t ≠ []) (hn : ∀ l, goodAsk l → t ≠ askW l) (k : Nat) (hk : 4000 ≤ k) :
    spec_ParseAsk.f k (mk t) = some ([], false) ∧ impl_ParseAsk.f k (mk t) = some ([], false) := by
  constructor
  · by_cases hl : t.length ≤ 320
    · rw [spec_parseAsk_all t hl hne k hk]
      cases askR false (parts 32 t) [] with
      | none => rfl
      | some l =>
        rcases finQ_sound t l with e | ⟨hg, e⟩
        · exact congrArg some e
        · exact absurd e (hn l hg)
    · unfold spec_ParseAsk.f
      rw [mk_toList, if_neg hne, if_pos (by rw [mk_size]; omega)]
  · rw [impl_parseAsk_all t ht hne k (by omega)]
    rcases askRes_sound (Go.Lib.splitK [32, 38, 32] 0 (min 9 (t.length + 1) - 1) t) with e | ⟨l, hg, e⟩
    · rw [e]
    · refine absurd ?_ (hn l hg)
      unfold askW
      rw [← e, splitK_join [32, 38, 32] (by simp)]
theorem parseAsk_nil (k : Nat) : spec_ParseAsk.f k (mk []) = some ([], true) ∧ impl_ParseAsk.f k (mk []) = some ([], true) := by
  unfold spec_ParseAsk.f impl_ParseAsk.f
  rw [Option.bind_some, mk_toList, if_pos rfl, if_pos rfl]
  exact ⟨rfl, rfl⟩
theorem parseAsk_same (t : List UInt8) (ht : t.length ≤ 1048576) : ∃ l b, l.length ≤ 16 ∧ (∀ k, 4000 ≤ k → spec_ParseAsk.f k (mk t) = some (l, b)) ∧ (∀ k, 4000 ≤ k → impl_ParseAsk.f k (mk t) = some (l, b)) := by
  by_cases hne : t = []
  · subst hne
    exact ⟨[], true, by simp, fun k _ => (parseAsk_nil k).1, fun k _ => (parseAsk_nil k).2⟩
  · by_cases h : ∃ l, goodAsk l ∧ t = askW l
    · obtain ⟨l, hg, rfl⟩ := h
      cases l with
      | nil => exact absurd rfl hne
      | cons x r => exact ⟨x :: r, true, by have := hg.1; omega, fun k hk => (parseAsk_yes x r hg k hk).1, fun k hk => (parseAsk_yes x r hg k hk).2⟩
    · have hn : ∀ l, goodAsk l → t ≠ askW l := fun l hg e => h ⟨l, hg, e⟩
      exact ⟨[], false, by simp, fun k hk => (parseAsk_no t ht hne hn k hk).1, fun k hk => (parseAsk_no t ht hne hn k hk).2⟩

end Go.Proofs.YtchpopocnaoabaaDoor.Pure
