/- Parsing a memory's text: the program's and the reference's ParseMem give a memory exactly where the text is its text. No condition but on the length. -/
import Derived.Test.YtchpopocnaoabaaDoorRead
import Derived.Test.YtchpopocnaoabaaDoorLine
import Derived.Test.YtchpopocnaoabaaDoorPimplParseMem
import Derived.Test.YtchpopocnaoabaaDoorPspecParseMem
namespace Go.Proofs.YtchpopocnaoabaaDoor.Pure
open Go.RowKit Go.Proofs.YtchpopocnaoabaaDoor.P Go.Proofs.YtchpopocnaoabaaDoor.Gen Go.Proofs.YtchpopocnaoabaaDoorW.PrintWords Go.Proofs.YtchpopocnaoabaaDoor.Split

theorem sep_mk : (⟨#[32]⟩ : ByteArray) = mk [32] := rfl
/-- strings.SplitN at a separator, of a text. -/
theorem splitNF (l sep : List UInt8) (n : Nat) (hl : l.length ≤ 1048576) (hs : 1 ≤ sep.length) (hn : 1 ≤ n) (hn2 : n ≤ 100) : strings_SplitN.f (mk l) (mk sep) (n : Int) = some ((Go.Lib.splitK sep 0 (min n (l.length + 1) - 1) l).map mk) := by
 unfold strings_SplitN.f
 rw [if_pos (by rw [mk_size]; omega), if_pos (by rw [mk_size]; exact hs), if_pos (by omega), Int.toNat_natCast, mk_size]
 refine congrArg some ?_
 have h := Go.Lib.splitB_data (mk sep) 0 (min n (l.length + 1) - 1) (mk l)
 rw [mk_list, mk_list] at h
 rw [← h, List.map_map]
 have : (mk ∘ fun s : ByteArray => s.data.toList) = id := by funext s; exact list_mk s
 rw [this, List.map_id]
theorem atoiF (w : List UInt8) (h : w.length ≤ 1048576) : strconv_Atoi.f (mk w) = some (atoiR w) := by
 unfold strconv_Atoi.f
 rw [if_pos (by rw [mk_size]; omega), mk_list]

def memRes (l : List UInt8) (vs : List Int) : List Int × Bool := if memB vs = true ∧ memTextW vs = l then (vs, true) else ([], false)
theorem impl_parse_loop (l : List UInt8) (ps : List (List UInt8)) (hps : ∀ w ∈ ps, w.length ≤ 1048576) (hn : ps.length ≤ 20) : ∀ d (j : Nat) k (acc : List Int), j ≤ ps.length → ps.length - j = d → 60 + d < k → acc.length ≤ j →
  impl_ParseMem.l0 k (mk l) (ps.map mk) (ps.length : Int) (j : Int) acc = some (if (ps.drop j).all (fun w => !(atoiR w).2) = true then memRes l (acc ++ (ps.drop j).map fun w => (atoiR w).1) else ([], false)) := by
 intro d
 induction d with
 | zero =>
  intro j k acc hj hd hk ha
  obtain ⟨k, rfl⟩ : ∃ m, k = m + 1 := ⟨k - 1, by omega⟩
  simp only [impl_ParseMem.l0]
  rw [if_neg (by omega), impl_memOk, Option.bind_some, List.drop_of_length_le (by omega)]
  simp only [List.all_nil, if_true, List.map_nil, List.append_nil]
  unfold memRes
  by_cases h : memB acc = true
  rotate_left
  ·rw [if_neg h, if_neg (fun c => h c.1)]
  rw [if_pos h, impl_memText acc k (by omega), Option.bind_some, mk_toList, mk_toList]
  by_cases e : memTextW acc = l
  rotate_left
  ·rw [if_neg e, if_neg (fun c => e c.2)]
  rw [if_pos e, if_pos ⟨h, e⟩]
 | succ d ih =>
  intro j k acc hj hd hk ha
  obtain ⟨k, rfl⟩ : ∃ m, k = m + 1 := ⟨k - 1, by omega⟩
  have hlt : j < ps.length := by omega
  simp only [impl_ParseMem.l0]
  rw [if_pos (by omega), if_pos (by omega), if_pos (by rw [List.length_map]; omega), rdB ps j hlt, atoiF _ (hps _ (List.getElem_mem hlt)), Option.bind_some, List.drop_eq_getElem_cons hlt, List.all_cons, List.map_cons]
  cases hb : (atoiR ps[j]).2 with
  | true => rfl
  | false =>
   rw [if_neg (by decide), if_pos (by omega), wrap_succ hlt (by omega), ih (j + 1) k _ (by omega) (by omega) (by omega) (by simp; omega)]
   simp
theorem impl_parseMem_all (l : List UInt8) (hl : l.length ≤ 1048576) (k : Nat) (hk : 100 ≤ k) :
  impl_ParseMem.f k (mk l) = some (if (Go.Lib.splitK [32] 0 (min 17 (l.length + 1) - 1) l).all (fun w => !(atoiR w).2) = true then memRes l ((Go.Lib.splitK [32] 0 (min 17 (l.length + 1) - 1) l).map fun w => (atoiR w).1) else ([], false)) := by
 unfold impl_ParseMem.f
 have h17 := splitNF l [32] 17 hl (by simp) (by omega) (by omega)
 rw [sep_mk]
 rw [show ((17 : Nat) : Int) = 17 from rfl] at h17
 rw [h17, Option.bind_some]
 have hj := splitK_join [32] (by simp) (min 17 (l.length + 1) - 1) l
 have hlen := splitK_len [32] (min 17 (l.length + 1) - 1) l
 have hps : ∀ w ∈ Go.Lib.splitK [32] 0 (min 17 (l.length + 1) - 1) l, w.length ≤ 1048576 := fun w hw => by
  have := join_ge [32] _ w hw
  rw [hj] at this
  omega
 have := impl_parse_loop l _ hps (by omega) _ 0 k [] (by omega) rfl (by omega) (by simp)
 rw [List.length_map]
 simpa using this

def specRes (vs : List Int) : List Int × Bool := if memB vs = true then (vs, true) else ([], false)
theorem spec_parse_loop (ps : List (List UInt8)) (hps : ∀ w ∈ ps, w.length ≤ 1048576) (hn : ps.length ≤ 1000) : ∀ d (j : Nat) k (acc : List Int), j ≤ ps.length → ps.length - j = d → 60 + d < k → acc.length ≤ j →
  spec_ParseMem.l0 k (ps.map mk) (j : Int) acc = some (if (ps.drop j).all (fun w => (readR w).2) = true then specRes (acc ++ (ps.drop j).map fun w => (readR w).1) else ([], false)) := by
 intro d
 induction d with
 | zero =>
  intro j k acc hj hd hk ha
  obtain ⟨k, rfl⟩ : ∃ m, k = m + 1 := ⟨k - 1, by omega⟩
  simp only [spec_ParseMem.l0]
  rw [if_neg (by rw [List.length_map]; omega), spec_memOk acc k (by omega), Option.bind_some, List.drop_of_length_le (by omega)]
  simp only [List.all_nil, if_true, List.map_nil, List.append_nil]
  unfold specRes
  by_cases h : memB acc = true
  rotate_left
  ·rw [if_neg h, if_neg h]
  rw [if_pos h, if_pos h]
 | succ d ih =>
  intro j k acc hj hd hk ha
  obtain ⟨k, rfl⟩ : ∃ m, k = m + 1 := ⟨k - 1, by omega⟩
  have hlt : j < ps.length := by omega
  simp only [spec_ParseMem.l0]
  rw [if_pos (by rw [List.length_map]; omega), if_pos (by omega), rdB ps j hlt, l01Read _ (hps _ (List.getElem_mem hlt)) k (by omega), Option.bind_some, List.drop_eq_getElem_cons hlt, List.all_cons, List.map_cons]
  cases hb : (readR ps[j]).2 with
  | false => rfl
  | true =>
   rw [if_pos rfl, if_pos (by omega), wrap_succ hlt (by omega), ih (j + 1) k _ (by omega) (by omega) (by omega) (by simp; omega)]
   simp
theorem parts_len (c : UInt8) : ∀ l, (parts c l).length ≤ l.length + 1
 | [] => by simp [parts]
 | b :: l => by
  have ih := parts_len c l
  obtain ⟨p, r, h⟩ := parts_cons c l
  unfold parts
  rw [h] at ih ⊢
  split <;> simp only [List.length_cons] at ih ⊢ <;> omega

/-- The memory that has this text, if there is one. -/
theorem lineW_parts (vs : List Int) (h : vs ≠ []) : parts 32 (lineW vs) = vs.map Go.Lib.itoa := by
 cases vs with
 | nil => exact absurd rfl h
 | cons x r =>
  unfold lineW
  rw [List.map_cons, parts_words]
  intro w hw
  obtain ⟨y, _, rfl⟩ := List.mem_map.1 (by rw [← List.map_cons] at hw; exact hw)
  exact not_in_itoa y 32 (by decide)
theorem lineW_split (vs : List Int) (h : vs ≠ []) (k : Nat) (hk : vs.length ≤ k + 1) : Go.Lib.splitK [32] 0 k (lineW vs) = vs.map Go.Lib.itoa := by
 cases vs with
 | nil => exact absurd rfl h
 | cons x r =>
  unfold lineW
  rw [List.map_cons, splitK_words]
  ·intro w hw
   obtain ⟨y, _, rfl⟩ := List.mem_map.1 (by rw [← List.map_cons] at hw; exact hw)
   exact not_in_itoa y 32 (by decide)
  ·rw [List.length_map]
   simp only [List.length_cons] at hk
   omega
theorem lineW_long (vs : List Int) (h : vs ≠ []) : vs.length ≤ (lineW vs).length + 1 := by
 have h1 := parts_len 32 (lineW vs)
 rw [lineW_parts vs h, List.length_map] at h1
 exact h1
theorem memB_ne {vs : List Int} (h : memB vs = true) : vs ≠ [] := fun e => by
 have := memB_len h
 rw [e] at this
 simp at this
theorem memB_small {vs : List Int} (h : memB vs = true) : ∀ x ∈ vs, -10000000 < x ∧ x < 10000000 := by
 unfold memB at h
 rw [Bool.and_eq_true] at h
 intro x hx
 have := valB_range (List.all_eq_true.1 h.2 x hx)
 omega
theorem impl_parseMem_yes (vs : List Int) (h : memB vs = true) (k : Nat) (hk : 100 ≤ k) : impl_ParseMem.f k (mk (lineW vs)) = some (vs, true) := by
 have hn := memB_len h
 have hlw := lineW_len' vs
 have hsz : (lineW vs).length ≤ 352 := hlw hn.2 (memB_vals h)
 rw [impl_parseMem_all _ (by omega) k hk, lineW_split vs (memB_ne h) _ (by have := lineW_long vs (memB_ne h); omega)]
 have hs := memB_small h
 have e1 : (vs.map Go.Lib.itoa).all (fun w => !(atoiR w).2) = true := by
  rw [List.all_eq_true]
  intro w hw
  obtain ⟨x, hx, rfl⟩ := List.mem_map.1 hw
  rw [atoiR_itoa x (hs x hx)]
  rfl
 have e2 : (vs.map Go.Lib.itoa).map (fun w => (atoiR w).1) = vs := by
  rw [List.map_map]
  conv => rhs; rw [← List.map_id vs]
  refine List.map_congr_left fun x hx => ?_
  show (atoiR (Go.Lib.itoa x)).1 = x
  rw [atoiR_itoa x (hs x hx)]
 rw [if_pos e1, e2]
 unfold memRes
 rw [if_pos ⟨h, if_pos h⟩]
theorem impl_parseMem_no (l : List UInt8) (hl : l.length ≤ 1048576) (h : ∀ vs, memB vs = true → l ≠ lineW vs) (k : Nat) (hk : 100 ≤ k) : impl_ParseMem.f k (mk l) = some ([], false) := by
 rw [impl_parseMem_all l hl k hk]
 split
 ·unfold memRes
  rw [if_neg]
  rintro ⟨h1, h2⟩
  unfold memTextW at h2
  rw [if_pos h1] at h2
  exact h _ h1 h2.symm
 ·rfl
theorem spec_parseMem_yes (vs : List Int) (h : memB vs = true) (k : Nat) (hk : 1000 ≤ k) : spec_ParseMem.f k (mk (lineW vs)) = some (vs, true) := by
 have hn := memB_len h
 have hs := memB_small h
 have hlen : (lineW vs).length ≤ 144 := by
  have h9 : ∀ x ∈ vs.map Go.Lib.itoa, x.length + 1 ≤ 9 := by
   intro w hw
   obtain ⟨x, hx, rfl⟩ := List.mem_map.1 hw
   unfold Go.Lib.itoa
   have hd : ∀ u, u < 10000000 → (Go.Lib.decDigits u).length ≤ 7 := digits7
   have := hs x hx
   split
   ·have := hd x.natAbs (by omega)
    simp only [List.length_cons]
    omega
   ·have := hd x.toNat (by omega)
    omega
  have := join_len [32] 9 (vs.map Go.Lib.itoa) h9
  rw [List.length_map] at this
  unfold lineW
  omega
 unfold spec_ParseMem.f
 rw [if_neg (by rw [mk_size]; omega)]
 have hp := l01Parts (lineW vs) 32 (by omega) k (by omega)
 have hp' : spec_l01Parts.f k (mk (lineW vs)) 32 = _ := hp
 rw [hp', Option.bind_some, lineW_parts vs (memB_ne h)]
 have hws : ∀ w ∈ vs.map Go.Lib.itoa, w.length ≤ 1048576 := by
  intro w hw
  obtain ⟨x, hx, rfl⟩ := List.mem_map.1 hw
  have := hs x hx
  have := itoa_len x (by omega) (by omega)
  omega
 have := spec_parse_loop (vs.map Go.Lib.itoa) hws (by rw [List.length_map]; omega) _ 0 k [] (by omega) rfl (by rw [List.length_map]; omega) (by simp)
 have e1 : (vs.map Go.Lib.itoa).all (fun w => (readR w).2) = true := by
  rw [List.all_eq_true]
  intro w hw
  obtain ⟨x, hx, rfl⟩ := List.mem_map.1 hw
  rw [readR_itoa x (hs x hx)]
 have e2 : (vs.map Go.Lib.itoa).map (fun w => (readR w).1) = vs := by
  rw [List.map_map]
  conv => rhs; rw [← List.map_id vs]
  refine List.map_congr_left fun x hx => ?_
  show (readR (Go.Lib.itoa x)).1 = x
  rw [readR_itoa x (hs x hx)]
 rw [List.drop_zero, if_pos e1, List.nil_append, e2] at this
 refine Eq.trans this ?_
 unfold specRes
 rw [if_pos h]
theorem spec_parseMem_no (l : List UInt8) (hl : l.length ≤ 1048576) (h : ∀ vs, memB vs = true → l ≠ lineW vs) (k : Nat) (hk : 1000 ≤ k) : spec_ParseMem.f k (mk l) = some ([], false) := by
 unfold spec_ParseMem.f
 by_cases hc : l.length ≤ 144
 rotate_left
 ·rw [if_pos (by rw [mk_size]; omega)]
 rw [if_neg (by rw [mk_size]; omega)]
 have hp' : spec_l01Parts.f k (mk l) 32 = _ := l01Parts l 32 hl k (by omega)
 have hlen := parts_len 32 l
 have hj := join_parts 32 l
 have hws : ∀ w ∈ parts 32 l, w.length ≤ 1048576 := fun w hw => by
  have := join_ge [32] _ w hw
  rw [hj] at this
  omega
 rw [hp', Option.bind_some]
 have := spec_parse_loop (parts 32 l) hws (by omega) _ 0 k [] (by omega) rfl (by omega) (by simp)
 refine Eq.trans this ?_
 rw [List.drop_zero, List.nil_append]
 split
 ·next hall =>
  unfold specRes
  rw [if_neg]
  intro hm
  refine h _ hm ?_
  unfold lineW
  have e : ((parts 32 l).map fun w => (readR w).1).map Go.Lib.itoa = parts 32 l := by
   rw [List.map_map]
   conv => rhs; rw [← List.map_id (parts 32 l)]
   refine List.map_congr_left fun w hw => ?_
   have := List.all_eq_true.1 hall w hw
   exact (readR_true this).1.symm
  rw [e]
  exact hj.symm
 ·rfl

end Go.Proofs.YtchpopocnaoabaaDoor.Pure
