import Derived.Test.YtbgclnjnngolmaaScal
import Derived.Test.YtbgclnjnngolmaaGen
import Derived.Test.YtbgclnjnngolmaaPimplPutFences
import Derived.Test.YtbgclnjnngolmaaPspecPutFences
import Derived.Test.YtbgclnjnngolmaaPimplStripFences
import Derived.Test.YtbgclnjnngolmaaPimplFenceCost
import Derived.Test.YtbgclnjnngolmaaPlawsbig
import Derived.Laws.BitsLemmas
import Derived.Test.YtbgclnjnngolmaaPspecDrawPutFences
import Derived.Test.YtbgclnjnngolmaaPlawsFnStripped
/- Fences put in, taken out and counted, as plain words; the reference's test of a program. (Picked by tools/pick.py out of the templates of the single laws.) No condition but on lengths. -/
namespace Go.Proofs.Ytbgclnjnngolmaa.Pure
open Go.RowKit Go.Proofs.Ytbgclnjnngolmaa.P Go.Proofs.Ytbgclnjnngolmaa.Gen Go.Proofs.YtbgclnjnngolmaaW.PrintWords
set_option linter.unusedSimpArgs false
set_option linter.unusedVariables false

/-- A piece put ahead of the first part. -/
def ahead (p : List UInt8) : List (List UInt8) → List (List UInt8)
 | [] => [p]
 | q :: r => (p ++ q) :: r
abbrev Ins := S50
theorem rdIns (l : List Ins) (j : Nat) (h : j < l.length) : rd_T50 l (j : Int) = l[j] := getD_nat _ l j h
theorem rdCode (l : List (List Ins)) (j : Nat) (h : j < l.length) : l.getD (j : Int).toNat [] = l[j] := getD_nat _ l j h
def sp (p : List UInt8) : Bool := p.head? == some 32
/-- Is (op, r, s, n) an instruction of a code of z instructions, of a program with c cells? -/
def insB (op r s n c z : Int) : Bool :=
 inB c 1 16 && inB z 0 16 && inB op 0 8 && inB r 0 3 && inB s 0 3 &&
 (op != 4 || r == 0) && (op == 1 || op == 8 || op == 5 || op == 7 || s == 0) && (!(op == 1 || op == 8 || op == 4) || n == 0) &&
 (op == 1 || op == 8 || op == 4 || (if op = 0 then inB n (-1000) 1000 else if op = 6 then inB n 0 z else inB n 0 (c - 1)))
theorem impl_instrOk_at (op r s n c z : Int) : impl_InstrOk.f 2 op r s n c z = some (insB op r s n c z) := by
 unfold impl_InstrOk.f insB impl_isRegister.f
 simp only [within, Option.bind_some]
 by_cases h1 : inB c 1 16 = true
 ·by_cases h2 : inB z 0 16 = true
  ·by_cases h3 : inB op 0 8 = true
   ·by_cases h4 : inB r 0 3 = true
    ·by_cases h5 : inB s 0 3 = true
     ·have hc := inB_true.1 h1
      have hw : wrap64 (c - 1) = c - 1 := wrap_id (by omega) (by omega)
      have ho := inB_true.1 h3
      simp only [h1, h2, h3, h4, h5, if_true, Bool.true_and, Bool.not_true]
      obtain h | h | h | h | h | h | h | h | h : op = 0 ∨ op = 1 ∨ op = 2 ∨ op = 3 ∨ op = 4 ∨ op = 5 ∨ op = 6 ∨ op = 7 ∨ op = 8 := by omega
      all_goals
       subst h
       simp only [impl_InstrOk.j0, impl_InstrOk.j1, impl_Instr_usesR.f, impl_Instr_usesS.f, impl_Instr_usesN.f, within, Option.bind_some, hw]
       by_cases hr : r = 0 <;> by_cases hs : s = 0 <;> by_cases hn : n = 0 <;> simp [hr, hs, hn]
     ·simp [h1, h2, h3, h4, h5, impl_InstrOk.j0]
    ·simp [h1, h2, h3, h4, impl_InstrOk.j0]
   ·simp [h1, h2, h3, impl_InstrOk.j0]
  ·simp [h1, h2, impl_InstrOk.j0]
 ·simp [h1, impl_InstrOk.j0]
theorem impl_instrOk (op r s n c z : Int) (k : Nat) (hk : 2 ≤ k) : impl_InstrOk.f k op r s n c z = some (insB op r s n c z) :=
 at_rounds (impl_InstrOk.mono op r s n c z) hk (impl_instrOk_at op r s n c z)
/-- Which fields an operation names: 114 r, 115 s, 110 n. -/
def namedB (op f : Int) : Bool :=
 if f = 114 then op != 4 else if f = 115 then op == 1 || op == 8 || op == 5 || op == 7 else !(op == 1 || op == 8 || op == 4)
theorem named_at (op f : Int) (h0 : 0 ≤ op) (h8 : op ≤ 8) (hf : f = 114 ∨ f = 115 ∨ f = 110) : spec_l02Named.f 5 op f = some (namedB op f) := by
 obtain h | h | h | h | h | h | h | h | h : op = 0 ∨ op = 1 ∨ op = 2 ∨ op = 3 ∨ op = 4 ∨ op = 5 ∨ op = 6 ∨ op = 7 ∨ op = 8 := by omega
 all_goals
  subst h
  obtain h | h | h := hf
  all_goals
   subst h
   decide +kernel
theorem named (op f : Int) (h0 : 0 ≤ op) (h8 : op ≤ 8) (hf : f = 114 ∨ f = 115 ∨ f = 110) (k : Nat) (hk : 5 ≤ k) : spec_l02Named.f k op f = some (namedB op f) :=
 at_rounds (spec_l02Named.mono op f) hk (named_at op f h0 h8 hf)
theorem spec_instrOk_at (op r s n c z : Int) : spec_InstrOk.f 10 op r s n c z = some (insB op r s n c z) := by
 unfold spec_InstrOk.f insB
 simp only [l01In, Option.bind_some]
 by_cases h1 : inB c 1 16 = true
 ·by_cases h2 : inB z 0 16 = true
  ·by_cases h3 : inB op 0 8 = true
   ·simp only [h1, h2, h3, if_true, Bool.true_and, Bool.not_true]
    have hc := inB_true.1 h1
    have hw : wrap64 (c - 1) = c - 1 := wrap_id (by omega) (by omega)
    have ho := inB_true.1 h3
    have hnm := fun f hf => named op f ho.1 ho.2 hf 8 (by omega)
    simp only [spec_InstrOk.j0, l01In, Option.bind_some]
    by_cases h4 : inB r 0 3 = true
    ·by_cases h5 : inB s 0 3 = true
     ·simp only [h4, h5, if_true, Bool.true_and, Bool.not_true, spec_InstrOk.j1, hnm 114 (by omega), hnm 115 (by omega), hnm 110 (by omega), Option.bind_some]
      obtain h | h | h | h | h | h | h | h | h : op = 0 ∨ op = 1 ∨ op = 2 ∨ op = 3 ∨ op = 4 ∨ op = 5 ∨ op = 6 ∨ op = 7 ∨ op = 8 := by omega
      all_goals
       subst h
       simp only [spec_InstrOk.j2, spec_InstrOk.j3, l01In, Option.bind_some, hw, namedB]
       by_cases hr : r = 0 <;> by_cases hs : s = 0 <;> by_cases hn : n = 0 <;> simp [hr, hs, hn]
     ·simp [h4, h5, spec_InstrOk.j1]
    ·simp [h4, spec_InstrOk.j1]
   ·simp [h1, h2, h3, spec_InstrOk.j0]
  ·simp [h1, h2, spec_InstrOk.j0]
 ·simp [h1, spec_InstrOk.j0]
theorem spec_instrOk (op r s n c z : Int) (k : Nat) (hk : 10 ≤ k) : spec_InstrOk.f k op r s n c z = some (insB op r s n c z) :=
 at_rounds (spec_InstrOk.mono op r s n c z) hk (spec_instrOk_at op r s n c z)
def codeB (c : Int) (q : List Ins) : Bool := decide (q.length ≤ 16) && q.all fun x => insB x.f0 x.f1 x.f2 x.f3 c (q.length : Int)
def progB (c : Int) (l : List (List Ins)) : Bool := inB c 1 16 && (inB (l.length : Int) 1 3 && l.all (codeB c))
theorem progB_facts {c : Int} {l : List (List Ins)} (h : progB c l = true) : (1 ≤ c ∧ c ≤ 16) ∧ (1 ≤ l.length ∧ l.length ≤ 3) ∧ ∀ q ∈ l, q.length ≤ 16 := by
 unfold progB at h
 simp only [Bool.and_eq_true, List.all_eq_true] at h
 have h1 := inB_true.1 h.1
 have h2 := inB_true.1 h.2.1
 refine ⟨h1, ⟨by omega, by omega⟩, fun q hq => ?_⟩
 have := h.2.2 q hq
 unfold codeB at this
 rw [Bool.and_eq_true] at this
 exact of_decide_eq_true this.1
theorem impl_progOk (c : Int) (l : List (List Ins)) : impl_ProgOk.f c l = some (progB c l) := by
 unfold impl_ProgOk.f progB
 have e : ∀ q : List Ins, (decide (q.length ≤ 16) && q.all (impl_ProgOk.one_ c (q.length : Int))) = codeB c q := fun q => by
  unfold codeB
  congr 1
  congr 1
  funext x
  unfold impl_ProgOk.one_
  rw [impl_instrOk x.f0 x.f1 x.f2 x.f3 c (q.length : Int) 3 (by omega)]
  rfl
 rw [show (fun q : List Ins => decide (q.length ≤ 16) && q.all (impl_ProgOk.one_ c (q.length : Int))) = codeB c from funext e]
 rfl
theorem spec_progOk_inner (c : Int) (l : List (List Ins)) (i : Nat) (hi : i < l.length) (hl : l.length ≤ 3) (h16 : l[i].length ≤ 16) (R : Option Bool) (K : Nat) (hR : ∀ k, K ≤ k → spec_ProgOk.l0 k ((i + 1 : Nat) : Int) c l = R) :
  ∀ d k (j : Nat), j ≤ l[i].length → l[i].length - j = d → K + d + 12 < k →
   spec_ProgOk.l1 k (i : Int) (j : Int) c l = if ((l[i].drop j).all fun x => insB x.f0 x.f1 x.f2 x.f3 c (l[i].length : Int)) = true then R else some false := by
 intro d
 induction d with
 | zero =>
  intro k j hj hd hk
  obtain ⟨k, rfl⟩ : ∃ m, k = m + 1 := ⟨k - 1, by omega⟩
  obtain rfl : j = l[i].length := by omega
  simp only [spec_ProgOk.l1]
  rw [if_pos (by omega), if_pos (by omega)]
  have e := rdCode l i hi
  simp only [rd_L4, e]
  rw [if_neg (by omega), wrap_succ hi (by omega), hR k (by omega), List.drop_length]
  rfl
 | succ d ih =>
  intro k j hj hd hk
  obtain ⟨k, rfl⟩ : ∃ m, k = m + 1 := ⟨k - 1, by omega⟩
  have hlt : j < l[i].length := by omega
  simp only [spec_ProgOk.l1]
  rw [if_pos (by omega), if_pos (by omega)]
  have e := rdCode l i hi
  simp only [rd_L4, e]
  rw [if_pos (by omega), if_pos (by omega), rdIns _ _ hlt, spec_instrOk _ _ _ _ _ _ k (by omega), Option.bind_some, wrap_succ hlt (by omega), List.drop_eq_getElem_cons hlt, List.all_cons]
  by_cases c1 : insB l[i][j].f0 l[i][j].f1 l[i][j].f2 l[i][j].f3 c (l[i].length : Int) = true
  ·rw [if_pos c1, ih k (j + 1) (by omega) (by omega) (by omega), c1, Bool.true_and]
  ·rw [if_neg c1]
   simp [c1]
theorem spec_progOk_outer (c : Int) (l : List (List Ins)) (hl : l.length ≤ 3) : ∀ d k (i : Nat), i ≤ l.length → l.length - i = d → d * 40 < k → spec_ProgOk.l0 k (i : Int) c l = some ((l.drop i).all (codeB c)) := by
 intro d
 induction d with
 | zero =>
  intro k i hi hd hk
  obtain ⟨k, rfl⟩ : ∃ m, k = m + 1 := ⟨k - 1, by omega⟩
  obtain rfl : i = l.length := by omega
  simp only [spec_ProgOk.l0]
  rw [if_neg (by omega), List.drop_length]
  rfl
 | succ d ih =>
  intro k i hi hd hk
  obtain ⟨k, rfl⟩ : ∃ m, k = m + 1 := ⟨k - 1, by omega⟩
  have hlt : i < l.length := by omega
  simp only [spec_ProgOk.l0]
  rw [if_pos (by omega), if_pos (by omega)]
  have e := rdCode l i hlt
  simp only [rd_L4, e]
  rw [List.drop_eq_getElem_cons hlt, List.all_cons]
  by_cases h : l[i].length ≤ 16
  ·rw [if_neg (by omega)]
   have := spec_progOk_inner c l i hlt hl h (some ((l.drop (i + 1)).all (codeB c))) (d * 40 + 1) (fun k hk => ih k (i + 1) (by omega) (by omega) (by omega)) l[i].length k 0 (Nat.zero_le _) (by omega) (by omega)
   rw [show (0 : Int) = ((0 : Nat) : Int) from rfl, this, List.drop_zero]
   unfold codeB
   rw [decide_eq_true h, Bool.true_and]
   by_cases c1 : (l[i].all fun x => insB x.f0 x.f1 x.f2 x.f3 c (l[i].length : Int)) = true
   ·rw [if_pos c1, c1, Bool.true_and]
   ·rw [if_neg c1]
    simp [c1]
  ·rw [if_pos (by omega)]
   unfold codeB
   simp [h]
theorem spec_progOk (c : Int) (l : List (List Ins)) (k : Nat) (hk : 130 ≤ k) : spec_ProgOk.f k c l = some (progB c l) := by
 unfold spec_ProgOk.f progB
 obtain ⟨k, rfl⟩ : ∃ m, k = m + 1 := ⟨k - 1, by omega⟩
 simp only [l01In, Option.bind_some, spec_ProgOk.j0]
 by_cases h1 : inB c 1 16 = true
 ·by_cases h2 : inB (l.length : Int) 1 3 = true
  ·have := inB_true.1 h2
   simp only [h1, h2, if_true, Bool.not_true, Bool.true_and, Bool.false_eq_true, if_false]
   have := spec_progOk_outer c l (by omega) l.length k 0 (Nat.zero_le _) (by omega) (by omega)
   simpa using this
  ·simp [h1, h2]
 ·simp [h1]
theorem eta_ (x : Ins) : (⟨x.f0, x.f1, x.f2, x.f3⟩ : Ins) = x := rfl
def fixI (p : List Int) (x : Ins) : Ins := if x.f0 = 6 then ⟨x.f0, x.f1, x.f2, rd p x.f3⟩ else x
/-- The row when i instructions are done. -/
abbrev fixed (out : List Ins) (p : List Int) (i : Nat) : List Ins := (out.take i).map (fixI p) ++ out.drop i
theorem fixed_len (out : List Ins) (p : List Int) (i : Nat) (h : i ≤ out.length) : (fixed out p i).length = out.length := by simp [fixed]; omega
theorem fixed_get (out : List Ins) (p : List Int) (i : Nat) (h : i < out.length) : rd_T50 (fixed out p i) (i : Int) = out[i] := by
 have hlen : ((out.take i).map (fixI p)).length = i := by simp; omega
 have hl2 := fixed_len out p i (Nat.le_of_lt h)
 rw [rdIns _ i (by omega)]
 have e : fixed out p i = (out.take i).map (fixI p) ++ out[i] :: out.drop (i + 1) := by unfold fixed; rw [List.drop_eq_getElem_cons h]
 have := get_mid ((out.take i).map (fixI p)) out[i] (out.drop (i + 1)) (by rw [← e, hl2, hlen]; exact h)
 simp only [hlen] at this
 simp only [e]
 exact this
theorem fixed_next (out : List Ins) (p : List Int) (i : Nat) (h : i < out.length) (y : Ins) (hy : y = fixI p out[i]) : (fixed out p i).set i y = fixed out p (i + 1) := by
 have hlen : ((out.take i).map (fixI p)).length = i := by simp; omega
 have e : fixed out p i = (out.take i).map (fixI p) ++ out[i] :: out.drop (i + 1) := by unfold fixed; rw [List.drop_eq_getElem_cons h]
 have := set_mid ((out.take i).map (fixI p)) out[i] y (out.drop (i + 1))
 rw [hlen] at this
 rw [e, this]
 unfold fixed
 rw [List.take_succ_eq_append_getElem h, List.map_append, hy, List.append_assoc]
 rfl
theorem fixed_skip (out : List Ins) (p : List Int) (i : Nat) (h : i < out.length) (hy : out[i].f0 ≠ 6) : fixed out p i = fixed out p (i + 1) := by
 have e : fixed out p i = (out.take i).map (fixI p) ++ out[i] :: out.drop (i + 1) := by unfold fixed; rw [List.drop_eq_getElem_cons h]
 rw [e]
 unfold fixed
 rw [List.take_succ_eq_append_getElem h, List.map_append, List.append_assoc]
 congr 1
 simp [fixI, hy]
theorem fixed_zero (out : List Ins) (p : List Int) : fixed out p 0 = out := by simp [fixed]
theorem fixed_all (out : List Ins) (p : List Int) : fixed out p out.length = out.map (fixI p) := by simp [fixed]
/-- In a valid code every jump leads into it. -/
theorem jumps {c : Int} {q : List Ins} (h : codeB c q = true) : ∀ x ∈ q, x.f0 = 6 → 0 ≤ x.f3 ∧ x.f3 ≤ q.length := by
 intro x hx h6
 unfold codeB at h
 rw [Bool.and_eq_true, List.all_eq_true] at h
 have := h.2 x hx
 unfold insB at this
 simp only [h6, Bool.and_eq_true] at this
 have h2 := this.2
 simp at h2
 have h3 := inB_true.1 h2
 omega
theorem code_len {c : Int} {q : List Ins} (h : codeB c q = true) : q.length ≤ 16 := by
 unfold codeB at h
 rw [Bool.and_eq_true] at h
 exact of_decide_eq_true h.1
abbrev Spt := S44
theorem rdSpt (l : List Spt) (j : Nat) (h : j < l.length) : rd_T44 l (j : Int) = l[j] := getD_nat _ l j h
def fenceP : Ins := ⟨4, 0, 0, 0⟩
/-- Is there a fence to put at place i? -/
def wstep (q : List Ins) (has : Nat → Bool) (s : List Ins × List Int) (i : Nat) : List Ins × List Int :=
 ((if has i = true then s.1 ++ [fenceP] else s.1) ++ (if i < q.length then [rd_T50 q (i : Int)] else []), s.2 ++ [(s.1.length : Int)])
def wrun (q : List Ins) (has : Nat → Bool) : Nat → Nat → List Ins × List Int → List Ins × List Int
 | 0, _, s => s
 | d + 1, i, s => wrun q has d (i + 1) (wstep q has s i)
def putV (q : List Ins) (has : Nat → Bool) : List Ins := (wrun q has (q.length + 1) 0 ([], [])).1.map (fixI (wrun q has (q.length + 1) 0 ([], [])).2)
theorem wstep_facts (q : List Ins) (has : Nat → Bool) (s : List Ins × List Int) (i : Nat) : (wstep q has s i).1.length ≤ s.1.length + 2 ∧ (wstep q has s i).2.length = s.2.length + 1 ∧ ∀ x ∈ (wstep q has s i).1, x ∈ s.1 ∨ x = fenceP ∨ x ∈ q := by
 unfold wstep
 refine ⟨?_, by simp, fun x hx => ?_⟩
 ·simp only
  rw [List.length_append]
  have h1 : (if has i = true then s.1 ++ [fenceP] else s.1).length ≤ s.1.length + 1 := by split <;> simp
  have h2 : (if i < q.length then [rd_T50 q (i : Int)] else []).length ≤ 1 := by split <;> simp
  omega
 ·simp only at hx
  rcases List.mem_append.1 hx with h | h
  ·split at h
   ·rcases List.mem_append.1 h with h | h
    ·exact .inl h
    ·exact .inr (.inl (by simpa using h))
   ·exact .inl h
  ·split at h
   ·next hi =>
    have e : x = rd_T50 q (i : Int) := by simpa using h
    rw [e, rdIns q i hi]
    exact .inr (.inr (List.getElem_mem hi))
   ·cases h
theorem wrun_facts (q : List Ins) (has : Nat → Bool) : ∀ d i s, (wrun q has d i s).1.length ≤ s.1.length + 2 * d ∧ (wrun q has d i s).2.length = s.2.length + d ∧ ∀ x ∈ (wrun q has d i s).1, x ∈ s.1 ∨ x = fenceP ∨ x ∈ q := by
 intro d
 induction d with
 | zero => intro i s; exact ⟨by simp [wrun], by simp [wrun], fun x h => .inl h⟩
 | succ d ih =>
  intro i s
  obtain ⟨h1, h2, h3⟩ := ih (i + 1) (wstep q has s i)
  obtain ⟨f1, f2, f3⟩ := wstep_facts q has s i
  refine ⟨by simp only [wrun]; omega, by simp only [wrun]; omega, fun x hx => ?_⟩
  rcases h3 x hx with h | h
  ·exact f3 x h
  ·exact .inr h
theorem out_jumps (q : List Ins) (has : Nat → Bool) (hj : ∀ x ∈ q, x.f0 = 6 → 0 ≤ x.f3 ∧ x.f3 ≤ q.length) : ∀ x ∈ (wrun q has (q.length + 1) 0 ([], [])).1, x.f0 = 6 → 0 ≤ x.f3 ∧ x.f3 ≤ q.length := by
 intro x hx h6
 rcases (wrun_facts q has (q.length + 1) 0 ([], [])).2.2 x hx with h | h | h
 ·cases h
 ·subst h
  exact absurd h6 (by decide)
 ·exact hj x h h6
theorem contains_at (l : List Int) (v : Int) (hl : l.length ≤ 1048576) : ∀ d k (j : Nat), j ≤ l.length → l.length - j = d → d < k → ∃ t, slices_Index_int_int.l0 k l v (l.length : Int) (j : Int) = some t ∧ (0 ≤ t ↔ v ∈ l.drop j) := by
 intro d
 induction d with
 | zero =>
  intro k j hj hd hk
  obtain ⟨k, rfl⟩ : ∃ m, k = m + 1 := ⟨k - 1, by omega⟩
  simp only [slices_Index_int_int.l0]
  rw [if_neg (by omega), List.drop_of_length_le (by omega)]
  exact ⟨-1, rfl, by simp⟩
 | succ d ih =>
  intro k j hj hd hk
  obtain ⟨k, rfl⟩ : ∃ m, k = m + 1 := ⟨k - 1, by omega⟩
  have hlt : j < l.length := by omega
  simp only [slices_Index_int_int.l0]
  rw [if_pos (by omega), if_pos (by omega), if_pos (by omega), rd_nat l j hlt, List.drop_eq_getElem_cons hlt, wrap_succ hlt (by omega)]
  by_cases c : v = l[j]
  ·rw [if_pos c]
   exact ⟨_, rfl, ⟨fun _ => by rw [c]; exact List.mem_cons_self .., fun _ => by omega⟩⟩
  ·rw [if_neg c]
   obtain ⟨t, h1, h2⟩ := ih k (j + 1) (by omega) (by omega) (by omega)
   exact ⟨t, h1, h2.trans ⟨List.mem_cons_of_mem _, fun h => (List.mem_cons.1 h).resolve_left c⟩⟩
theorem contains (l : List Int) (v : Int) (hl : l.length ≤ 1048576) (k : Nat) (hk : l.length < k) : slices_Contains_int_int.f k l v = some (decide (v ∈ l)) := by
 obtain ⟨t, h1, h2⟩ := contains_at l v hl l.length k 0 (Nat.zero_le _) (by omega) hk
 have h1' : slices_Index_int_int.f k l v = some t := h1
 unfold slices_Contains_int_int.f
 rw [h1', Option.bind_some]
 simp only [List.drop_zero] at h2
 refine congrArg some (decide_eq_decide.2 ?_)
 exact h2
theorem put_fix (out : List Ins) (p : List Int) (n : Nat) (hn : n ≤ 16) (ho : out.length ≤ 40) (hp : p.length = n + 1) (hj : ∀ x ∈ out, x.f0 = 6 → 0 ≤ x.f3 ∧ x.f3 ≤ n) :
  ∀ d k (i : Nat), i ≤ out.length → out.length - i = d → d < k → impl_withFencesAt.l1 k (fixed out p i) p (out.length : Int) (i : Int) = some (out.map (fixI p)) := by
 intro d
 induction d with
 | zero =>
  intro k i hi hd hk
  obtain ⟨k, rfl⟩ : ∃ m, k = m + 1 := ⟨k - 1, by omega⟩
  obtain rfl : i = out.length := by omega
  simp only [impl_withFencesAt.l1]
  rw [if_neg (by omega), fixed_all]
 | succ d ih =>
  intro k i hi hd hk
  obtain ⟨k, rfl⟩ : ∃ m, k = m + 1 := ⟨k - 1, by omega⟩
  have hlt : i < out.length := by omega
  have hl := fixed_len out p i (by omega)
  have hx := hj out[i] (List.getElem_mem hlt)
  simp only [impl_withFencesAt.l1]
  rw [fixed_get out p i hlt, if_pos (by omega), if_pos (by omega), if_pos (by omega), wrap_succ hlt (by omega), Int.toNat_natCast]
  by_cases o6 : out[i].f0 = 6
  ·have := hx o6
   rw [if_pos o6, if_pos (by omega), if_pos (by omega), fixed_next out p i hlt _ (by unfold fixI; rw [if_pos o6])]
   exact ih k (i + 1) (by omega) (by omega) (by omega)
  ·rw [if_neg o6, fixed_skip out p i hlt o6]
   exact ih k (i + 1) (by omega) (by omega) (by omega)
theorem impl_put (q : List Ins) (ps : List Int) (hps : ps.length ≤ 1000) (hn : q.length ≤ 16) (hj : ∀ x ∈ q, x.f0 = 6 → 0 ≤ x.f3 ∧ x.f3 ≤ q.length) (k : Nat) (hk : 1100 ≤ k) : impl_withFencesAt.f k q ps = some (putV q (fun i => decide ((i : Int) ∈ ps))) := by
 generalize hh : (fun i : Nat => decide ((i : Int) ∈ ps)) = has
 have hhas : ∀ i : Nat, decide ((i : Int) ∈ ps) = has i := fun i => by rw [← hh]
 obtain ⟨f1, f2, _⟩ := wrun_facts q has (q.length + 1) 0 ([], [])
 simp only [List.length_nil, Nat.zero_add] at f1 f2
 unfold impl_withFencesAt.f
 rw [wrap_succ (n := 17) (by omega) (by omega)]
 have key : ∀ d k (j : Nat) (s : List Ins × List Int), j + d = q.length + 1 → s.1.length ≤ 2 * j → s.2.length = j → wrun q has d j s = wrun q has (q.length + 1) 0 ([], []) → d + 1050 < k →
   impl_withFencesAt.l0 k q ps s.1 s.2 ((q.length + 1 : Nat) : Int) (j : Int) = some (putV q has) := by
  intro d
  induction d with
  | zero =>
   intro k j s hj' h1 h2 hr hk
   obtain ⟨k, rfl⟩ : ∃ m, k = m + 1 := ⟨k - 1, by omega⟩
   have hs : s = wrun q has (q.length + 1) 0 ([], []) := hr
   subst hs
   simp only [impl_withFencesAt.l0]
   rw [if_neg (by omega)]
   have := put_fix (wrun q has (q.length + 1) 0 ([], [])).1 (wrun q has (q.length + 1) 0 ([], [])).2 q.length hn (by omega) (by omega) (out_jumps q has hj) (wrun q has (q.length + 1) 0 ([], [])).1.length k 0 (Nat.zero_le _) (by omega) (by omega)
   rw [fixed_zero] at this
   exact this
  | succ d ih =>
   intro k j s hj' h1 h2 hr hk
   obtain ⟨k, rfl⟩ : ∃ m, k = m + 1 := ⟨k - 1, by omega⟩
   obtain ⟨g1, g2, _⟩ := wstep_facts q has s j
   have := ih k (j + 1) (wstep q has s j) (by omega) (by omega) (by omega) hr (by omega)
   simp only [impl_withFencesAt.l0, Option.bind_some, eta_]
   rw [if_pos (by omega), if_pos (by omega), contains ps (j : Int) (by omega) k (by omega), Option.bind_some, hhas, wrap_succ (n := 100) (by omega) (by omega), ← this]
   unfold wstep
   by_cases b : has j = true
   ·rw [if_pos b, if_pos b, if_pos (by omega)]
    by_cases c : j < q.length
    ·rw [if_pos (by omega), if_pos (by omega), if_pos (by simp; omega), if_pos c]
     rfl
    ·rw [if_neg (by omega), if_neg c, List.append_nil]
     rfl
   ·rw [if_neg b, if_neg b]
    by_cases c : j < q.length
    ·rw [if_pos (by omega), if_pos (by omega), if_pos (by omega), if_pos c]
    ·rw [if_neg (by omega), if_neg c, List.append_nil]
 exact key (q.length + 1) k 0 ([], []) (by omega) (by simp) rfl rfl (by omega)
/-- Which places of code t have a fence to come. -/
def hasB (sp : List Spt) (t : Nat) (i : Nat) : Bool := sp.any fun s => decide (s.f0 = (t : Int)) && decide (s.f1 = (i : Int))
def placesV (sp : List Spt) (t : Nat) : List Int := (sp.filter fun s => decide (s.f0 = (t : Int))).map fun s => s.f1
theorem placesV_cons (x : Spt) (r : List Spt) (t : Nat) : placesV (x :: r) t = if x.f0 = (t : Int) then x.f1 :: placesV r t else placesV r t := by
 unfold placesV
 by_cases c : x.f0 = (t : Int)
 ·rw [if_pos c, List.filter_cons, if_pos (by simpa using c), List.map_cons]
 ·rw [if_neg c, List.filter_cons, if_neg (by simpa using c)]
theorem places_has (sp : List Spt) (t : Nat) : (fun i : Nat => decide ((i : Int) ∈ placesV sp t)) = hasB sp t := by
 funext i
 unfold placesV hasB
 rw [Bool.eq_iff_iff, decide_eq_true_iff, List.any_eq_true, List.mem_map]
 constructor
 ·rintro ⟨s, hs, e⟩
  rw [List.mem_filter] at hs
  exact ⟨s, hs.1, by rw [hs.2, e]; simp⟩
 ·rintro ⟨s, hs, e⟩
  rw [Bool.and_eq_true] at e
  exact ⟨s, List.mem_filter.2 ⟨hs, e.1⟩, of_decide_eq_true e.2⟩
def putsV (l : List (List Ins)) (sp : List Spt) : Nat → Nat → List (List Ins)
 | 0, _ => []
 | d + 1, t => putV (l.getD t []) (hasB sp t) :: putsV l sp d (t + 1)
def finV (c : Int) (l : List (List Ins)) : Int × List (List Ins) × Bool := if progB c l = true then (c, l, true) else (0, [], false)
theorem putsV_len (l : List (List Ins)) (sp : List Spt) : ∀ d t, (putsV l sp d t).length = d := by
 intro d
 induction d with
 | zero => intro t; rfl
 | succ d ih => intro t; simp [putsV, ih]
theorem impl_places (c : Int) (l : List (List Ins)) (sp : List Spt) (t : Nat) (ht : t < l.length) (hs : sp.length ≤ 1000) (acc : List (List Ins)) (R : List Int → Option (Int × List (List Ins) × Bool)) (K : Nat)
  (hR : ∀ k ps, K ≤ k → ps.length ≤ 1000 → ((impl_withFencesAt.f k l[t] ps).bind fun t14 => (if acc.length < 5864062014805 then (impl_putFences.l0 k sp l (l.length : Int) (wrap64 ((t : Int) + 1)) c (acc ++ [t14])) else (none))) = R ps) :
  ∀ d k (j : Nat) (ps : List Int), j ≤ sp.length → sp.length - j = d → ps.length ≤ j → K + d < k →
   impl_putFences.l1 k sp (t : Int) l[t] ps l (l.length : Int) (t : Int) sp (sp.length : Int) (j : Int) c acc = R (ps ++ placesV (sp.drop j) t) := by
 intro d
 induction d with
 | zero =>
  intro k j ps hj hd hp hk
  obtain ⟨k, rfl⟩ : ∃ m, k = m + 1 := ⟨k - 1, by omega⟩
  simp only [impl_putFences.l1]
  rw [if_neg (by omega), List.drop_of_length_le (by omega), hR k ps (by omega) (by omega)]
  simp [placesV]
 | succ d ih =>
  intro k j ps hj hd hp hk
  obtain ⟨k, rfl⟩ : ∃ m, k = m + 1 := ⟨k - 1, by omega⟩
  have hlt : j < sp.length := by omega
  simp only [impl_putFences.l1]
  rw [if_pos (by omega), if_pos (by omega), if_pos (by omega), rdSpt sp j hlt, wrap_succ hlt (by omega), List.drop_eq_getElem_cons hlt, placesV_cons]
  by_cases c1 : sp[j].f0 = (t : Int)
  ·rw [if_pos c1, if_pos c1, if_pos (by omega), ih k (j + 1) _ (by omega) (by omega) (by simp; omega) (by omega), List.append_assoc]
   rfl
  ·rw [if_neg c1, if_neg c1, ih k (j + 1) _ (by omega) (by omega) (by omega) (by omega)]
set_option maxRecDepth 100000 in
theorem impl_puts (c : Int) (l : List (List Ins)) (sp : List Spt) (hl : l.length ≤ 3) (hs : sp.length ≤ 1000) (hc : ∀ q ∈ l, codeB c q = true) : ∀ d k (t : Nat) (acc : List (List Ins)), t + d = l.length → acc.length = t → d * 1100 + 1200 < k →
  impl_putFences.l0 k sp l (l.length : Int) (t : Int) c acc = some (finV c (acc ++ putsV l sp d t)) := by
 intro d
 induction d with
 | zero =>
  intro k t acc ht ha hk
  obtain ⟨k, rfl⟩ : ∃ m, k = m + 1 := ⟨k - 1, by omega⟩
  simp only [impl_putFences.l0, putsV, List.append_nil]
  rw [if_neg (by omega), impl_progOk, Option.bind_some]
  unfold finV
  by_cases h : progB c acc = true
  ·rw [if_pos h, if_pos h]
  ·rw [if_neg h, if_neg h]
 | succ d ih =>
  intro k t acc ht ha hk
  obtain ⟨k, rfl⟩ : ∃ m, k = m + 1 := ⟨k - 1, by omega⟩
  have hlt : t < l.length := by omega
  have e := rdCode l t hlt
  have e2 : l.getD t [] = l[t] := by simpa using e
  have hq := hc _ (List.getElem_mem hlt)
  simp only [impl_putFences.l0, rd_L4, e, putsV, e2]
  rw [if_pos (by omega), if_pos (by omega), if_pos (by omega)]
  have := impl_places c l sp t hlt hs acc (fun ps => some (finV c (acc ++ putV l[t] (fun i => decide ((i : Int) ∈ ps)) :: putsV l sp d (t + 1)))) (d * 1100 + 1201) (fun k ps hk hps => by
   rw [impl_put l[t] ps hps (code_len hq) (jumps hq) k (by omega), Option.bind_some, if_pos (by omega), wrap_succ hlt (by omega), ih k (t + 1) _ (by omega) (by simp [ha]) (by omega)]
   simp) sp.length k 0 [] (Nat.zero_le _) (by omega) (by simp) (by omega)
  simp only [List.nil_append, List.drop_zero] at this
  rw [places_has] at this
  exact this
/-- Are the spots from j on valid, and each behind the one ahead of it? -/
def okS (l : List (List Ins)) (s : Spt) : Bool := inB s.f0 0 ((l.length : Int) - 1) && inB s.f1 0 ((l.getD s.f0.toNat []).length : Int)
def lessB (a b : Spt) : Bool := decide (a.f0 < b.f0) || (decide (a.f0 = b.f0) && decide (a.f1 < b.f1))
theorem okS_facts {l : List (List Ins)} {s : Spt} (h : okS l s = true) : (0 ≤ s.f0 ∧ s.f0 < l.length) ∧ 0 ≤ s.f1 ∧ s.f1 ≤ ((l.getD s.f0.toNat []).length : Int) := by
 unfold okS at h
 rw [Bool.and_eq_true] at h
 have h1 := inB_true.1 h.1
 have h2 := inB_true.1 h.2
 omega
theorem impl_spotOk (c : Int) (l : List (List Ins)) (hp : progB c l = true) (a b : Int) (h3 : l.length ≤ 3) : impl_SpotOk.f a b c l = some (okS l ⟨a, b⟩) := by
 unfold impl_SpotOk.f okS
 rw [impl_progOk, Option.bind_some, if_pos hp]
 simp only [within, Option.bind_some]
 rw [wrap_id (x := (l.length : Int) - 1) (by omega) (by omega)]
 by_cases h : inB a 0 ((l.length : Int) - 1) = true
 ·have := inB_true.1 h
  rw [if_pos h, if_pos (by omega), if_pos (by omega), h, Bool.true_and]
  rfl
 ·rw [if_neg h]
  simp [h]
theorem spec_spotOk (c : Int) (l : List (List Ins)) (hp : progB c l = true) (a b : Int) (h3 : l.length ≤ 3) (k : Nat) (hk : 130 ≤ k) : spec_SpotOk.f k a b c l = some (okS l ⟨a, b⟩) := by
 unfold spec_SpotOk.f okS
 rw [spec_progOk c l k hk, Option.bind_some, if_pos hp]
 simp only [l01In, Option.bind_some]
 rw [wrap_id (x := (l.length : Int) - 1) (by omega) (by omega)]
 by_cases h : inB a 0 ((l.length : Int) - 1) = true
 ·have := inB_true.1 h
  rw [if_pos h, if_pos (by omega), if_pos (by omega), h, Bool.true_and]
  rfl
 ·rw [if_neg h]
  simp [h]
theorem cmpInt (a b : Int) : cmp_Compare_int.f a b = some (if a < b then -1 else if a > b then 1 else 0) := by
 unfold cmp_Compare_int.f cmp_isNaN_int.f
 simp only [bne_self_eq_false, Option.bind_some, Bool.false_eq_true, if_false]
 by_cases h : a < b
 ·rw [if_pos h, if_pos h]
 ·rw [if_neg h, if_neg h]
  by_cases g : a > b
  ·rw [if_pos g, if_pos g]
  ·rw [if_neg g, if_neg g]
theorem cmpOr (a b : Int) (k : Nat) (hk : 4 ≤ k) : cmp_Or_int.f k [a, b] = some (if a = 0 then b else a) := by
 obtain ⟨k, rfl⟩ : ∃ m, k = m + 3 := ⟨k - 3, by omega⟩
 have w1 : wrap64 ((0 : Int) + 1) = 1 := wrap_id (by omega) (by omega)
 have w2 : wrap64 ((1 : Int) + 1) = 2 := wrap_id (by omega) (by omega)
 have r0 : rd [a, b] 0 = a := rfl
 have r1 : rd [a, b] 1 = b := rfl
 unfold cmp_Or_int.f
 simp only [cmp_Or_int.l0, List.length_cons, List.length_nil, w1, w2, r0, r1]
 by_cases h : a = 0
 ·by_cases g : b = 0
  ·simp [h, g]
  ·simp [h, g]
 ·simp [h]
theorem compare_ (a b : Spt) (k : Nat) (hk : 4 ≤ k) : ∃ t, impl_compareSpots.f k a.f0 a.f1 b.f0 b.f1 = some t ∧ (t ≥ 0 ↔ lessB a b = false) := by
 unfold impl_compareSpots.f
 rw [cmpInt, Option.bind_some, cmpInt, Option.bind_some, cmpOr _ _ k hk, Option.bind_some]
 refine ⟨_, rfl, ?_⟩
 unfold lessB
 by_cases h1 : a.f0 < b.f0
 ·simp [h1]
 ·by_cases h2 : a.f0 > b.f0
  ·have h3 : ¬ a.f0 = b.f0 := by omega
   simp [h1, h2, h3]
  ·have h3 : a.f0 = b.f0 := by omega
   by_cases g1 : a.f1 < b.f1
   ·simp [h3, g1]
   ·by_cases g2 : a.f1 > b.f1
    ·simp [h3, g1, g2]
    ·simp [h3, g1, g2]
theorem less_ (a b : Spt) : spec_l07Less.f a.f0 a.f1 b.f0 b.f1 = some (lessB a b) := by
 unfold spec_l07Less.f lessB
 by_cases h1 : a.f0 < b.f0
 ·simp [h1]
 ·by_cases h2 : a.f0 = b.f0
  ·simp [h2]
  ·simp [h1, h2]
/-- All spots are good, from place j on. -/
def goodB (l : List (List Ins)) (sp : List Spt) : Nat → Nat → Bool
 | 0, _ => true
 | d + 1, j => (okS l (rd_T44 sp (j : Int)) && (decide (j = 0) || lessB (rd_T44 sp ((j : Int) - 1)) (rd_T44 sp (j : Int)))) && goodB l sp d (j + 1)
/-- Good spots rise: the j-th counts at least j. -/
theorem good_rise (l : List (List Ins)) (sp : List Spt) (hl : l.length ≤ 3) (hq : ∀ q ∈ l, q.length ≤ 16) : ∀ d j, j + d = sp.length → goodB l sp d j = true → (∀ h : 0 < j, ∃ hj : j - 1 < sp.length, okS l sp[j - 1] = true ∧ (j : Int) - 1 ≤ 17 * sp[j - 1].f0 + sp[j - 1].f1) → sp.length ≤ 51 := by
 intro d
 induction d with
 | zero =>
  intro j hj _ hp
  by_cases h0 : 0 < j
  ·obtain ⟨hj', ho, hn⟩ := hp h0
   obtain ⟨⟨a1, a2⟩, a3, a4⟩ := okS_facts ho
   have : (l.getD (sp[j - 1]).f0.toNat []).length ≤ 16 := by
    have e : l.getD (sp[j - 1]).f0.toNat [] = l[(sp[j - 1]).f0.toNat]'(by omega) := by simp [List.getD_eq_getElem?_getD, show (sp[j - 1]).f0.toNat < l.length by omega]
    rw [e]
    exact hq _ (List.getElem_mem _)
   omega
  ·omega
 | succ d ih =>
  intro j hj hg hp
  have hlt : j < sp.length := by omega
  simp only [goodB, Bool.and_eq_true] at hg
  obtain ⟨⟨g1, g2⟩, g3⟩ := hg
  rw [rdSpt sp j hlt] at g1 g2
  refine ih (j + 1) (by omega) g3 (fun _ => ⟨by omega, ?_⟩)
  simp only [Nat.add_sub_cancel]
  refine ⟨g1, ?_⟩
  obtain ⟨⟨a1, a2⟩, a3, a4⟩ := okS_facts g1
  by_cases h0 : 0 < j
  ·obtain ⟨hj', ho, hn⟩ := hp h0
   obtain ⟨⟨b1, b2⟩, b3, b4⟩ := okS_facts ho
   have e : rd_T44 sp ((j : Int) - 1) = sp[j - 1] := by
    have := rdSpt sp (j - 1) (by omega)
    rw [show ((j - 1 : Nat) : Int) = (j : Int) - 1 from by omega] at this
    exact this
   have hj0 : decide (j = 0) = false := decide_eq_false (by omega)
   rw [e, hj0, Bool.false_or] at g2
   have hb : (l.getD (sp[j - 1]).f0.toNat []).length ≤ 16 := by
    have e : l.getD (sp[j - 1]).f0.toNat [] = l[(sp[j - 1]).f0.toNat]'(by omega) := by simp [List.getD_eq_getElem?_getD, show (sp[j - 1]).f0.toNat < l.length by omega]
    rw [e]
    exact hq _ (List.getElem_mem _)
   unfold lessB at g2
   rw [Bool.or_eq_true, Bool.and_eq_true, decide_eq_true_iff, decide_eq_true_iff, decide_eq_true_iff] at g2
   omega
  ·omega
def putsF (c : Int) (l : List (List Ins)) (sp : List Spt) : Int × List (List Ins) × Bool := if goodB l sp sp.length 0 = true then finV c (putsV l sp l.length 0) else (0, [], false)
theorem impl_check (c : Int) (l : List (List Ins)) (sp : List Spt) (hp : progB c l = true) (hs : sp.length ≤ 1048576) : ∀ d k (j : Nat), j + d = sp.length → (goodB l sp d j = true → goodB l sp sp.length 0 = true) → d + 5000 < k →
  impl_PutFences.l0 k sp sp (sp.length : Int) (j : Int) c l = some (if goodB l sp d j = true then finV c (putsV l sp l.length 0) else (0, [], false)) := by
 obtain ⟨_, h2, h3⟩ := progB_facts hp
 intro d
 induction d with
 | zero =>
  intro k j hj hg hk
  obtain ⟨k, rfl⟩ : ∃ m, k = m + 1 := ⟨k - 1, by omega⟩
  have hlen := good_rise l sp (by omega) h3 sp.length 0 (by omega) (hg rfl) (fun h => absurd h (by omega))
  simp only [impl_PutFences.l0]
  have hc : ∀ q ∈ l, codeB c q = true := by
   unfold progB at hp
   simp only [Bool.and_eq_true, List.all_eq_true] at hp
   exact hp.2.2
  have := impl_puts c l sp (by omega) (by omega) hc l.length k 0 [] (by omega) rfl (by omega)
  simp only [List.nil_append] at this
  have h0 : impl_putFences.f k c l sp = some (finV c (putsV l sp l.length 0)) := this
  rw [if_neg (by omega), h0, Option.bind_some]
  rfl
 | succ d ih =>
  intro k j hj hg hk
  obtain ⟨k, rfl⟩ : ∃ m, k = m + 1 := ⟨k - 1, by omega⟩
  have hlt : j < sp.length := by omega
  have hr := rdSpt sp j hlt
  have hnext := fun g => ih k (j + 1) (by omega) g (by omega)
  simp only [impl_PutFences.l0, goodB, hr] at hg ⊢
  rw [if_pos (by omega), if_pos (by omega), if_pos (by omega), impl_spotOk c l hp _ _ (by omega), Option.bind_some, wrap_succ hlt (by omega), wrap_id (x := (j : Int) - 1) (by omega) (by omega)]
  have ho : okS l ⟨sp[j].f0, sp[j].f1⟩ = okS l sp[j] := rfl
  rw [ho]
  by_cases c1 : okS l sp[j] = true
  ·rw [if_pos c1, c1, Bool.true_and]
   rw [c1, Bool.true_and] at hg
   by_cases j0 : j = 0
   ·rw [if_neg (by omega), decide_eq_true j0, Bool.true_or, Bool.true_and]
    rw [decide_eq_true j0, Bool.true_or, Bool.true_and] at hg
    exact hnext hg
   ·obtain ⟨t, ht, hl⟩ := compare_ (rd_T44 sp ((j : Int) - 1)) sp[j] k (by omega)
    rw [if_pos (by omega), if_pos (by omega), if_pos (by omega), ht, Option.bind_some, decide_eq_false j0, Bool.false_or]
    rw [decide_eq_false j0, Bool.false_or] at hg
    by_cases c2 : t ≥ 0
    ·rw [if_pos c2, hl.1 c2, Bool.false_and, if_neg (by decide)]
    ·have c3 : lessB (rd_T44 sp ((j : Int) - 1)) sp[j] = true := by
      cases h : lessB (rd_T44 sp ((j : Int) - 1)) sp[j] with
      | true => rfl
      | false => exact absurd (hl.2 h) c2
     rw [c3, Bool.true_and] at hg
     rw [if_neg c2, c3, Bool.true_and]
     exact hnext hg
  ·rw [if_neg c1]
   simp [c1]
def putFV (c : Int) (l : List (List Ins)) (sp : List Spt) : Int × List (List Ins) × Bool := if progB c l = true then putsF c l sp else (0, [], false)
theorem impl_putF (c : Int) (l : List (List Ins)) (sp : List Spt) (hs : sp.length ≤ 1048576) (k : Nat) (hk : 1100000 ≤ k) : impl_PutFences.f k c l sp = some (putFV c l sp) := by
 unfold impl_PutFences.f putFV putsF
 rw [impl_progOk, Option.bind_some]
 by_cases h : progB c l = true
 ·rw [if_pos h, if_pos h]
  exact impl_check c l sp h hs sp.length k 0 (by omega) (fun g => g) (by omega)
 ·rw [if_neg h, if_neg h]
theorem has_at (sp : List Spt) (t i : Nat) (hs : sp.length ≤ 1048576) : ∀ d k (j : Nat), j + d = sp.length → d < k → spec_l07Has.l0 k sp (t : Int) (i : Int) (j : Int) = some ((sp.drop j).any fun s => decide (s.f0 = (t : Int)) && decide (s.f1 = (i : Int))) := by
 intro d
 induction d with
 | zero =>
  intro k j hj hk
  obtain ⟨k, rfl⟩ : ∃ m, k = m + 1 := ⟨k - 1, by omega⟩
  simp only [spec_l07Has.l0]
  rw [if_neg (by omega), List.drop_of_length_le (by omega)]
  rfl
 | succ d ih =>
  intro k j hj hk
  obtain ⟨k, rfl⟩ : ∃ m, k = m + 1 := ⟨k - 1, by omega⟩
  have hlt : j < sp.length := by omega
  simp only [spec_l07Has.l0]
  rw [if_pos (by omega), if_pos (by omega), rdSpt sp j hlt, wrap_succ hlt (by omega), ih k (j + 1) (by omega) (by omega), List.drop_eq_getElem_cons hlt, List.any_cons]
  by_cases a : sp[j].f0 = (t : Int)
  ·by_cases b : sp[j].f1 = (i : Int)
   ·rw [if_pos a, if_pos b, decide_eq_true a, decide_eq_true b]
    rfl
   ·rw [if_pos a, if_neg b, decide_eq_false b, Bool.and_false, Bool.false_or]
  ·rw [if_neg a, decide_eq_false a, Bool.false_and, Bool.false_or]
theorem has_ (sp : List Spt) (t i : Nat) (hs : sp.length ≤ 1048576) (k : Nat) (hk : sp.length < k) : spec_l07Has.f k sp (t : Int) (i : Int) = some (hasB sp t i) := by
 have := has_at sp t i hs sp.length k 0 (by omega) hk
 rw [List.drop_zero] at this
 exact this
theorem spec_put_fix (c : Int) (l acc : List (List Ins)) (sp : List Spt) (t : Nat) (out : List Ins) (p : List Int) (n : Nat) (hn : n ≤ 16) (ha : acc.length ≤ 3) (ht : t < 3) (ho : out.length ≤ 40) (hp : p.length = n + 1) (hj : ∀ x ∈ out, x.f0 = 6 → 0 ≤ x.f3 ∧ x.f3 ≤ n) (R : Option (Int × List (List Ins) × Bool)) (K : Nat)
  (hR : ∀ k, K ≤ k → spec_PutFences.l1 k sp ((t + 1 : Nat) : Int) c l c (acc ++ [out.map (fixI p)]) = R) :
  ∀ d k (i : Nat), i ≤ out.length → out.length - i = d → K + d < k → spec_PutFences.l3 k sp (t : Int) (fixed out p i) p (i : Int) c l c acc = R := by
 intro d
 induction d with
 | zero =>
  intro k i hi hd hk
  obtain ⟨k, rfl⟩ : ∃ m, k = m + 1 := ⟨k - 1, by omega⟩
  obtain rfl : i = out.length := by omega
  simp only [spec_PutFences.l3]
  rw [fixed_len out p _ (Nat.le_refl _), if_neg (by omega), if_pos (by omega), fixed_all, wrap_succ ht (by omega)]
  exact hR k (by omega)
 | succ d ih =>
  intro k i hi hd hk
  obtain ⟨k, rfl⟩ : ∃ m, k = m + 1 := ⟨k - 1, by omega⟩
  have hlt : i < out.length := by omega
  have hl := fixed_len out p i (by omega)
  have hx := hj out[i] (List.getElem_mem hlt)
  simp only [spec_PutFences.l3]
  rw [fixed_get out p i hlt, if_pos (by omega), if_pos (by omega), wrap_succ hlt (by omega), Int.toNat_natCast]
  by_cases o6 : out[i].f0 = 6
  ·have := hx o6
   rw [if_pos o6, if_pos (by omega), if_pos (by omega), fixed_next out p i hlt _ (by unfold fixI; rw [if_pos o6])]
   exact ih k (i + 1) (by omega) (by omega) (by omega)
  ·rw [if_neg o6, fixed_skip out p i hlt o6]
   exact ih k (i + 1) (by omega) (by omega) (by omega)
theorem spec_put_one (c : Int) (l acc : List (List Ins)) (sp : List Spt) (hs : sp.length ≤ 51) (t : Nat) (ht : t < l.length) (hl : l.length ≤ 3) (ha : acc.length ≤ 3) (hn : l[t].length ≤ 16) (hj : ∀ x ∈ l[t], x.f0 = 6 → 0 ≤ x.f3 ∧ x.f3 ≤ l[t].length) (R : Option (Int × List (List Ins) × Bool)) (K : Nat)
  (hR : ∀ k, K ≤ k → spec_PutFences.l1 k sp ((t + 1 : Nat) : Int) c l c (acc ++ [putV l[t] (hasB sp t)]) = R) :
  ∀ d k (j : Nat) (s : List Ins × List Int), j + d = l[t].length + 1 → s.1.length ≤ 2 * j → s.2.length = j → wrun l[t] (hasB sp t) d j s = wrun l[t] (hasB sp t) (l[t].length + 1) 0 ([], []) → K + d + 100 < k → spec_PutFences.l2 k sp (t : Int) s.1 s.2 (j : Int) c l c acc = R := by
 obtain ⟨f1, f2, _⟩ := wrun_facts l[t] (hasB sp t) (l[t].length + 1) 0 ([], [])
 simp only [List.length_nil, Nat.zero_add] at f1 f2
 have e := rdCode l t ht
 intro d
 induction d with
 | zero =>
  intro k j s hj' h1 h2 hr hk
  obtain ⟨k, rfl⟩ : ∃ m, k = m + 1 := ⟨k - 1, by omega⟩
  have hs : s = wrun l[t] (hasB sp t) (l[t].length + 1) 0 ([], []) := hr
  subst hs
  simp only [spec_PutFences.l2, rd_L4, e]
  rw [if_pos (by omega), if_pos (by omega), if_neg (by omega)]
  have := spec_put_fix c l acc sp t _ _ l[t].length hn ha (by omega) (by omega) (by omega) (out_jumps l[t] (hasB sp t) hj) R K hR (wrun l[t] (hasB sp t) (l[t].length + 1) 0 ([], [])).1.length k 0 (Nat.zero_le _) (by omega) (by omega)
  rw [fixed_zero] at this
  exact this
 | succ d ih =>
  intro k j s hj' h1 h2 hr hk
  obtain ⟨k, rfl⟩ : ∃ m, k = m + 1 := ⟨k - 1, by omega⟩
  obtain ⟨g1, g2, _⟩ := wstep_facts l[t] (hasB sp t) s j
  have := ih k (j + 1) (wstep l[t] (hasB sp t) s j) (by omega) (by omega) (by omega) hr (by omega)
  simp only [spec_PutFences.l2, Option.bind_some, eta_, rd_L4, e]
  rw [if_pos (by omega), if_pos (by omega), if_pos (by omega), if_pos (by omega), has_ sp t j (by omega) k (by omega), Option.bind_some, wrap_succ (n := 100) (by omega) (by omega), ← this]
  unfold wstep
  by_cases b : hasB sp t j = true
  ·rw [if_pos b, if_pos b, if_pos (by omega)]
   by_cases c1 : j < l[t].length
   ·rw [if_pos (by omega), if_pos (by omega), if_pos (by simp; omega), if_pos c1]
    rfl
   ·rw [if_neg (by omega), if_neg c1, List.append_nil]
    rfl
  ·rw [if_neg b, if_neg b]
   by_cases c1 : j < l[t].length
   ·rw [if_pos (by omega), if_pos (by omega), if_pos (by omega), if_pos c1]
   ·rw [if_neg (by omega), if_neg c1, List.append_nil]
theorem spec_puts (c : Int) (l : List (List Ins)) (sp : List Spt) (hl : l.length ≤ 3) (hs : sp.length ≤ 51) (hc : ∀ q ∈ l, codeB c q = true) : ∀ d k (t : Nat) (acc : List (List Ins)), t + d = l.length → acc.length = t → d * 200 + 200 < k →
  spec_PutFences.l1 k sp (t : Int) c l c acc = some (finV c (acc ++ putsV l sp d t)) := by
 intro d
 induction d with
 | zero =>
  intro k t acc ht ha hk
  obtain ⟨k, rfl⟩ : ∃ m, k = m + 1 := ⟨k - 1, by omega⟩
  simp only [spec_PutFences.l1, putsV, List.append_nil]
  rw [if_neg (by omega), spec_progOk c acc k (by omega), Option.bind_some]
  unfold finV
  by_cases h : progB c acc = true
  ·rw [if_pos h, if_pos h]
  ·rw [if_neg h, if_neg h]
 | succ d ih =>
  intro k t acc ht ha hk
  obtain ⟨k, rfl⟩ : ∃ m, k = m + 1 := ⟨k - 1, by omega⟩
  have hlt : t < l.length := by omega
  have e2 : l.getD t [] = l[t] := by simpa using rdCode l t hlt
  have hq := hc _ (List.getElem_mem hlt)
  have h16 := code_len hq
  simp only [spec_PutFences.l1, putsV, e2]
  rw [if_pos (by omega)]
  exact spec_put_one c l acc sp hs t hlt hl (by omega) h16 (jumps hq) _ (d * 200 + 201) (fun k hk => by
   rw [ih k (t + 1) _ (by omega) (by simp [ha]) (by omega), List.append_assoc]
   rfl) (l[t].length + 1) k 0 ([], []) (by omega) (by simp) rfl rfl (by omega)
theorem spec_check (c : Int) (l : List (List Ins)) (sp : List Spt) (hp : progB c l = true) (hs : sp.length ≤ 51) : ∀ d k (j : Nat), j + d = sp.length → d + 1200 < k →
  spec_PutFences.l0 k sp (j : Int) c l = some (if goodB l sp d j = true then finV c (putsV l sp l.length 0) else (0, [], false)) := by
 obtain ⟨_, h2, h3⟩ := progB_facts hp
 intro d
 induction d with
 | zero =>
  intro k j hj hk
  obtain ⟨k, rfl⟩ : ∃ m, k = m + 1 := ⟨k - 1, by omega⟩
  have hc : ∀ q ∈ l, codeB c q = true := by
   unfold progB at hp
   simp only [Bool.and_eq_true, List.all_eq_true] at hp
   exact hp.2.2
  simp only [spec_PutFences.l0]
  rw [if_neg (by omega)]
  have := spec_puts c l sp (by omega) hs hc l.length k 0 [] (by omega) rfl (by omega)
  simp only [List.nil_append] at this
  exact this
 | succ d ih =>
  intro k j hj hk
  obtain ⟨k, rfl⟩ : ∃ m, k = m + 1 := ⟨k - 1, by omega⟩
  have hlt : j < sp.length := by omega
  have hr := rdSpt sp j hlt
  have hnext := ih k (j + 1) (by omega) (by omega)
  simp only [spec_PutFences.l0, goodB, hr]
  rw [if_pos (by omega), if_pos (by omega), spec_spotOk c l hp _ _ (by omega) k (by omega), Option.bind_some, wrap_succ hlt (by omega), wrap_id (x := (j : Int) - 1) (by omega) (by omega)]
  have ho : okS l ⟨sp[j].f0, sp[j].f1⟩ = okS l sp[j] := rfl
  rw [ho]
  by_cases c1 : okS l sp[j] = true
  ·rw [if_pos c1, c1, Bool.true_and]
   by_cases j0 : j = 0
   ·rw [if_neg (by omega), decide_eq_true j0, Bool.true_or, Bool.true_and]
    exact hnext
   ·rw [if_pos (by omega), if_pos (by omega), if_pos (by omega), less_, Option.bind_some, decide_eq_false j0, Bool.false_or]
    by_cases c3 : lessB (rd_T44 sp ((j : Int) - 1)) sp[j] = true
    ·rw [if_pos c3, c3, Bool.true_and]
     exact hnext
    ·rw [if_neg c3]
     simp [c3]
  ·rw [if_neg c1]
   simp [c1]
theorem spec_putF (c : Int) (l : List (List Ins)) (sp : List Spt) (k : Nat) (hk : 2000 ≤ k) : spec_PutFences.f k c l sp = some (putFV c l sp) := by
 unfold spec_PutFences.f putFV putsF
 rw [spec_progOk c l k (by omega), Option.bind_some]
 obtain ⟨k, rfl⟩ : ∃ m, k = m + 1 := ⟨k - 1, by omega⟩
 by_cases h : progB c l = true
 ·rw [if_pos h, if_pos h]
  simp only [spec_PutFences.j0]
  by_cases hs : sp.length ≤ 51
  ·rw [if_neg (by simp; omega)]
   exact spec_check c l sp h hs sp.length k 0 (by omega) (by omega)
  ·rw [if_pos (by simp; omega)]
   obtain ⟨_, h2, h3⟩ := progB_facts h
   have hg : goodB l sp sp.length 0 = false := by
    cases hg : goodB l sp sp.length 0 with
    | false => rfl
    | true => exact absurd (good_rise l sp (by omega) h3 sp.length 0 (by omega) hg (fun h => absurd h (by omega))) hs
   rw [hg, if_neg (by decide)]
 ·rw [if_neg h, if_neg h]
  simp only [spec_PutFences.j0]
  rw [if_pos trivial]
theorem finV_small (c : Int) (l : List (List Ins)) : (finV c l).2.1.length ≤ 3 ∧ ∀ q ∈ (finV c l).2.1, q.length ≤ 16 := by
 unfold finV
 by_cases h : progB c l = true
 ·rw [if_pos h]
  obtain ⟨_, h2, h3⟩ := progB_facts h
  exact ⟨h2.2, h3⟩
 ·rw [if_neg h]
  exact ⟨by simp, fun q hq => by cases hq⟩
theorem putFV_small (c : Int) (l : List (List Ins)) (sp : List Spt) : (putFV c l sp).2.1.length ≤ 3 ∧ ∀ q ∈ (putFV c l sp).2.1, q.length ≤ 16 := by
 unfold putFV putsF
 split
 ·split
  ·exact finV_small _ _
  ·exact ⟨by simp, fun q hq => by cases hq⟩
 ·exact ⟨by simp, fun q hq => by cases hq⟩
def stepF (s : List Ins × List Int) (x : Ins) : List Ins × List Int := (if x.f0 = 4 then s.1 else s.1 ++ [x], s.2 ++ [(s.1.length : Int)])
def runF (q : List Ins) : List Ins × List Int := q.foldl stepF ([], [])
def stripV (q : List Ins) : List Ins := (runF q).1.map (fixI ((runF q).2 ++ [((runF q).1.length : Int)]))
theorem stepF_inv (q : List Ins) : ∀ s : List Ins × List Int, (q.foldl stepF s).1.length ≤ s.1.length + q.length ∧ (q.foldl stepF s).2.length = s.2.length + q.length ∧ ∀ x ∈ (q.foldl stepF s).1, x ∈ s.1 ∨ x ∈ q := by
 induction q with
 | nil => intro s; exact ⟨by simp, by simp, fun x h => .inl h⟩
 | cons y q ih =>
  intro s
  obtain ⟨h1, h2, h3⟩ := ih (stepF s y)
  have l1 : (stepF s y).1.length ≤ s.1.length + 1 := by unfold stepF; split <;> simp
  have l2 : (stepF s y).2.length = s.2.length + 1 := by unfold stepF; simp
  refine ⟨by simp only [List.foldl_cons, List.length_cons]; omega, by simp only [List.foldl_cons, List.length_cons]; omega, fun x hx => ?_⟩
  rcases h3 x hx with h | h
  ·unfold stepF at h
   split at h
   ·exact .inl h
   ·rcases List.mem_append.1 h with h | h
    ·exact .inl h
    ·exact .inr (by simp at h; simp [h])
  ·exact .inr (List.mem_cons_of_mem _ h)
theorem runF_facts (q : List Ins) : (runF q).1.length ≤ q.length ∧ (runF q).2.length = q.length ∧ ∀ x ∈ (runF q).1, x ∈ q := by
 obtain ⟨h1, h2, h3⟩ := stepF_inv q ([], [])
 refine ⟨by simpa [runF] using h1, by simpa [runF] using h2, fun x hx => ?_⟩
 rcases h3 x hx with h | h
 ·cases h
 ·exact h
theorem stripV_len (q : List Ins) : (stripV q).length ≤ q.length := by
 have := (runF_facts q).1
 simpa [stripV] using this
theorem impl_strip_fix (out : List Ins) (p : List Int) (n : Nat) (hn : n ≤ 16) (ho : out.length ≤ n) (hp : p.length = n + 1) (hj : ∀ x ∈ out, x.f0 = 6 → 0 ≤ x.f3 ∧ x.f3 ≤ n) :
  ∀ d k (i : Nat), i ≤ out.length → out.length - i = d → d < k → impl_stripped.l1 k (fixed out p i) p (out.length : Int) (i : Int) = some (out.map (fixI p)) := by
 intro d
 induction d with
 | zero =>
  intro k i hi hd hk
  obtain ⟨k, rfl⟩ : ∃ m, k = m + 1 := ⟨k - 1, by omega⟩
  obtain rfl : i = out.length := by omega
  simp only [impl_stripped.l1]
  rw [if_neg (by omega), fixed_all]
 | succ d ih =>
  intro k i hi hd hk
  obtain ⟨k, rfl⟩ : ∃ m, k = m + 1 := ⟨k - 1, by omega⟩
  have hlt : i < out.length := by omega
  have hl := fixed_len out p i (by omega)
  have hx := hj out[i] (List.getElem_mem hlt)
  simp only [impl_stripped.l1]
  rw [fixed_get out p i hlt, if_pos (by omega), if_pos (by omega), if_pos (by omega), wrap_succ hlt (by omega), Int.toNat_natCast]
  by_cases o6 : out[i].f0 = 6
  ·have := hx o6
   rw [if_pos o6, if_pos (by omega), if_pos (by omega), fixed_next out p i hlt _ (by unfold fixI; rw [if_pos o6])]
   exact ih k (i + 1) (by omega) (by omega) (by omega)
  ·rw [if_neg o6, fixed_skip out p i hlt o6]
   exact ih k (i + 1) (by omega) (by omega) (by omega)
theorem impl_stripped (q : List Ins) (hn : q.length ≤ 16) (hj : ∀ x ∈ q, x.f0 = 6 → 0 ≤ x.f3 ∧ x.f3 ≤ q.length) (k : Nat) (hk : 60 ≤ k) : impl_stripped.f k q = some (stripV q) := by
 obtain ⟨f1, f2, f3⟩ := runF_facts q
 unfold impl_stripped.f
 have key : ∀ d k (j : Nat) (s : List Ins × List Int), j ≤ q.length → q.length - j = d → s.1.length ≤ j → s.2.length = j → (q.drop j).foldl stepF s = runF q → d + 40 < k → impl_stripped.l0 k q s.1 s.2 (q.length : Int) (j : Int) = some (stripV q) := by
  intro d
  induction d with
  | zero =>
   intro k j s hj' hd h1 h2 hr hk
   obtain ⟨k, rfl⟩ : ∃ m, k = m + 1 := ⟨k - 1, by omega⟩
   obtain rfl : j = q.length := by omega
   rw [List.drop_length] at hr
   have hs : s = runF q := hr
   subst hs
   simp only [impl_stripped.l0]
   rw [if_neg (by omega), if_pos (by omega)]
   have := impl_strip_fix (runF q).1 ((runF q).2 ++ [((runF q).1.length : Int)]) q.length hn f1 (by simp [f2]) (fun x hx => hj x (f3 x hx)) (runF q).1.length k 0 (Nat.zero_le _) (by omega) (by omega)
   rw [fixed_zero] at this
   exact this
  | succ d ih =>
   intro k j s hj' hd h1 h2 hr hk
   obtain ⟨k, rfl⟩ : ∃ m, k = m + 1 := ⟨k - 1, by omega⟩
   have hlt : j < q.length := by omega
   rw [List.drop_eq_getElem_cons hlt, List.foldl_cons] at hr
   simp only [impl_stripped.l0, Option.bind_some, eta_]
   rw [rdIns q j hlt, if_pos (by omega), if_pos (by omega), if_pos (by omega), if_pos (by omega), wrap_succ hlt (by omega)]
   have l1 : (stepF s q[j]).1.length ≤ s.1.length + 1 := by unfold stepF; split <;> simp
   have l2 : (stepF s q[j]).2.length = s.2.length + 1 := by unfold stepF; simp
   have := ih k (j + 1) (stepF s q[j]) (by omega) (by omega) (by omega) (by omega) hr (by omega)
   by_cases c : q[j].f0 = 4
   ·rw [if_pos c]
    unfold stepF at this
    rw [if_pos c] at this
    exact this
   ·rw [if_neg c, if_pos (by omega)]
    unfold stepF at this
    rw [if_neg c] at this
    exact this
 exact key q.length k 0 ([], []) (Nat.zero_le _) (by omega) (by simp) rfl rfl (by omega)
theorem impl_strips (c : Int) (l : List (List Ins)) (hl : l.length ≤ 3) (hc : ∀ q ∈ l, codeB c q = true) : ∀ d k (i : Nat), i ≤ l.length → l.length - i = d → d + 60 < k →
  impl_StripFences.l0 k l (l.length : Int) (i : Int) c ((l.take i).map stripV) = some (c, l.map stripV, true) := by
 intro d
 induction d with
 | zero =>
  intro k i hi hd hk
  obtain ⟨k, rfl⟩ : ∃ m, k = m + 1 := ⟨k - 1, by omega⟩
  obtain rfl : i = l.length := by omega
  simp only [impl_StripFences.l0]
  rw [if_neg (by omega), List.take_length]
 | succ d ih =>
  intro k i hi hd hk
  obtain ⟨k, rfl⟩ : ∃ m, k = m + 1 := ⟨k - 1, by omega⟩
  have hlt : i < l.length := by omega
  have e := rdCode l i hlt
  have hq := hc _ (List.getElem_mem hlt)
  simp only [impl_StripFences.l0, rd_L4, e]
  rw [if_pos (by omega), if_pos (by omega), if_pos (by omega), impl_stripped l[i] (code_len hq) (jumps hq) k (by omega), Option.bind_some, if_pos (by simp; omega), wrap_succ hlt (by omega)]
  have := ih k (i + 1) (by omega) (by omega) (by omega)
  rw [List.take_succ_eq_append_getElem hlt, List.map_append] at this
  exact this
/-- What both come to. -/
def stripsV (c : Int) (l : List (List Ins)) : Int × List (List Ins) × Bool := if progB c l = true then (c, l.map stripV, true) else (0, [], false)
theorem progB_codes {c : Int} {l : List (List Ins)} (h : progB c l = true) : ∀ q ∈ l, codeB c q = true := by
 unfold progB at h
 simp only [Bool.and_eq_true, List.all_eq_true] at h
 exact h.2.2
theorem impl_strip (c : Int) (l : List (List Ins)) (k : Nat) (hk : 100 ≤ k) : impl_StripFences.f k c l = some (stripsV c l) := by
 unfold impl_StripFences.f stripsV
 rw [impl_progOk, Option.bind_some]
 by_cases h : progB c l = true
 ·rw [if_pos h, if_pos h]
  obtain ⟨_, h2, _⟩ := progB_facts h
  have := impl_strips c l (by omega) (progB_codes h) l.length k 0 (Nat.zero_le _) (by omega) (by omega)
  simpa using this
 ·rw [if_neg h, if_neg h]
theorem stripsV_small (c : Int) (l : List (List Ins)) : (stripsV c l).2.1.length ≤ 3 ∧ ∀ q ∈ (stripsV c l).2.1, q.length ≤ 16 := by
 unfold stripsV
 by_cases h : progB c l = true
 ·rw [if_pos h]
  obtain ⟨_, h2, h3⟩ := progB_facts h
  refine ⟨by simp; omega, fun q hq => ?_⟩
  simp only [List.mem_map] at hq
  obtain ⟨x, hx, rfl⟩ := hq
  have := stripV_len x
  have := h3 x hx
  omega
 ·rw [if_neg h]
  exact ⟨by simp, fun q hq => by cases hq⟩

def fenceB (x : Ins) : Bool := if x.f0 = 4 then true else if x.f0 = 5 then true else x.f0 == 7
theorem impl_fence (x : Ins) : impl_HasFence.f x.f0 x.f1 x.f2 x.f3 = some (fenceB x) := by
 unfold impl_HasFence.f fenceB
 repeat' split
 all_goals rfl
def cnt : List Ins → Int
 | [] => 0
 | x :: r => (if fenceB x = true then 1 else 0) + cnt r
def tot : List (List Ins) → Int
 | [] => 0
 | q :: r => cnt q + tot r
theorem cnt_bounds (q : List Ins) : 0 ≤ cnt q ∧ cnt q ≤ q.length := by
 induction q with
 | nil => simp [cnt]
 | cons x r ih =>
  simp only [cnt, List.length_cons]
  split <;> omega
theorem impl_inner (l : List (List Ins)) (i : Nat) (hi : i < l.length) (hl : l.length ≤ 3) (h16 : l[i].length ≤ 16) (R : Int → Option Int) (K : Nat) (M : Int) (hM : M ≤ 1000) (hR : ∀ k b, K ≤ k → 0 ≤ b → b ≤ M → impl_FenceCost.l0 k b l (l.length : Int) ((i + 1 : Nat) : Int) = R b) :
  ∀ d k (j : Nat) (b : Int), j ≤ l[i].length → l[i].length - j = d → K + d < k → 0 ≤ b → b + d ≤ M →
   impl_FenceCost.l1 k b l (l.length : Int) (i : Int) l[i] (l[i].length : Int) (j : Int) = R (b + cnt (l[i].drop j)) := by
 intro d
 induction d with
 | zero =>
  intro k j b hj hd hk hb hbM
  obtain ⟨k, rfl⟩ : ∃ m, k = m + 1 := ⟨k - 1, by omega⟩
  obtain rfl : j = l[i].length := by omega
  simp only [impl_FenceCost.l1]
  rw [if_neg (by omega), wrap_succ hi (by omega), hR k b (by omega) hb (by omega), List.drop_length]
  simp [cnt]
 | succ d ih =>
  intro k j b hj hd hk hb hbM
  obtain ⟨k, rfl⟩ : ∃ m, k = m + 1 := ⟨k - 1, by omega⟩
  have hlt : j < l[i].length := by omega
  simp only [impl_FenceCost.l1]
  rw [if_pos (by omega), if_pos (by omega), if_pos (by omega), rdIns _ _ hlt, impl_fence, Option.bind_some, wrap_id (x := (j : Int) + 1) (by omega) (by omega), List.drop_eq_getElem_cons hlt]
  simp only [cnt, impl_flag.f]
  by_cases f : fenceB l[i][j] = true
  ·rw [if_pos f, if_pos f, Option.bind_some, wrap_id (by omega) (by omega)]
   have := ih k (j + 1) (b + 1) (by omega) (by omega) (by omega) (by omega) (by omega)
   rw [show ((j : Int) + 1) = ((j + 1 : Nat) : Int) by omega, this, Int.add_assoc]
  ·rw [if_neg f, if_neg f, Option.bind_some, wrap_id (by omega) (by omega), Int.add_zero]
   have := ih k (j + 1) b (by omega) (by omega) (by omega) (by omega) (by omega)
   rw [show ((j : Int) + 1) = ((j + 1 : Nat) : Int) by omega, this, Int.zero_add]
theorem impl_outer (l : List (List Ins)) (hl : l.length ≤ 3) (h16 : ∀ q ∈ l, q.length ≤ 16) : ∀ d k (i : Nat) (b : Int), i ≤ l.length → l.length - i = d → d * 40 < k → 0 ≤ b → b + 16 * d ≤ 1000 → impl_FenceCost.l0 k b l (l.length : Int) (i : Int) = some (b + tot (l.drop i)) := by
 intro d
 induction d with
 | zero =>
  intro k i b hi hd hk hb hbM
  obtain ⟨k, rfl⟩ : ∃ m, k = m + 1 := ⟨k - 1, by omega⟩
  obtain rfl : i = l.length := by omega
  simp only [impl_FenceCost.l0]
  rw [if_neg (by omega), List.drop_length]
  simp [tot]
 | succ d ih =>
  intro k i b hi hd hk hb hbM
  obtain ⟨k, rfl⟩ : ∃ m, k = m + 1 := ⟨k - 1, by omega⟩
  have hlt : i < l.length := by omega
  have hq := h16 _ (List.getElem_mem hlt)
  have e := rdCode l i hlt
  simp only [impl_FenceCost.l0, rd_L4, e]
  rw [if_pos (by omega), if_pos (by omega), if_pos (by omega)]
  have := impl_inner l i hlt hl hq (fun b => some (b + tot (l.drop (i + 1)))) (d * 40 + 1) (b + 16) (by omega) (fun k b' hk hb' hbb => ih k (i + 1) b' (by omega) (by omega) (by omega) hb' (by omega)) l[i].length k 0 b (Nat.zero_le _) (by omega) (by omega) hb (by omega)
  have h' : impl_FenceCost.l1 k b l (l.length : Int) (i : Int) l[i] (l[i].length : Int) 0 = some (b + cnt l[i] + tot (l.drop (i + 1))) := by simpa using this
  rw [h', List.drop_eq_getElem_cons hlt]
  simp only [tot]
  rw [Int.add_assoc]
def costV (c : Int) (l : List (List Ins)) : Int := if progB c l = true then tot l else -1
theorem impl_cost (c : Int) (l : List (List Ins)) (k : Nat) (hk : 130 ≤ k) : impl_FenceCost.f k c l = some (costV c l) := by
 unfold impl_FenceCost.f costV
 rw [impl_progOk, Option.bind_some]
 by_cases h : progB c l = true
 ·obtain ⟨_, ⟨h1, h2⟩, h3⟩ := progB_facts h
  rw [if_pos h, if_pos h]
  have := impl_outer l h2 h3 l.length k 0 0 (Nat.zero_le _) (by omega) (by omega) (by omega) (by omega)
  simpa using this
 ·rw [if_neg h, if_neg h]

end Go.Proofs.Ytbgclnjnngolmaa.Pure

/- Fences put in and taken out again leave what taking them out alone leaves; each fence put in counts one. No condition but that jumps lead into the code and spots are good. -/
namespace Go.Proofs.Ytbgclnjnngolmaa.Pure
open Go.RowKit Go.Proofs.Ytbgclnjnngolmaa.P Go.Proofs.Ytbgclnjnngolmaa.Gen Go.Proofs.YtbgclnjnngolmaaW.PrintWords
set_option linter.unusedSimpArgs false
set_option linter.unusedVariables false

/-- No fence. -/
def nf (x : Ins) : Bool := decide (x.f0 ≠ 4)
theorem fixI_op (p : List Int) (x : Ins) : (fixI p x).f0 = x.f0 := by
 unfold fixI
 split <;> rfl
theorem fixI_six (p : List Int) (x : Ins) (h : x.f0 = 6) : fixI p x = ⟨x.f0, x.f1, x.f2, rd p x.f3⟩ := by
 unfold fixI
 rw [if_pos h]
theorem fixI_not (p : List Int) (x : Ins) (h : ¬ x.f0 = 6) : fixI p x = x := by
 unfold fixI
 rw [if_neg h]
theorem filter_fix (p : List Int) (l : List Ins) : (l.map (fixI p)).filter nf = (l.filter nf).map (fixI p) := by
 rw [List.filter_map]
 have e : nf ∘ fixI p = nf := by
  funext x
  show nf (fixI p x) = nf x
  unfold nf
  rw [fixI_op]
 rw [e]
theorem runF_fst : ∀ (r : List Ins) (s : List Ins × List Int), (r.foldl stepF s).1 = s.1 ++ r.filter nf
 | [], s => by simp
 | x :: r, s => by
  rw [List.foldl_cons, runF_fst r]
  unfold stepF
  by_cases h : x.f0 = 4
  ·simp [h, nf]
  ·simp [h, nf]
theorem runF_keep : ∀ (r : List Ins) (s : List Ins × List Int) (j : Nat), j < s.2.length → (r.foldl stepF s).2[j]? = s.2[j]?
 | [], s, j, h => rfl
 | x :: r, s, j, h => by
  have hl : (stepF s x).2 = s.2 ++ [(s.1.length : Int)] := by unfold stepF; rfl
  rw [List.foldl_cons, runF_keep r (stepF s x) j (by rw [hl, List.length_append]; omega), hl, List.getElem?_append_left h]
theorem runF_snd : ∀ (r : List Ins) (s : List Ins × List Int) (i : Nat), i < r.length → (r.foldl stepF s).2[s.2.length + i]? = some (((s.1.length + ((r.take i).filter nf).length : Nat) : Int))
 | [], s, i, h => absurd h (by simp)
 | x :: r, s, 0, h => by
  have hl : (stepF s x).2 = s.2 ++ [(s.1.length : Int)] := by unfold stepF; rfl
  rw [List.foldl_cons, Nat.add_zero, runF_keep r (stepF s x) s.2.length (by rw [hl, List.length_append]; simp), hl, List.getElem?_append_right (Nat.le_refl _)]
  simp
 | x :: r, s, i + 1, h => by
  have hl : (stepF s x).2 = s.2 ++ [(s.1.length : Int)] := by unfold stepF; rfl
  have hf : (stepF s x).1.length = s.1.length + ([x].filter nf).length := by
   unfold stepF
   by_cases h : x.f0 = 4
   ·simp [h, nf]
   ·simp [h, nf]
  have := runF_snd r (stepF s x) i (by simpa using h)
  rw [List.foldl_cons]
  rw [hl, List.length_append, List.length_singleton, hf] at this
  rw [show s.2.length + (i + 1) = s.2.length + 1 + i by omega, this, List.take_succ_cons]
  have e : (x :: r.take i).filter nf = [x].filter nf ++ (r.take i).filter nf := by
   rw [← List.filter_append]; rfl
  rw [e, List.length_append]
  congr 2
  omega
def posF (q : List Ins) : List Int := (runF q).2 ++ [((runF q).1.length : Int)]
theorem posF_at (q : List Ins) (i : Nat) (h : i ≤ q.length) : rd (posF q) (i : Int) = (((q.take i).filter nf).length : Int) := by
 have h2 := (runF_facts q).2.1
 have h1 : (runF q).1 = q.filter nf := by
  have := runF_fst q ([], [])
  simpa [runF] using this
 unfold posF
 rw [rd_nat _ i (by rw [List.length_append, List.length_singleton]; omega)]
 by_cases e : i < q.length
 ·rw [List.getElem_append_left (by omega)]
  have := runF_snd q ([], []) i e
  simp only [List.length_nil, Nat.zero_add] at this
  have h3 : (runF q).2[i]? = some (((q.take i).filter nf).length : Int) := this
  rw [List.getElem?_eq_getElem (by omega)] at h3
  exact Option.some.inj h3
 ·obtain rfl : i = q.length := by omega
  rw [List.getElem_append_right (by omega)]
  simp [h1]
theorem stripV_eq (q : List Ins) : stripV q = (q.filter nf).map (fixI (posF q)) := by
 have h1 : (runF q).1 = q.filter nf := by
  have := runF_fst q ([], [])
  simpa [runF] using this
 unfold stripV posF
 rw [h1]
/-- What one place adds. -/
def addW (q : List Ins) (has : Nat → Bool) (i : Nat) : List Ins := (if has i = true then [fenceP] else []) ++ (if i < q.length then [rd_T50 q (i : Int)] else [])
theorem wstep_fst (q : List Ins) (has : Nat → Bool) (s : List Ins × List Int) (i : Nat) : (wstep q has s i).1 = s.1 ++ addW q has i := by
 unfold wstep addW
 split <;> simp
theorem addW_nf (q : List Ins) (has : Nat → Bool) (i : Nat) : (q.take i).filter nf ++ (addW q has i).filter nf = (q.take (i + 1)).filter nf := by
 have h1 : (addW q has i).filter nf = (if i < q.length then [rd_T50 q (i : Int)] else []).filter nf := by
  unfold addW
  rw [List.filter_append]
  have e : (if has i = true then [fenceP] else []).filter nf = [] := by split <;> rfl
  rw [e, List.nil_append]
 rw [h1]
 by_cases h : i < q.length
 ·rw [if_pos h, rdIns q i h, ← List.filter_append, List.take_succ_eq_append_getElem h]
 ·rw [if_neg h, List.take_of_length_le (by omega), List.take_of_length_le (by omega)]
  simp
def ToldW (q : List Ins) (i : Nat) (s : List Ins × List Int) : Prop :=
 s.1.filter nf = (q.take i).filter nf ∧ s.2.length = i ∧ ∀ j, j < i → ∃ p : Nat, s.2[j]? = some (p : Int) ∧ p ≤ s.1.length ∧ (s.1.take p).filter nf = (q.take j).filter nf
theorem wrun_told (q : List Ins) (has : Nat → Bool) : ∀ d i s, ToldW q i s → ToldW q (i + d) (wrun q has d i s) := by
 intro d
 induction d with
 | zero => intro i s h; exact h
 | succ d ih =>
  intro i s h
  obtain ⟨h1, h2, h3⟩ := h
  have e2 : (wstep q has s i).2 = s.2 ++ [(s.1.length : Int)] := rfl
  have := ih (i + 1) (wstep q has s i) ⟨by rw [wstep_fst, List.filter_append, h1, addW_nf], by rw [e2, List.length_append, h2]; rfl, fun j hj => by
   rw [wstep_fst, e2]
   by_cases e : j < i
   ·obtain ⟨p, p1, p2, p3⟩ := h3 j e
    exact ⟨p, by rw [List.getElem?_append_left (by omega)]; exact p1, by rw [List.length_append]; omega, by rw [List.take_append_of_le_length p2]; exact p3⟩
   ·obtain rfl : j = i := by omega
    refine ⟨s.1.length, by rw [List.getElem?_append_right (by omega), h2]; simp, by rw [List.length_append]; omega, ?_⟩
    rw [List.take_append_of_le_length (Nat.le_refl _), List.take_length, h1]⟩
  rw [show i + (d + 1) = i + 1 + d by omega]
  exact this
/-- Fences put in and taken out: as if they had never been put in. -/
theorem strip_put (q : List Ins) (has : Nat → Bool) (hj : ∀ x ∈ q, x.f0 = 6 → 0 ≤ x.f3 ∧ x.f3 ≤ q.length) : stripV (putV q has) = stripV q := by
 obtain ⟨h1, h2, h3⟩ := wrun_told q has (q.length + 1) 0 ([], []) ⟨rfl, rfl, fun j hj => absurd hj (by omega)⟩
 rw [Nat.zero_add] at h1 h2 h3
 rw [List.take_of_length_le (by omega)] at h1
 rw [stripV_eq, stripV_eq]
 have hput : putV q has = (wrun q has (q.length + 1) 0 ([], [])).1.map (fixI (wrun q has (q.length + 1) 0 ([], [])).2) := rfl
 rw [hput]
 generalize wrun q has (q.length + 1) 0 ([], []) = s at h1 h2 h3
 rw [filter_fix, h1, List.map_map]
 refine List.map_congr_left fun x hx => ?_
 have hxq := (List.mem_filter.1 hx).1
 show fixI (posF (s.1.map (fixI s.2))) (fixI s.2 x) = fixI (posF q) x
 by_cases h6 : x.f0 = 6
 ·obtain ⟨j0, j1⟩ := hj x hxq h6
  obtain ⟨t, ht⟩ := Int.eq_ofNat_of_zero_le j0
  obtain ⟨p, p1, p2, p3⟩ := h3 t (by omega)
  have hrd : rd s.2 x.f3 = (p : Int) := by
   rw [ht, rd_nat _ t (by omega)]
   rw [List.getElem?_eq_getElem (by omega)] at p1
   exact Option.some.inj p1
  have e1 : fixI s.2 x = ⟨x.f0, x.f1, x.f2, (p : Int)⟩ := by
   unfold fixI
   rw [if_pos h6, hrd]
  have hpos : rd (posF (s.1.map (fixI s.2))) (p : Int) = rd (posF q) x.f3 := by
   rw [posF_at _ p (by rw [List.length_map]; exact p2), ← List.map_take, filter_fix, List.length_map, p3, ht, posF_at q t (by omega)]
  rw [e1, fixI_six _ (⟨x.f0, x.f1, x.f2, (p : Int)⟩ : Ins) h6, fixI_six _ x h6]
  simp only
  rw [hpos]
 ·have e1 : fixI s.2 x = x := by unfold fixI; rw [if_neg h6]
  rw [e1, fixI_not _ x h6, fixI_not _ x h6]

/-! ### what fences cost -/
theorem cnt_append : ∀ (a b : List Ins), cnt (a ++ b) = cnt a + cnt b
 | [], b => by simp [cnt]
 | x :: a, b => by
  rw [List.cons_append]
  simp only [cnt]
  rw [cnt_append a b]
  omega
theorem cnt_fix (p : List Int) : ∀ l : List Ins, cnt (l.map (fixI p)) = cnt l
 | [] => rfl
 | x :: l => by
  rw [List.map_cons]
  simp only [cnt]
  rw [cnt_fix p l]
  have e : fenceB (fixI p x) = fenceB x := by unfold fenceB; rw [fixI_op]
  rw [e]
/-- How many of d places from i on are asked for. -/
def hasN (has : Nat → Bool) : Nat → Nat → Int
 | 0, _ => 0
 | d + 1, i => (if has i = true then 1 else 0) + hasN has d (i + 1)
theorem cnt_wrun (q : List Ins) (has : Nat → Bool) : ∀ d i s, i + d = q.length + 1 → cnt (wrun q has d i s).1 = cnt s.1 + cnt (q.drop i) + hasN has d i := by
 intro d
 induction d with
 | zero =>
  intro i s h
  rw [List.drop_of_length_le (by omega)]
  simp [wrun, cnt, hasN]
 | succ d ih =>
  intro i s h
  simp only [wrun, hasN]
  rw [ih (i + 1) _ (by omega), wstep_fst, cnt_append]
  unfold addW
  rw [cnt_append]
  have e1 : cnt (if has i = true then [fenceP] else []) = if has i = true then 1 else 0 := by split <;> rfl
  rw [e1]
  by_cases hi : i < q.length
  ·rw [if_pos hi, rdIns q i hi, List.drop_eq_getElem_cons hi]
   simp only [cnt]
   omega
  ·rw [if_neg hi, List.drop_of_length_le (by omega), List.drop_of_length_le (by omega)]
   simp only [cnt]
   omega
theorem cnt_put (q : List Ins) (has : Nat → Bool) : cnt (putV q has) = cnt q + hasN has (q.length + 1) 0 := by
 unfold putV
 rw [cnt_fix, cnt_wrun q has (q.length + 1) 0 ([], []) (by omega)]
 simp [cnt]
/-- All places of the codes from t on that are asked for. -/
def sumN (l : List (List Ins)) (has : Nat → Nat → Bool) : Nat → Nat → Int
 | 0, _ => 0
 | d + 1, t => hasN (has t) ((l.getD t []).length + 1) 0 + sumN l has d (t + 1)
theorem tot_puts (l : List (List Ins)) (sp : List Spt) : ∀ d t, t + d = l.length → tot (putsV l sp d t) = tot (l.drop t) + sumN l (hasB sp) d t := by
 intro d
 induction d with
 | zero =>
  intro t h
  rw [List.drop_of_length_le (by omega)]
  rfl
 | succ d ih =>
  intro t h
  have hlt : t < l.length := by omega
  simp only [putsV, sumN, tot]
  rw [ih (t + 1) (by omega), List.drop_eq_getElem_cons hlt, cnt_put]
  have e : l.getD t [] = l[t] := by simp [List.getD_eq_getElem?_getD, hlt]
  rw [e]
  simp only [tot]
  omega
theorem hasN_same (h1 h2 : Nat → Bool) : ∀ d i, (∀ j, i ≤ j → j < i + d → h1 j = h2 j) → hasN h1 d i = hasN h2 d i := by
 intro d
 induction d with
 | zero => intro i h; rfl
 | succ d ih =>
  intro i h
  simp only [hasN]
  rw [h i (Nat.le_refl _) (by omega), ih (i + 1) (fun j a b => h j (by omega) (by omega))]
theorem hasN_more (h1 h2 : Nat → Bool) (i0 : Nat) (hn : h1 i0 = false) (he : ∀ j, h2 j = (h1 j || decide (j = i0))) : ∀ d i, i ≤ i0 → i0 < i + d → hasN h2 d i = hasN h1 d i + 1 := by
 intro d
 induction d with
 | zero => intro i a b; omega
 | succ d ih =>
  intro i a b
  simp only [hasN]
  by_cases e : i = i0
  ·subst e
   rw [hasN_same h2 h1 d (i + 1) (fun j c _ => by rw [he j, decide_eq_false (by omega), Bool.or_false]), he i, hn]
   simp
   omega
  ·rw [ih (i + 1) (by omega) (by omega), he i, decide_eq_false e, Bool.or_false]
   omega
theorem sumN_same (l : List (List Ins)) (h1 h2 : Nat → Nat → Bool) : ∀ d t, (∀ j, t ≤ j → j < t + d → h1 j = h2 j) → sumN l h1 d t = sumN l h2 d t := by
 intro d
 induction d with
 | zero => intro t h; rfl
 | succ d ih =>
  intro t h
  simp only [sumN]
  rw [h t (Nat.le_refl _) (by omega), ih (t + 1) (fun j a b => h j (by omega) (by omega))]
theorem sumN_more (l : List (List Ins)) (h1 h2 : Nat → Nat → Bool) (t0 i0 : Nat) (hi : i0 < (l.getD t0 []).length + 1) (hn : h1 t0 i0 = false) (he : ∀ j, h2 t0 j = (h1 t0 j || decide (j = i0))) (ho : ∀ t, t ≠ t0 → h2 t = h1 t) :
  ∀ d t, t ≤ t0 → t0 < t + d → sumN l h2 d t = sumN l h1 d t + 1 := by
 intro d
 induction d with
 | zero => intro t a b; omega
 | succ d ih =>
  intro t a b
  simp only [sumN]
  by_cases e : t = t0
  ·subst e
   rw [sumN_same l h2 h1 d (t + 1) (fun j c _ => ho j (by omega)), hasN_more (h1 t) (h2 t) i0 hn he _ 0 (by omega) (by omega)]
   omega
  ·rw [ih (t + 1) (by omega) (by omega), ho t e]
   omega
def rankS (s : Spt) : Int := 17 * s.f0 + s.f1
/-- The places asked for are as many as the spots, where these are good and rise. -/
theorem sumN_spots (l : List (List Ins)) : ∀ sp : List Spt, (∀ s ∈ sp, okS l s = true) → sp.Pairwise (fun a b => rankS a < rankS b) → sumN l (hasB sp) l.length 0 = sp.length
 | [], _, _ => by
  have key : ∀ d t, sumN l (hasB []) d t = 0 := by
   intro d
   induction d with
   | zero => intro t; rfl
   | succ d ih =>
    intro t
    have h0 : ∀ d i, hasN (hasB [] t) d i = 0 := by
     intro d
     induction d with
     | zero => intro i; rfl
     | succ d ih => intro i; simp only [hasN, hasB, List.any_nil, Bool.false_eq_true, if_false, Int.zero_add]; exact ih (i + 1)
    simp only [sumN]
    rw [h0, ih]
    rfl
  simpa using key l.length 0
 | x :: r, hok, hp => by
  have ih := sumN_spots l r (fun s hs => hok s (List.mem_cons_of_mem _ hs)) (List.pairwise_cons.1 hp).2
  have hx := (List.pairwise_cons.1 hp).1
  obtain ⟨⟨a0, a1⟩, b0, b1⟩ := okS_facts (hok x List.mem_cons_self)
  obtain ⟨t0, ht⟩ := Int.eq_ofNat_of_zero_le a0
  obtain ⟨i0, hi⟩ := Int.eq_ofNat_of_zero_le b0
  have hlt : t0 < l.length := by omega
  rw [ht, Int.toNat_natCast] at b1
  have := sumN_more l (hasB r) (hasB (x :: r)) t0 i0 (by omega) (by
    rw [← Bool.not_eq_true]
    intro h
    unfold hasB at h
    obtain ⟨s, hs, e⟩ := List.any_eq_true.1 h
    rw [Bool.and_eq_true] at e
    have e1 := of_decide_eq_true e.1
    have e2 := of_decide_eq_true e.2
    have := hx s hs
    unfold rankS at this
    omega) (fun j => by
    unfold hasB
    rw [List.any_cons, Bool.or_comm, decide_eq_true ht, Bool.true_and, hi]
    congr 1
    rw [Bool.eq_iff_iff, decide_eq_true_iff, decide_eq_true_iff]
    omega) (fun t hne => by
    funext j
    unfold hasB
    rw [List.any_cons, decide_eq_false (show ¬ x.f0 = (t : Int) by omega), Bool.false_and, Bool.false_or]) l.length 0 (by omega) (by omega)
  rw [this, ih, List.length_cons]
  omega
theorem goodB_at (l : List (List Ins)) (sp : List Spt) : ∀ d j, j + d = sp.length → goodB l sp d j = true → ∀ i (h : i < sp.length), j ≤ i → okS l sp[i] = true ∧ (∀ h0 : 0 < i, lessB (sp[i - 1]'(by omega)) sp[i] = true) := by
 intro d
 induction d with
 | zero => intro j hj _ i h hij; omega
 | succ d ih =>
  intro j hj hg i h hij
  unfold goodB at hg
  rw [Bool.and_eq_true, Bool.and_eq_true] at hg
  obtain ⟨⟨g1, g2⟩, g3⟩ := hg
  by_cases e : i = j
  ·subst e
   have e1 : rd_T44 sp (i : Int) = sp[i] := getD_nat _ sp i h
   rw [e1] at g1 g2
   refine ⟨g1, fun h0 => ?_⟩
   rw [decide_eq_false (by omega), Bool.false_or] at g2
   have e2 : rd_T44 sp ((i : Int) - 1) = sp[i - 1]'(by omega) := by
    rw [show (i : Int) - 1 = ((i - 1 : Nat) : Int) by omega]
    exact getD_nat _ sp (i - 1) (by omega)
   rw [e2] at g2
   exact g2
  ·exact ih (j + 1) (by omega) g3 i h (by omega)
theorem good_spots (l : List (List Ins)) (sp : List Spt) (hq : ∀ q ∈ l, q.length ≤ 16) (hg : goodB l sp sp.length 0 = true) : (∀ s ∈ sp, okS l s = true) ∧ sp.Pairwise (fun a b => rankS a < rankS b) := by
 have h := goodB_at l sp sp.length 0 (by omega) hg
 have hok : ∀ s ∈ sp, okS l s = true := fun s hs => by
  obtain ⟨i, hi, rfl⟩ := List.getElem_of_mem hs
  exact (h i hi (Nat.zero_le _)).1
 have h16 : ∀ s ∈ sp, 0 ≤ s.f1 ∧ s.f1 ≤ 16 := fun s hs => by
  obtain ⟨⟨a0, a1⟩, b0, b1⟩ := okS_facts (hok s hs)
  obtain ⟨t0, ht⟩ := Int.eq_ofNat_of_zero_le a0
  have hlt : t0 < l.length := by omega
  rw [ht, Int.toNat_natCast] at b1
  have e : l.getD t0 [] = l[t0] := by simp [List.getD_eq_getElem?_getD, hlt]
  rw [e] at b1
  have := hq _ (List.getElem_mem hlt)
  omega
 refine ⟨hok, ?_⟩
 rw [List.pairwise_iff_getElem]
 have step : ∀ i (h1 : i + 1 < sp.length), rankS (sp[i]'(by omega)) < rankS sp[i + 1] := fun i h1 => by
  have hl := (h (i + 1) h1 (Nat.zero_le _)).2 (by omega)
  have ha := h16 _ (List.getElem_mem (show i < sp.length by omega))
  have hb := h16 _ (List.getElem_mem h1)
  unfold lessB at hl
  simp only [Nat.add_sub_cancel, Bool.or_eq_true, Bool.and_eq_true, decide_eq_true_iff] at hl
  unfold rankS
  omega
 have key : ∀ d i (h1 : i + d + 1 < sp.length), rankS (sp[i]'(by omega)) < rankS (sp[i + d + 1]'h1) := by
  intro d
  induction d with
  | zero => intro i h1; exact step i h1
  | succ d ih =>
   intro i h1
   have a := ih i (by omega)
   have b := step (i + d + 1) (by omega)
   exact Int.lt_trans a b
 intro i j hi hj hij
 obtain ⟨d, rfl⟩ : ∃ d, j = i + d + 1 := ⟨j - i - 1, by omega⟩
 exact key d i hj

end Go.Proofs.Ytbgclnjnngolmaa.Pure

/- The draws of memories: from every seed the reference's drawer comes to an end, with a memory. No condition but that lengths are lengths. -/
namespace Go.Proofs.Ytbgclnjnngolmaa.Pure
open Go.RowKit Go.Proofs.Ytbgclnjnngolmaa.P Go.Proofs.Ytbgclnjnngolmaa.Gen Go.Proofs.YtbgclnjnngolmaaW.PrintWords

theorem and_255 (x : Int) : 0 ≤ Go.bits .and .i64 x 255 ∧ Go.bits .and .i64 x 255 ≤ 255 := by
 have h : (BitVec.ofInt 64 x &&& BitVec.ofInt 64 255).toNat < 2 ^ 8 := by
  rw [BitVec.toNat_and]
  exact Nat.and_lt_two_pow _ (by decide)
 have e : Go.bits .and .i64 x 255 = IntKind.i64.wrap ((BitVec.ofInt 64 x &&& BitVec.ofInt 64 255).toNat : Int) := rfl
 rw [e, IntKind.wrap_i64]
 omega
theorem byte_ok (l : List Int) (p s : Int) (hl : Len l) (h0 : 0 ≤ p) : ∃ b p' s', spec_l01Byte.f l p s = some (b, p', s') ∧ 0 ≤ b ∧ b ≤ 255 ∧ 0 ≤ p' := by
 unfold spec_l01Byte.f
 unfold Len at hl
 by_cases h : p < (l.length : Int)
 ·rw [if_pos h, if_pos h0]
  have hw : wrap64 (p + 1) = p + 1 := wrap_id (by omega) (by omega)
  have := and_255 (wrap64 ((Go.bits .and .i64 (Go.bits .xor .i64 ((wrap64 ((wrap64 (s * 6364136223846793005)) + 1442695040888963407)) / 8589934592) ((wrap64 ((wrap64 (s * 6364136223846793005)) + 1442695040888963407)) / 35184372088832)) 255) + (wrap64 (rd l p))))
  exact ⟨_, _, _, rfl, this.1, this.2, by omega⟩
 ·rw [if_neg h]
  have := and_255 (Go.bits .xor .i64 ((wrap64 ((wrap64 (s * 6364136223846793005)) + 1442695040888963407)) / 8589934592) ((wrap64 ((wrap64 (s * 6364136223846793005)) + 1442695040888963407)) / 35184372088832))
  exact ⟨_, _, _, rfl, this.1, this.2, h0⟩
theorem below_ok (l : List Int) (p s a : Int) (hl : Len l) (h0 : 0 ≤ p) : ∃ x p' s', spec_l01Below.f l p s a = some (x, p', s') ∧ 0 ≤ x ∧ (0 < a → x < a) ∧ 0 ≤ p' := by
 unfold spec_l01Below.f
 by_cases ha : a ≤ 0
 ·rw [if_pos ha]
  exact ⟨_, _, _, rfl, by omega, by omega, h0⟩
 ·rw [if_neg ha]
  by_cases h2 : a ≤ 256
  ·rw [if_pos h2]
   obtain ⟨b, p', s', e, b0, b1, hp⟩ := byte_ok l p s hl h0
   rw [e, Option.bind_some, if_neg (by omega)]
   exact ⟨_, _, _, rfl, Int.tmod_nonneg _ b0, fun h => Int.tmod_lt_of_pos _ h, hp⟩
  ·rw [if_neg h2]
   obtain ⟨b1, p1, s1, e1, l1, u1, hp1⟩ := byte_ok l p s hl h0
   obtain ⟨b2, p2, s2, e2, l2, u2, hp2⟩ := byte_ok l p1 s1 hl hp1
   obtain ⟨b3, p3, s3, e3, l3, u3, hp3⟩ := byte_ok l p2 s2 hl hp2
   rw [e1, Option.bind_some, e2, Option.bind_some, e3, Option.bind_some, if_neg (by omega)]
   refine ⟨_, _, _, rfl, Int.tmod_nonneg _ ?_, fun h => Int.tmod_lt_of_pos _ h, hp3⟩
   simp only
   rw [wrap_id (x := b1 * 65536) (by omega) (by omega), wrap_id (x := b2 * 256) (by omega) (by omega), wrap_id (x := b1 * 65536 + b2 * 256) (by omega) (by omega), wrap_id (by omega) (by omega)]
   omega
theorem once_ok (l : List Int) (p s a : Int) (hl : Len l) (h0 : 0 ≤ p) : ∃ b p' s', spec_l01Once.f l p s a = some (b, p', s') ∧ 0 ≤ p' := by
 unfold spec_l01Once.f
 obtain ⟨x, p', s', e, _, _, hp⟩ := below_ok l p s a hl h0
 rw [e]
 exact ⟨_, _, _, rfl, hp⟩
theorem pick_ok (l : List Int) (p s : Int) (m : List Int) (hl : Len l) (h0 : 0 ≤ p) (hm : 1 ≤ m.length) : ∃ x p' s', spec_l01PickInt.f l p s m = some (x, p', s') ∧ x ∈ m ∧ 0 ≤ p' := by
 unfold spec_l01PickInt.f
 obtain ⟨x, p', s', e, h1, h2, hp⟩ := below_ok l p s m.length hl h0
 have h3 := h2 (by omega)
 obtain ⟨n, rfl⟩ := Int.eq_ofNat_of_zero_le h1
 have hn : n < m.length := by have : (n : Int) < m.length := h3; omega
 rw [e, Option.bind_some, if_pos h1, if_pos h3]
 exact ⟨_, _, _, rfl, by show rd m ((n : Nat) : Int) ∈ m; rw [rd_nat m n hn]; exact List.getElem_mem hn, hp⟩
theorem new_loop (l : List Int) (hl : Len l) : ∀ d (j : Nat) (s : Int) k, j ≤ 4000 → 4000 - j = d → d < k → ∃ s', spec_l01New.l0 k l s (j : Int) = some (l, 0, s') := by
 unfold Len at hl
 intro d
 induction d with
 | zero =>
  intro j s k hj hd hk
  obtain ⟨k, rfl⟩ : ∃ m, k = m + 1 := ⟨k - 1, by omega⟩
  simp only [spec_l01New.l0]
  by_cases h : (j : Int) < (l.length : Int)
  ·rw [if_pos h, if_neg (by omega)]
   exact ⟨_, rfl⟩
  ·rw [if_neg h]
   exact ⟨_, rfl⟩
 | succ d ih =>
  intro j s k hj hd hk
  obtain ⟨k, rfl⟩ : ∃ m, k = m + 1 := ⟨k - 1, by omega⟩
  simp only [spec_l01New.l0]
  by_cases h : (j : Int) < (l.length : Int)
  ·rw [if_pos h, if_pos (by omega), if_pos (by omega), wrap_succ (n := l.length) (by omega) hl]
   exact ih (j + 1) _ k (by omega) (by omega) (by omega)
  ·rw [if_neg h]
   exact ⟨_, rfl⟩
theorem new_ok (l : List Int) (hl : Len l) (k : Nat) (hk : 4000 < k) : ∃ s', spec_l01New.f k l = some (l, 0, s') := by
 unfold spec_l01New.f
 exact new_loop l hl 4000 0 _ k (by omega) (by omega) (by omega)

end Go.Proofs.Ytbgclnjnngolmaa.Pure

/- The draws of programs and spots: from every seed the reference's drawer comes to an end, with few codes of few instructions. No condition but that lengths are lengths. -/
namespace Go.Proofs.Ytbgclnjnngolmaa.Pure
open Go.RowKit Go.Proofs.Ytbgclnjnngolmaa.P Go.Proofs.Ytbgclnjnngolmaa.Gen Go.Proofs.YtbgclnjnngolmaaW.PrintWords
set_option linter.unusedSimpArgs false
set_option linter.unusedVariables false

theorem named2 (op f : Int) (h0 : 0 ≤ op) (h8 : op ≤ 8) (hf : f = 114 ∨ f = 115) (k : Nat) (hk : 5 ≤ k) : ∃ b, spec_l02Named.f k op f = some b :=
 ⟨_, named op f h0 h8 (by omega) k hk⟩
theorem drawJ2 (l : List Int) (hl : Len l) (p s c n o x1 x2 x3 x4 : Int) (b : Bool) (h0 : 0 ≤ p) (k : Nat) (hk : 1 ≤ k) : ∃ a b' d e p' s', spec_l02DrawInstr.j2 k c n o b l p s x1 x2 x3 x4 = some (a, b', d, e, p', s') ∧ 0 ≤ p' := by
 obtain ⟨k, rfl⟩ : ∃ m, k = m + 1 := ⟨k - 1, by omega⟩
 simp only [spec_l02DrawInstr.j2]
 split
 ·obtain ⟨x, p1, s1, e1, _, _, hp1⟩ := below_ok l p s c hl h0
  rw [e1, Option.bind_some]
  exact ⟨_, _, _, _, _, _, rfl, hp1⟩
 ·split
  ·obtain ⟨x, p1, s1, e1, _, _, hp1⟩ := below_ok l p s (wrap64 (n + 1)) hl h0
   rw [e1, Option.bind_some]
   exact ⟨_, _, _, _, _, _, rfl, hp1⟩
  ·exact ⟨_, _, _, _, _, _, rfl, h0⟩
theorem drawJ1 (l : List Int) (hl : Len l) (p s c n x1 x2 x3 x4 : Int) (h0 : 0 ≤ p) (k : Nat) (hk : 2 ≤ k) : ∃ a b' d e p' s', spec_l02DrawInstr.j1 k c n l p s x1 x2 x3 x4 = some (a, b', d, e, p', s') ∧ 0 ≤ p' := by
 obtain ⟨k, rfl⟩ : ∃ m, k = m + 1 := ⟨k - 1, by omega⟩
 simp only [spec_l02DrawInstr.j1]
 split
 ·obtain ⟨z, p1, s1, e1, _, hp1⟩ := pick_ok l p s [0, 1, 1, 2, 5, -1, 1000] hl h0 (by simp)
  rw [e1, Option.bind_some]
  exact ⟨_, _, _, _, _, _, rfl, hp1⟩
 ·split
  ·exact drawJ2 l hl p s c n x1 x1 x2 x3 x4 _ h0 k (by omega)
  ·split
   ·exact drawJ2 l hl p s c n x1 x1 x2 x3 x4 _ h0 k (by omega)
   ·split
    ·exact drawJ2 l hl p s c n x1 x1 x2 x3 x4 _ h0 k (by omega)
    ·exact drawJ2 l hl p s c n x1 x1 x2 x3 x4 _ h0 k (by omega)
theorem drawJ0 (l : List Int) (hl : Len l) (p s c n x1 x2 x3 x4 : Int) (h8 : 0 ≤ x1 ∧ x1 ≤ 8) (h0 : 0 ≤ p) (k : Nat) (hk : 10 ≤ k) : ∃ a b' d e p' s', spec_l02DrawInstr.j0 k c n l p s x1 x2 x3 x4 = some (a, b', d, e, p', s') ∧ 0 ≤ p' := by
 obtain ⟨k, rfl⟩ : ∃ m, k = m + 1 := ⟨k - 1, by omega⟩
 simp only [spec_l02DrawInstr.j0]
 obtain ⟨b, hb⟩ := named2 x1 115 h8.1 h8.2 (.inr rfl) k (by omega)
 rw [hb, Option.bind_some]
 split
 ·obtain ⟨x, p1, s1, e1, _, _, hp1⟩ := below_ok l p s 3 hl h0
  rw [e1, Option.bind_some]
  exact drawJ1 l hl p1 s1 c n x1 x2 x x4 hp1 k (by omega)
 ·exact drawJ1 l hl p s c n x1 x2 x3 x4 h0 k (by omega)
theorem drawInstr_ok (l : List Int) (p s c n : Int) (hl : Len l) (h0 : 0 ≤ p) (k : Nat) (hk : 20 ≤ k) : ∃ a b d e p' s', spec_l02DrawInstr.f k l p s c n = some (a, b, d, e, p', s') ∧ 0 ≤ p' := by
 unfold spec_l02DrawInstr.f
 obtain ⟨o, p1, s1, e1, ho, hp1⟩ := pick_ok l p s [0, 0, 1, 2, 2, 2, 3, 3, 3, 3, 4, 5, 6, 7, 8] hl h0 (by simp)
 have h8 : 0 ≤ o ∧ o ≤ 8 := by
  simp only [List.mem_cons, List.not_mem_nil, or_false] at ho
  omega
 rw [e1, Option.bind_some]
 simp only
 obtain ⟨b, hb⟩ := named2 o 114 h8.1 h8.2 (.inl rfl) k (by omega)
 rw [hb, Option.bind_some]
 split
 ·obtain ⟨x, p2, s2, e2, _, _, hp2⟩ := below_ok l p1 s1 3 hl hp1
  rw [e2, Option.bind_some]
  exact drawJ0 l hl p2 s2 c n o x 0 0 h8 hp2 k (by omega)
 ·exact drawJ0 l hl p1 s1 c n o 0 0 0 h8 hp1 k (by omega)
theorem bendInstr_ok (l : List Int) (p s a b c d : Int) (hl : Len l) (h0 : 0 ≤ p) : ∃ a' b' c' d' p' s', spec_l02BendInstr.f l p s a b c d = some (a', b', c', d', p', s') ∧ 0 ≤ p' := by
 unfold spec_l02BendInstr.f
 obtain ⟨x, p1, s1, e1, l1, u1, hp1⟩ := below_ok l p s 4 hl h0
 rw [e1, Option.bind_some]
 simp only
 split
 ·obtain ⟨y, p2, s2, e2, _, _, hp2⟩ := below_ok l p1 s1 9 hl hp1
  rw [e2, Option.bind_some]
  simp only
  obtain ⟨z, p3, s3, e3, _, hp3⟩ := pick_ok l p2 s2 [-1, 9, y] hl hp2 (by simp)
  rw [e3, Option.bind_some]
  exact ⟨_, _, _, _, _, _, rfl, hp3⟩
 ·split
  ·obtain ⟨z, p3, s3, e3, _, hp3⟩ := pick_ok l p1 s1 [-1, 3, 4] hl hp1 (by simp)
   rw [e3, Option.bind_some]
   exact ⟨_, _, _, _, _, _, rfl, hp3⟩
  ·split
   ·obtain ⟨z, p3, s3, e3, _, hp3⟩ := pick_ok l p1 s1 [-1, 3, 4, 1] hl hp1 (by simp)
    rw [e3, Option.bind_some]
    exact ⟨_, _, _, _, _, _, rfl, hp3⟩
   ·split
    ·obtain ⟨z, p3, s3, e3, _, hp3⟩ := pick_ok l p1 s1 [-1, 15, 16, 17, 1000, 1001, -1000, -1001] hl hp1 (by simp)
     rw [e3, Option.bind_some]
     exact ⟨_, _, _, _, _, _, rfl, hp3⟩
    ·exact ⟨_, _, _, _, _, _, rfl, hp1⟩
theorem drawCode_ok (l : List Int) (hl : Len l) (c : Int) (n : Int) (hn : n ≤ 20) : ∀ d k (j : Nat) (acc : List Ins) (p s : Int), acc.length = j → (n - j).toNat = d → 30 + d < k → 0 ≤ p →
  ∃ q p' s', spec_l02DrawCode.l0 k c n acc (j : Int) l p s = some (q, p', s') ∧ 0 ≤ p' ∧ (q.length : Int) = max n j := by
 intro d
 induction d with
 | zero =>
  intro k j acc p s ha hd hk h0
  obtain ⟨k, rfl⟩ : ∃ m, k = m + 1 := ⟨k - 1, by omega⟩
  simp only [spec_l02DrawCode.l0]
  rw [if_neg (by omega)]
  exact ⟨_, _, _, rfl, h0, by omega⟩
 | succ d ih =>
  intro k j acc p s ha hd hk h0
  obtain ⟨k, rfl⟩ : ∃ m, k = m + 1 := ⟨k - 1, by omega⟩
  simp only [spec_l02DrawCode.l0]
  obtain ⟨a, b, e, f, p1, s1, e1, hp1⟩ := drawInstr_ok l p s c n hl h0 k (by omega)
  rw [if_pos (by omega), e1, Option.bind_some, if_pos (by omega), wrap_id (x := (j : Int) + 1) (by omega) (by omega)]
  obtain ⟨q, p2, s2, e2, hp2, hq⟩ := ih k (j + 1) (acc ++ [⟨a, b, e, f⟩]) p1 s1 (by simp [ha]) (by omega) (by omega) hp1
  exact ⟨q, p2, s2, by rw [show (j : Int) + 1 = ((j + 1 : Nat) : Int) by omega]; exact e2, hp2, by omega⟩
def smallP (m : Nat) (l : List (List Ins)) : Prop := l.length ≤ m ∧ ∀ q ∈ l, q.length ≤ 20
theorem drawProg_j3 (l : List Int) (hl : Len l) (most n : Int) (K : Nat) (j : Nat) (c : Int) (acc : List (List Ins)) (hacc : smallP 3 acc) (hj : acc.length = j) (hj3 : j < 3)
  (ih : ∀ k (acc : List (List Ins)) p s, smallP 3 acc → acc.length = j + 1 → K ≤ k → 0 ≤ p → ∃ a r p' s', spec_l02DrawProg.l0 k most n ((j + 1 : Nat) : Int) l p s c acc = some (a, r, p', s') ∧ 0 ≤ p' ∧ smallP 3 r)
  (k : Nat) (hk : K < k) (q : List Ins) (hq : q.length ≤ 20) (b : Bool) (hb : b = true → 2 ≤ q.length) (p s : Int) (h0 : 0 ≤ p) :
  ∃ a r p' s', spec_l02DrawProg.j3 k most n (j : Int) q b l p s c acc = some (a, r, p', s') ∧ 0 ≤ p' ∧ smallP 3 r := by
 obtain ⟨k, rfl⟩ : ∃ m, k = m + 1 := ⟨k - 1, by omega⟩
 have h1 := hacc.1
 have hadd : ∀ q' : List Ins, q'.length ≤ 20 → smallP 3 (acc ++ [q']) := fun q' hq' => ⟨by simp; omega, fun x hx => by
  rcases List.mem_append.1 hx with hx | hx
  ·exact hacc.2 x hx
  ·rw [List.mem_singleton.1 hx]; exact hq'⟩
 have hw : wrap64 ((j : Int) + 1) = ((j + 1 : Nat) : Int) := by rw [wrap_id (by omega) (by omega)]; omega
 simp only [spec_l02DrawProg.j3]
 by_cases hbb : b = true
 ·have h2 := hb hbb
  rw [if_pos hbb]
  obtain ⟨x1, p1, s1, e1, _, _, hp1⟩ := below_ok l p s 2 hl h0
  rw [e1, Option.bind_some]
  simp only
  obtain ⟨x2, p2, s2, e2, _, _, hp2⟩ := below_ok l p1 s1 3 hl hp1
  rw [e2, Option.bind_some]
  simp only
  rw [if_pos (by omega), Option.bind_some]
  obtain ⟨x3, p3, s3, e3, _, _, hp3⟩ := below_ok l p2 s2 c hl hp2
  rw [e3, Option.bind_some]
  simp only
  rw [if_pos (by omega), if_pos (by omega), hw]
  exact ih k _ p3 s3 (hadd _ (by simpa using hq)) (by simp [hj]) (by omega) hp3
 ·rw [if_neg hbb, if_pos (by omega), hw]
  exact ih k _ p s (hadd _ hq) (by simp [hj]) (by omega) h0
theorem drawProg_loop (l : List Int) (hl : Len l) (most : Int) (hm : most ≤ 16) (n : Int) (hn : n ≤ 3) (c : Int) : ∀ d k (j : Nat) (acc : List (List Ins)) (p s : Int), smallP 3 acc → acc.length = j → (n - j).toNat = d → d * 10 + 70 < k → 0 ≤ p →
  ∃ a r p' s', spec_l02DrawProg.l0 k most n (j : Int) l p s c acc = some (a, r, p', s') ∧ 0 ≤ p' ∧ smallP 3 r := by
 intro d
 induction d with
 | zero =>
  intro k j acc p s hs hj hd hk h0
  obtain ⟨k, rfl⟩ : ∃ m, k = m + 1 := ⟨k - 1, by omega⟩
  simp only [spec_l02DrawProg.l0]
  rw [if_neg (by omega)]
  exact ⟨_, _, _, _, rfl, h0, hs⟩
 | succ d ih =>
  intro k j acc p s hs hj hd hk h0
  obtain ⟨k, rfl⟩ : ∃ m, k = m + 4 := ⟨k - 4, by omega⟩
  have key : ∀ (x8 : Int) (p s : Int), x8 ≤ 16 → 0 ≤ p → ∃ a r p' s', spec_l02DrawProg.j2 (k + 2) most n (j : Int) x8 l p s c acc = some (a, r, p', s') ∧ 0 ≤ p' ∧ smallP 3 r := by
   intro x8 p s hx8 h0
   simp only [spec_l02DrawProg.j2]
   unfold spec_l02DrawCode.f
   obtain ⟨q, p1, s1, e1, hp1, hq⟩ := drawCode_ok l hl c x8 (by omega) (x8 - (0 : Nat)).toNat (k + 1) 0 [] p s rfl rfl (by omega) h0
   rw [show (0 : Int) = ((0 : Nat) : Int) from rfl, e1, Option.bind_some]
   simp only
   obtain ⟨x2, p2, s2, e2, _, _, hp2⟩ := below_ok l p1 s1 3 hl hp1
   rw [e2, Option.bind_some]
   simp only
   have hq20 : q.length ≤ 20 := by omega
   have ih' : ∀ k (acc : List (List Ins)) p s, smallP 3 acc → acc.length = j + 1 → d * 10 + 71 ≤ k → 0 ≤ p → ∃ a r p' s', spec_l02DrawProg.l0 k most n ((j + 1 : Nat) : Int) l p s c acc = some (a, r, p', s') ∧ 0 ≤ p' ∧ smallP 3 r :=
    fun k acc p s h1 h2 h3 h4 => ih k (j + 1) acc p s h1 h2 (by omega) (by omega) h4
   split
   ·exact drawProg_j3 l hl most n (d * 10 + 71) j c acc hs hj (by omega) ih' (k + 1) (by omega) q hq20 _ (fun h => by have := of_decide_eq_true h; omega) p2 s2 hp2
   ·exact drawProg_j3 l hl most n (d * 10 + 71) j c acc hs hj (by omega) ih' (k + 1) (by omega) q hq20 _ (fun h => by cases h) p2 s2 hp2
  simp only [spec_l02DrawProg.l0]
  rw [if_pos (by omega)]
  obtain ⟨x, p1, s1, e1, hx0, hx1, hp1⟩ := below_ok l p s most hl h0
  rw [e1, Option.bind_some]
  simp only
  have hx : x ≤ 15 := by
   by_cases h : 0 < most
   ·have := hx1 h; omega
   ·unfold spec_l01Below.f at e1
    rw [if_pos (by omega)] at e1
    have := congrArg (·.1) (Option.some.inj e1)
    simp only at this
    omega
  have hw : wrap64 (1 + x) = 1 + x := wrap_id (by omega) (by omega)
  rw [hw]
  split
  ·simp only [spec_l02DrawProg.j1]
   split
   ·exact key 3 p1 s1 (by omega) hp1
   ·exact key (1 + x) p1 s1 (by omega) hp1
  ·simp only [spec_l02DrawProg.j1]
   rw [if_neg (by decide)]
   exact key (1 + x) p1 s1 (by omega) hp1
theorem drawProg_ok (l : List Int) (hl : Len l) (p s most : Int) (hm : most ≤ 16) (h0 : 0 ≤ p) (k : Nat) (hk : 120 ≤ k) : ∃ a r p' s', spec_l02DrawProg.f k l p s most = some (a, r, p', s') ∧ 0 ≤ p' ∧ smallP 3 r := by
 unfold spec_l02DrawProg.f
 obtain ⟨x1, p1, s1, e1, _, _, hp1⟩ := below_ok l p s 3 hl h0
 rw [e1, Option.bind_some]
 simp only
 obtain ⟨x2, p2, s2, e2, l2, u2, hp2⟩ := below_ok l p1 s1 3 hl hp1
 rw [e2, Option.bind_some]
 simp only
 have h3 := u2 (by omega)
 have hw : wrap64 (1 + x2) = 1 + x2 := wrap_id (by omega) (by omega)
 rw [hw]
 exact drawProg_loop l hl most hm (1 + x2) (by omega) _ _ k 0 [] p2 s2 ⟨by simp, by simp⟩ rfl rfl (by omega) hp2
theorem l02Codes_ok (l : List Ins) (hl : l.length ≤ 20) (k : Nat) (hk : 30 ≤ k) : spec_l02Codes.f k l = some l := by
 have key : ∀ d k (j : Nat), j ≤ l.length → l.length - j = d → d < k → spec_l02Codes.l0 k l (l.take j) (j : Int) = some l := by
  intro d
  induction d with
  | zero =>
   intro k j hj hd hk
   obtain ⟨k, rfl⟩ : ∃ m, k = m + 1 := ⟨k - 1, by omega⟩
   simp only [spec_l02Codes.l0]
   rw [if_neg (by omega), List.take_of_length_le (by omega)]
  | succ d ih =>
   intro k j hj hd hk
   obtain ⟨k, rfl⟩ : ∃ m, k = m + 1 := ⟨k - 1, by omega⟩
   have hlt : j < l.length := by omega
   simp only [spec_l02Codes.l0]
   rw [if_pos (by omega), if_pos (by omega), if_pos (by rw [List.length_take]; omega), rdIns l j hlt, wrap_succ hlt (by omega)]
   have e : l.take j ++ [(⟨l[j].f0, l[j].f1, l[j].f2, l[j].f3⟩ : Ins)] = l.take (j + 1) := by rw [List.take_succ_eq_append_getElem hlt]
   rw [e]
   exact ih k (j + 1) (by omega) (by omega) (by omega)
 have := key l.length k 0 (by omega) (by omega) (by omega)
 simpa [spec_l02Codes.f] using this
theorem bend_j0 (l : List Int) (hl : Len l) (b : Bool) (p s c : Int) (r : List (List Ins)) (hr : smallP 3 r) (hb : b = true → ∃ h : 0 < r.length, 0 < r[0].length) (h0 : 0 ≤ p) (k : Nat) (hk : 40 ≤ k) : ∃ a r' p' s', spec_l02Bend.j0 k b l p s c r = some (a, r', p', s') ∧ 0 ≤ p' ∧ smallP 5 r' := by
 obtain ⟨k, rfl⟩ : ∃ m, k = m + 1 := ⟨k - 1, by omega⟩
 simp only [spec_l02Bend.j0]
 by_cases hbb : b = true
 ·obtain ⟨h1, h2⟩ := hb hbb
  have hq := hr.2 _ (List.getElem_mem h1)
  have e : rd_L4 r 0 = r[0] := rdCode r 0 h1
  rw [if_pos hbb, if_pos (by omega), e, l02Codes_ok _ hq k (by omega), Option.bind_some]
  obtain ⟨x, p1, s1, e1, l1, u1, hp1⟩ := below_ok l p s (r[0].length : Int) hl h0
  have u := u1 (by omega)
  rw [e1, Option.bind_some]
  simp only
  rw [if_pos l1, if_pos u]
  obtain ⟨a', b', c', d', p2, s2, e2, hp2⟩ := bendInstr_ok l p1 s1 (rd_T50 r[0] x).f0 (rd_T50 r[0] x).f1 (rd_T50 r[0] x).f2 (rd_T50 r[0] x).f3 hl hp1
  rw [e2, Option.bind_some]
  refine ⟨_, _, _, _, rfl, hp2, by rw [List.length_set]; have := hr.1; omega, fun q hx => ?_⟩
  rcases List.mem_or_eq_of_mem_set hx with hx | rfl
  ·exact hr.2 q hx
  ·rw [List.length_set]; exact hq
 ·rw [if_neg hbb]
  exact ⟨_, _, _, _, rfl, h0, by have := hr.1; omega, hr.2⟩
theorem bend_ok (l : List Int) (hl : Len l) (p s c : Int) (r : List (List Ins)) (hr : smallP 3 r) (h0 : 0 ≤ p) (k : Nat) (hk : 40 ≤ k) : ∃ a r' p' s', spec_l02Bend.f k l p s c r = some (a, r', p', s') ∧ 0 ≤ p' ∧ smallP 5 r' := by
 have h3 := hr.1
 have hr5 : smallP 5 r := ⟨by omega, hr.2⟩
 unfold spec_l02Bend.f
 rw [Option.bind_some]
 simp only
 obtain ⟨x, p1, s1, e1, l1, u1, hp1⟩ := below_ok l p s 4 hl h0
 rw [e1, Option.bind_some]
 simp only
 split
 ·obtain ⟨z, p2, s2, e2, _, hp2⟩ := pick_ok l p1 s1 [0, 1, 16, 17] hl hp1 (by simp)
  rw [e2, Option.bind_some]
  exact ⟨_, _, _, _, rfl, hp2, hr5⟩
 ·split
  ·rw [Option.bind_some, if_pos (by simp only [List.length_cons, List.length_nil]; omega)]
   refine ⟨_, _, _, _, rfl, hp1, by simp only [List.length_append, List.length_cons, List.length_nil]; omega, fun q hx => ?_⟩
   rcases List.mem_append.1 hx with hx | hx
   ·exact hr.2 q hx
   ·simp only [List.mem_cons, List.not_mem_nil, or_false, or_self] at hx
    rw [hx]; simp
  ·split
   ·exact ⟨_, _, _, _, rfl, hp1, by simp, by simp⟩
   ·split
    ·split
     ·next h1 =>
      have hlen : 0 < r.length := by omega
      have e : rd_L4 r 0 = r[0] := rdCode r 0 hlen
      first | rw [if_pos (by omega), e] | rw [e]
      exact bend_j0 l hl _ p1 s1 c r hr (fun h => ⟨hlen, by have := of_decide_eq_true h; omega⟩) hp1 k hk
     ·exact bend_j0 l hl _ p1 s1 c r hr (fun h => by cases h) hp1 k hk
    ·exact ⟨_, _, _, _, rfl, hp1, hr5⟩

theorem l05Draw_ok (l : List Int) (hl : Len l) (p s : Int) (h0 : 0 ≤ p) (k : Nat) (hk : 120 ≤ k) : ∃ a r p' s', spec_l05DrawProg.f k l p s = some (a, r, p', s') ∧ 0 ≤ p' ∧ smallP 5 r := by
 unfold spec_l05DrawProg.f
 obtain ⟨c, P, p1, s1, e1, hp1, hs1⟩ := drawProg_ok l hl p s 4 (by omega) h0 k hk
 rw [e1, Option.bind_some]
 simp only
 obtain ⟨b, p2, s2, e2, hp2⟩ := once_ok l p1 s1 30 hl hp1
 rw [e2, Option.bind_some]
 simp only
 split
 ·obtain ⟨c', P', p3, s3, e3, hp3, hs3⟩ := bend_ok l hl p2 s2 c P hs1 hp2 k (by omega)
  rw [e3, Option.bind_some]
  exact ⟨_, _, _, _, rfl, hp3, hs3⟩
 ·exact ⟨_, _, _, _, rfl, hp2, by have := hs1.1; omega, hs1.2⟩
theorem spots_inner (l : List Int) (hl : Len l) (c : Int) (P : List (List Ins)) (hP : smallP 5 P) (t : Nat) (ht : t < P.length) (M K : Nat) (hM : M + 30 ≤ 1000)
  (hR : ∀ k (acc : List Spt) p s, K ≤ k → acc.length ≤ M + 30 → 0 ≤ p → ∃ r p' s', spec_l07DrawSpots.l0 k acc ((t + 1 : Nat) : Int) l p s c P = some (r, p', s') ∧ r.length ≤ 1000) :
  ∀ d k (i : Nat) (acc : List Spt) p s, i + d = P[t].length + 1 → acc.length ≤ M + i → K + d < k → 0 ≤ p → ∃ r p' s', spec_l07DrawSpots.l1 k acc (t : Int) (i : Int) l p s c P = some (r, p', s') ∧ r.length ≤ 1000 := by
 have h20 := hP.2 _ (List.getElem_mem ht)
 have h5 := hP.1
 have e : rd_L4 P (t : Int) = P[t] := rdCode P t ht
 intro d
 induction d with
 | zero =>
  intro k i acc p s hi ha hk h0
  obtain ⟨k, rfl⟩ : ∃ m, k = m + 1 := ⟨k - 1, by omega⟩
  simp only [spec_l07DrawSpots.l1]
  rw [if_pos (by omega), if_pos (by omega), e, if_neg (by omega), wrap_id (x := (t : Int) + 1) (by omega) (by omega), show (t : Int) + 1 = ((t + 1 : Nat) : Int) by omega]
  exact hR k acc p s (by omega) (by omega) h0
 | succ d ih =>
  intro k i acc p s hi ha hk h0
  obtain ⟨k, rfl⟩ : ∃ m, k = m + 1 := ⟨k - 1, by omega⟩
  simp only [spec_l07DrawSpots.l1]
  obtain ⟨b, p1, s1, e1, hp1⟩ := once_ok l p s 4 hl h0
  rw [if_pos (by omega), if_pos (by omega), e, if_pos (by omega), e1, Option.bind_some, wrap_id (x := (i : Int) + 1) (by omega) (by omega), show (i : Int) + 1 = ((i + 1 : Nat) : Int) by omega]
  simp only
  split
  ·rw [if_pos (by omega)]
   exact ih k (i + 1) _ p1 s1 (by omega) (by simp; omega) (by omega) hp1
  ·exact ih k (i + 1) _ p1 s1 (by omega) (by omega) (by omega) hp1
theorem spots_outer (l : List Int) (hl : Len l) (c : Int) (P : List (List Ins)) (hP : smallP 5 P) : ∀ d k (t : Nat) (acc : List Spt) p s, t + d = P.length → acc.length ≤ 30 * t → d * 40 < k → 0 ≤ p → ∃ r p' s', spec_l07DrawSpots.l0 k acc (t : Int) l p s c P = some (r, p', s') ∧ r.length ≤ 1000 := by
 have h5 := hP.1
 intro d
 induction d with
 | zero =>
  intro k t acc p s ht ha hk h0
  obtain ⟨k, rfl⟩ : ∃ m, k = m + 1 := ⟨k - 1, by omega⟩
  simp only [spec_l07DrawSpots.l0]
  rw [if_neg (by omega)]
  obtain ⟨b, p1, s1, e1, hp1⟩ := once_ok l p s 10 hl h0
  rw [e1, Option.bind_some]
  simp only
  split
  ·obtain ⟨x, p2, s2, e2, _, _, hp2⟩ := below_ok l p1 s1 4 hl hp1
   rw [e2, Option.bind_some]
   simp only
   obtain ⟨y, p3, s3, e3, _, _, hp3⟩ := below_ok l p2 s2 9 hl hp2
   rw [e3, Option.bind_some]
   simp only
   rw [if_pos (by omega)]
   exact ⟨_, _, _, rfl, by simp; omega⟩
  ·exact ⟨_, _, _, rfl, by omega⟩
 | succ d ih =>
  intro k t acc p s ht ha hk h0
  obtain ⟨k, rfl⟩ : ∃ m, k = m + 1 := ⟨k - 1, by omega⟩
  have hlt : t < P.length := by omega
  have h20 := hP.2 _ (List.getElem_mem hlt)
  simp only [spec_l07DrawSpots.l0]
  rw [if_pos (by omega)]
  exact spots_inner l hl c P hP t hlt (30 * t) (d * 40 + 1) (by omega) (fun k acc p s hk ha h0 => ih k (t + 1) acc p s (by omega) (by omega) (by omega) h0) (P[t].length + 1) k 0 acc p s (by omega) (by omega) (by omega) h0
theorem drawPut_ok (l : List Int) (hl : Len l) (k : Nat) (hk : 5000 ≤ k) : ∃ c P sp, spec_DrawPutFences.f k l = some (c, P, sp) ∧ sp.length ≤ 1000 := by
 obtain ⟨s0, e0⟩ := new_ok l hl k (by omega)
 unfold spec_DrawPutFences.f
 rw [e0, Option.bind_some]
 simp only
 obtain ⟨c, P, p1, s1, e1, hp1, hs1⟩ := l05Draw_ok l hl 0 s0 (by omega) k (by omega)
 rw [e1, Option.bind_some]
 simp only
 obtain ⟨b, p2, s2, e2, hp2⟩ := once_ok l p1 s1 3 hl hp1
 rw [e2, Option.bind_some]
 simp only
 split
 ·obtain ⟨c', P', p3, s3, e3, hp3, hs3⟩ := drawProg_ok l hl p2 s2 16 (by omega) hp2 k (by omega)
  rw [e3, Option.bind_some]
  simp only
  obtain ⟨sp, p4, s4, e4, h4⟩ := spots_outer l hl c' P' ⟨by have := hs3.1; omega, hs3.2⟩ P'.length k 0 [] p3 s3 (by omega) (by simp) (by have := hs3.1; omega) hp3
  unfold spec_l07DrawSpots.f
  rw [show (0 : Int) = ((0 : Nat) : Int) from rfl, e4, Option.bind_some]
  exact ⟨_, _, _, rfl, h4⟩
 ·obtain ⟨sp, p4, s4, e4, h4⟩ := spots_outer l hl c P hs1 P.length k 0 [] p2 s2 (by omega) (by simp) (by have := hs1.1; omega) hp2
  unfold spec_l07DrawSpots.f
  rw [show (0 : Int) = ((0 : Nat) : Int) from rfl, e4, Option.bind_some]
  exact ⟨_, _, _, rfl, h4⟩

end Go.Proofs.Ytbgclnjnngolmaa.Pure

-- Written by mp.py (the session's own driver over the kit's printer) for the seat Ytbgclnjnngolmaa.
namespace Go.Proofs.Ytbgclnjnngolmaa.P
open Go.RowKit Go.Proofs.YtbgclnjnngolmaaW.PrintWords Go.Proofs.YtbgclnjnngolmaaW.PrintLast Go.Proofs.YtbgclnjnngolmaaW.PrintMore
attribute [local go_sem] max2_int min2_int max_two min_two max_three min_three max_four min_four
set_option linter.unusedVariables false
set_option linter.unusedSimpArgs false

/-- What is left of the law FnStripped: no program and no memory in it. -/
def laws_FnStripped.Left : Prop := ∀ (l0 : List Int), (l0.length ≤ 9223372036854775807) → ∃ k, laws_FnStripped.f k l0 = some true
end Go.Proofs.Ytbgclnjnngolmaa.P

/- The law FnStripped answers true: from every seed, where fences were put in at good spots, the program without its fences is the same with and without them, and they cost as much as there are spots. No condition. -/
namespace Go.Proofs.Ytbgclnjnngolmaa.Pure
open Go.RowKit Go.Proofs.Ytbgclnjnngolmaa.P Go.Proofs.Ytbgclnjnngolmaa.Gen Go.Proofs.YtbgclnjnngolmaaW.PrintWords
set_option linter.unusedSimpArgs false
set_option linter.unusedVariables false

theorem sameCode_refl (l : List Ins) (hl : l.length ≤ 1000) (k : Nat) (hk : l.length < k) : laws_sameCode.f k l l = some true := by
 unfold laws_sameCode.f
 rw [if_pos rfl]
 have := loop_all l (fun _ => true) (fun k i => laws_sameCode.l0 k l l i) (fun k j hj => by
  simp only [laws_sameCode.l0]
  rw [if_pos (by omega), if_pos (by omega), if_pos (by omega), wrap_succ hj (by omega)]
  simp) (fun k => by
  simp only [laws_sameCode.l0]
  rw [if_neg (by omega)]) k hk
 rw [this]
 simp
theorem sameProg_refl (c : Int) (l : List (List Ins)) (hl : l.length ≤ 3) (hq : ∀ q ∈ l, q.length ≤ 16) (k : Nat) (hk : 40 ≤ k) : laws_sameProg.f k c l c l = some true := by
 have key : ∀ d k (t : Nat), t + d = l.length → d + 20 < k → laws_sameProg.l0 k (t : Int) c l c l = some true := by
  intro d
  induction d with
  | zero =>
   intro k t ht hk
   obtain ⟨k, rfl⟩ : ∃ m, k = m + 1 := ⟨k - 1, by omega⟩
   simp only [laws_sameProg.l0]
   rw [if_neg (by omega)]
  | succ d ih =>
   intro k t ht hk
   obtain ⟨k, rfl⟩ : ∃ m, k = m + 1 := ⟨k - 1, by omega⟩
   have hlt : t < l.length := by omega
   have e : rd_L4 l (t : Int) = l[t] := rdCode l t hlt
   have h16 := hq _ (List.getElem_mem hlt)
   simp only [laws_sameProg.l0]
   rw [if_pos (by omega), if_pos (by omega), if_pos (by omega), e, sameCode_refl _ (by omega) _ (by omega), Option.bind_some, if_pos rfl, wrap_succ hlt (by omega)]
   exact ih k (t + 1) (by omega) (by omega)
 obtain ⟨k, rfl⟩ : ∃ m, k = m + 1 := ⟨k - 1, by omega⟩
 unfold laws_sameProg.f
 rw [if_pos rfl, bne_self_eq_false]
 simp only [laws_sameProg.j0]
 rw [if_neg (by decide)]
 exact key l.length k 0 (by omega) (by omega)
theorem map_puts (l : List (List Ins)) (sp : List Spt) (hj : ∀ q ∈ l, ∀ x ∈ q, x.f0 = 6 → 0 ≤ x.f3 ∧ x.f3 ≤ q.length) : ∀ d t, t + d = l.length → (putsV l sp d t).map stripV = (l.drop t).map stripV := by
 intro d
 induction d with
 | zero =>
  intro t h
  rw [List.drop_of_length_le (by omega)]
  rfl
 | succ d ih =>
  intro t h
  have hlt : t < l.length := by omega
  have e : l.getD t [] = l[t] := by simp [List.getD_eq_getElem?_getD, hlt]
  simp only [putsV]
  rw [List.drop_eq_getElem_cons hlt, List.map_cons, List.map_cons, e, strip_put _ _ (hj _ (List.getElem_mem hlt)), ih (t + 1) (by omega)]
theorem FnStripped : laws_FnStripped.Left := by
 intro l hl
 refine ⟨2000000, ?_⟩
 unfold laws_FnStripped.f laws_big.f
 rw [Option.bind_some]
 split
 ·rfl
 obtain ⟨c, P, sp, e, hs⟩ := drawPut_ok l hl 2000000 (by omega)
 rw [e, Option.bind_some]
 simp only
 rw [spec_putF c P sp _ (by omega), Option.bind_some]
 by_cases hf : (putFV c P sp).2.2 = true
 ·have hp : progB c P = true := by
   cases h : progB c P with
   | true => rfl
   | false =>
    unfold putFV at hf
    rw [h, if_neg (by decide)] at hf
    cases hf
  have hg : goodB P sp sp.length 0 = true := by
   unfold putFV putsF at hf
   rw [if_pos hp] at hf
   cases h : goodB P sp sp.length 0 with
   | true => rfl
   | false =>
    rw [h, if_neg (by decide)] at hf
    cases hf
  have hr : progB c (putsV P sp P.length 0) = true := by
   unfold putFV putsF finV at hf
   rw [if_pos hp, if_pos hg] at hf
   cases h : progB c (putsV P sp P.length 0) with
   | true => rfl
   | false =>
    rw [h, if_neg (by decide)] at hf
    cases hf
  have ev : putFV c P sp = (c, putsV P sp P.length 0, true) := by
   unfold putFV putsF finV
   rw [if_pos hp, if_pos hg, if_pos hr]
  have hc := progB_codes hp
  obtain ⟨_, h3, h16⟩ := progB_facts hp
  obtain ⟨_, r3, r16⟩ := progB_facts hr
  have hjq : ∀ q ∈ P, ∀ x ∈ q, x.f0 = 6 → 0 ≤ x.f3 ∧ x.f3 ≤ q.length := fun q hq => jumps (hc q hq)
  have hstrip : (putsV P sp P.length 0).map stripV = P.map stripV := by
   have := map_puts P sp hjq P.length 0 (by omega)
   rwa [List.drop_zero] at this
  obtain ⟨g1, g2⟩ := good_spots P sp h16 hg
  have htot : tot (putsV P sp P.length 0) = tot P + sp.length := by
   rw [tot_puts P sp P.length 0 (by omega), sumN_spots P sp g1 g2, List.drop_zero]
  have hb : 0 ≤ tot P ∧ tot P ≤ 1000 := by
   have key : ∀ r : List (List Ins), (∀ q ∈ r, q.length ≤ 16) → 0 ≤ tot r ∧ tot r ≤ 16 * r.length := by
    intro r
    induction r with
    | nil => intro _; simp [tot]
    | cons q r ih =>
     intro h
     have a := cnt_bounds q
     have b := h q List.mem_cons_self
     have d := ih (fun q hq => h q (List.mem_cons_of_mem _ hq))
     simp only [tot, List.length_cons]
     omega
   have := key P h16
   omega
  have s16 : ∀ q ∈ P.map stripV, q.length ≤ 16 := fun q hq => by
   obtain ⟨x, hx, rfl⟩ := List.mem_map.1 hq
   have a := stripV_len x
   have b := h16 x hx
   omega
  have ec : costV c (putsV P sp P.length 0) = tot P + sp.length := by unfold costV; rw [if_pos hr, htot]
  have ec2 : costV c P = tot P := by unfold costV; rw [if_pos hp]
  have es : stripsV c P = (c, P.map stripV, true) := by unfold stripsV; rw [if_pos hp]
  have es2 : stripsV c (putsV P sp P.length 0) = (c, P.map stripV, true) := by unfold stripsV; rw [if_pos hr, hstrip]
  rw [if_pos hf, impl_putF c P sp (by omega) _ (by omega), Option.bind_some, ev]
  simp only
  rw [impl_strip c P _ (by omega), Option.bind_some, impl_strip c _ _ (by omega), Option.bind_some, es, es2]
  simp only [if_true]
  rw [sameProg_refl c _ r3.2 r16 _ (by omega), Option.bind_some, if_pos rfl, sameProg_refl c _ (by rw [List.length_map]; exact h3.2) s16 _ (by omega), Option.bind_some, if_pos rfl, impl_cost c _ _ (by omega), Option.bind_some, impl_cost c _ _ (by omega), Option.bind_some, ec, ec2, wrap_id (by omega) (by omega)]
  simp
 ·rw [if_neg hf]

end Go.Proofs.Ytbgclnjnngolmaa.Pure
