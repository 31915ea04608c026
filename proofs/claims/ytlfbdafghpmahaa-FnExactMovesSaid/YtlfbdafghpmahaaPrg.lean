/- Is a program valid: the program's test and the reference's, as one Bool; and the laws' words on programs. No condition but that lengths are lengths. -/
import Derived.Test.YtlfbdafghpmahaaInstr
import Derived.Test.YtlfbdafghpmahaaPspecProgOk
import Derived.Test.YtlfbdafghpmahaaPimplProgOk
import Derived.Test.YtlfbdafghpmahaaPlawsszInstrS
import Derived.Test.YtlfbdafghpmahaaPlawsszInstrS
import Derived.Test.YtlfbdafghpmahaaPlawseqInstrSS
namespace Go.Proofs.Ytlfbdafghpmahaa.Pure
open Go.RowKit Go.Proofs.Ytlfbdafghpmahaa.P Go.Proofs.Ytlfbdafghpmahaa.Gen Go.Proofs.YtlfbdafghpmahaaW.PrintWords

abbrev Ins := S82
abbrev Ins0 := S84
def codeB (c : Int) (q : List Ins) : Bool := decide (q.length ≤ 16) && q.all fun x => insB x.f0 x.f1 x.f2 x.f3 c (q.length : Int)
def progB (c : Int) (l : List (List Ins)) : Bool := inB c 1 16 && (inB (l.length : Int) 1 3 && l.all (codeB c))
theorem progB_facts {c : Int} {l : List (List Ins)} (h : progB c l = true) : (1 ≤ c ∧ c ≤ 16) ∧ (1 ≤ l.length ∧ l.length ≤ 3) ∧ ∀ q ∈ l, q.length ≤ 16 := by
 unfold progB at h
 simp only [Bool.and_eq_true, List.all_eq_true] at h
 have h1 := inB_true.1 h.1
 have h2 := inB_true.1 h.2.1
 refine ⟨h1, ⟨by omega, by omega⟩, fun q hq => ?_⟩
 have := h.2.2 q hq
 unfold codeB at this
 rw [Bool.and_eq_true] at this
 exact of_decide_eq_true this.1
theorem impl_progOk (c : Int) (l : List (List Ins)) : impl_ProgOk.f c l = some (progB c l) := by
 unfold impl_ProgOk.f progB
 have e : ∀ q : List Ins, (decide (q.length ≤ 16) && q.all (impl_ProgOk.one_ c (q.length : Int))) = codeB c q := fun q => by
  unfold codeB
  congr 1
  congr 1
  funext x
  unfold impl_ProgOk.one_
  rw [impl_instrOk x.f0 x.f1 x.f2 x.f3 c (q.length : Int) 3 (by omega)]
  rfl
 rw [show (fun q : List Ins => decide (q.length ≤ 16) && q.all (impl_ProgOk.one_ c (q.length : Int))) = codeB c from funext e]
 rfl
theorem rdIns (l : List Ins) (j : Nat) (h : j < l.length) : rd_T82 l (j : Int) = l[j] := getD_nat _ l j h
theorem rdCode (l : List (List Ins)) (j : Nat) (h : j < l.length) : l.getD (j : Int).toNat [] = l[j] := getD_nat _ l j h
theorem spec_progOk_inner (c : Int) (l : List (List Ins)) (i : Nat) (hi : i < l.length) (hl : l.length ≤ 3) (h16 : l[i].length ≤ 16) (R : Option Bool) (K : Nat) (hR : ∀ k, K ≤ k → spec_ProgOk.l0 k ((i + 1 : Nat) : Int) c l = R) :
  ∀ d k (j : Nat), j ≤ l[i].length → l[i].length - j = d → K + d + 12 < k →
   spec_ProgOk.l1 k (i : Int) (j : Int) c l = if ((l[i].drop j).all fun x => insB x.f0 x.f1 x.f2 x.f3 c (l[i].length : Int)) = true then R else some false := by
 intro d
 induction d with
 | zero =>
  intro k j hj hd hk
  obtain ⟨k, rfl⟩ : ∃ m, k = m + 1 := ⟨k - 1, by omega⟩
  obtain rfl : j = l[i].length := by omega
  simp only [spec_ProgOk.l1]
  rw [if_pos (by omega), if_pos (by omega)]
  have e := rdCode l i hi
  simp only [rd_L4, e]
  rw [if_neg (by omega), wrap_succ hi (by omega), hR k (by omega), List.drop_length]
  rfl
 | succ d ih =>
  intro k j hj hd hk
  obtain ⟨k, rfl⟩ : ∃ m, k = m + 1 := ⟨k - 1, by omega⟩
  have hlt : j < l[i].length := by omega
  simp only [spec_ProgOk.l1]
  rw [if_pos (by omega), if_pos (by omega)]
  have e := rdCode l i hi
  simp only [rd_L4, e]
  rw [if_pos (by omega), if_pos (by omega), rdIns _ _ hlt, spec_instrOk _ _ _ _ _ _ k (by omega), Option.bind_some, wrap_succ hlt (by omega), List.drop_eq_getElem_cons hlt, List.all_cons]
  by_cases c1 : insB l[i][j].f0 l[i][j].f1 l[i][j].f2 l[i][j].f3 c (l[i].length : Int) = true
  ·rw [if_pos c1, ih k (j + 1) (by omega) (by omega) (by omega), c1, Bool.true_and]
  rw [if_neg c1]
  simp [c1]
theorem spec_progOk_outer (c : Int) (l : List (List Ins)) (hl : l.length ≤ 3) : ∀ d k (i : Nat), i ≤ l.length → l.length - i = d → d * 40 < k → spec_ProgOk.l0 k (i : Int) c l = some ((l.drop i).all (codeB c)) := by
 intro d
 induction d with
 | zero =>
  intro k i hi hd hk
  obtain ⟨k, rfl⟩ : ∃ m, k = m + 1 := ⟨k - 1, by omega⟩
  obtain rfl : i = l.length := by omega
  simp only [spec_ProgOk.l0]
  rw [if_neg (by omega), List.drop_length]
  rfl
 | succ d ih =>
  intro k i hi hd hk
  obtain ⟨k, rfl⟩ : ∃ m, k = m + 1 := ⟨k - 1, by omega⟩
  have hlt : i < l.length := by omega
  simp only [spec_ProgOk.l0]
  rw [if_pos (by omega), if_pos (by omega)]
  have e := rdCode l i hlt
  simp only [rd_L4, e]
  rw [List.drop_eq_getElem_cons hlt, List.all_cons]
  by_cases h : l[i].length ≤ 16
  rotate_left
  ·rw [if_pos (by omega)]
   unfold codeB
   simp [h]
  rw [if_neg (by omega)]
  have := spec_progOk_inner c l i hlt hl h (some ((l.drop (i + 1)).all (codeB c))) (d * 40 + 1) (fun k hk => ih k (i + 1) (by omega) (by omega) (by omega)) l[i].length k 0 (Nat.zero_le _) (by omega) (by omega)
  rw [show (0 : Int) = ((0 : Nat) : Int) from rfl, this, List.drop_zero]
  unfold codeB
  rw [decide_eq_true h, Bool.true_and]
  by_cases c1 : (l[i].all fun x => insB x.f0 x.f1 x.f2 x.f3 c (l[i].length : Int)) = true
  ·rw [if_pos c1, c1, Bool.true_and]
  rw [if_neg c1]
  simp [c1]
theorem spec_progOk (c : Int) (l : List (List Ins)) (k : Nat) (hk : 130 ≤ k) : spec_ProgOk.f k c l = some (progB c l) := by
 unfold spec_ProgOk.f progB
 obtain ⟨k, rfl⟩ : ∃ m, k = m + 1 := ⟨k - 1, by omega⟩
 simp only [l01In, Option.bind_some, spec_ProgOk.j0]
 by_cases h1 : inB c 1 16 = true
 rotate_left
 ·simp [h1]
 by_cases h2 : inB (l.length : Int) 1 3 = true
 rotate_left
 ·simp [h1, h2]
 have := inB_true.1 h2
 simp only [h1, h2, if_true, Bool.not_true, Bool.true_and, Bool.false_eq_true, if_false]
 have := spec_progOk_outer c l (by omega) l.length k 0 (Nat.zero_le _) (by omega) (by omega)
 simpa using this

/-- The copy of an instruction that came in. -/
def cpIns (x : Ins0) : Ins := ⟨x.f0, x.f1, x.f2, x.f3⟩
abbrev cpProg (l : List (List Ins0)) : List (List Ins) := l.map fun q => q.map cpIns
theorem toInstrS (l : List Ins0) (k : Nat) (hl : l.length ≤ 1048576) (hk : l.length < k) : laws_toInstrS.f k l = some (l.map cpIns) := by
 unfold laws_toInstrS.f
 rw [if_pos (by omega), if_pos (by omega), Int.toNat_natCast]
 exact fill_loop l cpIns z82 (fun k out i => laws_toInstrS.l0 k l out i) (fun k out j h ho => by
  simp only [laws_toInstrS.l0, laws_toInstr.f, Option.bind_some]
  rw [if_pos (by omega), if_pos (by omega), if_pos (by omega), show rd_T84 l (j : Int) = l[j] from getD_nat _ l j h, wrap_succ h (by omega), Int.toNat_natCast]
  rfl) (fun k out => by
  simp only [laws_toInstrS.l0]
  rw [if_neg (by omega)]) k hk
theorem toInstrSS (l : List (List Ins0)) (k : Nat) (hl : l.length ≤ 1048576) (hq : ∀ q ∈ l, q.length ≤ 1048576) (hk : l.length + 1048577 < k) : laws_toInstrSS.f k l = some (cpProg l) := by
 unfold laws_toInstrSS.f
 rw [if_pos (by omega), if_pos (by omega), Int.toNat_natCast]
 have key : ∀ d k (j : Nat), j ≤ l.length → l.length - j = d → d + 1048577 < k → laws_toInstrSS.l0 k l (((l.take j).map (List.map cpIns)) ++ List.replicate d []) (j : Int) = some (cpProg l) := by
  intro d
  induction d with
  | zero =>
   intro k j hj hd hk
   obtain ⟨k, rfl⟩ : ∃ m, k = m + 1 := ⟨k - 1, by omega⟩
   obtain rfl : j = l.length := by omega
   simp only [laws_toInstrSS.l0]
   rw [if_neg (by omega)]
   simp
  | succ d ih =>
   intro k j hj hd hk
   obtain ⟨k, rfl⟩ : ∃ m, k = m + 1 := ⟨k - 1, by omega⟩
   have hlt : j < l.length := by omega
   have e : l.getD (j : Int).toNat [] = l[j] := getD_nat _ l j hlt
   have hlen : ((l.take j).map (List.map cpIns)).length = j := by simp; omega
   simp only [laws_toInstrSS.l0, rd_L2, e]
   rw [if_pos (by omega), if_pos (by omega), toInstrS l[j] k (hq _ (List.getElem_mem hlt)) (by have := hq _ (List.getElem_mem hlt); omega), Option.bind_some, if_pos (by simp; omega), wrap_succ hlt (by omega), Int.toNat_natCast]
   have e2 : (((l.take j).map (List.map cpIns)) ++ List.replicate (d + 1) []).set j (l[j].map cpIns) = ((l.take (j + 1)).map (List.map cpIns)) ++ List.replicate d [] := by
    rw [List.replicate_succ]
    have := set_mid ((l.take j).map (List.map cpIns)) [] (l[j].map cpIns) (List.replicate d [])
    rw [hlen] at this
    rw [this, List.take_succ_eq_append_getElem hlt, List.map_append, List.append_assoc]
    rfl
   rw [e2]
   exact ih k (j + 1) (by omega) (by omega) (by omega)
 have := key l.length k 0 (Nat.zero_le _) (by omega) (by omega)
 simpa using this
theorem toProg (c : Int) (l : List (List Ins0)) (k : Nat) (hl : l.length ≤ 1048576) (hq : ∀ q ∈ l, q.length ≤ 1048576) (hk : l.length + 1048577 < k) : laws_toProg.f k c l = some (c, cpProg l) := by
 unfold laws_toProg.f
 rw [toInstrSS l k hl hq hk]
 rfl
theorem szInstrS (l : List Ins0) (a : Int) (hl : Len l) (h0 : 0 ≤ a) (h1 : a ≤ 1048576) : laws_szInstrS.f l a = some (if l.length ≤ a then a - l.length else -1) := by
 unfold laws_szInstrS.f
 have hl' : l.length ≤ 9223372036854775807 := hl
 rw [wrap_id (x := a - (l.length : Int)) (by omega) (by omega)]
 by_cases c : (l.length : Int) ≤ a
 rotate_left
 ·rw [if_pos (by omega), if_neg c]
 rw [if_neg (by omega), if_pos c]
/-- The size test: what is left is a number, and where it is not negative all lengths are small. -/
theorem szProg (c : Int) (l : List (List Ins0)) (a : Int) (hl : Len l) (hq : ∀ q ∈ l, Len q) (h0 : 0 ≤ a) (h1 : a ≤ 1048576) (k : Nat) (hk : 1048578 < k) :
  ∃ n, laws_szProg.f k c l a = some n ∧ (n < 0 ∨ 0 ≤ n ∧ n ≤ a ∧ (l.length : Int) ≤ a ∧ ∀ q ∈ l, (q.length : Int) ≤ a) := by
 unfold laws_szProg.f laws_szInstrSS.f
 have hl' : l.length ≤ 9223372036854775807 := hl
 rw [wrap_id (x := a - (l.length : Int)) (by omega) (by omega)]
 by_cases cc : (l.length : Int) ≤ a
 rotate_left
 ·rw [if_pos (by omega)]
  exact ⟨-1, rfl, .inl (by omega)⟩
 rw [if_neg (by omega)]
 have key : ∀ d k (j : Nat) (b : Int), j ≤ l.length → l.length - j = d → d < k → 0 ≤ b → b ≤ a → (∀ i (h : i < l.length), i < j → (l[i].length : Int) ≤ a) →
   ∃ n, laws_szInstrSS.l0 k l b (j : Int) = some n ∧ (n < 0 ∨ 0 ≤ n ∧ n ≤ a ∧ ∀ q ∈ l, (q.length : Int) ≤ a) := by
  intro d
  induction d with
  | zero =>
   intro k j b hj hd hk hb hba hA
   obtain ⟨k, rfl⟩ : ∃ m, k = m + 1 := ⟨k - 1, by omega⟩
   obtain rfl : j = l.length := by omega
   simp only [laws_szInstrSS.l0]
   rw [if_neg (by omega)]
   refine ⟨b, rfl, .inr ⟨hb, hba, fun q hq => ?_⟩⟩
   obtain ⟨i, hi, rfl⟩ := List.getElem_of_mem hq
   exact hA i hi hi
  | succ d ih =>
   intro k j b hj hd hk hb hba hA
   obtain ⟨k, rfl⟩ : ∃ m, k = m + 1 := ⟨k - 1, by omega⟩
   have hlt : j < l.length := by omega
   have e : l.getD (j : Int).toNat [] = l[j] := getD_nat _ l j hlt
   simp only [laws_szInstrSS.l0, rd_L2, e]
   rw [if_pos (by omega), if_pos (by omega), szInstrS l[j] b (hq _ (List.getElem_mem hlt)) hb (by omega), Option.bind_some]
   by_cases c2 : (l[j].length : Int) ≤ b
   rotate_left
   ·rw [if_neg c2, if_pos (by omega)]
    exact ⟨-1, rfl, .inl (by omega)⟩
   rw [if_pos c2, if_neg (by omega), wrap_succ hlt hl']
   refine ih k (j + 1) _ (by omega) (by omega) (by omega) (by omega) (by omega) (fun i hi hij => ?_)
   by_cases e : i = j
   rotate_left
   ·exact hA i hi (by omega)
   subst e; omega
 obtain ⟨n, hn, h⟩ := key l.length k 0 (a - l.length) (Nat.zero_le _) (by omega) (by omega) (by omega) (by omega) (fun i _ hi => absurd hi (Nat.not_lt_zero _))
 have hn' : laws_szInstrSS.l0 k l (a - (l.length : Int)) 0 = some n := hn
 rw [hn', Option.bind_some]
 by_cases hneg : n < 0
 ·rw [if_pos hneg]
  exact ⟨-1, rfl, .inl (by omega)⟩
 rw [if_neg hneg]
 refine ⟨n, rfl, .inr ?_⟩
 rcases h with h | ⟨h2, h3, h4⟩
 ·exact absurd h hneg
 ·exact ⟨h2, h3, cc, h4⟩
theorem eqInstrS_same (l : List Ins) (hl : Len l) (k : Nat) (hk : l.length < k) : laws_eqInstrS.f k l l = some true := by
 unfold laws_eqInstrS.f
 have hl' : l.length ≤ 9223372036854775807 := hl
 rw [if_pos rfl]
 have := loop_all l (fun _ => true) (fun k i => laws_eqInstrS.l0 k l l i) (fun k j hj => by
  simp only [laws_eqInstrS.l0, laws_eqInstr.f]
  rw [if_pos (by omega), if_pos (by omega), if_pos (by omega), wrap_succ hj hl']
  simp) (fun k => by
  simp only [laws_eqInstrS.l0]
  rw [if_neg (by omega)]) k hk
 rw [this]
 simp
theorem eqInstrSS_same (l : List (List Ins)) (hl : Len l) (hq : ∀ q ∈ l, q.length ≤ 1048576) (k : Nat) (hk : l.length + 1048577 < k) : laws_eqInstrSS.f k l l = some true := by
 unfold laws_eqInstrSS.f
 have hl' : l.length ≤ 9223372036854775807 := hl
 rw [if_pos rfl]
 have key : ∀ d k (j : Nat), j ≤ l.length → l.length - j = d → d + 1048577 < k → laws_eqInstrSS.l0 k l l (j : Int) = some true := by
  intro d
  induction d with
  | zero =>
   intro k j hj hd hk
   obtain ⟨k, rfl⟩ : ∃ m, k = m + 1 := ⟨k - 1, by omega⟩
   obtain rfl : j = l.length := by omega
   simp only [laws_eqInstrSS.l0]
   rw [if_neg (by omega)]
  | succ d ih =>
   intro k j hj hd hk
   obtain ⟨k, rfl⟩ : ∃ m, k = m + 1 := ⟨k - 1, by omega⟩
   have hlt : j < l.length := by omega
   have e : l.getD (j : Int).toNat [] = l[j] := getD_nat _ l j hlt
   have h16 := hq _ (List.getElem_mem hlt)
   simp only [laws_eqInstrSS.l0, rd_L4, e]
   rw [if_pos (by omega), if_pos (by omega), if_pos (by omega), eqInstrS_same l[j] (by show _ ≤ _; omega) k (by omega), Option.bind_some, if_pos rfl, wrap_succ hlt hl']
   exact ih k (j + 1) (by omega) (by omega) (by omega)
 exact key l.length k 0 (Nat.zero_le _) (by omega) hk
theorem eqProg_same (c : Int) (l : List (List Ins)) (hl : Len l) (hq : ∀ q ∈ l, q.length ≤ 1048576) (k : Nat) (hk : l.length + 1048577 < k) : laws_eqProg.f k c l c l = some true := by
 unfold laws_eqProg.f
 rw [if_pos rfl, eqInstrSS_same l hl hq k hk]
 rfl
theorem cpProg_len (l : List (List Ins0)) : (cpProg l).length = l.length := by simp [cpProg]
theorem cpProg_small {l : List (List Ins0)} (h : ∀ q ∈ l, q.length ≤ 1048576) : ∀ q ∈ cpProg l, q.length ≤ 1048576 := by
 intro q hq
 simp only [cpProg, List.mem_map] at hq
 obtain ⟨p, hp, rfl⟩ := hq
 rw [List.length_map]
 exact h p hp

end Go.Proofs.Ytlfbdafghpmahaa.Pure
