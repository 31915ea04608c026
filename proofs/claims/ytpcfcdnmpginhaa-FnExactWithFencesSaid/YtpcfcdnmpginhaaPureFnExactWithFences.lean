import Derived.Test.YtpcfcdnmpginhaaPlawsFnExactWithFences
import Derived.Test.YtpcfcdnmpginhaaPrg
-- Written by mp.py (the session's own driver over the kit's printer) for the seat Ytpcfcdnmpginhaa.
namespace Go.Proofs.Ytpcfcdnmpginhaa.P
open Go.RowKit Go.Proofs.YtpcfcdnmpginhaaW.PrintWords Go.Proofs.YtpcfcdnmpginhaaW.PrintLast Go.Proofs.YtpcfcdnmpginhaaW.PrintMore
attribute [local go_sem] max2_int min2_int max_two min_two max_three min_three max_four min_four
set_option linter.unusedVariables false
set_option linter.unusedSimpArgs false

/-- What is left of the law FnExactWithFences: no program and no memory in it. -/
def laws_FnExactWithFences.Left : Prop := ∀ (l0 : List (S176)), (l0.length ≤ 9223372036854775807) → ∃ k, laws_FnExactWithFences.f k l0 = some true
end Go.Proofs.Ytpcfcdnmpginhaa.P

/- The law FnExactWithFences answers true: the program's WithFences gives what the reference's gives, for every code, in memory of its own, and leaves the code as it was. No condition. -/
namespace Go.Proofs.Ytpcfcdnmpginhaa.Pure
open Go.RowKit Go.Proofs.Ytpcfcdnmpginhaa.P Go.Proofs.Ytpcfcdnmpginhaa.Gen Go.Proofs.YtpcfcdnmpginhaaW.PrintWords

def fenceI : Ins := ⟨4, 0, 0, 0⟩
theorem eta_ (x : Ins) : (⟨x.f0, x.f1, x.f2, x.f3⟩ : Ins) = x := rfl
/-- Is the instruction at place j a store that no fence follows? -/
def bareB (l : List Ins) (j : Nat) : Bool := if (rd_T153 l (j : Int)).f0 = 3 then (if ((j + 1 : Nat) : Int) = (l.length : Int) then true else ((rd_T153 l ((j + 1 : Nat) : Int)).f0 != 4)) else false
theorem bare_eq (l : List Ins) (j : Nat) (h : j < l.length) (hl : l.length ≤ 16) : impl_isBareStore.f l (j : Int) = some (bareB l j) := by
  unfold impl_isBareStore.f bareB
  rw [if_pos (by omega), if_pos (by omega), wrap_succ h (by omega)]
  by_cases a : (rd_T153 l (j : Int)).f0 = 3
  · rw [if_pos a, if_pos a]
    by_cases b : ((j + 1 : Nat) : Int) = (l.length : Int)
    · rw [if_pos b, if_pos b]
    · rw [if_neg b, if_neg b, if_pos (by omega), if_pos (by omega)]
  · rw [if_neg a, if_neg a]
def stepW (l : List Ins) (s : List Ins × List Int) (j : Nat) : List Ins × List Int :=
  (if bareB l j = true then (s.1 ++ [rd_T153 l (j : Int)]) ++ [fenceI] else s.1 ++ [rd_T153 l (j : Int)], s.2 ++ [(s.1.length : Int)])
def runW (l : List Ins) : Nat → Nat → List Ins × List Int → List Ins × List Int
  | 0, _, s => s
  | d + 1, j, s => runW l d (j + 1) (stepW l s j)
theorem stepW_len1 (l : List Ins) (s : List Ins × List Int) (j : Nat) : (stepW l s j).1.length ≤ s.1.length + 2 := by
  unfold stepW
  split <;> simp
theorem stepW_len2 (l : List Ins) (s : List Ins × List Int) (j : Nat) : (stepW l s j).2.length = s.2.length + 1 := by
  unfold stepW
  simp
theorem runW_len (l : List Ins) : ∀ d j s, (runW l d j s).1.length ≤ s.1.length + 2 * d ∧ (runW l d j s).2.length = s.2.length + d := by
  intro d
  induction d with
  | zero => intro j s; exact ⟨Nat.le_refl _, rfl⟩
  | succ d ih =>
    intro j s
    have h := ih (j + 1) (stepW l s j)
    have h1 := stepW_len1 l s j
    have h2 := stepW_len2 l s j
    simp only [runW]
    omega
theorem runW_mem (l : List Ins) : ∀ d j s x, x ∈ (runW l d j s).1 ↔ (x ∈ s.1 ∨ (x = fenceI ∧ ∃ i, j ≤ i ∧ i < j + d ∧ bareB l i = true) ∨ ∃ i : Nat, j ≤ i ∧ i < j + d ∧ x = rd_T153 l (i : Int)) := by
  intro d
  induction d with
  | zero =>
    intro j s x
    simp only [runW]
    constructor
    · exact .inl
    · rintro (h | ⟨_, i, h1, h2, _⟩ | ⟨i, h1, h2, _⟩)
      · exact h
      · omega
      · omega
  | succ d ih =>
    intro j s x
    simp only [runW]
    rw [ih (j + 1) (stepW l s j) x]
    have hs : x ∈ (stepW l s j).1 ↔ x ∈ s.1 ∨ x = rd_T153 l (j : Int) ∨ (x = fenceI ∧ bareB l j = true) := by
      unfold stepW
      by_cases b : bareB l j = true
      · simp [b]
      · simp [b]
    rw [hs]
    constructor
    · rintro ((h | h | ⟨h, hb⟩) | ⟨h, i, h1, h2, h3⟩ | ⟨i, h1, h2, h3⟩)
      · exact .inl h
      · exact .inr (.inr ⟨j, Nat.le_refl _, by omega, h⟩)
      · exact .inr (.inl ⟨h, j, Nat.le_refl _, by omega, hb⟩)
      · exact .inr (.inl ⟨h, i, by omega, by omega, h3⟩)
      · exact .inr (.inr ⟨i, by omega, by omega, h3⟩)
    · rintro (h | ⟨h, i, h1, h2, h3⟩ | ⟨i, h1, h2, h3⟩)
      · exact .inl (.inl h)
      · by_cases e : i = j
        · subst e; exact .inl (.inr (.inr ⟨h, h3⟩))
        · exact .inr (.inl ⟨h, i, by omega, by omega, h3⟩)
      · by_cases e : i = j
        · subst e; exact .inl (.inr (.inl h3))
        · exact .inr (.inr ⟨i, by omega, by omega, h3⟩)
/-- A jump that leads out of a code of n instructions. -/
def badB (n : Nat) (x : Ins) : Bool := x.f0 == 6 && !(inB x.f3 0 (n : Int))
theorem run_any (l : List Ins) : (runW l l.length 0 ([], [])).1.any (badB l.length) = l.any (badB l.length) := by
  rw [Bool.eq_iff_iff, List.any_eq_true, List.any_eq_true]
  constructor
  · rintro ⟨x, hx, hb⟩
    rw [runW_mem] at hx
    rcases hx with h | ⟨h, _⟩ | ⟨i, _, h2, h3⟩
    · cases h
    · subst h
      cases hb
    · refine ⟨x, ?_, hb⟩
      rw [h3, rdIns l i (by omega)]
      exact List.getElem_mem _
  · rintro ⟨x, hx, hb⟩
    obtain ⟨i, hi, rfl⟩ := List.getElem_of_mem hx
    exact ⟨l[i], (runW_mem l _ _ _ _).2 (.inr (.inr ⟨i, Nat.zero_le _, by omega, (rdIns l i hi).symm⟩)), hb⟩
def fixI (p : List Int) (x : Ins) : Ins := if x.f0 = 6 then ⟨x.f0, x.f1, x.f2, rd p x.f3⟩ else x
def endV (n : Nat) (out : List Ins) (p : List Int) : List Ins × Bool :=
  if out.any (badB n) = true then ([], false) else if out.length > 16 then ([], false) else (out.map (fixI p), true)
theorem impl_fix (l out : List Ins) (p : List Int) (_hn : l.length ≤ 16) (ho : out.length ≤ 32) (hp : p.length = l.length + 1) (k : Nat) (hk : 40 ≤ k) : impl_fenced.l1 k l out p (out.length : Int) 0 = some (endV l.length out p) := by
  have key : ∀ d k (i : Nat), i ≤ out.length → out.length - i = d → d < k → impl_fenced.l1 k l ((out.take i).map (fixI p) ++ out.drop i) p (out.length : Int) (i : Int) = some (if (out.drop i).any (badB l.length) = true then ([], false) else if out.length > 16 then ([], false) else (out.map (fixI p), true)) := by
    intro d
    induction d with
    | zero =>
      intro k i hi hd hk
      obtain ⟨k, rfl⟩ : ∃ m, k = m + 1 := ⟨k - 1, by omega⟩
      obtain rfl : i = out.length := by omega
      simp only [impl_fenced.l1]
      rw [if_neg (by omega), List.drop_length, List.take_length, List.append_nil, List.length_map]
      by_cases c : out.length > 16
      · rw [if_pos (by omega), if_neg (by simp), if_pos c]
      · rw [if_neg (by omega), if_neg (by simp), if_neg c]
    | succ d ih =>
      intro k i hi hd hk
      obtain ⟨k, rfl⟩ : ∃ m, k = m + 1 := ⟨k - 1, by omega⟩
      have hlt : i < out.length := by omega
      have hlen : ((out.take i).map (fixI p)).length = i := by simp; omega
      have hl2 : (((out.take i).map (fixI p) ++ out[i] :: out.drop (i + 1)).length : Int) = (out.length : Int) := by simp; omega
      have hget : rd_T153 ((out.take i).map (fixI p) ++ out[i] :: out.drop (i + 1)) (i : Int) = out[i] := by
        have := get_mid ((out.take i).map (fixI p)) out[i] (out.drop (i + 1)) (by rw [hlen]; omega)
        rw [rdIns _ i (by omega)]
        simp only [hlen] at this
        exact this
      have hset : ∀ y, ((out.take i).map (fixI p) ++ out[i] :: out.drop (i + 1)).set i y = (out.take i).map (fixI p) ++ y :: out.drop (i + 1) := fun y => by
        have := set_mid ((out.take i).map (fixI p)) out[i] y (out.drop (i + 1))
        rw [hlen] at this
        exact this
      have hnext : ∀ y, y = fixI p out[i] → (out.take i).map (fixI p) ++ y :: out.drop (i + 1) = (out.take (i + 1)).map (fixI p) ++ out.drop (i + 1) := fun y hy => by
        rw [List.take_succ_eq_append_getElem hlt, List.map_append, hy, List.append_assoc]
        rfl
      rw [List.drop_eq_getElem_cons hlt]
      simp only [impl_fenced.l1, within, Option.bind_some]
      rw [hl2, hget, if_pos (by omega), if_pos (by omega), if_pos (by omega), Int.toNat_natCast, wrap_succ hlt (by omega), hset, List.any_cons]
      by_cases o6 : out[i].f0 = 6
      · rw [if_pos o6]
        by_cases b : inB out[i].f3 0 (l.length : Int) = true
        · have r := inB_true.1 b
          have hb : badB l.length out[i] = false := by unfold badB; rw [b]; simp
          rw [if_pos b, if_pos (by omega), if_pos (by omega), hnext _ (by unfold fixI; rw [if_pos o6]), ih k (i + 1) (by omega) (by omega) (by omega), hb, Bool.false_or]
        · have hb : badB l.length out[i] = true := by unfold badB; rw [Bool.not_eq_true] at b; rw [b]; simp [o6]
          rw [if_neg b, hb, Bool.true_or, if_pos rfl]
      · have hb : badB l.length out[i] = false := by unfold badB; simp [o6]
        rw [if_neg o6, hnext _ (by unfold fixI; rw [if_neg o6]), ih k (i + 1) (by omega) (by omega) (by omega), hb, Bool.false_or]
  have := key out.length k 0 (Nat.zero_le _) (by omega) (by omega)
  simpa [endV] using this
theorem impl_first (l : List Ins) (hn : l.length ≤ 16) : ∀ d k (j : Nat) (s : List Ins × List Int), j + d = l.length → s.1.length ≤ 2 * j → s.2.length = j → d + 41 < k →
    impl_fenced.l0 k l l s.1 s.2 (l.length : Int) (j : Int) = some (endV l.length (runW l d j s).1 ((runW l d j s).2 ++ [((runW l d j s).1.length : Int)])) := by
  intro d
  induction d with
  | zero =>
    intro k j s hj h1 h2 hk
    obtain ⟨k, rfl⟩ : ∃ m, k = m + 1 := ⟨k - 1, by omega⟩
    simp only [impl_fenced.l0, runW]
    rw [if_neg (by omega), if_pos (by omega), impl_fix l s.1 (s.2 ++ [(s.1.length : Int)]) hn (by omega) (by simp; omega) k (by omega)]
  | succ d ih =>
    intro k j s hj h1 h2 hk
    obtain ⟨k, rfl⟩ : ∃ m, k = m + 1 := ⟨k - 1, by omega⟩
    have hlt : j < l.length := by omega
    have hl1 := stepW_len1 l s j
    have hl2 := stepW_len2 l s j
    have := ih k (j + 1) (stepW l s j) (by omega) (by omega) (by omega) (by omega)
    simp only [impl_fenced.l0, runW, Option.bind_some, eta_]
    rw [if_pos (by omega), if_pos (by omega), if_pos (by omega), if_pos (by omega), if_pos (by omega), bare_eq l j hlt hn, Option.bind_some, wrap_succ hlt (by omega), ← this]
    by_cases b : bareB l j = true
    · have e : stepW l s j = ((s.1 ++ [rd_T153 l (j : Int)]) ++ [fenceI], s.2 ++ [(s.1.length : Int)]) := by unfold stepW; rw [if_pos b]
      rw [if_pos b, if_pos (by rw [List.length_append]; simp; omega), e]
      rfl
    · have e : stepW l s j = (s.1 ++ [rd_T153 l (j : Int)], s.2 ++ [(s.1.length : Int)]) := by unfold stepW; rw [if_neg b]
      rw [if_neg b, e]
def withV (l : List Ins) : List Ins × Bool :=
  if l.length > 16 then ([], false) else endV l.length (runW l l.length 0 ([], [])).1 ((runW l l.length 0 ([], [])).2 ++ [((runW l l.length 0 ([], [])).1.length : Int)])
theorem impl_with (l : List Ins) (k : Nat) (hk : 100 ≤ k) : impl_WithFences.f k l = some (withV l) := by
  unfold impl_WithFences.f withV
  by_cases h : l.length > 16
  · rw [if_pos (by omega), if_pos h]
  · rw [if_neg (by omega), if_neg h]
    unfold impl_fenced.f
    exact impl_first l (by omega) l.length k 0 ([], []) (by omega) (by simp) rfl (by omega)
theorem spec_fix (n : Nat) (out : List Ins) (p : List Int) (ho : out.length ≤ 32) (_hn : n ≤ 16) (hp : p.length = n + 1) (hb : ∀ x ∈ out, badB n x = false) (k : Nat) (hk : 40 ≤ k) : spec_WithFences.l1 k out p 0 = some (out.map (fixI p), true) := by
  have key : ∀ d k (i : Nat), i ≤ out.length → out.length - i = d → d < k → spec_WithFences.l1 k ((out.take i).map (fixI p) ++ out.drop i) p (i : Int) = some (out.map (fixI p), true) := by
    intro d
    induction d with
    | zero =>
      intro k i hi hd hk
      obtain ⟨k, rfl⟩ : ∃ m, k = m + 1 := ⟨k - 1, by omega⟩
      obtain rfl : i = out.length := by omega
      simp only [spec_WithFences.l1]
      rw [List.drop_length, List.take_length, List.append_nil, List.length_map, if_neg (by omega)]
    | succ d ih =>
      intro k i hi hd hk
      obtain ⟨k, rfl⟩ : ∃ m, k = m + 1 := ⟨k - 1, by omega⟩
      have hlt : i < out.length := by omega
      have hlen : ((out.take i).map (fixI p)).length = i := by simp; omega
      have hl2 : (((out.take i).map (fixI p) ++ out[i] :: out.drop (i + 1)).length : Int) = (out.length : Int) := by simp; omega
      have hget : rd_T153 ((out.take i).map (fixI p) ++ out[i] :: out.drop (i + 1)) (i : Int) = out[i] := by
        have := get_mid ((out.take i).map (fixI p)) out[i] (out.drop (i + 1)) (by rw [hlen]; omega)
        rw [rdIns _ i (by omega)]
        simp only [hlen] at this
        exact this
      have hset : ∀ y, ((out.take i).map (fixI p) ++ out[i] :: out.drop (i + 1)).set i y = (out.take i).map (fixI p) ++ y :: out.drop (i + 1) := fun y => by
        have := set_mid ((out.take i).map (fixI p)) out[i] y (out.drop (i + 1))
        rw [hlen] at this
        exact this
      have hnext : ∀ y, y = fixI p out[i] → (out.take i).map (fixI p) ++ y :: out.drop (i + 1) = (out.take (i + 1)).map (fixI p) ++ out.drop (i + 1) := fun y hy => by
        rw [List.take_succ_eq_append_getElem hlt, List.map_append, hy, List.append_assoc]
        rfl
      rw [List.drop_eq_getElem_cons hlt]
      simp only [spec_WithFences.l1]
      rw [hl2, hget, if_pos (by omega), if_pos (by omega), Int.toNat_natCast, wrap_succ hlt (by omega), hset]
      by_cases o6 : out[i].f0 = 6
      · have hx := hb out[i] (List.getElem_mem _)
        have b : inB out[i].f3 0 (n : Int) = true := by
          unfold badB at hx
          simpa [o6] using hx
        have r := inB_true.1 b
        rw [if_pos o6, if_pos (by omega), if_pos (by omega), hnext _ (by unfold fixI; rw [if_pos o6]), ih k (i + 1) (by omega) (by omega) (by omega)]
      · rw [if_neg o6, hnext _ (by unfold fixI; rw [if_neg o6]), ih k (i + 1) (by omega) (by omega) (by omega)]
  have := key out.length k 0 (Nat.zero_le _) (by omega) (by omega)
  simpa using this
theorem spec_first (l : List Ins) (hn : l.length ≤ 16) (R : Option (List Ins × Bool)) (hR : ∀ k, 40 ≤ k → l.any (badB l.length) = false → (if ((runW l l.length 0 ([], [])).1.length : Int) > 16 then some (([] : List Ins), false) else spec_WithFences.l1 k (runW l l.length 0 ([], [])).1 ((runW l l.length 0 ([], [])).2 ++ [((runW l l.length 0 ([], [])).1.length : Int)]) 0) = R) :
    ∀ d k (j : Nat) (s : List Ins × List Int), j + d = l.length → s.1.length ≤ 2 * j → s.2.length = j → (∀ x ∈ l.take j, badB l.length x = false) → runW l d j s = runW l l.length 0 ([], []) → 2 * d + 41 < k →
      spec_WithFences.l0 k l s.1 s.2 (j : Int) = if l.any (badB l.length) = true then some ([], false) else R := by
  intro d
  induction d with
  | zero =>
    intro k j s hj h1 h2 hb hr hk
    obtain ⟨k, rfl⟩ : ∃ m, k = m + 1 := ⟨k - 1, by omega⟩
    obtain rfl : j = l.length := by omega
    rw [List.take_length] at hb
    have hany : l.any (badB l.length) = false := by
      rw [List.any_eq_false]
      intro x hx
      rw [hb x hx]
      decide
    have hR' := hR k (by omega) hany
    rw [← hr] at hR'
    simp only [runW] at hR'
    simp only [spec_WithFences.l0]
    have e : (if l.any (badB l.length) = true then some (([] : List Ins), false) else R) = R := by rw [hany]; rfl
    rw [if_neg (by omega), if_pos (by omega), e]
    exact hR'
  | succ d ih =>
    intro k j s hj h1 h2 hb hr hk
    obtain ⟨k, rfl⟩ : ∃ m, k = m + 2 := ⟨k - 2, by omega⟩
    have hlt : j < l.length := by omega
    have hl1 := stepW_len1 l s j
    have hl2 := stepW_len2 l s j
    by_cases hbad : badB l.length l[j] = true
    · have hany : l.any (badB l.length) = true := List.any_eq_true.2 ⟨_, List.getElem_mem hlt, hbad⟩
      unfold badB at hbad
      simp only [Bool.and_eq_true, beq_iff_eq, Bool.not_eq_true'] at hbad
      simp only [spec_WithFences.l0, spec_WithFences.j1, l01In, Option.bind_some]
      rw [if_pos (by omega), if_pos (by omega), rdIns l j hlt, if_pos hbad.1, hbad.2, if_pos (by decide), hany, if_pos rfl]
    · rw [Bool.not_eq_true] at hbad
      have hj1 : (if l[j].f0 = 6 then spec_WithFences.j1 (k + 1) l s.1 s.2 (j : Int) (!(inB l[j].f3 0 (l.length : Int))) else spec_WithFences.j1 (k + 1) l s.1 s.2 (j : Int) false) = spec_WithFences.j1 (k + 1) l s.1 s.2 (j : Int) false := by
        by_cases o6 : l[j].f0 = 6
        · have b : inB l[j].f3 0 (l.length : Int) = true := by
            unfold badB at hbad
            simpa [o6] using hbad
          rw [if_pos o6, b]
          rfl
        · rw [if_neg o6]
      have := ih k (j + 1) (stepW l s j) (by omega) (by omega) (by omega) (fun x hx => by
        rw [List.take_succ_eq_append_getElem hlt, List.mem_append, List.mem_singleton] at hx
        rcases hx with hx | rfl
        · exact hb x hx
        · exact hbad) hr (by omega)
      rw [← this]
      simp only [spec_WithFences.l0, l01In, Option.bind_some]
      rw [if_pos (by omega), if_pos (by omega), rdIns l j hlt, hj1]
      simp only [spec_WithFences.j1, Option.bind_some, eta_]
      rw [if_neg (by decide), if_pos (by omega), if_pos (by omega), if_pos (by omega), if_pos (by omega), wrap_succ hlt (by omega)]
      have hrd := rdIns l j hlt
      have hw : s.1.length + 1 < 4398046511104 := by omega
      by_cases a : l[j].f0 = 3
      · rw [hrd, if_pos a]
        by_cases b : ((j + 1 : Nat) : Int) = (l.length : Int)
        · have hbb : bareB l j = true := by unfold bareB; rw [hrd, if_pos a, if_pos b]
          have e : stepW l s j = ((s.1 ++ [l[j]]) ++ [fenceI], s.2 ++ [(s.1.length : Int)]) := by unfold stepW; rw [if_pos hbb, hrd]
          rw [if_pos b, if_pos (by simpa using hw), e]
          rfl
        · rw [if_neg b, if_pos (by omega), if_pos (by omega)]
          by_cases c : (rd_T153 l ((j + 1 : Nat) : Int)).f0 = 4
          · have hbb : bareB l j = false := by unfold bareB; rw [hrd, if_pos a, if_neg b, c]; rfl
            have e : stepW l s j = (s.1 ++ [l[j]], s.2 ++ [(s.1.length : Int)]) := by unfold stepW; rw [hbb, if_neg (by decide), hrd]
            rw [if_pos c, e]
          · have hbb : bareB l j = true := by unfold bareB; rw [hrd, if_pos a, if_neg b]; simpa using c
            have e : stepW l s j = ((s.1 ++ [l[j]]) ++ [fenceI], s.2 ++ [(s.1.length : Int)]) := by unfold stepW; rw [if_pos hbb, hrd]
            rw [if_neg c, if_pos (by simpa using hw), e]
            rfl
      · have hbb : bareB l j = false := by unfold bareB; rw [hrd, if_neg a]
        have e : stepW l s j = (s.1 ++ [l[j]], s.2 ++ [(s.1.length : Int)]) := by unfold stepW; rw [hbb, if_neg (by decide), hrd]
        rw [hrd, if_neg a, e]
theorem spec_with (l : List Ins) (k : Nat) (hk : 200 ≤ k) : spec_WithFences.f k l = some (withV l) := by
  unfold spec_WithFences.f withV
  by_cases h : l.length > 16
  · rw [if_pos (by omega), if_pos h]
  · rw [if_neg (by omega), if_neg h]
    have hlen := runW_len l l.length 0 ([], [])
    simp only [List.length_nil, Nat.zero_add] at hlen
    have := spec_first l (by omega) (some (if (runW l l.length 0 ([], [])).1.length > 16 then (([] : List Ins), false) else ((runW l l.length 0 ([], [])).1.map (fixI ((runW l l.length 0 ([], [])).2 ++ [((runW l l.length 0 ([], [])).1.length : Int)])), true))) (fun k hk hany => by
      by_cases c : (runW l l.length 0 ([], [])).1.length > 16
      · rw [if_pos (by omega), if_pos c]
      · rw [if_neg (by omega), if_neg c, spec_fix l.length _ _ (by omega) (by omega) (by simp; omega) (fun x hx => by
          have ha := run_any l
          rw [hany, List.any_eq_false] at ha
          simpa using ha x hx) k hk]) l.length k 0 ([], []) (by omega) (by simp) rfl (by simp) rfl (by omega)
    have h0 : spec_WithFences.l0 k l [] [] 0 = _ := this
    rw [h0]
    unfold endV
    rw [run_any]
    by_cases c : l.any (badB l.length) = true
    · rw [if_pos c, if_pos c]
    · rw [if_neg c, if_neg c]
theorem withV_len (l : List Ins) : (withV l).1.length ≤ 32 := by
  unfold withV
  by_cases h : l.length > 16
  · rw [if_pos h]; simp
  · rw [if_neg h]
    unfold endV
    split
    · simp
    · split
      · simp
      · simp only [List.length_map]
        omega
theorem markInstrS (l : List Ins) (a : Int) (hl : Len l) (h0 : 0 ≤ a) (h1 : a + 4 * l.length ≤ 9223372036854775807) :
    ∃ l', l'.length = l.length ∧ ∀ k, l.length < k → laws_markInstrS.f k l a = some (a + 4 * l.length, l') ∧ laws_heldInstrS.f k l' a = some (a + 4 * l.length) := by
  have := marked 4 (fun a _ => (⟨a, a + 1, a + 1 + 1, a + 1 + 1 + 1⟩ : Ins)) laws_markInstrS.l0 laws_heldInstrS.l0
    (fun k p x r a h0 h1 h2 => by
      have e : ((p ++ x :: r).length : Int) = p.length + r.length + 1 := by simp; omega
      simp only [laws_markInstrS.l0, Option.bind_some]
      rw [if_pos (by omega), if_pos (by omega), Int.toNat_natCast, set_mid, rdIns _ p.length (by simp), get_mid, rdIns _ p.length (by simp), get_mid, set_mid, rdIns _ p.length (by simp), get_mid, set_mid, rdIns _ p.length (by simp), get_mid, set_mid, wrap_id (x := a + 1) (by omega) (by omega), wrap_id (x := a + 1 + 1) (by omega) (by omega), wrap_id (x := a + 1 + 1 + 1) (by omega) (by omega), wrap_id (x := a + 1 + 1 + 1 + 1) (by omega) (by omega), wrap_succ (n := (p ++ x :: r).length) (by omega) h2, show a + 1 + 1 + 1 + 1 = a + (4 : Nat) from by omega])
    (fun k p a => by simp only [laws_markInstrS.l0]; rw [if_neg (by omega)])
    (fun k p x r a h0 h1 h2 => by
      have e : ((p ++ (⟨a, a + 1, a + 1 + 1, a + 1 + 1 + 1⟩ : Ins) :: r).length : Int) = p.length + r.length + 1 := by simp; omega
      simp only [laws_heldInstrS.l0]
      rw [if_pos (by omega), if_pos (by omega), rdIns _ p.length (by simp), get_mid, if_pos rfl, wrap_id (x := a + 1) (by omega) (by omega), if_pos rfl, wrap_id (x := a + 1 + 1) (by omega) (by omega), if_pos rfl, wrap_id (x := a + 1 + 1 + 1) (by omega) (by omega), if_pos rfl, wrap_id (x := a + 1 + 1 + 1 + 1) (by omega) (by omega), wrap_succ (n := (p ++ (⟨a, a + 1, a + 1 + 1, a + 1 + 1 + 1⟩ : Ins) :: r).length) (by omega) h2, show a + 1 + 1 + 1 + 1 = a + (4 : Nat) from by omega])
    (fun k p a => by simp only [laws_heldInstrS.l0]; rw [if_neg (by omega)]) l [] a hl h0 (by omega)
  simpa [laws_markInstrS.f, laws_heldInstrS.f] using this
theorem FnExactWithFences : laws_FnExactWithFences.Left := by
  intro l hl
  refine ⟨1048990, ?_⟩
  unfold laws_FnExactWithFences.f
  rw [szInstrS l 1048576 hl (by omega) (by omega), Option.bind_some]
  by_cases c : (l.length : Int) ≤ 1048576
  · rw [if_pos c, if_neg (by omega)]
    have hm : (l.map cpIns).length = l.length := List.length_map _
    have hv := withV_len (l.map cpIns)
    obtain ⟨l1, _, h1⟩ := markInstrS (l.map cpIns) 1 (by show _ ≤ _; omega) (by omega) (by omega)
    obtain ⟨l2, _, h2⟩ := markInstrS (withV (l.map cpIns)).1 1 (by show _ ≤ _; omega) (by omega) (by omega)
    have n1 : ¬ (1 + 4 * ((l.map cpIns).length : Int) < 0) := by omega
    have n2 : ¬ (1 + 4 * ((withV (l.map cpIns)).1.length : Int) < 0) := by omega
    simp only [toInstrS l 1048990 (by omega) (by omega), Option.bind_some, spec_with (l.map cpIns) 1048990 (by omega), impl_with (l.map cpIns) 1048990 (by omega), eqInstrS_same (withV (l.map cpIns)).1 (by show _ ≤ _; omega) 1048990 (by omega), if_true, bne_self_eq_false,
      laws_FnExactWithFences.j0, Bool.false_eq_true, if_false, toInstrS l 1048989 (by omega) (by omega), eqInstrS_same (l.map cpIns) (by show _ ≤ _; omega) 1048989 (by omega), (h1 1048989 (by omega)).1, if_neg n1, eqInstrS_same (withV (l.map cpIns)).1 (by show _ ≤ _; omega) 1048989 (by omega),
      laws_FnExactWithFences.j1, (h2 1048988 (by omega)).1, (h2 1048988 (by omega)).2, if_neg n2, toInstrS l 1048988 (by omega) (by omega), impl_with (l.map cpIns) 1048988 (by omega), eqInstrS_same (withV (l.map cpIns)).1 (by show _ ≤ _; omega) 1048988 (by omega),
      laws_FnExactWithFences.j2, (h2 1048987 (by omega)).2]
  · rw [if_neg c, if_pos (by omega)]

end Go.Proofs.Ytpcfcdnmpginhaa.Pure
