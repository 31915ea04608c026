/- Plain lemmas on lists of numbers, of no program: sorted and each once. No condition. -/
import Derived.Test.YtlfbdafghpmahaaV2
import Derived.Lib.SlicesCompact
namespace Go.Proofs.Ytlfbdafghpmahaa.Gen
open Go.Lib

/-- Ascending, no number twice. -/
abbrev Asc (l : List Int) : Prop := l.Pairwise (· < ·)
/-- x put into an ascending list, if it isn't there. -/
def ins (x : Int) : List Int → List Int
  | [] => [x]
  | y :: r => if x < y then x :: y :: r else if x = y then y :: r else y :: ins x r
theorem mem_ins {x a : Int} {l : List Int} : a ∈ ins x l ↔ a = x ∨ a ∈ l := by
  induction l with
  | nil => simp [ins]
  | cons y r ih =>
    unfold ins
    by_cases c : x < y
    · rw [if_pos c, List.mem_cons]
    · rw [if_neg c]
      by_cases d : x = y
      · rw [if_pos d]
        constructor
        · exact .inr
        · rintro (h | h)
          · rw [h, d]; exact List.mem_cons_self
          · exact h
      · rw [if_neg d, List.mem_cons, ih, List.mem_cons]
        constructor
        · rintro (h | h | h)
          · exact .inr (.inl h)
          · exact .inl h
          · exact .inr (.inr h)
        · rintro (h | h | h)
          · exact .inr (.inl h)
          · exact .inl h
          · exact .inr (.inr h)
theorem asc_ins {x : Int} {l : List Int} (h : Asc l) : Asc (ins x l) := by
  induction l with
  | nil => simp [ins, Asc]
  | cons y r ih =>
    have hy := List.pairwise_cons.1 h
    unfold ins
    by_cases c : x < y
    · rw [if_pos c]
      exact List.pairwise_cons.2 ⟨fun z hz => by
        rcases List.mem_cons.1 hz with e | e
        · rw [e]; exact c
        · exact Int.lt_trans c (hy.1 z e), h⟩
    · rw [if_neg c]
      by_cases d : x = y
      · rw [if_pos d]; exact h
      · rw [if_neg d]
        exact List.pairwise_cons.2 ⟨fun z hz => by
          rcases mem_ins.1 hz with e | e
          · omega
          · exact hy.1 z e, ih hy.2⟩
theorem asc_eq {l m : List Int} (hl : Asc l) (hm : Asc m) (h : ∀ a, a ∈ l ↔ a ∈ m) : l = m := by
  induction l generalizing m with
  | nil =>
    cases m with
    | nil => rfl
    | cons y r => exact absurd ((h y).2 List.mem_cons_self) (by simp)
  | cons x l ih =>
    cases m with
    | nil => exact absurd ((h x).1 List.mem_cons_self) (by simp)
    | cons y r =>
      have h1 := List.pairwise_cons.1 hl
      have h2 := List.pairwise_cons.1 hm
      have hxy : x = y := by
        rcases List.mem_cons.1 ((h x).1 List.mem_cons_self) with e | e
        · exact e
        · rcases List.mem_cons.1 ((h y).2 List.mem_cons_self) with f | f
          · exact f.symm
          · have := h2.1 x e
            have := h1.1 y f
            omega
      subst hxy
      refine congrArg (x :: ·) (ih h1.2 h2.2 fun a => ?_)
      constructor
      · intro ha
        have := h1.1 a ha
        exact (List.mem_cons.1 ((h a).1 (List.mem_cons_of_mem _ ha))).resolve_left (by omega)
      · intro ha
        have := h2.1 a ha
        exact (List.mem_cons.1 ((h a).2 (List.mem_cons_of_mem _ ha))).resolve_left (by omega)
theorem compactUpTo_asc (d : Array Int) (hs : ∀ i j, i ≤ j → j < d.size → d[i]! ≤ d[j]!) : ∀ m, m ≤ d.size → Asc (compactUpTo d m) ∧ (∀ a, a ∈ compactUpTo d m ↔ ∃ j, j < m ∧ d[j]! = a) := by
  intro m
  induction m with
  | zero =>
    intro _
    refine ⟨?_, fun a => ?_⟩
    · simp [compactUpTo, Asc]
    · simp [compactUpTo]
  | succ m ih =>
    intro hm
    obtain ⟨h1, h2⟩ := ih (by omega)
    rw [compactUpTo_succ]
    by_cases k : keeps d m = true
    · rw [if_pos k]
      refine ⟨?_, fun a => ?_⟩
      · refine List.pairwise_append.2 ⟨h1, by simp, fun a ha b hb => ?_⟩
        rw [List.mem_singleton] at hb
        subst hb
        obtain ⟨j, hj, rfl⟩ := (h2 a).1 ha
        have e1 := hs j (m - 1) (by omega) (by omega)
        have e2 := hs (m - 1) m (by omega) (by omega)
        unfold keeps at k
        simp only [decide_eq_true_eq] at k
        rcases k with k | k
        · omega
        · have : d[m - 1]! ≠ d[m]! := fun e => k e.symm
          omega
      · rw [List.mem_append, List.mem_singleton, h2]
        constructor
        · rintro (⟨j, hj, e⟩ | e)
          · exact ⟨j, by omega, e⟩
          · exact ⟨m, by omega, e.symm⟩
        · rintro ⟨j, hj, e⟩
          by_cases c : j = m
          · subst c; exact .inr e.symm
          · exact .inl ⟨j, by omega, e⟩
    · rw [if_neg k, List.append_nil]
      refine ⟨h1, fun a => ?_⟩
      rw [h2]
      unfold keeps at k
      simp only [decide_eq_true_eq, not_or, ne_eq, Classical.not_not] at k
      constructor
      · rintro ⟨j, hj, e⟩
        exact ⟨j, by omega, e⟩
      · rintro ⟨j, hj, e⟩
        by_cases c : j = m
        · subst c; exact ⟨j - 1, by omega, by rw [← k.2]; exact e⟩
        · exact ⟨j, by omega, e⟩
/-- Sorted, then each once: what the insertions one by one give. -/
theorem compact_sort (z : List Int) : compact (z.mergeSort fun x y => decide (x ≤ y)) = z.foldl (fun out x => ins x out) [] := by
  have hp : (z.mergeSort fun x y => decide (x ≤ y)).Pairwise (fun a b => decide (a ≤ b) = true) := List.pairwise_mergeSort (fun a b c h1 h2 => by
    simp only [decide_eq_true_eq] at h1 h2 ⊢
    omega) (fun a b => by
    simp only [Bool.or_eq_true, decide_eq_true_eq]
    omega) z
  have hfold : ∀ (z : List Int) (o : List Int), Asc o → Asc (z.foldl (fun out x => ins x out) o) ∧ ∀ a, a ∈ z.foldl (fun out x => ins x out) o ↔ a ∈ o ∨ a ∈ z := by
    intro z
    induction z with
    | nil => intro o ho; exact ⟨ho, fun a => by simp⟩
    | cons x z ih =>
      intro o ho
      obtain ⟨h1, h2⟩ := ih (ins x o) (asc_ins ho)
      refine ⟨h1, fun a => ?_⟩
      rw [List.foldl_cons, h2, mem_ins, List.mem_cons, or_assoc]
      constructor
      · rintro (h | h | h)
        · exact .inr (.inl h)
        · exact .inl h
        · exact .inr (.inr h)
      · rintro (h | h | h)
        · exact .inr (.inl h)
        · exact .inl h
        · exact .inr (.inr h)
  generalize hq : z.mergeSort (fun x y => decide (x ≤ y)) = q at hp
  have hmem : ∀ a, a ∈ q ↔ a ∈ z := fun a => by rw [← hq, List.mem_mergeSort]
  have hs : ∀ i j, i ≤ j → j < q.toArray.size → q.toArray[i]! ≤ q.toArray[j]! := by
    intro i j hij hj
    have hj' : j < q.length := by simpa using hj
    have e1 : q.toArray[i]! = q[i] := by simp [getElem!_pos, show i < q.length by omega]
    have e2 : q.toArray[j]! = q[j] := by simp [getElem!_pos, hj']
    rw [e1, e2]
    by_cases c : i = j
    · subst c; exact Int.le_refl _
    · have := (List.pairwise_iff_getElem.1 hp) i j (by omega) hj' (by omega)
      exact of_decide_eq_true this
  obtain ⟨h1, h2⟩ := compactUpTo_asc q.toArray hs q.length (by simp)
  obtain ⟨h3, h4⟩ := hfold z [] (by simp [Asc])
  refine asc_eq h1 h3 fun a => ?_
  show a ∈ compactUpTo q.toArray q.length ↔ _
  rw [h2, h4]
  simp only [List.not_mem_nil, false_or]
  rw [← hmem]
  constructor
  · rintro ⟨j, hj, e⟩
    have : q.toArray[j]! = q[j] := by simp [getElem!_pos, hj]
    rw [← e, this]
    exact List.getElem_mem hj
  · intro ha
    obtain ⟨j, hj, rfl⟩ := List.getElem_of_mem ha
    exact ⟨j, hj, by simp [getElem!_pos, hj]⟩

end Go.Proofs.Ytlfbdafghpmahaa.Gen
