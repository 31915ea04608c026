/- Plain lemmas on lists of numbers, of no program: a list that has each number from 1 to n once. No condition. -/
import Derived.Test.YtpcfcdnmpginhaaGen
namespace Go.Proofs.Ytpcfcdnmpginhaa.Gen

/-- The numbers from n down to 1. -/
def upTo : Nat → List Int
  | 0 => []
  | n + 1 => ((n + 1 : Nat) : Int) :: upTo n
theorem mem_upTo {n : Nat} {x : Int} : x ∈ upTo n ↔ 1 ≤ x ∧ x ≤ n := by
  induction n with
  | zero => simp only [upTo, List.not_mem_nil, false_iff]; omega
  | succ n ih => simp only [upTo, List.mem_cons, ih]; omega
theorem upTo_length (n : Nat) : (upTo n).length = n := by
  induction n with
  | zero => rfl
  | succ n ih => simp only [upTo, List.length_cons, ih]
theorem upTo_nodup (n : Nat) : (upTo n).Nodup := by
  induction n with
  | zero => exact List.nodup_nil
  | succ n ih =>
    rw [upTo, List.nodup_cons]
    refine ⟨fun h => ?_, ih⟩
    have := mem_upTo.1 h
    omega
theorem len_of_sub {α : Type} [DecidableEq α] {S : List α} (hS : S.Nodup) : ∀ {L : List α}, (∀ x ∈ S, x ∈ L) → S.length ≤ L.length := by
  induction S with
  | nil => intro L _; exact Nat.zero_le _
  | cons a t ih =>
    intro L h
    rw [List.nodup_cons] at hS
    have ha : a ∈ L := h a List.mem_cons_self
    have h1 : ∀ x ∈ t, x ∈ L.erase a := fun x hx => by
      have hne : x ≠ a := fun e => hS.1 (e ▸ hx)
      exact (List.mem_erase_of_ne hne).2 (h x (List.mem_cons_of_mem _ hx))
    have := ih hS.2 h1
    have h3 := List.length_erase_of_mem ha
    have h4 : 0 < L.length := List.length_pos_of_mem ha
    rw [List.length_cons]
    omega
theorem nodup_of_cover {α : Type} [DecidableEq α] : ∀ {L S : List α}, S.Nodup → (∀ x ∈ S, x ∈ L) → S.length = L.length → L.Nodup := by
  intro L
  induction L with
  | nil => intro S _ _ _; exact List.nodup_nil
  | cons a t ih =>
    intro S hS h hl
    rw [List.length_cons] at hl
    by_cases ha : a ∈ S
    · rw [List.nodup_cons]
      refine ⟨fun hat => ?_, ih (S := S.erase a) (hS.erase a) (fun x hx => ?_) ?_⟩
      · have := len_of_sub hS (L := t) (fun x hx => by
          rcases List.mem_cons.1 (h x hx) with e | e
          · exact e ▸ hat
          · exact e)
        omega
      · have hx' := (hS.mem_erase_iff).1 hx
        rcases List.mem_cons.1 (h x hx'.2) with e | e
        · exact absurd e hx'.1
        · exact e
      · rw [List.length_erase_of_mem ha]
        omega
    · have := len_of_sub hS (L := t) (fun x hx => by
        rcases List.mem_cons.1 (h x hx) with e | e
        · exact absurd (e ▸ hx) ha
        · exact e)
      omega
/-- A list of n numbers has each number from 1 to n as a member just where it has no number twice and all are from 1 to n. -/
theorem each_iff {n : Nat} {L : List Int} (hl : L.length = n) : (∀ x : Int, 1 ≤ x → x ≤ n → x ∈ L) ↔ (L.Nodup ∧ ∀ x ∈ L, 1 ≤ x ∧ x ≤ n) := by
  constructor
  · intro h
    have hn : L.Nodup := nodup_of_cover (upTo_nodup n) (fun x hx => by have := mem_upTo.1 hx; exact h x this.1 this.2) (by rw [upTo_length, hl])
    refine ⟨hn, fun x hx => ?_⟩
    by_cases c : 1 ≤ x ∧ x ≤ n
    · exact c
    · exfalso
      have := len_of_sub (S := x :: upTo n) (by rw [List.nodup_cons]; exact ⟨fun e => c (mem_upTo.1 e), upTo_nodup n⟩) (L := L) (fun y hy => by
        rcases List.mem_cons.1 hy with e | e
        · exact e ▸ hx
        · have := mem_upTo.1 e; exact h y this.1 this.2)
      rw [List.length_cons, upTo_length] at this
      omega
  · rintro ⟨hn, hr⟩ x h1 h2
    by_cases c : x ∈ L
    · exact c
    · exfalso
      have := len_of_sub (S := x :: L) (by rw [List.nodup_cons]; exact ⟨c, hn⟩) (L := upTo n) (fun y hy => by
        rcases List.mem_cons.1 hy with e | e
        · rw [e]; exact mem_upTo.2 ⟨h1, h2⟩
        · exact mem_upTo.2 (hr y e))
      rw [List.length_cons, upTo_length] at this
      omega
/-- In how many of three lists is a number a member? -/
def inOf (A B C : List Int) (x : Int) : Nat := (if x ∈ A then 1 else 0) + (if x ∈ B then 1 else 0) + (if x ∈ C then 1 else 0)
theorem three_iff {n : Nat} {A B C : List Int} (hl : A.length + B.length + C.length = n) : (∀ x : Int, 1 ≤ x → x ≤ n → inOf A B C x = 1) ↔ ((A ++ B ++ C).Nodup ∧ ∀ x ∈ A ++ B ++ C, 1 ≤ x ∧ x ≤ n) := by
  have hlen : (A ++ B ++ C).length = n := by simp; omega
  constructor
  · intro h
    refine (each_iff hlen).1 fun x h1 h2 => ?_
    have := h x h1 h2
    unfold inOf at this
    simp only [List.mem_append]
    by_cases a : x ∈ A
    · exact .inl (.inl a)
    · by_cases b : x ∈ B
      · exact .inl (.inr b)
      · by_cases c : x ∈ C
        · exact .inr c
        · simp [a, b, c] at this
  · intro h x h1 h2
    have hx := (each_iff hlen).2 h x h1 h2
    have hn := h.1
    rw [List.nodup_append] at hn
    obtain ⟨hab, hc, hd⟩ := hn
    rw [List.nodup_append] at hab
    obtain ⟨ha, hb, hab'⟩ := hab
    unfold inOf
    simp only [List.mem_append] at hx hd
    by_cases a : x ∈ A
    · have b : x ∉ B := fun e => hab' x a x e rfl
      have c : x ∉ C := fun e => hd x (.inl a) x e rfl
      simp [a, b, c]
    · by_cases b : x ∈ B
      · have c : x ∉ C := fun e => hd x (.inr b) x e rfl
        simp [a, b, c]
      · have c : x ∈ C := by simpa [a, b] using hx
        simp [a, b, c]

end Go.Proofs.Ytpcfcdnmpginhaa.Gen
