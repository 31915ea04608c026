
/- Plain lemmas on lists and loops, of no program: how a loop over a list, told by an index, comes to a fold. No condition. -/
import Derived.Test.YtbgclnjnngolmaaV
namespace Go.Proofs.Ytbgclnjnngolmaa.Gen
open Go.RowKit Go.Proofs.YtbgclnjnngolmaaW.PrintWords
set_option linter.unusedVariables false

abbrev Len {α : Type} (l : List α) : Prop := l.length ≤ 9223372036854775807

theorem wrap_succ {j n : Nat} (h : j < n) (hn : n ≤ 9223372036854775807) : wrap64 ((j : Int) + 1) = ((j + 1 : Nat) : Int) := by
 unfold wrap64
 omega
theorem wrap_id {x : Int} (h0 : -9223372036854775808 ≤ x) (h1 : x ≤ 9223372036854775807) : wrap64 x = x := by
 unfold wrap64
 omega

theorem rd_nat (l : List Int) (j : Nat) (h : j < l.length) : rd l (j : Int) = l[j] := by
 simp [rd, List.getD_eq_getElem?_getD, h]
theorem getD_nat {α : Type} (d : α) (l : List α) (j : Nat) (h : j < l.length) : l.getD (j : Int).toNat d = l[j] := by
 simp [List.getD_eq_getElem?_getD, h]

def runL {α β γ : Type} (f : β → α → β ⊕ γ) (fin : β → γ) : β → List α → γ
 | b, [] => fin b
 | b, x :: xs => match f b x with
  | .inl b' => runL f fin b' xs
  | .inr g => g

theorem loop_run_at {α β γ : Type} (l : List α) (f : β → α → β ⊕ γ) (fin : β → γ) (F : Nat → β → Int → Option γ)
  (hs : ∀ k b (j : Nat) (h : j < l.length), F (k + 1) b (j : Int) = match f b l[j] with | .inl b' => F k b' ((j + 1 : Nat) : Int) | .inr g => some g)
  (he : ∀ k b, F (k + 1) b (l.length : Int) = some (fin b)) (d : Nat) :
  ∀ k b (j : Nat), j ≤ l.length → l.length - j = d → d < k → F k b (j : Int) = some (runL f fin b (l.drop j)) := by
 induction d with
 | zero =>
  intro k b j hj hd hk
  obtain ⟨k, rfl⟩ : ∃ m, k = m + 1 := ⟨k - 1, by omega⟩
  obtain rfl : j = l.length := by omega
  rw [he, List.drop_length]
  rfl
 | succ d ih =>
  intro k b j hj hd hk
  obtain ⟨k, rfl⟩ : ∃ m, k = m + 1 := ⟨k - 1, by omega⟩
  have hlt : j < l.length := by omega
  rw [hs k b j hlt, List.drop_eq_getElem_cons hlt]
  show _ = some (match f b l[j] with | .inl b' => runL f fin b' (l.drop (j + 1)) | .inr g => g)
  cases f b l[j] with
  | inl b' => exact ih k b' (j + 1) (by omega) (by omega) (by omega)
  | inr g => rfl

theorem loop_run {α β γ : Type} (l : List α) (f : β → α → β ⊕ γ) (fin : β → γ) (F : Nat → β → Int → Option γ)
  (hs : ∀ k b (j : Nat) (h : j < l.length), F (k + 1) b (j : Int) = match f b l[j] with | .inl b' => F k b' ((j + 1 : Nat) : Int) | .inr g => some g)
  (he : ∀ k b, F (k + 1) b (l.length : Int) = some (fin b)) (k : Nat) (b : β) (hk : l.length < k) : F k b 0 = some (runL f fin b l) := by
 have := loop_run_at l f fin F hs he l.length k b 0 (Nat.zero_le _) (by omega) hk
 simpa using this

theorem loop_all {α : Type} (l : List α) (p : α → Bool) (F : Nat → Int → Option Bool)
  (hs : ∀ k (j : Nat) (h : j < l.length), F (k + 1) (j : Int) = if p l[j] = true then F k ((j + 1 : Nat) : Int) else some false)
  (he : ∀ k, F (k + 1) (l.length : Int) = some true) (k : Nat) (hk : l.length < k) : F k 0 = some (l.all p) := by
 have h := loop_run (β := Unit) (γ := Bool) l (fun _ x => if p x = true then .inl () else .inr false) (fun _ => true) (fun k _ i => F k i)
  (fun k b j h => by rw [hs k j h]; by_cases c : p l[j] = true <;> simp [c]) (fun k _ => he k) k () hk
 rw [h]
 congr 1
 clear h hs he hk
 induction l with
 | nil => rfl
 | cons x xs ih =>
  by_cases c : p x = true
  ·simp [runL, c, ih]
  ·simp [runL, c]

theorem set_mid {α : Type} (p : List α) (x y : α) (r : List α) : (p ++ x :: r).set p.length y = p ++ y :: r := by
 simp
theorem get_mid {α : Type} (p : List α) (x : α) (r : List α) (h : p.length < (p ++ x :: r).length) : (p ++ x :: r)[p.length] = x := by
 simp
end Go.Proofs.Ytbgclnjnngolmaa.Gen
