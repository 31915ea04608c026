/- Plain lemmas on lists and loops, of no program: how a loop over a list, told by an index, comes to a fold. No condition. -/
import Derived.Test.YtbgclnjnngolmaaDoorV
namespace Go.Proofs.YtbgclnjnngolmaaDoor.Gen
open Go.RowKit Go.Proofs.YtbgclnjnngolmaaDoorW.PrintWords
set_option linter.unusedVariables false

/-- The greatest length. -/
abbrev Len {α : Type} (l : List α) : Prop := l.length ≤ 9223372036854775807

theorem wrap_succ {j n : Nat} (h : j < n) (hn : n ≤ 9223372036854775807) : wrap64 ((j : Int) + 1) = ((j + 1 : Nat) : Int) := by
  unfold wrap64
  omega
theorem wrap_id {x : Int} (h0 : -9223372036854775808 ≤ x) (h1 : x ≤ 9223372036854775807) : wrap64 x = x := by
  unfold wrap64
  omega

theorem rd_nat (l : List Int) (j : Nat) (h : j < l.length) : rd l (j : Int) = l[j] := by
  simp [rd, List.getD_eq_getElem?_getD, h]
theorem rdOf_nat {α : Type} (d : α) (l : List α) (j : Nat) (h : j < l.length) : rdOf d l (j : Int) = l[j] := by
  simp [rdOf, List.getD_eq_getElem?_getD, h]
theorem getD_nat {α : Type} (d : α) (l : List α) (j : Nat) (h : j < l.length) : l.getD (j : Int).toNat d = l[j] := by
  simp [List.getD_eq_getElem?_getD, h]

/-- A loop over a list, its state b, which may end early. -/
def runL {α β γ : Type} (f : β → α → β ⊕ γ) (fin : β → γ) : β → List α → γ
  | b, [] => fin b
  | b, x :: xs => match f b x with
    | .inl b' => runL f fin b' xs
    | .inr g => g

theorem loop_run_at {α β γ : Type} (l : List α) (f : β → α → β ⊕ γ) (fin : β → γ) (F : Nat → β → Int → Option γ)
    (hs : ∀ k b (j : Nat) (h : j < l.length), F (k + 1) b (j : Int) = match f b l[j] with | .inl b' => F k b' ((j + 1 : Nat) : Int) | .inr g => some g)
    (he : ∀ k b, F (k + 1) b (l.length : Int) = some (fin b)) (d : Nat) :
    ∀ k b (j : Nat), j ≤ l.length → l.length - j = d → d < k → F k b (j : Int) = some (runL f fin b (l.drop j)) := by
  induction d with
  | zero =>
    intro k b j hj hd hk
    obtain ⟨k, rfl⟩ : ∃ m, k = m + 1 := ⟨k - 1, by omega⟩
    obtain rfl : j = l.length := by omega
    rw [he, List.drop_length]
    rfl
  | succ d ih =>
    intro k b j hj hd hk
    obtain ⟨k, rfl⟩ : ∃ m, k = m + 1 := ⟨k - 1, by omega⟩
    have hlt : j < l.length := by omega
    rw [hs k b j hlt, List.drop_eq_getElem_cons hlt]
    show _ = some (match f b l[j] with | .inl b' => runL f fin b' (l.drop (j + 1)) | .inr g => g)
    cases f b l[j] with
    | inl b' => exact ih k b' (j + 1) (by omega) (by omega) (by omega)
    | inr g => rfl

theorem loop_run {α β γ : Type} (l : List α) (f : β → α → β ⊕ γ) (fin : β → γ) (F : Nat → β → Int → Option γ)
    (hs : ∀ k b (j : Nat) (h : j < l.length), F (k + 1) b (j : Int) = match f b l[j] with | .inl b' => F k b' ((j + 1 : Nat) : Int) | .inr g => some g)
    (he : ∀ k b, F (k + 1) b (l.length : Int) = some (fin b)) (k : Nat) (b : β) (hk : l.length < k) : F k b 0 = some (runL f fin b l) := by
  have := loop_run_at l f fin F hs he l.length k b 0 (Nat.zero_le _) (by omega) hk
  simpa using this

/-- A loop that asks one thing of every element. -/
theorem loop_all {α : Type} (l : List α) (p : α → Bool) (F : Nat → Int → Option Bool)
    (hs : ∀ k (j : Nat) (h : j < l.length), F (k + 1) (j : Int) = if p l[j] = true then F k ((j + 1 : Nat) : Int) else some false)
    (he : ∀ k, F (k + 1) (l.length : Int) = some true) (k : Nat) (hk : l.length < k) : F k 0 = some (l.all p) := by
  have h := loop_run (β := Unit) (γ := Bool) l (fun _ x => if p x = true then .inl () else .inr false) (fun _ => true) (fun k _ i => F k i)
    (fun k b j h => by rw [hs k j h]; by_cases c : p l[j] = true <;> simp [c]) (fun k _ => he k) k () hk
  rw [h]
  congr 1
  clear h hs he hk
  induction l with
  | nil => rfl
  | cons x xs ih =>
    by_cases c : p x = true
    · simp [runL, c, ih]
    · simp [runL, c]

/-- A loop that counts on: no early end. -/
theorem loop_fold {α β γ : Type} (l : List α) (f : β → α → β) (fin : β → γ) (F : Nat → β → Int → Option γ)
    (hs : ∀ k b (j : Nat) (h : j < l.length), F (k + 1) b (j : Int) = F k (f b l[j]) ((j + 1 : Nat) : Int))
    (he : ∀ k b, F (k + 1) b (l.length : Int) = some (fin b)) (k : Nat) (b : β) (hk : l.length < k) : F k b 0 = some (fin (l.foldl f b)) := by
  have h := loop_run l (fun b x => (.inl (f b x) : β ⊕ γ)) fin F (fun k b j h => by rw [hs k b j h]) he k b hk
  rw [h]
  congr 1
  clear h hs he hk
  induction l generalizing b with
  | nil => rfl
  | cons x xs ih => simp [runL, ih]

/-- Two lists of one length, index by index. -/
theorem loop_same {α : Type} [DecidableEq α] (l m : List α) (hl : l.length = m.length) (F : Nat → Int → Option Bool)
    (hs : ∀ k (j : Nat) (h : j < l.length) (h' : j < m.length), F (k + 1) (j : Int) = if l[j] = m[j] then F k ((j + 1 : Nat) : Int) else some false)
    (he : ∀ k, F (k + 1) (l.length : Int) = some true) (k : Nat) (hk : l.length < k) : F k 0 = some (decide (l = m)) := by
  have key : ∀ d k (j : Nat), j ≤ l.length → l.length - j = d → d < k → F k (j : Int) = some (decide (l.drop j = m.drop j)) := by
    intro d
    induction d with
    | zero =>
      intro k j hj hd hk
      obtain ⟨k, rfl⟩ : ∃ q, k = q + 1 := ⟨k - 1, by omega⟩
      obtain rfl : j = l.length := by omega
      rw [he, List.drop_length, List.drop_of_length_le (by omega)]
      simp
    | succ d ih =>
      intro k j hj hd hk
      obtain ⟨k, rfl⟩ : ∃ q, k = q + 1 := ⟨k - 1, by omega⟩
      rw [hs k j (by omega) (by omega), List.drop_eq_getElem_cons (show j < l.length by omega), List.drop_eq_getElem_cons (show j < m.length by omega)]
      by_cases c : l[j]'(by omega) = m[j]'(by omega)
      · rw [if_pos c, ih k (j + 1) (by omega) (by omega) (by omega)]
        refine congrArg some (decide_eq_decide.2 ?_)
        rw [c]
        simp only [List.cons.injEq, true_and]
      · rw [if_neg c]
        refine congrArg some (Eq.symm (decide_eq_false fun h => c ?_))
        simp only [List.cons.injEq] at h
        exact h.1
  have := key l.length k 0 (Nat.zero_le _) (by omega) hk
  simpa using this

/-- What marks write: the numbers from a on. -/
def marks (a : Int) : Nat → List Int
  | 0 => []
  | n + 1 => a :: marks (a + 1) n
theorem marks_length (n : Nat) : ∀ a, (marks a n).length = n := by
  induction n with
  | zero => intro a; rfl
  | succ n ih => intro a; simp [marks, ih]

theorem set_mid {α : Type} (p : List α) (x y : α) (r : List α) : (p ++ x :: r).set p.length y = p ++ y :: r := by
  simp
theorem get_mid {α : Type} (p : List α) (x : α) (r : List α) (h : p.length < (p ++ x :: r).length) : (p ++ x :: r)[p.length] = x := by
  simp
theorem more {α : Type} {g : Nat → Option α} (hm : ∀ k, LeO (g k) (g (k + 1))) {k k' : Nat} (hk : k ≤ k') {r : α} (h : g k = some r) : g k' = some r := at_rounds hm hk h

/-- A loop that fills a row of its own, element by element. -/
theorem fill_at {α β : Type} (l : List α) (g : α → β) (z : β) (F : Nat → List β → Int → Option (List β))
    (hs : ∀ k out (j : Nat) (h : j < l.length), out.length = l.length → F (k + 1) out (j : Int) = F k (out.set j (g l[j])) ((j + 1 : Nat) : Int))
    (he : ∀ k out, F (k + 1) out (l.length : Int) = some out) (d : Nat) :
    ∀ k (j : Nat), j ≤ l.length → l.length - j = d → d < k → F k ((l.take j).map g ++ List.replicate d z) (j : Int) = some (l.map g) := by
  induction d with
  | zero =>
    intro k j hj hd hk
    obtain ⟨k, rfl⟩ : ∃ m, k = m + 1 := ⟨k - 1, by omega⟩
    obtain rfl : j = l.length := by omega
    rw [he]
    simp
  | succ d ih =>
    intro k j hj hd hk
    obtain ⟨k, rfl⟩ : ∃ m, k = m + 1 := ⟨k - 1, by omega⟩
    have hlt : j < l.length := by omega
    rw [hs k _ j hlt (by simp; omega)]
    have hl : ((l.take j).map g).length = j := by simp; omega
    have e : ((l.take j).map g ++ List.replicate (d + 1) z).set j (g l[j]) = (l.take (j + 1)).map g ++ List.replicate d z := by
      rw [List.replicate_succ]
      have := set_mid ((l.take j).map g) z (g l[j]) (List.replicate d z)
      rw [hl] at this
      rw [this, List.take_succ_eq_append_getElem hlt, List.map_append, List.append_assoc]
      rfl
    rw [e]
    exact ih k (j + 1) (by omega) (by omega) (by omega)
theorem fill_loop {α β : Type} (l : List α) (g : α → β) (z : β) (F : Nat → List β → Int → Option (List β))
    (hs : ∀ k out (j : Nat) (h : j < l.length), out.length = l.length → F (k + 1) out (j : Int) = F k (out.set j (g l[j])) ((j + 1 : Nat) : Int))
    (he : ∀ k out, F (k + 1) out (l.length : Int) = some out) (k : Nat) (hk : l.length < k) : F k (List.replicate l.length z) 0 = some (l.map g) := by
  have := fill_at l g z F hs he l.length k 0 (Nat.zero_le _) (by omega) hk
  simpa using this

/-- What marks write is what is found: an element at a time, w numbers each. g a x: the element x behind the marks from a on. -/
theorem marked {α : Type} (w : Nat) (g : Int → α → α) (F : Nat → List α → Int → Int → Option (Int × List α)) (F' : Nat → List α → Int → Int → Option Int)
    (hs : ∀ k p x r (a : Int), 0 ≤ a → a + w ≤ 9223372036854775807 → (p ++ x :: r).length ≤ 9223372036854775807 → F (k + 1) (p ++ x :: r) a (p.length : Int) = F k (p ++ g a x :: r) (a + w) ((p.length + 1 : Nat) : Int))
    (he : ∀ k p (a : Int), F (k + 1) p a (p.length : Int) = some (a, p))
    (hs' : ∀ k p x r (a : Int), 0 ≤ a → a + w ≤ 9223372036854775807 → (p ++ g a x :: r).length ≤ 9223372036854775807 → F' (k + 1) (p ++ g a x :: r) a (p.length : Int) = F' k (p ++ g a x :: r) (a + w) ((p.length + 1 : Nat) : Int))
    (he' : ∀ k p (a : Int), F' (k + 1) p a (p.length : Int) = some a) (r : List α) :
    ∀ (p : List α) (a : Int), (p ++ r).length ≤ 9223372036854775807 → 0 ≤ a → a + w * r.length ≤ 9223372036854775807 →
      ∃ r', r'.length = r.length ∧ ∀ k, r.length < k → F k (p ++ r) a (p.length : Int) = some (a + w * r.length, p ++ r') ∧ F' k (p ++ r') a (p.length : Int) = some (a + w * r.length) := by
  induction r with
  | nil =>
    intro p a hl h0 h1
    refine ⟨[], rfl, fun k hk => ?_⟩
    obtain ⟨k, rfl⟩ : ∃ m, k = m + 1 := ⟨k - 1, by simp at hk; omega⟩
    simp only [List.append_nil, List.length_nil]
    rw [he, he']
    simp
  | cons x r ih =>
    intro p a hl h0 h1
    have hp : (w : Int) * ((r.length + 1 : Nat) : Int) = w + w * r.length := by
      rw [Int.natCast_add, Int.mul_add]
      simp
      omega
    have hn : 0 ≤ (w : Int) * r.length := Int.mul_nonneg (by omega) (by omega)
    simp only [List.length_cons] at h1
    rw [hp] at h1
    obtain ⟨r', hr', h⟩ := ih (p ++ [g a x]) (a + w) (by simp at hl ⊢; omega) (by omega) (by omega)
    refine ⟨g a x :: r', by simp [hr'], fun k hk => ?_⟩
    obtain ⟨k, rfl⟩ : ∃ m, k = m + 1 := ⟨k - 1, by omega⟩
    obtain ⟨h2, h3⟩ := h k (by simp at hk; omega)
    simp only [List.append_assoc, List.singleton_append, List.length_append, List.length_singleton] at h2 h3
    rw [hs k p x r a h0 (by omega) hl, hs' k p x r' a h0 (by omega) (by simp at hl ⊢; omega), h2, h3]
    simp only [List.length_cons]
    rw [hp, Int.add_assoc]
    exact ⟨rfl, rfl⟩

/-- A loop that counts on, with what is known at each place. -/
theorem loop_inv {α β γ : Type} (l : List α) (f : β → α → β) (fin : β → γ) (F : Nat → β → Int → Option γ) (I : Nat → β → Prop)
    (hI : ∀ j b (h : j < l.length), I j b → I (j + 1) (f b l[j]))
    (hs : ∀ k b (j : Nat) (h : j < l.length), I j b → F (k + 1) b (j : Int) = F k (f b l[j]) ((j + 1 : Nat) : Int))
    (he : ∀ k b, I l.length b → F (k + 1) b (l.length : Int) = some (fin b)) (k : Nat) (b : β) (h0 : I 0 b) (hk : l.length < k) : F k b 0 = some (fin (l.foldl f b)) := by
  have key : ∀ d k b (j : Nat), j ≤ l.length → l.length - j = d → d < k → I j b → F k b (j : Int) = some (fin ((l.drop j).foldl f b)) := by
    intro d
    induction d with
    | zero =>
      intro k b j hj hd hk h
      obtain ⟨k, rfl⟩ : ∃ m, k = m + 1 := ⟨k - 1, by omega⟩
      obtain rfl : j = l.length := by omega
      rw [he k b h, List.drop_length]
      rfl
    | succ d ih =>
      intro k b j hj hd hk h
      obtain ⟨k, rfl⟩ : ∃ m, k = m + 1 := ⟨k - 1, by omega⟩
      have hlt : j < l.length := by omega
      rw [hs k b j hlt h, ih k _ (j + 1) (by omega) (by omega) (by omega) (hI j b hlt h), List.drop_eq_getElem_cons hlt, List.foldl_cons]
  have := key l.length k b 0 (Nat.zero_le _) (by omega) hk h0
  simpa using this

/-- What marks write, of nobody who asks for it again. -/
theorem marked_only {α : Type} (w : Nat) (g : Int → α → α) (F : Nat → List α → Int → Int → Option (Int × List α))
    (hs : ∀ k p x r (a : Int), 0 ≤ a → a + w ≤ 9223372036854775807 → (p ++ x :: r).length ≤ 9223372036854775807 → F (k + 1) (p ++ x :: r) a (p.length : Int) = F k (p ++ g a x :: r) (a + w) ((p.length + 1 : Nat) : Int))
    (he : ∀ k p (a : Int), F (k + 1) p a (p.length : Int) = some (a, p)) (r : List α) (p : List α) (a : Int) (hl : (p ++ r).length ≤ 9223372036854775807) (h0 : 0 ≤ a) (h1 : a + w * r.length ≤ 9223372036854775807) :
      ∃ r', r'.length = r.length ∧ ∀ k, r.length < k → F k (p ++ r) a (p.length : Int) = some (a + w * r.length, p ++ r') := by
  induction r generalizing p a with
  | nil =>
    refine ⟨[], rfl, fun k hk => ?_⟩
    obtain ⟨k, rfl⟩ : ∃ m, k = m + 1 := ⟨k - 1, by simp at hk; omega⟩
    simp only [List.append_nil, List.length_nil]
    rw [he]
    simp
  | cons x r ih =>
    have hp : (w : Int) * ((r.length + 1 : Nat) : Int) = w + w * r.length := by
      rw [Int.natCast_add, Int.mul_add]
      simp
      omega
    have hn : 0 ≤ (w : Int) * r.length := Int.mul_nonneg (by omega) (by omega)
    simp only [List.length_cons] at h1
    rw [hp] at h1
    obtain ⟨r', hr', h⟩ := ih (p ++ [g a x]) (a + w) (by simp at hl ⊢; omega) (by omega) (by omega)
    refine ⟨g a x :: r', by simp [hr'], fun k hk => ?_⟩
    obtain ⟨k, rfl⟩ : ∃ m, k = m + 1 := ⟨k - 1, by omega⟩
    have h2 := h k (by simp at hk; omega)
    simp only [List.append_assoc, List.singleton_append, List.length_append, List.length_singleton] at h2
    rw [hs k p x r a h0 (by omega) hl, h2]
    simp only [List.length_cons]
    rw [hp, Int.add_assoc]

end Go.Proofs.YtbgclnjnngolmaaDoor.Gen
