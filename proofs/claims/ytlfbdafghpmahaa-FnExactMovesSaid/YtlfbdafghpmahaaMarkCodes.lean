/- Marks on a code and on a row of codes, and whether they are found. No condition but that lengths are small. -/
import Derived.Test.YtlfbdafghpmahaaPrg
import Derived.Test.YtlfbdafghpmahaaPlawsmarkProg
import Derived.Test.YtlfbdafghpmahaaPlawseqInstrSS
namespace Go.Proofs.Ytlfbdafghpmahaa.Pure
open Go.RowKit Go.Proofs.Ytlfbdafghpmahaa.P Go.Proofs.Ytlfbdafghpmahaa.Gen Go.Proofs.YtlfbdafghpmahaaW.PrintWords

theorem markInstrS (l : List Ins) (a : Int) (hl : Len l) (h0 : 0 ≤ a) (h1 : a + 4 * l.length ≤ 9223372036854775807) :
    ∃ l', l'.length = l.length ∧ ∀ k, l.length < k → laws_markInstrS.f k l a = some (a + 4 * l.length, l') ∧ laws_heldInstrS.f k l' a = some (a + 4 * l.length) := by
  have := marked 4 (fun a _ => (⟨a, a + 1, a + 1 + 1, a + 1 + 1 + 1⟩ : Ins)) laws_markInstrS.l0 laws_heldInstrS.l0
    (fun k p x r a h0 h1 h2 => by
      have e : ((p ++ x :: r).length : Int) = p.length + r.length + 1 := by simp; omega
      simp only [laws_markInstrS.l0, Option.bind_some]
      rw [if_pos (by omega), if_pos (by omega), Int.toNat_natCast, set_mid, rdIns _ p.length (by simp), get_mid, rdIns _ p.length (by simp), get_mid, set_mid, rdIns _ p.length (by simp), get_mid, set_mid, rdIns _ p.length (by simp), get_mid, set_mid, wrap_id (x := a + 1) (by omega) (by omega), wrap_id (x := a + 1 + 1) (by omega) (by omega), wrap_id (x := a + 1 + 1 + 1) (by omega) (by omega), wrap_id (x := a + 1 + 1 + 1 + 1) (by omega) (by omega), wrap_succ (n := (p ++ x :: r).length) (by omega) h2, show a + 1 + 1 + 1 + 1 = a + (4 : Nat) from by omega])
    (fun k p a => by simp only [laws_markInstrS.l0]; rw [if_neg (by omega)])
    (fun k p x r a h0 h1 h2 => by
      have e : ((p ++ (⟨a, a + 1, a + 1 + 1, a + 1 + 1 + 1⟩ : Ins) :: r).length : Int) = p.length + r.length + 1 := by simp; omega
      simp only [laws_heldInstrS.l0]
      rw [if_pos (by omega), if_pos (by omega), rdIns _ p.length (by simp), get_mid, if_pos rfl, wrap_id (x := a + 1) (by omega) (by omega), if_pos rfl, wrap_id (x := a + 1 + 1) (by omega) (by omega), if_pos rfl, wrap_id (x := a + 1 + 1 + 1) (by omega) (by omega), if_pos rfl, wrap_id (x := a + 1 + 1 + 1 + 1) (by omega) (by omega), wrap_succ (n := (p ++ (⟨a, a + 1, a + 1 + 1, a + 1 + 1 + 1⟩ : Ins) :: r).length) (by omega) h2, show a + 1 + 1 + 1 + 1 = a + (4 : Nat) from by omega])
    (fun k p a => by simp only [laws_heldInstrS.l0]; rw [if_neg (by omega)]) l [] a hl h0 (by omega)
  simpa [laws_markInstrS.f, laws_heldInstrS.f] using this
theorem markSS_at (r : List (List Ins)) : ∀ (p : List (List Ins)) (a : Int), (p ++ r).length ≤ 1048576 → (∀ q ∈ r, q.length ≤ 1048576) → 0 ≤ a → a + 4194304 * r.length ≤ 4611686018427387904 →
    ∃ (t : Int) (r' : List (List Ins)), r'.length = r.length ∧ a ≤ t ∧ t ≤ a + 4194304 * r.length ∧ ∀ k, r.length + 1048577 < k → laws_markInstrSS.l0 k (p ++ r) a (p.length : Int) = some (t, p ++ r') ∧ laws_heldInstrSS.l0 k (p ++ r') a (p.length : Int) = some t := by
  induction r with
  | nil =>
    intro p a hl hq h0 h1
    refine ⟨a, [], rfl, Int.le_refl _, by simp, fun k hk => ?_⟩
    obtain ⟨k, rfl⟩ : ∃ m, k = m + 1 := ⟨k - 1, by omega⟩
    simp only [List.append_nil, laws_markInstrSS.l0, laws_heldInstrSS.l0]
    rw [if_neg (by omega), if_neg (by omega)]
    exact ⟨by simp, rfl⟩
  | cons x r ih =>
    intro p a hl hq h0 h1
    have hx := hq x (List.mem_cons_self ..)
    simp only [List.length_cons] at h1
    obtain ⟨x', hx', hm⟩ := markInstrS x a (by show _ ≤ _; omega) h0 (by omega)
    obtain ⟨t, r', hr', ht, htu, h⟩ := ih (p ++ [x']) (a + 4 * x.length) (by simp at hl ⊢; omega) (fun q h => hq q (List.mem_cons_of_mem _ h)) (by omega) (by omega)
    refine ⟨t, x' :: r', by simp [hr'], by omega, by simp only [List.length_cons]; omega, fun k hk => ?_⟩
    obtain ⟨k, rfl⟩ : ∃ m, k = m + 1 := ⟨k - 1, by omega⟩
    simp only [List.length_cons] at hk
    obtain ⟨h2, h3⟩ := h k (by omega)
    obtain ⟨m1, m2⟩ := hm k (by omega)
    have e : ((p ++ x :: r).length : Int) = p.length + r.length + 1 := by simp; omega
    have e' : ((p ++ x' :: r').length : Int) = p.length + r'.length + 1 := by simp; omega
    have g1 : (p ++ x :: r).getD (p.length : Int).toNat [] = x := by rw [rdCode _ p.length (by simp), get_mid]
    have g2 : (p ++ x' :: r').getD (p.length : Int).toNat [] = x' := by rw [rdCode _ p.length (by simp), get_mid]
    simp only [List.append_assoc, List.singleton_append, List.length_append, List.length_singleton] at h2 h3
    have w1 : wrap64 ((p.length : Int) + 1) = ((p.length + 1 : Nat) : Int) := wrap_succ (n := (p ++ x :: r).length) (by omega) (by omega)
    have c0 : (0 : Int) ≤ p.length := Int.natCast_nonneg _
    have c3 : ¬ (a + 4 * (x.length : Int) < 0) := by omega
    clear hk hq ht htu hr' hx hx' hm ih h hl h1 h0
    have c1 : (p.length : Int) < ((p ++ x :: r).length : Int) := by omega
    have c2 : (p.length : Int) < ((p ++ x' :: r').length : Int) := by omega
    constructor
    · simp only [laws_markInstrSS.l0, g1]
      rw [if_pos c1, if_pos c0, m1, Option.bind_some]
      simp only
      rw [Int.toNat_natCast, set_mid, w1, h2]
    · simp only [laws_heldInstrSS.l0, rd_L4, g2]
      rw [if_pos c2, if_pos c0, m2, Option.bind_some, if_neg c3, w1, h3]
/-- The marks tell a number, the same however many rounds there are. -/
theorem markProg_le (c : Int) (l : List (List Ins)) (a : Int) (hl : l.length ≤ 1048576) (hq : ∀ q ∈ l, q.length ≤ 1048576) (h0 : 0 ≤ a) (h1 : a ≤ 1073741824) : ∃ t, 0 ≤ t ∧ t ≤ 5000000000000 ∧ ∀ k, l.length + 1048577 < k → laws_markProg.f k c l a = some t := by
  obtain ⟨t, r', hr', ht, htu, h⟩ := markSS_at l [] a (by simpa using hl) hq h0 (by omega)
  simp only [List.nil_append] at h
  have h' : ∀ k, l.length + 1048577 < k → laws_markProg.f k c l a = some t := fun k hk => by
    obtain ⟨m1, m2⟩ := h k hk
    have m1' : laws_markInstrSS.f k l a = some (t, r') := m1
    have m2' : laws_heldInstrSS.f k r' a = some t := m2
    unfold laws_markProg.f laws_heldProg.f
    rw [m1', Option.bind_some]
    simp only
    rw [m2', Option.bind_some, if_neg (by omega), Option.bind_some, if_pos rfl]
  exact ⟨t, by omega, by omega, h'⟩
theorem markProg (c : Int) (l : List (List Ins)) (a : Int) (hl : l.length ≤ 1048576) (hq : ∀ q ∈ l, q.length ≤ 1048576) (h0 : 0 ≤ a) (h1 : a ≤ 1073741824) : ∃ t, 0 ≤ t ∧ ∀ k, l.length + 1048577 < k → laws_markProg.f k c l a = some t := by
  obtain ⟨t, h, _, h2⟩ := markProg_le c l a hl hq h0 h1
  exact ⟨t, h, h2⟩

end Go.Proofs.Ytlfbdafghpmahaa.Pure
