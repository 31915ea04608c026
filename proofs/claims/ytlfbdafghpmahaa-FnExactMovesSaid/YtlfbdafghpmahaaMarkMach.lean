/- Marks on a machine, and whether they are found. No condition but that lengths are small. -/
import Derived.Test.YtlfbdafghpmahaaMach
import Derived.Test.YtlfbdafghpmahaaIntsMark
import Derived.Test.YtlfbdafghpmahaaPlawsmarkMachine
import Derived.Test.YtlfbdafghpmahaaPlawseqMachine
namespace Go.Proofs.Ytlfbdafghpmahaa.Pure
open Go.RowKit Go.Proofs.Ytlfbdafghpmahaa.P Go.Proofs.Ytlfbdafghpmahaa.Gen Go.Proofs.YtlfbdafghpmahaaW.PrintWords
set_option linter.unusedSimpArgs false
set_option linter.unusedVariables false

theorem markSlots (l : List S152) (a : Int) (hl : l.length ≤ 1048576) (h0 : 0 ≤ a) (h1 : a ≤ 9000000000000000000) :
    ∃ l', l'.length = l.length ∧ ∀ k, l.length < k → laws_markSlotS.f k l a = some (a + 2 * l.length, l') ∧ laws_heldSlotS.f k l' a = some (a + 2 * l.length) := by
  have rdS : ∀ (l : List S152) (j : Nat) (h : j < l.length), rd_T152 l (j : Int) = l[j] := fun l j h => getD_nat _ l j h
  have := marked 2 (fun a _ => (⟨a, a + 1⟩ : S152)) laws_markSlotS.l0 laws_heldSlotS.l0
    (fun k p x r a h0 h1 h2 => by
      have e : ((p ++ x :: r).length : Int) = p.length + r.length + 1 := by simp; omega
      have e2 : rd_T152 (p ++ (⟨a, x.f1⟩ : S152) :: r) (p.length : Int) = ⟨a, x.f1⟩ := by rw [rdS _ p.length (by simp), get_mid]
      have e3 : rd_T152 (p ++ x :: r) (p.length : Int) = x := by rw [rdS _ p.length (by simp), get_mid]
      simp only [laws_markSlotS.l0, Option.bind_some]
      rw [if_pos (by omega), if_pos (by omega), Int.toNat_natCast, e3, set_mid, e2, set_mid, wrap_id (x := a + 1) (by omega) (by omega), wrap_id (x := a + 1 + 1) (by omega) (by omega), wrap_succ (n := (p ++ x :: r).length) (by omega) h2, show a + 1 + 1 = a + (2 : Nat) from by omega])
    (fun k p a => by simp only [laws_markSlotS.l0]; rw [if_neg (by omega)])
    (fun k p x r a h0 h1 h2 => by
      have e : ((p ++ (⟨a, a + 1⟩ : S152) :: r).length : Int) = p.length + r.length + 1 := by simp; omega
      simp only [laws_heldSlotS.l0]
      rw [if_pos (by omega), if_pos (by omega), rdS _ p.length (by simp), get_mid, if_pos rfl, wrap_id (x := a + 1) (by omega) (by omega), if_pos rfl, wrap_id (x := a + 1 + 1) (by omega) (by omega), wrap_succ (n := (p ++ (⟨a, a + 1⟩ : S152) :: r).length) (by omega) h2, show a + 1 + 1 = a + (2 : Nat) from by omega])
    (fun k p a => by simp only [laws_heldSlotS.l0]; rw [if_neg (by omega)]) l [] a (by simp; omega) h0 (by omega)
  simpa [laws_markSlotS.f, laws_heldSlotS.f] using this
theorem markThr_at (r : List Thr) : ∀ (p : List Thr) (a : Int), (p ++ r).length ≤ 1048576 → (∀ q ∈ r, q.f1.length ≤ 1048576 ∧ q.f2.length ≤ 1048576) → 0 ≤ a → a + 4194304 * r.length ≤ 4611686018427387904 →
    ∃ (t : Int) (r' : List Thr), r'.length = r.length ∧ a ≤ t ∧ t ≤ a + 4194304 * r.length ∧ ∀ k, r.length + 1048577 < k → laws_markThreadS.l0 k (p ++ r) a (p.length : Int) = some (t, p ++ r') ∧ laws_heldThreadS.l0 k (p ++ r') a (p.length : Int) = some t := by
  induction r with
  | nil =>
    intro p a hl hq h0 h1
    refine ⟨a, [], rfl, Int.le_refl _, by simp, fun k hk => ?_⟩
    obtain ⟨k, rfl⟩ : ∃ m, k = m + 1 := ⟨k - 1, by omega⟩
    simp only [List.append_nil, laws_markThreadS.l0, laws_heldThreadS.l0]
    rw [if_neg (by omega), if_neg (by omega)]
    exact ⟨by simp, rfl⟩
  | cons x r ih =>
    intro p a hl hq h0 h1
    obtain ⟨hx1, hx2⟩ := hq x (List.mem_cons_self ..)
    simp only [List.length_cons] at h1
    obtain ⟨s', hs', hm⟩ := markSlots x.f2 (a + 1 + x.f1.length) hx2 (by omega) (by omega)
    obtain ⟨t, r', hr', ht, htu, h⟩ := ih (p ++ [(⟨a, marks (a + 1) x.f1.length, s'⟩ : Thr)]) (a + 1 + x.f1.length + 2 * x.f2.length) (by simp at hl ⊢; omega) (fun q h => hq q (List.mem_cons_of_mem _ h)) (by omega) (by omega)
    refine ⟨t, (⟨a, marks (a + 1) x.f1.length, s'⟩ : Thr) :: r', by simp [hr'], by omega, by simp only [List.length_cons]; omega, fun k hk => ?_⟩
    obtain ⟨k, rfl⟩ : ∃ m, k = m + 1 := ⟨k - 1, by omega⟩
    simp only [List.length_cons] at hk
    obtain ⟨h2, h3⟩ := h k (by omega)
    obtain ⟨m1, m2⟩ := hm k (by omega)
    have i1 := markIntS x.f1 (a + 1) k (by show _ ≤ _; omega) (by omega) (by omega) (by omega)
    have i2 := heldIntS (a + 1) x.f1.length k (by omega) (by omega) (by omega) (by omega)
    have w0 : wrap64 (a + 1) = a + 1 := wrap_id (by omega) (by omega)
    have w1 : wrap64 ((p.length : Int) + 1) = ((p.length + 1 : Nat) : Int) := wrap_succ (n := (p ++ x :: r).length) (by simp) (by omega)
    have n1 : ¬ (a + 1 + (x.f1.length : Int) < 0) := by clear w0 w1; omega
    have n2 : ¬ (a + 1 + (x.f1.length : Int) + 2 * (x.f2.length : Int) < 0) := by clear w0 w1; omega
    have g1 : (p ++ x :: r).getD (p.length : Int).toNat z102 = x := by rw [getD_nat _ _ p.length (by simp), get_mid]
    have g2 : (p ++ (⟨a, marks (a + 1) x.f1.length, s'⟩ : Thr) :: r').getD (p.length : Int).toNat z102 = ⟨a, marks (a + 1) x.f1.length, s'⟩ := by rw [getD_nat _ _ p.length (by simp), get_mid]
    simp only [List.append_assoc, List.singleton_append, List.length_append, List.length_singleton] at h2 h3
    clear hk hq ht htu hr' hx1 hx2 hm ih h hl h1 h0
    have c0 : (0 : Int) ≤ p.length := Int.natCast_nonneg _
    have c1 : (p.length : Int) < ((p ++ x :: r).length : Int) := by clear w0 w1; simp; omega
    have c2 : (p.length : Int) < ((p ++ (⟨a, marks (a + 1) x.f1.length, s'⟩ : Thr) :: r').length : Int) := by clear w0 w1; simp; omega
    constructor
    · simp only [laws_markThreadS.l0, g1]
      rw [if_pos c1, if_pos c0, w0, i1, Option.bind_some]
      simp only
      rw [m1, Option.bind_some]
      simp only
      rw [Int.toNat_natCast, set_mid, w1, h2]
    · simp only [laws_heldThreadS.l0, rd_T102, g2]
      rw [if_pos c2, if_pos c0, if_pos trivial, w0, i2, Option.bind_some, if_neg n1, m2, Option.bind_some, if_neg n2, w1, h3]
/-- The marks tell a number, the same however many rounds there are. -/
theorem markMachine (m : List Int) (l : List Thr) (a : Int) (hm : m.length ≤ 1048576) (hl : l.length ≤ 1048576) (hq : ∀ q ∈ l, q.f1.length ≤ 1048576 ∧ q.f2.length ≤ 1048576) (h0 : 0 ≤ a) (h1 : a ≤ 5000000000000) : ∃ t, 0 ≤ t ∧ ∀ k, l.length + m.length + 1048577 < k → laws_markMachine.f k m l a = some t := by
  obtain ⟨t, r', hr', ht, htu, h⟩ := markThr_at l [] (a + m.length) (by simpa using hl) hq (by omega) (by omega)
  simp only [List.nil_append] at h
  refine ⟨t, by omega, fun k hk => ?_⟩
  obtain ⟨m1, m2⟩ := h k (by omega)
  have m1' : laws_markThreadS.f k l (a + m.length) = some (t, r') := m1
  have m2' : laws_heldThreadS.f k r' (a + m.length) = some t := m2
  have i1 := markIntS m a k (by show _ ≤ _; omega) (by omega) (by omega) (by omega)
  have i2 := heldIntS a m.length k (by omega) (by omega) (by omega) (by omega)
  unfold laws_markMachine.f laws_markMem.f laws_heldMachine.f laws_heldMem.f
  rw [i1, Option.bind_some, Option.bind_some]
  simp only
  rw [m1', Option.bind_some]
  simp only
  rw [i2, Option.bind_some, if_neg (by omega), Option.bind_some, if_neg (by omega), m2', Option.bind_some, if_neg (by omega), Option.bind_some, if_pos rfl]

end Go.Proofs.Ytlfbdafghpmahaa.Pure
