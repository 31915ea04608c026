/- The laws' words on atoms, threads and machines: copies, sizes, equality. No condition but that lengths are lengths. -/
import Derived.Test.YtchpopocnaoabaaDoorMem
import Derived.Test.YtchpopocnaoabaaDoorSlot
import Derived.Test.YtchpopocnaoabaaDoorPlawstoThreadS
import Derived.Test.YtchpopocnaoabaaDoorPlawstoThreadS
import Derived.Test.YtchpopocnaoabaaDoorPlawsszThread
import Derived.Test.YtchpopocnaoabaaDoorPlawseqThreadS
namespace Go.Proofs.YtchpopocnaoabaaDoor.Pure
open Go.RowKit Go.Proofs.YtchpopocnaoabaaDoor.P Go.Proofs.YtchpopocnaoabaaDoor.Gen Go.Proofs.YtchpopocnaoabaaDoorW.PrintWords

abbrev Thr := S133
abbrev Thr0 := S167
/-- The copy of a thread that came in. -/
def cpThr (x : Thr0) : Thr := ⟨x.f0, x.f1, x.f2.map cpSlot⟩
abbrev cpThrs (l : List Thr0) : List Thr := l.map cpThr
/-- All rows of these threads are small. -/
def SmallThr (l : List Thr0) : Prop := ∀ q ∈ l, q.f1.length ≤ 1048576 ∧ q.f2.length ≤ 1048576
theorem toThread (x : Thr0) (k : Nat) (h1 : x.f1.length ≤ 1048576) (h2 : x.f2.length ≤ 1048576) (hk : 1048576 < k) : laws_toThread.f k x.f0 x.f1 x.f2 = some ((cpThr x).f0, (cpThr x).f1, (cpThr x).f2) := by
  unfold laws_toThread.f
  rw [toIntS x.f1 k h1 (by omega), Option.bind_some, toSlotS x.f2 k h2 (by omega)]
  rfl
theorem toThreadS (l : List Thr0) (k : Nat) (hl : l.length ≤ 1048576) (hq : SmallThr l) (hk : l.length + 1048577 < k) : laws_toThreadS.f k l = some (cpThrs l) := by
  unfold laws_toThreadS.f
  rw [if_pos (by omega), if_pos (by omega), Int.toNat_natCast]
  have key : ∀ d k (j : Nat), j ≤ l.length → l.length - j = d → d + 1048577 < k → laws_toThreadS.l0 k l (((l.take j).map cpThr) ++ List.replicate d z133) (j : Int) = some (cpThrs l) := by
    intro d
    induction d with
    | zero =>
      intro k j hj hd hk
      obtain ⟨k, rfl⟩ : ∃ m, k = m + 1 := ⟨k - 1, by omega⟩
      obtain rfl : j = l.length := by omega
      simp only [laws_toThreadS.l0]
      rw [if_neg (by omega)]
      simp
    | succ d ih =>
      intro k j hj hd hk
      obtain ⟨k, rfl⟩ : ∃ m, k = m + 1 := ⟨k - 1, by omega⟩
      have hlt : j < l.length := by omega
      have e : rd_T167 l (j : Int) = l[j] := getD_nat _ l j hlt
      have hlen : ((l.take j).map cpThr).length = j := by simp; omega
      have hs := hq _ (List.getElem_mem hlt)
      simp only [laws_toThreadS.l0, e]
      rw [if_pos (by omega), if_pos (by omega), toThread l[j] k hs.1 hs.2 (by omega), Option.bind_some, if_pos (by simp; omega), wrap_succ hlt (by omega), Int.toNat_natCast]
      have e2 : (((l.take j).map cpThr) ++ List.replicate (d + 1) z133).set j (cpThr l[j]) = ((l.take (j + 1)).map cpThr) ++ List.replicate d z133 := by
        rw [List.replicate_succ]
        have := set_mid ((l.take j).map cpThr) z133 (cpThr l[j]) (List.replicate d z133)
        rw [hlen] at this
        rw [this, List.take_succ_eq_append_getElem hlt, List.map_append, List.append_assoc]
        rfl
      have := ih k (j + 1) (by omega) (by omega) (by omega)
      rw [← e2] at this
      exact this
  have := key l.length k 0 (Nat.zero_le _) (by omega) (by omega)
  simpa using this
theorem toMachine (m : List Int) (l : List Thr0) (k : Nat) (hm : m.length ≤ 1048576) (hl : l.length ≤ 1048576) (hq : SmallThr l) (hk : l.length + 1048577 < k) : laws_toMachine.f k m l = some (m, cpThrs l) := by
  unfold laws_toMachine.f
  rw [toMem m k hm (by omega), Option.bind_some, toThreadS l k hl hq hk]
  rfl
/-- What the length words say of a thread. -/
def LenThr (l : List Thr0) : Prop := l.length ≤ 9223372036854775807 ∧ ∀ q ∈ l, q.f1.length ≤ 9223372036854775807 ∧ q.f2.length ≤ 9223372036854775807
theorem szThread (x : Thr0) (a : Int) (h1 : x.f1.length ≤ 9223372036854775807) (h2 : x.f2.length ≤ 9223372036854775807) (h0 : 0 ≤ a) (ha : a ≤ 1048576) :
    ∃ n, laws_szThread.f x.f0 x.f1 x.f2 a = some n ∧ (n < 0 ∨ 0 ≤ n ∧ n ≤ a ∧ (x.f1.length : Int) ≤ a ∧ (x.f2.length : Int) ≤ a) := by
  unfold laws_szThread.f
  rw [szIntS x.f1 a h1 h0 ha, Option.bind_some]
  by_cases c : (x.f1.length : Int) ≤ a
  · rw [if_pos c, if_neg (by omega), szSlotS x.f2 _ h2 (by omega) (by omega), Option.bind_some]
    by_cases d : (x.f2.length : Int) ≤ a - x.f1.length
    · rw [if_pos d, if_neg (by omega)]
      exact ⟨_, rfl, .inr ⟨by omega, by omega, c, by omega⟩⟩
    · rw [if_neg d, if_pos (by omega)]
      exact ⟨-1, rfl, .inl (by omega)⟩
  · rw [if_neg c, if_pos (by omega)]
    exact ⟨-1, rfl, .inl (by omega)⟩
theorem szThreadS (l : List Thr0) (a : Int) (hl : LenThr l) (h0 : 0 ≤ a) (h1 : a ≤ 1048576) (k : Nat) (hk : 1048578 < k) :
    ∃ n, laws_szThreadS.f k l a = some n ∧ (n < 0 ∨ 0 ≤ n ∧ n ≤ a ∧ (l.length : Int) ≤ a ∧ ∀ q ∈ l, (q.f1.length : Int) ≤ a ∧ (q.f2.length : Int) ≤ a) := by
  unfold laws_szThreadS.f
  have hl' := hl.1
  rw [wrap_id (x := a - (l.length : Int)) (by omega) (by omega)]
  by_cases cc : (l.length : Int) ≤ a
  · rw [if_neg (by omega)]
    have key : ∀ d k (j : Nat) (b : Int), j ≤ l.length → l.length - j = d → d < k → 0 ≤ b → b ≤ a → (∀ i (h : i < l.length), i < j → (l[i].f1.length : Int) ≤ a ∧ (l[i].f2.length : Int) ≤ a) →
        ∃ n, laws_szThreadS.l0 k l b (j : Int) = some n ∧ (n < 0 ∨ 0 ≤ n ∧ n ≤ a ∧ ∀ q ∈ l, (q.f1.length : Int) ≤ a ∧ (q.f2.length : Int) ≤ a) := by
      intro d
      induction d with
      | zero =>
        intro k j b hj hd hk hb hba hA
        obtain ⟨k, rfl⟩ : ∃ m, k = m + 1 := ⟨k - 1, by omega⟩
        obtain rfl : j = l.length := by omega
        simp only [laws_szThreadS.l0]
        rw [if_neg (by omega)]
        refine ⟨b, rfl, .inr ⟨hb, hba, fun q hq => ?_⟩⟩
        obtain ⟨i, hi, rfl⟩ := List.getElem_of_mem hq
        exact hA i hi hi
      | succ d ih =>
        intro k j b hj hd hk hb hba hA
        obtain ⟨k, rfl⟩ : ∃ m, k = m + 1 := ⟨k - 1, by omega⟩
        have hlt : j < l.length := by omega
        have e : rd_T167 l (j : Int) = l[j] := getD_nat _ l j hlt
        have hL := hl.2 _ (List.getElem_mem hlt)
        simp only [laws_szThreadS.l0, e]
        obtain ⟨n, hn, hs⟩ := szThread l[j] b hL.1 hL.2 hb (by omega)
        rw [if_pos (by omega), if_pos (by omega), hn, Option.bind_some]
        by_cases c2 : n < 0
        · rw [if_pos c2]
          exact ⟨-1, rfl, .inl (by omega)⟩
        · rw [if_neg c2, wrap_succ hlt hl']
          rcases hs with hs | ⟨s1, s2, s3, s4⟩
          · exact absurd hs c2
          · refine ih k (j + 1) _ (by omega) (by omega) (by omega) (by omega) (by omega) (fun i hi hij => ?_)
            by_cases e : i = j
            · subst e; exact ⟨by omega, by omega⟩
            · exact hA i hi (by omega)
    obtain ⟨n, hn, h⟩ := key l.length k 0 (a - l.length) (Nat.zero_le _) (by omega) (by omega) (by omega) (by omega) (fun i _ hi => absurd hi (Nat.not_lt_zero _))
    refine ⟨n, hn, ?_⟩
    rcases h with h | ⟨h2, h3, h4⟩
    · exact .inl h
    · exact .inr ⟨h2, h3, cc, h4⟩
  · rw [if_pos (by omega)]
    exact ⟨-1, rfl, .inl (by omega)⟩
theorem szMachine (m : List Int) (l : List Thr0) (a : Int) (hm : Len m) (hl : LenThr l) (h0 : 0 ≤ a) (h1 : a ≤ 1048576) (k : Nat) (hk : 1048578 < k) :
    ∃ n, laws_szMachine.f k m l a = some n ∧ (n < 0 ∨ 0 ≤ n ∧ n ≤ a ∧ (m.length : Int) ≤ a ∧ (l.length : Int) ≤ a ∧ SmallThr l) := by
  unfold laws_szMachine.f
  rw [szMem m a hm h0 h1, Option.bind_some]
  by_cases c : (m.length : Int) ≤ a
  · rw [if_pos c, if_neg (by omega)]
    obtain ⟨n, hn, hs⟩ := szThreadS l (a - m.length) hl (by omega) (by omega) k hk
    rw [hn, Option.bind_some]
    by_cases d : n < 0
    · rw [if_pos d]
      exact ⟨-1, rfl, .inl (by omega)⟩
    · rw [if_neg d]
      rcases hs with hs | ⟨s1, s2, s3, s4⟩
      · exact absurd hs d
      · exact ⟨n, rfl, .inr ⟨s1, by omega, c, by omega, fun q hq => by have := s4 q hq; exact ⟨by omega, by omega⟩⟩⟩
  · rw [if_neg c, if_pos (by omega)]
    exact ⟨-1, rfl, .inl (by omega)⟩
theorem eqThread_same (x : Thr) (h1 : x.f1.length ≤ 1048576) (h2 : x.f2.length ≤ 1048576) (k : Nat) (hk : 1048576 < k) : laws_eqThread.f k x.f0 x.f1 x.f2 x.f0 x.f1 x.f2 = some true := by
  unfold laws_eqThread.f
  rw [if_pos rfl, eqIntS x.f1 x.f1 (by unfold Len; omega) k (by omega), Option.bind_some, eqSlotS_same x.f2 (by unfold Len; omega) k (by omega)]
  simp
theorem eqThreadS_same (l : List Thr) (hl : l.length ≤ 1048576) (hq : ∀ q ∈ l, q.f1.length ≤ 1048576 ∧ q.f2.length ≤ 1048576) (k : Nat) (hk : l.length + 1048577 < k) : laws_eqThreadS.f k l l = some true := by
  unfold laws_eqThreadS.f
  rw [if_pos rfl]
  have key : ∀ d k (j : Nat), j ≤ l.length → l.length - j = d → d + 1048577 < k → laws_eqThreadS.l0 k l l (j : Int) = some true := by
    intro d
    induction d with
    | zero =>
      intro k j hj hd hk
      obtain ⟨k, rfl⟩ : ∃ m, k = m + 1 := ⟨k - 1, by omega⟩
      obtain rfl : j = l.length := by omega
      simp only [laws_eqThreadS.l0]
      rw [if_neg (by omega)]
    | succ d ih =>
      intro k j hj hd hk
      obtain ⟨k, rfl⟩ : ∃ m, k = m + 1 := ⟨k - 1, by omega⟩
      have hlt : j < l.length := by omega
      have e : rd_T133 l (j : Int) = l[j] := getD_nat _ l j hlt
      have h16 := hq _ (List.getElem_mem hlt)
      simp only [laws_eqThreadS.l0, e]
      rw [if_pos (by omega), if_pos (by omega), if_pos (by omega), eqThread_same l[j] h16.1 h16.2 k (by omega), Option.bind_some, if_pos rfl, wrap_succ hlt (by omega)]
      exact ih k (j + 1) (by omega) (by omega) (by omega)
  exact key l.length k 0 (Nat.zero_le _) (by omega) hk
theorem eqMachine_same (m : List Int) (l : List Thr) (hm : m.length ≤ 1048576) (hl : l.length ≤ 1048576) (hq : ∀ q ∈ l, q.f1.length ≤ 1048576 ∧ q.f2.length ≤ 1048576) (k : Nat) (hk : l.length + 1048577 < k) : laws_eqMachine.f k m l m l = some true := by
  unfold laws_eqMachine.f
  rw [eqMem m m (by unfold Len; omega) k (by omega), Option.bind_some, eqThreadS_same l hl hq k hk]
  simp
theorem cpThrs_len (l : List Thr0) : (cpThrs l).length = l.length := by simp [cpThrs]
theorem cpThrs_small {l : List Thr0} (h : SmallThr l) : ∀ q ∈ cpThrs l, q.f1.length ≤ 1048576 ∧ q.f2.length ≤ 1048576 := by
  intro q hq
  simp only [cpThrs, List.mem_map] at hq
  obtain ⟨p, hp, rfl⟩ := hq
  have := h p hp
  simp only [cpThr, List.length_map]
  exact this

end Go.Proofs.YtchpopocnaoabaaDoor.Pure
