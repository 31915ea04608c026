/- Is a bench valid: the program's test and the reference's, as one Bool; and the laws' words on benches. No condition but that lengths are small. -/
import Derived.Test.YtpcfcdnmpginhaaScal
import Derived.Test.YtpcfcdnmpginhaaInts
import Derived.Test.YtpcfcdnmpginhaaEach
import Derived.Test.YtpcfcdnmpginhaaPspecBenchOk
import Derived.Test.YtpcfcdnmpginhaaPimplBenchOk
import Derived.Test.YtpcfcdnmpginhaaPlawstoBench
import Derived.Test.YtpcfcdnmpginhaaPlawsszHoldS
import Derived.Test.YtpcfcdnmpginhaaPlawseqBench
namespace Go.Proofs.Ytpcfcdnmpginhaa.Pure
open Go.RowKit Go.Proofs.Ytpcfcdnmpginhaa.P Go.Proofs.Ytpcfcdnmpginhaa.Gen Go.Proofs.YtpcfcdnmpginhaaW.PrintWords

abbrev Hld := S123
abbrev Hld0 := S194
theorem rdHld (l : List Hld) (j : Nat) (h : j < l.length) : rd_T123 l (j : Int) = l[j] := getD_nat _ l j h
/-- Ascending, d steps from place j on. -/
def ascAt (l : List Int) : Nat → Nat → Bool
  | 0, _ => true
  | d + 1, j => decide (rd l ((j - 1 : Nat) : Int) < rd l (j : Int)) && ascAt l d (j + 1)
def ascB (l : List Int) : Bool := ascAt l (l.length - 1) 1
theorem wrap_pred {j : Nat} (h : 1 ≤ j) (hj : j ≤ 9223372036854775807) : wrap64 ((j : Int) - 1) = ((j - 1 : Nat) : Int) := by
  rw [wrap_id (by omega) (by omega)]
  omega
theorem impl_asc (l : List Int) (hl : l.length ≤ 1048576) (k : Nat) (hk : l.length < k) : impl_isAscending.f k l = some (ascB l) := by
  unfold impl_isAscending.f ascB
  have key : ∀ d k (j : Nat), 1 ≤ j → j ≤ l.length + 1 → l.length - j = d → d < k → impl_isAscending.l0 k l (j : Int) = some (ascAt l d j) := by
    intro d
    induction d with
    | zero =>
      intro k j h1 hj hd hk
      obtain ⟨k, rfl⟩ : ∃ m, k = m + 1 := ⟨k - 1, by omega⟩
      simp only [impl_isAscending.l0]
      rw [if_neg (by omega)]
      rfl
    | succ d ih =>
      intro k j h1 hj hd hk
      obtain ⟨k, rfl⟩ : ∃ m, k = m + 1 := ⟨k - 1, by omega⟩
      have hlt : j < l.length := by omega
      simp only [impl_isAscending.l0, ascAt]
      rw [wrap_pred h1 (by omega), if_pos (by omega), if_pos (by omega), if_pos (by omega), if_pos (by omega), wrap_succ hlt (by omega), ih k (j + 1) (by omega) (by omega) (by omega) (by omega)]
      by_cases c : rd l ((j - 1 : Nat) : Int) < rd l (j : Int)
      · rw [if_neg (by omega), decide_eq_true c, Bool.true_and]
      · rw [if_pos (by omega), decide_eq_false c, Bool.false_and]
  exact key (l.length - 1) k 1 (Nat.le_refl _) (by omega) (by omega) (by omega)
theorem spec_asc (A : List Int) (H : List Hld) (B C : List Int) (n : Int) (hl : A.length ≤ 1048576) (R : Option Bool) (K : Nat) (hR : ∀ k, K ≤ k → spec_BenchOk.l1 k 1 A H B C n = R) (k : Nat) (hk : K + A.length < k) : spec_BenchOk.l0 k 1 A H B C n = if ascB A = true then R else some false := by
  unfold ascB
  have key : ∀ d k (j : Nat), 1 ≤ j → j ≤ A.length + 1 → A.length - j = d → K + d < k → spec_BenchOk.l0 k (j : Int) A H B C n = if ascAt A d j = true then R else some false := by
    intro d
    induction d with
    | zero =>
      intro k j h1 hj hd hk
      obtain ⟨k, rfl⟩ : ∃ m, k = m + 1 := ⟨k - 1, by omega⟩
      simp only [spec_BenchOk.l0]
      rw [if_neg (by omega), hR k (by omega)]
      rfl
    | succ d ih =>
      intro k j h1 hj hd hk
      obtain ⟨k, rfl⟩ : ∃ m, k = m + 1 := ⟨k - 1, by omega⟩
      have hlt : j < A.length := by omega
      simp only [spec_BenchOk.l0]
      rw [wrap_pred h1 (by omega), if_pos (by omega), if_pos (by omega), if_pos (by omega), if_pos (by omega), wrap_succ hlt (by omega), ih k (j + 1) (by omega) (by omega) (by omega) (by omega)]
      by_cases c : rd A ((j - 1 : Nat) : Int) < rd A (j : Int)
      · have e : ascAt A (d + 1) j = ascAt A d (j + 1) := by rw [ascAt, decide_eq_true c, Bool.true_and]
        rw [if_neg (by omega), e]
      · have e : ascAt A (d + 1) j = false := by rw [ascAt, decide_eq_false c, Bool.false_and]
        rw [if_pos (by omega), e]
        rfl
  exact key (A.length - 1) k 1 (Nat.le_refl _) (by omega) (by omega) (by omega)
theorem hasInt (l : List Int) (x : Int) (hl : l.length ≤ 1048576) (k : Nat) (hk : l.length < k) : spec_l01Has.f k l x = some (decide (x ∈ l)) := by
  unfold spec_l01Has.f
  have key : ∀ d k (j : Nat), j ≤ l.length → l.length - j = d → d < k → spec_l01Has.l0 k l x (j : Int) = some (decide (x ∈ l.drop j)) := by
    intro d
    induction d with
    | zero =>
      intro k j hj hd hk
      obtain ⟨k, rfl⟩ : ∃ m, k = m + 1 := ⟨k - 1, by omega⟩
      obtain rfl : j = l.length := by omega
      simp only [spec_l01Has.l0]
      rw [if_neg (by omega), List.drop_length]
      rfl
    | succ d ih =>
      intro k j hj hd hk
      obtain ⟨k, rfl⟩ : ∃ m, k = m + 1 := ⟨k - 1, by omega⟩
      have hlt : j < l.length := by omega
      simp only [spec_l01Has.l0]
      rw [if_pos (by omega), if_pos (by omega), rd_nat l j hlt, wrap_succ hlt (by omega), ih k (j + 1) (by omega) (by omega) (by omega), List.drop_eq_getElem_cons hlt]
      by_cases c : l[j] = x
      · rw [if_pos c]
        simp [c]
      · rw [if_neg c]
        refine congrArg some (decide_eq_decide.2 ?_)
        rw [List.mem_cons]
        exact ⟨.inr, fun h => h.resolve_left fun e => c e.symm⟩
  have := key l.length k 0 (Nat.zero_le _) (by omega) hk
  simpa using this
/-- Each of d numbers from j on is in one of three lists and no more. -/
def eachAt (A B C : List Int) : Nat → Nat → Bool
  | 0, _ => true
  | d + 1, j => decide (inOf A B C (j : Int) = 1) && eachAt A B C d (j + 1)
theorem eachAt_iff (A B C : List Int) : ∀ d j, eachAt A B C d j = true ↔ ∀ x : Int, (j : Int) ≤ x → x < (j : Int) + d → inOf A B C x = 1 := by
  intro d
  induction d with
  | zero =>
    intro j
    simp only [eachAt, true_iff]
    intro x h1 h2
    omega
  | succ d ih =>
    intro j
    rw [eachAt, Bool.and_eq_true, decide_eq_true_eq, ih (j + 1)]
    constructor
    · rintro ⟨h0, h⟩ x h1 h2
      by_cases e : x = (j : Int)
      · rw [e]; exact h0
      · exact h x (by omega) (by omega)
    · intro h
      exact ⟨h _ (by omega) (by omega), fun x h1 h2 => h x (by omega) (by omega)⟩
theorem spec_each (A : List Int) (H : List Hld) (B C : List Int) (n : Nat) (hn : n ≤ 60) (hA : A.length ≤ 60) (hB : B.length ≤ 60) (hC : C.length ≤ 60) (R : Option Bool) (K : Nat) (hR : ∀ k, K ≤ k → spec_BenchOk.l2 k 0 A H B C ((n + 1 : Nat) : Int) = R) (k : Nat) (hk : K + 3 * n + 100 < k) : spec_BenchOk.l1 k 1 A H B C ((n + 1 : Nat) : Int) = if eachAt A B C n 1 = true then R else some false := by
  have key : ∀ d k (j : Nat), 1 ≤ j → j + d = n + 1 → K + 3 * d + 100 < k → spec_BenchOk.l1 k (j : Int) A H B C ((n + 1 : Nat) : Int) = if eachAt A B C d j = true then R else some false := by
    intro d
    induction d with
    | zero =>
      intro k j h1 hj hk
      obtain ⟨k, rfl⟩ : ∃ m, k = m + 1 := ⟨k - 1, by omega⟩
      simp only [spec_BenchOk.l1]
      rw [if_neg (by omega), hR k (by omega)]
      rfl
    | succ d ih =>
      intro k j h1 hj hk
      obtain ⟨k, rfl⟩ : ∃ m, k = m + 3 := ⟨k - 3, by omega⟩
      have hw : wrap64 ((j : Int) + 1) = ((j + 1 : Nat) : Int) := wrap_succ (n := 100) (by omega) (by omega)
      simp only [spec_BenchOk.l1, spec_BenchOk.j3, spec_BenchOk.j4, eachAt]
      rw [if_pos (by omega), hasInt A _ (by omega) _ (by omega), hasInt B _ (by omega) _ (by omega), hasInt C _ (by omega) _ (by omega)]
      simp only [Option.bind_some, hw, ih k (j + 1) (by omega) (by omega) (by omega), decide_eq_true_eq]
      unfold inOf
      have u1 : wrap64 1 = 1 := wrap_id (by omega) (by omega)
      have u2 : wrap64 2 = 2 := wrap_id (by omega) (by omega)
      have u3 : wrap64 3 = 3 := wrap_id (by omega) (by omega)
      by_cases a : (j : Int) ∈ A <;> by_cases b : (j : Int) ∈ B <;> by_cases c : (j : Int) ∈ C <;> simp [a, b, c, u1, u2, u3]
  exact key n k 1 (Nat.le_refl _) (by omega) hk
/-- Is a hold in a list? -/
def hasH (l : List Hld) (a b : Int) : Bool := l.any fun y => y.f0 == a && y.f1 == b
def heldAt (n : Int) (H : List Hld) : Nat → Nat → Bool
  | 0, _ => true
  | d + 1, j => (inB (rd_T123 H (j : Int)).f0 0 4 && inB (rd_T123 H (j : Int)).f1 1 n) && (!(hasH (H.take j) (rd_T123 H (j : Int)).f0 (rd_T123 H (j : Int)).f1) && heldAt n H d (j + 1))
theorem idxHold (l : List Hld) (a b : Int) (hl : l.length ≤ 1048576) (k : Nat) (hk : l.length < k) : impl_Hold_106.f k l a b = some (hasH l a b) := by
  unfold impl_Hold_106.f impl_Hold_181.f
  have key : ∀ d k (j : Nat), j ≤ l.length → l.length - j = d → d < k → ∃ i, impl_Hold_181.l0 k l (l.length : Int) (j : Int) a b = some i ∧ decide (i ≥ 0) = hasH (l.drop j) a b := by
    intro d
    induction d with
    | zero =>
      intro k j hj hd hk
      obtain ⟨k, rfl⟩ : ∃ m, k = m + 1 := ⟨k - 1, by omega⟩
      obtain rfl : j = l.length := by omega
      simp only [impl_Hold_181.l0]
      rw [if_neg (by omega), List.drop_length]
      exact ⟨-1, rfl, rfl⟩
    | succ d ih =>
      intro k j hj hd hk
      obtain ⟨k, rfl⟩ : ∃ m, k = m + 1 := ⟨k - 1, by omega⟩
      have hlt : j < l.length := by omega
      simp only [impl_Hold_181.l0]
      rw [if_pos (by omega), if_pos (by omega), if_pos (by omega), rdHld l j hlt, wrap_succ hlt (by omega), List.drop_eq_getElem_cons hlt]
      obtain ⟨i, hi, he⟩ := ih k (j + 1) (by omega) (by omega) (by omega)
      by_cases c : (a == l[j].f0 && (b == l[j].f1)) = true
      · rw [if_pos c]
        refine ⟨(j : Int), rfl, ?_⟩
        simp only [Bool.and_eq_true, beq_iff_eq] at c
        have hb : (l[j].f0 == a && l[j].f1 == b) = true := by rw [← c.1, ← c.2]; simp
        unfold hasH
        rw [List.any_cons, hb, Bool.true_or]
        exact decide_eq_true (by omega)
      · rw [if_neg c]
        refine ⟨i, hi, ?_⟩
        rw [he]
        have : (l[j].f0 == a && l[j].f1 == b) = false := by
          rw [Bool.eq_false_iff]
          intro h
          apply c
          simp only [Bool.and_eq_true, beq_iff_eq] at h ⊢
          exact ⟨h.1.symm, h.2.symm⟩
        unfold hasH
        rw [List.any_cons, this, Bool.false_or]
  obtain ⟨i, hi, he⟩ := key l.length k 0 (Nat.zero_le _) (by omega) hk
  have hi' : impl_Hold_181.l0 k l (l.length : Int) 0 a b = some i := hi
  rw [hi', Option.bind_some, he]
  rfl
theorem spec_dup (A : List Int) (H : List Hld) (B C : List Int) (n : Int) (hl : H.length ≤ 300) (j : Nat) (hj : j < H.length) (R : Option Bool) (K : Nat) (hR : ∀ k, K ≤ k → spec_BenchOk.l2 k ((j + 1 : Nat) : Int) A H B C n = R) (k : Nat) (hk : K + j < k) :
    spec_BenchOk.l3 k (j : Int) 0 A H B C n = if hasH (H.take j) H[j].f0 H[j].f1 = true then some false else R := by
  have key : ∀ d k (i : Nat), i ≤ j → j - i = d → K + d < k → spec_BenchOk.l3 k (j : Int) (i : Int) A H B C n = if hasH ((H.take j).drop i) H[j].f0 H[j].f1 = true then some false else R := by
    intro d
    induction d with
    | zero =>
      intro k i hi hd hk
      obtain ⟨k, rfl⟩ : ∃ m, k = m + 1 := ⟨k - 1, by omega⟩
      obtain rfl : i = j := by omega
      simp only [spec_BenchOk.l3]
      rw [if_neg (by omega), wrap_succ hj (by omega), hR k (by omega), List.drop_of_length_le (by rw [List.length_take]; omega)]
      rfl
    | succ d ih =>
      intro k i hi hd hk
      obtain ⟨k, rfl⟩ : ∃ m, k = m + 1 := ⟨k - 1, by omega⟩
      have hlt : i < H.length := by omega
      have hlt' : i < (H.take j).length := by rw [List.length_take]; omega
      simp only [spec_BenchOk.l3]
      rw [if_pos (by omega), if_pos (by omega), if_pos (by omega), if_pos (by omega), if_pos (by omega), rdHld H i hlt, rdHld H j hj, wrap_succ hlt (by omega), ih k (i + 1) (by omega) (by omega) (by omega), List.drop_eq_getElem_cons hlt', List.getElem_take]
      by_cases c : (H[i].f0 == H[j].f0 && (H[i].f1 == H[j].f1)) = true
      · rw [if_pos c]
        simp only [Bool.and_eq_true, beq_iff_eq] at c
        simp [hasH, c.1, c.2]
      · rw [if_neg c]
        rw [Bool.not_eq_true] at c
        have : hasH (H[i] :: (H.take j).drop (i + 1)) H[j].f0 H[j].f1 = hasH ((H.take j).drop (i + 1)) H[j].f0 H[j].f1 := by
          unfold hasH
          rw [List.any_cons, c, Bool.false_or]
        rw [this]
  have := key j k 0 (Nat.zero_le _) (by omega) (by omega)
  simpa using this
theorem spec_held (A : List Int) (H : List Hld) (B C : List Int) (n : Int) (hn : 1 ≤ n ∧ n ≤ 61) (hl : H.length ≤ 300) (k : Nat) (hk : 302 * H.length + 400 < k) : spec_BenchOk.l2 k 0 A H B C n = some (heldAt (n - 1) H H.length 0) := by
  have key : ∀ d k (j : Nat), j + d = H.length → 302 * d + 400 < k → spec_BenchOk.l2 k (j : Int) A H B C n = some (heldAt (n - 1) H d j) := by
    intro d
    induction d with
    | zero =>
      intro k j hj hk
      obtain ⟨k, rfl⟩ : ∃ m, k = m + 1 := ⟨k - 1, by omega⟩
      simp only [spec_BenchOk.l2]
      rw [if_neg (by omega)]
      rfl
    | succ d ih =>
      intro k j hj hk
      obtain ⟨k, rfl⟩ : ∃ m, k = m + 2 := ⟨k - 2, by omega⟩
      have hlt : j < H.length := by omega
      simp only [spec_BenchOk.l2, spec_BenchOk.j6, heldAt, rdHld H j hlt, l01In, Option.bind_some, wrap_id (show -9223372036854775808 ≤ n - 1 by omega) (by omega)]
      rw [if_pos (by omega), if_pos (by omega), spec_dup A H B C n hl j hlt (some (heldAt (n - 1) H d (j + 1))) (302 * d + 401) (fun k hk => ih k (j + 1) (by omega) (by omega)) k (by omega)]
      cases inB H[j].f0 0 4 <;> cases inB H[j].f1 1 (n - 1) <;> cases hasH (H.take j) H[j].f0 H[j].f1 <;> simp
  exact key H.length k 0 (by omega) hk
theorem impl_held (A : List Int) (H : List Hld) (B C : List Int) (n : Int) (hn : 1 ≤ n ∧ n ≤ 61) (hl : H.length ≤ 1048576) (k : Nat) (hk : 2 * H.length + 2 < k) : impl_BenchOk.l0 k H (H.length : Int) 0 A H B C n = some (heldAt (n - 1) H H.length 0) := by
  have key : ∀ d k (j : Nat), j + d = H.length → H.length + d + 1 < k → impl_BenchOk.l0 k H (H.length : Int) (j : Int) A H B C n = some (heldAt (n - 1) H d j) := by
    intro d
    induction d with
    | zero =>
      intro k j hj hk
      obtain ⟨k, rfl⟩ : ∃ m, k = m + 1 := ⟨k - 1, by omega⟩
      simp only [impl_BenchOk.l0]
      rw [if_neg (by omega)]
      rfl
    | succ d ih =>
      intro k j hj hk
      obtain ⟨k, rfl⟩ : ∃ m, k = m + 1 := ⟨k - 1, by omega⟩
      have hlt : j < H.length := by omega
      simp only [impl_BenchOk.l0, heldAt, rdHld H j hlt, impl_isWorker.f, within, Option.bind_some, wrap_id (show -9223372036854775808 ≤ n - 1 by omega) (by omega), Int.toNat_natCast]
      rw [if_pos (by omega), if_pos (by omega), if_pos (by omega), if_pos (show (j : Int) ≤ (H.length : Int) by omega), idxHold (H.take j) _ _ (by rw [List.length_take]; omega) k (by rw [List.length_take]; omega), Option.bind_some, wrap_succ hlt (by omega), ih k (j + 1) (by omega) (by omega)]
      cases inB H[j].f0 0 4 <;> cases inB H[j].f1 1 (n - 1) <;> cases hasH (H.take j) H[j].f0 H[j].f1 <;> simp
  exact key H.length k 0 (by omega) (by omega)
/-- All pairs of a worker and a number from 1 to n. -/
def pairs (n : Nat) : List (Int × Int) := (upTo n).map (fun x => ((0 : Int), x)) ++ ((upTo n).map (fun x => ((1 : Int), x)) ++ ((upTo n).map (fun x => ((2 : Int), x)) ++ ((upTo n).map (fun x => ((3 : Int), x)) ++ (upTo n).map (fun x => ((4 : Int), x)))))
theorem pairs_length (n : Nat) : (pairs n).length = 5 * n := by
  unfold pairs
  simp only [List.length_append, List.length_map, upTo_length]
  omega
theorem mem_pairs {n : Nat} {t x : Int} (h1 : 0 ≤ t ∧ t ≤ 4) (h2 : 1 ≤ x ∧ x ≤ n) : (t, x) ∈ pairs n := by
  unfold pairs
  simp only [List.mem_append, List.mem_map, Prod.mk.injEq, mem_upTo]
  have : t = 0 ∨ t = 1 ∨ t = 2 ∨ t = 3 ∨ t = 4 := by omega
  rcases this with e | e | e | e | e
  · exact .inl ⟨x, h2, e.symm, rfl⟩
  · exact .inr (.inl ⟨x, h2, e.symm, rfl⟩)
  · exact .inr (.inr (.inl ⟨x, h2, e.symm, rfl⟩))
  · exact .inr (.inr (.inr (.inl ⟨x, h2, e.symm, rfl⟩)))
  · exact .inr (.inr (.inr (.inr ⟨x, h2, e.symm, rfl⟩)))
theorem held_few (n : Nat) (H : List Hld) (h : heldAt (n : Int) H H.length 0 = true) : H.length ≤ 5 * n := by
  have key : ∀ d j, j + d = H.length → heldAt (n : Int) H d j = true → ((H.take j).map fun y => (y.f0, y.f1)).Nodup → (∀ z ∈ (H.take j).map fun y => (y.f0, y.f1), z ∈ pairs n) → H.length ≤ 5 * n := by
    intro d
    induction d with
    | zero =>
      intro j hj _ h1 h2
      obtain rfl : j = H.length := by omega
      have := len_of_sub h1 h2
      rw [List.length_map, List.take_length, pairs_length] at this
      exact this
    | succ d ih =>
      intro j hj h h1 h2
      have hlt : j < H.length := by omega
      simp only [heldAt, rdHld H j hlt, Bool.and_eq_true, Bool.not_eq_true'] at h
      obtain ⟨⟨a1, a2⟩, a3, a4⟩ := h
      have e : (H.take (j + 1)).map (fun y => (y.f0, y.f1)) = ((H.take j).map fun y => (y.f0, y.f1)) ++ [(H[j].f0, H[j].f1)] := by
        rw [List.take_succ_eq_append_getElem hlt, List.map_append]
        rfl
      refine ih (j + 1) (by omega) a4 ?_ ?_
      · rw [e, List.nodup_append]
        refine ⟨h1, by simp, fun z hz y hy he => ?_⟩
        rw [List.mem_singleton] at hy
        subst hy
        subst he
        rw [List.mem_map] at hz
        obtain ⟨q, hq, hqe⟩ := hz
        unfold hasH at a3
        rw [List.any_eq_false] at a3
        refine a3 q hq ?_
        injection hqe with e1 e2
        simp [e1, e2]
      · rw [e]
        intro z hz
        rw [List.mem_append, List.mem_singleton] at hz
        rcases hz with hz | rfl
        · exact h2 z hz
        · exact mem_pairs (inB_true.1 a1) (inB_true.1 a2)
  exact key H.length 0 (by omega) h (by simp) (by simp)
theorem concat3 (A B C : List Int) (hA : A.length ≤ 1048576) (hB : B.length ≤ 1048576) (hC : C.length ≤ 1048576) (k : Nat) (hk : 9 ≤ k) : slices_Concat_int_int.f k [A, B, C] = some (A ++ B ++ C) := by
  obtain ⟨k, rfl⟩ : ∃ m, k = m + 9 := ⟨k - 9, by omega⟩
  unfold slices_Concat_int_int.f
  have e0 : rd_L4 [A, B, C] 0 = A := rfl
  have e1 : rd_L4 [A, B, C] 1 = B := rfl
  have e2 : rd_L4 [A, B, C] 2 = C := rfl
  have w1 : wrap64 (0 + (A.length : Int)) = A.length := by rw [wrap_id] <;> omega
  have w2 : wrap64 ((A.length : Int) + (B.length : Int)) = (A.length : Int) + B.length := wrap_id (by omega) (by omega)
  have w3 : wrap64 ((A.length : Int) + (B.length : Int) + (C.length : Int)) = (A.length : Int) + B.length + C.length := wrap_id (by omega) (by omega)
  have v1 : wrap64 (0 + 1) = 1 := by rw [wrap_id (by omega) (by omega)]; rfl
  have v2 : wrap64 (1 + 1) = 2 := by rw [wrap_id (by omega) (by omega)]; rfl
  have v3 : wrap64 (2 + 1) = 3 := by rw [wrap_id (by omega) (by omega)]; rfl
  have hl : (([A, B, C] : List (List Int)).length : Int) = 3 := rfl
  rw [hl]
  rw [slices_Concat_int_int.l0, if_pos (by decide), if_pos (by decide), if_pos (by rw [hl]; decide), e0, w1, if_neg (by omega), v1]
  rw [slices_Concat_int_int.l0, if_pos (by decide), if_pos (by decide), if_pos (by rw [hl]; decide), e1, w2, if_neg (by omega), v2]
  rw [slices_Concat_int_int.l0, if_pos (by decide), if_pos (by decide), if_pos (by rw [hl]; decide), e2, w3, if_neg (by omega), v3]
  rw [slices_Concat_int_int.l0, if_neg (by decide)]
  unfold slices_Grow_int_int.f
  rw [if_pos ⟨rfl, by omega, by omega⟩, Option.bind_some, hl]
  rw [slices_Concat_int_int.l1, if_pos (by decide), if_pos (by decide), if_pos (by rw [hl]; decide), e0, if_pos (by simp; omega), v1]
  rw [slices_Concat_int_int.l1, if_pos (by decide), if_pos (by decide), if_pos (by rw [hl]; decide), e1, if_pos (by simp; omega), v2]
  rw [slices_Concat_int_int.l1, if_pos (by decide), if_pos (by decide), if_pos (by rw [hl]; decide), e2, if_pos (by simp; omega), v3]
  rw [slices_Concat_int_int.l1, if_neg (by decide)]
  rfl
theorem impl_each (L : List Int) (n : Nat) (hn : n ≤ 60) (hL : L.length ≤ 1048576) (k : Nat) (hk : L.length < k) : ∃ b, impl_isEachOnce.f k L (n : Int) = some b ∧ (b = true ↔ L.length = n ∧ L.Nodup ∧ ∀ x ∈ L, 1 ≤ x ∧ x ≤ (n : Int)) := by
  unfold impl_isEachOnce.f
  have hw : wrap64 ((n : Int) + 1) = ((n + 1 : Nat) : Int) := wrap_succ (n := 61) (by omega) (by omega)
  rw [hw, if_pos (by omega), if_pos (by omega), Int.toNat_natCast]
  have key : ∀ d k (j : Nat) (met : List Bool), j ≤ L.length → L.length - j = d → d < k → met.length = n + 1 → (∀ x : Nat, 1 ≤ x → x ≤ n → met.getD x false = decide ((x : Int) ∈ L.take j)) → (L.take j).Nodup → (∀ x ∈ L.take j, 1 ≤ x ∧ x ≤ (n : Int)) →
      ∃ b, impl_isEachOnce.l0 k L (n : Int) met L (L.length : Int) (j : Int) = some b ∧ (b = true ↔ L.length = n ∧ L.Nodup ∧ ∀ x ∈ L, 1 ≤ x ∧ x ≤ (n : Int)) := by
    intro d
    induction d with
    | zero =>
      intro k j met hj hd hk hml hm h1 h2
      obtain ⟨k, rfl⟩ : ∃ m, k = m + 1 := ⟨k - 1, by omega⟩
      obtain rfl : j = L.length := by omega
      rw [List.take_length] at h1 h2
      simp only [impl_isEachOnce.l0]
      rw [if_neg (by omega)]
      refine ⟨_, rfl, ?_⟩
      rw [beq_iff_eq]
      exact ⟨fun h => ⟨by omega, h1, h2⟩, fun h => by omega⟩
    | succ d ih =>
      intro k j met hj hd hk hml hm h1 h2
      obtain ⟨k, rfl⟩ : ∃ m, k = m + 1 := ⟨k - 1, by omega⟩
      have hlt : j < L.length := by omega
      have hsp : L = L.take j ++ L[j] :: L.drop (j + 1) := by rw [← List.drop_eq_getElem_cons hlt, List.take_append_drop]
      simp only [impl_isEachOnce.l0]
      rw [if_pos (by omega), if_pos (by omega), if_pos (by omega), rd_nat L j hlt, within, Option.bind_some, wrap_succ hlt (by omega)]
      by_cases c : inB L[j] 1 (n : Int) = true
      · have r := inB_true.1 c
        obtain ⟨x, hx⟩ : ∃ x : Nat, L[j] = (x : Int) := ⟨L[j].toNat, by omega⟩
        rw [if_pos c, hx, if_pos (by omega), if_pos (by omega), Int.toNat_natCast]
        have hr : rdOf false met (x : Int) = met.getD x false := by unfold rdOf; rw [Int.toNat_natCast]
        rw [hr, hm x (by omega) (by omega)]
        by_cases e : (x : Int) ∈ L.take j
        · rw [if_pos (by simpa using e)]
          refine ⟨false, rfl, ?_⟩
          simp only [Bool.false_eq_true, false_iff]
          rintro ⟨_, hN, _⟩
          rw [hsp, List.nodup_append] at hN
          exact hN.2.2 _ e _ (by rw [hx]; exact List.mem_cons_self) rfl
        · rw [if_neg (by simpa using e)]
          have et : L.take (j + 1) = L.take j ++ [(x : Int)] := by rw [List.take_succ_eq_append_getElem hlt, hx]
          refine ih k (j + 1) (met.set x true) (by omega) (by omega) (by omega) (by rw [List.length_set, hml]) (fun y hy1 hy2 => ?_) ?_ ?_
          · rw [List.getD_eq_getElem?_getD, List.getElem?_set, et]
            by_cases exy : x = y
            · subst exy
              rw [if_pos rfl, if_pos (by omega)]
              simp
            · have := hm y hy1 hy2
              rw [List.getD_eq_getElem?_getD] at this
              rw [if_neg exy, this]
              refine decide_eq_decide.2 ?_
              rw [List.mem_append, List.mem_singleton]
              exact ⟨.inl, fun h => h.resolve_right fun e => exy (by omega)⟩
          · rw [et, List.nodup_append]
            exact ⟨h1, by simp, fun a ha b hb hab => by rw [List.mem_singleton] at hb; subst hb; subst hab; exact e ha⟩
          · rw [et]
            intro y hy
            rw [List.mem_append, List.mem_singleton] at hy
            rcases hy with hy | rfl
            · exact h2 y hy
            · omega
      · rw [if_neg c]
        refine ⟨false, rfl, ?_⟩
        simp only [Bool.false_eq_true, false_iff]
        rintro ⟨_, _, hR⟩
        exact c (inB_true.2 (hR _ (List.getElem_mem hlt)))
  exact key L.length k 0 (List.replicate (n + 1) false) (Nat.zero_le _) (by omega) hk (by simp) (fun x h1 h2 => by
    rw [List.getD_eq_getElem?_getD, List.getElem?_replicate, if_pos (by omega)]
    simp) (by simp) (by simp)
/-- Is a bench valid? -/
def benchB (A : List Int) (H : List Hld) (B C : List Int) (n : Int) : Bool :=
  inB n 1 61 && (decide ((A.length : Int) + B.length + C.length = n - 1) && (decide (H.length ≤ 300) && (ascB A && (eachAt A B C (n - 1).toNat 1 && heldAt (n - 1) H H.length 0))))
theorem spec_benchOk (A : List Int) (H : List Hld) (B C : List Int) (n : Int) (hA : A.length ≤ 1048576) (hB : B.length ≤ 1048576) (hC : C.length ≤ 1048576) (k : Nat) (hk : 200000 ≤ k) : spec_BenchOk.f k A H B C n = some (benchB A H B C n) := by
  unfold spec_BenchOk.f benchB
  obtain ⟨k, rfl⟩ : ∃ m, k = m + 1 := ⟨k - 1, by omega⟩
  rw [l01In, Option.bind_some, wrap_id (x := (A.length : Int) + B.length) (by omega) (by omega), wrap_id (x := (A.length : Int) + B.length + C.length) (by omega) (by omega)]
  by_cases h1 : inB n 1 61 = true
  · have r := inB_true.1 h1
    rw [if_pos h1, h1, Bool.true_and, wrap_id (x := n - 1) (by omega) (by omega)]
    by_cases h2 : (A.length : Int) + B.length + C.length = n - 1
    · rw [if_pos h2, decide_eq_true h2, Bool.true_and]
      simp only [spec_BenchOk.j0]
      by_cases h3 : H.length ≤ 300
      · obtain ⟨m, rfl⟩ : ∃ m : Nat, n = ((m + 1 : Nat) : Int) := ⟨(n - 1).toNat, by omega⟩
        have em : (((m + 1 : Nat) : Int) - 1).toNat = m := by omega
        rw [decide_eq_true h3, Bool.true_and, if_neg (by simp; omega), em]
        have hl2 : ∀ k, 100000 ≤ k → spec_BenchOk.l2 k 0 A H B C ((m + 1 : Nat) : Int) = some (heldAt (((m + 1 : Nat) : Int) - 1) H H.length 0) := fun k hk => spec_held A H B C _ (by omega) h3 k (by omega)
        have hl1 := fun k (hk : 100400 ≤ k) => spec_each A H B C m (by omega) (by omega) (by omega) (by omega) _ 100000 hl2 k (by omega)
        rw [spec_asc A H B C _ hA _ 100400 hl1 k (by omega)]
        cases ascB A <;> cases eachAt A B C m 1 <;> simp
      · rw [decide_eq_false h3, if_pos (by simp; omega)]
        rfl
    · rw [if_neg h2, decide_eq_false h2]
      simp [spec_BenchOk.j0]
  · rw [if_neg h1]
    simp [h1, spec_BenchOk.j0]
theorem impl_benchOk (A : List Int) (H : List Hld) (B C : List Int) (n : Int) (hs : A.length + B.length + C.length ≤ 1048576) (hH : H.length ≤ 1048576) (k : Nat) (hk : 2 * H.length + (A.length + B.length + C.length) + 20 ≤ k) : impl_BenchOk.f k A H B C n = some (benchB A H B C n) := by
  unfold impl_BenchOk.f benchB
  obtain ⟨k, rfl⟩ : ∃ m, k = m + 1 := ⟨k - 1, by omega⟩
  rw [within, Option.bind_some]
  by_cases h1 : inB n 1 61 = true
  · have r := inB_true.1 h1
    rw [if_pos h1, h1, Bool.true_and, impl_asc A (by omega) _ (by omega), Option.bind_some, concat3 A B C (by omega) (by omega) (by omega) _ (by omega), wrap_id (x := n - 1) (by omega) (by omega)]
    obtain ⟨m, rfl⟩ : ∃ m : Nat, n = ((m + 1 : Nat) : Int) := ⟨(n - 1).toNat, by omega⟩
    have em : ((m + 1 : Nat) : Int) - 1 = (m : Int) := by omega
    rw [em, Int.toNat_natCast]
    obtain ⟨b, hb, hiff⟩ := impl_each (A ++ B ++ C) m (by omega) (by simp; omega) (k + 1) (by simp; omega)
    have hd := impl_held A H B C ((m + 1 : Nat) : Int) (by omega) hH k (by omega)
    rw [em] at hd
    have hlen : (A ++ B ++ C).length = A.length + B.length + C.length := by simp; omega
    by_cases eA : ascB A = true
    · rw [if_pos eA, Option.bind_some, hb, Option.bind_some, impl_BenchOk.j0, hd, eA, Bool.true_and]
      by_cases h2 : (A.length : Int) + B.length + C.length = (m : Int)
      · have hbe : b = eachAt A B C m 1 := by
          rw [Bool.eq_iff_iff, hiff, eachAt_iff]
          have h3 := three_iff (n := m) (A := A) (B := B) (C := C) (by omega)
          constructor
          · rintro ⟨_, q1, q2⟩ x x1 x2
            exact h3.2 ⟨q1, q2⟩ x (by omega) (by omega)
          · intro q
            exact ⟨by omega, h3.1 fun x x1 x2 => q x (by omega) (by omega)⟩
        rw [hbe, decide_eq_true h2, Bool.true_and]
        cases eE : eachAt A B C m 1
        · rw [if_pos (by decide), Bool.false_and, Bool.and_false]
        · rw [if_neg (by decide), Bool.true_and]
          cases eH : heldAt (m : Int) H H.length 0
          · rw [Bool.and_false]
          · have := held_few m H eH
            rw [decide_eq_true (show H.length ≤ 300 by omega), Bool.true_and]
      · have hbf : b = false := by
          rw [Bool.eq_false_iff]
          intro hbt
          have := (hiff.1 hbt).1
          omega
        rw [hbf, decide_eq_false h2, Bool.false_and]
        rfl
    · rw [if_neg eA, impl_BenchOk.j0, if_pos rfl, Bool.eq_false_iff.mpr eA, Bool.false_and, Bool.and_false, Bool.and_false]
  · rw [if_neg h1]
    simp [h1, impl_BenchOk.j0]
theorem benchB_facts {A : List Int} {H : List Hld} {B C : List Int} {n : Int} (h : benchB A H B C n = true) : A.length ≤ 60 ∧ B.length ≤ 60 ∧ C.length ≤ 60 ∧ H.length ≤ 300 := by
  unfold benchB at h
  simp only [Bool.and_eq_true, decide_eq_true_eq] at h
  have r := inB_true.1 h.1
  exact ⟨by omega, by omega, by omega, h.2.2.1⟩

/-- The copy of a hold that came in. -/
def cpHold (x : Hld0) : Hld := ⟨x.f0, x.f1⟩
theorem toHoldS (l : List Hld0) (k : Nat) (hl : l.length ≤ 1048576) (hk : l.length < k) : laws_toHoldS.f k l = some (l.map cpHold) := by
  unfold laws_toHoldS.f
  rw [if_pos (by omega), if_pos (by omega), Int.toNat_natCast]
  exact fill_loop l cpHold z123 (fun k out i => laws_toHoldS.l0 k l out i) (fun k out j h ho => by
    simp only [laws_toHoldS.l0, laws_toHold.f, Option.bind_some]
    rw [if_pos (by omega), if_pos (by omega), if_pos (by omega), show rd_T194 l (j : Int) = l[j] from getD_nat _ l j h, wrap_succ h (by omega), Int.toNat_natCast]
    rfl) (fun k out => by
    simp only [laws_toHoldS.l0]
    rw [if_neg (by omega)]) k hk
theorem szHoldS (l : List Hld0) (a : Int) (hl : Len l) (h0 : 0 ≤ a) (h1 : a ≤ 1048576) : laws_szHoldS.f l a = some (if l.length ≤ a then a - l.length else -1) := by
  unfold laws_szHoldS.f
  have hl' : l.length ≤ 9223372036854775807 := hl
  rw [wrap_id (x := a - (l.length : Int)) (by omega) (by omega)]
  by_cases c : (l.length : Int) ≤ a
  · rw [if_neg (by omega), if_pos c]
  · rw [if_pos (by omega), if_neg c]
theorem eqHoldS_same (l : List Hld) (hl : Len l) (k : Nat) (hk : l.length < k) : laws_eqHoldS.f k l l = some true := by
  unfold laws_eqHoldS.f
  have hl' : l.length ≤ 9223372036854775807 := hl
  rw [if_pos rfl]
  have := loop_all l (fun _ => true) (fun k i => laws_eqHoldS.l0 k l l i) (fun k j hj => by
    simp only [laws_eqHoldS.l0, laws_eqHold.f]
    rw [if_pos (by omega), if_pos (by omega), if_pos (by omega), wrap_succ hj hl']
    simp) (fun k => by
    simp only [laws_eqHoldS.l0]
    rw [if_neg (by omega)]) k hk
  rw [this]
  simp
theorem toBench (A : List Int) (H : List Hld0) (B C : List Int) (n : Int) (k : Nat) (hA : A.length ≤ 1048576) (hH : H.length ≤ 1048576) (hB : B.length ≤ 1048576) (hC : C.length ≤ 1048576) (hk : 1048576 < k) : laws_toBench.f k A H B C n = some (A, H.map cpHold, B, C, n) := by
  unfold laws_toBench.f
  rw [toIntS A k hA (by omega), toHoldS H k hH (by omega), toIntS B k hB (by omega), toIntS C k hC (by omega)]
  rfl
theorem szBench (A : List Int) (H : List Hld0) (B C : List Int) (n : Int) (hA : Len A) (hH : Len H) (hB : Len B) (hC : Len C) :
    ∃ m, laws_szBench.f A H B C n 1048576 = some m ∧ (m < 0 ∨ A.length + H.length + B.length + C.length ≤ 1048576) := by
  unfold laws_szBench.f
  rw [szIntS A _ hA (by omega) (by omega), Option.bind_some]
  by_cases c1 : (A.length : Int) ≤ 1048576
  · rw [if_pos c1, if_neg (by omega), szHoldS H _ hH (by omega) (by omega), Option.bind_some]
    by_cases c2 : (H.length : Int) ≤ 1048576 - A.length
    · rw [if_pos c2, if_neg (by omega), szIntS B _ hB (by omega) (by omega), Option.bind_some]
      by_cases c3 : (B.length : Int) ≤ 1048576 - A.length - H.length
      · rw [if_pos c3, if_neg (by omega), szIntS C _ hC (by omega) (by omega), Option.bind_some]
        by_cases c4 : (C.length : Int) ≤ 1048576 - A.length - H.length - B.length
        · rw [if_pos c4, if_neg (by omega)]
          exact ⟨_, rfl, .inr (by omega)⟩
        · rw [if_neg c4, if_pos (by omega)]
          exact ⟨-1, rfl, .inl (by omega)⟩
      · rw [if_neg c3, if_pos (by omega)]
        exact ⟨-1, rfl, .inl (by omega)⟩
    · rw [if_neg c2, if_pos (by omega)]
      exact ⟨-1, rfl, .inl (by omega)⟩
  · rw [if_neg c1, if_pos (by omega)]
    exact ⟨-1, rfl, .inl (by omega)⟩
theorem eqBench_same (A : List Int) (H : List Hld) (B C : List Int) (n : Int) (k : Nat) (hA : A.length ≤ 1048576) (hH : H.length ≤ 1048576) (hB : B.length ≤ 1048576) (hC : C.length ≤ 1048576) (hk : 1048576 < k) : laws_eqBench.f k A H B C n A H B C n = some true := by
  unfold laws_eqBench.f
  rw [eqIntS A A (by show _ ≤ _; omega) k (by omega), eqHoldS_same H (by show _ ≤ _; omega) k (by omega), eqIntS B B (by show _ ≤ _; omega) k (by omega), eqIntS C C (by show _ ≤ _; omega) k (by omega)]
  simp

end Go.Proofs.Ytpcfcdnmpginhaa.Pure
