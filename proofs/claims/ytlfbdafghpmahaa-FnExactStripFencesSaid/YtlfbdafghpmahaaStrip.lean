/- A program without its fences: the program's StripFences and the reference's. No condition but that lengths are lengths. -/
import Derived.Test.YtlfbdafghpmahaaV2
import Derived.Test.YtlfbdafghpmahaaFix
import Derived.Test.YtlfbdafghpmahaaPimplStripFences
import Derived.Test.YtlfbdafghpmahaaPspecStripFences
namespace Go.Proofs.Ytlfbdafghpmahaa.Pure
open Go.RowKit Go.Proofs.Ytlfbdafghpmahaa.P Go.Proofs.Ytlfbdafghpmahaa.Gen Go.Proofs.YtlfbdafghpmahaaW.PrintWords

def stepF (s : List Ins × List Int) (x : Ins) : List Ins × List Int := (if x.f0 = 4 then s.1 else s.1 ++ [x], s.2 ++ [(s.1.length : Int)])
def runF (q : List Ins) : List Ins × List Int := q.foldl stepF ([], [])
def stripV (q : List Ins) : List Ins := (runF q).1.map (fixI ((runF q).2 ++ [((runF q).1.length : Int)]))
theorem stepF_inv (q : List Ins) : ∀ s : List Ins × List Int, (q.foldl stepF s).1.length ≤ s.1.length + q.length ∧ (q.foldl stepF s).2.length = s.2.length + q.length ∧ ∀ x ∈ (q.foldl stepF s).1, x ∈ s.1 ∨ x ∈ q := by
  induction q with
  | nil => intro s; exact ⟨by simp, by simp, fun x h => .inl h⟩
  | cons y q ih =>
    intro s
    obtain ⟨h1, h2, h3⟩ := ih (stepF s y)
    have l1 : (stepF s y).1.length ≤ s.1.length + 1 := by unfold stepF; split <;> simp
    have l2 : (stepF s y).2.length = s.2.length + 1 := by unfold stepF; simp
    refine ⟨by simp only [List.foldl_cons, List.length_cons]; omega, by simp only [List.foldl_cons, List.length_cons]; omega, fun x hx => ?_⟩
    rcases h3 x hx with h | h
    · unfold stepF at h
      split at h
      · exact .inl h
      · rcases List.mem_append.1 h with h | h
        · exact .inl h
        · exact .inr (by simp at h; simp [h])
    · exact .inr (List.mem_cons_of_mem _ h)
theorem runF_facts (q : List Ins) : (runF q).1.length ≤ q.length ∧ (runF q).2.length = q.length ∧ ∀ x ∈ (runF q).1, x ∈ q := by
  obtain ⟨h1, h2, h3⟩ := stepF_inv q ([], [])
  refine ⟨by simpa [runF] using h1, by simpa [runF] using h2, fun x hx => ?_⟩
  rcases h3 x hx with h | h
  · cases h
  · exact h
theorem stripV_len (q : List Ins) : (stripV q).length ≤ q.length := by
  have := (runF_facts q).1
  simpa [stripV] using this
theorem impl_strip_fix (out : List Ins) (p : List Int) (n : Nat) (hn : n ≤ 16) (ho : out.length ≤ n) (hp : p.length = n + 1) (hj : ∀ x ∈ out, x.f0 = 6 → 0 ≤ x.f3 ∧ x.f3 ≤ n) :
    ∀ d k (i : Nat), i ≤ out.length → out.length - i = d → d < k → impl_stripped.l1 k (fixed out p i) p (out.length : Int) (i : Int) = some (out.map (fixI p)) := by
  intro d
  induction d with
  | zero =>
    intro k i hi hd hk
    obtain ⟨k, rfl⟩ : ∃ m, k = m + 1 := ⟨k - 1, by omega⟩
    obtain rfl : i = out.length := by omega
    simp only [impl_stripped.l1]
    rw [if_neg (by omega), fixed_all]
  | succ d ih =>
    intro k i hi hd hk
    obtain ⟨k, rfl⟩ : ∃ m, k = m + 1 := ⟨k - 1, by omega⟩
    have hlt : i < out.length := by omega
    have hl := fixed_len out p i (by omega)
    have hx := hj out[i] (List.getElem_mem hlt)
    simp only [impl_stripped.l1]
    rw [fixed_get out p i hlt, if_pos (by omega), if_pos (by omega), if_pos (by omega), wrap_succ hlt (by omega), Int.toNat_natCast]
    by_cases o6 : out[i].f0 = 6
    · have := hx o6
      rw [if_pos o6, if_pos (by omega), if_pos (by omega), fixed_next out p i hlt _ (by unfold fixI; rw [if_pos o6])]
      exact ih k (i + 1) (by omega) (by omega) (by omega)
    · rw [if_neg o6, fixed_skip out p i hlt o6]
      exact ih k (i + 1) (by omega) (by omega) (by omega)
theorem impl_stripped (q : List Ins) (hn : q.length ≤ 16) (hj : ∀ x ∈ q, x.f0 = 6 → 0 ≤ x.f3 ∧ x.f3 ≤ q.length) (k : Nat) (hk : 60 ≤ k) : impl_stripped.f k q = some (stripV q) := by
  obtain ⟨f1, f2, f3⟩ := runF_facts q
  unfold impl_stripped.f
  have key : ∀ d k (j : Nat) (s : List Ins × List Int), j ≤ q.length → q.length - j = d → s.1.length ≤ j → s.2.length = j → (q.drop j).foldl stepF s = runF q → d + 40 < k → impl_stripped.l0 k q s.1 s.2 (q.length : Int) (j : Int) = some (stripV q) := by
    intro d
    induction d with
    | zero =>
      intro k j s hj' hd h1 h2 hr hk
      obtain ⟨k, rfl⟩ : ∃ m, k = m + 1 := ⟨k - 1, by omega⟩
      obtain rfl : j = q.length := by omega
      rw [List.drop_length] at hr
      have hs : s = runF q := hr
      subst hs
      simp only [impl_stripped.l0]
      rw [if_neg (by omega), if_pos (by omega)]
      have := impl_strip_fix (runF q).1 ((runF q).2 ++ [((runF q).1.length : Int)]) q.length hn f1 (by simp [f2]) (fun x hx => hj x (f3 x hx)) (runF q).1.length k 0 (Nat.zero_le _) (by omega) (by omega)
      rw [fixed_zero] at this
      exact this
    | succ d ih =>
      intro k j s hj' hd h1 h2 hr hk
      obtain ⟨k, rfl⟩ : ∃ m, k = m + 1 := ⟨k - 1, by omega⟩
      have hlt : j < q.length := by omega
      rw [List.drop_eq_getElem_cons hlt, List.foldl_cons] at hr
      simp only [impl_stripped.l0, Option.bind_some, eta_]
      rw [rdIns q j hlt, if_pos (by omega), if_pos (by omega), if_pos (by omega), if_pos (by omega), wrap_succ hlt (by omega)]
      have l1 : (stepF s q[j]).1.length ≤ s.1.length + 1 := by unfold stepF; split <;> simp
      have l2 : (stepF s q[j]).2.length = s.2.length + 1 := by unfold stepF; simp
      have := ih k (j + 1) (stepF s q[j]) (by omega) (by omega) (by omega) (by omega) hr (by omega)
      by_cases c : q[j].f0 = 4
      · rw [if_pos c]
        unfold stepF at this
        rw [if_pos c] at this
        exact this
      · rw [if_neg c, if_pos (by omega)]
        unfold stepF at this
        rw [if_neg c] at this
        exact this
  exact key q.length k 0 ([], []) (Nat.zero_le _) (by omega) (by simp) rfl rfl (by omega)
theorem impl_strips (c : Int) (l : List (List Ins)) (hl : l.length ≤ 3) (hc : ∀ q ∈ l, codeB c q = true) : ∀ d k (i : Nat), i ≤ l.length → l.length - i = d → d + 60 < k →
    impl_StripFences.l0 k l (l.length : Int) (i : Int) c ((l.take i).map stripV) = some (c, l.map stripV, true) := by
  intro d
  induction d with
  | zero =>
    intro k i hi hd hk
    obtain ⟨k, rfl⟩ : ∃ m, k = m + 1 := ⟨k - 1, by omega⟩
    obtain rfl : i = l.length := by omega
    simp only [impl_StripFences.l0]
    rw [if_neg (by omega), List.take_length]
  | succ d ih =>
    intro k i hi hd hk
    obtain ⟨k, rfl⟩ : ∃ m, k = m + 1 := ⟨k - 1, by omega⟩
    have hlt : i < l.length := by omega
    have e := rdCode l i hlt
    have hq := hc _ (List.getElem_mem hlt)
    simp only [impl_StripFences.l0, rd_L5, e]
    rw [if_pos (by omega), if_pos (by omega), if_pos (by omega), impl_stripped l[i] (code_len hq) (jumps hq) k (by omega), Option.bind_some, if_pos (by simp; omega), wrap_succ hlt (by omega)]
    have := ih k (i + 1) (by omega) (by omega) (by omega)
    rw [List.take_succ_eq_append_getElem hlt, List.map_append] at this
    exact this
/-- What both come to. -/
def stripsV (c : Int) (l : List (List Ins)) : Int × List (List Ins) × Bool := if progB c l = true then (c, l.map stripV, true) else (0, [], false)
theorem progB_codes {c : Int} {l : List (List Ins)} (h : progB c l = true) : ∀ q ∈ l, codeB c q = true := by
  unfold progB at h
  simp only [Bool.and_eq_true, List.all_eq_true] at h
  exact h.2.2
theorem impl_strip (c : Int) (l : List (List Ins)) (k : Nat) (hk : 100 ≤ k) : impl_StripFences.f k c l = some (stripsV c l) := by
  unfold impl_StripFences.f stripsV
  rw [impl_progOk, Option.bind_some]
  by_cases h : progB c l = true
  · rw [if_pos h, if_pos h]
    obtain ⟨_, h2, _⟩ := progB_facts h
    have := impl_strips c l (by omega) (progB_codes h) l.length k 0 (Nat.zero_le _) (by omega) (by omega)
    simpa using this
  · rw [if_neg h, if_neg h]
theorem spec_strip_fix (c : Int) (l acc : List (List Ins)) (t : Nat) (out : List Ins) (p : List Int) (n : Nat) (hn : n ≤ 16) (ha : acc.length ≤ 3) (ht : t < 3) (ho : out.length ≤ n) (hp : p.length = n + 1) (hj : ∀ x ∈ out, x.f0 = 6 → 0 ≤ x.f3 ∧ x.f3 ≤ n) (R : Option (Int × List (List Ins) × Bool)) (K : Nat)
    (hR : ∀ k, K ≤ k → spec_StripFences.l0 k ((t + 1 : Nat) : Int) c l c (acc ++ [out.map (fixI p)]) = R) :
    ∀ d k (i : Nat), i ≤ out.length → out.length - i = d → K + d < k → spec_StripFences.l2 k (t : Int) (fixed out p i) p (i : Int) c l c acc = R := by
  intro d
  induction d with
  | zero =>
    intro k i hi hd hk
    obtain ⟨k, rfl⟩ : ∃ m, k = m + 1 := ⟨k - 1, by omega⟩
    obtain rfl : i = out.length := by omega
    simp only [spec_StripFences.l2]
    rw [fixed_len out p _ (Nat.le_refl _), if_neg (by omega), if_pos (by omega), fixed_all, wrap_succ ht (by omega)]
    exact hR k (by omega)
  | succ d ih =>
    intro k i hi hd hk
    obtain ⟨k, rfl⟩ : ∃ m, k = m + 1 := ⟨k - 1, by omega⟩
    have hlt : i < out.length := by omega
    have hl := fixed_len out p i (by omega)
    have hx := hj out[i] (List.getElem_mem hlt)
    simp only [spec_StripFences.l2]
    rw [fixed_get out p i hlt, if_pos (by omega), if_pos (by omega), wrap_succ hlt (by omega), Int.toNat_natCast]
    by_cases o6 : out[i].f0 = 6
    · have := hx o6
      rw [if_pos o6, if_pos (by omega), if_pos (by omega), fixed_next out p i hlt _ (by unfold fixI; rw [if_pos o6])]
      exact ih k (i + 1) (by omega) (by omega) (by omega)
    · rw [if_neg o6, fixed_skip out p i hlt o6]
      exact ih k (i + 1) (by omega) (by omega) (by omega)
theorem spec_strip_one (c : Int) (l acc : List (List Ins)) (t : Nat) (ht : t < l.length) (hl : l.length ≤ 3) (ha : acc.length ≤ 3) (hn : l[t].length ≤ 16) (hj : ∀ x ∈ l[t], x.f0 = 6 → 0 ≤ x.f3 ∧ x.f3 ≤ l[t].length) (R : Option (Int × List (List Ins) × Bool)) (K : Nat)
    (hR : ∀ k, K ≤ k → spec_StripFences.l0 k ((t + 1 : Nat) : Int) c l c (acc ++ [stripV l[t]]) = R) :
    ∀ d k (j : Nat) (s : List Ins × List Int), j ≤ l[t].length → l[t].length - j = d → s.1.length ≤ j → s.2.length = j → (l[t].drop j).foldl stepF s = runF l[t] → K + d + 20 < k → spec_StripFences.l1 k (t : Int) s.1 s.2 (j : Int) c l c acc = R := by
  obtain ⟨f1, f2, f3⟩ := runF_facts l[t]
  have e := rdCode l t ht
  intro d
  induction d with
  | zero =>
    intro k j s hj' hd h1 h2 hr hk
    obtain ⟨k, rfl⟩ : ∃ m, k = m + 1 := ⟨k - 1, by omega⟩
    obtain rfl : j = l[t].length := by omega
    rw [List.drop_length] at hr
    have hs : s = runF l[t] := hr
    subst hs
    simp only [spec_StripFences.l1, rd_L5, e]
    rw [if_pos (by omega), if_pos (by omega), if_neg (by omega), if_pos (by omega)]
    have := spec_strip_fix c l acc t (runF l[t]).1 ((runF l[t]).2 ++ [((runF l[t]).1.length : Int)]) l[t].length hn ha (by omega) f1 (by simp [f2]) (fun x hx => hj x (f3 x hx)) R K hR (runF l[t]).1.length k 0 (Nat.zero_le _) (by omega) (by omega)
    rw [fixed_zero] at this
    exact this
  | succ d ih =>
    intro k j s hj' hd h1 h2 hr hk
    obtain ⟨k, rfl⟩ : ∃ m, k = m + 1 := ⟨k - 1, by omega⟩
    have hlt : j < l[t].length := by omega
    rw [List.drop_eq_getElem_cons hlt, List.foldl_cons] at hr
    simp only [spec_StripFences.l1, Option.bind_some, eta_, rd_L5, e]
    rw [rdIns l[t] j hlt, if_pos (by omega), if_pos (by omega), if_pos (by omega), if_pos (by omega), if_pos (by omega), wrap_succ hlt (by omega)]
    have l1 : (stepF s l[t][j]).1.length ≤ s.1.length + 1 := by unfold stepF; split <;> simp
    have l2 : (stepF s l[t][j]).2.length = s.2.length + 1 := by unfold stepF; simp
    have := ih k (j + 1) (stepF s l[t][j]) (by omega) (by omega) (by omega) (by omega) hr (by omega)
    by_cases c4 : l[t][j].f0 = 4
    · rw [if_pos c4]
      unfold stepF at this
      rw [if_pos c4] at this
      exact this
    · rw [if_neg c4, if_pos (by omega)]
      unfold stepF at this
      rw [if_neg c4] at this
      exact this
theorem spec_strips (c : Int) (l : List (List Ins)) (hl : l.length ≤ 3) (hc : ∀ q ∈ l, codeB c q = true) : ∀ d k (i : Nat), i ≤ l.length → l.length - i = d → d * 60 < k →
    spec_StripFences.l0 k (i : Int) c l c ((l.take i).map stripV) = some (c, l.map stripV, true) := by
  intro d
  induction d with
  | zero =>
    intro k i hi hd hk
    obtain ⟨k, rfl⟩ : ∃ m, k = m + 1 := ⟨k - 1, by omega⟩
    obtain rfl : i = l.length := by omega
    simp only [spec_StripFences.l0]
    rw [if_neg (by omega), List.take_length]
  | succ d ih =>
    intro k i hi hd hk
    obtain ⟨k, rfl⟩ : ∃ m, k = m + 1 := ⟨k - 1, by omega⟩
    have hlt : i < l.length := by omega
    have hq := hc _ (List.getElem_mem hlt)
    have h16 := code_len hq
    simp only [spec_StripFences.l0]
    rw [if_pos (by omega)]
    have := spec_strip_one c l ((l.take i).map stripV) i hlt hl (by simp; omega) h16 (jumps hq) (some (c, l.map stripV, true)) (d * 60 + 1) (fun k hk => by
      have := ih k (i + 1) (by omega) (by omega) (by omega)
      rw [List.take_succ_eq_append_getElem hlt, List.map_append] at this
      exact this) l[i].length k 0 ([], []) (Nat.zero_le _) (by omega) (by simp) rfl rfl (by omega)
    exact this
theorem spec_strip (c : Int) (l : List (List Ins)) (k : Nat) (hk : 200 ≤ k) : spec_StripFences.f k c l = some (stripsV c l) := by
  unfold spec_StripFences.f stripsV
  rw [spec_progOk c l k (by omega), Option.bind_some]
  by_cases h : progB c l = true
  · rw [if_pos h, if_pos h]
    obtain ⟨_, h2, _⟩ := progB_facts h
    have := spec_strips c l (by omega) (progB_codes h) l.length k 0 (Nat.zero_le _) (by omega) (by omega)
    simpa using this
  · rw [if_neg h, if_neg h]
theorem stripsV_small (c : Int) (l : List (List Ins)) : (stripsV c l).2.1.length ≤ 3 ∧ ∀ q ∈ (stripsV c l).2.1, q.length ≤ 16 := by
  unfold stripsV
  by_cases h : progB c l = true
  · rw [if_pos h]
    obtain ⟨_, h2, h3⟩ := progB_facts h
    refine ⟨by simp; omega, fun q hq => ?_⟩
    simp only [List.mem_map] at hq
    obtain ⟨x, hx, rfl⟩ := hq
    have := stripV_len x
    have := h3 x hx
    omega
  · rw [if_neg h]
    exact ⟨by simp, fun q hq => by cases hq⟩

end Go.Proofs.Ytlfbdafghpmahaa.Pure
