/- A program with fences at spots: the program's PutFences and the reference's. No condition but that lengths are lengths. -/
import Derived.Test.YtlfbdafghpmahaaV2
import Derived.Test.YtlfbdafghpmahaaFix
import Derived.Test.YtlfbdafghpmahaaSpots
import Derived.Test.YtlfbdafghpmahaaPimplPutFences
import Derived.Test.YtlfbdafghpmahaaPspecPutFences
namespace Go.Proofs.Ytlfbdafghpmahaa.Pure
open Go.RowKit Go.Proofs.Ytlfbdafghpmahaa.P Go.Proofs.Ytlfbdafghpmahaa.Gen Go.Proofs.YtlfbdafghpmahaaW.PrintWords
set_option linter.unusedSimpArgs false
set_option linter.unusedVariables false

def fenceP : Ins := ⟨4, 0, 0, 0⟩
/-- Is there a fence to put at place i? -/
def wstep (q : List Ins) (has : Nat → Bool) (s : List Ins × List Int) (i : Nat) : List Ins × List Int :=
 ((if has i = true then s.1 ++ [fenceP] else s.1) ++ (if i < q.length then [rd_T82 q (i : Int)] else []), s.2 ++ [(s.1.length : Int)])
def wrun (q : List Ins) (has : Nat → Bool) : Nat → Nat → List Ins × List Int → List Ins × List Int
 | 0, _, s => s
 | d + 1, i, s => wrun q has d (i + 1) (wstep q has s i)
def putV (q : List Ins) (has : Nat → Bool) : List Ins := (wrun q has (q.length + 1) 0 ([], [])).1.map (fixI (wrun q has (q.length + 1) 0 ([], [])).2)
theorem wstep_facts (q : List Ins) (has : Nat → Bool) (s : List Ins × List Int) (i : Nat) : (wstep q has s i).1.length ≤ s.1.length + 2 ∧ (wstep q has s i).2.length = s.2.length + 1 ∧ ∀ x ∈ (wstep q has s i).1, x ∈ s.1 ∨ x = fenceP ∨ x ∈ q := by
 unfold wstep
 refine ⟨?_, by simp, fun x hx => ?_⟩
 ·simp only
  rw [List.length_append]
  have h1 : (if has i = true then s.1 ++ [fenceP] else s.1).length ≤ s.1.length + 1 := by split <;> simp
  have h2 : (if i < q.length then [rd_T82 q (i : Int)] else []).length ≤ 1 := by split <;> simp
  omega
 ·simp only at hx
  rcases List.mem_append.1 hx with h | h
  ·split at h
   ·rcases List.mem_append.1 h with h | h
    ·exact .inl h
    ·exact .inr (.inl (by simpa using h))
   ·exact .inl h
  ·split at h
   ·next hi =>
    have e : x = rd_T82 q (i : Int) := by simpa using h
    rw [e, rdIns q i hi]
    exact .inr (.inr (List.getElem_mem hi))
   ·cases h
theorem wrun_facts (q : List Ins) (has : Nat → Bool) : ∀ d i s, (wrun q has d i s).1.length ≤ s.1.length + 2 * d ∧ (wrun q has d i s).2.length = s.2.length + d ∧ ∀ x ∈ (wrun q has d i s).1, x ∈ s.1 ∨ x = fenceP ∨ x ∈ q := by
 intro d
 induction d with
 | zero => intro i s; exact ⟨by simp [wrun], by simp [wrun], fun x h => .inl h⟩
 | succ d ih =>
  intro i s
  obtain ⟨h1, h2, h3⟩ := ih (i + 1) (wstep q has s i)
  obtain ⟨f1, f2, f3⟩ := wstep_facts q has s i
  refine ⟨by simp only [wrun]; omega, by simp only [wrun]; omega, fun x hx => ?_⟩
  rcases h3 x hx with h | h
  ·exact f3 x h
  ·exact .inr h
theorem out_jumps (q : List Ins) (has : Nat → Bool) (hj : ∀ x ∈ q, x.f0 = 6 → 0 ≤ x.f3 ∧ x.f3 ≤ q.length) : ∀ x ∈ (wrun q has (q.length + 1) 0 ([], [])).1, x.f0 = 6 → 0 ≤ x.f3 ∧ x.f3 ≤ q.length := by
 intro x hx h6
 rcases (wrun_facts q has (q.length + 1) 0 ([], [])).2.2 x hx with h | h | h
 ·cases h
 ·subst h
  exact absurd h6 (by decide)
 ·exact hj x h h6
theorem contains_at (l : List Int) (v : Int) (hl : l.length ≤ 1048576) : ∀ d k (j : Nat), j ≤ l.length → l.length - j = d → d < k → ∃ t, slices_Index_int_int.l0 k l v (l.length : Int) (j : Int) = some t ∧ (0 ≤ t ↔ v ∈ l.drop j) := by
 intro d
 induction d with
 | zero =>
  intro k j hj hd hk
  obtain ⟨k, rfl⟩ : ∃ m, k = m + 1 := ⟨k - 1, by omega⟩
  simp only [slices_Index_int_int.l0]
  rw [if_neg (by omega), List.drop_of_length_le (by omega)]
  exact ⟨-1, rfl, by simp⟩
 | succ d ih =>
  intro k j hj hd hk
  obtain ⟨k, rfl⟩ : ∃ m, k = m + 1 := ⟨k - 1, by omega⟩
  have hlt : j < l.length := by omega
  simp only [slices_Index_int_int.l0]
  rw [if_pos (by omega), if_pos (by omega), if_pos (by omega), rd_nat l j hlt, List.drop_eq_getElem_cons hlt, wrap_succ hlt (by omega)]
  by_cases c : v = l[j]
  ·rw [if_pos c]
   exact ⟨_, rfl, ⟨fun _ => by rw [c]; exact List.mem_cons_self .., fun _ => by omega⟩⟩
  rw [if_neg c]
  obtain ⟨t, h1, h2⟩ := ih k (j + 1) (by omega) (by omega) (by omega)
  exact ⟨t, h1, h2.trans ⟨List.mem_cons_of_mem _, fun h => (List.mem_cons.1 h).resolve_left c⟩⟩
theorem contains (l : List Int) (v : Int) (hl : l.length ≤ 1048576) (k : Nat) (hk : l.length < k) : slices_Contains_int_int.f k l v = some (decide (v ∈ l)) := by
 obtain ⟨t, h1, h2⟩ := contains_at l v hl l.length k 0 (Nat.zero_le _) (by omega) hk
 have h1' : slices_Index_int_int.f k l v = some t := h1
 unfold slices_Contains_int_int.f
 rw [h1', Option.bind_some]
 simp only [List.drop_zero] at h2
 refine congrArg some (decide_eq_decide.2 ?_)
 exact h2
theorem put_fix (out : List Ins) (p : List Int) (n : Nat) (hn : n ≤ 16) (ho : out.length ≤ 40) (hp : p.length = n + 1) (hj : ∀ x ∈ out, x.f0 = 6 → 0 ≤ x.f3 ∧ x.f3 ≤ n) :
  ∀ d k (i : Nat), i ≤ out.length → out.length - i = d → d < k → impl_withFencesAt.l1 k (fixed out p i) p (out.length : Int) (i : Int) = some (out.map (fixI p)) := by
 intro d
 induction d with
 | zero =>
  intro k i hi hd hk
  obtain ⟨k, rfl⟩ : ∃ m, k = m + 1 := ⟨k - 1, by omega⟩
  obtain rfl : i = out.length := by omega
  simp only [impl_withFencesAt.l1]
  rw [if_neg (by omega), fixed_all]
 | succ d ih =>
  intro k i hi hd hk
  obtain ⟨k, rfl⟩ : ∃ m, k = m + 1 := ⟨k - 1, by omega⟩
  have hlt : i < out.length := by omega
  have hl := fixed_len out p i (by omega)
  have hx := hj out[i] (List.getElem_mem hlt)
  simp only [impl_withFencesAt.l1]
  rw [fixed_get out p i hlt, if_pos (by omega), if_pos (by omega), if_pos (by omega), wrap_succ hlt (by omega), Int.toNat_natCast]
  by_cases o6 : out[i].f0 = 6
  rotate_left
  ·rw [if_neg o6, fixed_skip out p i hlt o6]
   exact ih k (i + 1) (by omega) (by omega) (by omega)
  have := hx o6
  rw [if_pos o6, if_pos (by omega), if_pos (by omega), fixed_next out p i hlt _ (by unfold fixI; rw [if_pos o6])]
  exact ih k (i + 1) (by omega) (by omega) (by omega)
theorem impl_put (q : List Ins) (ps : List Int) (hps : ps.length ≤ 1000) (hn : q.length ≤ 16) (hj : ∀ x ∈ q, x.f0 = 6 → 0 ≤ x.f3 ∧ x.f3 ≤ q.length) (k : Nat) (hk : 1100 ≤ k) : impl_withFencesAt.f k q ps = some (putV q (fun i => decide ((i : Int) ∈ ps))) := by
 generalize hh : (fun i : Nat => decide ((i : Int) ∈ ps)) = has
 have hhas : ∀ i : Nat, decide ((i : Int) ∈ ps) = has i := fun i => by rw [← hh]
 obtain ⟨f1, f2, _⟩ := wrun_facts q has (q.length + 1) 0 ([], [])
 simp only [List.length_nil, Nat.zero_add] at f1 f2
 unfold impl_withFencesAt.f
 rw [wrap_succ (n := 17) (by omega) (by omega)]
 have key : ∀ d k (j : Nat) (s : List Ins × List Int), j + d = q.length + 1 → s.1.length ≤ 2 * j → s.2.length = j → wrun q has d j s = wrun q has (q.length + 1) 0 ([], []) → d + 1050 < k →
   impl_withFencesAt.l0 k q ps s.1 s.2 ((q.length + 1 : Nat) : Int) (j : Int) = some (putV q has) := by
  intro d
  induction d with
  | zero =>
   intro k j s hj' h1 h2 hr hk
   obtain ⟨k, rfl⟩ : ∃ m, k = m + 1 := ⟨k - 1, by omega⟩
   have hs : s = wrun q has (q.length + 1) 0 ([], []) := hr
   subst hs
   simp only [impl_withFencesAt.l0]
   rw [if_neg (by omega)]
   have := put_fix (wrun q has (q.length + 1) 0 ([], [])).1 (wrun q has (q.length + 1) 0 ([], [])).2 q.length hn (by omega) (by omega) (out_jumps q has hj) (wrun q has (q.length + 1) 0 ([], [])).1.length k 0 (Nat.zero_le _) (by omega) (by omega)
   rw [fixed_zero] at this
   exact this
  | succ d ih =>
   intro k j s hj' h1 h2 hr hk
   obtain ⟨k, rfl⟩ : ∃ m, k = m + 1 := ⟨k - 1, by omega⟩
   obtain ⟨g1, g2, _⟩ := wstep_facts q has s j
   have := ih k (j + 1) (wstep q has s j) (by omega) (by omega) (by omega) hr (by omega)
   simp only [impl_withFencesAt.l0, Option.bind_some, eta_]
   rw [if_pos (by omega), if_pos (by omega), contains ps (j : Int) (by omega) k (by omega), Option.bind_some, hhas, wrap_succ (n := 100) (by omega) (by omega), ← this]
   unfold wstep
   by_cases b : has j = true
   rotate_left
   ·rw [if_neg b, if_neg b]
    by_cases c : j < q.length
    rotate_left
    ·rw [if_neg (by omega), if_neg c, List.append_nil]
    rw [if_pos (by omega), if_pos (by omega), if_pos (by omega), if_pos c]
   rw [if_pos b, if_pos b, if_pos (by omega)]
   by_cases c : j < q.length
   rotate_left
   ·rw [if_neg (by omega), if_neg c, List.append_nil]
    rfl
   rw [if_pos (by omega), if_pos (by omega), if_pos (by simp; omega), if_pos c]
   rfl
 exact key (q.length + 1) k 0 ([], []) (by omega) (by simp) rfl rfl (by omega)
/-- Which places of code t have a fence to come. -/
def hasB (sp : List Spt) (t : Nat) (i : Nat) : Bool := sp.any fun s => decide (s.f0 = (t : Int)) && decide (s.f1 = (i : Int))
def placesV (sp : List Spt) (t : Nat) : List Int := (sp.filter fun s => decide (s.f0 = (t : Int))).map fun s => s.f1
theorem placesV_cons (x : Spt) (r : List Spt) (t : Nat) : placesV (x :: r) t = if x.f0 = (t : Int) then x.f1 :: placesV r t else placesV r t := by
 unfold placesV
 by_cases c : x.f0 = (t : Int)
 rotate_left
 ·rw [if_neg c, List.filter_cons, if_neg (by simpa using c)]
 rw [if_pos c, List.filter_cons, if_pos (by simpa using c), List.map_cons]
theorem places_has (sp : List Spt) (t : Nat) : (fun i : Nat => decide ((i : Int) ∈ placesV sp t)) = hasB sp t := by
 funext i
 unfold placesV hasB
 rw [Bool.eq_iff_iff, decide_eq_true_iff, List.any_eq_true, List.mem_map]
 constructor
 ·rintro ⟨s, hs, e⟩
  rw [List.mem_filter] at hs
  exact ⟨s, hs.1, by rw [hs.2, e]; simp⟩
 ·rintro ⟨s, hs, e⟩
  rw [Bool.and_eq_true] at e
  exact ⟨s, List.mem_filter.2 ⟨hs, e.1⟩, of_decide_eq_true e.2⟩
def putsV (l : List (List Ins)) (sp : List Spt) : Nat → Nat → List (List Ins)
 | 0, _ => []
 | d + 1, t => putV (l.getD t []) (hasB sp t) :: putsV l sp d (t + 1)
def finV (c : Int) (l : List (List Ins)) : Int × List (List Ins) × Bool := if progB c l = true then (c, l, true) else (0, [], false)
theorem putsV_len (l : List (List Ins)) (sp : List Spt) : ∀ d t, (putsV l sp d t).length = d := by
 intro d
 induction d with
 | zero => intro t; rfl
 | succ d ih => intro t; simp [putsV, ih]
theorem impl_places (c : Int) (l : List (List Ins)) (sp : List Spt) (t : Nat) (ht : t < l.length) (hs : sp.length ≤ 1000) (acc : List (List Ins)) (R : List Int → Option (Int × List (List Ins) × Bool)) (K : Nat)
  (hR : ∀ k ps, K ≤ k → ps.length ≤ 1000 → ((impl_withFencesAt.f k l[t] ps).bind fun t14 => (if acc.length < 5864062014805 then (impl_putFences.l0 k sp l (l.length : Int) (wrap64 ((t : Int) + 1)) c (acc ++ [t14])) else (none))) = R ps) :
  ∀ d k (j : Nat) (ps : List Int), j ≤ sp.length → sp.length - j = d → ps.length ≤ j → K + d < k →
   impl_putFences.l1 k sp (t : Int) l[t] ps l (l.length : Int) (t : Int) sp (sp.length : Int) (j : Int) c acc = R (ps ++ placesV (sp.drop j) t) := by
 intro d
 induction d with
 | zero =>
  intro k j ps hj hd hp hk
  obtain ⟨k, rfl⟩ : ∃ m, k = m + 1 := ⟨k - 1, by omega⟩
  simp only [impl_putFences.l1]
  rw [if_neg (by omega), List.drop_of_length_le (by omega), hR k ps (by omega) (by omega)]
  simp [placesV]
 | succ d ih =>
  intro k j ps hj hd hp hk
  obtain ⟨k, rfl⟩ : ∃ m, k = m + 1 := ⟨k - 1, by omega⟩
  have hlt : j < sp.length := by omega
  simp only [impl_putFences.l1]
  rw [if_pos (by omega), if_pos (by omega), if_pos (by omega), rdSpt sp j hlt, wrap_succ hlt (by omega), List.drop_eq_getElem_cons hlt, placesV_cons]
  by_cases c1 : sp[j].f0 = (t : Int)
  rotate_left
  ·rw [if_neg c1, if_neg c1, ih k (j + 1) _ (by omega) (by omega) (by omega) (by omega)]
  rw [if_pos c1, if_pos c1, if_pos (by omega), ih k (j + 1) _ (by omega) (by omega) (by simp; omega) (by omega), List.append_assoc]
  rfl
set_option maxRecDepth 100000 in
theorem impl_puts (c : Int) (l : List (List Ins)) (sp : List Spt) (hl : l.length ≤ 3) (hs : sp.length ≤ 1000) (hc : ∀ q ∈ l, codeB c q = true) : ∀ d k (t : Nat) (acc : List (List Ins)), t + d = l.length → acc.length = t → d * 1100 + 1200 < k →
  impl_putFences.l0 k sp l (l.length : Int) (t : Int) c acc = some (finV c (acc ++ putsV l sp d t)) := by
 intro d
 induction d with
 | zero =>
  intro k t acc ht ha hk
  obtain ⟨k, rfl⟩ : ∃ m, k = m + 1 := ⟨k - 1, by omega⟩
  simp only [impl_putFences.l0, putsV, List.append_nil]
  rw [if_neg (by omega), impl_progOk, Option.bind_some]
  unfold finV
  by_cases h : progB c acc = true
  rotate_left
  ·rw [if_neg h, if_neg h]
  rw [if_pos h, if_pos h]
 | succ d ih =>
  intro k t acc ht ha hk
  obtain ⟨k, rfl⟩ : ∃ m, k = m + 1 := ⟨k - 1, by omega⟩
  have hlt : t < l.length := by omega
  have e := rdCode l t hlt
  have e2 : l.getD t [] = l[t] := by simpa using e
  have hq := hc _ (List.getElem_mem hlt)
  simp only [impl_putFences.l0, rd_L5, e, putsV, e2]
  rw [if_pos (by omega), if_pos (by omega), if_pos (by omega)]
  have := impl_places c l sp t hlt hs acc (fun ps => some (finV c (acc ++ putV l[t] (fun i => decide ((i : Int) ∈ ps)) :: putsV l sp d (t + 1)))) (d * 1100 + 1201) (fun k ps hk hps => by
   rw [impl_put l[t] ps hps (code_len hq) (jumps hq) k (by omega), Option.bind_some, if_pos (by omega), wrap_succ hlt (by omega), ih k (t + 1) _ (by omega) (by simp [ha]) (by omega)]
   simp) sp.length k 0 [] (Nat.zero_le _) (by omega) (by simp) (by omega)
  simp only [List.nil_append, List.drop_zero] at this
  rw [places_has] at this
  exact this

/-- Are the spots from j on valid, and each behind the one ahead of it? -/
def okS (l : List (List Ins)) (s : Spt) : Bool := inB s.f0 0 ((l.length : Int) - 1) && inB s.f1 0 ((l.getD s.f0.toNat []).length : Int)
def lessB (a b : Spt) : Bool := decide (a.f0 < b.f0) || (decide (a.f0 = b.f0) && decide (a.f1 < b.f1))
def goodAt (l : List (List Ins)) (sp : List Spt) (j : Nat) (h : j < sp.length) : Bool := okS l sp[j] && (if h0 : 0 < j then lessB (sp[j - 1]'(by omega)) sp[j] else true)
theorem okS_facts {l : List (List Ins)} {s : Spt} (h : okS l s = true) : (0 ≤ s.f0 ∧ s.f0 < l.length) ∧ 0 ≤ s.f1 ∧ s.f1 ≤ ((l.getD s.f0.toNat []).length : Int) := by
 unfold okS at h
 rw [Bool.and_eq_true] at h
 have h1 := inB_true.1 h.1
 have h2 := inB_true.1 h.2
 omega
theorem impl_spotOk (c : Int) (l : List (List Ins)) (hp : progB c l = true) (a b : Int) (h3 : l.length ≤ 3) : impl_SpotOk.f a b c l = some (okS l ⟨a, b⟩) := by
 unfold impl_SpotOk.f okS
 rw [impl_progOk, Option.bind_some, if_pos hp]
 simp only [within, Option.bind_some]
 rw [wrap_id (x := (l.length : Int) - 1) (by omega) (by omega)]
 by_cases h : inB a 0 ((l.length : Int) - 1) = true
 rotate_left
 ·rw [if_neg h]
  simp [h]
 have := inB_true.1 h
 rw [if_pos h, if_pos (by omega), if_pos (by omega), h, Bool.true_and]
 rfl
theorem spec_spotOk (c : Int) (l : List (List Ins)) (hp : progB c l = true) (a b : Int) (h3 : l.length ≤ 3) (k : Nat) (hk : 130 ≤ k) : spec_SpotOk.f k a b c l = some (okS l ⟨a, b⟩) := by
 unfold spec_SpotOk.f okS
 rw [spec_progOk c l k hk, Option.bind_some, if_pos hp]
 simp only [l01In, Option.bind_some]
 rw [wrap_id (x := (l.length : Int) - 1) (by omega) (by omega)]
 by_cases h : inB a 0 ((l.length : Int) - 1) = true
 rotate_left
 ·rw [if_neg h]
  simp [h]
 have := inB_true.1 h
 rw [if_pos h, if_pos (by omega), if_pos (by omega), h, Bool.true_and]
 rfl
theorem cmpInt (a b : Int) : cmp_Compare_int.f a b = some (if a < b then -1 else if a > b then 1 else 0) := by
 unfold cmp_Compare_int.f cmp_isNaN_int.f
 simp only [bne_self_eq_false, Option.bind_some, Bool.false_eq_true, if_false]
 by_cases h : a < b
 ·rw [if_pos h, if_pos h]
 rw [if_neg h, if_neg h]
 by_cases g : a > b
 rotate_left
 ·rw [if_neg g, if_neg g]
 rw [if_pos g, if_pos g]
theorem cmpOr (a b : Int) (k : Nat) (hk : 4 ≤ k) : cmp_Or_int.f k [a, b] = some (if a = 0 then b else a) := by
 obtain ⟨k, rfl⟩ : ∃ m, k = m + 3 := ⟨k - 3, by omega⟩
 have w1 : wrap64 ((0 : Int) + 1) = 1 := wrap_id (by omega) (by omega)
 have w2 : wrap64 ((1 : Int) + 1) = 2 := wrap_id (by omega) (by omega)
 have r0 : rd [a, b] 0 = a := rfl
 have r1 : rd [a, b] 1 = b := rfl
 unfold cmp_Or_int.f
 simp only [cmp_Or_int.l0, List.length_cons, List.length_nil, w1, w2, r0, r1]
 by_cases h : a = 0
 rotate_left
 ·simp [h]
 by_cases g : b = 0
 rotate_left
 ·simp [h, g]
 simp [h, g]
theorem compare_ (a b : Spt) (k : Nat) (hk : 4 ≤ k) : ∃ t, impl_compareSpots.f k a.f0 a.f1 b.f0 b.f1 = some t ∧ (t ≥ 0 ↔ lessB a b = false) := by
 unfold impl_compareSpots.f
 rw [cmpInt, Option.bind_some, cmpInt, Option.bind_some, cmpOr _ _ k hk, Option.bind_some]
 refine ⟨_, rfl, ?_⟩
 unfold lessB
 by_cases h1 : a.f0 < b.f0
 ·simp [h1]
 by_cases h2 : a.f0 > b.f0
 ·have h3 : ¬ a.f0 = b.f0 := by omega
  simp [h1, h2, h3]
 have h3 : a.f0 = b.f0 := by omega
 by_cases g1 : a.f1 < b.f1
 ·simp [h3, g1]
 by_cases g2 : a.f1 > b.f1
 rotate_left
 ·simp [h3, g1, g2]
 simp [h3, g1, g2]
theorem less_ (a b : Spt) : spec_l07Less.f a.f0 a.f1 b.f0 b.f1 = some (lessB a b) := by
 unfold spec_l07Less.f lessB
 by_cases h1 : a.f0 < b.f0
 ·simp [h1]
 by_cases h2 : a.f0 = b.f0
 rotate_left
 ·simp [h1, h2]
 simp [h2]
/-- All spots are good, from place j on. -/
def goodB (l : List (List Ins)) (sp : List Spt) : Nat → Nat → Bool
 | 0, _ => true
 | d + 1, j => (okS l (rd_T96 sp (j : Int)) && (decide (j = 0) || lessB (rd_T96 sp ((j : Int) - 1)) (rd_T96 sp (j : Int)))) && goodB l sp d (j + 1)
/-- Good spots rise: the j-th counts at least j. -/
theorem good_rise (l : List (List Ins)) (sp : List Spt) (hl : l.length ≤ 3) (hq : ∀ q ∈ l, q.length ≤ 16) : ∀ d j, j + d = sp.length → goodB l sp d j = true → (∀ h : 0 < j, ∃ hj : j - 1 < sp.length, okS l sp[j - 1] = true ∧ (j : Int) - 1 ≤ 17 * sp[j - 1].f0 + sp[j - 1].f1) → sp.length ≤ 51 := by
 intro d
 induction d with
 | zero =>
  intro j hj _ hp
  by_cases h0 : 0 < j
  rotate_left
  ·omega
  obtain ⟨hj', ho, hn⟩ := hp h0
  obtain ⟨⟨a1, a2⟩, a3, a4⟩ := okS_facts ho
  have : (l.getD (sp[j - 1]).f0.toNat []).length ≤ 16 := by
   have e : l.getD (sp[j - 1]).f0.toNat [] = l[(sp[j - 1]).f0.toNat]'(by omega) := by simp [List.getD_eq_getElem?_getD, show (sp[j - 1]).f0.toNat < l.length by omega]
   rw [e]
   exact hq _ (List.getElem_mem _)
  omega
 | succ d ih =>
  intro j hj hg hp
  have hlt : j < sp.length := by omega
  simp only [goodB, Bool.and_eq_true] at hg
  obtain ⟨⟨g1, g2⟩, g3⟩ := hg
  rw [rdSpt sp j hlt] at g1 g2
  refine ih (j + 1) (by omega) g3 (fun _ => ⟨by omega, ?_⟩)
  simp only [Nat.add_sub_cancel]
  refine ⟨g1, ?_⟩
  obtain ⟨⟨a1, a2⟩, a3, a4⟩ := okS_facts g1
  by_cases h0 : 0 < j
  rotate_left
  ·omega
  obtain ⟨hj', ho, hn⟩ := hp h0
  obtain ⟨⟨b1, b2⟩, b3, b4⟩ := okS_facts ho
  have e : rd_T96 sp ((j : Int) - 1) = sp[j - 1] := by
   have := rdSpt sp (j - 1) (by omega)
   rw [show ((j - 1 : Nat) : Int) = (j : Int) - 1 from by omega] at this
   exact this
  have hj0 : decide (j = 0) = false := decide_eq_false (by omega)
  rw [e, hj0, Bool.false_or] at g2
  have hb : (l.getD (sp[j - 1]).f0.toNat []).length ≤ 16 := by
   have e : l.getD (sp[j - 1]).f0.toNat [] = l[(sp[j - 1]).f0.toNat]'(by omega) := by simp [List.getD_eq_getElem?_getD, show (sp[j - 1]).f0.toNat < l.length by omega]
   rw [e]
   exact hq _ (List.getElem_mem _)
  unfold lessB at g2
  rw [Bool.or_eq_true, Bool.and_eq_true, decide_eq_true_iff, decide_eq_true_iff, decide_eq_true_iff] at g2
  omega
def putsF (c : Int) (l : List (List Ins)) (sp : List Spt) : Int × List (List Ins) × Bool := if goodB l sp sp.length 0 = true then finV c (putsV l sp l.length 0) else (0, [], false)
theorem impl_check (c : Int) (l : List (List Ins)) (sp : List Spt) (hp : progB c l = true) (hs : sp.length ≤ 1048576) : ∀ d k (j : Nat), j + d = sp.length → (goodB l sp d j = true → goodB l sp sp.length 0 = true) → d + 5000 < k →
  impl_PutFences.l0 k sp sp (sp.length : Int) (j : Int) c l = some (if goodB l sp d j = true then finV c (putsV l sp l.length 0) else (0, [], false)) := by
 obtain ⟨_, h2, h3⟩ := progB_facts hp
 intro d
 induction d with
 | zero =>
  intro k j hj hg hk
  obtain ⟨k, rfl⟩ : ∃ m, k = m + 1 := ⟨k - 1, by omega⟩
  have hlen := good_rise l sp (by omega) h3 sp.length 0 (by omega) (hg rfl) (fun h => absurd h (by omega))
  simp only [impl_PutFences.l0]
  have hc : ∀ q ∈ l, codeB c q = true := by
   unfold progB at hp
   simp only [Bool.and_eq_true, List.all_eq_true] at hp
   exact hp.2.2
  have := impl_puts c l sp (by omega) (by omega) hc l.length k 0 [] (by omega) rfl (by omega)
  simp only [List.nil_append] at this
  have h0 : impl_putFences.f k c l sp = some (finV c (putsV l sp l.length 0)) := this
  rw [if_neg (by omega), h0, Option.bind_some]
  rfl
 | succ d ih =>
  intro k j hj hg hk
  obtain ⟨k, rfl⟩ : ∃ m, k = m + 1 := ⟨k - 1, by omega⟩
  have hlt : j < sp.length := by omega
  have hr := rdSpt sp j hlt
  have hnext := fun g => ih k (j + 1) (by omega) g (by omega)
  simp only [impl_PutFences.l0, goodB, hr] at hg ⊢
  rw [if_pos (by omega), if_pos (by omega), if_pos (by omega), impl_spotOk c l hp _ _ (by omega), Option.bind_some, wrap_succ hlt (by omega), wrap_id (x := (j : Int) - 1) (by omega) (by omega)]
  have ho : okS l ⟨sp[j].f0, sp[j].f1⟩ = okS l sp[j] := rfl
  rw [ho]
  by_cases c1 : okS l sp[j] = true
  rotate_left
  ·rw [if_neg c1]
   simp [c1]
  rw [if_pos c1, c1, Bool.true_and]
  rw [c1, Bool.true_and] at hg
  by_cases j0 : j = 0
  ·rw [if_neg (by omega), decide_eq_true j0, Bool.true_or, Bool.true_and]
   rw [decide_eq_true j0, Bool.true_or, Bool.true_and] at hg
   exact hnext hg
  obtain ⟨t, ht, hl⟩ := compare_ (rd_T96 sp ((j : Int) - 1)) sp[j] k (by omega)
  rw [if_pos (by omega), if_pos (by omega), if_pos (by omega), ht, Option.bind_some, decide_eq_false j0, Bool.false_or]
  rw [decide_eq_false j0, Bool.false_or] at hg
  by_cases c2 : t ≥ 0
  ·rw [if_pos c2, hl.1 c2, Bool.false_and, if_neg (by decide)]
  have c3 : lessB (rd_T96 sp ((j : Int) - 1)) sp[j] = true := by
   cases h : lessB (rd_T96 sp ((j : Int) - 1)) sp[j] with
   | true => rfl
   | false => exact absurd (hl.2 h) c2
  rw [c3, Bool.true_and] at hg
  rw [if_neg c2, c3, Bool.true_and]
  exact hnext hg
def putFV (c : Int) (l : List (List Ins)) (sp : List Spt) : Int × List (List Ins) × Bool := if progB c l = true then putsF c l sp else (0, [], false)
theorem impl_putF (c : Int) (l : List (List Ins)) (sp : List Spt) (hs : sp.length ≤ 1048576) (k : Nat) (hk : 1100000 ≤ k) : impl_PutFences.f k c l sp = some (putFV c l sp) := by
 unfold impl_PutFences.f putFV putsF
 rw [impl_progOk, Option.bind_some]
 by_cases h : progB c l = true
 rotate_left
 ·rw [if_neg h, if_neg h]
 rw [if_pos h, if_pos h]
 exact impl_check c l sp h hs sp.length k 0 (by omega) (fun g => g) (by omega)

theorem has_at (sp : List Spt) (t i : Nat) (hs : sp.length ≤ 1048576) : ∀ d k (j : Nat), j + d = sp.length → d < k → spec_l07Has.l0 k sp (t : Int) (i : Int) (j : Int) = some ((sp.drop j).any fun s => decide (s.f0 = (t : Int)) && decide (s.f1 = (i : Int))) := by
 intro d
 induction d with
 | zero =>
  intro k j hj hk
  obtain ⟨k, rfl⟩ : ∃ m, k = m + 1 := ⟨k - 1, by omega⟩
  simp only [spec_l07Has.l0]
  rw [if_neg (by omega), List.drop_of_length_le (by omega)]
  rfl
 | succ d ih =>
  intro k j hj hk
  obtain ⟨k, rfl⟩ : ∃ m, k = m + 1 := ⟨k - 1, by omega⟩
  have hlt : j < sp.length := by omega
  simp only [spec_l07Has.l0]
  rw [if_pos (by omega), if_pos (by omega), rdSpt sp j hlt, wrap_succ hlt (by omega), ih k (j + 1) (by omega) (by omega), List.drop_eq_getElem_cons hlt, List.any_cons]
  by_cases a : sp[j].f0 = (t : Int)
  rotate_left
  ·rw [if_neg a, decide_eq_false a, Bool.false_and, Bool.false_or]
  by_cases b : sp[j].f1 = (i : Int)
  rotate_left
  ·rw [if_pos a, if_neg b, decide_eq_false b, Bool.and_false, Bool.false_or]
  rw [if_pos a, if_pos b, decide_eq_true a, decide_eq_true b]
  rfl
theorem has_ (sp : List Spt) (t i : Nat) (hs : sp.length ≤ 1048576) (k : Nat) (hk : sp.length < k) : spec_l07Has.f k sp (t : Int) (i : Int) = some (hasB sp t i) := by
 have := has_at sp t i hs sp.length k 0 (by omega) hk
 rw [List.drop_zero] at this
 exact this
theorem spec_put_fix (c : Int) (l acc : List (List Ins)) (sp : List Spt) (t : Nat) (out : List Ins) (p : List Int) (n : Nat) (hn : n ≤ 16) (ha : acc.length ≤ 3) (ht : t < 3) (ho : out.length ≤ 40) (hp : p.length = n + 1) (hj : ∀ x ∈ out, x.f0 = 6 → 0 ≤ x.f3 ∧ x.f3 ≤ n) (R : Option (Int × List (List Ins) × Bool)) (K : Nat)
  (hR : ∀ k, K ≤ k → spec_PutFences.l1 k sp ((t + 1 : Nat) : Int) c l c (acc ++ [out.map (fixI p)]) = R) :
  ∀ d k (i : Nat), i ≤ out.length → out.length - i = d → K + d < k → spec_PutFences.l3 k sp (t : Int) (fixed out p i) p (i : Int) c l c acc = R := by
 intro d
 induction d with
 | zero =>
  intro k i hi hd hk
  obtain ⟨k, rfl⟩ : ∃ m, k = m + 1 := ⟨k - 1, by omega⟩
  obtain rfl : i = out.length := by omega
  simp only [spec_PutFences.l3]
  rw [fixed_len out p _ (Nat.le_refl _), if_neg (by omega), if_pos (by omega), fixed_all, wrap_succ ht (by omega)]
  exact hR k (by omega)
 | succ d ih =>
  intro k i hi hd hk
  obtain ⟨k, rfl⟩ : ∃ m, k = m + 1 := ⟨k - 1, by omega⟩
  have hlt : i < out.length := by omega
  have hl := fixed_len out p i (by omega)
  have hx := hj out[i] (List.getElem_mem hlt)
  simp only [spec_PutFences.l3]
  rw [fixed_get out p i hlt, if_pos (by omega), if_pos (by omega), wrap_succ hlt (by omega), Int.toNat_natCast]
  by_cases o6 : out[i].f0 = 6
  rotate_left
  ·rw [if_neg o6, fixed_skip out p i hlt o6]
   exact ih k (i + 1) (by omega) (by omega) (by omega)
  have := hx o6
  rw [if_pos o6, if_pos (by omega), if_pos (by omega), fixed_next out p i hlt _ (by unfold fixI; rw [if_pos o6])]
  exact ih k (i + 1) (by omega) (by omega) (by omega)
theorem spec_put_one (c : Int) (l acc : List (List Ins)) (sp : List Spt) (hs : sp.length ≤ 51) (t : Nat) (ht : t < l.length) (hl : l.length ≤ 3) (ha : acc.length ≤ 3) (hn : l[t].length ≤ 16) (hj : ∀ x ∈ l[t], x.f0 = 6 → 0 ≤ x.f3 ∧ x.f3 ≤ l[t].length) (R : Option (Int × List (List Ins) × Bool)) (K : Nat)
  (hR : ∀ k, K ≤ k → spec_PutFences.l1 k sp ((t + 1 : Nat) : Int) c l c (acc ++ [putV l[t] (hasB sp t)]) = R) :
  ∀ d k (j : Nat) (s : List Ins × List Int), j + d = l[t].length + 1 → s.1.length ≤ 2 * j → s.2.length = j → wrun l[t] (hasB sp t) d j s = wrun l[t] (hasB sp t) (l[t].length + 1) 0 ([], []) → K + d + 100 < k → spec_PutFences.l2 k sp (t : Int) s.1 s.2 (j : Int) c l c acc = R := by
 obtain ⟨f1, f2, _⟩ := wrun_facts l[t] (hasB sp t) (l[t].length + 1) 0 ([], [])
 simp only [List.length_nil, Nat.zero_add] at f1 f2
 have e := rdCode l t ht
 intro d
 induction d with
 | zero =>
  intro k j s hj' h1 h2 hr hk
  obtain ⟨k, rfl⟩ : ∃ m, k = m + 1 := ⟨k - 1, by omega⟩
  have hs : s = wrun l[t] (hasB sp t) (l[t].length + 1) 0 ([], []) := hr
  subst hs
  simp only [spec_PutFences.l2, rd_L5, e]
  rw [if_pos (by omega), if_pos (by omega), if_neg (by omega)]
  have := spec_put_fix c l acc sp t _ _ l[t].length hn ha (by omega) (by omega) (by omega) (out_jumps l[t] (hasB sp t) hj) R K hR (wrun l[t] (hasB sp t) (l[t].length + 1) 0 ([], [])).1.length k 0 (Nat.zero_le _) (by omega) (by omega)
  rw [fixed_zero] at this
  exact this
 | succ d ih =>
  intro k j s hj' h1 h2 hr hk
  obtain ⟨k, rfl⟩ : ∃ m, k = m + 1 := ⟨k - 1, by omega⟩
  obtain ⟨g1, g2, _⟩ := wstep_facts l[t] (hasB sp t) s j
  have := ih k (j + 1) (wstep l[t] (hasB sp t) s j) (by omega) (by omega) (by omega) hr (by omega)
  simp only [spec_PutFences.l2, Option.bind_some, eta_, rd_L5, e]
  rw [if_pos (by omega), if_pos (by omega), if_pos (by omega), if_pos (by omega), has_ sp t j (by omega) k (by omega), Option.bind_some, wrap_succ (n := 100) (by omega) (by omega), ← this]
  unfold wstep
  by_cases b : hasB sp t j = true
  rotate_left
  ·rw [if_neg b, if_neg b]
   by_cases c1 : j < l[t].length
   rotate_left
   ·rw [if_neg (by omega), if_neg c1, List.append_nil]
   rw [if_pos (by omega), if_pos (by omega), if_pos (by omega), if_pos c1]
  rw [if_pos b, if_pos b, if_pos (by omega)]
  by_cases c1 : j < l[t].length
  rotate_left
  ·rw [if_neg (by omega), if_neg c1, List.append_nil]
   rfl
  rw [if_pos (by omega), if_pos (by omega), if_pos (by simp; omega), if_pos c1]
  rfl
theorem spec_puts (c : Int) (l : List (List Ins)) (sp : List Spt) (hl : l.length ≤ 3) (hs : sp.length ≤ 51) (hc : ∀ q ∈ l, codeB c q = true) : ∀ d k (t : Nat) (acc : List (List Ins)), t + d = l.length → acc.length = t → d * 200 + 200 < k →
  spec_PutFences.l1 k sp (t : Int) c l c acc = some (finV c (acc ++ putsV l sp d t)) := by
 intro d
 induction d with
 | zero =>
  intro k t acc ht ha hk
  obtain ⟨k, rfl⟩ : ∃ m, k = m + 1 := ⟨k - 1, by omega⟩
  simp only [spec_PutFences.l1, putsV, List.append_nil]
  rw [if_neg (by omega), spec_progOk c acc k (by omega), Option.bind_some]
  unfold finV
  by_cases h : progB c acc = true
  rotate_left
  ·rw [if_neg h, if_neg h]
  rw [if_pos h, if_pos h]
 | succ d ih =>
  intro k t acc ht ha hk
  obtain ⟨k, rfl⟩ : ∃ m, k = m + 1 := ⟨k - 1, by omega⟩
  have hlt : t < l.length := by omega
  have e2 : l.getD t [] = l[t] := by simpa using rdCode l t hlt
  have hq := hc _ (List.getElem_mem hlt)
  have h16 := code_len hq
  simp only [spec_PutFences.l1, putsV, e2]
  rw [if_pos (by omega)]
  exact spec_put_one c l acc sp hs t hlt hl (by omega) h16 (jumps hq) _ (d * 200 + 201) (fun k hk => by
   rw [ih k (t + 1) _ (by omega) (by simp [ha]) (by omega), List.append_assoc]
   rfl) (l[t].length + 1) k 0 ([], []) (by omega) (by simp) rfl rfl (by omega)
theorem spec_check (c : Int) (l : List (List Ins)) (sp : List Spt) (hp : progB c l = true) (hs : sp.length ≤ 51) : ∀ d k (j : Nat), j + d = sp.length → d + 1200 < k →
  spec_PutFences.l0 k sp (j : Int) c l = some (if goodB l sp d j = true then finV c (putsV l sp l.length 0) else (0, [], false)) := by
 obtain ⟨_, h2, h3⟩ := progB_facts hp
 intro d
 induction d with
 | zero =>
  intro k j hj hk
  obtain ⟨k, rfl⟩ : ∃ m, k = m + 1 := ⟨k - 1, by omega⟩
  have hc : ∀ q ∈ l, codeB c q = true := by
   unfold progB at hp
   simp only [Bool.and_eq_true, List.all_eq_true] at hp
   exact hp.2.2
  simp only [spec_PutFences.l0]
  rw [if_neg (by omega)]
  have := spec_puts c l sp (by omega) hs hc l.length k 0 [] (by omega) rfl (by omega)
  simp only [List.nil_append] at this
  exact this
 | succ d ih =>
  intro k j hj hk
  obtain ⟨k, rfl⟩ : ∃ m, k = m + 1 := ⟨k - 1, by omega⟩
  have hlt : j < sp.length := by omega
  have hr := rdSpt sp j hlt
  have hnext := ih k (j + 1) (by omega) (by omega)
  simp only [spec_PutFences.l0, goodB, hr]
  rw [if_pos (by omega), if_pos (by omega), spec_spotOk c l hp _ _ (by omega) k (by omega), Option.bind_some, wrap_succ hlt (by omega), wrap_id (x := (j : Int) - 1) (by omega) (by omega)]
  have ho : okS l ⟨sp[j].f0, sp[j].f1⟩ = okS l sp[j] := rfl
  rw [ho]
  by_cases c1 : okS l sp[j] = true
  rotate_left
  ·rw [if_neg c1]
   simp [c1]
  rw [if_pos c1, c1, Bool.true_and]
  by_cases j0 : j = 0
  ·rw [if_neg (by omega), decide_eq_true j0, Bool.true_or, Bool.true_and]
   exact hnext
  rw [if_pos (by omega), if_pos (by omega), if_pos (by omega), less_, Option.bind_some, decide_eq_false j0, Bool.false_or]
  by_cases c3 : lessB (rd_T96 sp ((j : Int) - 1)) sp[j] = true
  rotate_left
  ·rw [if_neg c3]
   simp [c3]
  rw [if_pos c3, c3, Bool.true_and]
  exact hnext
theorem spec_putF (c : Int) (l : List (List Ins)) (sp : List Spt) (k : Nat) (hk : 2000 ≤ k) : spec_PutFences.f k c l sp = some (putFV c l sp) := by
 unfold spec_PutFences.f putFV putsF
 rw [spec_progOk c l k (by omega), Option.bind_some]
 obtain ⟨k, rfl⟩ : ∃ m, k = m + 1 := ⟨k - 1, by omega⟩
 by_cases h : progB c l = true
 rotate_left
 ·rw [if_neg h, if_neg h]
  simp only [spec_PutFences.j0]
  rw [if_pos trivial]
 rw [if_pos h, if_pos h]
 simp only [spec_PutFences.j0]
 by_cases hs : sp.length ≤ 51
 ·rw [if_neg (by simp; omega)]
  exact spec_check c l sp h hs sp.length k 0 (by omega) (by omega)
 rw [if_pos (by simp; omega)]
 obtain ⟨_, h2, h3⟩ := progB_facts h
 have hg : goodB l sp sp.length 0 = false := by
  cases hg : goodB l sp sp.length 0 with
  | false => rfl
  | true => exact absurd (good_rise l sp (by omega) h3 sp.length 0 (by omega) hg (fun h => absurd h (by omega))) hs
 rw [hg, if_neg (by decide)]
theorem finV_small (c : Int) (l : List (List Ins)) : (finV c l).2.1.length ≤ 3 ∧ ∀ q ∈ (finV c l).2.1, q.length ≤ 16 := by
 unfold finV
 by_cases h : progB c l = true
 rotate_left
 ·rw [if_neg h]
  exact ⟨by simp, fun q hq => by cases hq⟩
 rw [if_pos h]
 obtain ⟨_, h2, h3⟩ := progB_facts h
 exact ⟨h2.2, h3⟩
theorem putFV_small (c : Int) (l : List (List Ins)) (sp : List Spt) : (putFV c l sp).2.1.length ≤ 3 ∧ ∀ q ∈ (putFV c l sp).2.1, q.length ≤ 16 := by
 unfold putFV putsF
 split
 ·split
  ·exact finV_small _ _
  ·exact ⟨by simp, fun q hq => by cases hq⟩
 ·exact ⟨by simp, fun q hq => by cases hq⟩

end Go.Proofs.Ytlfbdafghpmahaa.Pure
