/- The law FnExactSpotsOf answers true: the program's SpotsOf gives what the reference's gives, for every program, in memory of its own, and leaves the program as it was. No condition. -/
import Derived.Test.YtlfbdafghpmahaaV2
import Derived.Test.YtlfbdafghpmahaaQFnExactSpotsOf
import Derived.Test.YtlfbdafghpmahaaMarkCodes
import Derived.Test.YtlfbdafghpmahaaSpots
import Derived.Test.YtlfbdafghpmahaaPimplisCandidate
namespace Go.Proofs.Ytlfbdafghpmahaa.Pure
open Go.RowKit Go.Proofs.Ytlfbdafghpmahaa.P Go.Proofs.Ytlfbdafghpmahaa.Gen Go.Proofs.YtlfbdafghpmahaaW.PrintWords
set_option linter.unusedSimpArgs false
set_option linter.unusedVariables false

def waitsB (x : Ins) : Bool := decide (x.f0 = 4) || (decide (x.f0 = 5) || decide (x.f0 = 7))
/-- Does a store wait behind this instruction, if one did (or not) ahead of it? -/
def nextB (b : Bool) (x : Ins) : Bool := if waitsB x = true then false else if x.f0 = 6 then false else if x.f0 = 3 then true else b
theorem implHas (x : Ins) : impl_HasFence.f x.f0 x.f1 x.f2 x.f3 = some (waitsB x) := by
  unfold impl_HasFence.f waitsB
  by_cases a : x.f0 = 4
  · simp [a]
  · by_cases b : x.f0 = 5
    · simp [b]
    · simp only [if_neg a, if_neg b, a, b, decide_false, Bool.false_or]
      congr 1
theorem specHas (x : Ins) : spec_HasFence.f x.f0 x.f1 x.f2 x.f3 = some (waitsB x) := by
  unfold spec_HasFence.f waitsB
  by_cases a : x.f0 = 4
  · simp [a]
  · by_cases b : x.f0 = 5
    · simp [b]
    · simp only [if_neg a, if_neg b, a, b, decide_false, Bool.false_or]
      congr 1
def waits (q : List Ins) (j : Nat) : Bool := (q.take j).foldl nextB false
theorem waits_succ (q : List Ins) (j : Nat) (h : j < q.length) : waits q (j + 1) = nextB (waits q j) q[j] := by
  unfold waits
  rw [List.take_succ_eq_append_getElem h, List.foldl_append]
  rfl
theorem cand_loop (q : List Ins) (hq : q.length ≤ 16) : ∀ (j k : Nat), j ≤ q.length → j < k → impl_isCandidate.l0 k q ((j : Int) - 1) = some (waits q j) := by
  intro j
  induction j with
  | zero =>
    intro k hj hk
    obtain ⟨k, rfl⟩ : ∃ m, k = m + 1 := ⟨k - 1, by omega⟩
    simp only [impl_isCandidate.l0]
    rw [if_neg (by omega)]
    rfl
  | succ j ih =>
    intro k hj hk
    obtain ⟨k, rfl⟩ : ∃ m, k = m + 1 := ⟨k - 1, by omega⟩
    have e : (((j + 1 : Nat) : Int) - 1) = (j : Int) := by omega
    have hlt : j < q.length := by omega
    simp only [impl_isCandidate.l0]
    rw [e, if_pos (by omega), if_pos (by omega), if_pos (by omega), rdIns q j hlt, implHas, Option.bind_some, wrap_id (x := (j : Int) - 1) (by omega) (by omega), ih k (by omega) (by omega), waits_succ q j hlt]
    unfold nextB
    by_cases a : q[j].f0 = 3
    · have hw : waitsB q[j] = false := by unfold waitsB; simp [a]
      rw [if_pos a, hw, if_neg (by decide), if_neg (by omega), if_pos a]
    · rw [if_neg a]
      by_cases b : waitsB q[j] = true
      · rw [if_pos b, if_pos b]
      · rw [if_neg b, if_neg b]
        by_cases c : q[j].f0 = 6
        · rw [if_pos c, if_pos c]
        · rw [if_neg c, if_neg c, if_neg a]
def candB (q : List Ins) (j : Nat) : Bool := decide ((rd_T82 q (j : Int)).f0 = 2) && waits q j
theorem cand (q : List Ins) (hq : q.length ≤ 16) (j : Nat) (h : j < q.length) (k : Nat) (hk : 20 ≤ k) : impl_isCandidate.f k q (j : Int) = some (candB q j) := by
  unfold impl_isCandidate.f candB
  rw [if_pos (by omega), if_pos (by omega)]
  by_cases a : (rd_T82 q (j : Int)).f0 = 2
  · rw [if_pos a, wrap_id (x := (j : Int) - 1) (by omega) (by omega), cand_loop q hq j k (by omega) (by omega)]
    simp [a]
  · rw [if_neg a]
    simp [a]
/-- The spots of code t, from place j on. -/
def spots1 (t : Nat) (q : List Ins) : Nat → Nat → List Spt
  | 0, _ => []
  | d + 1, j => (if candB q j = true then [(⟨(t : Int), (j : Int)⟩ : Spt)] else []) ++ spots1 t q d (j + 1)
theorem spots1_len (t : Nat) (q : List Ins) : ∀ d j, (spots1 t q d j).length ≤ d := by
  intro d
  induction d with
  | zero => intro j; exact Nat.le_refl _
  | succ d ih =>
    intro j
    have := ih (j + 1)
    unfold spots1
    split <;> simp <;> omega
def spotsAll (l : List (List Ins)) : Nat → Nat → List Spt
  | 0, _ => []
  | d + 1, t => spots1 t (l.getD t []) (l.getD t []).length 0 ++ spotsAll l d (t + 1)
theorem spotsAll_len (l : List (List Ins)) (hq : ∀ q ∈ l, q.length ≤ 16) : ∀ d t, t + d = l.length → (spotsAll l d t).length ≤ 16 * d := by
  intro d
  induction d with
  | zero => intro t _; exact Nat.le_refl _
  | succ d ih =>
    intro t ht
    have := ih (t + 1) (by omega)
    have h2 : l.getD t [] = l[t]'(by omega) := by simp [List.getD_eq_getElem?_getD, show t < l.length by omega]
    have h3 := spots1_len t (l.getD t []) (l.getD t []).length 0
    have h4 := hq _ (List.getElem_mem (show t < l.length by omega))
    rw [← h2] at h4
    simp only [spotsAll, List.length_append]
    omega
theorem impl_spots1 (l : List (List Ins)) (t : Nat) (ht : t < l.length) (hl : l.length ≤ 3) (hn : l[t].length ≤ 16) (R : List Spt → Option (List Spt)) (K : Nat) (hR : ∀ k acc, K ≤ k → acc.length ≤ 16 * (t + 1) → impl_SpotsOf.l0 k acc l (l.length : Int) ((t + 1 : Nat) : Int) = R acc) :
    ∀ d k (j : Nat) (acc : List Spt), j ≤ l[t].length → l[t].length - j = d → acc.length ≤ 16 * t + j → K + d + 20 < k → impl_SpotsOf.l1 k acc (t : Int) l[t] l (l.length : Int) (t : Int) (l[t].length : Int) (j : Int) = R (acc ++ spots1 t l[t] d j) := by
  intro d
  induction d with
  | zero =>
    intro k j acc hj hd ha hk
    obtain ⟨k, rfl⟩ : ∃ m, k = m + 1 := ⟨k - 1, by omega⟩
    simp only [impl_SpotsOf.l1, spots1, List.append_nil]
    rw [if_neg (by omega), wrap_succ ht (by omega)]
    exact hR k acc (by omega) (by omega)
  | succ d ih =>
    intro k j acc hj hd ha hk
    obtain ⟨k, rfl⟩ : ∃ m, k = m + 1 := ⟨k - 1, by omega⟩
    have hlt : j < l[t].length := by omega
    simp only [impl_SpotsOf.l1, spots1]
    rw [if_pos (by omega), cand l[t] hn j hlt k (by omega), Option.bind_some, wrap_succ hlt (by omega)]
    by_cases c : candB l[t] j = true
    · rw [if_pos c, if_pos (by omega), if_pos c, ih k (j + 1) _ (by omega) (by omega) (by simp; omega) (by omega), List.append_assoc]
    · rw [if_neg c, if_neg c, ih k (j + 1) _ (by omega) (by omega) (by omega) (by omega), List.nil_append]
theorem impl_spotsAll (l : List (List Ins)) (hl : l.length ≤ 3) (hq : ∀ q ∈ l, q.length ≤ 16) : ∀ d k (t : Nat) (acc : List Spt), t ≤ l.length → l.length - t = d → acc.length ≤ 16 * t → d * 60 < k → impl_SpotsOf.l0 k acc l (l.length : Int) (t : Int) = some (acc ++ spotsAll l d t) := by
  intro d
  induction d with
  | zero =>
    intro k t acc ht hd ha hk
    obtain ⟨k, rfl⟩ : ∃ m, k = m + 1 := ⟨k - 1, by omega⟩
    simp only [impl_SpotsOf.l0, spotsAll, List.append_nil]
    rw [if_neg (by omega)]
  | succ d ih =>
    intro k t acc ht hd ha hk
    obtain ⟨k, rfl⟩ : ∃ m, k = m + 1 := ⟨k - 1, by omega⟩
    have hlt : t < l.length := by omega
    have e := rdCode l t hlt
    have e2 : l.getD t [] = l[t] := by simpa using e
    have h16 := hq _ (List.getElem_mem hlt)
    simp only [impl_SpotsOf.l0, rd_L5, e, spotsAll, e2]
    rw [if_pos (by omega), if_pos (by omega), if_pos (by omega)]
    have := impl_spots1 l t hlt hl h16 (fun acc => some (acc ++ spotsAll l d (t + 1))) (d * 60 + 1) (fun k acc hk ha => ih k (t + 1) acc (by omega) (by omega) (by omega) (by omega)) l[t].length k 0 acc (Nat.zero_le _) (by omega) (by omega) (by omega)
    have h0 : impl_SpotsOf.l1 k acc (t : Int) l[t] l (l.length : Int) (t : Int) (l[t].length : Int) 0 = _ := this
    rw [h0, List.append_assoc]
def spotsV (c : Int) (l : List (List Ins)) : List Spt := if progB c l = true then spotsAll l l.length 0 else []
theorem impl_spots (c : Int) (l : List (List Ins)) (k : Nat) (hk : 300 ≤ k) : impl_SpotsOf.f k c l = some (spotsV c l) := by
  unfold impl_SpotsOf.f spotsV
  rw [impl_progOk, Option.bind_some]
  by_cases h : progB c l = true
  · rw [if_pos h, if_pos h]
    obtain ⟨_, h2, h3⟩ := progB_facts h
    have := impl_spotsAll l (by omega) h3 l.length k 0 [] (Nat.zero_le _) (by omega) (by simp) (by omega)
    simpa using this
  · rw [if_neg h, if_neg h]
theorem spec_spots1 (c : Int) (l : List (List Ins)) (t : Nat) (ht : t < l.length) (hl : l.length ≤ 3) (hn : l[t].length ≤ 16) (R : List Spt → Option (List Spt)) (K : Nat) (hR : ∀ k acc, K ≤ k → acc.length ≤ 16 * (t + 1) → spec_SpotsOf.l0 k acc ((t + 1 : Nat) : Int) c l = R acc) :
    ∀ d k (j : Nat) (acc : List Spt), j ≤ l[t].length → l[t].length - j = d → acc.length ≤ 16 * t + j → K + 3 * d + 20 < k → spec_SpotsOf.l1 k acc (t : Int) (waits l[t] j) (j : Int) c l = R (acc ++ spots1 t l[t] d j) := by
  have e := rdCode l t ht
  intro d
  induction d with
  | zero =>
    intro k j acc hj hd ha hk
    obtain ⟨k, rfl⟩ : ∃ m, k = m + 1 := ⟨k - 1, by omega⟩
    simp only [spec_SpotsOf.l1, spots1, List.append_nil, rd_L5, e]
    rw [if_pos (by omega), if_pos (by omega), if_neg (by omega), wrap_succ ht (by omega)]
    exact hR k acc (by omega) (by omega)
  | succ d ih =>
    intro k j acc hj hd ha hk
    obtain ⟨k, rfl⟩ : ∃ m, k = m + 3 := ⟨k - 3, by omega⟩
    have hlt : j < l[t].length := by omega
    have hr := rdIns l[t] j hlt
    have hcb : candB l[t] j = (decide (l[t][j].f0 = 2) && waits l[t] j) := by unfold candB; rw [hr]
    -- what stands behind: the next place
    have hj3 : ∀ acc : List Spt, acc.length ≤ 16 * t + j + 1 → spec_SpotsOf.j3 (k + 1) acc (t : Int) (waits l[t] j) (j : Int) c l l[t][j].f0 l[t][j].f1 l[t][j].f2 l[t][j].f3 = R (acc ++ spots1 t l[t] d (j + 1)) := by
      intro acc ha
      have hn' := ih k (j + 1) acc (by omega) (by omega) (by omega) (by omega)
      rw [waits_succ l[t] j hlt] at hn'
      unfold nextB at hn'
      simp only [spec_SpotsOf.j3]
      rw [specHas, wrap_succ hlt (by omega)]
      simp only [Option.bind_some]
      by_cases a : l[t][j].f0 = 3
      · have hw : waitsB l[t][j] = false := by unfold waitsB; simp [a]
        rw [hw, if_neg (by decide), if_neg (by omega), if_pos a] at hn'
        rw [if_pos a, hw, if_neg (by decide), if_neg (by omega)]
        exact hn'
      · rw [if_neg a]
        by_cases b : waitsB l[t][j] = true
        · rw [if_pos b] at hn'
          rw [if_pos b]
          exact hn'
        · rw [if_neg b] at hn'
          rw [if_neg b]
          by_cases c6 : l[t][j].f0 = 6
          · rw [if_pos c6] at hn'
            rw [if_pos c6]
            exact hn'
          · rw [if_neg c6, if_neg a] at hn'
            rw [if_neg c6]
            exact hn'
    simp only [spec_SpotsOf.l1, spots1, rd_L5, e]
    rw [if_pos (by omega), if_pos (by omega), if_pos (by omega), if_pos (by omega), hr, hcb]
    have hj2 : ∀ b : Bool, spec_SpotsOf.j2 (k + 2) acc (t : Int) (waits l[t] j) (j : Int) b c l l[t][j].f0 l[t][j].f1 l[t][j].f2 l[t][j].f3 = R (acc ++ ((if b = true then [(⟨(t : Int), (j : Int)⟩ : Spt)] else []) ++ spots1 t l[t] d (j + 1))) := by
      intro b
      simp only [spec_SpotsOf.j2]
      by_cases hb : b = true
      · rw [if_pos hb, if_pos (by omega), if_pos hb, hj3 _ (by simp; omega), List.append_assoc]
      · rw [if_neg hb, if_neg hb, hj3 _ (by omega), List.nil_append]
    by_cases c2 : l[t][j].f0 = 2
    · rw [if_pos c2, hj2 (waits l[t] j), decide_eq_true c2, Bool.true_and]
    · rw [if_neg c2, hj2 false, decide_eq_false c2, Bool.false_and]
theorem spec_spotsAll (c : Int) (l : List (List Ins)) (hl : l.length ≤ 3) (hq : ∀ q ∈ l, q.length ≤ 16) : ∀ d k (t : Nat) (acc : List Spt), t ≤ l.length → l.length - t = d → acc.length ≤ 16 * t → d * 100 < k → spec_SpotsOf.l0 k acc (t : Int) c l = some (acc ++ spotsAll l d t) := by
  intro d
  induction d with
  | zero =>
    intro k t acc ht hd ha hk
    obtain ⟨k, rfl⟩ : ∃ m, k = m + 1 := ⟨k - 1, by omega⟩
    simp only [spec_SpotsOf.l0, spotsAll, List.append_nil]
    rw [if_neg (by omega)]
  | succ d ih =>
    intro k t acc ht hd ha hk
    obtain ⟨k, rfl⟩ : ∃ m, k = m + 1 := ⟨k - 1, by omega⟩
    have hlt : t < l.length := by omega
    have e := rdCode l t hlt
    have e2 : l.getD t [] = l[t] := by simpa using e
    have h16 := hq _ (List.getElem_mem hlt)
    simp only [spec_SpotsOf.l0, spotsAll, e2]
    rw [if_pos (by omega)]
    have := spec_spots1 c l t hlt hl h16 (fun acc => some (acc ++ spotsAll l d (t + 1))) (d * 100 + 1) (fun k acc hk ha => ih k (t + 1) acc (by omega) (by omega) (by omega) (by omega)) l[t].length k 0 acc (Nat.zero_le _) (by omega) (by omega) (by omega)
    have h0 : spec_SpotsOf.l1 k acc (t : Int) false 0 c l = _ := this
    rw [h0, List.append_assoc]
theorem spec_spots (c : Int) (l : List (List Ins)) (k : Nat) (hk : 400 ≤ k) : spec_SpotsOf.f k c l = some (spotsV c l) := by
  unfold spec_SpotsOf.f spotsV
  rw [spec_progOk c l k (by omega), Option.bind_some]
  by_cases h : progB c l = true
  · rw [if_pos h, if_pos h]
    obtain ⟨_, h2, h3⟩ := progB_facts h
    have := spec_spotsAll c l (by omega) h3 l.length k 0 [] (Nat.zero_le _) (by omega) (by simp) (by omega)
    simpa using this
  · rw [if_neg h, if_neg h]
theorem spotsV_len (c : Int) (l : List (List Ins)) : (spotsV c l).length ≤ 48 := by
  unfold spotsV
  by_cases h : progB c l = true
  · rw [if_pos h]
    obtain ⟨_, h2, h3⟩ := progB_facts h
    have := spotsAll_len l h3 l.length 0 (by omega)
    omega
  · rw [if_neg h]
    simp
theorem markSpotS (l : List Spt) (a : Int) (hl : l.length ≤ 1048576) (h0 : 0 ≤ a) (h1 : a ≤ 9000000000000000000) :
    ∃ l', l'.length = l.length ∧ ∀ k, l.length < k → laws_markSpotS.f k l a = some (a + 2 * l.length, l') ∧ laws_heldSpotS.f k l' a = some (a + 2 * l.length) := by
  have := marked 2 (fun a _ => (⟨a, a + 1⟩ : Spt)) laws_markSpotS.l0 laws_heldSpotS.l0
    (fun k p x r a h0 h1 h2 => by
      have e : ((p ++ x :: r).length : Int) = p.length + r.length + 1 := by simp; omega
      have e2 : rd_T96 (p ++ (⟨a, x.f1⟩ : Spt) :: r) (p.length : Int) = ⟨a, x.f1⟩ := by rw [rdSpt _ p.length (by simp), get_mid]
      have e3 : rd_T96 (p ++ x :: r) (p.length : Int) = x := by rw [rdSpt _ p.length (by simp), get_mid]
      simp only [laws_markSpotS.l0, Option.bind_some]
      rw [if_pos (by omega), if_pos (by omega), Int.toNat_natCast, e3, set_mid, e2, set_mid, wrap_id (x := a + 1) (by omega) (by omega), wrap_id (x := a + 1 + 1) (by omega) (by omega), wrap_succ (n := (p ++ x :: r).length) (by omega) h2, show a + 1 + 1 = a + (2 : Nat) from by omega])
    (fun k p a => by simp only [laws_markSpotS.l0]; rw [if_neg (by omega)])
    (fun k p x r a h0 h1 h2 => by
      have e : ((p ++ (⟨a, a + 1⟩ : Spt) :: r).length : Int) = p.length + r.length + 1 := by simp; omega
      simp only [laws_heldSpotS.l0]
      rw [if_pos (by omega), if_pos (by omega), rdSpt _ p.length (by simp), get_mid, if_pos rfl, wrap_id (x := a + 1) (by omega) (by omega), if_pos rfl, wrap_id (x := a + 1 + 1) (by omega) (by omega), wrap_succ (n := (p ++ (⟨a, a + 1⟩ : Spt) :: r).length) (by omega) h2, show a + 1 + 1 = a + (2 : Nat) from by omega])
    (fun k p a => by simp only [laws_heldSpotS.l0]; rw [if_neg (by omega)]) l [] a (by simp; omega) h0 (by omega)
  simpa [laws_markSpotS.f, laws_heldSpotS.f] using this
theorem FnExactSpotsOf : laws_FnExactSpotsOf.Left := by
  intro c l h
  refine ⟨2500000, ?_⟩
  unfold laws_FnExactSpotsOf.f
  obtain ⟨n, hn, hz⟩ := szProg c l 1048576 h.1 h.2 (by omega) (by omega) 2500000 (by omega)
  rw [hn, Option.bind_some]
  by_cases hneg : n < 0
  · rw [if_pos hneg]
  · rw [if_neg hneg]
    rcases hz with hz | ⟨h0, _, hl, hq⟩
    · exact absurd hz hneg
    · have hl' : l.length ≤ 1048576 := by omega
      have hq' : ∀ q ∈ l, q.length ≤ 1048576 := fun q hx => by have := hq q hx; omega
      have hcl : (cpProg l).length ≤ 1048576 := by rw [cpProg_len]; exact hl'
      have hcq := cpProg_small hq'
      have s1 := spotsV_len c (cpProg l)
      obtain ⟨t, ht0, ht⟩ := markProg c (cpProg l) 1 hcl hcq (by omega) (by omega)
      obtain ⟨u, _, hu⟩ := markSpotS (spotsV c (cpProg l)) 1 (by omega) (by omega) (by omega)
      have e1 := eqSpots_same (spotsV c (cpProg l)) (by omega) 2500000 (by omega)
      have e2 := eqProg_same c (cpProg l) (by show _ ≤ _; omega) hcq 2500000 (by omega)
      have nt : ¬ t < 0 := by omega
      have nu : ¬ (1 + 2 * ((spotsV c (cpProg l)).length : Int) < 0) := by omega
      simp only [toProg c l 2500000 hl' hq' (by omega), Option.bind_some, spec_spots c (cpProg l) 2500000 (by omega), impl_spots c (cpProg l) 2500000 (by omega), e1, e2, if_true, ht 2500000 (by omega), (hu 2500000 (by omega)).1, (hu 2500000 (by omega)).2, if_neg nt, if_neg nu]

end Go.Proofs.Ytlfbdafghpmahaa.Pure
