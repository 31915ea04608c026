import Derived.Test.YtlfbdafghpmahaaPlawsFnExactMoves
import Derived.Test.YtlfbdafghpmahaaCan
import Derived.Test.YtlfbdafghpmahaaMarkCodes
import Derived.Test.YtlfbdafghpmahaaMarkMach
-- Written by mp.py (the session's own driver over the kit's printer) for the seat Ytlfbdafghpmahaa.
namespace Go.Proofs.Ytlfbdafghpmahaa.P
open Go.RowKit Go.Proofs.YtlfbdafghpmahaaW.PrintWords Go.Proofs.YtlfbdafghpmahaaW.PrintLast Go.Proofs.YtlfbdafghpmahaaW.PrintMore
attribute [local go_sem] max2_int min2_int max_two min_two max_three min_three max_four min_four
set_option linter.unusedVariables false
set_option linter.unusedSimpArgs false

/-- What is left of the law FnExactMoves: no program and no memory in it. -/
def laws_FnExactMoves.Left : Prop := ∀ (a0_0 : Int) (l0_1 : List (List (S84))) (l1_0 : List Int) (l1_1 : List (S147)), (l0_1.length ≤ 9223372036854775807 ∧ ∀ q_ ∈ l0_1, q_.length ≤ 9223372036854775807) → (l1_0.length ≤ 9223372036854775807) → (l1_1.length ≤ 9223372036854775807 ∧ ∀ q_ ∈ l1_1, ((q_.f1.length ≤ 9223372036854775807) ∧ (q_.f2.length ≤ 9223372036854775807))) → ∃ k, laws_FnExactMoves.f k a0_0 l0_1 l1_0 l1_1 = some true
end Go.Proofs.Ytlfbdafghpmahaa.P

/- The law FnExactMoves answers true: the program's Moves gives what the reference's gives, for every program and machine, in memory of its own, and leaves both as they were. No condition. -/
namespace Go.Proofs.Ytlfbdafghpmahaa.Pure
open Go.RowKit Go.Proofs.Ytlfbdafghpmahaa.P Go.Proofs.Ytlfbdafghpmahaa.Gen Go.Proofs.YtlfbdafghpmahaaW.PrintWords
set_option linter.unusedSimpArgs false
set_option linter.unusedVariables false

abbrev Mv := S127
theorem rdMv (l : List Mv) (j : Nat) (h : j < l.length) : rd_T127 l (j : Int) = l[j] := getD_nat _ l j h
def canI (l : List (List Ins)) (ths : List Thr) (i : Nat) (d : Bool) : Bool := canT (l.getD i []) (rd_T102 ths (i : Int)) d
def mvs (l : List (List Ins)) (ths : List Thr) (i : Nat) (d : Bool) : List Mv := if canI l ths i d = true then [(⟨(i : Int), d⟩ : Mv)] else []
def movesAll (l : List (List Ins)) (ths : List Thr) : Nat → Nat → List Mv
  | 0, _ => []
  | d + 1, i => (mvs l ths i false ++ mvs l ths i true) ++ movesAll l ths d (i + 1)
theorem mvs_len (l : List (List Ins)) (ths : List Thr) (i : Nat) (d : Bool) : (mvs l ths i d).length ≤ 1 := by unfold mvs; split <;> simp
theorem movesAll_len (l : List (List Ins)) (ths : List Thr) : ∀ d i, (movesAll l ths d i).length ≤ 2 * d := by
  intro d
  induction d with
  | zero => intro i; exact Nat.le_refl _
  | succ d ih =>
    intro i
    have := ih (i + 1)
    have := mvs_len l ths i false
    have := mvs_len l ths i true
    simp only [movesAll, List.length_append]
    omega
theorem spec_moves (c : Int) (l : List (List Ins)) (m : List Int) (ths : List Thr) (h : machB c l m ths = true) : ∀ d k (i : Nat) (acc : List Mv), i + d = ths.length → acc.length ≤ 2 * i → d < k → spec_l04Moves.l0 k acc (i : Int) c l m ths = some (acc ++ movesAll l ths d i) := by
  obtain ⟨hp, h2, _⟩ := machB_facts h
  obtain ⟨_, ⟨_, h3⟩, _⟩ := progB_facts hp
  intro d
  induction d with
  | zero =>
    intro k i acc hi ha hk
    obtain ⟨k, rfl⟩ : ∃ q, k = q + 1 := ⟨k - 1, by omega⟩
    simp only [spec_l04Moves.l0, movesAll, List.append_nil]
    rw [if_neg (by omega)]
  | succ d ih =>
    intro k i acc hi ha hk
    obtain ⟨k, rfl⟩ : ∃ q, k = q + 1 := ⟨k - 1, by omega⟩
    have hc := fun b => spec_can c l m ths h (i : Int) b (by omega) (by omega)
    have e : ∀ b, canT (l.getD (i : Int).toNat []) (rd_T102 ths (i : Int)) b = canI l ths i b := fun b => rfl
    have hn := fun acc ha => ih k (i + 1) acc (by omega) ha (by omega)
    simp only [spec_l04Moves.l0, movesAll, Option.bind_some, hc, e]
    rw [if_pos (by omega), wrap_succ (n := ths.length) (by omega) (by omega)]
    unfold mvs
    by_cases b0 : canI l ths i false = true
    · rw [if_pos b0, if_pos b0, if_pos (by omega)]
      by_cases b1 : canI l ths i true = true
      · rw [if_pos b1, if_pos b1, if_pos (by simp; omega), hn _ (by simp; omega)]
        simp
      · rw [if_neg b1, if_neg b1, hn _ (by simp; omega)]
        simp
    · rw [if_neg b0, if_neg b0]
      by_cases b1 : canI l ths i true = true
      · rw [if_pos b1, if_pos b1, if_pos (by omega), hn _ (by simp; omega)]
        simp
      · rw [if_neg b1, if_neg b1, hn _ (by omega)]
        simp
theorem impl_moves_ (c : Int) (l : List (List Ins)) (m : List Int) (ths : List Thr) (h : machB c l m ths = true) : ∀ d k (i : Nat) (acc : List Mv), i + d = ths.length → acc.length ≤ 2 * i → 5 * d < k → impl_moves.l0 k acc (ths.length : Int) (i : Int) c l m ths = some (acc ++ movesAll l ths d i) := by
  obtain ⟨hp, h2, _⟩ := machB_facts h
  obtain ⟨_, ⟨_, h3⟩, _⟩ := progB_facts hp
  intro d
  induction d with
  | zero =>
    intro k i acc hi ha hk
    obtain ⟨k, rfl⟩ : ∃ q, k = q + 1 := ⟨k - 1, by omega⟩
    simp only [impl_moves.l0, movesAll, List.append_nil]
    rw [if_neg (by omega)]
  | succ d ih =>
    intro k i acc hi ha hk
    obtain ⟨k, rfl⟩ : ∃ q, k = q + 4 := ⟨k - 4, by omega⟩
    have hin : inB (i : Int) 0 ((ths.length : Int) - 1) = true := inB_true.2 (by omega)
    have hc := fun b => impl_can c l m ths h (i : Int) b
    have e : ∀ b, canT (l.getD (i : Int).toNat []) (rd_T102 ths (i : Int)) b = canI l ths i b := fun b => rfl
    have hn := fun acc ha => ih k (i + 1) acc (by omega) ha (by omega)
    have w0 : wrap64 ((0 : Int) + 1) = 1 := wrap_id (by omega) (by omega)
    have w1 : wrap64 ((1 : Int) + 1) = 2 := wrap_id (by omega) (by omega)
    have w2 : wrap64 ((i : Int) + 1) = ((i + 1 : Nat) : Int) := wrap_succ (n := ths.length) (by omega) (by omega)
    have d0 : ((0 : Int) == 1) = false := by decide
    have d1 : ((1 : Int) == 1) = true := by decide
    have k0 : (0 : Int) < 2 := by decide
    have k1 : (0 : Int) ≥ 0 := by decide
    have k2 : (1 : Int) < 2 := by decide
    have k3 : (1 : Int) ≥ 0 := by decide
    have k4 : ¬ ((2 : Int) < 2) := by decide
    have l2 : ∀ acc, acc.length ≤ 2 * (i + 1) → impl_moves.l1 (k + 1) acc (i : Int) (ths.length : Int) (i : Int) 2 c l m ths = some (acc ++ movesAll l ths d (i + 1)) := fun acc ha => by
      simp only [impl_moves.l1]
      rw [if_neg k4, w2, hn acc ha]
    have l1 : ∀ acc, acc.length ≤ 2 * i + 1 → impl_moves.l1 (k + 2) acc (i : Int) (ths.length : Int) (i : Int) 1 c l m ths = some ((acc ++ mvs l ths i true) ++ movesAll l ths d (i + 1)) := fun acc ha => by
      rw [impl_moves.l1]
      rw [if_pos k2, if_pos k3, d1, hc, hin, Bool.true_and, e, Option.bind_some, w1]
      unfold mvs
      by_cases b1 : canI l ths i true = true
      · rw [if_pos b1, if_pos b1, if_pos (by omega), l2 _ (by simp; omega)]
      · rw [if_neg b1, if_neg b1, l2 _ (by omega), List.append_nil]
    rw [impl_moves.l0, if_pos (by omega), impl_moves.l1]
    rw [if_pos k0, if_pos k1, d0, hc, hin, Bool.true_and, e, Option.bind_some, w0]
    simp only [movesAll]
    by_cases b0 : canI l ths i false = true
    · have hm : mvs l ths i false = [(⟨(i : Int), false⟩ : Mv)] := by unfold mvs; rw [if_pos b0]
      rw [if_pos b0, if_pos (by omega), l1 _ (by simp; omega), hm]
      simp
    · have hm : mvs l ths i false = [] := by unfold mvs; rw [if_neg b0]
      rw [if_neg b0, l1 _ (by omega), hm]
      simp
def movesV (c : Int) (l : List (List Ins)) (m : List Int) (ths : List Thr) : List Mv := if machB c l m ths = true then movesAll l ths ths.length 0 else []
theorem spec_movesV (c : Int) (l : List (List Ins)) (m : List Int) (ths : List Thr) (hm : m.length ≤ 1048576) (ht : ths.length ≤ 1048576) (k : Nat) (hk : 1048600 ≤ k) : spec_Moves.f k c l m ths = some (movesV c l m ths) := by
  unfold spec_Moves.f movesV
  rw [spec_machineOk c l m ths hm ht k (by omega), Option.bind_some]
  by_cases h : machB c l m ths = true
  · rw [if_pos h, if_pos h]
    have := spec_moves c l m ths h ths.length k 0 [] (by omega) (by simp) (by omega)
    have h0 : spec_l04Moves.f k c l m ths = some (movesAll l ths ths.length 0) := this
    rw [h0]
    rfl
  · rw [if_neg h, if_neg h]
theorem impl_movesV (c : Int) (l : List (List Ins)) (m : List Int) (ths : List Thr) (k : Nat) (hk : 300 ≤ k) : impl_Moves.f k c l m ths = some (movesV c l m ths) := by
  unfold impl_Moves.f movesV
  rw [impl_machineOk c l m ths k (by omega), Option.bind_some]
  by_cases h : machB c l m ths = true
  · obtain ⟨hp, h2, _⟩ := machB_facts h
    obtain ⟨_, ⟨_, h3⟩, _⟩ := progB_facts hp
    rw [if_pos h, if_pos h]
    have := impl_moves_ c l m ths h ths.length k 0 [] (by omega) (by simp) (by omega)
    have h0 : impl_moves.f k c l m ths = some (movesAll l ths ths.length 0) := this
    rw [h0]
    rfl
  · rw [if_neg h, if_neg h]
theorem movesV_len (c : Int) (l : List (List Ins)) (m : List Int) (ths : List Thr) : (movesV c l m ths).length ≤ 6 := by
  unfold movesV
  by_cases h : machB c l m ths = true
  · obtain ⟨hp, h2, _⟩ := machB_facts h
    obtain ⟨_, ⟨_, h3⟩, _⟩ := progB_facts hp
    rw [if_pos h]
    have := movesAll_len l ths ths.length 0
    omega
  · rw [if_neg h]
    simp
theorem eqMoves_same (l : List Mv) (hl : l.length ≤ 1048576) (k : Nat) (hk : l.length < k) : laws_eqMoveS.f k l l = some true := by
  unfold laws_eqMoveS.f
  rw [if_pos rfl]
  have := loop_all l (fun _ => true) (fun k i => laws_eqMoveS.l0 k l l i) (fun k j hj => by
    simp only [laws_eqMoveS.l0, laws_eqMove.f]
    rw [if_pos (by omega), if_pos (by omega), if_pos (by omega), wrap_succ hj (by omega)]
    simp) (fun k => by
    simp only [laws_eqMoveS.l0]
    rw [if_neg (by omega)]) k hk
  rw [this]
  simp
theorem markMoveS (l : List Mv) (a : Int) (hl : l.length ≤ 1048576) (h0 : 0 ≤ a) (h1 : a ≤ 9000000000000000000) :
    ∃ l', l'.length = l.length ∧ ∀ k, l.length < k → laws_markMoveS.f k l a = some (a + 2 * l.length, l') ∧ laws_heldMoveS.f k l' a = some (a + 2 * l.length) := by
  have := marked 2 (fun a _ => (⟨a, (Int.tmod (a + 1) 3) == 0⟩ : Mv)) laws_markMoveS.l0 laws_heldMoveS.l0
    (fun k p x r a h0 h1 h2 => by
      have e : ((p ++ x :: r).length : Int) = p.length + r.length + 1 := by simp; omega
      have e2 : rd_T127 (p ++ (⟨a, x.f1⟩ : Mv) :: r) (p.length : Int) = ⟨a, x.f1⟩ := by rw [rdMv _ p.length (by simp), get_mid]
      have e3 : rd_T127 (p ++ x :: r) (p.length : Int) = x := by rw [rdMv _ p.length (by simp), get_mid]
      simp only [laws_markMoveS.l0, Option.bind_some]
      rw [if_pos (by omega), if_pos (by omega), Int.toNat_natCast, e3, set_mid, e2, set_mid, wrap_id (x := a + 1) (by omega) (by omega), wrap_id (x := a + 1 + 1) (by omega) (by omega), wrap_succ (n := (p ++ x :: r).length) (by omega) h2, show a + 1 + 1 = a + (2 : Nat) from by omega])
    (fun k p a => by simp only [laws_markMoveS.l0]; rw [if_neg (by omega)])
    (fun k p x r a h0 h1 h2 => by
      have e : ((p ++ (⟨a, (Int.tmod (a + 1) 3) == 0⟩ : Mv) :: r).length : Int) = p.length + r.length + 1 := by simp; omega
      simp only [laws_heldMoveS.l0]
      rw [if_pos (by omega), if_pos (by omega), rdMv _ p.length (by simp), get_mid, if_pos rfl, wrap_id (x := a + 1) (by omega) (by omega), if_neg (by simp), wrap_id (x := a + 1 + 1) (by omega) (by omega), wrap_succ (n := (p ++ (⟨a, (Int.tmod (a + 1) 3) == 0⟩ : Mv) :: r).length) (by omega) h2, show a + 1 + 1 = a + (2 : Nat) from by omega])
    (fun k p a => by simp only [laws_heldMoveS.l0]; rw [if_neg (by omega)]) l [] a (by simp; omega) h0 (by omega)
  simpa [laws_markMoveS.f, laws_heldMoveS.f] using this
theorem FnExactMoves : laws_FnExactMoves.Left := by
  intro c l m l1 hl hm hl1
  have hl1' : LenThr l1 := hl1
  refine ⟨3145730, ?_⟩
  unfold laws_FnExactMoves.f
  obtain ⟨n, hn, hs⟩ := szProg c l 1048576 hl.1 hl.2 (by omega) (by omega) 3145730 (by omega)
  rw [hn, Option.bind_some]
  by_cases h0 : n < 0
  · rw [if_pos h0]
  · rw [if_neg h0]
    rcases hs with hs | ⟨_, a1, a2, a3⟩
    · exact absurd hs h0
    · obtain ⟨n', hn', hs'⟩ := szMachine m l1 n hm hl1' (by omega) (by omega) 3145730 (by omega)
      rw [hn', Option.bind_some]
      by_cases h0' : n' < 0
      · rw [if_pos h0']
      · rw [if_neg h0']
        rcases hs' with hs' | ⟨_, b1, b2, b3, b4⟩
        · exact absurd hs' h0'
        · have s1 := cpThrs_len l1
          have s2 := cpThrs_small b4
          have s3 : ∀ q ∈ l, q.length ≤ 1048576 := fun q hq => by have := a3 q hq; omega
          have s4 := cpProg_len l
          have s5 := cpProg_small s3
          have s6 := movesV_len c (cpProg l) m (cpThrs l1)
          obtain ⟨t, ht0, ht1, ht⟩ := markProg_le c (cpProg l) 1 (by omega) s5 (by omega) (by omega)
          obtain ⟨u, hu0, hu⟩ := markMachine m (cpThrs l1) t (by omega) (by omega) s2 (by omega) (by omega)
          obtain ⟨l', _, hv⟩ := markMoveS (movesV c (cpProg l) m (cpThrs l1)) 1 (by omega) (by omega) (by omega)
          have e1 := eqMoves_same (movesV c (cpProg l) m (cpThrs l1)) (by omega) 3145730 (by omega)
          have e2 := eqProg_same c (cpProg l) (by show _ ≤ _; omega) s5 3145730 (by omega)
          have e3 := eqMachine_same m (cpThrs l1) (by omega) (by omega) s2 3145730 (by omega)
          have nu : ¬ u < 0 := by omega
          have nv : ¬ (1 + 2 * ((movesV c (cpProg l) m (cpThrs l1)).length : Int) < 0) := by omega
          simp only [toProg c l 3145730 (by omega) s3 (by omega), toMachine m l1 3145730 (by omega) (by omega) b4 (by omega), Option.bind_some, spec_movesV c (cpProg l) m (cpThrs l1) (by omega) (by omega) 3145730 (by omega), impl_movesV c (cpProg l) m (cpThrs l1) 3145730 (by omega), e1, e2, e3, if_true, ht 3145730 (by omega), hu 3145730 (by omega), if_neg nu, (hv 3145730 (by omega)).1, (hv 3145730 (by omega)).2, if_neg nv]

end Go.Proofs.Ytlfbdafghpmahaa.Pure
