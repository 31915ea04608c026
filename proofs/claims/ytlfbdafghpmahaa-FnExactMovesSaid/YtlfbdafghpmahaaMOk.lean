/- Is a machine valid for a program: the program's test and the reference's, as one Bool. No condition but that lengths are small. -/
import Derived.Test.YtlfbdafghpmahaaPrg
import Derived.Test.YtlfbdafghpmahaaMach
import Derived.Test.YtlfbdafghpmahaaPspecMachineOk
import Derived.Test.YtlfbdafghpmahaaPimplMachineOk
namespace Go.Proofs.Ytlfbdafghpmahaa.Gen
/-- A loop that asks one thing of every element and then goes on. -/
theorem loop_all_then {α : Type} (l : List α) (p : α → Bool) (F : Nat → Int → Option Bool) (R : Option Bool) (K : Nat)
    (hs : ∀ k (j : Nat) (h : j < l.length), K ≤ k → F (k + 1) (j : Int) = if p l[j] = true then F k ((j + 1 : Nat) : Int) else some false)
    (he : ∀ k, K ≤ k → F (k + 1) (l.length : Int) = R) (k : Nat) (hk : K + l.length < k) : F k 0 = if l.all p = true then R else some false := by
  have key : ∀ d k (j : Nat), j ≤ l.length → l.length - j = d → K + d < k → F k (j : Int) = if (l.drop j).all p = true then R else some false := by
    intro d
    induction d with
    | zero =>
      intro k j hj hd hk
      obtain ⟨k, rfl⟩ : ∃ m, k = m + 1 := ⟨k - 1, by omega⟩
      obtain rfl : j = l.length := by omega
      rw [he k (by omega), List.drop_length]
      rfl
    | succ d ih =>
      intro k j hj hd hk
      obtain ⟨k, rfl⟩ : ∃ m, k = m + 1 := ⟨k - 1, by omega⟩
      have hlt : j < l.length := by omega
      rw [hs k j hlt (by omega), List.drop_eq_getElem_cons hlt, List.all_cons]
      by_cases c : p l[j] = true
      · rw [if_pos c, ih k (j + 1) (by omega) (by omega) (by omega), c, Bool.true_and]
      · rw [if_neg c]
        simp [c]
  have := key l.length k 0 (Nat.zero_le _) (by omega) hk
  simpa using this
/-- A loop over two lists of one length that asks one thing of each pair; c is what a round takes. -/
theorem loop_zip {α β : Type} (l : List α) (m : List β) (hl : l.length = m.length) (p : α → β → Bool) (F : Nat → Int → Option Bool) (c K : Nat)
    (hs : ∀ k (j : Nat) (h : j < l.length) (h' : j < m.length) (R : Option Bool), K < k → c ≤ k → (∀ k', k ≤ k' + c → F k' ((j + 1 : Nat) : Int) = R) → F k (j : Int) = if p l[j] m[j] = true then R else some false)
    (he : ∀ k, F (k + 1) (m.length : Int) = some true) (k : Nat) (hk : K + m.length * c + c < k) : F k 0 = some ((l.zip m).all fun z => p z.1 z.2) := by
  have key : ∀ d k (j : Nat), j ≤ m.length → m.length - j = d → K + d * c + c < k → F k (j : Int) = some (((l.drop j).zip (m.drop j)).all fun z => p z.1 z.2) := by
    intro d
    induction d with
    | zero =>
      intro k j hj hd hk
      obtain ⟨k, rfl⟩ : ∃ m, k = m + 1 := ⟨k - 1, by omega⟩
      obtain rfl : j = m.length := by omega
      rw [he k, List.drop_length, List.zip_nil_right]
      rfl
    | succ d ih =>
      intro k j hj hd hk
      have hlt : j < m.length := by omega
      have hlt' : j < l.length := by omega
      rw [Nat.succ_mul] at hk
      rw [hs k j hlt' hlt (some (((l.drop (j + 1)).zip (m.drop (j + 1))).all fun z => p z.1 z.2)) (by omega) (by omega) (fun k' hk' => ih k' (j + 1) (by omega) (by omega) (by omega)), List.drop_eq_getElem_cons hlt, List.drop_eq_getElem_cons hlt', List.zip_cons_cons, List.all_cons]
      by_cases e : p l[j] m[j] = true
      · rw [if_pos e]
        simp [e]
      · rw [if_neg e]
        simp [e]
  have := key m.length k 0 (Nat.zero_le _) (by omega) (by omega)
  simpa using this
end Go.Proofs.Ytlfbdafghpmahaa.Gen
namespace Go.Proofs.Ytlfbdafghpmahaa.Pure
open Go.RowKit Go.Proofs.Ytlfbdafghpmahaa.P Go.Proofs.Ytlfbdafghpmahaa.Gen Go.Proofs.YtlfbdafghpmahaaW.PrintWords

/-- Is a thread valid, of a program with c cells, whose code is q? -/
def thrB (c : Int) (q : List Ins) (t : Thr) : Bool :=
  inB t.f0 0 (q.length : Int) && (decide ((t.f1.length : Int) = 4) && (bufB t.f2 && (t.f1.all valB && t.f2.all fun s => decide (s.f0 < c))))
def thrsB (c : Int) (l : List (List Ins)) (ths : List Thr) : Bool := (l.zip ths).all fun z => thrB c z.1 z.2
def machB (c : Int) (l : List (List Ins)) (m : List Int) (ths : List Thr) : Bool :=
  progB c l && (memB m && (decide ((m.length : Int) = c) && (decide (ths.length = l.length) && thrsB c l ths)))
theorem rdThr' (l : List Thr) (j : Nat) (h : j < l.length) : rd_T102 l (j : Int) = l[j] := getD_nat _ l j h
theorem spec_thr (c : Int) (l : List (List Ins)) (m : List Int) (ths : List Thr) (j : Nat) (t : Thr) (R : Option Bool) (K : Nat) (hR : ∀ k, K ≤ k → spec_MachineOk.l0 k ((j + 1 : Nat) : Int) c l m ths = R)
    (hj : j < ths.length) (hl : ths.length ≤ 1048576) (hv : t.f1.length = 4) (hb : t.f2.length ≤ 3) (k : Nat) (hk : K + 12 ≤ k) :
    spec_MachineOk.l1 k (j : Int) 0 c l m ths t.f0 t.f1 t.f2 = if (t.f1.all valB && t.f2.all fun s => decide (s.f0 < c)) = true then R else some false := by
  have h2 : ∀ k, K + 5 ≤ k → spec_MachineOk.l2 k (j : Int) 0 c l m ths t.f0 t.f1 t.f2 = if (t.f2.all fun s => decide (s.f0 < c)) = true then R else some false := fun k hk =>
    loop_all_then t.f2 (fun s => decide (s.f0 < c)) (fun k i => spec_MachineOk.l2 k (j : Int) i c l m ths t.f0 t.f1 t.f2) R K (fun k i hi hK => by
      simp only [spec_MachineOk.l2]
      rw [if_pos (by omega), if_pos (by omega), rdSlot _ _ hi, wrap_succ hi (by omega)]
      by_cases h : t.f2[i].f0 < c
      · rw [if_neg (by omega)]; simp [h]
      · rw [if_pos (by omega)]; simp [h]) (fun k hK => by
      simp only [spec_MachineOk.l2]
      rw [if_neg (by omega), wrap_succ hj (by omega), hR k hK]) k (by omega)
  have := loop_all_then t.f1 valB (fun k i => spec_MachineOk.l1 k (j : Int) i c l m ths t.f0 t.f1 t.f2) (if (t.f2.all fun s => decide (s.f0 < c)) = true then R else some false) (K + 5) (fun k i hi _ => by
      simp only [spec_MachineOk.l1]
      rw [if_pos (by omega), if_pos (by omega), rd_nat _ _ hi, l01Value, Option.bind_some, wrap_succ hi (by omega)]) (fun k hK => by
      simp only [spec_MachineOk.l1]
      rw [if_neg (by omega), h2 k hK]) k (by omega)
  rw [this]
  cases t.f1.all valB <;> simp
theorem spec_thrs (c : Int) (l : List (List Ins)) (m : List Int) (ths : List Thr) (he : l.length = ths.length) (hl : ths.length ≤ 3) (k : Nat) (hk : 100 ≤ k) : spec_MachineOk.l0 k 0 c l m ths = some (thrsB c l ths) := by
  unfold thrsB
  refine loop_zip l ths he (thrB c) (fun k i => spec_MachineOk.l0 k i c l m ths) 16 20 (fun k j h h' R hK hc hR => ?_) (fun k => ?_) k (by omega)
  · obtain ⟨k, rfl⟩ : ∃ m, k = m + 1 := ⟨k - 1, by omega⟩
    simp only [spec_MachineOk.l0]
    have e := rdCode l j h
    rw [if_pos (by omega), if_pos (by omega), if_pos (by omega), rdThr' _ _ h']
    simp only [rd_L4, e]
    have hs := spec_thr c l m ths j ths[j] R (k - 14) (fun k' hk' => hR k' (by omega)) h' (by omega)
    generalize ths[j] = t at *
    generalize l[j] = q at *
    obtain ⟨k, rfl⟩ : ∃ m, k = m + 1 := ⟨k - 1, by omega⟩
    unfold thrB
    rw [l01In, Option.bind_some]
    by_cases h1 : inB t.f0 0 (q.length : Int) = true
    · rw [if_pos h1, h1, Bool.true_and]
      by_cases h2 : (t.f1.length : Int) = 4
      · rw [if_pos h2, spec_bufOk t.f2 (k + 1) (by omega), Option.bind_some, decide_eq_true h2, Bool.true_and]
        by_cases h3 : bufB t.f2 = true
        · have hb := bufB_len h3
          simp only [h3, spec_MachineOk.j2, Bool.not_true, Bool.true_and]
          rw [if_neg (by decide), hs (by omega) (by omega) k (by omega)]
        · simp [h3, spec_MachineOk.j2]
      · rw [if_neg h2]
        simp [h2, spec_MachineOk.j2]
    · rw [if_neg h1]
      simp [h1, spec_MachineOk.j2]
  · simp only [spec_MachineOk.l0]
    rw [if_neg (by omega)]
theorem spec_machineOk (c : Int) (l : List (List Ins)) (m : List Int) (ths : List Thr) (_hm : m.length ≤ 1048576) (_ht : ths.length ≤ 1048576) (k : Nat) (hk : 200 ≤ k) : spec_MachineOk.f k c l m ths = some (machB c l m ths) := by
  unfold spec_MachineOk.f machB
  rw [spec_progOk c l k (by omega), Option.bind_some]
  obtain ⟨k, rfl⟩ : ∃ m, k = m + 1 := ⟨k - 1, by omega⟩
  by_cases h : progB c l = true
  · obtain ⟨_, ⟨h1, h2⟩, _⟩ := progB_facts h
    rw [if_pos h, h, Bool.true_and, spec_memOk m (k + 1) (by omega), Option.bind_some]
    by_cases hM : memB m = true
    · rw [if_pos hM, hM, Bool.true_and]
      by_cases hc : (m.length : Int) = c
      · rw [if_pos hc, decide_eq_true hc, Bool.true_and]
        simp only [spec_MachineOk.j0]
        by_cases hl : ths.length = l.length
        · rw [decide_eq_true hl, Bool.true_and, hl, bne_self_eq_false, if_neg (by decide)]
          exact spec_thrs c l m ths hl.symm (by omega) k (by omega)
        · rw [decide_eq_false hl, if_pos (by simp; omega)]
          rfl
      · rw [if_neg hc]
        simp [hc, spec_MachineOk.j0]
    · rw [if_neg hM]
      simp [hM, spec_MachineOk.j0]
  · rw [if_neg h]
    simp [h, spec_MachineOk.j0]
theorem impl_thrs (c : Int) (l : List (List Ins)) (ths : List Thr) (he : l.length = ths.length) (hl : ths.length ≤ 3) (k : Nat) (hk : 20 ≤ k) : impl_isMachine.l0 k ths (ths.length : Int) 0 c l = some (thrsB c l ths) := by
  unfold thrsB
  refine loop_zip l ths he (thrB c) (fun k i => impl_isMachine.l0 k ths (ths.length : Int) i c l) 2 2 (fun k j h h' R hK hc hR => ?_) (fun k => ?_) k (by omega)
  · obtain ⟨k, rfl⟩ : ∃ m, k = m + 2 := ⟨k - 2, by omega⟩
    simp only [impl_isMachine.l0]
    have e := rdCode l j h
    rw [if_pos (by omega), if_pos (by omega), if_pos (by omega), if_pos (by omega), rdThr' _ _ h']
    have hw := wrap_succ h' (by omega)
    simp only [rd_L4, e]
    generalize ths[j] = t at *
    generalize l[j] = q at *
    unfold thrB
    rw [within, Option.bind_some]
    have hz : (!(t.f2.any fun s => decide (c ≤ s.f0))) = t.f2.all fun s => decide (s.f0 < c) := by
      rw [List.not_any_eq_all_not]
      congr 1
      funext s
      by_cases h : c ≤ s.f0
      · rw [decide_eq_true h, decide_eq_false (by omega)]
        rfl
      · rw [decide_eq_false h, decide_eq_true (by omega)]
        rfl
    by_cases h1 : inB t.f0 0 (q.length : Int) = true
    · rw [if_pos h1, h1, Bool.true_and]
      by_cases h2 : (t.f1.length : Int) = 4
      · rw [if_pos h2, areValues, Option.bind_some, decide_eq_true h2, Bool.true_and]
        by_cases h3 : t.f1.all valB = true
        · rw [if_pos h3, impl_bufOk, Option.bind_some, h3, Bool.true_and]
          by_cases h4 : bufB t.f2 = true
          · simp only [h4, impl_isMachine.j2, impl_Slot.f, hw, Bool.not_true, Bool.true_and, Option.bind_some]
            rw [if_neg (by decide), hR k (by omega), ← hz]
            cases t.f2.any fun s => decide (c ≤ s.f0) <;> rfl
          · simp [h4, impl_isMachine.j2]
        · rw [if_neg h3]
          simp [h3, impl_isMachine.j2]
      · rw [if_neg h2]
        simp [h2, impl_isMachine.j2]
    · rw [if_neg h1]
      simp [h1, impl_isMachine.j2]
  · simp only [impl_isMachine.l0]
    rw [if_neg (by omega)]
theorem impl_machineOk (c : Int) (l : List (List Ins)) (m : List Int) (ths : List Thr) (k : Nat) (hk : 30 ≤ k) : impl_MachineOk.f k c l m ths = some (machB c l m ths) := by
  unfold impl_MachineOk.f impl_isMachine.f machB
  obtain ⟨k, rfl⟩ : ∃ m, k = m + 1 := ⟨k - 1, by omega⟩
  rw [impl_progOk, Option.bind_some]
  by_cases h : progB c l = true
  · obtain ⟨_, ⟨h1, h2⟩, _⟩ := progB_facts h
    rw [if_pos h, h, Bool.true_and, impl_memOk, Option.bind_some]
    by_cases hM : memB m = true
    · rw [if_pos hM, hM, Bool.true_and]
      by_cases hc : (m.length : Int) = c
      · rw [if_pos hc, decide_eq_true hc, Bool.true_and]
        simp only [impl_isMachine.j0]
        by_cases hl : ths.length = l.length
        · rw [decide_eq_true hl, Bool.true_and, if_neg (by simp; omega), impl_thrs c l ths hl.symm (by omega) k (by omega)]
          rfl
        · rw [decide_eq_false hl, if_pos (by simp; omega)]
          rfl
      · rw [if_neg hc]
        simp [hc, impl_isMachine.j0]
    · rw [if_neg hM]
      simp [hM, impl_isMachine.j0]
  · rw [if_neg h]
    simp [h]
theorem machB_facts {c : Int} {l : List (List Ins)} {m : List Int} {ths : List Thr} (h : machB c l m ths = true) : progB c l = true ∧ ths.length = l.length ∧ ∀ z ∈ l.zip ths, thrB c z.1 z.2 = true := by
  unfold machB thrsB at h
  simp only [Bool.and_eq_true, decide_eq_true_eq, List.all_eq_true] at h
  exact ⟨h.1, h.2.2.2.1, h.2.2.2.2⟩
theorem thrB_pc {c : Int} {q : List Ins} {t : Thr} (h : thrB c q t = true) : 0 ≤ t.f0 ∧ t.f0 ≤ q.length := by
  unfold thrB at h
  rw [Bool.and_eq_true] at h
  exact inB_true.1 h.1

end Go.Proofs.Ytlfbdafghpmahaa.Pure
