/- A machine's text and its outcome: the program's and the reference's. No condition but that its numbers are ints and its lengths are those of an argument. -/
import Derived.Test.YtchpopocnaoabaaDoorLine
import Derived.Test.YtchpopocnaoabaaDoorBufText
import Derived.Test.YtchpopocnaoabaaDoorMach
import Derived.Test.YtchpopocnaoabaaDoorPimplMachineText
import Derived.Test.YtchpopocnaoabaaDoorPspecMachineText
import Derived.Test.YtchpopocnaoabaaDoorPspecOutcomeOf
import Derived.Test.YtchpopocnaoabaaDoorPspecOutcomeOf
namespace Go.Proofs.YtchpopocnaoabaaDoor.Pure
open Go.RowKit Go.Proofs.YtchpopocnaoabaaDoor.P Go.Proofs.YtchpopocnaoabaaDoor.Gen Go.Proofs.YtchpopocnaoabaaDoorW.PrintWords

def ThrI (t : Thr) : Prop := I64 t.f0 ∧ (∀ x ∈ t.f1, I64 x) ∧ SlotsI t.f2 ∧ t.f2.length ≤ 1048576
def thrOk (t : Thr) : Bool := bufB t.f2 && decide (t.f1.length ≤ 4)
def shownB (m : List Int) (l : List Thr) : Bool := memB m && (decide (l.length ≤ 3) && l.all thrOk)
def valsW (l : List Int) : List UInt8 := (l.map fun v => 32 :: Go.Lib.itoa v).flatten
def thrW (t : Thr) : List UInt8 := [116] ++ Go.Lib.itoa t.f0 ++ valsW t.f1 ++ [32] ++ bufTextW t.f2 ++ [32, 124, 32]
def machTextW (m : List Int) (l : List Thr) : List UInt8 := if shownB m l = true then (l.map thrW).flatten ++ lineW m else []
def outW (t : Thr) : List UInt8 := lineW t.f1 ++ [32, 124, 32]
def outcomeW (m : List Int) (l : List Thr) : List UInt8 := if shownB m l = true then (l.map outW).flatten ++ lineW m else []

theorem t_mk : (⟨#[116]⟩ : ByteArray) = mk [116] := rfl
theorem bar_mk : (⟨#[32, 124, 32]⟩ : ByteArray) = mk [32, 124, 32] := rfl
theorem lineW_len {l : List Int} (hl : l.length ≤ 16) (hv : ∀ x ∈ l, I64 x) : (lineW l).length ≤ 352 := by
  refine Nat.le_trans (join_len [32] 22 _ ?_) ?_
  · intro x hx
    obtain ⟨y, hy, rfl⟩ := List.mem_map.1 hx
    have := itoa_len y (hv y hy).1 (hv y hy).2
    simp only [List.length_cons, List.length_nil]
    omega
  · rw [List.length_map]
    omega
theorem bufTextW_len {l : List Slot} (hi : SlotsI l) : (bufTextW l).length ≤ 132 := by
  unfold bufTextW
  split
  · next hb =>
    have h3 := bufB_len hb
    split
    · simp
    · refine Nat.le_trans (join_len [32] 44 _ ?_) ?_
      · intro x hx
        obtain ⟨y, hy, rfl⟩ := List.mem_map.1 hx
        have := slotW_len (hi y hy)
        simp only [List.length_cons, List.length_nil]
        omega
      · rw [List.length_map]
        omega
  · simp
theorem valsW_cons (x : Int) (r : List Int) : valsW (x :: r) = [32] ++ Go.Lib.itoa x ++ valsW r := by simp [valsW]
theorem flat_cons {α : Type} (f : α → List UInt8) (x : α) (r : List α) : ((x :: r).map f).flatten = f x ++ (r.map f).flatten := by simp
theorem valsW_len (l : List Int) (hv : ∀ x ∈ l, I64 x) : (valsW l).length ≤ l.length * 22 := by
  unfold valsW
  induction l with
  | nil => simp
  | cons x r ih =>
    have h1 := ih (fun y hy => hv y (List.mem_cons_of_mem _ hy))
    have h2 := itoa_len x (hv x (by simp)).1 (hv x (by simp)).2
    simp only [List.map_cons, List.flatten_cons, List.length_append, List.length_cons]
    omega
theorem memTextW_ok {m : List Int} (h : memB m = true) : memTextW m = lineW m := if_pos h
theorem lineW_ne {m : List Int} (h : memB m = true) : lineW m ≠ [] := by
  have hl := memB_len h
  cases m with
  | nil => simp at hl
  | cons x r => exact join_ne _ _ _ (itoa_ne x)
theorem memTextW_len (m : List Int) : (memTextW m).length ≤ 352 := by
  unfold memTextW
  split
  · next h => exact lineW_len (memB_len h).2 (memB_vals h)
  · simp

/-- The values of a thread, in the program's inner loop. -/
theorem impl_vals (m : List Int) (L : List Thr) (x20 x21 : Int) (pc : Int) (vs : List Int) (b : List Slot) (hl : vs.length ≤ 1048576) (hv : ∀ x ∈ vs, I64 x) :
    ∀ d k (j : Nat) (o : List UInt8), j ≤ vs.length → vs.length - j = d → o.length + 22 * d ≤ 4611686018427387904 →
      impl_MachineText.l1 (k + 1 + d) (mk o) L x20 x21 vs (vs.length : Int) (j : Int) m L pc vs b = impl_MachineText.l1 (k + 1) (mk (o ++ valsW (vs.drop j))) L x20 x21 vs (vs.length : Int) (vs.length : Int) m L pc vs b := by
  intro d
  induction d with
  | zero =>
    intro k j o hj hd _
    obtain rfl : j = vs.length := by omega
    rw [List.drop_length]
    simp [valsW]
  | succ d ih =>
    intro k j o hj hd ho
    have hlt : j < vs.length := by omega
    have hx := hv _ (List.getElem_mem hlt)
    have hz := itoa_len _ hx.1 hx.2
    rw [show k + 1 + (d + 1) = (k + 1 + d) + 1 by omega, impl_MachineText.l1]
    rw [if_pos (by omega), if_pos (by omega), if_pos (by omega), rd_nat _ _ hlt, itoaF _ hx.1 hx.2, Option.bind_some, if_pos (by rw [mk_size]; omega), blank_mk, mk_append, if_pos (by rw [mk_size, mk_size, List.length_append, List.length_cons, List.length_nil]; omega), mk_append, wrap_succ hlt (by omega),
      ih k (j + 1) _ (by omega) (by omega) (by simp only [List.length_append, List.length_cons, List.length_nil]; omega), List.drop_eq_getElem_cons hlt, valsW_cons]
    simp only [List.append_assoc]

theorem rdThr1 (l : List Thr) (j : Nat) (h : j < l.length) : rd_T133 l (j : Int) = l[j] := getD_nat _ l j h
theorem thrOk_len {t : Thr} (h : thrOk t = true) : t.f1.length ≤ 4 ∧ bufB t.f2 = true := by
  unfold thrOk at h
  rw [Bool.and_eq_true] at h
  exact ⟨of_decide_eq_true h.2, h.1⟩
theorem thrW_len {t : Thr} (hi : ThrI t) (h : thrOk t = true) : (thrW t).length ≤ 300 := by
  obtain ⟨h1, h2, h3, _⟩ := hi
  have e1 := itoa_len _ h1.1 h1.2
  have e2 := valsW_len _ h2
  have e3 := bufTextW_len h3
  have e4 := (thrOk_len h).1
  unfold thrW
  simp only [List.length_append, List.length_cons, List.length_nil]
  omega

theorem impl_threads (m : List Int) (l : List Thr) (hl : l.length ≤ 3) (hi : ∀ t ∈ l, ThrI t) : ∀ d (j : Nat) k (o : List UInt8), j ≤ l.length → l.length - j = d → 1048700 + 20 * d ≤ k → o.length + 300 * d ≤ 4611686018427387904 →
    impl_MachineText.l0 k (mk o) l (l.length : Int) (j : Int) m l = some (mk (if (l.drop j).all thrOk = true then o ++ ((l.drop j).map thrW).flatten ++ memTextW m else [])) := by
  intro d
  induction d with
  | zero =>
    intro j k o hj hd hk ho
    obtain ⟨k, rfl⟩ : ∃ m, k = m + 1 := ⟨k - 1, by omega⟩
    have hm := memTextW_len m
    simp only [impl_MachineText.l0]
    rw [if_neg (by omega), impl_memText m k (by omega), Option.bind_some, if_pos (by rw [mk_size, mk_size]; omega), mk_append, List.drop_of_length_le (by omega)]
    simp
  | succ d ih =>
    intro j k o hj hd hk ho
    have hlt : j < l.length := by omega
    obtain ⟨h1, h2, h3, h4⟩ := hi _ (List.getElem_mem hlt)
    have e1 := itoa_len _ h1.1 h1.2
    have e2 := valsW_len _ h2
    have e3 := bufTextW_len h3
    rw [List.drop_eq_getElem_cons hlt, List.all_cons]
    obtain ⟨k, rfl⟩ : ∃ q, k = q + 1 := ⟨k - 1, by omega⟩
    simp only [impl_MachineText.l0]
    rw [if_pos (by omega), if_pos (by omega), if_pos (by omega), rdThr1 _ _ hlt, impl_bufOk, Option.bind_some]
    obtain ⟨k, rfl⟩ : ∃ q, k = q + 1 := ⟨k - 1, by omega⟩
    by_cases hb : bufB (l[j]).f2 = true
    · rw [if_pos hb]
      by_cases h5 : (l[j]).f1.length ≤ 4
      · have ho' : thrOk l[j] = true := by unfold thrOk; rw [hb, decide_eq_true h5]; rfl
        rw [decide_eq_false (show ¬ ((l[j]).f1.length : Int) > 4 by omega)]
        simp only [impl_MachineText.j2, Bool.false_eq_true, if_false]
        rw [itoaF _ h1.1 h1.2, Option.bind_some, if_pos (by rw [mk_size]; omega), t_mk, mk_append, if_pos (by rw [mk_size, mk_size, List.length_append, List.length_cons, List.length_nil]; omega), mk_append]
        obtain ⟨k, rfl⟩ : ∃ q, k = q + 1 + (l[j]).f1.length := ⟨k - 1 - (l[j]).f1.length, by omega⟩
        have hv := impl_vals m l (l.length : Int) (j : Int) (l[j]).f0 (l[j]).f1 (l[j]).f2 (by omega) h2 (l[j]).f1.length k 0 (o ++ ([116] ++ Go.Lib.itoa (l[j]).f0)) (by omega) (by omega) (by simp only [List.length_append, List.length_cons, List.length_nil]; omega)
        have hv' : impl_MachineText.l1 (k + 1 + (l[j]).f1.length) (mk (o ++ ([116] ++ Go.Lib.itoa (l[j]).f0))) l (l.length : Int) (j : Int) (l[j]).f1 ((l[j]).f1.length : Int) 0 m l (l[j]).f0 (l[j]).f1 (l[j]).f2 = _ := hv
        rw [hv', List.drop_zero]
        simp only [impl_MachineText.l1]
        rw [if_neg (by omega), impl_bufText _ (by omega) h3 k (by have := bufB_len hb; omega), Option.bind_some, if_pos (by rw [mk_size]; omega), blank_mk, mk_append, if_pos (by rw [mk_size, List.length_append, List.length_cons, List.length_nil]; omega), bar_mk, mk_append,
          if_pos (by rw [mk_size, mk_size]; simp only [List.length_append, List.length_cons, List.length_nil]; omega), mk_append, wrap_succ hlt (by omega), ih (j + 1) k _ (by omega) (by omega) (by omega) (by simp only [List.length_append, List.length_cons, List.length_nil]; omega), ho', Bool.true_and, flat_cons]
        unfold thrW
        simp only [List.append_assoc]
      · have ho' : thrOk l[j] = false := by unfold thrOk; rw [hb, decide_eq_false h5]; rfl
        rw [decide_eq_true (show ((l[j]).f1.length : Int) > 4 by omega), ho']
        rfl
    · have ho' : thrOk l[j] = false := by unfold thrOk; simp only [Bool.not_eq_true] at hb; rw [hb]; rfl
      rw [if_neg hb, ho']
      rfl

theorem impl_machText (m : List Int) (l : List Thr) (hi : ∀ t ∈ l, ThrI t) (k : Nat) (hk : 1048800 ≤ k) : impl_MachineText.f k m l = some (mk (machTextW m l)) := by
  unfold impl_MachineText.f machTextW shownB
  rw [impl_memOk, Option.bind_some]
  obtain ⟨k, rfl⟩ : ∃ q, k = q + 1 := ⟨k - 1, by omega⟩
  by_cases hm : memB m = true
  · rw [if_pos hm, hm, Bool.true_and]
    by_cases h3 : l.length ≤ 3
    · rw [decide_eq_false (show ¬ (l.length : Int) > 3 by omega), decide_eq_true h3, Bool.true_and]
      simp only [impl_MachineText.j0, Bool.false_eq_true, if_false]
      have := impl_threads m l h3 hi l.length 0 k [] (by omega) (by omega) (by omega) (by simp; omega)
      rw [List.drop_zero, memTextW_ok hm] at this
      exact this
    · rw [decide_eq_true (show (l.length : Int) > 3 by omega), decide_eq_false h3]
      rfl
  · rw [if_neg hm]
    simp only [Bool.not_eq_true] at hm
    rw [hm]
    rfl

theorem spec_shown (m : List Int) (l : List Thr) (k : Nat) (hk : 40 ≤ k) : spec_l04Shown.f k m l = some (shownB m l) := by
  unfold spec_l04Shown.f shownB
  rw [spec_memOk m k (by omega), Option.bind_some]
  obtain ⟨k, rfl⟩ : ∃ q, k = q + 1 := ⟨k - 1, by omega⟩
  by_cases hm : memB m = true
  · rw [if_pos hm, hm, Bool.true_and]
    by_cases h3 : l.length ≤ 3
    · rw [decide_eq_false (show ¬ (l.length : Int) > 3 by omega), decide_eq_true h3, Bool.true_and]
      simp only [spec_l04Shown.j0, Bool.false_eq_true, if_false]
      have key : ∀ d (j : Nat) k, j ≤ l.length → l.length - j = d → 4 + d < k → spec_l04Shown.l0 k (j : Int) m l = some ((l.drop j).all thrOk) := by
        intro d
        induction d with
        | zero =>
          intro j k hj hd hk
          obtain ⟨k, rfl⟩ : ∃ q, k = q + 1 := ⟨k - 1, by omega⟩
          simp only [spec_l04Shown.l0]
          rw [if_neg (by omega), List.drop_of_length_le (by omega)]
          rfl
        | succ d ih =>
          intro j k hj hd hk
          obtain ⟨k, rfl⟩ : ∃ q, k = q + 1 := ⟨k - 1, by omega⟩
          have hlt : j < l.length := by omega
          simp only [spec_l04Shown.l0]
          rw [if_pos (by omega), if_pos (by omega), rdThr1 _ _ hlt, spec_bufOk _ k (by omega), Option.bind_some, List.drop_eq_getElem_cons hlt, List.all_cons]
          by_cases hb : bufB (l[j]).f2 = true
          · rw [if_pos hb]
            by_cases h5 : (l[j]).f1.length ≤ 4
            · have ho' : thrOk l[j] = true := by unfold thrOk; rw [hb, decide_eq_true h5]; rfl
              rw [if_neg (by omega), wrap_succ hlt (by omega), ih (j + 1) k (by omega) (by omega) (by omega), ho', Bool.true_and]
            · have ho' : thrOk l[j] = false := by unfold thrOk; rw [hb, decide_eq_false h5]; rfl
              rw [if_pos (by omega), ho']
              rfl
          · have ho' : thrOk l[j] = false := by unfold thrOk; simp only [Bool.not_eq_true] at hb; rw [hb]; rfl
            rw [if_neg hb, ho']
            rfl
      have := key l.length 0 k (by omega) (by omega) (by omega)
      simpa using this
    · rw [decide_eq_true (show (l.length : Int) > 3 by omega), decide_eq_false h3]
      rfl
  · rw [if_neg hm]
    simp only [Bool.not_eq_true] at hm
    rw [hm]
    rfl

/-- The values of a thread, in the reference's inner loop. -/
theorem spec_vals (m : List Int) (l : List Thr) (i : Nat) (hi : i < l.length) (hv : ∀ x ∈ (l[i]).f1, I64 x) (h4 : (l[i]).f1.length ≤ 4) :
    ∀ d k (j : Nat) (o : List UInt8), j ≤ (l[i]).f1.length → (l[i]).f1.length - j = d → 20 ≤ k → o.length + 22 * d ≤ 4611686018427387904 →
      spec_MachineText.l1 (k + 1 + d) (mk o) (i : Int) (j : Int) m l = spec_MachineText.l1 (k + 1) (mk (o ++ valsW ((l[i]).f1.drop j))) (i : Int) ((l[i]).f1.length : Int) m l := by
  intro d
  induction d with
  | zero =>
    intro k j o hj hd _ _
    obtain rfl : j = (l[i]).f1.length := by omega
    rw [List.drop_length]
    simp [valsW]
  | succ d ih =>
    intro k j o hj hd hk ho
    have hlt : j < (l[i]).f1.length := by omega
    have hx := hv _ (List.getElem_mem hlt)
    have hz := itoa_len _ hx.1 hx.2
    rw [show k + 1 + (d + 1) = (k + 1 + d) + 1 by omega, spec_MachineText.l1]
    rw [if_pos (by omega), if_pos (by omega), rdThr1 _ _ hi, if_pos (by omega), if_pos (by rw [mk_size]; omega), if_pos (by omega), rd_nat _ _ hlt, l01Num _ hx.1 hx.2 _ (by omega), Option.bind_some, blank_mk, mk_append, if_pos (by rw [mk_size, mk_size, List.length_append, List.length_cons, List.length_nil]; omega), mk_append, wrap_succ hlt (by omega),
      ih k (j + 1) _ (by omega) (by omega) hk (by simp only [List.length_append, List.length_cons, List.length_nil]; omega), List.drop_eq_getElem_cons hlt, valsW_cons]
    simp only [List.append_assoc]

theorem spec_threads (m : List Int) (l : List Thr) (hl : l.length ≤ 3) (hi : ∀ t ∈ l, ThrI t) (hs : ∀ t ∈ l, thrOk t = true) : ∀ d (j : Nat) k (o : List UInt8), j ≤ l.length → l.length - j = d → 100 + 20 * d ≤ k → o.length + 300 * d ≤ 4611686018427387904 →
    spec_MachineText.l0 k (mk o) (j : Int) m l = some (mk (o ++ ((l.drop j).map thrW).flatten ++ memTextW m)) := by
  intro d
  induction d with
  | zero =>
    intro j k o hj hd hk ho
    obtain ⟨k, rfl⟩ : ∃ m, k = m + 1 := ⟨k - 1, by omega⟩
    have hm := memTextW_len m
    simp only [spec_MachineText.l0]
    rw [if_neg (by omega), spec_memText m k (by omega), Option.bind_some, if_pos (by rw [mk_size, mk_size]; omega), mk_append, List.drop_of_length_le (by omega)]
    simp
  | succ d ih =>
    intro j k o hj hd hk ho
    have hlt : j < l.length := by omega
    obtain ⟨h1, h2, h3, _⟩ := hi _ (List.getElem_mem hlt)
    obtain ⟨h4, _⟩ := thrOk_len (hs _ (List.getElem_mem hlt))
    have e1 := itoa_len _ h1.1 h1.2
    have e2 := valsW_len _ h2
    have e3 := bufTextW_len h3
    obtain ⟨k, rfl⟩ : ∃ q, k = q + 1 := ⟨k - 1, by omega⟩
    simp only [spec_MachineText.l0]
    rw [if_pos (by omega), if_pos (by rw [mk_size]; omega), if_pos (by omega), rdThr1 _ _ hlt, l01Num _ h1.1 h1.2 k (by omega), Option.bind_some, t_mk, mk_append, if_pos (by rw [mk_size, mk_size, List.length_append, List.length_cons, List.length_nil]; omega), mk_append]
    obtain ⟨k, rfl⟩ : ∃ q, k = q + 1 + (l[j]).f1.length := ⟨k - 1 - (l[j]).f1.length, by omega⟩
    have hv := spec_vals m l j hlt h2 h4 (l[j]).f1.length k 0 (o ++ [116] ++ Go.Lib.itoa (l[j]).f0) (by omega) (by omega) (by omega) (by simp only [List.length_append, List.length_cons, List.length_nil]; omega)
    have hv' : spec_MachineText.l1 (k + 1 + (l[j]).f1.length) (mk (o ++ [116] ++ Go.Lib.itoa (l[j]).f0)) (j : Int) 0 m l = _ := hv
    rw [hv', List.drop_zero]
    simp only [spec_MachineText.l1]
    rw [if_pos (by omega), if_pos (by omega), rdThr1 _ _ hlt, if_neg (by omega), if_pos (by rw [mk_size]; simp only [List.length_append, List.length_cons, List.length_nil]; omega), spec_bufText _ h3 k (by omega), Option.bind_some, blank_mk, mk_append, if_pos (by rw [mk_size, mk_size]; simp only [List.length_append, List.length_cons, List.length_nil]; omega), mk_append,
      if_pos (by rw [mk_size]; simp only [List.length_append, List.length_cons, List.length_nil]; omega), bar_mk, mk_append, wrap_succ hlt (by omega), ih (j + 1) k _ (by omega) (by omega) (by omega) (by simp only [List.length_append, List.length_cons, List.length_nil]; omega), List.drop_eq_getElem_cons hlt, flat_cons]
    unfold thrW
    simp only [List.append_assoc]
theorem shown_facts {m : List Int} {l : List Thr} (h : shownB m l = true) : memB m = true ∧ l.length ≤ 3 ∧ ∀ t ∈ l, thrOk t = true := by
  unfold shownB at h
  simp only [Bool.and_eq_true, decide_eq_true_eq, List.all_eq_true] at h
  exact ⟨h.1, h.2.1, h.2.2⟩
theorem spec_machText (m : List Int) (l : List Thr) (hi : ∀ t ∈ l, ThrI t) (k : Nat) (hk : 200 ≤ k) : spec_MachineText.f k m l = some (mk (machTextW m l)) := by
  unfold spec_MachineText.f machTextW
  rw [spec_shown m l k (by omega), Option.bind_some]
  by_cases h : shownB m l = true
  · obtain ⟨hm, h3, hs⟩ := shown_facts h
    rw [if_pos h, if_pos h]
    have := spec_threads m l h3 hi hs l.length 0 k [] (by omega) (by omega) (by omega) (by simp; omega)
    rw [List.drop_zero, memTextW_ok hm] at this
    exact this
  · rw [if_neg h, if_neg h]
    rfl

theorem outW_len {t : Thr} (h4 : t.f1.length ≤ 4) (hv : ∀ x ∈ t.f1, I64 x) : (lineW t.f1).length ≤ 352 := lineW_len (by omega) hv
theorem spec_outs (m : List Int) (l : List Thr) (hl : l.length ≤ 3) (hi : ∀ t ∈ l, ThrI t) (hs : ∀ t ∈ l, thrOk t = true) : ∀ d (j : Nat) k (o : List UInt8), j ≤ l.length → l.length - j = d → 100 + d ≤ k → o.length + 400 * d ≤ 4611686018427387904 →
    spec_OutcomeOf.l0 k (mk o) (j : Int) m l = some (mk (o ++ ((l.drop j).map outW).flatten ++ memTextW m)) := by
  intro d
  induction d with
  | zero =>
    intro j k o hj hd hk ho
    obtain ⟨k, rfl⟩ : ∃ m, k = m + 1 := ⟨k - 1, by omega⟩
    have hm := memTextW_len m
    simp only [spec_OutcomeOf.l0]
    rw [if_neg (by omega), spec_memText m k (by omega), Option.bind_some, if_pos (by rw [mk_size, mk_size]; omega), mk_append, List.drop_of_length_le (by omega)]
    simp
  | succ d ih =>
    intro j k o hj hd hk ho
    have hlt : j < l.length := by omega
    obtain ⟨h1, h2, h3, _⟩ := hi _ (List.getElem_mem hlt)
    obtain ⟨h4, _⟩ := thrOk_len (hs _ (List.getElem_mem hlt))
    have e1 := outW_len h4 h2
    obtain ⟨k, rfl⟩ : ∃ q, k = q + 1 := ⟨k - 1, by omega⟩
    simp only [spec_OutcomeOf.l0]
    rw [if_pos (by omega), if_pos (by omega), rdThr1 _ _ hlt, l01Line _ (by omega) h2 k (by omega), Option.bind_some, if_pos (by rw [mk_size, mk_size]; omega), mk_append, if_pos (by rw [mk_size, List.length_append]; omega), bar_mk, mk_append, wrap_succ hlt (by omega),
      ih (j + 1) k _ (by omega) (by omega) (by omega) (by simp only [List.length_append, List.length_cons, List.length_nil]; omega), List.drop_eq_getElem_cons hlt, flat_cons]
    unfold outW
    simp only [List.append_assoc]
theorem impl_outs (m : List Int) (l : List Thr) (hl : l.length ≤ 3) (hi : ∀ t ∈ l, ThrI t) (hs : ∀ t ∈ l, thrOk t = true) : ∀ d (j : Nat) k (o : List UInt8), j ≤ l.length → l.length - j = d → 100 + d ≤ k → o.length + 400 * d ≤ 4611686018427387904 →
    impl_OutcomeOf.l0 k (mk o) l (l.length : Int) (j : Int) m l = some (mk (o ++ ((l.drop j).map outW).flatten ++ memTextW m)) := by
  intro d
  induction d with
  | zero =>
    intro j k o hj hd hk ho
    obtain ⟨k, rfl⟩ : ∃ m, k = m + 1 := ⟨k - 1, by omega⟩
    have hm := memTextW_len m
    simp only [impl_OutcomeOf.l0]
    rw [if_neg (by omega), impl_memText m k (by omega), Option.bind_some, if_pos (by rw [mk_size, mk_size]; omega), mk_append, List.drop_of_length_le (by omega)]
    simp
  | succ d ih =>
    intro j k o hj hd hk ho
    have hlt : j < l.length := by omega
    obtain ⟨h1, h2, h3, _⟩ := hi _ (List.getElem_mem hlt)
    obtain ⟨h4, _⟩ := thrOk_len (hs _ (List.getElem_mem hlt))
    have e1 := outW_len h4 h2
    obtain ⟨k, rfl⟩ : ∃ q, k = q + 1 := ⟨k - 1, by omega⟩
    simp only [impl_OutcomeOf.l0]
    rw [if_pos (by omega), if_pos (by omega), if_pos (by omega), rdThr1 _ _ hlt, spacedF _ (by omega) h2 k (by omega), Option.bind_some, if_pos (by rw [mk_size]; omega), bar_mk, mk_append, if_pos (by rw [mk_size, mk_size]; simp only [List.length_append, List.length_cons, List.length_nil]; omega), mk_append, wrap_succ hlt (by omega),
      ih (j + 1) k _ (by omega) (by omega) (by omega) (by simp only [List.length_append, List.length_cons, List.length_nil]; omega), List.drop_eq_getElem_cons hlt, flat_cons]
    unfold outW
    simp only [List.append_assoc]
theorem spec_outcomeOf (m : List Int) (l : List Thr) (hi : ∀ t ∈ l, ThrI t) (k : Nat) (hk : 200 ≤ k) : spec_OutcomeOf.f k m l = some (mk (outcomeW m l)) := by
  unfold spec_OutcomeOf.f outcomeW
  rw [spec_shown m l k (by omega), Option.bind_some]
  by_cases h : shownB m l = true
  · obtain ⟨hm, h3, hs⟩ := shown_facts h
    rw [if_pos h, if_pos h]
    have := spec_outs m l h3 hi hs l.length 0 k [] (by omega) (by omega) (by omega) (by simp; omega)
    rw [List.drop_zero, memTextW_ok hm] at this
    exact this
  · rw [if_neg h, if_neg h]
    rfl
theorem impl_outcomeOf (m : List Int) (l : List Thr) (hi : ∀ t ∈ l, ThrI t) (k : Nat) (hk : 1048800 ≤ k) : impl_OutcomeOf.f k m l = some (mk (outcomeW m l)) := by
  unfold impl_OutcomeOf.f outcomeW
  rw [impl_machText m l hi k hk, Option.bind_some, mk_toList]
  by_cases h : shownB m l = true
  · obtain ⟨hm, h3, hs⟩ := shown_facts h
    have hne : ¬ machTextW m l = [] := by
      unfold machTextW
      rw [if_pos h]
      intro e
      exact lineW_ne hm (List.append_eq_nil_iff.1 e).2
    rw [if_neg hne, if_pos h]
    have := impl_outs m l h3 hi hs l.length 0 k [] (by omega) (by omega) (by omega) (by simp; omega)
    rw [List.drop_zero, memTextW_ok hm] at this
    exact this
  · have he : machTextW m l = [] := by unfold machTextW; rw [if_neg h]
    rw [if_pos he, if_neg h]
    rfl

end Go.Proofs.YtchpopocnaoabaaDoor.Pure
