/- A query's text: the program's and the reference's. No condition but that its length is one of an argument. -/
import Derived.Test.YtchpopocnaoabaaDoorNum
import Derived.Test.YtchpopocnaoabaaDoorVals
import Derived.Test.YtchpopocnaoabaaDoorAtoms
import Derived.Test.YtchpopocnaoabaaDoorCodeText
import Derived.Test.YtchpopocnaoabaaDoorPlawsszAtomS
import Derived.Test.YtchpopocnaoabaaDoorPspecAskText
namespace Go.Proofs.YtchpopocnaoabaaDoor.Pure
open Go.RowKit Go.Proofs.YtchpopocnaoabaaDoor.P Go.Proofs.YtchpopocnaoabaaDoor.Gen Go.Proofs.YtchpopocnaoabaaDoorW.PrintWords

/-- Has an atom a text? -/
def atOk (x : Atm) : Bool := (x.f0 == 0 || (x.f0 == 1 && x.f1 == 0)) && (valB x.f1 && (valB x.f2 && valB x.f3))
def atW (x : Atm) : List UInt8 := if atOk x = true then (if x.f0 = 0 then Go.Lib.itoa x.f1 ++ [58] ++ Go.Lib.itoa x.f2 ++ [61] ++ Go.Lib.itoa x.f3 else [91] ++ Go.Lib.itoa x.f2 ++ [93, 61] ++ Go.Lib.itoa x.f3) else []
def askTextW (l : List Atm) : ByteArray × Bool := if decide (l.length ≤ 8) && l.all atOk then (mk (Go.Lib.join (l.map atW) [32, 38, 32]), true) else (mk [], false)
theorem val_I64 {x : Int} (h : valB x = true) : I64 x := by
  unfold valB at h
  have := inB_true.1 h
  exact ⟨by omega, by omega⟩
theorem atOk_vals {x : Atm} (h : atOk x = true) : valB x.f1 = true ∧ valB x.f2 = true ∧ valB x.f3 = true := by
  unfold atOk at h
  simp only [Bool.and_eq_true] at h
  exact h.2
theorem atW_len (x : Atm) : (atW x).length ≤ 70 := by
  unfold atW
  split
  · next h =>
    obtain ⟨h1, h2, h3⟩ := atOk_vals h
    have e1 := itoa_len x.f1 (val_I64 h1).1 (val_I64 h1).2
    have e2 := itoa_len x.f2 (val_I64 h2).1 (val_I64 h2).2
    have e3 := itoa_len x.f3 (val_I64 h3).1 (val_I64 h3).2
    split <;> simp only [List.length_append, List.length_cons, List.length_nil] <;> omega
  · simp
theorem atW_nil (x : Atm) : atW x = [] ↔ atOk x = false := by
  unfold atW
  cases h : atOk x with
  | false => simp
  | true =>
    simp only [if_true]
    split <;> simp [itoa_ne]
theorem col_mk : (⟨#[58]⟩ : ByteArray) = mk [58] := rfl
theorem equ_mk : (⟨#[61]⟩ : ByteArray) = mk [61] := rfl
theorem bra_mk : (⟨#[91]⟩ : ByteArray) = mk [91] := rfl
theorem ket_mk : (⟨#[93, 61]⟩ : ByteArray) = mk [93, 61] := rfl
theorem amp_mk : (⟨#[32, 38, 32]⟩ : ByteArray) = mk [32, 38, 32] := rfl

theorem impl_atText_at (x : Atm) : impl_Atom_text.f 2 x.f0 x.f1 x.f2 x.f3 = some (mk (atW x)) := by
  unfold impl_Atom_text.f
  simp only [isValue, Option.bind_some]
  have bad : ∀ b, atOk x = false → b = true → impl_Atom_text.j0 2 b x.f0 x.f1 x.f2 x.f3 = some (mk (atW x)) := by
    intro b hb hx
    subst hx
    rw [(atW_nil x).2 hb]
    rfl
  by_cases h1 : valB x.f1 = true
  · rw [if_pos h1]
    by_cases h2 : valB x.f2 = true
    · rw [if_pos h2]
      by_cases h3 : valB x.f3 = true
      · rw [h3]
        have e1 := itoa_len x.f1 (val_I64 h1).1 (val_I64 h1).2
        have e2 := itoa_len x.f2 (val_I64 h2).1 (val_I64 h2).2
        have e3 := itoa_len x.f3 (val_I64 h3).1 (val_I64 h3).2
        simp only [impl_Atom_text.j0, Bool.not_true, Bool.false_eq_true, if_false]
        rw [itoaF x.f2 (val_I64 h2).1 (val_I64 h2).2, Option.bind_some, itoaF x.f3 (val_I64 h3).1 (val_I64 h3).2, Option.bind_some]
        by_cases k0 : x.f0 = 0
        · have ho : atOk x = true := by unfold atOk; simp [k0, h1, h2, h3]
          rw [if_pos k0, itoaF x.f1 (val_I64 h1).1 (val_I64 h1).2, Option.bind_some, if_pos (by rw [mk_size]; omega), col_mk, mk_append, if_pos (by rw [mk_size, mk_size, List.length_append, List.length_cons, List.length_nil]; omega), mk_append,
            if_pos (by rw [mk_size]; simp only [List.length_append, List.length_cons, List.length_nil]; omega), equ_mk, mk_append, if_pos (by rw [mk_size, mk_size]; simp only [List.length_append, List.length_cons, List.length_nil]; omega), mk_append]
          unfold atW
          rw [if_pos ho, if_pos k0]
        · rw [if_neg k0]
          by_cases k1 : x.f0 = 1
          · rw [if_pos k1]
            by_cases t0 : x.f1 = 0
            · have ho : atOk x = true := by unfold atOk; rw [h1, h2, h3, k1, t0]; rfl
              rw [if_pos t0, if_pos (by rw [mk_size]; omega), bra_mk, mk_append, if_pos (by rw [mk_size, List.length_append, List.length_cons, List.length_nil]; omega), ket_mk, mk_append,
                if_pos (by rw [mk_size, mk_size]; simp only [List.length_append, List.length_cons, List.length_nil]; omega), mk_append]
              unfold atW
              rw [if_pos ho, if_neg k0]
            · have ho : atOk x = false := by unfold atOk; rw [k1]; simp [t0]
              rw [if_neg t0, (atW_nil x).2 ho]
              rfl
          · have ho : atOk x = false := by unfold atOk; simp [k0, k1]
            rw [if_neg k1, (atW_nil x).2 ho]
            rfl
      · have ho : atOk x = false := by unfold atOk; simp only [Bool.not_eq_true] at h3; simp [h3]
        exact bad _ ho (by simp [h3])
    · have ho : atOk x = false := by unfold atOk; simp only [Bool.not_eq_true] at h2; simp [h2]
      rw [if_neg h2]
      exact bad _ ho rfl
  · have ho : atOk x = false := by unfold atOk; simp only [Bool.not_eq_true] at h1; simp [h1]
    rw [if_neg h1]
    exact bad _ ho rfl
theorem impl_atText (x : Atm) (k : Nat) (hk : 2 ≤ k) : impl_Atom_text.f k x.f0 x.f1 x.f2 x.f3 = some (mk (atW x)) :=
  at_rounds (impl_Atom_text.mono x.f0 x.f1 x.f2 x.f3) hk (impl_atText_at x)
theorem rdAtm1 (l : List Atm) (j : Nat) (h : j < l.length) : rd_T110 l (j : Int) = l[j] := getD_nat _ l j h

theorem impl_askText (l : List Atm) (hl : l.length ≤ 1048576) (k : Nat) (hk : l.length + 5 ≤ k) : impl_AskText.f k l = some (askTextW l) := by
  unfold impl_AskText.f
  obtain ⟨m, rfl⟩ : ∃ m, k = (m + 1) + l.length := ⟨k - 1 - l.length, by omega⟩
  rw [words_loop l atW 2 (fun k b i => impl_AskText.l0 k l b l (l.length : Int) i) (fun k b j h hk hb => by
    simp only [impl_AskText.l0]
    rw [if_pos (by omega), if_pos (by omega), if_pos (by omega), rdAtm1 _ _ h, impl_atText _ k hk, Option.bind_some, if_pos (by omega), wrap_succ h (by omega)]) (m + 1) (by omega)]
  simp only [impl_AskText.l0]
  rw [if_neg (by omega)]
  unfold askTextW
  by_cases h8 : l.length ≤ 8
  · rw [if_neg (by omega), has_empty l atW atOk (fun x _ => atW_nil x) hl, Option.bind_some, decide_eq_true h8, Bool.true_and]
    by_cases ha : l.all atOk = true
    · rw [ha, if_neg (by decide), if_pos rfl, amp_mk, joinF _ _ (by rw [List.length_map]; omega)]
      · rfl
      · refine Nat.le_trans (join_len [32, 38, 32] 73 _ ?_) ?_
        · intro x hx
          obtain ⟨y, hy, rfl⟩ := List.mem_map.1 hx
          have := atW_len y
          simp only [List.length_cons, List.length_nil]
          omega
        · rw [List.length_map]
          omega
    · simp only [Bool.not_eq_true] at ha
      rw [ha]
      rfl
  · rw [if_pos (by omega), decide_eq_false h8]
    rfl

/-- One atom in the reference's loop. -/
theorem spec_at (x : Atm) (K : Nat → ByteArray → Option (ByteArray × Bool)) (s : List UInt8) (hs : s.length ≤ 4611686018427387904 + 3) (k : Nat) (hk : 20 ≤ k) (ho : atOk x = true) :
    (if x.f0 = 0 then ((spec_l01Num.f k x.f1).bind fun t10 => (if (mk s).size + t10.size ≤ 9223372036854775807 then (if ((mk s) ++ t10).size + 1 ≤ 9223372036854775807 then ((spec_l01Num.f k x.f2).bind fun t11 => (if (((mk s) ++ t10) ++ (⟨#[58]⟩ : ByteArray)).size + t11.size ≤ 9223372036854775807 then (if ((((mk s) ++ t10) ++ (⟨#[58]⟩ : ByteArray)) ++ t11).size + 1 ≤ 9223372036854775807 then ((spec_l01Num.f k x.f3).bind fun t12 => (if (((((mk s) ++ t10) ++ (⟨#[58]⟩ : ByteArray)) ++ t11) ++ (⟨#[61]⟩ : ByteArray)).size + t12.size ≤ 9223372036854775807 then (K k ((((((mk s) ++ t10) ++ (⟨#[58]⟩ : ByteArray)) ++ t11) ++ (⟨#[61]⟩ : ByteArray)) ++ t12)) else (none))) else (none)) else (none))) else (none)) else (none)))
      else (if (mk s).size + 1 ≤ 9223372036854775807 then ((spec_l01Num.f k x.f2).bind fun t13 => (if ((mk s) ++ (⟨#[91]⟩ : ByteArray)).size + t13.size ≤ 9223372036854775807 then (if (((mk s) ++ (⟨#[91]⟩ : ByteArray)) ++ t13).size + 2 ≤ 9223372036854775807 then ((spec_l01Num.f k x.f3).bind fun t14 => (if ((((mk s) ++ (⟨#[91]⟩ : ByteArray)) ++ t13) ++ (⟨#[93, 61]⟩ : ByteArray)).size + t14.size ≤ 9223372036854775807 then (K k (((((mk s) ++ (⟨#[91]⟩ : ByteArray)) ++ t13) ++ (⟨#[93, 61]⟩ : ByteArray)) ++ t14)) else (none))) else (none)) else (none))) else (none))) = K k (mk (s ++ atW x)) := by
  obtain ⟨h1, h2, h3⟩ := atOk_vals ho
  have e1 := itoa_len x.f1 (val_I64 h1).1 (val_I64 h1).2
  have e2 := itoa_len x.f2 (val_I64 h2).1 (val_I64 h2).2
  have e3 := itoa_len x.f3 (val_I64 h3).1 (val_I64 h3).2
  have n1 := l01Num x.f1 (val_I64 h1).1 (val_I64 h1).2 k hk
  have n2 := l01Num x.f2 (val_I64 h2).1 (val_I64 h2).2 k hk
  have n3 := l01Num x.f3 (val_I64 h3).1 (val_I64 h3).2 k hk
  by_cases k0 : x.f0 = 0
  · rw [if_pos k0, n1, Option.bind_some, if_pos (by rw [mk_size, mk_size]; omega), mk_append, if_pos (by rw [mk_size, List.length_append]; omega), n2, Option.bind_some, col_mk, mk_append, if_pos (by rw [mk_size, mk_size]; simp only [List.length_append, List.length_cons, List.length_nil]; omega), mk_append,
      if_pos (by rw [mk_size]; simp only [List.length_append, List.length_cons, List.length_nil]; omega), n3, Option.bind_some, equ_mk, mk_append, if_pos (by rw [mk_size, mk_size]; simp only [List.length_append, List.length_cons, List.length_nil]; omega), mk_append]
    unfold atW
    rw [if_pos ho, if_pos k0]
    simp only [List.append_assoc]
  · rw [if_neg k0, if_pos (by rw [mk_size]; omega), n2, Option.bind_some, bra_mk, mk_append, if_pos (by rw [mk_size, mk_size, List.length_append, List.length_cons, List.length_nil]; omega), mk_append, if_pos (by rw [mk_size]; simp only [List.length_append, List.length_cons, List.length_nil]; omega), n3, Option.bind_some, ket_mk, mk_append,
      if_pos (by rw [mk_size, mk_size]; simp only [List.length_append, List.length_cons, List.length_nil]; omega), mk_append]
    unfold atW
    rw [if_pos ho, if_neg k0]
    simp only [List.append_assoc]

/-- The reference's test of an atom, told as one. -/
theorem spec_asks (l : List Atm) (s : ByteArray) (i : Int) (x : Atm) (k : Nat) :
    ((spec_l01In.f x.f0 0 1).bind fun t3 => (if t3 = true then (if x.f0 = 1 then (if x.f1 = 0 then ((spec_l01Value.f x.f1).bind fun t4 => (if t4 = true then ((spec_l01Value.f x.f2).bind fun t5 => (if t5 = true then ((spec_l01Value.f x.f3).bind fun t6 => (spec_AskText.j1 k l s i (!t6) x.f0 x.f1 x.f2 x.f3)) else (spec_AskText.j1 k l s i true x.f0 x.f1 x.f2 x.f3))) else (spec_AskText.j1 k l s i true x.f0 x.f1 x.f2 x.f3))) else (spec_AskText.j1 k l s i true x.f0 x.f1 x.f2 x.f3)) else ((spec_l01Value.f x.f1).bind fun t7 => (if t7 = true then ((spec_l01Value.f x.f2).bind fun t8 => (if t8 = true then ((spec_l01Value.f x.f3).bind fun t9 => (spec_AskText.j1 k l s i (!t9) x.f0 x.f1 x.f2 x.f3)) else (spec_AskText.j1 k l s i true x.f0 x.f1 x.f2 x.f3))) else (spec_AskText.j1 k l s i true x.f0 x.f1 x.f2 x.f3)))) else (spec_AskText.j1 k l s i true x.f0 x.f1 x.f2 x.f3))) = spec_AskText.j1 k l s i (!(atOk x)) x.f0 x.f1 x.f2 x.f3 := by
  simp only [l01In, l01Value, Option.bind_some]
  unfold atOk
  by_cases h : inB x.f0 0 1 = true
  · rw [if_pos h]
    have hr := inB_true.1 h
    by_cases k1 : x.f0 = 1
    · rw [if_pos k1]
      by_cases t0 : x.f1 = 0
      · rw [if_pos t0]
        cases h1 : valB x.f1 <;> cases h2 : valB x.f2 <;> cases h3 : valB x.f3 <;> simp [k1, t0]
      · rw [if_neg t0]
        have e0 : (x.f1 == 0) = false := beq_eq_false_iff_ne.mpr t0
        rw [e0, k1]
        rfl
    · rw [if_neg k1]
      have k0 : x.f0 = 0 := by omega
      cases h1 : valB x.f1 <;> cases h2 : valB x.f2 <;> cases h3 : valB x.f3 <;> simp [k0]
  · rw [if_neg h]
    have h' : ¬ (0 ≤ x.f0 ∧ x.f0 ≤ 1) := fun c => h (inB_true.2 c)
    have k0 : x.f0 ≠ 0 := by omega
    have k1 : x.f0 ≠ 1 := by omega
    have e0 : (x.f0 == 0) = false := beq_eq_false_iff_ne.mpr k0
    have e1 : (x.f0 == 1) = false := beq_eq_false_iff_ne.mpr k1
    rw [e0, e1]
    rfl

theorem spec_askText (l : List Atm) (k : Nat) (hk : 80 ≤ k) : spec_AskText.f k l = some (askTextW l) := by
  unfold spec_AskText.f askTextW
  by_cases h8 : l.length ≤ 8
  · rw [if_neg (by omega), decide_eq_true h8, Bool.true_and]
    refine line_loop_ok l atW atOk [32, 38, 32] 73 20 2 (fun x hx => ?_) (by omega) (fun k b i => spec_AskText.l0 k l b i) (fun k s j h hk hok => ?_) (fun k h hk hok => ?_) (fun k s j h hk h0 hs hok => ?_) (fun k s hk => ?_) k (by omega)
    · have := atW_len x
      simp only [List.length_cons, List.length_nil]
      omega
    · simp only [spec_AskText.l0]
      rw [if_pos (by omega), if_pos (by omega), rdAtm1 _ _ h, spec_asks, hok]
      rfl
    · have hrd : rd_T110 l 0 = l[0] := rdAtm1 l 0 h
      simp only [spec_AskText.l0]
      rw [if_pos (by omega), if_pos (by omega), hrd, spec_asks, hok]
      simp only [spec_AskText.j1, Bool.not_true, Bool.false_eq_true, if_false]
      rw [if_neg (by omega)]
      simp only [spec_AskText.j2]
      refine (spec_at l[0] (fun k z => spec_AskText.l0 k l z (wrap64 (0 + 1))) [] (by simp) k hk hok).trans ?_
      rw [show wrap64 (0 + 1) = 1 by unfold wrap64; omega]
      rfl
    · simp only [spec_AskText.l0]
      rw [if_pos (by omega), if_pos (by omega), rdAtm1 _ _ h, spec_asks, hok]
      simp only [spec_AskText.j1, Bool.not_true, Bool.false_eq_true, if_false]
      rw [if_pos (by omega), if_pos (by rw [mk_size]; omega), amp_mk, mk_append]
      simp only [spec_AskText.j2]
      refine (spec_at l[j] (fun k z => spec_AskText.l0 k l z (wrap64 ((j : Int) + 1))) (s ++ [32, 38, 32]) (by simp; omega) k hk hok).trans ?_
      rw [wrap_succ h (by omega)]
    · simp only [spec_AskText.l0]
      rw [if_neg (by omega)]
  · rw [if_pos (by omega), decide_eq_false h8]
    rfl

end Go.Proofs.YtchpopocnaoabaaDoor.Pure
