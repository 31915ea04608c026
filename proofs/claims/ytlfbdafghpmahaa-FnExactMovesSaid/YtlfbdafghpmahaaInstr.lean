/- Is an instruction valid: the program's test and the reference's, as one Bool. No condition. -/
import Derived.Test.YtlfbdafghpmahaaScal
import Derived.Test.YtlfbdafghpmahaaPspecInstrOk
import Derived.Test.YtlfbdafghpmahaaPimplInstrOk
namespace Go.Proofs.Ytlfbdafghpmahaa.Pure
open Go.RowKit Go.Proofs.Ytlfbdafghpmahaa.P Go.Proofs.Ytlfbdafghpmahaa.Gen Go.Proofs.YtlfbdafghpmahaaW.PrintWords

/-- Is (op, r, s, n) an instruction of a code of z instructions, of a program with c cells? -/
def insB (op r s n c z : Int) : Bool :=
  inB c 1 16 && inB z 0 16 && inB op 0 8 && inB r 0 3 && inB s 0 3 &&
  (op != 4 || r == 0) && (op == 1 || op == 8 || op == 5 || op == 7 || s == 0) && (!(op == 1 || op == 8 || op == 4) || n == 0) &&
  (op == 1 || op == 8 || op == 4 || (if op = 0 then inB n (-1000) 1000 else if op = 6 then inB n 0 z else inB n 0 (c - 1)))

theorem impl_instrOk_at (op r s n c z : Int) : impl_InstrOk.f 2 op r s n c z = some (insB op r s n c z) := by
  unfold impl_InstrOk.f insB impl_isRegister.f
  simp only [within, Option.bind_some]
  by_cases h1 : inB c 1 16 = true
  · by_cases h2 : inB z 0 16 = true
    · by_cases h3 : inB op 0 8 = true
      · by_cases h4 : inB r 0 3 = true
        · by_cases h5 : inB s 0 3 = true
          · have hc := inB_true.1 h1
            have hw : wrap64 (c - 1) = c - 1 := wrap_id (by omega) (by omega)
            have ho := inB_true.1 h3
            simp only [h1, h2, h3, h4, h5, if_true, Bool.true_and, Bool.not_true]
            obtain h | h | h | h | h | h | h | h | h : op = 0 ∨ op = 1 ∨ op = 2 ∨ op = 3 ∨ op = 4 ∨ op = 5 ∨ op = 6 ∨ op = 7 ∨ op = 8 := by omega
            all_goals
              subst h
              simp only [impl_InstrOk.j0, impl_InstrOk.j1, impl_Instr_usesR.f, impl_Instr_usesS.f, impl_Instr_usesN.f, within, Option.bind_some, hw]
              by_cases hr : r = 0 <;> by_cases hs : s = 0 <;> by_cases hn : n = 0 <;> simp [hr, hs, hn]
          · simp [h1, h2, h3, h4, h5, impl_InstrOk.j0]
        · simp [h1, h2, h3, h4, impl_InstrOk.j0]
      · simp [h1, h2, h3, impl_InstrOk.j0]
    · simp [h1, h2, impl_InstrOk.j0]
  · simp [h1, impl_InstrOk.j0]
theorem impl_instrOk (op r s n c z : Int) (k : Nat) (hk : 2 ≤ k) : impl_InstrOk.f k op r s n c z = some (insB op r s n c z) :=
  at_rounds (impl_InstrOk.mono op r s n c z) hk (impl_instrOk_at op r s n c z)

/-- Which fields an operation names: 114 r, 115 s, 110 n. -/
def namedB (op f : Int) : Bool :=
  if f = 114 then op != 4 else if f = 115 then op == 1 || op == 8 || op == 5 || op == 7 else !(op == 1 || op == 8 || op == 4)
theorem named_at (op f : Int) (h0 : 0 ≤ op) (h8 : op ≤ 8) (hf : f = 114 ∨ f = 115 ∨ f = 110) : spec_l02Named.f 5 op f = some (namedB op f) := by
  obtain h | h | h | h | h | h | h | h | h : op = 0 ∨ op = 1 ∨ op = 2 ∨ op = 3 ∨ op = 4 ∨ op = 5 ∨ op = 6 ∨ op = 7 ∨ op = 8 := by omega
  all_goals
    subst h
    obtain h | h | h := hf
    all_goals
      subst h
      decide +kernel
theorem named (op f : Int) (h0 : 0 ≤ op) (h8 : op ≤ 8) (hf : f = 114 ∨ f = 115 ∨ f = 110) (k : Nat) (hk : 5 ≤ k) : spec_l02Named.f k op f = some (namedB op f) :=
  at_rounds (spec_l02Named.mono op f) hk (named_at op f h0 h8 hf)

theorem spec_instrOk_at (op r s n c z : Int) : spec_InstrOk.f 10 op r s n c z = some (insB op r s n c z) := by
  unfold spec_InstrOk.f insB
  simp only [l01In, Option.bind_some]
  by_cases h1 : inB c 1 16 = true
  · by_cases h2 : inB z 0 16 = true
    · by_cases h3 : inB op 0 8 = true
      · simp only [h1, h2, h3, if_true, Bool.true_and, Bool.not_true]
        have hc := inB_true.1 h1
        have hw : wrap64 (c - 1) = c - 1 := wrap_id (by omega) (by omega)
        have ho := inB_true.1 h3
        have hnm := fun f hf => named op f ho.1 ho.2 hf 8 (by omega)
        simp only [spec_InstrOk.j0, l01In, Option.bind_some]
        by_cases h4 : inB r 0 3 = true
        · by_cases h5 : inB s 0 3 = true
          · simp only [h4, h5, if_true, Bool.true_and, Bool.not_true, spec_InstrOk.j1, hnm 114 (by omega), hnm 115 (by omega), hnm 110 (by omega), Option.bind_some]
            obtain h | h | h | h | h | h | h | h | h : op = 0 ∨ op = 1 ∨ op = 2 ∨ op = 3 ∨ op = 4 ∨ op = 5 ∨ op = 6 ∨ op = 7 ∨ op = 8 := by omega
            all_goals
              subst h
              simp only [spec_InstrOk.j2, spec_InstrOk.j3, l01In, Option.bind_some, hw, namedB]
              by_cases hr : r = 0 <;> by_cases hs : s = 0 <;> by_cases hn : n = 0 <;> simp [hr, hs, hn]
          · simp [h4, h5, spec_InstrOk.j1]
        · simp [h4, spec_InstrOk.j1]
      · simp [h1, h2, h3, spec_InstrOk.j0]
    · simp [h1, h2, spec_InstrOk.j0]
  · simp [h1, spec_InstrOk.j0]
theorem spec_instrOk (op r s n c z : Int) (k : Nat) (hk : 10 ≤ k) : spec_InstrOk.f k op r s n c z = some (insB op r s n c z) :=
  at_rounds (spec_InstrOk.mono op r s n c z) hk (spec_instrOk_at op r s n c z)

end Go.Proofs.Ytlfbdafghpmahaa.Pure
