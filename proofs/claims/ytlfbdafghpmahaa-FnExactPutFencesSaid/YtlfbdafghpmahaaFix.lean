/- Jump targets told anew, instruction by instruction: what the loops of stripped, withFencesAt and their references come to. No condition. -/
import Derived.Test.YtlfbdafghpmahaaV2
import Derived.Test.YtlfbdafghpmahaaPrg
namespace Go.Proofs.Ytlfbdafghpmahaa.Pure
open Go.RowKit Go.Proofs.Ytlfbdafghpmahaa.P Go.Proofs.Ytlfbdafghpmahaa.Gen Go.Proofs.YtlfbdafghpmahaaW.PrintWords

theorem eta_ (x : Ins) : (⟨x.f0, x.f1, x.f2, x.f3⟩ : Ins) = x := rfl
def fixI (p : List Int) (x : Ins) : Ins := if x.f0 = 6 then ⟨x.f0, x.f1, x.f2, rd p x.f3⟩ else x
/-- The row when i instructions are done. -/
abbrev fixed (out : List Ins) (p : List Int) (i : Nat) : List Ins := (out.take i).map (fixI p) ++ out.drop i
theorem fixed_len (out : List Ins) (p : List Int) (i : Nat) (h : i ≤ out.length) : (fixed out p i).length = out.length := by simp [fixed]; omega
theorem fixed_get (out : List Ins) (p : List Int) (i : Nat) (h : i < out.length) : rd_T82 (fixed out p i) (i : Int) = out[i] := by
  have hlen : ((out.take i).map (fixI p)).length = i := by simp; omega
  have hl2 := fixed_len out p i (Nat.le_of_lt h)
  rw [rdIns _ i (by omega)]
  have e : fixed out p i = (out.take i).map (fixI p) ++ out[i] :: out.drop (i + 1) := by unfold fixed; rw [List.drop_eq_getElem_cons h]
  have := get_mid ((out.take i).map (fixI p)) out[i] (out.drop (i + 1)) (by rw [← e, hl2, hlen]; exact h)
  simp only [hlen] at this
  simp only [e]
  exact this
theorem fixed_next (out : List Ins) (p : List Int) (i : Nat) (h : i < out.length) (y : Ins) (hy : y = fixI p out[i]) : (fixed out p i).set i y = fixed out p (i + 1) := by
  have hlen : ((out.take i).map (fixI p)).length = i := by simp; omega
  have e : fixed out p i = (out.take i).map (fixI p) ++ out[i] :: out.drop (i + 1) := by unfold fixed; rw [List.drop_eq_getElem_cons h]
  have := set_mid ((out.take i).map (fixI p)) out[i] y (out.drop (i + 1))
  rw [hlen] at this
  rw [e, this]
  unfold fixed
  rw [List.take_succ_eq_append_getElem h, List.map_append, hy, List.append_assoc]
  rfl
theorem fixed_skip (out : List Ins) (p : List Int) (i : Nat) (h : i < out.length) (hy : out[i].f0 ≠ 6) : fixed out p i = fixed out p (i + 1) := by
  have e : fixed out p i = (out.take i).map (fixI p) ++ out[i] :: out.drop (i + 1) := by unfold fixed; rw [List.drop_eq_getElem_cons h]
  rw [e]
  unfold fixed
  rw [List.take_succ_eq_append_getElem h, List.map_append, List.append_assoc]
  congr 1
  simp [fixI, hy]
theorem fixed_zero (out : List Ins) (p : List Int) : fixed out p 0 = out := by simp [fixed]
theorem fixed_all (out : List Ins) (p : List Int) : fixed out p out.length = out.map (fixI p) := by simp [fixed]
/-- In a valid code every jump leads into it. -/
theorem jumps {c : Int} {q : List Ins} (h : codeB c q = true) : ∀ x ∈ q, x.f0 = 6 → 0 ≤ x.f3 ∧ x.f3 ≤ q.length := by
  intro x hx h6
  unfold codeB at h
  rw [Bool.and_eq_true, List.all_eq_true] at h
  have := h.2 x hx
  unfold insB at this
  simp only [h6, Bool.and_eq_true] at this
  have h2 := this.2
  simp at h2
  have h3 := inB_true.1 h2
  omega
theorem code_len {c : Int} {q : List Ins} (h : codeB c q = true) : q.length ≤ 16 := by
  unfold codeB at h
  rw [Bool.and_eq_true] at h
  exact of_decide_eq_true h.1

end Go.Proofs.Ytlfbdafghpmahaa.Pure
