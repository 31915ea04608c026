/- A law's words over whole numbers read and handed back: LiveRefs' rows of references; what marks write is found. No condition but that lengths are lengths. -/
import Derived.Test.YtkjndikkdbfhbaaHeap
import Derived.Test.YtkjndikkdbfhbaaPlawseqRef
import Derived.Test.YtkjndikkdbfhbaaPlawseqRef
import Derived.Test.YtkjndikkdbfhbaaPlawsmarkRefS
import Derived.Test.YtkjndikkdbfhbaaPlawsmarkRefS
import Derived.Test.YtkjndikkdbfhbaaPlawseqRef
namespace Go.Proofs.Ytkjndikkdbfhbaa.Pure
open Go.RowKit Go.Proofs.Ytkjndikkdbfhbaa.P Go.Proofs.Ytkjndikkdbfhbaa.Gen Go.Proofs.YtkjndikkdbfhbaaW.PrintWords

abbrev Ref := S43
theorem rdRef (l : List Ref) (j : Nat) (h : j < l.length) : rd_T43 l (j : Int) = l[j] := getD_nat _ l j h
theorem eqRefS_same (l : List Ref) (hl : Len l) (k : Nat) (hk : l.length < k) : laws_eqRefS.f k l l = some true := by
  unfold laws_eqRefS.f
  have hl' : l.length ≤ 9223372036854775807 := hl
  rw [if_pos rfl]
  have := loop_all l (fun _ => true) (fun k i => laws_eqRefS.l0 k l l i) (fun k j hj => by
    simp only [laws_eqRefS.l0, laws_eqRef.f]
    rw [if_pos (by omega), if_pos (by omega), if_pos (by omega), wrap_succ hj hl']
    simp) (fun k => by
    simp only [laws_eqRefS.l0]
    rw [if_neg (by omega)]) k hk
  rw [this]
  simp
theorem markRefS (l : List Ref) (a : Int) (hl : Len l) (h0 : 0 ≤ a) (h1 : a + 2 * l.length ≤ 9223372036854775807) :
    ∃ l', l'.length = l.length ∧ ∀ k, l.length < k → laws_markRefS.f k l a = some (a + 2 * l.length, l') ∧ laws_heldRefS.f k l' a = some (a + 2 * l.length) := by
  have := marked 2 (fun a _ => (⟨a, a + 1⟩ : Ref)) laws_markRefS.l0 laws_heldRefS.l0
    (fun k p x r a h0 h1 h2 => by
      have e : ((p ++ x :: r).length : Int) = p.length + r.length + 1 := by simp; omega
      simp only [laws_markRefS.l0, Option.bind_some]
      rw [if_pos (by omega), if_pos (by omega), Int.toNat_natCast, set_mid, rdRef _ p.length (by simp), get_mid, rdRef _ p.length (by simp), get_mid, set_mid, wrap_id (x := a + 1) (by omega) (by omega), wrap_id (x := a + 1 + 1) (by omega) (by omega), wrap_succ (n := (p ++ x :: r).length) (by omega) h2, show a + 1 + 1 = a + (2 : Nat) from by omega])
    (fun k p a => by simp only [laws_markRefS.l0]; rw [if_neg (by omega)])
    (fun k p x r a h0 h1 h2 => by
      have e : ((p ++ (⟨a, a + 1⟩ : Ref) :: r).length : Int) = p.length + r.length + 1 := by simp; omega
      simp only [laws_heldRefS.l0]
      rw [if_pos (by omega), if_pos (by omega), rdRef _ p.length (by simp), get_mid, if_pos rfl, wrap_id (x := a + 1) (by omega) (by omega), if_pos rfl, wrap_id (x := a + 1 + 1) (by omega) (by omega), wrap_succ (n := (p ++ (⟨a, a + 1⟩ : Ref) :: r).length) (by omega) h2, show a + 1 + 1 = a + (2 : Nat) from by omega])
    (fun k p a => by simp only [laws_heldRefS.l0]; rw [if_neg (by omega)]) l [] a hl h0 (by omega)
  simpa [laws_markRefS.f, laws_heldRefS.f] using this
theorem markBoolS_some (l : List Bool) (a : Int) (hl : Len l) (h0 : 0 ≤ a) (h1 : a + l.length ≤ 9223372036854775807) : ∃ l', l'.length = l.length ∧ ∀ k, l.length < k → laws_markBoolS.f k l a = some (a + l.length, l') := by
  have := marked_only 1 (fun a _ => Int.tmod a 3 == 0) laws_markBoolS.l0
    (fun k p x r a h0 h1 h2 => by
      have e : ((p ++ x :: r).length : Int) = p.length + r.length + 1 := by simp; omega
      simp only [laws_markBoolS.l0]
      rw [if_pos (by omega), if_pos (by omega), Int.toNat_natCast, set_mid, wrap_id (x := a + 1) (by omega) (by omega), wrap_succ (n := (p ++ x :: r).length) (by omega) h2]
      rfl)
    (fun k p a => by simp only [laws_markBoolS.l0]; rw [if_neg (by omega)]) l [] a hl h0 (by omega)
  simpa [laws_markBoolS.f] using this
theorem markHeap_some (g : List Int) (v : List Bool) (hg : g.length ≤ 1048576) (hv : v.length ≤ 1048576) (k : Nat) (hk : 1048576 < k) : ∃ m g' v', 0 ≤ m ∧ laws_markHeap.f k g v 1 = some (m, g', v') := by
  unfold laws_markHeap.f
  rw [markIntS g 1 k (by unfold Len; omega) (by omega) (by omega) (by omega), Option.bind_some]
  obtain ⟨v', _, hm⟩ := markBoolS_some v (1 + g.length) (by unfold Len; omega) (by omega) (by omega)
  rw [hm k (by omega)]
  exact ⟨_, _, _, by omega, rfl⟩

end Go.Proofs.Ytkjndikkdbfhbaa.Pure
