/- The law FnExactAddressesOf answers true: the program's AddressesOf gives what the reference's gives, for every code, in memory of its own, and leaves the code as it was. No condition. -/
import Derived.Test.YtlfbdafghpmahaaV2
import Derived.Test.YtlfbdafghpmahaaQFnExactAddressesOf
import Derived.Test.YtlfbdafghpmahaaPrg
import Derived.Test.YtlfbdafghpmahaaIntsMark
import Derived.Test.YtlfbdafghpmahaaPlawsheldInstrS
import Derived.Test.YtlfbdafghpmahaaAddr
namespace Go.Proofs.Ytlfbdafghpmahaa.Pure
open Go.RowKit Go.Proofs.Ytlfbdafghpmahaa.P Go.Proofs.Ytlfbdafghpmahaa.Gen Go.Proofs.YtlfbdafghpmahaaW.PrintWords

/-- Does the instruction name a cell? -/
def addrB (x : Ins) : Bool := decide (x.f0 = 2 ∨ x.f0 = 3 ∨ x.f0 = 5 ∨ x.f0 = 7)
def stepS (out : List Int) (x : Ins) : List Int := if addrB x = true then ins x.f3 out else out
def stepI (out : List Int) (x : Ins) : List Int := if addrB x = true then out ++ [x.f3] else out
def addrV (l : List Ins) : List Int := if l.length > 16 then [] else l.foldl stepS []
theorem ins_len (x : Int) (l : List Int) : (ins x l).length ≤ l.length + 1 := by
  induction l with
  | nil => simp [ins]
  | cons y r ih =>
    unfold ins
    by_cases a : x < y
    · rw [if_pos a]; simp
    · rw [if_neg a]
      by_cases b : x = y
      · rw [if_pos b]; simp
      · rw [if_neg b, List.length_cons, List.length_cons]; omega
theorem stepS_len (out : List Int) (x : Ins) : (stepS out x).length ≤ out.length + 1 := by
  unfold stepS
  split
  · exact ins_len _ _
  · omega
theorem stepI_len (out : List Int) (x : Ins) : (stepI out x).length ≤ out.length + 1 := by
  unfold stepI
  split
  · simp
  · omega
theorem foldS_len (l : List Ins) : ∀ out, (l.foldl stepS out).length ≤ out.length + l.length := by
  induction l with
  | nil => intro out; simp
  | cons x l ih =>
    intro out
    have := ih (stepS out x)
    have := stepS_len out x
    simp only [List.foldl_cons, List.length_cons]
    omega
theorem foldI_len (l : List Ins) : ∀ out, (l.foldl stepI out).length ≤ out.length + l.length := by
  induction l with
  | nil => intro out; simp
  | cons x l ih =>
    intro out
    have := ih (stepI out x)
    have := stepI_len out x
    simp only [List.foldl_cons, List.length_cons]
    omega
theorem addrV_len (l : List Ins) : (addrV l).length ≤ 16 := by
  unfold addrV
  by_cases h : l.length > 16
  · rw [if_pos h]; simp
  · rw [if_neg h]
    have := foldS_len l []
    simp at this
    omega
/-- What the program gathers, and then sorts and lays each once, is what the reference inserts one by one. -/
theorem gather (l : List Ins) : ∀ (z out : List Int), out = z.foldl (fun o x => ins x o) [] → l.foldl stepS out = (l.foldl stepI z).foldl (fun o x => ins x o) [] := by
  induction l with
  | nil => intro z out h; exact h
  | cons x l ih =>
    intro z out h
    simp only [List.foldl_cons]
    refine ih _ _ ?_
    unfold stepS stepI
    by_cases c : addrB x = true
    · rw [if_pos c, if_pos c, List.foldl_append, h]
      rfl
    · rw [if_neg c, if_neg c]
      exact h
theorem isAddr (x : Ins) : impl_Instr_isAddressed.f x.f0 x.f1 x.f2 x.f3 = some (addrB x) := by
  unfold impl_Instr_isAddressed.f addrB
  by_cases a : x.f0 = 2
  · rw [if_pos a, decide_eq_true (.inl a)]
  · rw [if_neg a]
    by_cases b : x.f0 = 3
    · rw [if_pos b, decide_eq_true (.inr (.inl b))]
    · rw [if_neg b]
      by_cases c : x.f0 = 5
      · rw [if_pos c, decide_eq_true (.inr (.inr (.inl c)))]
      · rw [if_neg c]
        by_cases d : x.f0 = 7
        · rw [decide_eq_true (.inr (.inr (.inr d))), d]
          rfl
        · rw [decide_eq_false (by omega)]
          simp [d]
theorem impl_addr (l : List Ins) (k : Nat) (hk : 100 ≤ k) : impl_AddressesOf.f k l = some (addrV l) := by
  unfold impl_AddressesOf.f addrV
  by_cases h : l.length > 16
  · rw [if_pos (by omega), if_pos h]
  · rw [if_neg (by omega), if_neg h]
    have hlen := foldI_len l []
    have hg := gather l [] [] rfl
    have hcs := compact_sort (l.foldl stepI [])
    have := loop_inv l stepI (fun out => out.foldl (fun o x => ins x o) []) (fun k out i => impl_AddressesOf.l0 k out l (l.length : Int) i) (fun j out => out.length ≤ j)
      (fun j out hj ho => by have := stepI_len out l[j]; omega)
      (fun k out j hj ho => by
        simp only [impl_AddressesOf.l0]
        rw [if_pos (by omega), if_pos (by omega), if_pos (by omega), rdIns l j hj, isAddr, Option.bind_some, wrap_succ hj (by omega)]
        unfold stepI
        by_cases c : addrB l[j] = true
        · rw [if_pos c, if_pos (by omega), if_pos c]
        · rw [if_neg c, if_neg c])
      (fun k out ho => by
        simp only [impl_AddressesOf.l0]
        rw [if_neg (by omega)]
        unfold slices_Compact_int_int.f
        rw [if_pos (by omega), Option.bind_some, compact_sort]) k [] (by simp) (by omega)
    rw [this, hg]
theorem spec_has (x : Int) (k : Nat) (hk : 10 ≤ k) : spec_l01Has.f k [2, 3, 5, 7] x = some (decide (x = 2 ∨ x = 3 ∨ x = 5 ∨ x = 7)) := by
  obtain ⟨k, rfl⟩ : ∃ m, k = m + 5 := ⟨k - 5, by omega⟩
  have w1 : wrap64 (0 + 1) = 1 := wrap_id (by omega) (by omega)
  have w2 : wrap64 (1 + 1) = 2 := wrap_id (by omega) (by omega)
  have w3 : wrap64 (2 + 1) = 3 := wrap_id (by omega) (by omega)
  have w4 : wrap64 (3 + 1) = 4 := wrap_id (by omega) (by omega)
  have r0 : rd [2, 3, 5, 7] 0 = 2 := rfl
  have r1 : rd [2, 3, 5, 7] 1 = 3 := rfl
  have r2 : rd [2, 3, 5, 7] 2 = 5 := rfl
  have r3 : rd [2, 3, 5, 7] 3 = 7 := rfl
  have hl : ((([2, 3, 5, 7] : List Int)).length : Int) = 4 := rfl
  unfold spec_l01Has.f
  simp only [spec_l01Has.l0, hl, w1, w2, w3, w4, r0, r1, r2, r3]
  by_cases a : x = 2
  · simp [a]
  · by_cases b : x = 3
    · simp [b]
    · by_cases c : x = 5
      · simp [c]
      · by_cases d : x = 7
        · simp [d]
        · have a' : ¬ 2 = x := fun e => a e.symm
          have b' : ¬ 3 = x := fun e => b e.symm
          have c' : ¬ 5 = x := fun e => c e.symm
          have d' : ¬ 7 = x := fun e => d e.symm
          simp [a, b, c, d, a', b', c', d']
/-- The reference's inner loop: the cell put into its place. -/
theorem spec_put (l : List Ins) (i : Nat) (hi : i < l.length) (hn : l.length ≤ 16) (out : List Int) (ho : out.length ≤ 16) (R : Option (List Int)) (K : Nat)
    (hR : ∀ k, K ≤ k → spec_AddressesOf.l0 k l (ins l[i].f3 out) ((i + 1 : Nat) : Int) = R) :
    ∀ d k (j : Nat) (nx : List Int) (put : Bool), j + d = out.length → nx.length ≤ 2 * j + 1 → nx ++ (if put = true then out.drop j else ins l[i].f3 (out.drop j)) = ins l[i].f3 out → K + 2 * d + 2 ≤ k →
      spec_AddressesOf.l1 k l out (i : Int) nx put (j : Int) = R := by
  intro d
  induction d with
  | zero =>
    intro k j nx put hj hnx he hk
    obtain ⟨k, rfl⟩ : ∃ m, k = m + 1 := ⟨k - 1, by omega⟩
    obtain rfl : j = out.length := by omega
    rw [List.drop_length] at he
    simp only [spec_AddressesOf.l1]
    rw [if_neg (by omega), wrap_succ hi (by omega)]
    by_cases c : put = true
    · rw [if_pos c, List.append_nil] at he
      rw [if_pos c, he, hR k (by omega)]
    · rw [if_neg c] at he
      have he' : nx ++ [l[i].f3] = ins l[i].f3 out := he
      rw [if_neg c, if_pos (by omega), if_pos (by omega), if_pos (by omega), rdIns l i hi, he', hR k (by omega)]
  | succ d ih =>
    intro k j nx put hj hnx he hk
    obtain ⟨k, rfl⟩ : ∃ m, k = m + 2 := ⟨k - 2, by omega⟩
    have hlt : j < out.length := by omega
    have hrd : rd out (j : Int) = out[j] := getD_nat _ out j hlt
    rw [List.drop_eq_getElem_cons hlt] at he
    have hw : ∀ _ : Unit, wrap64 ((j : Int) + 1) = ((j + 1 : Nat) : Int) := fun _ => wrap_succ hlt (by omega)
    have hi0 : (0 : Int) ≤ i := by omega
    have hi1 : (i : Int) < l.length := by omega
    have hj0 : (0 : Int) ≤ j := by omega
    have hj1 : (j : Int) < out.length := by omega
    by_cases c : put = true
    · subst c
      rw [if_pos rfl] at he
      rw [← ih k (j + 1) (nx ++ [out[j]]) true (by omega) (by simp; omega) (by rw [if_pos rfl, List.append_assoc]; exact he) (by omega)]
      simp only [spec_AddressesOf.l1, spec_AddressesOf.j2, hrd, hw ()]
      rw [if_pos hj1, if_pos trivial, if_neg (by decide), if_pos hj0, if_pos hj1, if_pos (by omega)]
    · rw [Bool.not_eq_true] at c
      subst c
      rw [if_neg (by decide)] at he
      by_cases a : l[i].f3 ≤ out[j]
      · by_cases b : l[i].f3 < out[j]
        · have e : ins l[i].f3 (out[j] :: out.drop (j + 1)) = l[i].f3 :: out[j] :: out.drop (j + 1) := by
            unfold ins; rw [if_pos b]
          rw [e] at he
          rw [← ih k (j + 1) ((nx ++ [l[i].f3]) ++ [out[j]]) true (by omega) (by simp; omega) (by rw [if_pos rfl, List.append_assoc, List.append_assoc]; exact he) (by omega)]
          simp only [spec_AddressesOf.l1, spec_AddressesOf.j2, hrd, hw (), rdIns l i hi, Option.bind_some]
          rw [if_pos hj1, if_neg (by decide), if_pos hi0, if_pos hi1, if_pos hj0, decide_eq_true a, if_pos rfl, if_pos hi0, if_pos hi1, if_pos hj0, if_pos hj1, if_pos b, if_pos (by omega), if_pos (by simp; omega)]
        · have f : l[i].f3 = out[j] := by omega
          have e : ins l[i].f3 (out[j] :: out.drop (j + 1)) = out[j] :: out.drop (j + 1) := by
            unfold ins; rw [if_neg b, if_pos f]
          rw [e] at he
          rw [← ih k (j + 1) (nx ++ [out[j]]) true (by omega) (by simp; omega) (by rw [if_pos rfl, List.append_assoc]; exact he) (by omega)]
          simp only [spec_AddressesOf.l1, spec_AddressesOf.j2, hrd, hw (), rdIns l i hi, Option.bind_some]
          rw [if_pos hj1, if_neg (by decide), if_pos hi0, if_pos hi1, if_pos hj0, decide_eq_true a, if_pos rfl, if_pos hi0, if_pos hi1, if_pos hj0, if_pos hj1, if_neg b, if_pos (by omega)]
      · have e : ins l[i].f3 (out[j] :: out.drop (j + 1)) = out[j] :: ins l[i].f3 (out.drop (j + 1)) := by
          conv => lhs; unfold ins
          rw [if_neg (by omega), if_neg (by omega)]
        rw [e] at he
        rw [← ih k (j + 1) (nx ++ [out[j]]) false (by omega) (by simp; omega) (by rw [if_neg (by decide), List.append_assoc]; exact he) (by omega)]
        simp only [spec_AddressesOf.l1, spec_AddressesOf.j2, hrd, hw (), rdIns l i hi, Option.bind_some]
        rw [if_pos hj1, if_neg (by decide), if_pos hi0, if_pos hi1, if_pos hj0, decide_eq_false a, if_neg (by decide), if_pos hj0, if_pos hj1, if_pos (by omega)]
theorem spec_all (l : List Ins) (hn : l.length ≤ 16) : ∀ d k (i : Nat) (out : List Int), i + d = l.length → out.length ≤ i → 60 * d + 20 ≤ k → spec_AddressesOf.l0 k l out (i : Int) = some ((l.drop i).foldl stepS out) := by
  intro d
  induction d with
  | zero =>
    intro k i out hi ho hk
    obtain ⟨k, rfl⟩ : ∃ m, k = m + 1 := ⟨k - 1, by omega⟩
    obtain rfl : i = l.length := by omega
    simp only [spec_AddressesOf.l0]
    rw [if_neg (by omega), List.drop_length]
    rfl
  | succ d ih =>
    intro k i out hi ho hk
    obtain ⟨k, rfl⟩ : ∃ m, k = m + 1 := ⟨k - 1, by omega⟩
    have hlt : i < l.length := by omega
    rw [List.drop_eq_getElem_cons hlt, List.foldl_cons]
    have hs := stepS_len out l[i]
    simp only [spec_AddressesOf.l0]
    rw [if_pos (by omega), if_pos (by omega), rdIns l i hlt, spec_has _ k (by omega), Option.bind_some]
    by_cases c : (l[i].f0 = 2 ∨ l[i].f0 = 3 ∨ l[i].f0 = 5 ∨ l[i].f0 = 7)
    · have e : stepS out l[i] = ins l[i].f3 out := by unfold stepS addrB; rw [decide_eq_true c, if_pos rfl]
      rw [e] at hs
      rw [decide_eq_true c, if_pos rfl, e]
      exact spec_put l i hlt hn out (by omega) _ (60 * d + 20) (fun k hk => ih k (i + 1) _ (by omega) (by omega) hk) out.length k 0 [] false (by omega) (by simp) (by rw [if_neg (by decide), List.drop_zero]; rfl) (by omega)
    · have e : stepS out l[i] = out := by unfold stepS addrB; rw [decide_eq_false c, if_neg (by decide)]
      rw [decide_eq_false c, if_neg (by decide), wrap_succ hlt (by omega), e]
      exact ih k (i + 1) out (by omega) (by omega) (by omega)
theorem spec_addr (l : List Ins) (k : Nat) (hk : 1000 ≤ k) : spec_AddressesOf.f k l = some (addrV l) := by
  unfold spec_AddressesOf.f addrV
  by_cases h : l.length > 16
  · rw [if_pos (by omega), if_pos h]
  · rw [if_neg (by omega), if_neg h]
    have := spec_all l (by omega) l.length k 0 [] (by omega) (by simp) (by omega)
    rw [List.drop_zero] at this
    exact this
theorem markInstrS (l : List Ins) (a : Int) (hl : Len l) (h0 : 0 ≤ a) (h1 : a + 4 * l.length ≤ 9223372036854775807) :
    ∃ l', l'.length = l.length ∧ ∀ k, l.length < k → laws_markInstrS.f k l a = some (a + 4 * l.length, l') ∧ laws_heldInstrS.f k l' a = some (a + 4 * l.length) := by
  have := marked 4 (fun a _ => (⟨a, a + 1, a + 1 + 1, a + 1 + 1 + 1⟩ : Ins)) laws_markInstrS.l0 laws_heldInstrS.l0
    (fun k p x r a h0 h1 h2 => by
      have e : ((p ++ x :: r).length : Int) = p.length + r.length + 1 := by simp; omega
      simp only [laws_markInstrS.l0, Option.bind_some]
      rw [if_pos (by omega), if_pos (by omega), Int.toNat_natCast, set_mid, rdIns _ p.length (by simp), get_mid, rdIns _ p.length (by simp), get_mid, set_mid, rdIns _ p.length (by simp), get_mid, set_mid, rdIns _ p.length (by simp), get_mid, set_mid, wrap_id (x := a + 1) (by omega) (by omega), wrap_id (x := a + 1 + 1) (by omega) (by omega), wrap_id (x := a + 1 + 1 + 1) (by omega) (by omega), wrap_id (x := a + 1 + 1 + 1 + 1) (by omega) (by omega), wrap_succ (n := (p ++ x :: r).length) (by omega) h2, show a + 1 + 1 + 1 + 1 = a + (4 : Nat) from by omega])
    (fun k p a => by simp only [laws_markInstrS.l0]; rw [if_neg (by omega)])
    (fun k p x r a h0 h1 h2 => by
      have e : ((p ++ (⟨a, a + 1, a + 1 + 1, a + 1 + 1 + 1⟩ : Ins) :: r).length : Int) = p.length + r.length + 1 := by simp; omega
      simp only [laws_heldInstrS.l0]
      rw [if_pos (by omega), if_pos (by omega), rdIns _ p.length (by simp), get_mid, if_pos rfl, wrap_id (x := a + 1) (by omega) (by omega), if_pos rfl, wrap_id (x := a + 1 + 1) (by omega) (by omega), if_pos rfl, wrap_id (x := a + 1 + 1 + 1) (by omega) (by omega), if_pos rfl, wrap_id (x := a + 1 + 1 + 1 + 1) (by omega) (by omega), wrap_succ (n := (p ++ (⟨a, a + 1, a + 1 + 1, a + 1 + 1 + 1⟩ : Ins) :: r).length) (by omega) h2, show a + 1 + 1 + 1 + 1 = a + (4 : Nat) from by omega])
    (fun k p a => by simp only [laws_heldInstrS.l0]; rw [if_neg (by omega)]) l [] a hl h0 (by omega)
  simpa [laws_markInstrS.f, laws_heldInstrS.f] using this
theorem FnExactAddressesOf : laws_FnExactAddressesOf.Left := by
  intro l hl
  refine ⟨1048990, ?_⟩
  unfold laws_FnExactAddressesOf.f
  rw [szInstrS l 1048576 hl (by omega) (by omega), Option.bind_some]
  by_cases c : (l.length : Int) ≤ 1048576
  · rw [if_pos c, if_neg (by omega)]
    have hm : (l.map cpIns).length = l.length := List.length_map _
    have hv := addrV_len (l.map cpIns)
    obtain ⟨l1, _, h1⟩ := markInstrS (l.map cpIns) 1 (by show _ ≤ _; omega) (by omega) (by omega)
    have n1 : ¬ (1 + 4 * ((l.map cpIns).length : Int) < 0) := by omega
    have hneg : ¬ (1 + ((addrV (l.map cpIns)).length : Int) < 0) := by omega
    have e6 := eqIntS (addrV (l.map cpIns)) (addrV (l.map cpIns)) (by show _ ≤ _; omega) 1048990 (by omega)
    have e7 := eqIntS (addrV (l.map cpIns)) (addrV (l.map cpIns)) (by show _ ≤ _; omega) 1048989 (by omega)
    have e10 := markIntS (addrV (l.map cpIns)) 1 1048989 (by show _ ≤ _; omega) (by omega) (by omega) (by omega)
    have e11 := heldIntS 1 (addrV (l.map cpIns)).length 1048989 (by omega) (by omega) (by omega) (by omega)
    simp only [toInstrS l 1048990 (by omega) (by omega), Option.bind_some, spec_addr (l.map cpIns) 1048990 (by omega), impl_addr (l.map cpIns) 1048990 (by omega), e6, decide_true, if_true,
      eqInstrS_same (l.map cpIns) (by show _ ≤ _; omega) 1048990 (by omega), (h1 1048990 (by omega)).1, if_neg n1, Bool.not_true, laws_FnExactAddressesOf.j0, Bool.false_eq_true, if_false, e10, e11, if_neg hneg,
      toInstrS l 1048989 (by omega) (by omega), impl_addr (l.map cpIns) 1048989 (by omega), e7]
  · rw [if_neg c, if_pos (by omega)]

end Go.Proofs.Ytlfbdafghpmahaa.Pure
