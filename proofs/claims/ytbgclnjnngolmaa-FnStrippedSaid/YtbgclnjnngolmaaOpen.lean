/- What came in can be read: from the form's reading of an argument to the words of the print (Kd.C, Kd.K): whole numbers, bools, slices, structs, nested. No program in sight; no condition. -/
import Derived.Test.YtbgclnjnngolmaaV
import Derived.ProofKit
import Derived.Deep.Slices
namespace Go.Proofs.Ytbgclnjnngolmaa.Open
open Go.ChangeShapes Go.WideShapes Go.Deep Go.RowKit Go.Proofs.YtbgclnjnngolmaaW.PrintWords
set_option linter.unusedVariables false

/-- Whatever reads as data of type t is of the kind d. -/
def Opens {α : Type} (P : Program) (d : Kd α) (t : TypeId) : Prop :=
  ∀ (H : Type) (enc : TypeId × Value → H) (W : World) (fuel : Nat) (cs : List Value) (x : DataW H × List MemPlace),
    DataW.trod enc P W 0 (fun _ => true) true fuel t cs = some x → ∃ y : α, d.K W y cs

theorem opens_int {P : Program} {t : TypeId} {k : IntKind} (ht : P.underlying t = some (.int k)) : Opens P (Kd.int k) t := by
  intro H enc W fuel cs x h
  obtain ⟨n, rfl, _⟩ := DataW.trod_int ht h
  exact ⟨n, rfl⟩

theorem opens_bool {P : Program} {t : TypeId} (ht : P.underlying t = some .bool) : Opens P Kd.bool t := by
  intro H enc W fuel cs x h
  obtain ⟨n, rfl, _⟩ := DataW.trod_bool ht h
  exact ⟨n, rfl⟩

theorem opens_string {P : Program} {t : TypeId} (ht : P.underlying t = some .string) : Opens P Kd.string t := by
  intro H enc W fuel cs x h
  obtain ⟨n, rfl, _⟩ := DataW.trod_string ht h
  exact ⟨n, rfl⟩

theorem cells_at {w : World} {b : Nat} {a : Addr} {n : Nat} {cs : List Value} (h : w.cells? b a n = some cs) : ∀ i u, cs[i]? = some u → w.cell? (a.add i) = some u := by
  obtain ⟨_, hl, hc⟩ := World.cells?_some h
  intro i u hu
  have hi : i < n := by
    rcases Nat.lt_or_ge i cs.length with h' | h'
    · omega
    · rw [List.getElem?_eq_none h'] at hu
      cases hu
  rw [hc i hi]
  exact hu

theorem opens_slice {α : Type} [Inhabited α] {P : Program} {d : Kd α} {t e : TypeId} (ht : P.underlying t = some (.slice e)) (hd : Opens P d e) (hs : d.sz = P.cellsOf e) : Opens P (Kd.slice e d) t := by
  intro H enc W fuel cs x h
  rcases open_slice ht h with ⟨rfl, _⟩ | ⟨a, len, cap, m, n, D, Pl, rfl, _, hl, hm, hmm, _, hx⟩
  · exact ⟨[], none, 0, rfl, Nat.le_refl _, Kd.C_nil _ _⟩
  · have hml : len ≤ m := by
      rw [hmm]
      split
      · exact hl
      · exact Nat.le_refl _
    obtain ⟨f, hf⟩ := choose_lt (α := α) (n := len) (p := fun i y => ∃ cs', W.cells? 0 (a.add (i * P.cellsOf e)) (P.cellsOf e) = some cs' ∧ d.K W y cs') (fun i hi => by
      obtain ⟨cs', h1, h2⟩ := hx i (by omega)
      obtain ⟨y, hy⟩ := hd H enc W _ _ _ h2
      exact ⟨y, cs', h1, hy⟩)
    have hlen : ((List.range len).map f).length = len := by simp
    refine ⟨(List.range len).map f, some a, cap, by rw [hlen], by rw [hlen]; exact hl, ?_⟩
    rw [hlen]
    refine ⟨hlen, by unfold maxLen at hm; omega, fun _ => ⟨a, rfl, fun j p hp => ?_⟩⟩
    have hj : j < len := by
      rcases Nat.lt_or_ge j len with h' | h'
      · exact h'
      · rw [List.getElem?_eq_none (by rw [hlen]; exact h')] at hp
        cases hp
    have hpj : p = f j := by
      rw [List.getElem?_map, List.getElem?_range hj] at hp
      simpa using hp.symm
    subst hpj
    obtain ⟨cs', h1, h2⟩ := hf j hj
    refine ⟨cs', d.K_len h2, h2, fun i u hu => ?_⟩
    have := cells_at h1 i u hu
    rwa [Deep.add_add, ← hs] at this

/-- The fields of a struct from one place on. -/
def OpensAt {α : Type} (P : Program) (d : Kd α) (o : Nat) (fs : List Field) : Prop :=
  ∀ (H : Type) (enc : TypeId × Value → H) (W : World) (fuel : Nat) (cs : List Value),
    (∀ f ∈ fs, ∃ x, DataW.trod enc P W 0 (fun _ => true) true fuel f.type ((cs.drop f.offset).take (P.cellsOf f.type)) = some x) → ∃ y : α, d.K W y ((cs.drop o).take d.sz)

theorem opensAt_last {α : Type} {P : Program} {d : Kd α} {o : Nat} {f : Field} (h : Opens P d f.type) (ho : f.offset = o) (hs : d.sz = P.cellsOf f.type) : OpensAt P d o [f] := by
  intro H enc W fuel cs hx
  obtain ⟨x, h1⟩ := hx f (by simp)
  rw [hs, ← ho]
  exact h H enc W _ _ _ h1

theorem opensAt_cons {α β : Type} {P : Program} {d : Kd α} {d' : Kd β} {o : Nat} {f : Field} {fs : List Field} (h : Opens P d f.type) (ho : f.offset = o) (hs : d.sz = P.cellsOf f.type) (h' : OpensAt P d' (o + d.sz) fs) : OpensAt P (Kd.pair d d') o (f :: fs) := by
  intro H enc W fuel cs hx
  obtain ⟨x, h1⟩ := hx f (by simp)
  obtain ⟨y, hy⟩ := h H enc W _ _ _ h1
  obtain ⟨z, hz⟩ := h' H enc W fuel cs (fun g hg => hx g (List.mem_cons_of_mem _ hg))
  rw [← hs, ho] at hy
  refine ⟨(y, z), _, _, ?_, hy, hz⟩
  show (cs.drop o).take (d.sz + d'.sz) = _
  rw [List.take_add, List.drop_drop]

theorem opens_struct {α β : Type} {P : Program} {d : Kd α} {g : β → α} {t : TypeId} {fs : Array Field} (ht : P.underlying t = some (.struct fs)) (h : OpensAt P d 0 fs.toList) (hs : d.sz = P.cellsOf t) (hg : ∀ z, ∃ y, g y = z) : Opens P (Kd.iso d g) t := by
  intro H enc W fuel cs x hx
  obtain ⟨ys, n, _, _, hl, hy, hm⟩ := DataW.trod_struct ht hx
  obtain ⟨z, hz⟩ := h H enc W n cs (fun f hf => by
    obtain ⟨i, hi⟩ := List.mem_iff_getElem?.1 hf
    have hi' : fs[i]? = some f := by simpa using hi
    have hlt : i < ys.length := by
      rw [hy]
      exact (Array.getElem?_eq_some_iff.1 hi').1
    exact ⟨ys[i], by rw [hm i f hi', List.getElem?_eq_getElem hlt]⟩)
  obtain ⟨y, rfl⟩ := hg z
  refine ⟨y, ?_⟩
  rw [List.drop_zero, hs, ← hl, List.take_length] at hz
  exact hz

end Go.Proofs.Ytbgclnjnngolmaa.Open
