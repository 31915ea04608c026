-- Written by mp.py (the session's own driver over the kit's printer) for the seat YtbgclnjnngolmaaGreatDoor.
import Derived.Test.YtbgclnjnngolmaaGreatDoorK
import Derived.Test.YtbgclnjnngolmaaGreatDoorPlawseqAtomS
import Derived.Test.YtbgclnjnngolmaaGreatDoorPlawsmarkInstrS
namespace Go.Proofs.YtbgclnjnngolmaaGreatDoor.P
open Go.RowKit Go.Proofs.YtbgclnjnngolmaaGreatDoorW.PrintWords Go.Proofs.YtbgclnjnngolmaaGreatDoorW.PrintLast Go.Proofs.YtbgclnjnngolmaaGreatDoorW.PrintMore
attribute [local go_sem] max2_int min2_int max_two min_two max_three min_three max_four min_four
set_option linter.unusedVariables false
set_option linter.unusedSimpArgs false

/-! ### laws_markProg: function 8 -/
-- @func loop.example/g00712/laws.markProg
-- @making true
-- @rounds true
-- @needs loop.example/g00712/laws.markInstrS loop.example/g00712/laws.heldProg
/-! Rows told with how old their blocks are: what a call made is younger than all that was there, and stays so. -/
namespace Kd
section
variable {α : Type} {d : Kd α} {e : Nat} {w1 W : World} {base : Nat} {ok : Nat → Prop} {v : Value} {xs : List α}
theorem S_young (h : Kd.S d e W base ok v xs) (hb : Below W.heap.size W w1) : Kd.S d e w1 base (fun k => ok k ∧ k < W.heap.size) v xs := Kd.S_below (Kd.S_mono (Kd.S_bound h) (fun _ hk => ⟨hk.1, hk.2.2.1⟩)) hb
theorem R_young (h : d.R e W base ok v xs) (hb : Below W.heap.size W w1) : d.R e w1 base (fun k => ok k ∧ k < W.heap.size) v xs := Kd.R_below (Kd.R_mono (Kd.R_bound h) (fun _ hk => ⟨hk.1, hk.2.2.1⟩)) hb
theorem S_fresh (h : Kd.S d e w1 W.heap.size ok v xs) (hb : base ≤ W.heap.size) : Kd.S d e w1 base (fun k => W.heap.size ≤ k ∧ ok k) v xs := Kd.S_lower (Kd.S_mono (Kd.S_bound h) (fun _ hk => ⟨hk.2.1, hk.1⟩)) hb
theorem R_fresh (h : d.R e w1 W.heap.size ok v xs) (hb : base ≤ W.heap.size) : d.R e w1 base (fun k => W.heap.size ≤ k ∧ ok k) v xs := Kd.R_lower (Kd.R_mono (Kd.R_bound h) (fun _ hk => ⟨hk.2.1, hk.1⟩)) hb
variable {S : Nat → Prop} {wx : World} {e' : Nat} {base' : Nat}
theorem S_keptX (_hx : Kd.S d e wx base ok v xs) (h : Kd.S d e W base ok v xs) (hk : Kept W w1 S) (hne : ∀ k, ok k → ¬ S k) : Kd.S d e w1 base ok v xs := Kd.S_kept h hk hne
theorem R_keptX (_hx : d.R e wx base ok v xs) (h : d.R e W base ok v xs) (hk : Kept W w1 S) (hne : ∀ k, ok k → ¬ S k) : d.R e w1 base ok v xs := Kd.R_kept h hk hne
/-- What a row of other types keeps; of what types a row's blocks are. -/
theorem R_keptT (_hx : d.R e wx base ok v xs) (h : d.R e W base ok v xs) (hk : Kept W w1 S) (hne : ∀ k, (ok k ∧ base ≤ k ∧ k < W.heap.size ∧ ∃ q, q ∈ e :: d.E ∧ ∃ cells, W.heap[k]? = some (.cells cells q (0, 0))) → ¬ S k) : d.R e w1 base ok v xs := Kd.R_mono (Kd.R_kept (Kd.R_bound h) hk hne) (fun _ hk => hk.1)
theorem S_keptT (_hx : Kd.S d e wx base ok v xs) (h : Kd.S d e W base ok v xs) (hk : Kept W w1 S) (hne : ∀ k, (ok k ∧ base ≤ k ∧ k < W.heap.size ∧ ∃ q, q ∈ e :: d.E ∧ ∃ cells, W.heap[k]? = some (.cells cells q (0, 0))) → ¬ S k) : Kd.S d e w1 base ok v xs := Kd.S_mono (Kd.S_kept (Kd.S_bound h) hk hne) (fun _ hk => hk.1)
theorem R_typed (h : d.R e W base ok v xs) {k : Nat} (hk : v.ownBlock = some k) : ∃ q, q ∈ e :: d.E ∧ ∃ cells, W.heap[k]? = some (.cells cells q (0, 0)) := ((Kd.R_bound h).1 k hk).2.2.2
end
end Kd
/-- A block of one type is none of another's. -/
theorem typed_ne {W : World} {E : List Nat} {g T : Nat} {cs : Array Value} (hs : ∃ q, q ∈ E ∧ ∃ cells, W.heap[g]? = some (.cells cells q (0, 0))) (hb : W.heap[g]? = some (.cells cs T (0, 0))) (ht : ∀ q, q ∈ E → q ≠ T) : False := by
 obtain ⟨q, hq, cells, hc⟩ := hs
 rw [hb] at hc
 injection hc with hc
 injection hc with _ h _
 exact ht q hq h.symm
theorem two_types {W : World} {E F : List Nat} {k : Nat} (h1 : ∃ q, q ∈ E ∧ ∃ cells, W.heap[k]? = some (.cells cells q (0, 0))) (h2 : ∃ q, q ∈ F ∧ ∃ cells, W.heap[k]? = some (.cells cells q (0, 0))) (ht : ∀ q, q ∈ E → q ∈ F → False) : False := by
 obtain ⟨q, hq, cells, hc⟩ := h1
 exact typed_ne h2 hc (fun p hp e => ht q hq (e ▸ hp))
/-- The marks on a row of codes: each code is written, one behind the other. -/
def laws_markInstrSS.l0 : Nat → List (List S55) → Int → Int → Option (Int × List (List S55))
 | 0, _, _, _ => none
 | k + 1, x0, x1, x5 => if x5 < (x0.length : Int) then (if 0 ≤ x5 then ((laws_markInstrS.f k (x0.getD x5.toNat []) x1).bind fun p_ => laws_markInstrSS.l0 k (x0.set x5.toNat p_.2) p_.1 (wrap64 (x5 + 1))) else none) else some (x1, x0)
def laws_markInstrSS.f (k : Nat) (l0 : List (List S55)) (a1 : Int) : Option (Int × List (List S55)) := laws_markInstrSS.l0 k l0 a1 0
theorem laws_markInstrSS.mono_l : ∀ k, (∀ y0 y1 y2, LeO (laws_markInstrSS.l0 k y0 y1 y2) (laws_markInstrSS.l0 (k + 1) y0 y1 y2))
 | 0 => fun _ _ _ r h => by simp [laws_markInstrSS.l0] at h
 | k + 1 => by
  have ih0 := laws_markInstrSS.mono_l k
  intro y0 y1 y2
  unfold laws_markInstrSS.l0
  exact LeO.ite (LeO.ite (LeO.bind (laws_markInstrS.mono _ _ k) (fun _ => ih0 _ _ _)) (LeO.refl _)) (LeO.refl _)
theorem laws_markInstrSS.mono : ∀ a0 a1 k, LeO (laws_markInstrSS.f k a0 a1) (laws_markInstrSS.f (k + 1) a0 a1) := fun _ _ k => laws_markInstrSS.mono_l k _ _ _
/-- What the marks tell: how far they count; and that they are found where they were laid. -/
def laws_markProg.f (k : Nat) (a0_0 : Int) (l0_1 : List (List S55)) (a1 : Int) : Option Int := (laws_markInstrSS.f k l0_1 a1).bind fun p_ => (laws_heldProg.f k a0_0 p_.2 a1).bind fun q_ => if q_ = p_.1 then some q_ else none
theorem laws_markProg.mono : ∀ a0 a1 a2 k, LeO (laws_markProg.f k a0 a1 a2) (laws_markProg.f (k + 1) a0 a1 a2) := fun a0 a1 a2 k => by
 unfold laws_markProg.f
 exact LeO.bind (laws_markInstrSS.mono a1 a2 k) (fun p_ => LeO.bind (laws_heldProg.mono a0 p_.2 a2 k) (fun _ => LeO.refl _))
theorem laws_markProg.told {k : Nat} {a0 : Int} {l : List (List S55)} {a1 r : Int} (h : laws_markProg.f k a0 l a1 = some r) : ∃ l2, laws_markInstrSS.f k l a1 = some (r, l2) ∧ laws_heldProg.f k a0 l2 a1 = some r := by
 unfold laws_markProg.f at h
 obtain ⟨⟨p1, p2⟩, h1, h⟩ := Option.bind_eq_some_iff.mp h
 obtain ⟨q, h2, h⟩ := Option.bind_eq_some_iff.mp h
 split at h
 ·next e =>
  injection h with h
  subst h
  subst e
  exact ⟨p2, h1, h2⟩
 ·cases h
set_option maxHeartbeats 1000000 in
set_option maxRecDepth 100000 in
theorem laws_markInstrSS.calls (k : Nat) (P0_ : Nat → Prop) (u : Value) (l0 : List (List S55)) (a1 : Int) (r1 : Int) (r2 : List (List S55)) (w0 w : World) (hB : Below w0.heap.size w0 w) (ho0 : Kd.S (Kd.slice 55 k55) 40 w w0.heap.size P0_ u l0) (h : laws_markInstrSS.f k l0 a1 = some (r1, r2)) :
  Calls Tryz.prog 19 #[u, .int .i64 a1] w fun e w' => e = .returned (.int .i64 r1) ∧ Kd.S (Kd.slice 55 k55) 40 w' w0.heap.size P0_ u r2 ∧ Below w0.heap.size w0 w' ∧ Kept w w' P0_ := by
 have HO0 := Aside0.mk ho0
 have HK := Aside0.mk (Kept.refl w P0_)
 have HB := Aside0.mk hB
 clear hB ho0
 have H : (laws_markInstrSS.l0 k l0 a1 0) = some (r1, r2) := h
 clear h
 have H' := Aside0.mk H
 clear H
 go_enter Tryz.func19, Tryz.ntmps19
 go_wp2
 go_loopg [1, 5] k (fun kq v1 v5 w' => ∃ (x0_1 : List (List S55)) (x1_1 : Int) (x5_1 : Int), v1 = .int .i64 x1_1 ∧ v5 = .int .i64 x5_1 ∧ Aside0 (laws_markInstrSS.l0 kq x0_1 x1_1 x5_1 = some (r1, r2)) ∧ Aside0 (kq ≤ k) ∧ Aside0 (Kd.S (Kd.slice 55 k55) 40 w' w0.heap.size P0_ u x0_1) ∧ Aside0 (Kept w w' P0_) ∧ Aside0 (Below w0.heap.size w0 w'))
 case atStart => exact ⟨(l0), (a1), (0), rfl, rfl, H', ⟨Nat.le_refl _⟩, HO0, HK, HB⟩
 case round =>
  clear H'
  obtain ⟨x0_1, x1_1, x5_1, rfl, rfl, HA, HK1, HO_0, HK, HB⟩ := hrel
  cases gk with
  | zero => exact absurd HA.out (by simp [laws_markInstrSS.l0])
  | succ k1 =>
   have H := HA.out
   clear HA
   simp only [laws_markInstrSS.l0] at H
   by_cases c3 : x5_1 < (x0_1.length : Int)
   rotate_left
   ·rw [if_neg c3] at H
    have c3b0 : decide (x5_1 < (x0_1.length : Int)) = false := decide_eq_false c3
    clear c3
    simp only [Option.some.injEq, Prod.mk.injEq] at H
    obtain ⟨rfl, rfl⟩ := H
    obtain ⟨Ao18, co18, eo18⟩ := Kd.S_slice HO_0.out
    subst eo18
    go_wp2
    go_ret
    exact ⟨rfl, HO_0.out, HB.out, HK.out⟩
   rw [if_pos c3] at H
   have c3b0 : decide (x5_1 < (x0_1.length : Int)) = true := decide_eq_true c3
   by_cases c4 : 0 ≤ x5_1
   rotate_left
   ·rw [if_neg c4] at H
    exact absurd H (by simp)
   rw [if_pos c4] at H
   have c4b0 : decide (0 ≤ x5_1) = true := decide_eq_true c4
   obtain ⟨⟨p1, p2⟩, A0, H⟩ := Option.bind_eq_some_iff.mp H
   obtain ⟨x, ex⟩ : ∃ x, x = x0_1.getD x5_1.toNat [] := ⟨_, rfl⟩
   rw [← ex] at A0
   have A := Aside0.mk A0
   have H' := Aside0.mk H
   clear H A0
   obtain ⟨g, cp, eo, gb, gl, _, _⟩ := Kd.S_form HO_0.out (by omega)
   subst eo
   obtain ⟨oki, c, hcl, hM, hcc, hoki, hH⟩ := Kd.S_lend HO_0.out [] x5_1 c4 (by omega)
   rw [← ex] at hM
   obtain ⟨v, rfl, hR⟩ := hM
   have hx : wr.cell? ⟨g, x5_1.toNat, none⟩ = some v := by
    have := hcc 0 v rfl
    simpa [Kd.slice] using this
   obtain ⟨Av, cv, ev⟩ := Kd.R_slice hR
   have HR := Aside0.mk hR
   have HH := Aside0.mk hH
   have HI := Aside0.mk hoki
   clear hR hH hoki hcl hcc gb gl c3 ex
   subst ev
   have p5 := eq_true c4
   have q5 : (x5_1 < ((x0_1.length : Int) : Int)) = True := eq_true (of_decide_eq_true c3b0)
   clear c4
   go_wp2_with (go_at_call 29; (with_reducible refine (laws_markInstrS.calls k1 oki _ _ x1_1 p1 p2 w0 wr HB.out HR.out A.out).mono ?_); rintro e w2 ⟨rfl, hy, hb, hkp⟩; have HH2 := Aside0.mk (Kd.H_back (Kd.H_step HH.out (fun k_ _ hn hlt => hkp.2 k_ hlt hn)) (Kd.M_row (Kd.R_reok rfl hy (fun k_ e_ => HR.out.1 k_ e_))) (fun _ h_ => h_)); have HB2 := Aside0.mk hb; have HK2 := Aside0.mk (HK.out.then_ hkp (fun k_ hs => .inl (HI.out k_ hs).1)); clear hy hb hkp)
   go_roundg k1
   case measure => have := HK1.out; omega
   case rel => exact ⟨_, p1, (wrap64 (x5_1 + 1)), rfl, rfl, H', ⟨by have := HK1.out; omega⟩, HH2, HK2, HB2⟩
set_option maxHeartbeats 1000000 in
set_option maxRecDepth 100000 in
theorem laws_markProg.writes (k : Nat) (a0 : Int) (l0 : List (List S55)) (a1 : Int) (r1 : Int) (r2 : List (List S55)) (w0 w : World) {wx : World} {n c : Nat} {A : Option Addr} {P0_ : Nat → Prop} (_hx : Kd.S (Kd.slice 55 k55) 40 wx w0.heap.size P0_ (.slice A n c) l0) (hB : Below w0.heap.size w0 w) (ho0 : Kd.S (Kd.slice 55 k55) 40 w w0.heap.size P0_ (.slice A n c) l0) (h : laws_markInstrSS.f k l0 a1 = some (r1, r2)) :
  Calls Tryz.prog 8 #[.agg #[.int .i64 a0, .slice A n c], .int .i64 a1] w fun e w' => e = .returned (.int .i64 r1) ∧ Kd.S (Kd.slice 55 k55) 40 w' w0.heap.size P0_ (.slice A n c) r2 ∧ Below w0.heap.size w0 w' ∧ Kept w w' (fun k_ => P0_ k_ ∧ ∃ q, q ∈ [40, 55] ∧ ∃ cells, w.heap[k_]? = some (.cells cells q (0, 0))) := by
 have hu := Tryz.underlying24
 have HO := Aside0.mk (Kd.S_mono (ok' := fun k_ => P0_ k_ ∧ ∃ q, q ∈ [40, 55] ∧ ∃ cells, w.heap[k_]? = some (.cells cells q (0, 0))) (Kd.S_bound ho0) (fun k_ hk => ⟨hk.1, hk.2.2.2⟩))
 have HB := Aside0.mk hB
 have H := Aside0.mk h
 clear ho0 _hx hB h
 go_enter Tryz.func8, Tryz.ntmps8
 go_wp2_with (go_at_call 19; (with_reducible refine (laws_markInstrSS.calls k _ _ l0 a1 r1 r2 w0 _ (below_alloc HB.out _) (Kd.S_alloc HO.out _) H.out).mono ?_); rintro e w2 ⟨rfl, hy, hb, hkp⟩; have HY := Aside0.mk hy; have HB2 := Aside0.mk hb; have HK := Aside0.mk (Kept.then_ (Kept.alloc (Kept.refl w _) _) hkp (fun _ hs => .inl hs)); clear hy hb hkp)
 go_ret
 exact ⟨rfl, Kd.S_mono HY.out (fun _ hk => hk.1), HB2.out, HK.out⟩
theorem laws_markProg.finds (k : Nat) (a0 : Int) (a1 : Int) (r : Int) (w : World) {wx : World} {base n c : Nat} {A : Option Addr} {P0_ : Nat → Prop} {l2 : List (List S55)} (_hx : Kd.S (Kd.slice 55 k55) 40 wx base P0_ (.slice A n c) l2) (ho : Kd.S (Kd.slice 55 k55) 40 w base P0_ (.slice A n c) l2) (h : laws_heldProg.f k a0 l2 a1 = some r) :
  Calls Tryz.prog 10 #[.agg #[.int .i64 a0, .slice A n c], .int .i64 a1] w fun e w' => e = .returned (.int .i64 r) ∧ Below w.heap.size w w' := by
 obtain ⟨hn, hc, hC⟩ := Kd.S_reads' ho
 subst hn
 exact laws_heldProg.calls k a0 A c l2 a1 r w hC hc h

end Go.Proofs.YtbgclnjnngolmaaGreatDoor.P
