-- Written by mp.py (the session's own driver over the kit's printer) for the seat Ytlfbdafghpmahaa.
import Derived.Test.YtlfbdafghpmahaaK
import Derived.Test.YtlfbdafghpmahaaPlawseqMachine
namespace Go.Proofs.Ytlfbdafghpmahaa.P
open Go.RowKit Go.Proofs.YtlfbdafghpmahaaW.PrintWords Go.Proofs.YtlfbdafghpmahaaW.PrintLast Go.Proofs.YtlfbdafghpmahaaW.PrintMore
attribute [local go_sem] max2_int min2_int max_two min_two max_three min_three max_four min_four
set_option linter.unusedVariables false
set_option linter.unusedSimpArgs false

/-! ### laws_markMachine: function 34 -/
-- @func loop.example/g00712/laws.markMachine
-- @making true
-- @rounds true
-- @needs loop.example/g00712/laws.markMem loop.example/g00712/laws.markIntS loop.example/g00712/laws.markSlotS loop.example/g00712/laws.heldMachine
/-- The marks on a row of threads: a thread's place, its values, its buffer, one behind the other. -/
def laws_markThreadS.l0 : Nat → List S102 → Int → Int → Option (Int × List S102)
 | 0, _, _, _ => none
 | k + 1, x0, x1, x5 => if x5 < (x0.length : Int) then (if 0 ≤ x5 then ((laws_markIntS.f k (x0.getD x5.toNat z102).f1 (wrap64 (x1 + 1))).bind fun p_ => (laws_markSlotS.f k (x0.getD x5.toNat z102).f2 p_.1).bind fun q_ => laws_markThreadS.l0 k (x0.set x5.toNat ⟨x1, p_.2, q_.2⟩) q_.1 (wrap64 (x5 + 1))) else none) else some (x1, x0)
def laws_markThreadS.f (k : Nat) (l0 : List S102) (a1 : Int) : Option (Int × List S102) := laws_markThreadS.l0 k l0 a1 0
theorem laws_markThreadS.mono_l : ∀ k, (∀ y0 y1 y2, LeO (laws_markThreadS.l0 k y0 y1 y2) (laws_markThreadS.l0 (k + 1) y0 y1 y2))
 | 0 => fun _ _ _ r h => by simp [laws_markThreadS.l0] at h
 | k + 1 => by
  have ih0 := laws_markThreadS.mono_l k
  intro y0 y1 y2
  unfold laws_markThreadS.l0
  exact LeO.ite (LeO.ite (LeO.bind (laws_markIntS.mono _ _ k) (fun _ => LeO.bind (laws_markSlotS.mono _ _ k) (fun _ => ih0 _ _ _))) (LeO.refl _)) (LeO.refl _)
theorem laws_markThreadS.mono : ∀ a0 a1 k, LeO (laws_markThreadS.f k a0 a1) (laws_markThreadS.f (k + 1) a0 a1) := fun _ _ k => laws_markThreadS.mono_l k _ _ _
/-- What the marks tell: how far they count; and that they are found where they were laid. -/
def laws_markMachine.f (k : Nat) (l0_0 : List Int) (l0_1 : List S102) (a1 : Int) : Option Int := (laws_markMem.f k l0_0 a1).bind fun p_ => (laws_markThreadS.f k l0_1 p_.1).bind fun q_ => (laws_heldMachine.f k p_.2 q_.2 a1).bind fun r_ => if r_ = q_.1 then some r_ else none
theorem laws_markMachine.mono : ∀ a0 a1 a2 k, LeO (laws_markMachine.f k a0 a1 a2) (laws_markMachine.f (k + 1) a0 a1 a2) := fun a0 a1 a2 k => by
 unfold laws_markMachine.f
 exact LeO.bind (laws_markMem.mono a0 a2 k) (fun p_ => LeO.bind (laws_markThreadS.mono a1 p_.1 k) (fun q_ => LeO.bind (laws_heldMachine.mono p_.2 q_.2 a2 k) (fun _ => LeO.refl _)))
theorem laws_markMachine.told {k : Nat} {l0 : List Int} {l1 : List S102} {a1 r : Int} (h : laws_markMachine.f k l0 l1 a1 = some r) : ∃ m0 c1 m1, (laws_markMem.f k l0 a1 = some (c1, m0) ∧ laws_markThreadS.f k l1 c1 = some (r, m1)) ∧ laws_heldMachine.f k m0 m1 a1 = some r := by
 unfold laws_markMachine.f at h
 obtain ⟨⟨p1, p2⟩, h1, h⟩ := Option.bind_eq_some_iff.mp h
 obtain ⟨⟨q1, q2⟩, h2, h⟩ := Option.bind_eq_some_iff.mp h
 obtain ⟨t, h3, h⟩ := Option.bind_eq_some_iff.mp h
 split at h
 ·next e =>
  injection h with h
  subst h
  subst e
  exact ⟨p2, p1, q2, ⟨h1, h2⟩, h3⟩
 ·cases h
set_option maxHeartbeats 1000000 in
set_option maxRecDepth 100000 in
theorem laws_markThreadS.calls (k : Nat) (P0_ : Nat → Prop) (u : Value) (l0 : List S102) (a1 : Int) (r1 : Int) (r2 : List S102) (w0 w : World) (hB : Below w0.heap.size w0 w) (ho0 : Kd.S k102 102 w w0.heap.size P0_ u l0) (h : laws_markThreadS.f k l0 a1 = some (r1, r2)) :
  Calls Try.prog 72 #[u, .int .i64 a1] w fun e w' => e = .returned (.int .i64 r1) ∧ Kd.S k102 102 w' w0.heap.size P0_ u r2 ∧ Below w0.heap.size w0 w' ∧ Kept w w' P0_ := by
 have HO0 := Aside0.mk ho0
 have HK := Aside0.mk (Kept.refl w P0_)
 have HB := Aside0.mk hB
 clear hB ho0
 have H : (laws_markThreadS.l0 k l0 a1 0) = some (r1, r2) := h
 clear h
 have H' := Aside0.mk H
 clear H
 go_enter Try.func72, Try.ntmps72
 go_wp2
 go_loopg [1, 5] k (fun kq v1 v5 w' => ∃ (x0_1 : List S102) (x1_1 : Int) (x5_1 : Int), v1 = .int .i64 x1_1 ∧ v5 = .int .i64 x5_1 ∧ Aside0 (laws_markThreadS.l0 kq x0_1 x1_1 x5_1 = some (r1, r2)) ∧ Aside0 (kq ≤ k) ∧ Aside0 (Kd.S k102 102 w' w0.heap.size P0_ u x0_1) ∧ Aside0 (Kept w w' P0_) ∧ Aside0 (Below w0.heap.size w0 w'))
 case atStart => exact ⟨(l0), (a1), (0), rfl, rfl, H', ⟨Nat.le_refl _⟩, HO0, HK, HB⟩
 case round =>
  clear H'
  obtain ⟨x0_1, x1_1, x5_1, rfl, rfl, HA, HK1, HO_0, HK, HB⟩ := hrel
  cases gk with
  | zero => exact absurd HA.out (by simp [laws_markThreadS.l0])
  | succ k1 =>
   have H := HA.out
   clear HA
   simp only [laws_markThreadS.l0] at H
   by_cases c3 : x5_1 < (x0_1.length : Int)
   rotate_left
   ·rw [if_neg c3] at H
    have c3b0 : decide (x5_1 < (x0_1.length : Int)) = false := decide_eq_false c3
    clear c3
    simp only [Option.some.injEq, Prod.mk.injEq] at H
    obtain ⟨rfl, rfl⟩ := H
    obtain ⟨Ao18, co18, eo18⟩ := Kd.S_slice HO_0.out
    subst eo18
    go_wp2
    go_ret
    exact ⟨rfl, HO_0.out, HB.out, HK.out⟩
   rw [if_pos c3] at H
   have c3b0 : decide (x5_1 < (x0_1.length : Int)) = true := decide_eq_true c3
   by_cases c4 : 0 ≤ x5_1
   rotate_left
   ·rw [if_neg c4] at H
    exact absurd H (by simp)
   rw [if_pos c4] at H
   have c4b0 : decide (0 ≤ x5_1) = true := decide_eq_true c4
   obtain ⟨⟨p1, p2⟩, A0, H⟩ := Option.bind_eq_some_iff.mp H
   obtain ⟨⟨q1, q2⟩, B0, H⟩ := Option.bind_eq_some_iff.mp H
   obtain ⟨x, ex⟩ : ∃ x, x = x0_1.getD x5_1.toNat z102 := ⟨_, rfl⟩
   rw [← ex] at A0 B0
   have A := Aside0.mk A0
   have B := Aside0.mk B0
   have H' := Aside0.mk H
   clear H A0 B0
   obtain ⟨g, cp, eo, gb, gl, _, _⟩ := Kd.S_form HO_0.out (by omega)
   subst eo
   obtain ⟨oki, c, hcl, hM, hcc, hfr, hoki, hH⟩ := Kd.S_elem HO_0.out z102 x5_1 c4 (by omega)
   rw [← ex] at hM
   obtain ⟨y0, y1, y2⟩ := x
   obtain ⟨v1, v2, rfl, hR1, hR2⟩ := k102_openM hM
   have hHS := Kd.H_seg hH c4 (by omega) (seg := [.int .i64 x1_1]) (j := 0) (show 1 ≤ 3 from by decide) (fun q_ hq_ => by simp at hq_; subst hq_; rfl)
   have hx0 : wr.cell? ⟨g, x5_1.toNat * 3, none⟩ = some (.int .i64 y0) := hcc 0 _ rfl
   have hf0 : wr.frozen? ⟨g, x5_1.toNat * 3, none⟩ = false := hfr 0
   obtain ⟨Av1, cv1, ev1⟩ := Kd.R_slice hR1
   obtain ⟨Av2, cv2, ev2⟩ := Kd.R_slice hR2
   have HR1 := Aside0.mk hR1
   have HR2 := Aside0.mk hR2
   have HS := Aside0.mk hHS
   have HI := Aside0.mk hoki
   have HL := Aside0.mk (show (0 ≤ x5_1 ∧ x5_1 < (x0_1.length : Int)) from ⟨c4, c3⟩)
   have GB := Aside0.mk gb
   clear hR1 hR2 hHS hH hoki hcl hcc hfr hM gb gl c3 ex
   subst ev1
   subst ev2
   have p5 := eq_true c4
   have q5 : (x5_1 < ((x0_1.length : Int) : Int)) = True := eq_true (of_decide_eq_true c3b0)
   clear c4
   go_wp2_with (first
    | ((with_reducible refine gate_store (t := 3) (p := 16) rfl ?_); refine store_event (t := 3) (p := 16) (v := ?vo) (w1 := (wr.setCell ⟨g, x5_1.toNat * 3, none⟩ (.int .i64 x1_1))) ?hg ?ho ?hn ?hr ?_; (case ho => rfl); (case hg => rfl); (case hn => rfl); (case hr => first | (go_simp; done) | (go_simp; rfl)); intro w11 hw; have hg : wr.grownBy w11 (some g) := (by rw [hw]; exact HS.out.2); have HH := Aside0.mk (by rw [hw]; exact HS.out.1 : Kd.H k102 102 w11 w0.heap.size P0_ (.slice (some ⟨g, 0, none⟩) x0_1.length cp) x0_1 x5_1 oki [.int .i64 x1_1, .slice Av1 y1.length cv1, .slice Av2 y2.length cv2]); have HQ1 := Aside0.mk (Kd.R_grown HR1.out hg (fun k_ hk e_ => (HI.out k_ hk).2 (by injection e_))); have HQ2 := Aside0.mk (Kd.R_grown HR2.out hg (fun k_ hk e_ => (HI.out k_ hk).2 (by injection e_))); have HB1 := Aside0.mk ((by rw [hw]; exact below_set (HB.out) GB.out : Below w0.heap.size w0 w11)); have HK2 := Aside0.mk (Kept.of_grown (S := P0_) hg HK.out (fun k_ e_ => .inl (by injection e_ with e_; subst e_; exact HO_0.out.choose_spec.1 _ rfl))); clear hg hw; obtain ⟨_, _, _, _, _, hcc1, _⟩ := Kd.H_raw HH.out HL.out.1 HL.out.2; have hx1 : w11.cell? ⟨g, x5_1.toNat * 3 + 1, none⟩ = some (.slice Av1 y1.length cv1) := hcc1 1 _ rfl; clear hcc1)
    | (go_at_call 17; (with_reducible refine (laws_markIntS.calls k1 _ _ y1 (wrap64 (x1_1 + 1)) p1 p2 w0 _ HB1.out (Kd.R_tight2 rfl HQ1.out) A.out).mono ?_); rintro e w12 ⟨rfl, hy, hb, hkp⟩; have HY1 := Aside0.mk (Kd.R_reok rfl hy (fun k_ e_ => HQ1.out.1 k_ e_)); have HH2 := Aside0.mk (Kd.H_step HH.out (fun k_ _ hn hlt => hkp.2 k_ hlt (fun hs => hn hs.2))); have HY2 := Aside0.mk (Kd.R_mono (Kd.R_kept (Kd.R_apart' HQ2.out (Kd.R_typed HQ1.out) (by decide)) hkp (fun k_ hk hs => hk.2 hs.1)) (fun _ hk => hk.1)); have HB2 := Aside0.mk hb; have HK3 := Aside0.mk (HK2.out.then_ hkp (fun k_ hs => .inl (HI.out k_ hs.2).1)); clear hy hb hkp; obtain ⟨_, _, _, _, _, hcc2, _⟩ := Kd.H_raw HH2.out HL.out.1 HL.out.2; have hx2 : w12.cell? ⟨g, x5_1.toNat * 3 + 2, none⟩ = some (.slice Av2 y2.length cv2) := hcc2 2 _ rfl; clear hcc2)
    | (go_at_call 109; (with_reducible refine (laws_markSlotS.calls k1 _ _ y2 p1 q1 q2 w0 _ HB2.out (Kd.R_tight2 rfl HY2.out) B.out).mono ?_); rintro e w13 ⟨rfl, hy, hb, hkp⟩; have HZ2 := Aside0.mk (Kd.R_reok rfl hy (fun k_ e_ => HY2.out.1 k_ e_)); have HH3 := Aside0.mk (Kd.H_step HH2.out (fun k_ _ hn hlt => hkp.2 k_ hlt (fun hs => hn hs.2))); have HZ1 := Aside0.mk (Kd.R_mono (Kd.R_kept (Kd.R_apart' HY1.out (Kd.R_typed HY2.out) (by decide)) hkp (fun k_ hk hs => hk.2 hs.1)) (fun _ hk => hk.1)); have HB3 := Aside0.mk hb; have HK4 := Aside0.mk (HK3.out.then_ hkp (fun k_ hs => .inl (HI.out k_ hs.2).1)); clear hy hb hkp; have HS2 := Aside0.mk (Kd.H_back HH3.out (k102_mkM _ _ _ (⟨x1_1, p2, q2⟩ : S102) HZ1.out HZ2.out) (fun _ h_ => h_))))
   go_roundg k1
   case measure => have := HK1.out; omega
   case rel => exact ⟨_, q1, (wrap64 (x5_1 + 1)), rfl, rfl, H', ⟨by have := HK1.out; omega⟩, HS2, HK4, HB3⟩
/-- What the marks may write: the cells' row, the threads' rows. -/
def laws_markMachine.set_ (w : World) (v : Value) (P0_ P1_ : Nat → Prop) (k_ : Nat) : Prop := ((some k_ = v.ownBlock ∧ P0_ k_) ∨ P1_ k_) ∧ ∃ q, q ∈ [3, 102, 152] ∧ ∃ cells, w.heap[k_]? = some (.cells cells q (0, 0))
set_option maxHeartbeats 1000000 in
set_option maxRecDepth 100000 in
theorem laws_markMachine.writes (k : Nat) (l0 : List Int) (l1 : List S102) (a1 : Int) (c1 r1 : Int) (m0 : List Int) (m1 : List S102) (w0 w : World) {wx wy : World} {n c n' c' : Nat} {A A' : Option Addr} {P0_ P1_ : Nat → Prop} (_hx : Kd.R (Kd.int .i64) 3 wx w0.heap.size P0_ (.slice A n c) l0) (_hy : Kd.S k102 102 wy w0.heap.size P1_ (.slice A' n' c') l1) (hne : ∀ k_, P1_ k_ → some k_ ≠ (Value.slice A n c).ownBlock) (hB : Below w0.heap.size w0 w) (ho0 : Kd.R (Kd.int .i64) 3 w w0.heap.size P0_ (.slice A n c) l0) (ho1 : Kd.S k102 102 w w0.heap.size P1_ (.slice A' n' c') l1) (h : laws_markMem.f k l0 a1 = some (c1, m0) ∧ laws_markThreadS.f k l1 c1 = some (r1, m1)) :
  Calls Try.prog 34 #[.agg #[.slice A n c, .slice A' n' c'], .int .i64 a1] w fun e w' => e = .returned (.int .i64 r1) ∧ Kd.R (Kd.int .i64) 3 w' w0.heap.size P0_ (.slice A n c) m0 ∧ Kd.S k102 102 w' w0.heap.size P1_ (.slice A' n' c') m1 ∧ Below w0.heap.size w0 w' ∧ Kept w w' (laws_markMachine.set_ w (.slice A n c) P0_ P1_) := by
 have hu := Try.underlying54
 have hu2 := Try.underlying51
 have HO := Aside0.mk (Kd.R_mono (ok' := fun k_ => (some k_ = (Value.slice A n c).ownBlock ∧ P0_ k_) ∧ ∃ q, q ∈ [3, 102, 152] ∧ ∃ cells, w.heap[k_]? = some (.cells cells q (0, 0))) (Kd.R_bound (Kd.R_tight2 rfl ho0)) (fun k_ hk => ⟨hk.1, by obtain ⟨q, hq, cs, hc⟩ := hk.2.2.2; exact ⟨q, by simp [Kd.int, Kd.scalar] at hq; simp [hq], cs, hc⟩⟩))
 have HP := Aside0.mk (Kd.S_mono (ok' := fun k_ => P1_ k_ ∧ ∃ q, q ∈ [3, 102, 152] ∧ ∃ cells, w.heap[k_]? = some (.cells cells q (0, 0))) (Kd.S_bound ho1) (fun k_ hk => ⟨hk.1, by obtain ⟨q, hq, cs, hc⟩ := hk.2.2.2; exact ⟨q, by rw [show (102 :: (k102).E) = [102, 3, 152] from rfl] at hq; simp only [List.mem_cons, List.mem_nil_iff, or_false] at hq ⊢; rcases hq with h_ | h_ | h_ <;> simp [h_], cs, hc⟩⟩))
 have HN := Aside0.mk hne
 have HB := Aside0.mk hB
 have H := Aside0.mk h.1
 have G := Aside0.mk h.2
 clear ho0 ho1 _hx _hy hB h hne
 go_enter Try.func34, Try.ntmps34
 go_wp2_with (first
  | (go_at_call 71; (with_reducible refine (laws_markMem.calls k _ _ l0 a1 c1 m0 w0 _ (below_alloc HB.out _) (Kd.R_alloc HO.out _) H.out).mono ?_); rintro e w2 ⟨rfl, hy, hb, hkp⟩; have HY := Aside0.mk (Kd.R_reok rfl hy (fun k_ e_ => HO.out.1 k_ e_)); have HB2 := Aside0.mk hb; have HK := Aside0.mk (Kept.then_ (Kept.alloc (Kept.refl w (laws_markMachine.set_ w (.slice A n c) P0_ P1_)) _) hkp (fun _ hs => .inl ⟨.inl hs.1, hs.2⟩)); have HP2 := Aside0.mk (Kd.S_kept (Kd.S_alloc HP.out _) hkp (fun k_ hk hs => HN.out k_ hk.1 hs.1.1)); have hbx := blk_kept (g := w.heap.size) (by simpa using heap_alloc_new w _) hkp (fun hs => by obtain ⟨_, q, _, cs, hc⟩ := hs; exact absurd (blk_lt hc) (Nat.lt_irrefl _)); have hcx := (blk_cell hbx 1).trans rfl; clear hy hb hkp hbx)
  | (go_at_call 72; (with_reducible refine (laws_markThreadS.calls k _ _ l1 c1 r1 m1 w0 _ HB2.out HP2.out G.out).mono ?_); rintro e w3 ⟨rfl, hy, hb, hkp⟩; have HZ := Aside0.mk (Kd.S_mono hy (fun _ hk => hk.1)); have HB3 := Aside0.mk hb; have HK2 := Aside0.mk (HK.out.then_ hkp (fun _ hs => .inl ⟨.inr hs.1, hs.2⟩)); have HY2 := Aside0.mk (Kd.R_mono (Kd.R_kept HY.out hkp (fun k_ hk hs => HN.out k_ hs.1 hk.1.1)) (fun _ hk => hk.1.2)); clear hy hb hkp))
 go_ret
 exact ⟨rfl, HY2.out, HZ.out, HB3.out, HK2.out⟩
theorem laws_markMachine.finds (k : Nat) (a1 : Int) (r : Int) (w : World) {wx wy : World} {base base' n c n' c' : Nat} {A A' : Option Addr} {P0_ P1_ : Nat → Prop} {l0 : List Int} {l1 : List S102} (_hx : Kd.R (Kd.int .i64) 3 wx base P0_ (.slice A n c) l0) (_hy : Kd.S k102 102 wy base' P1_ (.slice A' n' c') l1) (ho0 : Kd.R (Kd.int .i64) 3 w base P0_ (.slice A n c) l0) (ho1 : Kd.S k102 102 w base' P1_ (.slice A' n' c') l1) (h : laws_heldMachine.f k l0 l1 a1 = some r) :
  Calls Try.prog 35 #[.agg #[.slice A n c, .slice A' n' c'], .int .i64 a1] w fun e w' => e = .returned (.int .i64 r) ∧ Below w.heap.size w w' := by
 obtain ⟨hn, hc, hC⟩ := Kd.R_reads' ho0
 obtain ⟨hn', hc', hC'⟩ := Kd.S_reads' ho1
 subst hn
 subst hn'
 exact laws_heldMachine.calls k A c l0 A' c' l1 a1 r w hC hc hC' hc' h

end Go.Proofs.Ytlfbdafghpmahaa.P
