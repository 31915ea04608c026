-- Written by mp.py (the session's own driver over the kit's printer) for the seat Ytbgclnjnngolmaa.
import Derived.Test.YtbgclnjnngolmaaK
import Derived.Test.YtbgclnjnngolmaaE
import Derived.Test.YtbgclnjnngolmaaPimplInstrOk
import Derived.Test.YtbgclnjnngolmaaPimplwithin
import Derived.Test.YtbgclnjnngolmaaIdxInstr
namespace Go.Proofs.Ytbgclnjnngolmaa.P
open Go.RowKit Go.Proofs.YtbgclnjnngolmaaW.PrintWords Go.Proofs.YtbgclnjnngolmaaW.PrintLast Go.Proofs.YtbgclnjnngolmaaW.PrintMore
attribute [local go_sem] max2_int min2_int max_two min_two max_three min_three max_four min_four
set_option linter.unusedVariables false
set_option linter.unusedSimpArgs false

/-! ### impl_ProgOk: function 20 -/
-- @func loop.example/g00712/impl.ProgOk
-- @making true
-- @needs loop.example/g00712/impl.within loop.example/g00712/impl.InstrOk
-- @import Derived.Test.YtbgclnjnngolmaaIdxInstr
/-- Is x an instruction of a code of z instructions, of a program with c cells? -/
def impl_ProgOk.one_ (c z : Int) (x : S50) : Bool := (impl_InstrOk.f 3 x.f0 x.f1 x.f2 x.f3 c z).getD false
def impl_ProgOk.f (a0_0 : Int) (l0_1 : List (List S50)) : Option (Bool) :=
 some ((decide (1 ≤ a0_0) && decide (a0_0 ≤ 16)) && ((decide (1 ≤ (l0_1.length : Int)) && decide ((l0_1.length : Int) ≤ 3)) && l0_1.all fun q => decide (q.length ≤ 16) && q.all (impl_ProgOk.one_ a0_0 (q.length : Int))))
theorem impl_ProgOk.inside (v a b : Int) : impl_within.f v a b = some (decide (a ≤ v) && decide (v ≤ b)) := by
 unfold impl_within.f
 by_cases h : a ≤ v <;> simp [h]
theorem impl_ProgOk.total (a b c d x y : Int) : ∃ r, impl_InstrOk.f 3 a b c d x y = some r := by
 unfold impl_InstrOk.f impl_isRegister.f
 simp only [impl_ProgOk.inside, Option.bind_some]
 have h1 : ∀ v, ∃ r, impl_InstrOk.j1 2 x y v a b c d = some r := fun v => by
  simp only [impl_InstrOk.j1, impl_Instr_usesN.f, impl_ProgOk.inside, Option.bind_some]
  repeat' split
  all_goals first | exact ⟨_, rfl⟩ | (simp only [Option.bind_some]; repeat' split; all_goals exact ⟨_, rfl⟩)
 have h0 : ∀ v, ∃ r, impl_InstrOk.j0 3 x y v a b c d = some r := fun v => by
  simp only [impl_InstrOk.j0, impl_Instr_usesR.f, impl_Instr_usesS.f, Option.bind_some]
  repeat' split
  all_goals first | exact ⟨_, rfl⟩ | exact h1 _ | (simp only [Option.bind_some]; repeat' split; all_goals exact h1 _)
 repeat' split
 all_goals exact h0 _
theorem impl_ProgOk.oneEq (c z : Int) (x : S50) : impl_InstrOk.f 3 x.f0 x.f1 x.f2 x.f3 c z = some (impl_ProgOk.one_ c z x) := by
 obtain ⟨r, hr⟩ := impl_ProgOk.total x.f0 x.f1 x.f2 x.f3 c z
 unfold impl_ProgOk.one_
 rw [hr]
 rfl
set_option maxHeartbeats 4000000 in
theorem impl_ProgOk.one (W : World) (x : S50) (gp gc : Nat) (c : Int) (vp : Value) (A : Option Addr) (n q : Nat) (hp : W.heap[gp]? = some (.cells #[.int .i64 c, vp] 26 (0, 0))) (hc : W.heap[gc]? = some (.cells #[.slice A n q] 46 (0, 0))) :
  Calls Try.prog 35 #[.agg #[.int .i64 x.f0, .int .i64 x.f1, .int .i64 x.f2, .int .i64 x.f3], .pointer (some ⟨gp, 0, none⟩), .pointer (some ⟨gc, 0, none⟩)] W fun e w' => e = .returned (.bool (!(impl_ProgOk.one_ c (n : Int) x))) ∧ Below W.heap.size W w' := by
 have hi := impl_ProgOk.oneEq c (n : Int) x
 generalize impl_ProgOk.one_ c (n : Int) x = b at *
 generalize x.f0 = x0 at *
 generalize x.f1 = x1 at *
 generalize x.f2 = x2 at *
 generalize x.f3 = x3 at *
 have HI := am_ hi
 have HP := am_ hp
 have HC := am_ hc
 have hu := Try.underlying50
 clear hi hp hc
 go_enter Try.func35, Try.ntmps35
 go_wp2_with (first
  | ((with_reducible refine gate_dst (N := 3) rfl ?_); refine box_event ?hg (N := 3) ?hd (cs := #[.int .i64 x0, .int .i64 x1, .int .i64 x2, .int .i64 x3]) (t := 50) ?hr ?_; (case hd => rfl); (case hg => rfl); (case hr => exact hrr_); intro gb hg w5 hbox hb; have HB := am_ hb; have hb0 := (blk_cell hbox 0).trans rfl; have hb1 := (blk_cell hbox 1).trans rfl; have hb2 := (blk_cell hbox 2).trans rfl; have hb3 := (blk_cell hbox 3).trans rfl; have hp0 := (blk_cell (blk_below HP.out hb) 0).trans rfl; have hc0 := (blk_cell (blk_below HC.out hb) 0).trans rfl; clear hb hbox hg)
  | (go_at_call 36; refine (impl_InstrOk.calls 3 _ _ _ _ _ _ b _ HI.out).mono ?_; rintro e w' ⟨rfl, hb'⟩))
 go_ret
 exact ⟨rfl, below_step HB.out hb'⟩
theorem impl_ProgOk.getD_ {α : Type} (l : List α) (k : Nat) (d : α) (h : k < l.length) : l.getD k d = l[k] := by
 rw [List.getD_eq_getElem?_getD, List.getElem?_eq_getElem h]
 rfl
theorem impl_ProgOk.at_ {w : World} {A : Option Addr} {n : Nat} {xs : List (List S50)} (h : Kd.C (Kd.slice 50 k50) w A n xs) (i : Int) (h0 : 0 ≤ i) (h1 : i < n) : ∃ ad A0 c0, A = some ad ∧ w.cell? (ad.add i.toNat) = some (.slice A0 (xs.getD i.toNat []).length c0) ∧ (xs.getD i.toNat []).length ≤ c0 ∧ k50.C w A0 (xs.getD i.toNat []).length (xs.getD i.toNat []) := by
 obtain ⟨ad, c, e, _, hK, hc0⟩ := Kd.C_get h ([] : List S50) i h0 h1
 have hc : ∀ j u, c[j]? = some u → w.cell? (ad.add (i.toNat * 1 + j)) = some u := hc0
 obtain ⟨A0, c0, rfl, l0, g0⟩ := hK
 exact ⟨ad, A0, c0, e, by have hq := hc 0 _ rfl; rwa [Nat.mul_one, Nat.add_zero] at hq, l0, g0⟩
/-- A code's own test. -/
def impl_ProgOk.code_ (c : Int) (q : List S50) : Bool := decide (q.length ≤ 16) && q.all (impl_ProgOk.one_ c (q.length : Int))
set_option maxHeartbeats 8000000 in
set_option maxRecDepth 100000 in
theorem impl_ProgOk.calls (a0_0 : Int) (A0_1 : Option Addr) (c0_1 : Nat) (l0_1 : List (List S50)) (r : Bool) (w : World) (hr0_1 : Kd.C (Kd.slice 50 k50) w A0_1 l0_1.length l0_1) (hc0_1 : l0_1.length ≤ c0_1) (h : impl_ProgOk.f a0_0 l0_1 = some r) :
  Calls Try.prog 20 #[.agg #[.int .i64 a0_0, .slice A0_1 l0_1.length c0_1]] w fun e w' => e = .returned (.bool r) ∧ Below w.heap.size w w' := by
 have HR : Aside0 (r = ((decide (1 ≤ a0_0) && decide (a0_0 ≤ 16)) && ((decide (1 ≤ (l0_1.length : Int)) && decide ((l0_1.length : Int) ≤ 3)) && l0_1.all (impl_ProgOk.code_ a0_0)))) := ⟨(Option.some.inj h).symm⟩
 have HC0 := am_ hr0_1
 have HL : Aside0 (l0_1.length ≤ 9223372036854775807) := ⟨hr0_1.2.1⟩
 have HI1 := am_ (impl_ProgOk.inside a0_0 1 16)
 have HI2 := am_ (impl_ProgOk.inside (l0_1.length : Int) 1 3)
 have EG : Aside0 (∀ args w, (callFunc 35 args).run Try.prog w = .ok (.enter 35 args) w) := ⟨enters_of Try.func35 kr_ rfl⟩
 clear hr0_1 h hc0_1
 generalize hp : (decide (1 ≤ a0_0) && decide (a0_0 ≤ 16)) = p at *
 generalize hq : (decide (1 ≤ (l0_1.length : Int)) && decide ((l0_1.length : Int) ≤ 3)) = q at *
 clear hp hq
 cases p with
 | false =>
  go_enter Try.func20, Try.ntmps20
  go_wp2_with (first
   | ((with_reducible refine gate_dst (N := 1) rfl ?_); refine box_event ?hg (N := 1) ?hd (cs := #[.int .i64 a0_0, .slice A0_1 l0_1.length c0_1]) (t := 26) ?hr ?_; (case hd => rfl); (case hg => rfl); (case hr => exact hrr_); intro gb hg w5 hbox hb; have HX := am_ hbox; have HB := am_ hb; have hb0 := (blk_cell hbox 0).trans rfl; have hb1 := (blk_cell hbox 1).trans rfl; clear hb hbox hg)
   | (go_at_call 33; refine (impl_within.calls _ _ _ _ _ HI1.out).mono ?_; rintro e w' ⟨rfl, ⟨nd, rfl⟩⟩))
  go_ret
  exact ⟨by rw [HR.out]; rfl, by first | exact HB.out | exact below_step HB.out (by repeat (first | exact Below.refl _ _ | apply below_alloc | apply pw_below_drewN | apply below_drew1))⟩
 | true =>
  cases q with
  | false =>
   go_enter Try.func20, Try.ntmps20
   go_wp2_with (first
    | ((with_reducible refine gate_dst (N := 1) rfl ?_); refine box_event ?hg (N := 1) ?hd (cs := #[.int .i64 a0_0, .slice A0_1 l0_1.length c0_1]) (t := 26) ?hr ?_; (case hd => rfl); (case hg => rfl); (case hr => exact hrr_); intro gb hg w5 hbox hb; have HX := am_ hbox; have HB := am_ hb; have hb0 := (blk_cell hbox 0).trans rfl; have hb1 := (blk_cell hbox 1).trans rfl; clear hb hbox hg)
    | (go_at_call 33; refine (impl_within.calls _ _ _ _ _ HI1.out).mono ?_; rintro e w' ⟨rfl, ⟨nd, rfl⟩⟩; clear HI1)
    | (go_at_call 33; refine (impl_within.calls _ _ _ _ _ HI2.out).mono ?_; rintro e w' ⟨rfl, ⟨nd2, rfl⟩⟩))
   go_ret
   exact ⟨by rw [HR.out]; rfl, by first | exact HB.out | exact below_step HB.out (by repeat (first | exact Below.refl _ _ | apply below_alloc | apply pw_below_drewN | apply below_drew1))⟩
  | true =>
   go_enter Try.func20, Try.ntmps20
   go_wp2_with (first
    | ((with_reducible refine gate_dst (N := 1) rfl ?_); refine box_event ?hg (N := 1) ?hd (cs := #[.int .i64 a0_0, .slice A0_1 l0_1.length c0_1]) (t := 26) ?hr ?_; (case hd => rfl); (case hg => rfl); (case hr => exact hrr_); intro gb hg w5 hbox hb; have HX := am_ hbox; have HB := am_ hb; have hb0 := (blk_cell hbox 0).trans rfl; have hb1 := (blk_cell hbox 1).trans rfl; clear hb hbox hg)
    | (go_at_call 33; refine (impl_within.calls _ _ _ _ _ HI1.out).mono ?_; rintro e w' ⟨rfl, ⟨nd, rfl⟩⟩; clear HI1)
    | (go_at_call 33; refine (impl_within.calls _ _ _ _ _ HI2.out).mono ?_; rintro e w' ⟨rfl, ⟨nd2, rfl⟩⟩; clear HI2))
   go_loopg [19] l0_1.length (fun gg s19 wr => ∃ kk : Nat, kk ≤ l0_1.length ∧ l0_1.length - kk ≤ gg ∧ s19 = .int .i64 kk ∧ Aside0 (Below w5.heap.size w5 wr) ∧ Aside0 (∀ j (hj : j < l0_1.length), j < kk → impl_ProgOk.code_ a0_0 l0_1[j] = true))
   case atStart => exact ⟨0, Nat.zero_le _, by omega, rfl, ⟨by repeat (first | exact Below.refl _ _ | apply pw_below_drewN | apply below_drew1)⟩, ⟨fun j _ hj => absurd hj (Nat.not_lt_zero _)⟩⟩
   case round =>
    clear hb0 hb1
    obtain ⟨kk, hkk, hgk, rfl, BW, AA⟩ := hrel
    have hbig := HL.out
    have BN := am_ (below_step HB.out BW.out)
    have HXR := am_ (blk_below HX.out BW.out)
    by_cases hlt : kk < l0_1.length
    rotate_left
    ·have hltz : ¬ (kk : Int) < (l0_1.length : Int) := by omega
     have hkl : kk = l0_1.length := by omega
     have HK := am_ hkl
     clear hkl
     go_wp2_with fail
     go_ret
     refine ⟨?_, BN.out⟩
     have hall : l0_1.all (impl_ProgOk.code_ a0_0) = true := by
      rw [List.all_eq_true]
      intro x hx
      obtain ⟨j, hj, rfl⟩ := List.getElem_of_mem hx
      exact AA.out j hj (by have := HK.out; omega)
     rw [HR.out, hall]
     rfl
    have hltz : (kk : Int) < (l0_1.length : Int) := by omega
    obtain ⟨ad, A, cc, e0, hx, hl, hC⟩ := impl_ProgOk.at_ HC0.out (kk : Int) (by omega) hltz
    cases e0
    have egd : l0_1.getD kk [] = l0_1[kk] := impl_ProgOk.getD_ _ _ _ hlt
    rw [Int.toNat_natCast, egd] at hx hl hC
    clear egd
    have HLT := am_ hlt
    replace hx := (BN.out.cell (World.block_lt_of_cell? w _ hx)).trans hx
    have HY := am_ (Kd.C_below hC BN.out)
    have HYL := am_ hl
    have B : Aside0 (∃ y, y = l0_1[kk]) := ⟨_, rfl⟩
    generalize hy : l0_1[kk] = y at hx HY HYL
    have HYE := am_ hy
    have HYB := am_ HY.out.2.1
    clear hy hl hC B
    by_cases h16 : y.length ≤ 16
    rotate_left
    ·have hd1 : decide ((16 : Int) < (y.length : Int)) = true := decide_eq_true (by omega)
     have HC16 : Aside0 (impl_ProgOk.code_ a0_0 y = false) := ⟨by unfold impl_ProgOk.code_; rw [decide_eq_false h16, Bool.false_and]⟩
     clear h16
     go_wp2_with fail
     go_ret
     refine ⟨?_, below_step BN.out (by repeat (first | exact Below.refl _ _ | apply below_alloc | apply pw_below_drewN | apply below_drew1))⟩
     have hall : l0_1.all (impl_ProgOk.code_ a0_0) = false := by
      rw [List.all_eq_false]
      exact ⟨y, HYE.out ▸ List.getElem_mem HLT.out, by rw [HC16.out]; simp⟩
     rw [HR.out, hall]
     rfl
    have hd1 : decide ((16 : Int) < (y.length : Int)) = false := decide_eq_false (by omega)
    have HC16 : Aside0 (impl_ProgOk.code_ a0_0 y = !(y.any fun x => !(impl_ProgOk.one_ a0_0 (y.length : Int) x))) := ⟨by unfold impl_ProgOk.code_; rw [decide_eq_true h16, Bool.true_and, List.not_any_eq_all_not]; simp⟩
    clear h16
    cases hq : y.any fun x => !(impl_ProgOk.one_ a0_0 (y.length : Int) x) with
    | true =>
     have HQ := am_ hq
     clear hq
     go_wp2_with (go_at_call 34; refine (contfInstr 35 #[.pointer (some ⟨gb, 0, none⟩), .pointer (some ⟨wr.heap.size, 0, none⟩)] (fun x => !(impl_ProgOk.one_ a0_0 (y.length : Int) x)) EG.out A cc y _ (Kd.C_alloc HY.out _) HYL.out (fun W x _ hb => (impl_ProgOk.one W x gb wr.heap.size a0_0 _ A y.length cc (blk_below (blk_alloc HXR.out _) hb) (blk_below (blk_new wr _) hb)).mono fun e w' ⟨he, hb'⟩ => ⟨he, hb.trans (hb'.mono hb.size)⟩)).mono ?_; rw [HQ.out]; rintro e w' ⟨rfl, hb'⟩)
     go_ret
     refine ⟨?_, below_step BN.out (below_step (below_alloc (Below.refl _ _) _) hb')⟩
     have hall : l0_1.all (impl_ProgOk.code_ a0_0) = false := by
      rw [List.all_eq_false]
      exact ⟨y, HYE.out ▸ List.getElem_mem HLT.out, by rw [HC16.out, HQ.out]; simp⟩
     rw [HR.out, hall]
     rfl
    | false =>
     have HQ := am_ hq
     clear hq
     go_wp2_with (go_at_call 34; refine (contfInstr 35 #[.pointer (some ⟨gb, 0, none⟩), .pointer (some ⟨wr.heap.size, 0, none⟩)] (fun x => !(impl_ProgOk.one_ a0_0 (y.length : Int) x)) EG.out A cc y _ (Kd.C_alloc HY.out _) HYL.out (fun W x _ hb => (impl_ProgOk.one W x gb wr.heap.size a0_0 _ A y.length cc (blk_below (blk_alloc HXR.out _) hb) (blk_below (blk_new wr _) hb)).mono fun e w' ⟨he, hb'⟩ => ⟨he, hb.trans (hb'.mono hb.size)⟩)).mono ?_; rw [HQ.out]; rintro e w' ⟨rfl, hb'⟩)
     go_roundg (l0_1.length - (kk + 1))
     case measure => omega
     case rel =>
      refine ⟨kk + 1, by omega, by omega, by go_num, ⟨below_step BW.out (below_step (below_alloc (Below.refl _ _) _) hb')⟩, ⟨fun j hj hjk => ?_⟩⟩
      by_cases e : j = kk
      rotate_left
      ·exact AA.out j hj (by omega)
      subst e
      rw [HYE.out, HC16.out, HQ.out]
      rfl

end Go.Proofs.Ytbgclnjnngolmaa.P
