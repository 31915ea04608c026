-- Written by mp.py (the session's own driver over the kit's printer) for the seat Ytbgclnjnngolmaa.
import Derived.Test.YtbgclnjnngolmaaK
import Derived.Test.YtbgclnjnngolmaaE
import Derived.Test.YtbgclnjnngolmaaPimplFenceCost
import Derived.Test.YtbgclnjnngolmaaPimplPutFences
import Derived.Test.YtbgclnjnngolmaaPimplStripFences
import Derived.Test.YtbgclnjnngolmaaPlawsbig
import Derived.Test.YtbgclnjnngolmaaPlawssameProg
import Derived.Test.YtbgclnjnngolmaaPspecDrawPutFences
import Derived.Test.YtbgclnjnngolmaaPspecPutFences
namespace Go.Proofs.Ytbgclnjnngolmaa.P
open Go.RowKit Go.Proofs.YtbgclnjnngolmaaW.PrintWords Go.Proofs.YtbgclnjnngolmaaW.PrintLast Go.Proofs.YtbgclnjnngolmaaW.PrintMore
attribute [local go_sem] max2_int min2_int max_two min_two max_three min_three max_four min_four
set_option linter.unusedVariables false
set_option linter.unusedSimpArgs false

/-! ### laws_FnStripped: function 3 -/
def laws_FnStripped.f (k : Nat) (l0 : List Int) : Option (Bool) := (laws_big.f l0).bind fun t1 => (if t1 = true then (some true) else ((spec_DrawPutFences.f k l0).bind fun bt2 => ((spec_PutFences.f k bt2.1 bt2.2.1 bt2.2.2).bind fun bt10 => (if bt10.2.2 = true then ((impl_PutFences.f k bt2.1 bt2.2.1 bt2.2.2).bind fun bt16 => ((impl_StripFences.f k bt2.1 bt2.2.1).bind fun bt22 => ((impl_StripFences.f k bt16.1 bt16.2.1).bind fun bt28 => (if bt16.2.2 = true then (if bt22.2.2 = true then (if bt28.2.2 = true then ((laws_sameProg.f k bt16.1 bt16.2.1 bt10.1 bt10.2.1).bind fun t34 => (if t34 = true then ((laws_sameProg.f k bt22.1 bt22.2.1 bt28.1 bt28.2.1).bind fun t35 => (if t35 = true then ((impl_FenceCost.f k bt16.1 bt16.2.1).bind fun t36 => ((impl_FenceCost.f k bt2.1 bt2.2.1).bind fun t37 => (some (t36 == (wrap64 (t37 + (bt2.2.2.length : Int))))))) else (some false))) else (some false))) else (some false)) else (some false)) else (some false))))) else (some true)))))
theorem laws_FnStripped.mono : ∀ a0 k, LeO (laws_FnStripped.f k a0) (laws_FnStripped.f (k + 1) a0) := by
 intro a0 k
 unfold laws_FnStripped.f
 repeat' first | (with_reducible first | exact impl_FenceCost.mono _ _ _ | exact impl_PutFences.mono _ _ _ _ | exact impl_StripFences.mono _ _ _ | exact laws_sameProg.mono _ _ _ _ _ | exact spec_DrawPutFences.mono _ _ | exact spec_PutFences.mono _ _ _ _ | exact lr_ | exact ln_ | refine LeO.ite ?_ ?_ | refine LeO.bind ?_ (fun _ => ?_)) | exact impl_FenceCost.mono _ _ _ | exact impl_PutFences.mono _ _ _ _ | exact impl_StripFences.mono _ _ _ | exact laws_sameProg.mono _ _ _ _ _ | exact spec_DrawPutFences.mono _ _ | exact spec_PutFences.mono _ _ _ _ | exact ln_ | refine LeO.ite ?_ ?_ | refine LeO.bind ?_ (fun _ => ?_)
def laws_FnStripped.T10 : Bool × List (List Nat × List Nat) := (true, [([], []), ([0], [0]), ([1], [1]), ([1, 2], [1, 2]), ([3, 1], [3]), ([4], [4]), ([4, 5], [4, 5]), ([6, 4], [6]), ([7], [7]), ([7], [7]), ([8, 9, 7, 7], [7, 8, 9]), ([7, 10], [7, 10]), ([11, 10], [11]), ([12], [12]), ([12], [12]), ([13, 14, 12, 12], [12, 13, 14]), ([12, 15], [12, 15]), ([16, 15], [16]), ([17], [17]), ([18, 17, 17], [17, 18]), ([17], [17]), ([20, 19, 17], [17, 20]), ([17], [17]), ([22, 17], [17, 22]), ([21, 23, 17], [17, 21, 23]), ([19, 24, 17], [17, 19, 24]), ([17, 25], [17, 25]), ([26, 21, 0, 1, 2, 3, 4, 5, 6, 7, 8, 9, 10, 11, 12, 13, 14, 15, 16, 17, 18, 19, 20, 21, 22, 23, 24, 25, 26], [26])])
def laws_FnStripped.B10 : List Nat := [0, 1, 3, 7, 15, 31, 63, 127, 255, 255, 1023, 2047, 4095, 8191, 8191, 32767, 65535, 131071, 262143, 524287, 262143, 2097151, 262143, 4456447, 16777215, 33554431, 67108863, 134217727]
theorem laws_FnStripped.tab10 : rtab .any (opsOf Try.f3 10) = laws_FnStripped.T10 := by kernel_rfl
theorem laws_FnStripped.bits10 : waitsOk laws_FnStripped.T10.2 laws_FnStripped.B10 = true := by kernel_rfl
set_option maxHeartbeats 8000000 in
set_option maxRecDepth 100000 in
theorem laws_FnStripped.calls (k : Nat) (A0 : Option Addr) (c0 : Nat) (l0 : List Int) (r : Bool) (w : World) (hr0 : Kd.C (Kd.int .u8) w A0 l0.length l0) (hc0 : l0.length ≤ c0) (h : laws_FnStripped.f k l0 = some r) (hr_ : r = true) :
  Calls Try.prog 3 #[.slice A0 l0.length c0] w fun e w' => e = .returned (.bool r) ∧ Below w.heap.size w w' := by
 have hu26 := Try.underlying26
 have HR0 := am_ hr0
 have HC0 := am_ hc0
 clear hr0 hc0
 have HB := am_ (Below.refl w.heap.size w)
 have H : ((laws_big.f l0).bind fun t1 => (if t1 = true then (some true) else ((spec_DrawPutFences.f k l0).bind fun bt2 => ((spec_PutFences.f k bt2.1 bt2.2.1 bt2.2.2).bind fun bt10 => (if bt10.2.2 = true then ((impl_PutFences.f k bt2.1 bt2.2.1 bt2.2.2).bind fun bt16 => ((impl_StripFences.f k bt2.1 bt2.2.1).bind fun bt22 => ((impl_StripFences.f k bt16.1 bt16.2.1).bind fun bt28 => (if bt16.2.2 = true then (if bt22.2.2 = true then (if bt28.2.2 = true then ((laws_sameProg.f k bt16.1 bt16.2.1 bt10.1 bt10.2.1).bind fun t34 => (if t34 = true then ((laws_sameProg.f k bt22.1 bt22.2.1 bt28.1 bt28.2.1).bind fun t35 => (if t35 = true then ((impl_FenceCost.f k bt16.1 bt16.2.1).bind fun t36 => ((impl_FenceCost.f k bt2.1 bt2.2.1).bind fun t37 => (some (t36 == (wrap64 (t37 + (bt2.2.2.length : Int))))))) else (some false))) else (some false))) else (some false)) else (some false)) else (some false))))) else (some true)))))) = some r := h
 clear h
 replace H := Option.bind_eq_some_iff.mp H
 obtain ⟨t1, A20, H⟩ := H
 replace H : (if t1 = true then (some true) else ((spec_DrawPutFences.f k l0).bind fun bt2 => ((spec_PutFences.f k bt2.1 bt2.2.1 bt2.2.2).bind fun bt10 => (if bt10.2.2 = true then ((impl_PutFences.f k bt2.1 bt2.2.1 bt2.2.2).bind fun bt16 => ((impl_StripFences.f k bt2.1 bt2.2.1).bind fun bt22 => ((impl_StripFences.f k bt16.1 bt16.2.1).bind fun bt28 => (if bt16.2.2 = true then (if bt22.2.2 = true then (if bt28.2.2 = true then ((laws_sameProg.f k bt16.1 bt16.2.1 bt10.1 bt10.2.1).bind fun t34 => (if t34 = true then ((laws_sameProg.f k bt22.1 bt22.2.1 bt28.1 bt28.2.1).bind fun t35 => (if t35 = true then ((impl_FenceCost.f k bt16.1 bt16.2.1).bind fun t36 => ((impl_FenceCost.f k bt2.1 bt2.2.1).bind fun t37 => (some (t36 == (wrap64 (t37 + (bt2.2.2.length : Int))))))) else (some false))) else (some false))) else (some false)) else (some false)) else (some false))))) else (some true))))) = some r := H
 have A2 := am_ A20
 clear A20
 by_cases c3 : t1 = true
 ·subst c3
  have H1 : (some true) = some r := by rw [if_pos rfl] at H; exact H
  clear H
  have H := H1
  clear H1
  obtain rfl := Option.some.inj H
  clear hr_
  go_enter Try.func3, Try.ntmps3
  go_wp2_with (first | ((with_reducible refine gate_callee (f := 4) rfl ?_); refine goesL_ (some 14) rfl rfl Try.func4 kr_ rfl #[.slice A0 l0.length c0] rfl ar_ ?_; (with_reducible refine (laws_big.calls _ _ l0 true _ ?side1 ?side2 A2.out).mono ?_); (case side1 => repeat (first | exact HR0.out | (with_reducible refine Kd.C_alloc ?_ _) | (with_reducible refine Kd.C_drewN ?_ _) | (with_reducible refine Kd.C_drew ?_))); (case side2 => exact HC0.out); rintro e w' ⟨rfl, ⟨nd, rfl⟩⟩; refine ⟨_, rfl, ?_⟩))
  go_ret
  exact ⟨rr_, bw_⟩
 replace c3 := Bool.eq_false_iff.mpr c3
 subst c3
 have H1 : ((spec_DrawPutFences.f k l0).bind fun bt2 => ((spec_PutFences.f k bt2.1 bt2.2.1 bt2.2.2).bind fun bt10 => (if bt10.2.2 = true then ((impl_PutFences.f k bt2.1 bt2.2.1 bt2.2.2).bind fun bt16 => ((impl_StripFences.f k bt2.1 bt2.2.1).bind fun bt22 => ((impl_StripFences.f k bt16.1 bt16.2.1).bind fun bt28 => (if bt16.2.2 = true then (if bt22.2.2 = true then (if bt28.2.2 = true then ((laws_sameProg.f k bt16.1 bt16.2.1 bt10.1 bt10.2.1).bind fun t34 => (if t34 = true then ((laws_sameProg.f k bt22.1 bt22.2.1 bt28.1 bt28.2.1).bind fun t35 => (if t35 = true then ((impl_FenceCost.f k bt16.1 bt16.2.1).bind fun t36 => ((impl_FenceCost.f k bt2.1 bt2.2.1).bind fun t37 => (some (t36 == (wrap64 (t37 + (bt2.2.2.length : Int))))))) else (some false))) else (some false))) else (some false)) else (some false)) else (some false))))) else (some true)))) = some r := by rw [if_neg (show ¬ (false = true) by decide)] at H; exact H
 clear H
 have H := H1
 clear H1
 replace H := Option.bind_eq_some_iff.mp H
 obtain ⟨⟨t2, t3, t6⟩, A40, H⟩ := H
 replace H : ((spec_PutFences.f k t2 t3 t6).bind fun bt10 => (if bt10.2.2 = true then ((impl_PutFences.f k t2 t3 t6).bind fun bt16 => ((impl_StripFences.f k t2 t3).bind fun bt22 => ((impl_StripFences.f k bt16.1 bt16.2.1).bind fun bt28 => (if bt16.2.2 = true then (if bt22.2.2 = true then (if bt28.2.2 = true then ((laws_sameProg.f k bt16.1 bt16.2.1 bt10.1 bt10.2.1).bind fun t34 => (if t34 = true then ((laws_sameProg.f k bt22.1 bt22.2.1 bt28.1 bt28.2.1).bind fun t35 => (if t35 = true then ((impl_FenceCost.f k bt16.1 bt16.2.1).bind fun t36 => ((impl_FenceCost.f k t2 t3).bind fun t37 => (some (t36 == (wrap64 (t37 + (t6.length : Int))))))) else (some false))) else (some false))) else (some false)) else (some false)) else (some false))))) else (some true))) = some r := H
 have A4 := am_ A40
 clear A40
 replace H := Option.bind_eq_some_iff.mp H
 obtain ⟨⟨t10, t11, t14⟩, A50, H⟩ := H
 replace H : (if t14 = true then ((impl_PutFences.f k t2 t3 t6).bind fun bt16 => ((impl_StripFences.f k t2 t3).bind fun bt22 => ((impl_StripFences.f k bt16.1 bt16.2.1).bind fun bt28 => (if bt16.2.2 = true then (if bt22.2.2 = true then (if bt28.2.2 = true then ((laws_sameProg.f k bt16.1 bt16.2.1 t10 t11).bind fun t34 => (if t34 = true then ((laws_sameProg.f k bt22.1 bt22.2.1 bt28.1 bt28.2.1).bind fun t35 => (if t35 = true then ((impl_FenceCost.f k bt16.1 bt16.2.1).bind fun t36 => ((impl_FenceCost.f k t2 t3).bind fun t37 => (some (t36 == (wrap64 (t37 + (t6.length : Int))))))) else (some false))) else (some false))) else (some false)) else (some false)) else (some false))))) else (some true)) = some r := H
 have A5 := am_ A50
 clear A50
 by_cases c6 : t14 = true
 rotate_left
 ·replace c6 := Bool.eq_false_iff.mpr c6
  subst c6
  have H1 : (some true) = some r := by rw [if_neg (show ¬ (false = true) by decide)] at H; exact H
  clear H
  have H := H1
  clear H1
  obtain rfl := Option.some.inj H
  clear hr_
  go_enter Try.func3, Try.ntmps3
  go_wp2_with (first | ((with_reducible refine gate_callee (f := 4) rfl ?_); refine goesL_ (some 14) rfl rfl Try.func4 kr_ rfl #[.slice A0 l0.length c0] rfl ar_ ?_; (with_reducible refine (laws_big.calls _ _ l0 false _ ?side1 ?side2 A2.out).mono ?_); (case side1 => repeat (first | exact HR0.out | (with_reducible refine Kd.C_alloc ?_ _) | (with_reducible refine Kd.C_drewN ?_ _) | (with_reducible refine Kd.C_drew ?_))); (case side2 => exact HC0.out); rintro e w' ⟨rfl, ⟨nd, rfl⟩⟩; refine ⟨_, rfl, ?_⟩) | ((with_reducible refine gate_callee (f := 5) rfl ?_); refine goesL_ (some 17) rfl rfl Try.func5 kr_ rfl #[.slice A0 l0.length c0] rfl ar_ ?_; (with_reducible refine (spec_DrawPutFences.calls k _ _ l0 t2 t3 t6 _ ?side1 ?side2 A4.out).mono ?_); (case side1 => repeat (first | exact HR0.out | (with_reducible refine Kd.C_alloc ?_ _) | (with_reducible refine Kd.C_drewN ?_ _) | (with_reducible refine Kd.C_drew ?_))); (case side2 => exact HC0.out); rintro e w242 ⟨v4, v7, rfl, ho0, ho1, hb⟩; refine ⟨_, rfl, ?_⟩; have n0_ := am_ (Kd.N_lower (Kd.N_mono (ok' := fun k_ => some k_ ≠ (v7 : Value).ownBlock) ho0 (fun k_ hk_ => hk_.2)) (below_size bw_)); have n1_ := am_ (Kd.R_lower (Kd.R_mono (ok' := fun k_ => True) ho1 (fun _ hk_ => trivial)) (below_size bw_)); have n2_ := bs_ hb; clear HB; have HO5 := n0_; have HO8 := n1_; have HB := n2_; clear n0_ n1_ n2_; (try clear hb); (try clear hb2); (try clear hk); (try clear hi); (try clear ho0); (try clear ho1)) | ((with_reducible refine gate_dst (N := 3) rfl ?_); (try (refine gate_guard (by rfl) ?_; dsimp only)); refine box_event ?hg (N := 3) ?hd (cs := #[.int .i64 0, .slice none 0 0]) (t := 26) ?hr ?_; (case hd => rfl); (case hg => rfl); (case hr => exact hrr_); intro gb9 hg w243 hbox hb; have n0_ := am_ (Kd.N_below (Kd.N_elderB (nx_ HO5.out) gb9 (Nat.le_of_eq hg.symm)) hb); have n1_ := am_ (Kd.R_below (rx_ HO8.out) hb); have n2_ := bs_ hb; have n3_ := am_ (hbox); have n4_ := ge_ (w := w) hg; have n5_ := ge_ (w := w) hg; clear HO5; clear HO8; clear HB; have HO5 := n0_; have HO8 := n1_; have HB := n2_; have BK9 := n3_; have GW9 := n4_; have GE9 := n5_; clear n0_ n1_ n2_ n3_ n4_ n5_; clear hb hbox hg; obtain ⟨hcz244_0, hcz244_1, hfz244_0, hfz244_1⟩ := bc2_ BK9.out; obtain ⟨Ao245, co245, eo245⟩ := Kd.N_slice HO5.out; subst eo245; obtain ⟨Ao246, co246, eo246⟩ := Kd.R_slice HO8.out; subst eo246) | ((with_reducible refine gate_callee (f := 6) rfl ?_); refine goesL_ (some 23) rfl rfl Try.func6 kr_ rfl #[.agg #[.int .i64 t2, .slice Ao245 t3.length co245], .slice Ao246 t6.length co246] rfl ar_ ?_; (with_reducible refine (spec_PutFences.calls k t2 _ _ t3 _ _ t6 t10 t11 false _ ?side1 ?side2 ?side3 ?side4 A5.out).mono ?_); (case side1 => refine (Kd.N_reads' (e := 46) (base := w.heap.size) (ok := fun k_ => (some k_ ≠ (.slice Ao246 t6.length co246 : Value).ownBlock ∧ k_ ≠ gb9)) (n := t3.length) (c := co245) ?_).2.2; exact (by (with_reducible repeat (first | apply Kd.N_alloc | apply Kd.N_drewN | apply Kd.N_drew)); exact (Kd.N_mono (Kd.N_far (p := ⟨gb9, 1, none⟩) (Kd.N_far (p := ⟨gb9, 0, none⟩) (Kd.N_mono HO5.out (fun k_ hk => (⟨hk, hk.2⟩ : _ ∧ k_ ≠ gb9))) (fun _ hk => hk.2) (.int .i64 t2)) (fun _ hk => hk.2) (.slice Ao245 t3.length co245)) (fun _ h_ => h_.1)))); (case side2 => exact (Kd.N_reads' HO5.out).2.1); (case side3 => refine (Kd.R_reads' (e := 44) (base := w.heap.size) (ok := fun k_ => True) (n := t6.length) (c := co246) ?_).2.2; exact (by (with_reducible repeat (first | apply Kd.R_alloc | apply Kd.R_drewN | apply Kd.R_drew)); exact (Kd.R_mono (Kd.R_far (p := ⟨gb9, 1, none⟩) (Kd.R_far (p := ⟨gb9, 0, none⟩) (Kd.R_types HO8.out BK9.out (by decide)) (fun _ hk => hk.2) (.int .i64 t2)) (fun _ hk => hk.2) (.slice Ao245 t3.length co245)) (fun _ h_ => h_.1)))); (case side4 => exact (Kd.R_reads' HO8.out).2.1); rintro e w247 ⟨v12, rfl, ho0, hb⟩; refine ⟨_, rfl, ?_⟩; have n0_ := am_ (Kd.N_elder' (by (with_reducible repeat (first | apply Kd.N_alloc | apply Kd.N_drewN | apply Kd.N_drew)); exact (Kd.N_mono (Kd.N_far (p := ⟨gb9, 1, none⟩) (Kd.N_far (p := ⟨gb9, 0, none⟩) (Kd.N_mono HO5.out (fun k_ hk => (⟨hk, hk.2⟩ : _ ∧ k_ ≠ gb9))) (fun _ hk => hk.2) (.int .i64 t2)) (fun _ hk => hk.2) (.slice Ao245 t3.length co245)) (fun _ h_ => h_.1))) (Kd.N_base (Kd.S_N ho0)) hb); have n1_ := am_ (Kd.R_below (by (with_reducible repeat (first | apply Kd.R_alloc | apply Kd.R_drewN | apply Kd.R_drew)); exact (Kd.R_mono (Kd.R_far (p := ⟨gb9, 1, none⟩) (Kd.R_far (p := ⟨gb9, 0, none⟩) (Kd.R_types HO8.out BK9.out (by decide)) (fun _ hk => hk.2) (.int .i64 t2)) (fun _ hk => hk.2) (.slice Ao245 t3.length co245)) (fun _ h_ => h_.1))) hb); have n2_ := am_ (Kd.N_lower (Kd.N_mono (ok' := fun k_ => some k_ ≠ (.slice Ao245 t3.length co245 : Value).ownBlock ∧ some k_ ≠ (.slice Ao246 t6.length co246 : Value).ownBlock ∧ k_ ≠ gb9) (Kd.S_N (Kd.S_bound ho0)) (fun k_ hk_ => ⟨(Kd.fresh' (Kd.N_lt (by (with_reducible repeat (first | apply Kd.N_alloc | apply Kd.N_drewN | apply Kd.N_drew)); exact (Kd.N_mono (Kd.N_far (p := ⟨gb9, 1, none⟩) (Kd.N_far (p := ⟨gb9, 0, none⟩) (Kd.N_mono HO5.out (fun k_ hk => (⟨hk, hk.2⟩ : _ ∧ k_ ≠ gb9))) (fun _ hk => hk.2) (.int .i64 t2)) (fun _ hk => hk.2) (.slice Ao245 t3.length co245)) (fun _ h_ => h_.1)))) k_ hk_.2.1), (Kd.fresh' (Kd.R_lt (by (with_reducible repeat (first | apply Kd.R_alloc | apply Kd.R_drewN | apply Kd.R_drew)); exact (Kd.R_mono (Kd.R_far (p := ⟨gb9, 1, none⟩) (Kd.R_far (p := ⟨gb9, 0, none⟩) (Kd.R_types HO8.out BK9.out (by decide)) (fun _ hk => hk.2) (.int .i64 t2)) (fun _ hk => hk.2) (.slice Ao245 t3.length co245)) (fun _ h_ => h_.1)))) k_ hk_.2.1), (Kd.freshB (g := gb9) (o := .cells #[.int .i64 t2, .slice Ao245 t3.length co245] 26 (0, 0)) (by (with_reducible repeat (first | refine blk_drewN ?_ _ | refine blk_drew ?_ | refine blk_alloc ?_ _)); refine blk_put (cs := #[.int .i64 t2, .slice none 0 0]) ?_ 1 _ rfl; (with_reducible repeat (first | refine blk_drewN ?_ _ | refine blk_drew ?_ | refine blk_alloc ?_ _)); refine blk_put (cs := #[.int .i64 0, .slice none 0 0]) ?_ 0 _ rfl; exact bk_) k_ hk_.2.1)⟩)) (below_size bw_)); have n3_ := am_ (blk_below (g := gb9) (o := .cells #[.int .i64 t2, .slice Ao245 t3.length co245] 26 (0, 0)) (by (with_reducible repeat (first | refine blk_drewN ?_ _ | refine blk_drew ?_ | refine blk_alloc ?_ _)); refine blk_put (cs := #[.int .i64 t2, .slice none 0 0]) ?_ 1 _ rfl; (with_reducible repeat (first | refine blk_drewN ?_ _ | refine blk_drew ?_ | refine blk_alloc ?_ _)); refine blk_put (cs := #[.int .i64 0, .slice none 0 0]) ?_ 0 _ rfl; exact bk_) hb); have n4_ := bs_ hb; clear HO5; clear HO8; clear BK9; clear HB; have HO5 := n0_; have HO8 := n1_; have HO13 := n2_; have BK9 := n3_; have HB := n4_; clear n0_ n1_ n2_ n3_ n4_; (try clear hb); (try clear hb2); (try clear hk); (try clear hi); (try clear ho0)) | ((with_reducible refine gate_dst (N := 5) rfl ?_); (try (refine gate_guard (by rfl) ?_; dsimp only)); refine box_event ?hg (N := 5) ?hd (cs := #[.int .i64 0, .slice none 0 0]) (t := 26) ?hr ?_; (case hd => rfl); (case hg => rfl); (case hr => exact hrr_); intro gb15 hg w248 hbox hb; have n0_ := am_ (Kd.N_below (Kd.N_elderB (nx_ HO5.out) gb15 (Nat.le_of_eq hg.symm)) hb); have n1_ := am_ (Kd.R_below (rx_ HO8.out) hb); have n2_ := am_ (Kd.N_below (Kd.N_elderB (nx_ HO13.out) gb15 (Nat.le_of_eq hg.symm)) hb); have n3_ := bb_ BK9.out hb; have n4_ := bs_ hb; have n5_ := am_ (hbox); have n6_ := ge_ (w := w) hg; have n7_ := ge_ (w := w) hg; have n8_ := nl_ BK9.out hg; have n9_ := nr_ BK9.out hg; clear HO5; clear HO8; clear HO13; clear BK9; clear HB; have HO5 := n0_; have HO8 := n1_; have HO13 := n2_; have BK9 := n3_; have HB := n4_; have BK15 := n5_; have GW15 := n6_; have GE15 := n7_; have NB9_15 := n8_; have NB15_9 := n9_; clear n0_ n1_ n2_ n3_ n4_ n5_ n6_ n7_ n8_ n9_; clear hb hbox hg; have hnb249 := NB15_9.out; have hnc249 := NB9_15.out; obtain ⟨hcz250_0, hcz250_1, hfz250_0, hfz250_1⟩ := bc2_ BK15.out; obtain ⟨Ao251, co251, eo251⟩ := Kd.N_slice HO13.out; subst eo251))
  go_ret
  exact ⟨rr_, bw_⟩
 subst c6
 have H1 : ((impl_PutFences.f k t2 t3 t6).bind fun bt16 => ((impl_StripFences.f k t2 t3).bind fun bt22 => ((impl_StripFences.f k bt16.1 bt16.2.1).bind fun bt28 => (if bt16.2.2 = true then (if bt22.2.2 = true then (if bt28.2.2 = true then ((laws_sameProg.f k bt16.1 bt16.2.1 t10 t11).bind fun t34 => (if t34 = true then ((laws_sameProg.f k bt22.1 bt22.2.1 bt28.1 bt28.2.1).bind fun t35 => (if t35 = true then ((impl_FenceCost.f k bt16.1 bt16.2.1).bind fun t36 => ((impl_FenceCost.f k t2 t3).bind fun t37 => (some (t36 == (wrap64 (t37 + (t6.length : Int))))))) else (some false))) else (some false))) else (some false)) else (some false)) else (some false))))) = some r := by rw [if_pos rfl] at H; exact H
 clear H
 have H := H1
 clear H1
 replace H := Option.bind_eq_some_iff.mp H
 obtain ⟨⟨t16, t17, t20⟩, A70, H⟩ := H
 replace H : ((impl_StripFences.f k t2 t3).bind fun bt22 => ((impl_StripFences.f k t16 t17).bind fun bt28 => (if t20 = true then (if bt22.2.2 = true then (if bt28.2.2 = true then ((laws_sameProg.f k t16 t17 t10 t11).bind fun t34 => (if t34 = true then ((laws_sameProg.f k bt22.1 bt22.2.1 bt28.1 bt28.2.1).bind fun t35 => (if t35 = true then ((impl_FenceCost.f k t16 t17).bind fun t36 => ((impl_FenceCost.f k t2 t3).bind fun t37 => (some (t36 == (wrap64 (t37 + (t6.length : Int))))))) else (some false))) else (some false))) else (some false)) else (some false)) else (some false)))) = some r := H
 have A7 := am_ A70
 clear A70
 replace H := Option.bind_eq_some_iff.mp H
 obtain ⟨⟨t22, t23, t26⟩, A80, H⟩ := H
 replace H : ((impl_StripFences.f k t16 t17).bind fun bt28 => (if t20 = true then (if t26 = true then (if bt28.2.2 = true then ((laws_sameProg.f k t16 t17 t10 t11).bind fun t34 => (if t34 = true then ((laws_sameProg.f k t22 t23 bt28.1 bt28.2.1).bind fun t35 => (if t35 = true then ((impl_FenceCost.f k t16 t17).bind fun t36 => ((impl_FenceCost.f k t2 t3).bind fun t37 => (some (t36 == (wrap64 (t37 + (t6.length : Int))))))) else (some false))) else (some false))) else (some false)) else (some false)) else (some false))) = some r := H
 have A8 := am_ A80
 clear A80
 replace H := Option.bind_eq_some_iff.mp H
 obtain ⟨⟨t28, t29, t32⟩, A90, H⟩ := H
 replace H : (if t20 = true then (if t26 = true then (if t32 = true then ((laws_sameProg.f k t16 t17 t10 t11).bind fun t34 => (if t34 = true then ((laws_sameProg.f k t22 t23 t28 t29).bind fun t35 => (if t35 = true then ((impl_FenceCost.f k t16 t17).bind fun t36 => ((impl_FenceCost.f k t2 t3).bind fun t37 => (some (t36 == (wrap64 (t37 + (t6.length : Int))))))) else (some false))) else (some false))) else (some false)) else (some false)) else (some false)) = some r := H
 have A9 := am_ A90
 clear A90
 by_cases c10 : t20 = true
 rotate_left
 ·replace c10 := Bool.eq_false_iff.mpr c10
  subst c10
  have H1 : (some false) = some r := by rw [if_neg (show ¬ (false = true) by decide)] at H; exact H
  clear H
  have H := H1
  clear H1
  obtain rfl := Option.some.inj H
  exact absurd hr_ (by decide)
 subst c10
 have H1 : (if t26 = true then (if t32 = true then ((laws_sameProg.f k t16 t17 t10 t11).bind fun t34 => (if t34 = true then ((laws_sameProg.f k t22 t23 t28 t29).bind fun t35 => (if t35 = true then ((impl_FenceCost.f k t16 t17).bind fun t36 => ((impl_FenceCost.f k t2 t3).bind fun t37 => (some (t36 == (wrap64 (t37 + (t6.length : Int))))))) else (some false))) else (some false))) else (some false)) else (some false)) = some r := by rw [if_pos rfl] at H; exact H
 clear H
 have H := H1
 clear H1
 by_cases c11 : t26 = true
 rotate_left
 ·replace c11 := Bool.eq_false_iff.mpr c11
  subst c11
  have H1 : (some false) = some r := by rw [if_neg (show ¬ (false = true) by decide)] at H; exact H
  clear H
  have H := H1
  clear H1
  obtain rfl := Option.some.inj H
  exact absurd hr_ (by decide)
 subst c11
 have H1 : (if t32 = true then ((laws_sameProg.f k t16 t17 t10 t11).bind fun t34 => (if t34 = true then ((laws_sameProg.f k t22 t23 t28 t29).bind fun t35 => (if t35 = true then ((impl_FenceCost.f k t16 t17).bind fun t36 => ((impl_FenceCost.f k t2 t3).bind fun t37 => (some (t36 == (wrap64 (t37 + (t6.length : Int))))))) else (some false))) else (some false))) else (some false)) = some r := by rw [if_pos rfl] at H; exact H
 clear H
 have H := H1
 clear H1
 by_cases c12 : t32 = true
 rotate_left
 ·replace c12 := Bool.eq_false_iff.mpr c12
  subst c12
  have H1 : (some false) = some r := by rw [if_neg (show ¬ (false = true) by decide)] at H; exact H
  clear H
  have H := H1
  clear H1
  obtain rfl := Option.some.inj H
  exact absurd hr_ (by decide)
 subst c12
 have H1 : ((laws_sameProg.f k t16 t17 t10 t11).bind fun t34 => (if t34 = true then ((laws_sameProg.f k t22 t23 t28 t29).bind fun t35 => (if t35 = true then ((impl_FenceCost.f k t16 t17).bind fun t36 => ((impl_FenceCost.f k t2 t3).bind fun t37 => (some (t36 == (wrap64 (t37 + (t6.length : Int))))))) else (some false))) else (some false))) = some r := by rw [if_pos rfl] at H; exact H
 clear H
 have H := H1
 clear H1
 replace H := Option.bind_eq_some_iff.mp H
 obtain ⟨t34, A130, H⟩ := H
 replace H : (if t34 = true then ((laws_sameProg.f k t22 t23 t28 t29).bind fun t35 => (if t35 = true then ((impl_FenceCost.f k t16 t17).bind fun t36 => ((impl_FenceCost.f k t2 t3).bind fun t37 => (some (t36 == (wrap64 (t37 + (t6.length : Int))))))) else (some false))) else (some false)) = some r := H
 have A13 := am_ A130
 clear A130
 by_cases c14 : t34 = true
 rotate_left
 ·replace c14 := Bool.eq_false_iff.mpr c14
  subst c14
  have H1 : (some false) = some r := by rw [if_neg (show ¬ (false = true) by decide)] at H; exact H
  clear H
  have H := H1
  clear H1
  obtain rfl := Option.some.inj H
  exact absurd hr_ (by decide)
 subst c14
 have H1 : ((laws_sameProg.f k t22 t23 t28 t29).bind fun t35 => (if t35 = true then ((impl_FenceCost.f k t16 t17).bind fun t36 => ((impl_FenceCost.f k t2 t3).bind fun t37 => (some (t36 == (wrap64 (t37 + (t6.length : Int))))))) else (some false))) = some r := by rw [if_pos rfl] at H; exact H
 clear H
 have H := H1
 clear H1
 replace H := Option.bind_eq_some_iff.mp H
 obtain ⟨t35, A150, H⟩ := H
 replace H : (if t35 = true then ((impl_FenceCost.f k t16 t17).bind fun t36 => ((impl_FenceCost.f k t2 t3).bind fun t37 => (some (t36 == (wrap64 (t37 + (t6.length : Int))))))) else (some false)) = some r := H
 have A15 := am_ A150
 clear A150
 by_cases c16 : t35 = true
 rotate_left
 ·replace c16 := Bool.eq_false_iff.mpr c16
  subst c16
  have H1 : (some false) = some r := by rw [if_neg (show ¬ (false = true) by decide)] at H; exact H
  clear H
  have H := H1
  clear H1
  obtain rfl := Option.some.inj H
  exact absurd hr_ (by decide)
 subst c16
 have H1 : ((impl_FenceCost.f k t16 t17).bind fun t36 => ((impl_FenceCost.f k t2 t3).bind fun t37 => (some (t36 == (wrap64 (t37 + (t6.length : Int))))))) = some r := by rw [if_pos rfl] at H; exact H
 clear H
 have H := H1
 clear H1
 replace H := Option.bind_eq_some_iff.mp H
 obtain ⟨t36, A170, H⟩ := H
 replace H : ((impl_FenceCost.f k t2 t3).bind fun t37 => (some (t36 == (wrap64 (t37 + (t6.length : Int)))))) = some r := H
 have A17 := am_ A170
 clear A170
 replace H := Option.bind_eq_some_iff.mp H
 obtain ⟨t37, A180, H⟩ := H
 replace H : (some (t36 == (wrap64 (t37 + (t6.length : Int))))) = some r := H
 have A18 := am_ A180
 clear A180
 obtain rfl := Option.some.inj H
 go_enter Try.func3, Try.ntmps3
 try go_wp2_with (first | ((with_reducible refine gate_callee (f := 4) rfl ?_); refine goesL_ (some 14) rfl rfl Try.func4 kr_ rfl #[.slice A0 l0.length c0] rfl ar_ ?_; (with_reducible refine (laws_big.calls _ _ l0 false _ ?side1 ?side2 A2.out).mono ?_); (case side1 => repeat (first | exact HR0.out | (with_reducible refine Kd.C_alloc ?_ _) | (with_reducible refine Kd.C_drewN ?_ _) | (with_reducible refine Kd.C_drew ?_))); (case side2 => exact HC0.out); rintro e w' ⟨rfl, ⟨nd, rfl⟩⟩; refine ⟨_, rfl, ?_⟩) | ((with_reducible refine gate_callee (f := 5) rfl ?_); refine goesL_ (some 17) rfl rfl Try.func5 kr_ rfl #[.slice A0 l0.length c0] rfl ar_ ?_; (with_reducible refine (spec_DrawPutFences.calls k _ _ l0 t2 t3 t6 _ ?side1 ?side2 A4.out).mono ?_); (case side1 => repeat (first | exact HR0.out | (with_reducible refine Kd.C_alloc ?_ _) | (with_reducible refine Kd.C_drewN ?_ _) | (with_reducible refine Kd.C_drew ?_))); (case side2 => exact HC0.out); rintro e w19 ⟨v4, v7, rfl, ho0, ho1, hb⟩; refine ⟨_, rfl, ?_⟩; have n0_ := am_ (Kd.N_lower (Kd.N_mono (ok' := fun k_ => some k_ ≠ (v7 : Value).ownBlock) ho0 (fun k_ hk_ => hk_.2)) (below_size bw_)); have n1_ := am_ (Kd.R_lower (Kd.R_mono (ok' := fun k_ => True) ho1 (fun _ hk_ => trivial)) (below_size bw_)); have n2_ := bs_ hb; clear HB; have HO5 := n0_; have HO8 := n1_; have HB := n2_; clear n0_ n1_ n2_; (try clear hb); (try clear hb2); (try clear hk); (try clear hi); (try clear ho0); (try clear ho1)) | ((with_reducible refine gate_dst (N := 3) rfl ?_); (try (refine gate_guard (by rfl) ?_; dsimp only)); refine box_event ?hg (N := 3) ?hd (cs := #[.int .i64 0, .slice none 0 0]) (t := 26) ?hr ?_; (case hd => rfl); (case hg => rfl); (case hr => exact hrr_); intro gb9 hg w20 hbox hb; have n0_ := am_ (Kd.N_below (Kd.N_elderB (nx_ HO5.out) gb9 (Nat.le_of_eq hg.symm)) hb); have n1_ := am_ (Kd.R_below (rx_ HO8.out) hb); have n2_ := bs_ hb; have n3_ := am_ (hbox); have n4_ := ge_ (w := w) hg; have n5_ := ge_ (w := w) hg; clear HO5; clear HO8; clear HB; have HO5 := n0_; have HO8 := n1_; have HB := n2_; have BK9 := n3_; have GW9 := n4_; have GE9 := n5_; clear n0_ n1_ n2_ n3_ n4_ n5_; clear hb hbox hg; obtain ⟨hcz21_0, hcz21_1, hfz21_0, hfz21_1⟩ := bc2_ BK9.out; obtain ⟨Ao22, co22, eo22⟩ := Kd.N_slice HO5.out; subst eo22; obtain ⟨Ao23, co23, eo23⟩ := Kd.R_slice HO8.out; subst eo23) | ((with_reducible refine gate_callee (f := 6) rfl ?_); refine goesL_ (some 23) rfl rfl Try.func6 kr_ rfl #[.agg #[.int .i64 t2, .slice Ao22 t3.length co22], .slice Ao23 t6.length co23] rfl ar_ ?_; (with_reducible refine (spec_PutFences.calls k t2 _ _ t3 _ _ t6 t10 t11 true _ ?side1 ?side2 ?side3 ?side4 A5.out).mono ?_); (case side1 => refine (Kd.N_reads' (e := 46) (base := w.heap.size) (ok := fun k_ => (some k_ ≠ (.slice Ao23 t6.length co23 : Value).ownBlock ∧ k_ ≠ gb9)) (n := t3.length) (c := co22) ?_).2.2; exact (by (with_reducible repeat (first | apply Kd.N_alloc | apply Kd.N_drewN | apply Kd.N_drew)); exact (Kd.N_mono (Kd.N_far (p := ⟨gb9, 1, none⟩) (Kd.N_far (p := ⟨gb9, 0, none⟩) (Kd.N_mono HO5.out (fun k_ hk => (⟨hk, hk.2⟩ : _ ∧ k_ ≠ gb9))) (fun _ hk => hk.2) (.int .i64 t2)) (fun _ hk => hk.2) (.slice Ao22 t3.length co22)) (fun _ h_ => h_.1)))); (case side2 => exact (Kd.N_reads' HO5.out).2.1); (case side3 => refine (Kd.R_reads' (e := 44) (base := w.heap.size) (ok := fun k_ => True) (n := t6.length) (c := co23) ?_).2.2; exact (by (with_reducible repeat (first | apply Kd.R_alloc | apply Kd.R_drewN | apply Kd.R_drew)); exact (Kd.R_mono (Kd.R_far (p := ⟨gb9, 1, none⟩) (Kd.R_far (p := ⟨gb9, 0, none⟩) (Kd.R_types HO8.out BK9.out (by decide)) (fun _ hk => hk.2) (.int .i64 t2)) (fun _ hk => hk.2) (.slice Ao22 t3.length co22)) (fun _ h_ => h_.1)))); (case side4 => exact (Kd.R_reads' HO8.out).2.1); rintro e w24 ⟨v12, rfl, ho0, hb⟩; refine ⟨_, rfl, ?_⟩; have n0_ := am_ (Kd.N_elder' (by (with_reducible repeat (first | apply Kd.N_alloc | apply Kd.N_drewN | apply Kd.N_drew)); exact (Kd.N_mono (Kd.N_far (p := ⟨gb9, 1, none⟩) (Kd.N_far (p := ⟨gb9, 0, none⟩) (Kd.N_mono HO5.out (fun k_ hk => (⟨hk, hk.2⟩ : _ ∧ k_ ≠ gb9))) (fun _ hk => hk.2) (.int .i64 t2)) (fun _ hk => hk.2) (.slice Ao22 t3.length co22)) (fun _ h_ => h_.1))) (Kd.N_base (Kd.S_N ho0)) hb); have n1_ := am_ (Kd.R_below (by (with_reducible repeat (first | apply Kd.R_alloc | apply Kd.R_drewN | apply Kd.R_drew)); exact (Kd.R_mono (Kd.R_far (p := ⟨gb9, 1, none⟩) (Kd.R_far (p := ⟨gb9, 0, none⟩) (Kd.R_types HO8.out BK9.out (by decide)) (fun _ hk => hk.2) (.int .i64 t2)) (fun _ hk => hk.2) (.slice Ao22 t3.length co22)) (fun _ h_ => h_.1))) hb); have n2_ := am_ (Kd.N_lower (Kd.N_mono (ok' := fun k_ => some k_ ≠ (.slice Ao22 t3.length co22 : Value).ownBlock ∧ some k_ ≠ (.slice Ao23 t6.length co23 : Value).ownBlock ∧ k_ ≠ gb9) (Kd.S_N (Kd.S_bound ho0)) (fun k_ hk_ => ⟨(Kd.fresh' (Kd.N_lt (by (with_reducible repeat (first | apply Kd.N_alloc | apply Kd.N_drewN | apply Kd.N_drew)); exact (Kd.N_mono (Kd.N_far (p := ⟨gb9, 1, none⟩) (Kd.N_far (p := ⟨gb9, 0, none⟩) (Kd.N_mono HO5.out (fun k_ hk => (⟨hk, hk.2⟩ : _ ∧ k_ ≠ gb9))) (fun _ hk => hk.2) (.int .i64 t2)) (fun _ hk => hk.2) (.slice Ao22 t3.length co22)) (fun _ h_ => h_.1)))) k_ hk_.2.1), (Kd.fresh' (Kd.R_lt (by (with_reducible repeat (first | apply Kd.R_alloc | apply Kd.R_drewN | apply Kd.R_drew)); exact (Kd.R_mono (Kd.R_far (p := ⟨gb9, 1, none⟩) (Kd.R_far (p := ⟨gb9, 0, none⟩) (Kd.R_types HO8.out BK9.out (by decide)) (fun _ hk => hk.2) (.int .i64 t2)) (fun _ hk => hk.2) (.slice Ao22 t3.length co22)) (fun _ h_ => h_.1)))) k_ hk_.2.1), (Kd.freshB (g := gb9) (o := .cells #[.int .i64 t2, .slice Ao22 t3.length co22] 26 (0, 0)) (by (with_reducible repeat (first | refine blk_drewN ?_ _ | refine blk_drew ?_ | refine blk_alloc ?_ _)); refine blk_put (cs := #[.int .i64 t2, .slice none 0 0]) ?_ 1 _ rfl; (with_reducible repeat (first | refine blk_drewN ?_ _ | refine blk_drew ?_ | refine blk_alloc ?_ _)); refine blk_put (cs := #[.int .i64 0, .slice none 0 0]) ?_ 0 _ rfl; exact bk_) k_ hk_.2.1)⟩)) (below_size bw_)); have n3_ := am_ (blk_below (g := gb9) (o := .cells #[.int .i64 t2, .slice Ao22 t3.length co22] 26 (0, 0)) (by (with_reducible repeat (first | refine blk_drewN ?_ _ | refine blk_drew ?_ | refine blk_alloc ?_ _)); refine blk_put (cs := #[.int .i64 t2, .slice none 0 0]) ?_ 1 _ rfl; (with_reducible repeat (first | refine blk_drewN ?_ _ | refine blk_drew ?_ | refine blk_alloc ?_ _)); refine blk_put (cs := #[.int .i64 0, .slice none 0 0]) ?_ 0 _ rfl; exact bk_) hb); have n4_ := bs_ hb; clear HO5; clear HO8; clear BK9; clear HB; have HO5 := n0_; have HO8 := n1_; have HO13 := n2_; have BK9 := n3_; have HB := n4_; clear n0_ n1_ n2_ n3_ n4_; (try clear hb); (try clear hb2); (try clear hk); (try clear hi); (try clear ho0)) | ((with_reducible refine gate_dst (N := 5) rfl ?_); (try (refine gate_guard (by rfl) ?_; dsimp only)); refine box_event ?hg (N := 5) ?hd (cs := #[.int .i64 0, .slice none 0 0]) (t := 26) ?hr ?_; (case hd => rfl); (case hg => rfl); (case hr => exact hrr_); intro gb15 hg w25 hbox hb; have n0_ := am_ (Kd.N_below (Kd.N_elderB (nx_ HO5.out) gb15 (Nat.le_of_eq hg.symm)) hb); have n1_ := am_ (Kd.R_below (rx_ HO8.out) hb); have n2_ := am_ (Kd.N_below (Kd.N_elderB (nx_ HO13.out) gb15 (Nat.le_of_eq hg.symm)) hb); have n3_ := bb_ BK9.out hb; have n4_ := bs_ hb; have n5_ := am_ (hbox); have n6_ := ge_ (w := w) hg; have n7_ := ge_ (w := w) hg; have n8_ := nl_ BK9.out hg; have n9_ := nr_ BK9.out hg; clear HO5; clear HO8; clear HO13; clear BK9; clear HB; have HO5 := n0_; have HO8 := n1_; have HO13 := n2_; have BK9 := n3_; have HB := n4_; have BK15 := n5_; have GW15 := n6_; have GE15 := n7_; have NB9_15 := n8_; have NB15_9 := n9_; clear n0_ n1_ n2_ n3_ n4_ n5_ n6_ n7_ n8_ n9_; clear hb hbox hg; have hnb26 := NB15_9.out; have hnc26 := NB9_15.out; obtain ⟨hcz27_0, hcz27_1, hfz27_0, hfz27_1⟩ := bc2_ BK15.out; obtain ⟨Ao28, co28, eo28⟩ := Kd.N_slice HO13.out; subst eo28; obtain ⟨hcz29_0, hcz29_1, hfz29_0, hfz29_1⟩ := bc2_ BK9.out) | ((with_reducible refine gate_callee (f := 7) rfl ?_); refine goesL_ (some 31) rfl rfl Try.func7 kr_ rfl #[.agg #[.int .i64 t2, .slice Ao22 t3.length co22], .slice Ao23 t6.length co23] rfl ar_ ?_; (with_reducible refine (impl_PutFences.calls k t2 _ _ t3 _ _ t6 t16 t17 true _ ?side1 ?side2 ?side3 ?side4 A7.out).mono ?_); (case side1 => refine (Kd.N_reads' (e := 46) (base := w.heap.size) (ok := fun k_ => (((some k_ ≠ (.slice Ao23 t6.length co23 : Value).ownBlock ∧ k_ ≠ gb9) ∧ some k_ ≠ (.slice Ao28 t11.length co28 : Value).ownBlock) ∧ k_ ≠ gb15)) (n := t3.length) (c := co22) ?_).2.2; exact (by (with_reducible repeat (first | apply Kd.N_alloc | apply Kd.N_drewN | apply Kd.N_drew)); exact (Kd.N_mono (Kd.N_far (p := ⟨gb15, 1, none⟩) (Kd.N_far (p := ⟨gb15, 0, none⟩) (Kd.N_mono HO5.out (fun k_ hk => (⟨hk, hk.2⟩ : _ ∧ k_ ≠ gb15))) (fun _ hk => hk.2) (.int .i64 t10)) (fun _ hk => hk.2) (.slice Ao28 t11.length co28)) (fun _ h_ => h_.1)))); (case side2 => exact (Kd.N_reads' HO5.out).2.1); (case side3 => refine (Kd.R_reads' (e := 44) (base := w.heap.size) (ok := fun k_ => True) (n := t6.length) (c := co23) ?_).2.2; exact (by (with_reducible repeat (first | apply Kd.R_alloc | apply Kd.R_drewN | apply Kd.R_drew)); exact (Kd.R_mono (Kd.R_far (p := ⟨gb15, 1, none⟩) (Kd.R_far (p := ⟨gb15, 0, none⟩) (Kd.R_types HO8.out BK15.out (by decide)) (fun _ hk => hk.2) (.int .i64 t10)) (fun _ hk => hk.2) (.slice Ao28 t11.length co28)) (fun _ h_ => h_.1)))); (case side4 => exact (Kd.R_reads' HO8.out).2.1); rintro e w30 ⟨v18, rfl, ho0, hb⟩; refine ⟨_, rfl, ?_⟩; have n0_ := am_ (Kd.N_elder' (by (with_reducible repeat (first | apply Kd.N_alloc | apply Kd.N_drewN | apply Kd.N_drew)); exact (Kd.N_mono (Kd.N_far (p := ⟨gb15, 1, none⟩) (Kd.N_far (p := ⟨gb15, 0, none⟩) (Kd.N_mono HO5.out (fun k_ hk => (⟨hk, hk.2⟩ : _ ∧ k_ ≠ gb15))) (fun _ hk => hk.2) (.int .i64 t10)) (fun _ hk => hk.2) (.slice Ao28 t11.length co28)) (fun _ h_ => h_.1))) (Kd.N_base (Kd.S_N ho0)) hb); have n1_ := am_ (Kd.R_below (by (with_reducible repeat (first | apply Kd.R_alloc | apply Kd.R_drewN | apply Kd.R_drew)); exact (Kd.R_mono (Kd.R_far (p := ⟨gb15, 1, none⟩) (Kd.R_far (p := ⟨gb15, 0, none⟩) (Kd.R_types HO8.out BK15.out (by decide)) (fun _ hk => hk.2) (.int .i64 t10)) (fun _ hk => hk.2) (.slice Ao28 t11.length co28)) (fun _ h_ => h_.1))) hb); have n2_ := am_ (Kd.N_elder' (by (with_reducible repeat (first | apply Kd.N_alloc | apply Kd.N_drewN | apply Kd.N_drew)); exact (Kd.N_mono (Kd.N_far (p := ⟨gb15, 1, none⟩) (Kd.N_far (p := ⟨gb15, 0, none⟩) (Kd.N_mono HO13.out (fun k_ hk => (⟨hk, hk.2⟩ : _ ∧ k_ ≠ gb15))) (fun _ hk => hk.2) (.int .i64 t10)) (fun _ hk => hk.2) (.slice Ao28 t11.length co28)) (fun _ h_ => h_.1))) (Kd.N_base (Kd.S_N ho0)) hb); have n3_ := am_ (Kd.N_lower (Kd.N_mono (ok' := fun k_ => some k_ ≠ (.slice Ao22 t3.length co22 : Value).ownBlock ∧ some k_ ≠ (.slice Ao23 t6.length co23 : Value).ownBlock ∧ some k_ ≠ (.slice Ao28 t11.length co28 : Value).ownBlock ∧ k_ ≠ gb9 ∧ k_ ≠ gb15) (Kd.S_N (Kd.S_bound ho0)) (fun k_ hk_ => ⟨(Kd.fresh' (Kd.N_lt (by (with_reducible repeat (first | apply Kd.N_alloc | apply Kd.N_drewN | apply Kd.N_drew)); exact (Kd.N_mono (Kd.N_far (p := ⟨gb15, 1, none⟩) (Kd.N_far (p := ⟨gb15, 0, none⟩) (Kd.N_mono HO5.out (fun k_ hk => (⟨hk, hk.2⟩ : _ ∧ k_ ≠ gb15))) (fun _ hk => hk.2) (.int .i64 t10)) (fun _ hk => hk.2) (.slice Ao28 t11.length co28)) (fun _ h_ => h_.1)))) k_ hk_.2.1), (Kd.fresh' (Kd.R_lt (by (with_reducible repeat (first | apply Kd.R_alloc | apply Kd.R_drewN | apply Kd.R_drew)); exact (Kd.R_mono (Kd.R_far (p := ⟨gb15, 1, none⟩) (Kd.R_far (p := ⟨gb15, 0, none⟩) (Kd.R_types HO8.out BK15.out (by decide)) (fun _ hk => hk.2) (.int .i64 t10)) (fun _ hk => hk.2) (.slice Ao28 t11.length co28)) (fun _ h_ => h_.1)))) k_ hk_.2.1), (Kd.fresh' (Kd.N_lt (by (with_reducible repeat (first | apply Kd.N_alloc | apply Kd.N_drewN | apply Kd.N_drew)); exact (Kd.N_mono (Kd.N_far (p := ⟨gb15, 1, none⟩) (Kd.N_far (p := ⟨gb15, 0, none⟩) (Kd.N_mono HO13.out (fun k_ hk => (⟨hk, hk.2⟩ : _ ∧ k_ ≠ gb15))) (fun _ hk => hk.2) (.int .i64 t10)) (fun _ hk => hk.2) (.slice Ao28 t11.length co28)) (fun _ h_ => h_.1)))) k_ hk_.2.1), (Kd.freshB (g := gb9) (o := .cells #[.int .i64 t2, .slice Ao22 t3.length co22] 26 (0, 0)) (by (with_reducible repeat (first | refine blk_drewN ?_ _ | refine blk_drew ?_ | refine blk_alloc ?_ _)); refine blk_far ?_ NB9_15.out _; (with_reducible repeat (first | refine blk_drewN ?_ _ | refine blk_drew ?_ | refine blk_alloc ?_ _)); refine blk_far ?_ NB9_15.out _; exact bk_) k_ hk_.2.1), (Kd.freshB (g := gb15) (o := .cells #[.int .i64 t10, .slice Ao28 t11.length co28] 26 (0, 0)) (by (with_reducible repeat (first | refine blk_drewN ?_ _ | refine blk_drew ?_ | refine blk_alloc ?_ _)); refine blk_put (cs := #[.int .i64 t10, .slice none 0 0]) ?_ 1 _ rfl; (with_reducible repeat (first | refine blk_drewN ?_ _ | refine blk_drew ?_ | refine blk_alloc ?_ _)); refine blk_put (cs := #[.int .i64 0, .slice none 0 0]) ?_ 0 _ rfl; exact bk_) k_ hk_.2.1)⟩)) (below_size bw_)); have n4_ := am_ (blk_below (g := gb9) (o := .cells #[.int .i64 t2, .slice Ao22 t3.length co22] 26 (0, 0)) (by (with_reducible repeat (first | refine blk_drewN ?_ _ | refine blk_drew ?_ | refine blk_alloc ?_ _)); refine blk_far ?_ NB9_15.out _; (with_reducible repeat (first | refine blk_drewN ?_ _ | refine blk_drew ?_ | refine blk_alloc ?_ _)); refine blk_far ?_ NB9_15.out _; exact bk_) hb); have n5_ := am_ (blk_below (g := gb15) (o := .cells #[.int .i64 t10, .slice Ao28 t11.length co28] 26 (0, 0)) (by (with_reducible repeat (first | refine blk_drewN ?_ _ | refine blk_drew ?_ | refine blk_alloc ?_ _)); refine blk_put (cs := #[.int .i64 t10, .slice none 0 0]) ?_ 1 _ rfl; (with_reducible repeat (first | refine blk_drewN ?_ _ | refine blk_drew ?_ | refine blk_alloc ?_ _)); refine blk_put (cs := #[.int .i64 0, .slice none 0 0]) ?_ 0 _ rfl; exact bk_) hb); have n6_ := bs_ hb; clear HO5; clear HO8; clear HO13; clear BK9; clear BK15; clear HB; have HO5 := n0_; have HO8 := n1_; have HO13 := n2_; have HO19 := n3_; have BK9 := n4_; have BK15 := n5_; have HB := n6_; clear n0_ n1_ n2_ n3_ n4_ n5_ n6_; (try clear hb); (try clear hb2); (try clear hk); (try clear hi); (try clear ho0)) | ((with_reducible refine gate_dst (N := 7) rfl ?_); (try (refine gate_guard (by rfl) ?_; dsimp only)); refine box_event ?hg (N := 7) ?hd (cs := #[.int .i64 0, .slice none 0 0]) (t := 26) ?hr ?_; (case hd => rfl); (case hg => rfl); (case hr => exact hrr_); intro gb21 hg w31 hbox hb; have n0_ := am_ (Kd.N_below (Kd.N_elderB (nx_ HO5.out) gb21 (Nat.le_of_eq hg.symm)) hb); have n1_ := am_ (Kd.R_below (rx_ HO8.out) hb); have n2_ := am_ (Kd.N_below (Kd.N_elderB (nx_ HO13.out) gb21 (Nat.le_of_eq hg.symm)) hb); have n3_ := am_ (Kd.N_below (Kd.N_elderB (nx_ HO19.out) gb21 (Nat.le_of_eq hg.symm)) hb); have n4_ := bb_ BK9.out hb; have n5_ := bb_ BK15.out hb; have n6_ := bs_ hb; have n7_ := am_ (hbox); have n8_ := ge_ (w := w) hg; have n9_ := ge_ (w := w) hg; have n10_ := nl_ BK9.out hg; have n11_ := nr_ BK9.out hg; have n12_ := nl_ BK15.out hg; have n13_ := nr_ BK15.out hg; clear HO5; clear HO8; clear HO13; clear HO19; clear BK9; clear BK15; clear HB; have HO5 := n0_; have HO8 := n1_; have HO13 := n2_; have HO19 := n3_; have BK9 := n4_; have BK15 := n5_; have HB := n6_; have BK21 := n7_; have GW21 := n8_; have GE21 := n9_; have NB9_21 := n10_; have NB21_9 := n11_; have NB15_21 := n12_; have NB21_15 := n13_; clear n0_ n1_ n2_ n3_ n4_ n5_ n6_ n7_ n8_ n9_ n10_ n11_ n12_ n13_; clear hb hbox hg; have hnb32 := NB21_9.out; have hnc32 := NB9_21.out; have hnb33 := NB21_15.out; have hnc33 := NB15_21.out; obtain ⟨hcz34_0, hcz34_1, hfz34_0, hfz34_1⟩ := bc2_ BK21.out; obtain ⟨Ao35, co35, eo35⟩ := Kd.N_slice HO19.out; subst eo35; obtain ⟨hcz36_0, hcz36_1, hfz36_0, hfz36_1⟩ := bc2_ BK9.out) | ((with_reducible refine gate_callee (f := 8) rfl ?_); refine goesL_ (some 36) rfl rfl Try.func8 kr_ rfl #[.agg #[.int .i64 t2, .slice Ao22 t3.length co22]] rfl ar_ ?_; (with_reducible refine (impl_StripFences.calls k t2 _ _ t3 t22 t23 true _ ?side1 ?side2 A8.out).mono ?_); (case side1 => refine (Kd.N_reads' (e := 46) (base := w.heap.size) (ok := fun k_ => (((((some k_ ≠ (.slice Ao23 t6.length co23 : Value).ownBlock ∧ k_ ≠ gb9) ∧ some k_ ≠ (.slice Ao28 t11.length co28 : Value).ownBlock) ∧ k_ ≠ gb15) ∧ some k_ ≠ (.slice Ao35 t17.length co35 : Value).ownBlock) ∧ k_ ≠ gb21)) (n := t3.length) (c := co22) ?_).2.2; exact (by (with_reducible repeat (first | apply Kd.N_alloc | apply Kd.N_drewN | apply Kd.N_drew)); exact (Kd.N_mono (Kd.N_far (p := ⟨gb21, 1, none⟩) (Kd.N_far (p := ⟨gb21, 0, none⟩) (Kd.N_mono HO5.out (fun k_ hk => (⟨hk, hk.2⟩ : _ ∧ k_ ≠ gb21))) (fun _ hk => hk.2) (.int .i64 t16)) (fun _ hk => hk.2) (.slice Ao35 t17.length co35)) (fun _ h_ => h_.1)))); (case side2 => exact (Kd.N_reads' HO5.out).2.1); rintro e w37 ⟨v24, rfl, ho0, hb⟩; refine ⟨_, rfl, ?_⟩; have n0_ := am_ (Kd.N_elder' (by (with_reducible repeat (first | apply Kd.N_alloc | apply Kd.N_drewN | apply Kd.N_drew)); exact (Kd.N_mono (Kd.N_far (p := ⟨gb21, 1, none⟩) (Kd.N_far (p := ⟨gb21, 0, none⟩) (Kd.N_mono HO5.out (fun k_ hk => (⟨hk, hk.2⟩ : _ ∧ k_ ≠ gb21))) (fun _ hk => hk.2) (.int .i64 t16)) (fun _ hk => hk.2) (.slice Ao35 t17.length co35)) (fun _ h_ => h_.1))) (Kd.N_base (Kd.S_N ho0)) hb); have n1_ := am_ (Kd.R_below (by (with_reducible repeat (first | apply Kd.R_alloc | apply Kd.R_drewN | apply Kd.R_drew)); exact (Kd.R_mono (Kd.R_far (p := ⟨gb21, 1, none⟩) (Kd.R_far (p := ⟨gb21, 0, none⟩) (Kd.R_types HO8.out BK21.out (by decide)) (fun _ hk => hk.2) (.int .i64 t16)) (fun _ hk => hk.2) (.slice Ao35 t17.length co35)) (fun _ h_ => h_.1))) hb); have n2_ := am_ (Kd.N_elder' (by (with_reducible repeat (first | apply Kd.N_alloc | apply Kd.N_drewN | apply Kd.N_drew)); exact (Kd.N_mono (Kd.N_far (p := ⟨gb21, 1, none⟩) (Kd.N_far (p := ⟨gb21, 0, none⟩) (Kd.N_mono HO13.out (fun k_ hk => (⟨hk, hk.2⟩ : _ ∧ k_ ≠ gb21))) (fun _ hk => hk.2) (.int .i64 t16)) (fun _ hk => hk.2) (.slice Ao35 t17.length co35)) (fun _ h_ => h_.1))) (Kd.N_base (Kd.S_N ho0)) hb); have n3_ := am_ (Kd.N_elder' (by (with_reducible repeat (first | apply Kd.N_alloc | apply Kd.N_drewN | apply Kd.N_drew)); exact (Kd.N_mono (Kd.N_far (p := ⟨gb21, 1, none⟩) (Kd.N_far (p := ⟨gb21, 0, none⟩) (Kd.N_mono HO19.out (fun k_ hk => (⟨hk, hk.2⟩ : _ ∧ k_ ≠ gb21))) (fun _ hk => hk.2) (.int .i64 t16)) (fun _ hk => hk.2) (.slice Ao35 t17.length co35)) (fun _ h_ => h_.1))) (Kd.N_base (Kd.S_N ho0)) hb); have n4_ := am_ (Kd.N_lower (Kd.N_mono (ok' := fun k_ => some k_ ≠ (.slice Ao22 t3.length co22 : Value).ownBlock ∧ some k_ ≠ (.slice Ao23 t6.length co23 : Value).ownBlock ∧ some k_ ≠ (.slice Ao28 t11.length co28 : Value).ownBlock ∧ some k_ ≠ (.slice Ao35 t17.length co35 : Value).ownBlock ∧ k_ ≠ gb9 ∧ k_ ≠ gb15 ∧ k_ ≠ gb21) (Kd.S_N (Kd.S_bound ho0)) (fun k_ hk_ => ⟨(Kd.fresh' (Kd.N_lt (by (with_reducible repeat (first | apply Kd.N_alloc | apply Kd.N_drewN | apply Kd.N_drew)); exact (Kd.N_mono (Kd.N_far (p := ⟨gb21, 1, none⟩) (Kd.N_far (p := ⟨gb21, 0, none⟩) (Kd.N_mono HO5.out (fun k_ hk => (⟨hk, hk.2⟩ : _ ∧ k_ ≠ gb21))) (fun _ hk => hk.2) (.int .i64 t16)) (fun _ hk => hk.2) (.slice Ao35 t17.length co35)) (fun _ h_ => h_.1)))) k_ hk_.2.1), (Kd.fresh' (Kd.R_lt (by (with_reducible repeat (first | apply Kd.R_alloc | apply Kd.R_drewN | apply Kd.R_drew)); exact (Kd.R_mono (Kd.R_far (p := ⟨gb21, 1, none⟩) (Kd.R_far (p := ⟨gb21, 0, none⟩) (Kd.R_types HO8.out BK21.out (by decide)) (fun _ hk => hk.2) (.int .i64 t16)) (fun _ hk => hk.2) (.slice Ao35 t17.length co35)) (fun _ h_ => h_.1)))) k_ hk_.2.1), (Kd.fresh' (Kd.N_lt (by (with_reducible repeat (first | apply Kd.N_alloc | apply Kd.N_drewN | apply Kd.N_drew)); exact (Kd.N_mono (Kd.N_far (p := ⟨gb21, 1, none⟩) (Kd.N_far (p := ⟨gb21, 0, none⟩) (Kd.N_mono HO13.out (fun k_ hk => (⟨hk, hk.2⟩ : _ ∧ k_ ≠ gb21))) (fun _ hk => hk.2) (.int .i64 t16)) (fun _ hk => hk.2) (.slice Ao35 t17.length co35)) (fun _ h_ => h_.1)))) k_ hk_.2.1), (Kd.fresh' (Kd.N_lt (by (with_reducible repeat (first | apply Kd.N_alloc | apply Kd.N_drewN | apply Kd.N_drew)); exact (Kd.N_mono (Kd.N_far (p := ⟨gb21, 1, none⟩) (Kd.N_far (p := ⟨gb21, 0, none⟩) (Kd.N_mono HO19.out (fun k_ hk => (⟨hk, hk.2⟩ : _ ∧ k_ ≠ gb21))) (fun _ hk => hk.2) (.int .i64 t16)) (fun _ hk => hk.2) (.slice Ao35 t17.length co35)) (fun _ h_ => h_.1)))) k_ hk_.2.1), (Kd.freshB (g := gb9) (o := .cells #[.int .i64 t2, .slice Ao22 t3.length co22] 26 (0, 0)) (by (with_reducible repeat (first | refine blk_drewN ?_ _ | refine blk_drew ?_ | refine blk_alloc ?_ _)); refine blk_far ?_ NB9_21.out _; (with_reducible repeat (first | refine blk_drewN ?_ _ | refine blk_drew ?_ | refine blk_alloc ?_ _)); refine blk_far ?_ NB9_21.out _; exact bk_) k_ hk_.2.1), (Kd.freshB (g := gb15) (o := .cells #[.int .i64 t10, .slice Ao28 t11.length co28] 26 (0, 0)) (by (with_reducible repeat (first | refine blk_drewN ?_ _ | refine blk_drew ?_ | refine blk_alloc ?_ _)); refine blk_far ?_ NB15_21.out _; (with_reducible repeat (first | refine blk_drewN ?_ _ | refine blk_drew ?_ | refine blk_alloc ?_ _)); refine blk_far ?_ NB15_21.out _; exact bk_) k_ hk_.2.1), (Kd.freshB (g := gb21) (o := .cells #[.int .i64 t16, .slice Ao35 t17.length co35] 26 (0, 0)) (by (with_reducible repeat (first | refine blk_drewN ?_ _ | refine blk_drew ?_ | refine blk_alloc ?_ _)); refine blk_put (cs := #[.int .i64 t16, .slice none 0 0]) ?_ 1 _ rfl; (with_reducible repeat (first | refine blk_drewN ?_ _ | refine blk_drew ?_ | refine blk_alloc ?_ _)); refine blk_put (cs := #[.int .i64 0, .slice none 0 0]) ?_ 0 _ rfl; exact bk_) k_ hk_.2.1)⟩)) (below_size bw_)); have n5_ := am_ (blk_below (g := gb9) (o := .cells #[.int .i64 t2, .slice Ao22 t3.length co22] 26 (0, 0)) (by (with_reducible repeat (first | refine blk_drewN ?_ _ | refine blk_drew ?_ | refine blk_alloc ?_ _)); refine blk_far ?_ NB9_21.out _; (with_reducible repeat (first | refine blk_drewN ?_ _ | refine blk_drew ?_ | refine blk_alloc ?_ _)); refine blk_far ?_ NB9_21.out _; exact bk_) hb); have n6_ := am_ (blk_below (g := gb15) (o := .cells #[.int .i64 t10, .slice Ao28 t11.length co28] 26 (0, 0)) (by (with_reducible repeat (first | refine blk_drewN ?_ _ | refine blk_drew ?_ | refine blk_alloc ?_ _)); refine blk_far ?_ NB15_21.out _; (with_reducible repeat (first | refine blk_drewN ?_ _ | refine blk_drew ?_ | refine blk_alloc ?_ _)); refine blk_far ?_ NB15_21.out _; exact bk_) hb); have n7_ := am_ (blk_below (g := gb21) (o := .cells #[.int .i64 t16, .slice Ao35 t17.length co35] 26 (0, 0)) (by (with_reducible repeat (first | refine blk_drewN ?_ _ | refine blk_drew ?_ | refine blk_alloc ?_ _)); refine blk_put (cs := #[.int .i64 t16, .slice none 0 0]) ?_ 1 _ rfl; (with_reducible repeat (first | refine blk_drewN ?_ _ | refine blk_drew ?_ | refine blk_alloc ?_ _)); refine blk_put (cs := #[.int .i64 0, .slice none 0 0]) ?_ 0 _ rfl; exact bk_) hb); have n8_ := bs_ hb; clear HO5; clear HO8; clear HO13; clear HO19; clear BK9; clear BK15; clear BK21; clear HB; have HO5 := n0_; have HO8 := n1_; have HO13 := n2_; have HO19 := n3_; have HO25 := n4_; have BK9 := n5_; have BK15 := n6_; have BK21 := n7_; have HB := n8_; clear n0_ n1_ n2_ n3_ n4_ n5_ n6_ n7_ n8_; (try clear hb); (try clear hb2); (try clear hk); (try clear hi); (try clear ho0)) | ((with_reducible refine gate_dst (N := 9) rfl ?_); (try (refine gate_guard (by rfl) ?_; dsimp only)); refine box_event ?hg (N := 9) ?hd (cs := #[.int .i64 0, .slice none 0 0]) (t := 26) ?hr ?_; (case hd => rfl); (case hg => rfl); (case hr => exact hrr_); intro gb27 hg w38 hbox hb; have n0_ := am_ (Kd.N_below (Kd.N_elderB (nx_ HO5.out) gb27 (Nat.le_of_eq hg.symm)) hb); have n1_ := am_ (Kd.R_below (rx_ HO8.out) hb); have n2_ := am_ (Kd.N_below (Kd.N_elderB (nx_ HO13.out) gb27 (Nat.le_of_eq hg.symm)) hb); have n3_ := am_ (Kd.N_below (Kd.N_elderB (nx_ HO19.out) gb27 (Nat.le_of_eq hg.symm)) hb); have n4_ := am_ (Kd.N_below (Kd.N_elderB (nx_ HO25.out) gb27 (Nat.le_of_eq hg.symm)) hb); have n5_ := bb_ BK9.out hb; have n6_ := bb_ BK15.out hb; have n7_ := bb_ BK21.out hb; have n8_ := bs_ hb; have n9_ := am_ (hbox); have n10_ := ge_ (w := w) hg; have n11_ := ge_ (w := w) hg; have n12_ := nl_ BK9.out hg; have n13_ := nr_ BK9.out hg; have n14_ := nl_ BK15.out hg; have n15_ := nr_ BK15.out hg; have n16_ := nl_ BK21.out hg; have n17_ := nr_ BK21.out hg; clear HO5; clear HO8; clear HO13; clear HO19; clear HO25; clear BK9; clear BK15; clear BK21; clear HB; have HO5 := n0_; have HO8 := n1_; have HO13 := n2_; have HO19 := n3_; have HO25 := n4_; have BK9 := n5_; have BK15 := n6_; have BK21 := n7_; have HB := n8_; have BK27 := n9_; have GW27 := n10_; have GE27 := n11_; have NB9_27 := n12_; have NB27_9 := n13_; have NB15_27 := n14_; have NB27_15 := n15_; have NB21_27 := n16_; have NB27_21 := n17_; clear n0_ n1_ n2_ n3_ n4_ n5_ n6_ n7_ n8_ n9_ n10_ n11_ n12_ n13_ n14_ n15_ n16_ n17_; clear hb hbox hg; have hnb39 := NB27_9.out; have hnc39 := NB9_27.out; have hnb40 := NB27_15.out; have hnc40 := NB15_27.out; have hnb41 := NB27_21.out; have hnc41 := NB21_27.out; obtain ⟨hcz42_0, hcz42_1, hfz42_0, hfz42_1⟩ := bc2_ BK27.out; obtain ⟨Ao43, co43, eo43⟩ := Kd.N_slice HO25.out; subst eo43; obtain ⟨hcz44_0, hcz44_1, hfz44_0, hfz44_1⟩ := bc2_ BK21.out) | ((with_reducible refine gate_callee (f := 8) rfl ?_); refine goesL_ (some 41) rfl rfl Try.func8 kr_ rfl #[.agg #[.int .i64 t16, .slice Ao35 t17.length co35]] rfl ar_ ?_; (with_reducible refine (impl_StripFences.calls k t16 _ _ t17 t28 t29 true _ ?side1 ?side2 A9.out).mono ?_); (case side1 => refine (Kd.N_reads' (e := 46) (base := w.heap.size) (ok := fun k_ => ((((some k_ ≠ (.slice Ao22 t3.length co22 : Value).ownBlock ∧ (some k_ ≠ (.slice Ao23 t6.length co23 : Value).ownBlock ∧ (some k_ ≠ (.slice Ao28 t11.length co28 : Value).ownBlock ∧ (k_ ≠ gb9 ∧ k_ ≠ gb15)))) ∧ k_ ≠ gb21) ∧ some k_ ≠ (.slice Ao43 t23.length co43 : Value).ownBlock) ∧ k_ ≠ gb27)) (n := t17.length) (c := co35) ?_).2.2; exact (by (with_reducible repeat (first | apply Kd.N_alloc | apply Kd.N_drewN | apply Kd.N_drew)); exact (Kd.N_mono (Kd.N_far (p := ⟨gb27, 1, none⟩) (Kd.N_far (p := ⟨gb27, 0, none⟩) (Kd.N_mono HO19.out (fun k_ hk => (⟨hk, hk.2⟩ : _ ∧ k_ ≠ gb27))) (fun _ hk => hk.2) (.int .i64 t22)) (fun _ hk => hk.2) (.slice Ao43 t23.length co43)) (fun _ h_ => h_.1)))); (case side2 => exact (Kd.N_reads' HO19.out).2.1); rintro e w45 ⟨v30, rfl, ho0, hb⟩; refine ⟨_, rfl, ?_⟩; have n0_ := am_ (Kd.N_elder' (by (with_reducible repeat (first | apply Kd.N_alloc | apply Kd.N_drewN | apply Kd.N_drew)); exact (Kd.N_mono (Kd.N_far (p := ⟨gb27, 1, none⟩) (Kd.N_far (p := ⟨gb27, 0, none⟩) (Kd.N_mono HO5.out (fun k_ hk => (⟨hk, hk.2⟩ : _ ∧ k_ ≠ gb27))) (fun _ hk => hk.2) (.int .i64 t22)) (fun _ hk => hk.2) (.slice Ao43 t23.length co43)) (fun _ h_ => h_.1))) (Kd.N_base (Kd.S_N ho0)) hb); have n1_ := am_ (Kd.R_below (by (with_reducible repeat (first | apply Kd.R_alloc | apply Kd.R_drewN | apply Kd.R_drew)); exact (Kd.R_mono (Kd.R_far (p := ⟨gb27, 1, none⟩) (Kd.R_far (p := ⟨gb27, 0, none⟩) (Kd.R_types HO8.out BK27.out (by decide)) (fun _ hk => hk.2) (.int .i64 t22)) (fun _ hk => hk.2) (.slice Ao43 t23.length co43)) (fun _ h_ => h_.1))) hb); have n2_ := am_ (Kd.N_elder' (by (with_reducible repeat (first | apply Kd.N_alloc | apply Kd.N_drewN | apply Kd.N_drew)); exact (Kd.N_mono (Kd.N_far (p := ⟨gb27, 1, none⟩) (Kd.N_far (p := ⟨gb27, 0, none⟩) (Kd.N_mono HO13.out (fun k_ hk => (⟨hk, hk.2⟩ : _ ∧ k_ ≠ gb27))) (fun _ hk => hk.2) (.int .i64 t22)) (fun _ hk => hk.2) (.slice Ao43 t23.length co43)) (fun _ h_ => h_.1))) (Kd.N_base (Kd.S_N ho0)) hb); have n3_ := am_ (Kd.N_elder' (by (with_reducible repeat (first | apply Kd.N_alloc | apply Kd.N_drewN | apply Kd.N_drew)); exact (Kd.N_mono (Kd.N_far (p := ⟨gb27, 1, none⟩) (Kd.N_far (p := ⟨gb27, 0, none⟩) (Kd.N_mono HO19.out (fun k_ hk => (⟨hk, hk.2⟩ : _ ∧ k_ ≠ gb27))) (fun _ hk => hk.2) (.int .i64 t22)) (fun _ hk => hk.2) (.slice Ao43 t23.length co43)) (fun _ h_ => h_.1))) (Kd.N_base (Kd.S_N ho0)) hb); have n4_ := am_ (Kd.N_elder' (by (with_reducible repeat (first | apply Kd.N_alloc | apply Kd.N_drewN | apply Kd.N_drew)); exact (Kd.N_mono (Kd.N_far (p := ⟨gb27, 1, none⟩) (Kd.N_far (p := ⟨gb27, 0, none⟩) (Kd.N_mono HO25.out (fun k_ hk => (⟨hk, hk.2⟩ : _ ∧ k_ ≠ gb27))) (fun _ hk => hk.2) (.int .i64 t22)) (fun _ hk => hk.2) (.slice Ao43 t23.length co43)) (fun _ h_ => h_.1))) (Kd.N_base (Kd.S_N ho0)) hb); have n5_ := am_ (Kd.N_lower (Kd.N_mono (ok' := fun k_ => some k_ ≠ (.slice Ao22 t3.length co22 : Value).ownBlock ∧ some k_ ≠ (.slice Ao23 t6.length co23 : Value).ownBlock ∧ some k_ ≠ (.slice Ao28 t11.length co28 : Value).ownBlock ∧ some k_ ≠ (.slice Ao35 t17.length co35 : Value).ownBlock ∧ some k_ ≠ (.slice Ao43 t23.length co43 : Value).ownBlock ∧ k_ ≠ gb9 ∧ k_ ≠ gb15 ∧ k_ ≠ gb21 ∧ k_ ≠ gb27) (Kd.S_N (Kd.S_bound ho0)) (fun k_ hk_ => ⟨(Kd.fresh' (Kd.N_lt (by (with_reducible repeat (first | apply Kd.N_alloc | apply Kd.N_drewN | apply Kd.N_drew)); exact (Kd.N_mono (Kd.N_far (p := ⟨gb27, 1, none⟩) (Kd.N_far (p := ⟨gb27, 0, none⟩) (Kd.N_mono HO5.out (fun k_ hk => (⟨hk, hk.2⟩ : _ ∧ k_ ≠ gb27))) (fun _ hk => hk.2) (.int .i64 t22)) (fun _ hk => hk.2) (.slice Ao43 t23.length co43)) (fun _ h_ => h_.1)))) k_ hk_.2.1), (Kd.fresh' (Kd.R_lt (by (with_reducible repeat (first | apply Kd.R_alloc | apply Kd.R_drewN | apply Kd.R_drew)); exact (Kd.R_mono (Kd.R_far (p := ⟨gb27, 1, none⟩) (Kd.R_far (p := ⟨gb27, 0, none⟩) (Kd.R_types HO8.out BK27.out (by decide)) (fun _ hk => hk.2) (.int .i64 t22)) (fun _ hk => hk.2) (.slice Ao43 t23.length co43)) (fun _ h_ => h_.1)))) k_ hk_.2.1), (Kd.fresh' (Kd.N_lt (by (with_reducible repeat (first | apply Kd.N_alloc | apply Kd.N_drewN | apply Kd.N_drew)); exact (Kd.N_mono (Kd.N_far (p := ⟨gb27, 1, none⟩) (Kd.N_far (p := ⟨gb27, 0, none⟩) (Kd.N_mono HO13.out (fun k_ hk => (⟨hk, hk.2⟩ : _ ∧ k_ ≠ gb27))) (fun _ hk => hk.2) (.int .i64 t22)) (fun _ hk => hk.2) (.slice Ao43 t23.length co43)) (fun _ h_ => h_.1)))) k_ hk_.2.1), (Kd.fresh' (Kd.N_lt (by (with_reducible repeat (first | apply Kd.N_alloc | apply Kd.N_drewN | apply Kd.N_drew)); exact (Kd.N_mono (Kd.N_far (p := ⟨gb27, 1, none⟩) (Kd.N_far (p := ⟨gb27, 0, none⟩) (Kd.N_mono HO19.out (fun k_ hk => (⟨hk, hk.2⟩ : _ ∧ k_ ≠ gb27))) (fun _ hk => hk.2) (.int .i64 t22)) (fun _ hk => hk.2) (.slice Ao43 t23.length co43)) (fun _ h_ => h_.1)))) k_ hk_.2.1), (Kd.fresh' (Kd.N_lt (by (with_reducible repeat (first | apply Kd.N_alloc | apply Kd.N_drewN | apply Kd.N_drew)); exact (Kd.N_mono (Kd.N_far (p := ⟨gb27, 1, none⟩) (Kd.N_far (p := ⟨gb27, 0, none⟩) (Kd.N_mono HO25.out (fun k_ hk => (⟨hk, hk.2⟩ : _ ∧ k_ ≠ gb27))) (fun _ hk => hk.2) (.int .i64 t22)) (fun _ hk => hk.2) (.slice Ao43 t23.length co43)) (fun _ h_ => h_.1)))) k_ hk_.2.1), (Kd.freshB (g := gb9) (o := .cells #[.int .i64 t2, .slice Ao22 t3.length co22] 26 (0, 0)) (by (with_reducible repeat (first | refine blk_drewN ?_ _ | refine blk_drew ?_ | refine blk_alloc ?_ _)); refine blk_far ?_ NB9_27.out _; (with_reducible repeat (first | refine blk_drewN ?_ _ | refine blk_drew ?_ | refine blk_alloc ?_ _)); refine blk_far ?_ NB9_27.out _; exact bk_) k_ hk_.2.1), (Kd.freshB (g := gb15) (o := .cells #[.int .i64 t10, .slice Ao28 t11.length co28] 26 (0, 0)) (by (with_reducible repeat (first | refine blk_drewN ?_ _ | refine blk_drew ?_ | refine blk_alloc ?_ _)); refine blk_far ?_ NB15_27.out _; (with_reducible repeat (first | refine blk_drewN ?_ _ | refine blk_drew ?_ | refine blk_alloc ?_ _)); refine blk_far ?_ NB15_27.out _; exact bk_) k_ hk_.2.1), (Kd.freshB (g := gb21) (o := .cells #[.int .i64 t16, .slice Ao35 t17.length co35] 26 (0, 0)) (by (with_reducible repeat (first | refine blk_drewN ?_ _ | refine blk_drew ?_ | refine blk_alloc ?_ _)); refine blk_far ?_ NB21_27.out _; (with_reducible repeat (first | refine blk_drewN ?_ _ | refine blk_drew ?_ | refine blk_alloc ?_ _)); refine blk_far ?_ NB21_27.out _; exact bk_) k_ hk_.2.1), (Kd.freshB (g := gb27) (o := .cells #[.int .i64 t22, .slice Ao43 t23.length co43] 26 (0, 0)) (by (with_reducible repeat (first | refine blk_drewN ?_ _ | refine blk_drew ?_ | refine blk_alloc ?_ _)); refine blk_put (cs := #[.int .i64 t22, .slice none 0 0]) ?_ 1 _ rfl; (with_reducible repeat (first | refine blk_drewN ?_ _ | refine blk_drew ?_ | refine blk_alloc ?_ _)); refine blk_put (cs := #[.int .i64 0, .slice none 0 0]) ?_ 0 _ rfl; exact bk_) k_ hk_.2.1)⟩)) (below_size bw_)); have n6_ := am_ (blk_below (g := gb9) (o := .cells #[.int .i64 t2, .slice Ao22 t3.length co22] 26 (0, 0)) (by (with_reducible repeat (first | refine blk_drewN ?_ _ | refine blk_drew ?_ | refine blk_alloc ?_ _)); refine blk_far ?_ NB9_27.out _; (with_reducible repeat (first | refine blk_drewN ?_ _ | refine blk_drew ?_ | refine blk_alloc ?_ _)); refine blk_far ?_ NB9_27.out _; exact bk_) hb); have n7_ := am_ (blk_below (g := gb15) (o := .cells #[.int .i64 t10, .slice Ao28 t11.length co28] 26 (0, 0)) (by (with_reducible repeat (first | refine blk_drewN ?_ _ | refine blk_drew ?_ | refine blk_alloc ?_ _)); refine blk_far ?_ NB15_27.out _; (with_reducible repeat (first | refine blk_drewN ?_ _ | refine blk_drew ?_ | refine blk_alloc ?_ _)); refine blk_far ?_ NB15_27.out _; exact bk_) hb); have n8_ := am_ (blk_below (g := gb21) (o := .cells #[.int .i64 t16, .slice Ao35 t17.length co35] 26 (0, 0)) (by (with_reducible repeat (first | refine blk_drewN ?_ _ | refine blk_drew ?_ | refine blk_alloc ?_ _)); refine blk_far ?_ NB21_27.out _; (with_reducible repeat (first | refine blk_drewN ?_ _ | refine blk_drew ?_ | refine blk_alloc ?_ _)); refine blk_far ?_ NB21_27.out _; exact bk_) hb); have n9_ := am_ (blk_below (g := gb27) (o := .cells #[.int .i64 t22, .slice Ao43 t23.length co43] 26 (0, 0)) (by (with_reducible repeat (first | refine blk_drewN ?_ _ | refine blk_drew ?_ | refine blk_alloc ?_ _)); refine blk_put (cs := #[.int .i64 t22, .slice none 0 0]) ?_ 1 _ rfl; (with_reducible repeat (first | refine blk_drewN ?_ _ | refine blk_drew ?_ | refine blk_alloc ?_ _)); refine blk_put (cs := #[.int .i64 0, .slice none 0 0]) ?_ 0 _ rfl; exact bk_) hb); have n10_ := bs_ hb; clear HO5; clear HO8; clear HO13; clear HO19; clear HO25; clear BK9; clear BK15; clear BK21; clear BK27; clear HB; have HO5 := n0_; have HO8 := n1_; have HO13 := n2_; have HO19 := n3_; have HO25 := n4_; have HO31 := n5_; have BK9 := n6_; have BK15 := n7_; have BK21 := n8_; have BK27 := n9_; have HB := n10_; clear n0_ n1_ n2_ n3_ n4_ n5_ n6_ n7_ n8_ n9_ n10_; (try clear hb); (try clear hb2); (try clear hk); (try clear hi); (try clear ho0)) | ((with_reducible refine gate_dst (N := 11) rfl ?_); (try (refine gate_guard (by rfl) ?_; dsimp only)); refine box_event ?hg (N := 11) ?hd (cs := #[.int .i64 0, .slice none 0 0]) (t := 26) ?hr ?_; (case hd => rfl); (case hg => rfl); (case hr => exact hrr_); intro gb33 hg w46 hbox hb; have n0_ := am_ (Kd.N_below (Kd.N_elderB (nx_ HO5.out) gb33 (Nat.le_of_eq hg.symm)) hb); have n1_ := am_ (Kd.R_below (rx_ HO8.out) hb); have n2_ := am_ (Kd.N_below (Kd.N_elderB (nx_ HO13.out) gb33 (Nat.le_of_eq hg.symm)) hb); have n3_ := am_ (Kd.N_below (Kd.N_elderB (nx_ HO19.out) gb33 (Nat.le_of_eq hg.symm)) hb); have n4_ := am_ (Kd.N_below (Kd.N_elderB (nx_ HO25.out) gb33 (Nat.le_of_eq hg.symm)) hb); have n5_ := am_ (Kd.N_below (Kd.N_elderB (nx_ HO31.out) gb33 (Nat.le_of_eq hg.symm)) hb); have n6_ := bb_ BK9.out hb; have n7_ := bb_ BK15.out hb; have n8_ := bb_ BK21.out hb; have n9_ := bb_ BK27.out hb; have n10_ := bs_ hb; have n11_ := am_ (hbox); have n12_ := ge_ (w := w) hg; have n13_ := ge_ (w := w) hg; have n14_ := nl_ BK9.out hg; have n15_ := nr_ BK9.out hg; have n16_ := nl_ BK15.out hg; have n17_ := nr_ BK15.out hg; have n18_ := nl_ BK21.out hg; have n19_ := nr_ BK21.out hg; have n20_ := nl_ BK27.out hg; have n21_ := nr_ BK27.out hg; clear HO5; clear HO8; clear HO13; clear HO19; clear HO25; clear HO31; clear BK9; clear BK15; clear BK21; clear BK27; clear HB; have HO5 := n0_; have HO8 := n1_; have HO13 := n2_; have HO19 := n3_; have HO25 := n4_; have HO31 := n5_; have BK9 := n6_; have BK15 := n7_; have BK21 := n8_; have BK27 := n9_; have HB := n10_; have BK33 := n11_; have GW33 := n12_; have GE33 := n13_; have NB9_33 := n14_; have NB33_9 := n15_; have NB15_33 := n16_; have NB33_15 := n17_; have NB21_33 := n18_; have NB33_21 := n19_; have NB27_33 := n20_; have NB33_27 := n21_; clear n0_ n1_ n2_ n3_ n4_ n5_ n6_ n7_ n8_ n9_ n10_ n11_ n12_ n13_ n14_ n15_ n16_ n17_ n18_ n19_ n20_ n21_; clear hb hbox hg; have hnb47 := NB33_9.out; have hnc47 := NB9_33.out; have hnb48 := NB33_15.out; have hnc48 := NB15_33.out; have hnb49 := NB33_21.out; have hnc49 := NB21_33.out; have hnb50 := NB33_27.out; have hnc50 := NB27_33.out; obtain ⟨hcz51_0, hcz51_1, hfz51_0, hfz51_1⟩ := bc2_ BK33.out; obtain ⟨Ao52, co52, eo52⟩ := Kd.N_slice HO31.out; subst eo52))
 have n0_ : Aside0 (Kd.N (Kd.slice 50 k50) 46 ((w46.setCell ⟨gb33, 0, none⟩ (.int .i64 t28)).setCell ⟨gb33, 1, none⟩ (.slice Ao52 t29.length co52)) w.heap.size (fun k_ => some k_ ≠ (.slice Ao23 t6.length co23 : Value).ownBlock ∧ some k_ ≠ (.slice Ao28 t11.length co28 : Value).ownBlock ∧ some k_ ≠ (.slice Ao35 t17.length co35 : Value).ownBlock ∧ some k_ ≠ (.slice Ao43 t23.length co43 : Value).ownBlock ∧ some k_ ≠ (.slice Ao52 t29.length co52 : Value).ownBlock ∧ k_ ≠ gb9 ∧ k_ ≠ gb15 ∧ k_ ≠ gb21 ∧ k_ ≠ gb27 ∧ k_ ≠ gb33) (.slice Ao22 t3.length co22) t3) := ⟨by (with_reducible repeat (first | apply Kd.N_alloc | apply Kd.N_drewN | apply Kd.N_drew)); exact Kd.N_mono (Kd.N_far (p := ⟨gb33, 1, none⟩) (Kd.N_far (p := ⟨gb33, 0, none⟩) (Kd.N_mono HO5.out (fun k_ hk => (⟨hk, hk.2⟩ : _ ∧ k_ ≠ gb33))) (fun _ hk => hk.2) (.int .i64 t28)) (fun _ hk => hk.2) (.slice Ao52 t29.length co52)) (fun _ hk => ⟨hk.1.1.1.1.1.1.1.1.1.1, ⟨hk.1.1.1.1.1.1.1.1.2, ⟨hk.1.1.1.1.1.1.2, ⟨hk.1.1.1.1.2, ⟨hk.1.1.2, ⟨hk.1.1.1.1.1.1.1.1.1.2, ⟨hk.1.1.1.1.1.1.1.2, ⟨hk.1.1.1.1.1.2, ⟨hk.1.1.1.2, hk.1.2⟩⟩⟩⟩⟩⟩⟩⟩⟩)⟩
 have n1_ : Aside0 (Kd.R k44 44 ((w46.setCell ⟨gb33, 0, none⟩ (.int .i64 t28)).setCell ⟨gb33, 1, none⟩ (.slice Ao52 t29.length co52)) w.heap.size (fun _ => True) (.slice Ao23 t6.length co23) t6) := ⟨by (with_reducible repeat (first | apply Kd.R_alloc | apply Kd.R_drewN | apply Kd.R_drew)); exact Kd.R_mono (Kd.R_far (p := ⟨gb33, 1, none⟩) (Kd.R_far (p := ⟨gb33, 0, none⟩) (Kd.R_types HO8.out BK33.out (by decide)) (fun _ hk => hk.2) (.int .i64 t28)) (fun _ hk => hk.2) (.slice Ao52 t29.length co52)) (fun _ hk => trivial)⟩
 have n2_ : Aside0 (Kd.N (Kd.slice 50 k50) 46 ((w46.setCell ⟨gb33, 0, none⟩ (.int .i64 t28)).setCell ⟨gb33, 1, none⟩ (.slice Ao52 t29.length co52)) w.heap.size (fun k_ => some k_ ≠ (.slice Ao22 t3.length co22 : Value).ownBlock ∧ some k_ ≠ (.slice Ao23 t6.length co23 : Value).ownBlock ∧ some k_ ≠ (.slice Ao35 t17.length co35 : Value).ownBlock ∧ some k_ ≠ (.slice Ao43 t23.length co43 : Value).ownBlock ∧ some k_ ≠ (.slice Ao52 t29.length co52 : Value).ownBlock ∧ k_ ≠ gb9 ∧ k_ ≠ gb15 ∧ k_ ≠ gb21 ∧ k_ ≠ gb27 ∧ k_ ≠ gb33) (.slice Ao28 t11.length co28) t11) := ⟨by (with_reducible repeat (first | apply Kd.N_alloc | apply Kd.N_drewN | apply Kd.N_drew)); exact Kd.N_mono (Kd.N_far (p := ⟨gb33, 1, none⟩) (Kd.N_far (p := ⟨gb33, 0, none⟩) (Kd.N_mono HO13.out (fun k_ hk => (⟨hk, hk.2⟩ : _ ∧ k_ ≠ gb33))) (fun _ hk => hk.2) (.int .i64 t28)) (fun _ hk => hk.2) (.slice Ao52 t29.length co52)) (fun _ hk => ⟨hk.1.1.1.1.1.1.1.1.1, ⟨hk.1.1.1.1.1.1.1.1.2.1, ⟨hk.1.1.1.1.1.1.2, ⟨hk.1.1.1.1.2, ⟨hk.1.1.2, ⟨hk.1.1.1.1.1.1.1.1.2.2, ⟨hk.1.1.1.1.1.1.1.2, ⟨hk.1.1.1.1.1.2, ⟨hk.1.1.1.2, hk.1.2⟩⟩⟩⟩⟩⟩⟩⟩⟩)⟩
 have n3_ : Aside0 (Kd.N (Kd.slice 50 k50) 46 ((w46.setCell ⟨gb33, 0, none⟩ (.int .i64 t28)).setCell ⟨gb33, 1, none⟩ (.slice Ao52 t29.length co52)) w.heap.size (fun k_ => some k_ ≠ (.slice Ao22 t3.length co22 : Value).ownBlock ∧ some k_ ≠ (.slice Ao23 t6.length co23 : Value).ownBlock ∧ some k_ ≠ (.slice Ao28 t11.length co28 : Value).ownBlock ∧ some k_ ≠ (.slice Ao43 t23.length co43 : Value).ownBlock ∧ some k_ ≠ (.slice Ao52 t29.length co52 : Value).ownBlock ∧ k_ ≠ gb9 ∧ k_ ≠ gb15 ∧ k_ ≠ gb21 ∧ k_ ≠ gb27 ∧ k_ ≠ gb33) (.slice Ao35 t17.length co35) t17) := ⟨by (with_reducible repeat (first | apply Kd.N_alloc | apply Kd.N_drewN | apply Kd.N_drew)); exact Kd.N_mono (Kd.N_far (p := ⟨gb33, 1, none⟩) (Kd.N_far (p := ⟨gb33, 0, none⟩) (Kd.N_mono HO19.out (fun k_ hk => (⟨hk, hk.2⟩ : _ ∧ k_ ≠ gb33))) (fun _ hk => hk.2) (.int .i64 t28)) (fun _ hk => hk.2) (.slice Ao52 t29.length co52)) (fun _ hk => ⟨hk.1.1.1.1.1.1.1, ⟨hk.1.1.1.1.1.1.2.1, ⟨hk.1.1.1.1.1.1.2.2.1, ⟨hk.1.1.1.1.2, ⟨hk.1.1.2, ⟨hk.1.1.1.1.1.1.2.2.2.1, ⟨hk.1.1.1.1.1.1.2.2.2.2, ⟨hk.1.1.1.1.1.2, ⟨hk.1.1.1.2, hk.1.2⟩⟩⟩⟩⟩⟩⟩⟩⟩)⟩
 have n4_ : Aside0 (Kd.N (Kd.slice 50 k50) 46 ((w46.setCell ⟨gb33, 0, none⟩ (.int .i64 t28)).setCell ⟨gb33, 1, none⟩ (.slice Ao52 t29.length co52)) w.heap.size (fun k_ => some k_ ≠ (.slice Ao22 t3.length co22 : Value).ownBlock ∧ some k_ ≠ (.slice Ao23 t6.length co23 : Value).ownBlock ∧ some k_ ≠ (.slice Ao28 t11.length co28 : Value).ownBlock ∧ some k_ ≠ (.slice Ao35 t17.length co35 : Value).ownBlock ∧ some k_ ≠ (.slice Ao52 t29.length co52 : Value).ownBlock ∧ k_ ≠ gb9 ∧ k_ ≠ gb15 ∧ k_ ≠ gb21 ∧ k_ ≠ gb27 ∧ k_ ≠ gb33) (.slice Ao43 t23.length co43) t23) := ⟨by (with_reducible repeat (first | apply Kd.N_alloc | apply Kd.N_drewN | apply Kd.N_drew)); exact Kd.N_mono (Kd.N_far (p := ⟨gb33, 1, none⟩) (Kd.N_far (p := ⟨gb33, 0, none⟩) (Kd.N_mono HO25.out (fun k_ hk => (⟨hk, hk.2⟩ : _ ∧ k_ ≠ gb33))) (fun _ hk => hk.2) (.int .i64 t28)) (fun _ hk => hk.2) (.slice Ao52 t29.length co52)) (fun _ hk => ⟨hk.1.1.1.1.1, ⟨hk.1.1.1.1.2.1, ⟨hk.1.1.1.1.2.2.1, ⟨hk.1.1.1.1.2.2.2.1, ⟨hk.1.1.2, ⟨hk.1.1.1.1.2.2.2.2.1, ⟨hk.1.1.1.1.2.2.2.2.2.1, ⟨hk.1.1.1.1.2.2.2.2.2.2, ⟨hk.1.1.1.2, hk.1.2⟩⟩⟩⟩⟩⟩⟩⟩⟩)⟩
 have n5_ : Aside0 (Kd.N (Kd.slice 50 k50) 46 ((w46.setCell ⟨gb33, 0, none⟩ (.int .i64 t28)).setCell ⟨gb33, 1, none⟩ (.slice Ao52 t29.length co52)) w.heap.size (fun k_ => some k_ ≠ (.slice Ao22 t3.length co22 : Value).ownBlock ∧ some k_ ≠ (.slice Ao23 t6.length co23 : Value).ownBlock ∧ some k_ ≠ (.slice Ao28 t11.length co28 : Value).ownBlock ∧ some k_ ≠ (.slice Ao35 t17.length co35 : Value).ownBlock ∧ some k_ ≠ (.slice Ao43 t23.length co43 : Value).ownBlock ∧ k_ ≠ gb9 ∧ k_ ≠ gb15 ∧ k_ ≠ gb21 ∧ k_ ≠ gb27 ∧ k_ ≠ gb33) (.slice Ao52 t29.length co52) t29) := ⟨by (with_reducible repeat (first | apply Kd.N_alloc | apply Kd.N_drewN | apply Kd.N_drew)); exact Kd.N_mono (Kd.N_far (p := ⟨gb33, 1, none⟩) (Kd.N_far (p := ⟨gb33, 0, none⟩) (Kd.N_mono HO31.out (fun k_ hk => (⟨hk, hk.2⟩ : _ ∧ k_ ≠ gb33))) (fun _ hk => hk.2) (.int .i64 t28)) (fun _ hk => hk.2) (.slice Ao52 t29.length co52)) (fun _ hk => ⟨hk.1.1.1, ⟨hk.1.1.2.1, ⟨hk.1.1.2.2.1, ⟨hk.1.1.2.2.2.1, ⟨hk.1.1.2.2.2.2.1, ⟨hk.1.1.2.2.2.2.2.1, ⟨hk.1.1.2.2.2.2.2.2.1, ⟨hk.1.1.2.2.2.2.2.2.2.1, ⟨hk.1.1.2.2.2.2.2.2.2.2, hk.1.2⟩⟩⟩⟩⟩⟩⟩⟩⟩)⟩
 have n6_ : Aside0 (((w46.setCell ⟨gb33, 0, none⟩ (.int .i64 t28)).setCell ⟨gb33, 1, none⟩ (.slice Ao52 t29.length co52)).heap[gb9]? = some (.cells #[.int .i64 t2, .slice Ao22 t3.length co22] 26 (0, 0))) := ⟨by (with_reducible repeat (first | refine blk_drewN ?_ _ | refine blk_drew ?_ | refine blk_alloc ?_ _)); refine blk_far ?_ NB9_33.out _; (with_reducible repeat (first | refine blk_drewN ?_ _ | refine blk_drew ?_ | refine blk_alloc ?_ _)); refine blk_far ?_ NB9_33.out _; exact bk_⟩
 have n7_ : Aside0 (((w46.setCell ⟨gb33, 0, none⟩ (.int .i64 t28)).setCell ⟨gb33, 1, none⟩ (.slice Ao52 t29.length co52)).heap[gb15]? = some (.cells #[.int .i64 t10, .slice Ao28 t11.length co28] 26 (0, 0))) := ⟨by (with_reducible repeat (first | refine blk_drewN ?_ _ | refine blk_drew ?_ | refine blk_alloc ?_ _)); refine blk_far ?_ NB15_33.out _; (with_reducible repeat (first | refine blk_drewN ?_ _ | refine blk_drew ?_ | refine blk_alloc ?_ _)); refine blk_far ?_ NB15_33.out _; exact bk_⟩
 have n8_ : Aside0 (((w46.setCell ⟨gb33, 0, none⟩ (.int .i64 t28)).setCell ⟨gb33, 1, none⟩ (.slice Ao52 t29.length co52)).heap[gb21]? = some (.cells #[.int .i64 t16, .slice Ao35 t17.length co35] 26 (0, 0))) := ⟨by (with_reducible repeat (first | refine blk_drewN ?_ _ | refine blk_drew ?_ | refine blk_alloc ?_ _)); refine blk_far ?_ NB21_33.out _; (with_reducible repeat (first | refine blk_drewN ?_ _ | refine blk_drew ?_ | refine blk_alloc ?_ _)); refine blk_far ?_ NB21_33.out _; exact bk_⟩
 have n9_ : Aside0 (((w46.setCell ⟨gb33, 0, none⟩ (.int .i64 t28)).setCell ⟨gb33, 1, none⟩ (.slice Ao52 t29.length co52)).heap[gb27]? = some (.cells #[.int .i64 t22, .slice Ao43 t23.length co43] 26 (0, 0))) := ⟨by (with_reducible repeat (first | refine blk_drewN ?_ _ | refine blk_drew ?_ | refine blk_alloc ?_ _)); refine blk_far ?_ NB27_33.out _; (with_reducible repeat (first | refine blk_drewN ?_ _ | refine blk_drew ?_ | refine blk_alloc ?_ _)); refine blk_far ?_ NB27_33.out _; exact bk_⟩
 have n10_ : Aside0 (((w46.setCell ⟨gb33, 0, none⟩ (.int .i64 t28)).setCell ⟨gb33, 1, none⟩ (.slice Ao52 t29.length co52)).heap[gb33]? = some (.cells #[.int .i64 t28, .slice Ao52 t29.length co52] 26 (0, 0))) := ⟨by (with_reducible repeat (first | refine blk_drewN ?_ _ | refine blk_drew ?_ | refine blk_alloc ?_ _)); refine blk_put (cs := #[.int .i64 t28, .slice none 0 0]) ?_ 1 _ rfl; (with_reducible repeat (first | refine blk_drewN ?_ _ | refine blk_drew ?_ | refine blk_alloc ?_ _)); refine blk_put (cs := #[.int .i64 0, .slice none 0 0]) ?_ 0 _ rfl; exact bk_⟩
 have n11_ : Aside0 (Below w.heap.size w ((w46.setCell ⟨gb33, 0, none⟩ (.int .i64 t28)).setCell ⟨gb33, 1, none⟩ (.slice Ao52 t29.length co52))) := ⟨bw_⟩
 (try clear HO5)
 (try clear HO8)
 (try clear HO13)
 (try clear HO19)
 (try clear HO25)
 (try clear HO31)
 (try clear BK9)
 (try clear BK15)
 (try clear BK21)
 (try clear BK27)
 (try clear BK33)
 (try clear HB)
 generalize ((w46.setCell ⟨gb33, 0, none⟩ (.int .i64 t28)).setCell ⟨gb33, 1, none⟩ (.slice Ao52 t29.length co52)) = w53 at n0_ n1_ n2_ n3_ n4_ n5_ n6_ n7_ n8_ n9_ n10_ n11_ ⊢
 have HO5 := n0_
 have HO8 := n1_
 have HO13 := n2_
 have HO19 := n3_
 have HO25 := n4_
 have HO31 := n5_
 have BK9 := n6_
 have BK15 := n7_
 have BK21 := n8_
 have BK27 := n9_
 have BK33 := n10_
 have HB := n11_
 clear n0_ n1_ n2_ n3_ n4_ n5_ n6_ n7_ n8_ n9_ n10_ n11_
 have n0_ := am_ (Kd.N_drew HO5.out)
 have n1_ := am_ (Kd.R_drew HO8.out)
 have n2_ := am_ (Kd.N_drew HO13.out)
 have n3_ := am_ (Kd.N_drew HO19.out)
 have n4_ := am_ (Kd.N_drew HO25.out)
 have n5_ := am_ (Kd.N_drew HO31.out)
 have n6_ := am_ (blk_drew BK9.out)
 have n7_ := am_ (blk_drew BK15.out)
 have n8_ := am_ (blk_drew BK21.out)
 have n9_ := am_ (blk_drew BK27.out)
 have n10_ := am_ (blk_drew BK33.out)
 have n11_ := am_ (below_drew1 HB.out)
 clear HO5
 clear HO8
 clear HO13
 clear HO19
 clear HO25
 clear HO31
 clear BK9
 clear BK15
 clear BK21
 clear BK27
 clear BK33
 clear HB
 have HO5 := n0_
 have HO8 := n1_
 have HO13 := n2_
 have HO19 := n3_
 have HO25 := n4_
 have HO31 := n5_
 have BK9 := n6_
 have BK15 := n7_
 have BK21 := n8_
 have BK27 := n9_
 have BK33 := n10_
 have HB := n11_
 clear n0_ n1_ n2_ n3_ n4_ n5_ n6_ n7_ n8_ n9_ n10_ n11_
 refine start_ (n := 28) (S := fun w' => w'.cell? ⟨gb21, 0, none⟩ = some (.int .i64 t16) ∧ w'.cell? ⟨gb21, 1, none⟩ = some (.slice Ao35 t17.length co35) ∧ w'.cell? ⟨gb15, 0, none⟩ = some (.int .i64 t10) ∧ w'.cell? ⟨gb15, 1, none⟩ = some (.slice Ao28 t11.length co28) ∧ w'.cell? ⟨gb27, 0, none⟩ = some (.int .i64 t22) ∧ w'.cell? ⟨gb27, 1, none⟩ = some (.slice Ao43 t23.length co43) ∧ w'.cell? ⟨gb33, 0, none⟩ = some (.int .i64 t28) ∧ w'.cell? ⟨gb33, 1, none⟩ = some (.slice Ao52 t29.length co52) ∧ w'.cell? ⟨gb9, 0, none⟩ = some (.int .i64 t2) ∧ w'.cell? ⟨gb9, 1, none⟩ = some (.slice Ao22 t3.length co22)) (ds := []) (bm_ 28 0) kr_ rfl rfl ⟨(blk_cell BK21.out 0).trans rfl, (blk_cell BK21.out 1).trans rfl, (blk_cell BK15.out 0).trans rfl, (blk_cell BK15.out 1).trans rfl, (blk_cell BK27.out 0).trans rfl, (blk_cell BK27.out 1).trans rfl, (blk_cell BK33.out 0).trans rfl, (blk_cell BK33.out 1).trans rfl, (blk_cell BK9.out 0).trans rfl, (blk_cell BK9.out 1).trans rfl⟩ (fun hHeld => ?_); refine with_tabW laws_FnStripped.tab10 laws_FnStripped.bits10 (fun HT_ HW_ => ?_)
 generalize w53.drew = w54 at HO5 HO8 HO13 HO19 HO25 HO31 BK9 BK15 BK21 BK27 BK33 HB hHeld ⊢
 refine pure_ (i := 0) (N := some 44) (bm_ 28 1) rfl rfl (any_of HT_.out kr_) (fun _ _ _ h => h) (Or.inl ⟨rfl, yi_⟩) pu_ ?_
 refine pure_ (i := 1) (N := some 45) (bm_ 28 3) rfl rfl (any_of HT_.out kr_) (fun _ _ _ h => h) (Or.inl ⟨rfl, yi_⟩) pu_ ?_
 refine pure_ (i := 2) (N := some 46) (bm_ 28 7) rfl rfl (any_of HT_.out kr_) (fun _ _ _ h => h) (Or.inl ⟨rfl, yi_⟩) pu_ ?_
 refine pure_ (i := 3) (N := some 47) (bm_ 28 15) rfl rfl (any_of HT_.out kr_) (fun _ _ _ h => h) (Or.inl ⟨rfl, yi_⟩) pu_ ?_
 refine pure_ (i := 4) (N := some 48) (bm_ 28 31) rfl rfl (any_of HT_.out kr_) (fun _ _ _ h => h) (Or.inl ⟨rfl, yi_⟩) pu_ ?_
 refine pure_ (i := 5) (N := some 49) (bm_ 28 63) rfl rfl (any_of HT_.out kr_) (fun _ _ _ h => h) (Or.inl ⟨rfl, yi_⟩) pu_ ?_
 refine pure_ (i := 6) (N := some 50) (bm_ 28 127) rfl rfl (any_of HT_.out kr_) (fun _ _ _ h => h) (Or.inl ⟨rfl, yi_⟩) pu_ ?_
 refine pure_ (i := 7) (N := some 51) (bm_ 28 255) rfl rfl (any_of HT_.out kr_) (fun _ _ _ h => h) (Or.inl ⟨rfl, yi_⟩) pu_ ?_
 refine take_ (i := 8) (N := some 52) (v := ?_) (a' := ?_) (bm_ 28 511) rfl rfl (take_ofW HT_.out HW_.out kr_) (fun _ _ _ h => h) (Or.inl ⟨by rfl, ?_⟩) hHeld ?_ ?_
 rotate_left
 ·rintro w' ⟨s0, s1, s2, s3, s4, s5, s6, s7, s8, s9⟩
  go_simp
  with_reducible rfl
 rotate_left
 ·exact pu_
 refine take_ (i := 9) (N := some 53) (v := ?_) (a' := ?_) (bm_ 28 1023) rfl rfl (take_ofW HT_.out HW_.out kr_) (fun _ _ _ h => h) (Or.inl ⟨by rfl, ?_⟩) hHeld ?_ ?_
 rotate_left
 ·rintro w' ⟨s0, s1, s2, s3, s4, s5, s6, s7, s8, s9⟩
  go_simp
  with_reducible rfl
 rotate_left
 ·exact pu_
 refine one_ (i := 10) (N := some 54) (bm_ 28 2047) rfl rfl (one_of HT_.out kr_) (by decide) (fun K hK => ?_)
 refine goes_ Try.func9 kr_ rfl #[.agg #[.int .i64 t16, .slice Ao35 t17.length co35], .agg #[.int .i64 t10, .slice Ao28 t11.length co28]] (by rfl) rfl rfl ar_ ?_
 with_reducible refine (laws_sameProg.calls k t16 _ _ t17 t10 _ _ t11 true _ ?side1 ?side2 ?side3 ?side4 A13.out).mono ?_
 (case side1 => repeat (first | exact (Kd.N_reads' HO19.out).2.2 | (with_reducible refine Kd.C_alloc ?_ _) | (with_reducible refine Kd.C_drewN ?_ _) | (with_reducible refine Kd.C_drew ?_)))
 (case side2 => exact (Kd.N_reads' HO19.out).2.1)
 (case side3 => repeat (first | exact (Kd.N_reads' HO13.out).2.2 | (with_reducible refine Kd.C_alloc ?_ _) | (with_reducible refine Kd.C_drewN ?_ _) | (with_reducible refine Kd.C_drew ?_)))
 (case side4 => exact (Kd.N_reads' HO13.out).2.1)
 rintro e w55 ⟨rfl, hb⟩
 refine ⟨_, rfl, ?_⟩
 have n0_ := am_ (Kd.N_below (nx_ HO5.out) hb)
 have n1_ := am_ (Kd.R_below (rx_ HO8.out) hb)
 have n2_ := am_ (Kd.N_below (nx_ HO13.out) hb)
 have n3_ := am_ (Kd.N_below (nx_ HO19.out) hb)
 have n4_ := am_ (Kd.N_below (nx_ HO25.out) hb)
 have n5_ := am_ (Kd.N_below (nx_ HO31.out) hb)
 have n6_ := bb_ BK9.out hb
 have n7_ := bb_ BK15.out hb
 have n8_ := bb_ BK21.out hb
 have n9_ := bb_ BK27.out hb
 have n10_ := bb_ BK33.out hb
 have n11_ := bs_ hb
 clear HO5
 clear HO8
 clear HO13
 clear HO19
 clear HO25
 clear HO31
 clear BK9
 clear BK15
 clear BK21
 clear BK27
 clear BK33
 clear HB
 have HO5 := n0_
 have HO8 := n1_
 have HO13 := n2_
 have HO19 := n3_
 have HO25 := n4_
 have HO31 := n5_
 have BK9 := n6_
 have BK15 := n7_
 have BK21 := n8_
 have BK27 := n9_
 have BK33 := n10_
 have HB := n11_
 clear n0_ n1_ n2_ n3_ n4_ n5_ n6_ n7_ n8_ n9_ n10_ n11_
 (try clear hb)
 (try clear hb2)
 (try clear hk)
 (try clear hi)
 refine hK.out _ _ ⟨(blk_cell BK21.out 0).trans rfl, (blk_cell BK21.out 1).trans rfl, (blk_cell BK15.out 0).trans rfl, (blk_cell BK15.out 1).trans rfl, (blk_cell BK27.out 0).trans rfl, (blk_cell BK27.out 1).trans rfl, (blk_cell BK33.out 0).trans rfl, (blk_cell BK33.out 1).trans rfl, (blk_cell BK9.out 0).trans rfl, (blk_cell BK9.out 1).trans rfl⟩ (fun hHeld => ?_)
 clear hK K
 refine norm_ (a' := ?_) ?_ ?_
 rotate_left
 ·show Act.put _ (some 54) _ = _
  simp only [Act.put, List.setIfInBounds_toArray, List.set_cons_zero, List.set_cons_succ, i64_w, i32_w]
  rfl
 refine pure_ (i := 11) (N := some 55) (bm_ 28 4095) rfl rfl (any_of HT_.out kr_) (fun _ _ _ h => h) (Or.inl ⟨rfl, yi_⟩) pu_ ?_
 refine pure_ (i := 12) (N := some 56) (bm_ 28 8191) rfl rfl (any_of HT_.out kr_) (fun _ _ _ h => h) (Or.inl ⟨rfl, yi_⟩) pu_ ?_
 refine take_ (i := 13) (N := some 57) (v := ?_) (a' := ?_) (bm_ 28 16383) rfl rfl (take_ofW HT_.out HW_.out kr_) (fun _ _ _ h => h) (Or.inl ⟨by rfl, ?_⟩) hHeld ?_ ?_
 rotate_left
 ·rintro w' ⟨s0, s1, s2, s3, s4, s5, s6, s7, s8, s9⟩
  go_simp
  with_reducible rfl
 rotate_left
 ·exact pu_
 refine take_ (i := 14) (N := some 58) (v := ?_) (a' := ?_) (bm_ 28 32767) rfl rfl (take_ofW HT_.out HW_.out kr_) (fun _ _ _ h => h) (Or.inl ⟨by rfl, ?_⟩) hHeld ?_ ?_
 rotate_left
 ·rintro w' ⟨s0, s1, s2, s3, s4, s5, s6, s7, s8, s9⟩
  go_simp
  with_reducible rfl
 rotate_left
 ·exact pu_
 refine one_ (i := 15) (N := some 59) (bm_ 28 65535) rfl rfl (one_of HT_.out kr_) (by decide) (fun K hK => ?_)
 refine goes_ Try.func9 kr_ rfl #[.agg #[.int .i64 t22, .slice Ao43 t23.length co43], .agg #[.int .i64 t28, .slice Ao52 t29.length co52]] (by rfl) rfl rfl ar_ ?_
 with_reducible refine (laws_sameProg.calls k t22 _ _ t23 t28 _ _ t29 true _ ?side1 ?side2 ?side3 ?side4 A15.out).mono ?_
 (case side1 => repeat (first | exact (Kd.N_reads' HO25.out).2.2 | (with_reducible refine Kd.C_alloc ?_ _) | (with_reducible refine Kd.C_drewN ?_ _) | (with_reducible refine Kd.C_drew ?_)))
 (case side2 => exact (Kd.N_reads' HO25.out).2.1)
 (case side3 => repeat (first | exact (Kd.N_reads' HO31.out).2.2 | (with_reducible refine Kd.C_alloc ?_ _) | (with_reducible refine Kd.C_drewN ?_ _) | (with_reducible refine Kd.C_drew ?_)))
 (case side4 => exact (Kd.N_reads' HO31.out).2.1)
 rintro e w56 ⟨rfl, hb⟩
 refine ⟨_, rfl, ?_⟩
 have n0_ := am_ (Kd.N_below (nx_ HO5.out) hb)
 have n1_ := am_ (Kd.R_below (rx_ HO8.out) hb)
 have n2_ := am_ (Kd.N_below (nx_ HO13.out) hb)
 have n3_ := am_ (Kd.N_below (nx_ HO19.out) hb)
 have n4_ := am_ (Kd.N_below (nx_ HO25.out) hb)
 have n5_ := am_ (Kd.N_below (nx_ HO31.out) hb)
 have n6_ := bb_ BK9.out hb
 have n7_ := bb_ BK15.out hb
 have n8_ := bb_ BK21.out hb
 have n9_ := bb_ BK27.out hb
 have n10_ := bb_ BK33.out hb
 have n11_ := bs_ hb
 clear HO5
 clear HO8
 clear HO13
 clear HO19
 clear HO25
 clear HO31
 clear BK9
 clear BK15
 clear BK21
 clear BK27
 clear BK33
 clear HB
 have HO5 := n0_
 have HO8 := n1_
 have HO13 := n2_
 have HO19 := n3_
 have HO25 := n4_
 have HO31 := n5_
 have BK9 := n6_
 have BK15 := n7_
 have BK21 := n8_
 have BK27 := n9_
 have BK33 := n10_
 have HB := n11_
 clear n0_ n1_ n2_ n3_ n4_ n5_ n6_ n7_ n8_ n9_ n10_ n11_
 (try clear hb)
 (try clear hb2)
 (try clear hk)
 (try clear hi)
 refine hK.out _ _ ⟨(blk_cell BK21.out 0).trans rfl, (blk_cell BK21.out 1).trans rfl, (blk_cell BK15.out 0).trans rfl, (blk_cell BK15.out 1).trans rfl, (blk_cell BK27.out 0).trans rfl, (blk_cell BK27.out 1).trans rfl, (blk_cell BK33.out 0).trans rfl, (blk_cell BK33.out 1).trans rfl, (blk_cell BK9.out 0).trans rfl, (blk_cell BK9.out 1).trans rfl⟩ (fun hHeld => ?_)
 clear hK K
 refine norm_ (a' := ?_) ?_ ?_
 rotate_left
 ·show Act.put _ (some 59) _ = _
  simp only [Act.put, List.setIfInBounds_toArray, List.set_cons_zero, List.set_cons_succ, i64_w, i32_w]
  rfl
 refine pure_ (i := 16) (N := some 60) (bm_ 28 131071) rfl rfl (any_of HT_.out kr_) (fun _ _ _ h => h) (Or.inl ⟨rfl, yi_⟩) pu_ ?_
 refine pure_ (i := 17) (N := some 61) (bm_ 28 262143) rfl rfl (any_of HT_.out kr_) (fun _ _ _ h => h) (Or.inl ⟨rfl, yi_⟩) pu_ ?_
 refine pure_ (i := 22) (N := some 66) (bm_ 28 4456447) rfl rfl (any_of HT_.out kr_) (fun _ _ _ h => h) (Or.inl ⟨rfl, yi_⟩) pu_ ?_
 refine pure_ (i := 23) (N := some 67) (bm_ 28 12845055) rfl rfl (any_of HT_.out kr_) (fun _ _ _ h => h) (Or.inl ⟨rfl, yi_⟩) pu_ ?_
 refine take_ (i := 18) (N := some 62) (v := ?_) (a' := ?_) (bm_ 28 13107199) rfl rfl (take_ofW HT_.out HW_.out kr_) (fun _ _ _ h => h) (Or.inl ⟨by rfl, ?_⟩) hHeld ?_ ?_
 rotate_left
 ·rintro w' ⟨s0, s1, s2, s3, s4, s5, s6, s7, s8, s9⟩
  go_simp
  with_reducible rfl
 rotate_left
 ·exact pu_
 refine take_ (i := 20) (N := some 64) (v := ?_) (a' := ?_) (bm_ 28 14155775) rfl rfl (take_ofW HT_.out HW_.out kr_) (fun _ _ _ h => h) (Or.inl ⟨by rfl, ?_⟩) hHeld ?_ ?_
 rotate_left
 ·rintro w' ⟨s0, s1, s2, s3, s4, s5, s6, s7, s8, s9⟩
  go_simp
  with_reducible rfl
 rotate_left
 ·exact pu_
 refine one_ (i := 19) (N := some 63) (bm_ 28 14680063) rfl rfl (one_of HT_.out kr_) (by decide) (fun K hK => ?_)
 refine goes_ Try.func10 kr_ rfl #[.agg #[.int .i64 t16, .slice Ao35 t17.length co35]] (by rfl) rfl rfl ar_ ?_
 with_reducible refine (impl_FenceCost.calls k t16 _ _ t17 t36 _ ?side1 ?side2 A17.out).mono ?_
 (case side1 => repeat (first | exact (Kd.N_reads' HO19.out).2.2 | (with_reducible refine Kd.C_alloc ?_ _) | (with_reducible refine Kd.C_drewN ?_ _) | (with_reducible refine Kd.C_drew ?_)))
 (case side2 => exact (Kd.N_reads' HO19.out).2.1)
 rintro e w57 ⟨rfl, hb⟩
 refine ⟨_, rfl, ?_⟩
 have n0_ := am_ (Kd.N_below (nx_ HO5.out) hb)
 have n1_ := am_ (Kd.R_below (rx_ HO8.out) hb)
 have n2_ := am_ (Kd.N_below (nx_ HO13.out) hb)
 have n3_ := am_ (Kd.N_below (nx_ HO19.out) hb)
 have n4_ := am_ (Kd.N_below (nx_ HO25.out) hb)
 have n5_ := am_ (Kd.N_below (nx_ HO31.out) hb)
 have n6_ := bb_ BK9.out hb
 have n7_ := bb_ BK15.out hb
 have n8_ := bb_ BK21.out hb
 have n9_ := bb_ BK27.out hb
 have n10_ := bb_ BK33.out hb
 have n11_ := bs_ hb
 clear HO5
 clear HO8
 clear HO13
 clear HO19
 clear HO25
 clear HO31
 clear BK9
 clear BK15
 clear BK21
 clear BK27
 clear BK33
 clear HB
 have HO5 := n0_
 have HO8 := n1_
 have HO13 := n2_
 have HO19 := n3_
 have HO25 := n4_
 have HO31 := n5_
 have BK9 := n6_
 have BK15 := n7_
 have BK21 := n8_
 have BK27 := n9_
 have BK33 := n10_
 have HB := n11_
 clear n0_ n1_ n2_ n3_ n4_ n5_ n6_ n7_ n8_ n9_ n10_ n11_
 (try clear hb)
 (try clear hb2)
 (try clear hk)
 (try clear hi)
 refine hK.out _ _ ⟨(blk_cell BK21.out 0).trans rfl, (blk_cell BK21.out 1).trans rfl, (blk_cell BK15.out 0).trans rfl, (blk_cell BK15.out 1).trans rfl, (blk_cell BK27.out 0).trans rfl, (blk_cell BK27.out 1).trans rfl, (blk_cell BK33.out 0).trans rfl, (blk_cell BK33.out 1).trans rfl, (blk_cell BK9.out 0).trans rfl, (blk_cell BK9.out 1).trans rfl⟩ (fun hHeld => ?_)
 clear hK K
 refine norm_ (a' := ?_) ?_ ?_
 rotate_left
 ·show Act.put _ (some 63) _ = _
  simp only [Act.put, List.setIfInBounds_toArray, List.set_cons_zero, List.set_cons_succ, i64_w, i32_w]
  rfl
 refine one_ (i := 21) (N := some 65) (bm_ 28 16777215) rfl rfl (one_of HT_.out kr_) (by decide) (fun K hK => ?_)
 refine goes_ Try.func10 kr_ rfl #[.agg #[.int .i64 t2, .slice Ao22 t3.length co22]] (by rfl) rfl rfl ar_ ?_
 with_reducible refine (impl_FenceCost.calls k t2 _ _ t3 t37 _ ?side1 ?side2 A18.out).mono ?_
 (case side1 => repeat (first | exact (Kd.N_reads' HO5.out).2.2 | (with_reducible refine Kd.C_alloc ?_ _) | (with_reducible refine Kd.C_drewN ?_ _) | (with_reducible refine Kd.C_drew ?_)))
 (case side2 => exact (Kd.N_reads' HO5.out).2.1)
 rintro e w58 ⟨rfl, hb⟩
 refine ⟨_, rfl, ?_⟩
 have n0_ := am_ (Kd.N_below (nx_ HO5.out) hb)
 have n1_ := am_ (Kd.R_below (rx_ HO8.out) hb)
 have n2_ := am_ (Kd.N_below (nx_ HO13.out) hb)
 have n3_ := am_ (Kd.N_below (nx_ HO19.out) hb)
 have n4_ := am_ (Kd.N_below (nx_ HO25.out) hb)
 have n5_ := am_ (Kd.N_below (nx_ HO31.out) hb)
 have n6_ := bb_ BK9.out hb
 have n7_ := bb_ BK15.out hb
 have n8_ := bb_ BK21.out hb
 have n9_ := bb_ BK27.out hb
 have n10_ := bb_ BK33.out hb
 have n11_ := bs_ hb
 clear HO5
 clear HO8
 clear HO13
 clear HO19
 clear HO25
 clear HO31
 clear BK9
 clear BK15
 clear BK21
 clear BK27
 clear BK33
 clear HB
 have HO5 := n0_
 have HO8 := n1_
 have HO13 := n2_
 have HO19 := n3_
 have HO25 := n4_
 have HO31 := n5_
 have BK9 := n6_
 have BK15 := n7_
 have BK21 := n8_
 have BK27 := n9_
 have BK33 := n10_
 have HB := n11_
 clear n0_ n1_ n2_ n3_ n4_ n5_ n6_ n7_ n8_ n9_ n10_ n11_
 (try clear hb)
 (try clear hb2)
 (try clear hk)
 (try clear hi)
 refine hK.out _ _ ⟨(blk_cell BK21.out 0).trans rfl, (blk_cell BK21.out 1).trans rfl, (blk_cell BK15.out 0).trans rfl, (blk_cell BK15.out 1).trans rfl, (blk_cell BK27.out 0).trans rfl, (blk_cell BK27.out 1).trans rfl, (blk_cell BK33.out 0).trans rfl, (blk_cell BK33.out 1).trans rfl, (blk_cell BK9.out 0).trans rfl, (blk_cell BK9.out 1).trans rfl⟩ (fun hHeld => ?_)
 clear hK K
 refine norm_ (a' := ?_) ?_ ?_
 rotate_left
 ·show Act.put _ (some 65) _ = _
  simp only [Act.put, List.setIfInBounds_toArray, List.set_cons_zero, List.set_cons_succ, i64_w, i32_w]
  rfl
 refine pure_ (i := 24) (N := some 68) (bm_ 28 33554431) rfl rfl (any_of HT_.out kr_) (fun _ _ _ h => h) (Or.inl ⟨rfl, yi_⟩) pu_ ?_
 refine pure_ (i := 25) (N := some 69) (bm_ 28 67108863) rfl rfl (any_of HT_.out kr_) (fun _ _ _ h => h) (Or.inl ⟨rfl, yi_⟩) pu_ ?_
 refine pure_ (i := 26) (N := some 70) (bm_ 28 134217727) rfl rfl (any_of HT_.out kr_) (fun _ _ _ h => h) (Or.inl ⟨rfl, yi_⟩) pu_ ?_
 refine pure_ (i := 27) (N := some 2) (bm_ 28 268435455) rfl rfl (any_of HT_.out kr_) (fun _ _ _ h => h) (Or.inl ⟨rfl, yi_⟩) pu_ ?_
 refine done_ (done_of HT_.out kr_) ?_
 try go_wp2
 go_ret
 exact ⟨rr_, bw_⟩


end Go.Proofs.Ytbgclnjnngolmaa.P
