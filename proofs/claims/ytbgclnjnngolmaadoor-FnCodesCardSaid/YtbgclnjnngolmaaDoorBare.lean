/- The closure of WithFences, which asks isBareStore of the code that it captured. -/
import Derived.Test.YtbgclnjnngolmaaDoorPimplisBareStore
import Derived.Shelf.Abstract
namespace Go.Proofs.YtbgclnjnngolmaaDoor.P
open Go.RowKit Go.Proofs.YtbgclnjnngolmaaDoorW.PrintWords
theorem bareFn (gq_ : Nat) (A0 : Option Addr) (c0 : Nat) (l0 : List S37) (a1 : Int) (r : Bool) (w : World) (hg : w.heap[gq_]? = some (.cells #[.slice A0 l0.length c0] 31 (0, 0))) (hr0 : Kd.C k37 w A0 l0.length l0) (hc0 : l0.length ≤ c0) (h : impl_isBareStore.f l0 a1 = some r) :
    Calls Tryd.prog 25 #[.int .i64 a1, .pointer (some ⟨gq_, 0, none⟩)] w fun e w' => e = .returned (.bool r) ∧ Drawn0 w w' := by
  have HR0 := Aside0.mk hr0
  have HC0 := Aside0.mk hc0
  have H := Aside0.mk h
  have hb0 := (blk_cell hg 0).trans rfl
  clear hr0 hc0 h hg
  go_enter Tryd.func25, Tryd.ntmps25
  go_wp2_with (go_at_call 26; refine (impl_isBareStore.calls A0 c0 l0 a1 r _ HR0.out HC0.out H.out).mono ?_; rintro e w' ⟨rfl, ⟨nd, rfl⟩⟩)
  go_ret
  exact ⟨rfl, ⟨nd, rfl⟩⟩

end Go.Proofs.YtbgclnjnngolmaaDoor.P
