/- What the text functions ask of the world: the table of powers of ten reads as Go's text lays it; where texts are parsed, too: MaxLen holds some number, the two errors of strconv are there. No condition but these. -/
import Derived.Test.YtbgclnjnngolmaaDoorK
import Derived.Lib.LaidTab
import Derived.Lib.ItoaNum
import Derived.Lib.SmallJoins
namespace Go.Proofs.YtbgclnjnngolmaaDoor.P
open Go Go.RowKit

/-- The tables (and, where full is true, the variables that parsing reads) are there. -/
def EnvOk (full : Bool) (W : World) : Prop :=
  Go.Lib.TabIs Tryd.prog W "internal/strconv.uint64pow10" .u64 Go.Lib.pow10Tab ∧
  (full = true → (∃ m, W.cell? ⟨0, 0, none⟩ = some (.int .i64 m)) ∧
    (∃ tp p, W.var? Tryd.prog "strconv.ErrSyntax" = some #[.iface tp p]) ∧ (∃ tp p, W.var? Tryd.prog "strconv.ErrRange" = some #[.iface tp p]))
theorem EnvOk.weak {W : World} {b : Bool} (h : EnvOk b W) : EnvOk false W := ⟨h.1, fun h => by cases h⟩
theorem EnvOk.now {W W' : World} {b : Bool} (h : EnvOk b W) (hb : Below W.heap.size W W') : EnvOk b W' := by
  refine ⟨Go.Joins.var_stays (show Tryd.prog.globalNamed "internal/strconv.uint64pow10" = some 3 by kernel_rfl) h.1 hb (Nat.le_refl _), fun hf => ?_⟩
  obtain ⟨⟨m, hm⟩, ⟨t1, p1, h1⟩, ⟨t2, p2, h2⟩⟩ := h.2 hf
  exact ⟨⟨m, (hb.cell (World.block_lt_of_cell? _ _ hm)).trans hm⟩, ⟨t1, p1, Go.Joins.var_stays (show Tryd.prog.globalNamed "strconv.ErrSyntax" = some 1 by kernel_rfl) h1 hb (Nat.le_refl _)⟩,
    ⟨t2, p2, Go.Joins.var_stays (show Tryd.prog.globalNamed "strconv.ErrRange" = some 2 by kernel_rfl) h2 hb (Nat.le_refl _)⟩⟩
/-- At a call: as it was when the function began. -/
theorem ee_ {p_ : Prop} (h_ : p_ := by first | exact EnvOk.now HE_.out bw_ | exact EnvOk.now (EnvOk.weak HE_.out) bw_) : p_ := h_

end Go.Proofs.YtbgclnjnngolmaaDoor.P
