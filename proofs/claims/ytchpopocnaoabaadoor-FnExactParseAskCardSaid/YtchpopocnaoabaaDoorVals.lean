/- Values: the program's and the reference's test. No condition. -/
import Derived.Test.YtchpopocnaoabaaDoorScal
import Derived.Test.YtchpopocnaoabaaDoorPspecl01Value
import Derived.Test.YtchpopocnaoabaaDoorPimplisValue
namespace Go.Proofs.YtchpopocnaoabaaDoor.Pure
open Go.RowKit Go.Proofs.YtchpopocnaoabaaDoor.P Go.Proofs.YtchpopocnaoabaaDoor.Gen Go.Proofs.YtchpopocnaoabaaDoorW.PrintWords

theorem l01Value (v : Int) : spec_l01Value.f v = some (valB v) := by
  unfold spec_l01Value.f valB
  rw [l01In]
  rfl
theorem isValue (v : Int) : impl_isValue.f v = some (valB v) := by
  unfold impl_isValue.f valB
  rw [within]
  rfl

theorem valB_range {x : Int} (h : valB x = true) : -1000000 ≤ x ∧ x ≤ 1000000 := by
  unfold valB at h
  exact inB_true.1 h

end Go.Proofs.YtchpopocnaoabaaDoor.Pure
