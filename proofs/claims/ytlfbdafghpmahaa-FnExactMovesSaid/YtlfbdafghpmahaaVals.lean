/- Values: the program's and the reference's test. No condition. -/
import Derived.Test.YtlfbdafghpmahaaScal
import Derived.Test.YtlfbdafghpmahaaPspecProgOk
import Derived.Test.YtlfbdafghpmahaaPimplisValue
namespace Go.Proofs.Ytlfbdafghpmahaa.Pure
open Go.RowKit Go.Proofs.Ytlfbdafghpmahaa.P Go.Proofs.Ytlfbdafghpmahaa.Gen Go.Proofs.YtlfbdafghpmahaaW.PrintWords

theorem l01Value (v : Int) : spec_l01Value.f v = some (valB v) := by
  unfold spec_l01Value.f valB
  rw [l01In]
  rfl
theorem isValue (v : Int) : impl_isValue.f v = some (valB v) := by
  unfold impl_isValue.f valB
  rw [within]
  rfl

end Go.Proofs.Ytlfbdafghpmahaa.Pure
