/- Values: the program's and the reference's test. No condition. -/
import Derived.Test.YtkjndikkdbfhbaaScal
import Derived.Test.YtkjndikkdbfhbaaPspecl01Value
import Derived.Test.YtkjndikkdbfhbaaPspecl01Value
namespace Go.Proofs.Ytkjndikkdbfhbaa.Pure
open Go.RowKit Go.Proofs.Ytkjndikkdbfhbaa.P Go.Proofs.Ytkjndikkdbfhbaa.Gen Go.Proofs.YtkjndikkdbfhbaaW.PrintWords

theorem l01Value (v : Int) : spec_l01Value.f v = some (valB v) := by
  unfold spec_l01Value.f valB
  rw [l01In]
  rfl
theorem isValue (v : Int) : impl_isValue.f v = some (valB v) := by
  unfold impl_isValue.f valB
  rw [within]
  rfl

end Go.Proofs.Ytkjndikkdbfhbaa.Pure
