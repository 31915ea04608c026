/- Values: the program's and the reference's test. No condition. -/
import Derived.Test.YtimlilgdbkcpoaaScal
import Derived.Test.YtimlilgdbkcpoaaPspecl01Value
import Derived.Test.YtimlilgdbkcpoaaPspecl01Value
namespace Go.Proofs.Ytimlilgdbkcpoaa.Pure
open Go.RowKit Go.Proofs.Ytimlilgdbkcpoaa.P Go.Proofs.Ytimlilgdbkcpoaa.Gen Go.Proofs.YtimlilgdbkcpoaaW.PrintWords

theorem l01Value (v : Int) : spec_l01Value.f v = some (valB v) := by
  unfold spec_l01Value.f valB
  rw [l01In]
  rfl
theorem isValue (v : Int) : impl_isValue.f v = some (valB v) := by
  unfold impl_isValue.f valB
  rw [within]
  rfl

end Go.Proofs.Ytimlilgdbkcpoaa.Pure
