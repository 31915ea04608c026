/- Values: the program's and the reference's test. No condition. -/
import Derived.Test.YtpcfcdnmpginhaaScal
import Derived.Test.YtpcfcdnmpginhaaPspecl01Value
import Derived.Test.YtpcfcdnmpginhaaPspecl01Value
namespace Go.Proofs.Ytpcfcdnmpginhaa.Pure
open Go.RowKit Go.Proofs.Ytpcfcdnmpginhaa.P Go.Proofs.Ytpcfcdnmpginhaa.Gen Go.Proofs.YtpcfcdnmpginhaaW.PrintWords

theorem l01Value (v : Int) : spec_l01Value.f v = some (valB v) := by
  unfold spec_l01Value.f valB
  rw [l01In]
  rfl
theorem isValue (v : Int) : impl_isValue.f v = some (valB v) := by
  unfold impl_isValue.f valB
  rw [within]
  rfl

end Go.Proofs.Ytpcfcdnmpginhaa.Pure
