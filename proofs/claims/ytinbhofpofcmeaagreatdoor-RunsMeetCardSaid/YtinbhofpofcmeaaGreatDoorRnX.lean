/- The example that every statement looks at. -/
import Derived.Test.YtinbhofpofcmeaaGreatDoorTab
namespace Go.Ab.Tt
set_option maxRecDepth 100000
theorem exampleHolds25 : law25_exampleHolds_M [] = some (.bool true) := by kernel_rfl
end Go.Ab.Tt
