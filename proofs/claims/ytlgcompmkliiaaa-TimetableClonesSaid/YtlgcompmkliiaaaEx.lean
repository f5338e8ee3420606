/- The examples of the chapter hold. -/
import Derived.Test.YtlgcompmkliiaaaTab
namespace Go.Ab
set_option maxRecDepth 1000000
theorem exampleHolds22 : law22_exampleHolds_M [] = some (.bool true) := by kernel_rfl
end Go.Ab
