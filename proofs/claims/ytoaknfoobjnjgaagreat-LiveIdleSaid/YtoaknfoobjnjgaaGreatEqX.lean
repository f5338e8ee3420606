import Derived.Test.YtoaknfoobjnjgaaGreatTab
set_option linter.all false
namespace Go.Proofs.YtoaknfoobjnjgaaGreat
open Go.Ab
set_option maxRecDepth 1000000
theorem eq_9:fC (S.env bd L4 oF 9 Tryz.f9) []=some (.bool true):=by kernel_rfl
end Go.Proofs.YtoaknfoobjnjgaaGreat
