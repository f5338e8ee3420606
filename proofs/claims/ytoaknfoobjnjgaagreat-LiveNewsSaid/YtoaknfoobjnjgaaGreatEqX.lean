import Derived.Test.YtoaknfoobjnjgaaGreatTab
namespace Go.Proofs.YtoaknfoobjnjgaaGreat
open Go.Ab
set_option maxRecDepth 1000000
theorem eq_9:eu (S.env aV NB kP 9 Tryz.f9) []=some (.bool true):=by kernel_rfl
end Go.Proofs.YtoaknfoobjnjgaaGreat
