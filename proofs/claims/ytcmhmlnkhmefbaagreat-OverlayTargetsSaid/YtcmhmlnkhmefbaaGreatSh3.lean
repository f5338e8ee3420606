import Derived.Test.YtcmhmlnkhmefbaaGreatSh2
set_option linter.unusedVariables false
namespace Go.Ab
end Go.Ab
