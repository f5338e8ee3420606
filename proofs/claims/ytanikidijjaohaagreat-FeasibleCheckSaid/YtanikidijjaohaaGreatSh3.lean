import Derived.Test.YtanikidijjaohaaGreatSh2
set_option linter.unusedVariables false
namespace Go.Ab
end Go.Ab
