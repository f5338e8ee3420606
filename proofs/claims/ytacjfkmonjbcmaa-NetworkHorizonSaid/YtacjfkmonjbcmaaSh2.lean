/- Functions of the program as plain Lean functions, printed by a program of the author. -/
import Derived.Test.YtacjfkmonjbcmaaSh1
set_option linter.unusedVariables false
namespace Go.Ab
end Go.Ab
