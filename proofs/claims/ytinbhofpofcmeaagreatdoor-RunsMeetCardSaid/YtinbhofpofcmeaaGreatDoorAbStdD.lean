/- What functions of the library compute, as entries of a table. -/
import Derived.Test.YtinbhofpofcmeaaGreatDoorAbSeat
import Derived.Lib.Bytealg
import Derived.Lib.ItoaNum
import Derived.Lib.AtoiAll
set_option linter.unusedVariables false
namespace Go.Ab
def index1_M : List PV → Option PV
  | [.str s, .str [c]] => some (.int .i64 (Lib.indexByte s c))
  | _ => none
def itoa_M : List PV → Option PV
  | [.int .i64 n] => some (.str (Lib.itoa n))
  | _ => none
def atoi_M : List PV → Option PV
  | [.str s] => if s.length ≤ 281474976710656 then match Lib.atoiAll s with
    | .ok v => some (.tup [.int .i64 v, .ifc false])
    | .«syntax» => some (.tup [.int .i64 0, .ifc true])
    | .range => some (.tup [.int .i64 (Lib.atoiSat s), .ifc true])
    else none
  | _ => none
def powCells : List PV := Lib.pow10Tab.map fun z => .int .u64 z

end Go.Ab
