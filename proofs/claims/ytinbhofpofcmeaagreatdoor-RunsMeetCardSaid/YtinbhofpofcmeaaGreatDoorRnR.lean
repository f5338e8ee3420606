/- Runs as plain data; days that are valid. -/
import Derived.Test.YtinbhofpofcmeaaGreatDoorTtChk1
namespace Go.Ab.Tt
set_option linter.unusedVariables false

structure Run where
  trip : Int
  day : Int
  inst : Int
  id : Bytes
  route : Int
  free : Bool
  canc : Bool
  calls : List Kall
  deriving DecidableEq
def Run.pv (x : Run) : PV := .agg [.int .i64 x.trip, .int .i64 x.day, .int .i64 x.inst, .str x.id, .int .i64 x.route, .bool x.free, .bool x.canc, .rs 5 (x.calls.map Kall.pv)]
structure Run.OkM (M : Nat) (x : Run) : Prop where
  trip : I64 x.trip
  day : I64 x.day
  inst : I64 x.inst
  id : x.id.length ≤ M
  route : I64 x.route
  calls : x.calls.length ≤ M ∧ ∀ y ∈ x.calls, y.OkM M
abbrev Run.Ok (x : Run) : Prop := x.OkM maxLen
theorem runA (r : Run) : asAgg 8 r.pv = some () := rfl
theorem runE (r : Run) : PV.agg [cell r.pv 0, cell r.pv 1, cell r.pv 2, cell r.pv 3, cell r.pv 4, cell r.pv 5, cell r.pv 6, cell r.pv 7] = r.pv := rfl
theorem run0 (x : Run) : cell x.pv 0 = .int .i64 x.trip := rfl
theorem run1 (x : Run) : cell x.pv 1 = .int .i64 x.day := rfl
theorem run2 (x : Run) : cell x.pv 2 = .int .i64 x.inst := rfl
theorem run3 (x : Run) : cell x.pv 3 = .str x.id := rfl
theorem run4 (x : Run) : cell x.pv 4 = .int .i64 x.route := rfl
theorem run5 (x : Run) : cell x.pv 5 = .bool x.free := rfl
theorem run6 (x : Run) : cell x.pv 6 = .bool x.canc := rfl
theorem run7 (x : Run) : cell x.pv 7 = .rs 5 (x.calls.map Kall.pv) := rfl

def dayB (d : Int) : Bool := decide (0 ≤ d) && decide (d ≤ 36524)
theorem dvalid_prog (d : Int) : date_Valid_M [.int .i64 d] = some (.bool (dayB d)) := by
  simp only [date_Valid_M, date_Valid, asInt, if_true, bind_some', bif_and, dayB]
theorem dvalid25 (d : Int) : ref25_ValidDay_M [.int .i64 d] = some (.bool (dayB d)) := by
  simp only [ref25_ValidDay_M, ref25_ValidDay, asInt, if_true, bind_some', bif_and, dayB, ge_iff_le]
theorem dayB_iff (d : Int) : dayB d = true ↔ 0 ≤ d ∧ d ≤ 36524 := by simp [dayB]
end Go.Ab.Tt
