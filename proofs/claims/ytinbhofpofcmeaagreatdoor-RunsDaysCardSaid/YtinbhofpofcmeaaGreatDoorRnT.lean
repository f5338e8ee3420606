/- The first run with these names, by the program and by the document. -/
import Derived.Test.YtinbhofpofcmeaaGreatDoorRnR
namespace Go.Ab.Tt
set_option maxRecDepth 100000
set_option linter.unusedVariables false
set_option linter.unusedSimpArgs false

/-! ### the first run with these names -/
def hitR (id : Bytes) (d i : Int) (r : Run) : Bool := decide (r.id = id) && decide (r.day = d) && decide (r.inst = i)
def findPV (o : Option Nat) : PV := match o with | some k => .tup [.int .i64 k, .bool true] | none => .tup [.int .i64 0, .bool false]
def findR (l : List Run) (id : Bytes) (d i : Int) : Option Nat := (List.range l.length).find? fun k => match l[k]? with | some r => hitR id d i r | none => false
theorem find_prog (l : List Run) (hl : l.length ≤ maxLen) (id : Bytes) (d i : Int) : runs_Find_M [.rs 8 (l.map Run.pv), .str id, .int .i64 d, .int .i64 i] = some (findPV (findR l id d i)) := by
  have hm := maxLen_lt
  simp only [runs_Find_M, runs_Find, asSl, asStr, asInt, if_true, bind_some', List.length_map]
  refine (loop_scan' (fun k => (id, d, i, l.map Run.pv, (l.length : Int), (k : Int), ())) l.length (fun k => if (match l[k]? with | some r => hitR id d i r | none => false) = true then some (some (.tup [.int .i64 k, .bool true])) else none) (fin := some (.tup [.int .i64 0, .bool false])) (fun k hk rec => ?_) (fun rec => ?_) ?_ rfl).trans ?_
  · have h1 : (k : Int) < (l.length : Int) := by omega
    simp only [runs_Find_L1, decide_eq_true_eq, h1, if_true, idxP_nat, List.getElem?_map, List.getElem?_eq_getElem hk, Option.map_some, bind_some', run1, run2, run3, asStr, asInt, beq_d, bif_and, wrap_nat (show k < 9223372036854775807 by omega)]
    unfold hitR
    cases (decide (l[k].id = id) && decide (l[k].day = d) && decide (l[k].inst = i)) <;> rfl
  · simp only [runs_Find_L1, decide_eq_true_eq, Int.lt_irrefl, if_false]
  · have := rounds_gt; omega
  · rw [findSome_if (fun k => match l[k]? with | some r => hitR id d i r | none => false) (fun k => some (PV.tup [.int .i64 k, .bool true]))]
    unfold findR findPV
    cases (List.range l.length).find? (fun k => match l[k]? with | some r => hitR id d i r | none => false) <;> rfl
theorem find_ref (l : List Run) (hl : l.length ≤ maxLen) (id : Bytes) (d i : Int) : ref25_Find_M [.rs 8 (l.map Run.pv), .str id, .int .i64 d, .int .i64 i] = some (findPV (findR l id d i)) := by
  have hm := maxLen_lt
  simp only [ref25_Find_M, ref25_Find, asSl, asStr, asInt, if_true, bind_some', List.length_map]
  refine (loop_scan' (fun k => (l.map Run.pv, id, d, i, (k : Int), ())) l.length (fun k => if (match l[k]? with | some r => hitR id d i r | none => false) = true then some (some (.tup [.int .i64 k, .bool true])) else none) (fin := some (.tup [.int .i64 0, .bool false])) (fun k hk rec => ?_) (fun rec => ?_) ?_ rfl).trans ?_
  · have h1 : (k : Int) < (l.length : Int) := by omega
    simp only [ref25_Find_L1, decide_eq_true_eq, List.length_map, h1, if_true, idxP_nat, List.getElem?_map, List.getElem?_eq_getElem hk, Option.map_some, bind_some', run1, run2, run3, asStr, asInt, beq_d, bif_and, wrap_nat (show k < 9223372036854775807 by omega)]
    unfold hitR
    cases (decide (l[k].id = id) && decide (l[k].day = d) && decide (l[k].inst = i)) <;> rfl
  · simp only [ref25_Find_L1, decide_eq_true_eq, List.length_map, Int.lt_irrefl, if_false]
  · have := rounds_gt; omega
  · rw [findSome_if (fun k => match l[k]? with | some r => hitR id d i r | none => false) (fun k => some (PV.tup [.int .i64 k, .bool true]))]
    unfold findR findPV
    cases (List.range l.length).find? (fun k => match l[k]? with | some r => hitR id d i r | none => false) <;> rfl
end Go.Ab.Tt
