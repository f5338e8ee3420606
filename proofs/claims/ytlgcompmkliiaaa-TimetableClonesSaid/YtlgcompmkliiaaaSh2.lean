/- Functions of the program as plain Lean functions, printed by a program of the author. -/
import Derived.Test.YtlgcompmkliiaaaSh1
set_option linter.unusedVariables false
namespace Go.Ab
def ref22_heads_L1 : (Int ×
 List PV ×
 List PV ×
 List PV ×
 List PV ×
 List PV ×
 List PV ×
 List PV ×
 List PV ×
 List PV ×
 List PV ×
 Int ×
 Int ×
 Int ×
 List PV ×
 List PV ×
 List PV ×
 List PV ×
 List PV × List PV × List PV × List PV × List PV × List PV × Int × Int × Int × Unit) → (Int ×
 List PV ×
 List PV ×
 List PV ×
 List PV ×
 List PV ×
 List PV ×
 List PV ×
 List PV ×
 List PV ×
 List PV ×
 Int ×
 Int ×
 Int ×
 List PV ×
 List PV ×
 List PV ×
 List PV ×
 List PV ×
 List PV × List PV × List PV × List PV × List PV × Int × Int × Int × Unit →
 Option PV) → Option PV := fun s43 rec44 =>
 if decide (s43.fst < (↑s43.snd.snd.snd.snd.fst.length : Int)) = true then
 (idxP s43.snd.snd.snd.snd.fst s43.fst).bind fun p45 =>
 (idxP s43.snd.snd.snd.snd.snd.snd.snd.snd.snd.snd.snd.snd.snd.snd.snd.snd.snd.fst s43.fst).bind fun p46 =>
 if
 chk (Kd.int IntKind.i64 :: [].append (Kd.int IntKind.i64 :: [].append (Kd.bool :: [].append [])))
 [cell p45 0, cell p45 1, cell p45 2] =
 true ∧
 chk (Kd.int IntKind.i64 :: [].append (Kd.int IntKind.i64 :: [].append (Kd.bool :: [].append [])))
 [cell p46 0, cell p46 1, cell p46 2] =
 true then
 if (!peqL [cell p45 0, cell p45 1, cell p45 2] [cell p46 0, cell p46 1, cell p46 2]) = true then
 some (PV.bool false)
 else
 rec44
 (IntKind.i64.wrap (s43.fst + 1), s43.snd.fst, s43.snd.snd.fst, s43.snd.snd.snd.fst, s43.snd.snd.snd.snd.fst,
 s43.snd.snd.snd.snd.snd.fst, s43.snd.snd.snd.snd.snd.snd.fst, s43.snd.snd.snd.snd.snd.snd.snd.fst,
 s43.snd.snd.snd.snd.snd.snd.snd.snd.fst, s43.snd.snd.snd.snd.snd.snd.snd.snd.snd.fst,
 s43.snd.snd.snd.snd.snd.snd.snd.snd.snd.snd.fst, s43.snd.snd.snd.snd.snd.snd.snd.snd.snd.snd.snd.fst,
 s43.snd.snd.snd.snd.snd.snd.snd.snd.snd.snd.snd.snd.fst,
 s43.snd.snd.snd.snd.snd.snd.snd.snd.snd.snd.snd.snd.snd.fst,
 s43.snd.snd.snd.snd.snd.snd.snd.snd.snd.snd.snd.snd.snd.snd.fst,
 s43.snd.snd.snd.snd.snd.snd.snd.snd.snd.snd.snd.snd.snd.snd.snd.fst,
 s43.snd.snd.snd.snd.snd.snd.snd.snd.snd.snd.snd.snd.snd.snd.snd.snd.fst,
 s43.snd.snd.snd.snd.snd.snd.snd.snd.snd.snd.snd.snd.snd.snd.snd.snd.snd.fst,
 s43.snd.snd.snd.snd.snd.snd.snd.snd.snd.snd.snd.snd.snd.snd.snd.snd.snd.snd.fst,
 s43.snd.snd.snd.snd.snd.snd.snd.snd.snd.snd.snd.snd.snd.snd.snd.snd.snd.snd.snd.fst,
 s43.snd.snd.snd.snd.snd.snd.snd.snd.snd.snd.snd.snd.snd.snd.snd.snd.snd.snd.snd.snd.fst,
 s43.snd.snd.snd.snd.snd.snd.snd.snd.snd.snd.snd.snd.snd.snd.snd.snd.snd.snd.snd.snd.snd.fst,
 s43.snd.snd.snd.snd.snd.snd.snd.snd.snd.snd.snd.snd.snd.snd.snd.snd.snd.snd.snd.snd.snd.snd.fst,
 s43.snd.snd.snd.snd.snd.snd.snd.snd.snd.snd.snd.snd.snd.snd.snd.snd.snd.snd.snd.snd.snd.snd.snd.fst,
 s43.snd.snd.snd.snd.snd.snd.snd.snd.snd.snd.snd.snd.snd.snd.snd.snd.snd.snd.snd.snd.snd.snd.snd.snd.fst,
 s43.snd.snd.snd.snd.snd.snd.snd.snd.snd.snd.snd.snd.snd.snd.snd.snd.snd.snd.snd.snd.snd.snd.snd.snd.snd.fst,
 s43.snd.snd.snd.snd.snd.snd.snd.snd.snd.snd.snd.snd.snd.snd.snd.snd.snd.snd.snd.snd.snd.snd.snd.snd.snd.snd.fst,
 ())
 else none
else some (PV.bool true)
def ref22_heads_L2 (L : Lps) : (Int ×
 List PV ×
 List PV ×
 List PV ×
 List PV ×
 List PV ×
 List PV ×
 List PV ×
 List PV ×
 List PV ×
 List PV ×
 Int ×
 Int ×
 Int ×
 List PV ×
 List PV ×
 List PV ×
 List PV ×
 List PV × List PV × List PV × List PV × List PV × List PV × Int × Int × Int × Unit) → (Int ×
 List PV ×
 List PV ×
 List PV ×
 List PV ×
 List PV ×
 List PV ×
 List PV ×
 List PV ×
 List PV ×
 List PV ×
 Int ×
 Int ×
 Int ×
 List PV ×
 List PV ×
 List PV ×
 List PV ×
 List PV ×
 List PV × List PV × List PV × List PV × List PV × Int × Int × Int × Unit →
 Option PV) → Option PV := fun s39 rec40 =>
 if decide (s39.fst < (↑s39.snd.snd.snd.fst.length : Int)) = true then
 (idxP s39.snd.snd.snd.fst s39.fst).bind fun p41 =>
 (idxP s39.snd.snd.snd.snd.snd.snd.snd.snd.snd.snd.snd.snd.snd.snd.snd.snd.fst s39.fst).bind fun p42 =>
 if
 chk
 (Kd.str ::
 [].append
 (Kd.bool ::
 ([].append (kdsRep [Kd.bool] 6)).append
 (Kd.int IntKind.i64 :: [].append (Kd.int IntKind.i64 :: [].append []))))
 [cell p41 0, cell p41 1, cell p41 2, cell p41 3, cell p41 4, cell p41 5, cell p41 6, cell p41 7,
 cell p41 8, cell p41 9] =
 true ∧
 chk
 (Kd.str ::
 [].append
 (Kd.bool ::
 ([].append (kdsRep [Kd.bool] 6)).append
 (Kd.int IntKind.i64 :: [].append (Kd.int IntKind.i64 :: [].append []))))
 [cell p42 0, cell p42 1, cell p42 2, cell p42 3, cell p42 4, cell p42 5, cell p42 6, cell p42 7,
 cell p42 8, cell p42 9] =
 true then
 if
 (!peqL
 [cell p41 0, cell p41 1, cell p41 2, cell p41 3, cell p41 4, cell p41 5, cell p41 6, cell p41 7,
 cell p41 8, cell p41 9]
 [cell p42 0, cell p42 1, cell p42 2, cell p42 3, cell p42 4, cell p42 5, cell p42 6, cell p42 7,
 cell p42 8, cell p42 9]) =
 true then
 some (PV.bool false)
 else
 rec40
 (IntKind.i64.wrap (s39.fst + 1), s39.snd.fst, s39.snd.snd.fst, s39.snd.snd.snd.fst, s39.snd.snd.snd.snd.fst,
 s39.snd.snd.snd.snd.snd.fst, s39.snd.snd.snd.snd.snd.snd.fst, s39.snd.snd.snd.snd.snd.snd.snd.fst,
 s39.snd.snd.snd.snd.snd.snd.snd.snd.fst, s39.snd.snd.snd.snd.snd.snd.snd.snd.snd.fst,
 s39.snd.snd.snd.snd.snd.snd.snd.snd.snd.snd.fst, s39.snd.snd.snd.snd.snd.snd.snd.snd.snd.snd.snd.fst,
 s39.snd.snd.snd.snd.snd.snd.snd.snd.snd.snd.snd.snd.fst,
 s39.snd.snd.snd.snd.snd.snd.snd.snd.snd.snd.snd.snd.snd.fst,
 s39.snd.snd.snd.snd.snd.snd.snd.snd.snd.snd.snd.snd.snd.snd.fst,
 s39.snd.snd.snd.snd.snd.snd.snd.snd.snd.snd.snd.snd.snd.snd.snd.fst,
 s39.snd.snd.snd.snd.snd.snd.snd.snd.snd.snd.snd.snd.snd.snd.snd.snd.fst,
 s39.snd.snd.snd.snd.snd.snd.snd.snd.snd.snd.snd.snd.snd.snd.snd.snd.snd.fst,
 s39.snd.snd.snd.snd.snd.snd.snd.snd.snd.snd.snd.snd.snd.snd.snd.snd.snd.snd.fst,
 s39.snd.snd.snd.snd.snd.snd.snd.snd.snd.snd.snd.snd.snd.snd.snd.snd.snd.snd.snd.fst,
 s39.snd.snd.snd.snd.snd.snd.snd.snd.snd.snd.snd.snd.snd.snd.snd.snd.snd.snd.snd.snd.fst,
 s39.snd.snd.snd.snd.snd.snd.snd.snd.snd.snd.snd.snd.snd.snd.snd.snd.snd.snd.snd.snd.snd.fst,
 s39.snd.snd.snd.snd.snd.snd.snd.snd.snd.snd.snd.snd.snd.snd.snd.snd.snd.snd.snd.snd.snd.snd.fst,
 s39.snd.snd.snd.snd.snd.snd.snd.snd.snd.snd.snd.snd.snd.snd.snd.snd.snd.snd.snd.snd.snd.snd.snd.fst,
 s39.snd.snd.snd.snd.snd.snd.snd.snd.snd.snd.snd.snd.snd.snd.snd.snd.snd.snd.snd.snd.snd.snd.snd.snd.fst,
 s39.snd.snd.snd.snd.snd.snd.snd.snd.snd.snd.snd.snd.snd.snd.snd.snd.snd.snd.snd.snd.snd.snd.snd.snd.snd.fst,
 s39.snd.snd.snd.snd.snd.snd.snd.snd.snd.snd.snd.snd.snd.snd.snd.snd.snd.snd.snd.snd.snd.snd.snd.snd.snd.snd.fst,
 ())
 else none
else
 L.run ref22_heads_L1
 (0, s39.snd.fst, s39.snd.snd.fst, s39.snd.snd.snd.fst, s39.snd.snd.snd.snd.fst, s39.snd.snd.snd.snd.snd.fst,
 s39.snd.snd.snd.snd.snd.snd.fst, s39.snd.snd.snd.snd.snd.snd.snd.fst, s39.snd.snd.snd.snd.snd.snd.snd.snd.fst,
 s39.snd.snd.snd.snd.snd.snd.snd.snd.snd.fst, s39.snd.snd.snd.snd.snd.snd.snd.snd.snd.snd.fst,
 s39.snd.snd.snd.snd.snd.snd.snd.snd.snd.snd.snd.fst, s39.snd.snd.snd.snd.snd.snd.snd.snd.snd.snd.snd.snd.fst,
 s39.snd.snd.snd.snd.snd.snd.snd.snd.snd.snd.snd.snd.snd.fst,
 s39.snd.snd.snd.snd.snd.snd.snd.snd.snd.snd.snd.snd.snd.snd.fst,
 s39.snd.snd.snd.snd.snd.snd.snd.snd.snd.snd.snd.snd.snd.snd.snd.fst,
 s39.snd.snd.snd.snd.snd.snd.snd.snd.snd.snd.snd.snd.snd.snd.snd.snd.fst,
 s39.snd.snd.snd.snd.snd.snd.snd.snd.snd.snd.snd.snd.snd.snd.snd.snd.snd.fst,
 s39.snd.snd.snd.snd.snd.snd.snd.snd.snd.snd.snd.snd.snd.snd.snd.snd.snd.snd.fst,
 s39.snd.snd.snd.snd.snd.snd.snd.snd.snd.snd.snd.snd.snd.snd.snd.snd.snd.snd.snd.fst,
 s39.snd.snd.snd.snd.snd.snd.snd.snd.snd.snd.snd.snd.snd.snd.snd.snd.snd.snd.snd.snd.fst,
 s39.snd.snd.snd.snd.snd.snd.snd.snd.snd.snd.snd.snd.snd.snd.snd.snd.snd.snd.snd.snd.snd.fst,
 s39.snd.snd.snd.snd.snd.snd.snd.snd.snd.snd.snd.snd.snd.snd.snd.snd.snd.snd.snd.snd.snd.snd.fst,
 s39.snd.snd.snd.snd.snd.snd.snd.snd.snd.snd.snd.snd.snd.snd.snd.snd.snd.snd.snd.snd.snd.snd.snd.fst,
 s39.snd.snd.snd.snd.snd.snd.snd.snd.snd.snd.snd.snd.snd.snd.snd.snd.snd.snd.snd.snd.snd.snd.snd.snd.fst,
 s39.snd.snd.snd.snd.snd.snd.snd.snd.snd.snd.snd.snd.snd.snd.snd.snd.snd.snd.snd.snd.snd.snd.snd.snd.snd.fst,
 s39.snd.snd.snd.snd.snd.snd.snd.snd.snd.snd.snd.snd.snd.snd.snd.snd.snd.snd.snd.snd.snd.snd.snd.snd.snd.snd.fst,
 ())
def ref22_heads_L3 (L : Lps) : (Int ×
 List PV ×
 List PV ×
 List PV ×
 List PV ×
 List PV ×
 List PV ×
 List PV ×
 List PV ×
 List PV ×
 List PV ×
 Int ×
 Int ×
 Int ×
 List PV ×
 List PV ×
 List PV ×
 List PV ×
 List PV × List PV × List PV × List PV × List PV × List PV × Int × Int × Int × Unit) → (Int ×
 List PV ×
 List PV ×
 List PV ×
 List PV ×
 List PV ×
 List PV ×
 List PV ×
 List PV ×
 List PV ×
 List PV ×
 Int ×
 Int ×
 Int ×
 List PV ×
 List PV ×
 List PV ×
 List PV ×
 List PV ×
 List PV × List PV × List PV × List PV × List PV × Int × Int × Int × Unit →
 Option PV) → Option PV := fun s35 rec36 =>
 if decide (s35.fst < (↑s35.snd.snd.fst.length : Int)) = true then
 (idxP s35.snd.snd.fst s35.fst).bind fun p37 =>
 (idxP s35.snd.snd.snd.snd.snd.snd.snd.snd.snd.snd.snd.snd.snd.snd.snd.fst s35.fst).bind fun p38 =>
 if
 chk (Kd.str :: [].append (Kd.int IntKind.i64 :: [].append (Kd.bool :: [].append [])))
 [cell p37 0, cell p37 1, cell p37 2] =
 true ∧
 chk (Kd.str :: [].append (Kd.int IntKind.i64 :: [].append (Kd.bool :: [].append [])))
 [cell p38 0, cell p38 1, cell p38 2] =
 true then
 if (!peqL [cell p37 0, cell p37 1, cell p37 2] [cell p38 0, cell p38 1, cell p38 2]) = true then
 some (PV.bool false)
 else
 rec36
 (IntKind.i64.wrap (s35.fst + 1), s35.snd.fst, s35.snd.snd.fst, s35.snd.snd.snd.fst, s35.snd.snd.snd.snd.fst,
 s35.snd.snd.snd.snd.snd.fst, s35.snd.snd.snd.snd.snd.snd.fst, s35.snd.snd.snd.snd.snd.snd.snd.fst,
 s35.snd.snd.snd.snd.snd.snd.snd.snd.fst, s35.snd.snd.snd.snd.snd.snd.snd.snd.snd.fst,
 s35.snd.snd.snd.snd.snd.snd.snd.snd.snd.snd.fst, s35.snd.snd.snd.snd.snd.snd.snd.snd.snd.snd.snd.fst,
 s35.snd.snd.snd.snd.snd.snd.snd.snd.snd.snd.snd.snd.fst,
 s35.snd.snd.snd.snd.snd.snd.snd.snd.snd.snd.snd.snd.snd.fst,
 s35.snd.snd.snd.snd.snd.snd.snd.snd.snd.snd.snd.snd.snd.snd.fst,
 s35.snd.snd.snd.snd.snd.snd.snd.snd.snd.snd.snd.snd.snd.snd.snd.fst,
 s35.snd.snd.snd.snd.snd.snd.snd.snd.snd.snd.snd.snd.snd.snd.snd.snd.fst,
 s35.snd.snd.snd.snd.snd.snd.snd.snd.snd.snd.snd.snd.snd.snd.snd.snd.snd.fst,
 s35.snd.snd.snd.snd.snd.snd.snd.snd.snd.snd.snd.snd.snd.snd.snd.snd.snd.snd.fst,
 s35.snd.snd.snd.snd.snd.snd.snd.snd.snd.snd.snd.snd.snd.snd.snd.snd.snd.snd.snd.fst,
 s35.snd.snd.snd.snd.snd.snd.snd.snd.snd.snd.snd.snd.snd.snd.snd.snd.snd.snd.snd.snd.fst,
 s35.snd.snd.snd.snd.snd.snd.snd.snd.snd.snd.snd.snd.snd.snd.snd.snd.snd.snd.snd.snd.snd.fst,
 s35.snd.snd.snd.snd.snd.snd.snd.snd.snd.snd.snd.snd.snd.snd.snd.snd.snd.snd.snd.snd.snd.snd.fst,
 s35.snd.snd.snd.snd.snd.snd.snd.snd.snd.snd.snd.snd.snd.snd.snd.snd.snd.snd.snd.snd.snd.snd.snd.fst,
 s35.snd.snd.snd.snd.snd.snd.snd.snd.snd.snd.snd.snd.snd.snd.snd.snd.snd.snd.snd.snd.snd.snd.snd.snd.fst,
 s35.snd.snd.snd.snd.snd.snd.snd.snd.snd.snd.snd.snd.snd.snd.snd.snd.snd.snd.snd.snd.snd.snd.snd.snd.snd.fst,
 s35.snd.snd.snd.snd.snd.snd.snd.snd.snd.snd.snd.snd.snd.snd.snd.snd.snd.snd.snd.snd.snd.snd.snd.snd.snd.snd.fst,
 ())
 else none
else
 L.run (ref22_heads_L2 L)
 (0, s35.snd.fst, s35.snd.snd.fst, s35.snd.snd.snd.fst, s35.snd.snd.snd.snd.fst, s35.snd.snd.snd.snd.snd.fst,
 s35.snd.snd.snd.snd.snd.snd.fst, s35.snd.snd.snd.snd.snd.snd.snd.fst, s35.snd.snd.snd.snd.snd.snd.snd.snd.fst,
 s35.snd.snd.snd.snd.snd.snd.snd.snd.snd.fst, s35.snd.snd.snd.snd.snd.snd.snd.snd.snd.snd.fst,
 s35.snd.snd.snd.snd.snd.snd.snd.snd.snd.snd.snd.fst, s35.snd.snd.snd.snd.snd.snd.snd.snd.snd.snd.snd.snd.fst,
 s35.snd.snd.snd.snd.snd.snd.snd.snd.snd.snd.snd.snd.snd.fst,
 s35.snd.snd.snd.snd.snd.snd.snd.snd.snd.snd.snd.snd.snd.snd.fst,
 s35.snd.snd.snd.snd.snd.snd.snd.snd.snd.snd.snd.snd.snd.snd.snd.fst,
 s35.snd.snd.snd.snd.snd.snd.snd.snd.snd.snd.snd.snd.snd.snd.snd.snd.fst,
 s35.snd.snd.snd.snd.snd.snd.snd.snd.snd.snd.snd.snd.snd.snd.snd.snd.snd.fst,
 s35.snd.snd.snd.snd.snd.snd.snd.snd.snd.snd.snd.snd.snd.snd.snd.snd.snd.snd.fst,
 s35.snd.snd.snd.snd.snd.snd.snd.snd.snd.snd.snd.snd.snd.snd.snd.snd.snd.snd.snd.fst,
 s35.snd.snd.snd.snd.snd.snd.snd.snd.snd.snd.snd.snd.snd.snd.snd.snd.snd.snd.snd.snd.fst,
 s35.snd.snd.snd.snd.snd.snd.snd.snd.snd.snd.snd.snd.snd.snd.snd.snd.snd.snd.snd.snd.snd.fst,
 s35.snd.snd.snd.snd.snd.snd.snd.snd.snd.snd.snd.snd.snd.snd.snd.snd.snd.snd.snd.snd.snd.snd.fst,
 s35.snd.snd.snd.snd.snd.snd.snd.snd.snd.snd.snd.snd.snd.snd.snd.snd.snd.snd.snd.snd.snd.snd.snd.fst,
 s35.snd.snd.snd.snd.snd.snd.snd.snd.snd.snd.snd.snd.snd.snd.snd.snd.snd.snd.snd.snd.snd.snd.snd.snd.fst,
 s35.snd.snd.snd.snd.snd.snd.snd.snd.snd.snd.snd.snd.snd.snd.snd.snd.snd.snd.snd.snd.snd.snd.snd.snd.snd.fst,
 s35.snd.snd.snd.snd.snd.snd.snd.snd.snd.snd.snd.snd.snd.snd.snd.snd.snd.snd.snd.snd.snd.snd.snd.snd.snd.snd.fst,
 ())
def ref22_heads_L4 (L : Lps) : (Int ×
 List PV ×
 List PV ×
 List PV ×
 List PV ×
 List PV ×
 List PV ×
 List PV ×
 List PV ×
 List PV ×
 List PV ×
 Int ×
 Int ×
 Int ×
 List PV ×
 List PV ×
 List PV ×
 List PV ×
 List PV × List PV × List PV × List PV × List PV × List PV × Int × Int × Int × Unit) → (Int ×
 List PV ×
 List PV ×
 List PV ×
 List PV ×
 List PV ×
 List PV ×
 List PV ×
 List PV ×
 List PV ×
 List PV ×
 Int ×
 Int ×
 Int ×
 List PV ×
 List PV ×
 List PV ×
 List PV ×
 List PV ×
 List PV × List PV × List PV × List PV × List PV × Int × Int × Int × Unit →
 Option PV) → Option PV := fun s31 rec32 =>
 if decide (s31.fst < (↑s31.snd.fst.length : Int)) = true then
 (idxP s31.snd.fst s31.fst).bind fun p33 =>
 (idxP s31.snd.snd.snd.snd.snd.snd.snd.snd.snd.snd.snd.snd.snd.snd.fst s31.fst).bind fun p34 =>
 if
 chk
 (Kd.str ::
 [].append
 (Kd.int IntKind.i64 :: [].append (Kd.bool :: [].append (Kd.int IntKind.i64 :: [].append []))))
 [cell p33 0, cell p33 1, cell p33 2, cell p33 3] =
 true ∧
 chk
 (Kd.str ::
 [].append
 (Kd.int IntKind.i64 :: [].append (Kd.bool :: [].append (Kd.int IntKind.i64 :: [].append []))))
 [cell p34 0, cell p34 1, cell p34 2, cell p34 3] =
 true then
 if
 (!peqL [cell p33 0, cell p33 1, cell p33 2, cell p33 3] [cell p34 0, cell p34 1, cell p34 2, cell p34 3]) =
 true then
 some (PV.bool false)
 else
 rec32
 (IntKind.i64.wrap (s31.fst + 1), s31.snd.fst, s31.snd.snd.fst, s31.snd.snd.snd.fst, s31.snd.snd.snd.snd.fst,
 s31.snd.snd.snd.snd.snd.fst, s31.snd.snd.snd.snd.snd.snd.fst, s31.snd.snd.snd.snd.snd.snd.snd.fst,
 s31.snd.snd.snd.snd.snd.snd.snd.snd.fst, s31.snd.snd.snd.snd.snd.snd.snd.snd.snd.fst,
 s31.snd.snd.snd.snd.snd.snd.snd.snd.snd.snd.fst, s31.snd.snd.snd.snd.snd.snd.snd.snd.snd.snd.snd.fst,
 s31.snd.snd.snd.snd.snd.snd.snd.snd.snd.snd.snd.snd.fst,
 s31.snd.snd.snd.snd.snd.snd.snd.snd.snd.snd.snd.snd.snd.fst,
 s31.snd.snd.snd.snd.snd.snd.snd.snd.snd.snd.snd.snd.snd.snd.fst,
 s31.snd.snd.snd.snd.snd.snd.snd.snd.snd.snd.snd.snd.snd.snd.snd.fst,
 s31.snd.snd.snd.snd.snd.snd.snd.snd.snd.snd.snd.snd.snd.snd.snd.snd.fst,
 s31.snd.snd.snd.snd.snd.snd.snd.snd.snd.snd.snd.snd.snd.snd.snd.snd.snd.fst,
 s31.snd.snd.snd.snd.snd.snd.snd.snd.snd.snd.snd.snd.snd.snd.snd.snd.snd.snd.fst,
 s31.snd.snd.snd.snd.snd.snd.snd.snd.snd.snd.snd.snd.snd.snd.snd.snd.snd.snd.snd.fst,
 s31.snd.snd.snd.snd.snd.snd.snd.snd.snd.snd.snd.snd.snd.snd.snd.snd.snd.snd.snd.snd.fst,
 s31.snd.snd.snd.snd.snd.snd.snd.snd.snd.snd.snd.snd.snd.snd.snd.snd.snd.snd.snd.snd.snd.fst,
 s31.snd.snd.snd.snd.snd.snd.snd.snd.snd.snd.snd.snd.snd.snd.snd.snd.snd.snd.snd.snd.snd.snd.fst,
 s31.snd.snd.snd.snd.snd.snd.snd.snd.snd.snd.snd.snd.snd.snd.snd.snd.snd.snd.snd.snd.snd.snd.snd.fst,
 s31.snd.snd.snd.snd.snd.snd.snd.snd.snd.snd.snd.snd.snd.snd.snd.snd.snd.snd.snd.snd.snd.snd.snd.snd.fst,
 s31.snd.snd.snd.snd.snd.snd.snd.snd.snd.snd.snd.snd.snd.snd.snd.snd.snd.snd.snd.snd.snd.snd.snd.snd.snd.fst,
 s31.snd.snd.snd.snd.snd.snd.snd.snd.snd.snd.snd.snd.snd.snd.snd.snd.snd.snd.snd.snd.snd.snd.snd.snd.snd.snd.fst,
 ())
 else none
else
 L.run (ref22_heads_L3 L)
 (0, s31.snd.fst, s31.snd.snd.fst, s31.snd.snd.snd.fst, s31.snd.snd.snd.snd.fst, s31.snd.snd.snd.snd.snd.fst,
 s31.snd.snd.snd.snd.snd.snd.fst, s31.snd.snd.snd.snd.snd.snd.snd.fst, s31.snd.snd.snd.snd.snd.snd.snd.snd.fst,
 s31.snd.snd.snd.snd.snd.snd.snd.snd.snd.fst, s31.snd.snd.snd.snd.snd.snd.snd.snd.snd.snd.fst,
 s31.snd.snd.snd.snd.snd.snd.snd.snd.snd.snd.snd.fst, s31.snd.snd.snd.snd.snd.snd.snd.snd.snd.snd.snd.snd.fst,
 s31.snd.snd.snd.snd.snd.snd.snd.snd.snd.snd.snd.snd.snd.fst,
 s31.snd.snd.snd.snd.snd.snd.snd.snd.snd.snd.snd.snd.snd.snd.fst,
 s31.snd.snd.snd.snd.snd.snd.snd.snd.snd.snd.snd.snd.snd.snd.snd.fst,
 s31.snd.snd.snd.snd.snd.snd.snd.snd.snd.snd.snd.snd.snd.snd.snd.snd.fst,
 s31.snd.snd.snd.snd.snd.snd.snd.snd.snd.snd.snd.snd.snd.snd.snd.snd.snd.fst,
 s31.snd.snd.snd.snd.snd.snd.snd.snd.snd.snd.snd.snd.snd.snd.snd.snd.snd.snd.fst,
 s31.snd.snd.snd.snd.snd.snd.snd.snd.snd.snd.snd.snd.snd.snd.snd.snd.snd.snd.snd.fst,
 s31.snd.snd.snd.snd.snd.snd.snd.snd.snd.snd.snd.snd.snd.snd.snd.snd.snd.snd.snd.snd.fst,
 s31.snd.snd.snd.snd.snd.snd.snd.snd.snd.snd.snd.snd.snd.snd.snd.snd.snd.snd.snd.snd.snd.fst,
 s31.snd.snd.snd.snd.snd.snd.snd.snd.snd.snd.snd.snd.snd.snd.snd.snd.snd.snd.snd.snd.snd.snd.fst,
 s31.snd.snd.snd.snd.snd.snd.snd.snd.snd.snd.snd.snd.snd.snd.snd.snd.snd.snd.snd.snd.snd.snd.snd.fst,
 s31.snd.snd.snd.snd.snd.snd.snd.snd.snd.snd.snd.snd.snd.snd.snd.snd.snd.snd.snd.snd.snd.snd.snd.snd.fst,
 s31.snd.snd.snd.snd.snd.snd.snd.snd.snd.snd.snd.snd.snd.snd.snd.snd.snd.snd.snd.snd.snd.snd.snd.snd.snd.fst,
 s31.snd.snd.snd.snd.snd.snd.snd.snd.snd.snd.snd.snd.snd.snd.snd.snd.snd.snd.snd.snd.snd.snd.snd.snd.snd.snd.fst,
 ())
def ref22_heads (L : Lps) (p0 : PV) (p1 : PV) : Option PV :=
 (Ab.asAgg 13 p0).bind fun x0 =>
 (asSl 4 (cell p0 0)).bind fun es1 =>
 (asSl 3 (cell p0 1)).bind fun es2 =>
 (asSl 10 (cell p0 2)).bind fun es3 =>
 (asSl 3 (cell p0 3)).bind fun es4 =>
 (asSl 5 (cell p0 4)).bind fun es5 =>
 (asSl 4 (cell p0 5)).bind fun es6 =>
 (asSl 2 (cell p0 6)).bind fun es7 =>
 (asSl 3 (cell p0 7)).bind fun es8 =>
 (asSl 4 (cell p0 8)).bind fun es9 =>
 (asSl 6 (cell p0 9)).bind fun es10 =>
 (Ab.asInt IntKind.i64 (cell p0 10)).bind fun n11 =>
 (Ab.asInt IntKind.i64 (cell p0 11)).bind fun n12 =>
 (Ab.asInt IntKind.i64 (cell p0 12)).bind fun n13 =>
 (Ab.asAgg 13 p1).bind fun x14 =>
 (asSl 4 (cell p1 0)).bind fun es15 =>
 (asSl 3 (cell p1 1)).bind fun es16 =>
 (asSl 10 (cell p1 2)).bind fun es17 =>
 (asSl 3 (cell p1 3)).bind fun es18 =>
 (asSl 5 (cell p1 4)).bind fun es19 =>
 (asSl 4 (cell p1 5)).bind fun es20 =>
 (asSl 2 (cell p1 6)).bind fun es21 =>
 (asSl 3 (cell p1 7)).bind fun es22 =>
 (asSl 4 (cell p1 8)).bind fun es23 =>
 (asSl 6 (cell p1 9)).bind fun es24 =>
 (Ab.asInt IntKind.i64 (cell p1 10)).bind fun n25 =>
 (Ab.asInt IntKind.i64 (cell p1 11)).bind fun n26 =>
 (Ab.asInt IntKind.i64 (cell p1 12)).bind fun n27 =>
 (bif (↑es1.length : Int) != (↑es15.length : Int) then some true
 else
 some ((↑es2.length : Int) != (↑es16.length : Int))).bind
 fun r28 =>
 (bif r28 then some true
 else
 some ((↑es3.length : Int) != (↑es17.length : Int))).bind
 fun r29 =>
 (bif r29 then some true
 else
 some
 ((↑es4.length : Int) != (↑es18.length : Int))).bind
 fun r30 =>
 if r30 = true then some (PV.bool false)
 else
 L.run (ref22_heads_L4 L)
 (0, es1, es2, es3, es4, es5, es6, es7, es8, es9, es10,
 n11, n12, n13, es15, es16, es17, es18, es19, es20,
 es21, es22, es23, es24, n25, n26, n27, ())
def ref22_heads_M : List PV → Option PV
  | [p0, p1] => ref22_heads lpS p0 p1
  | _ => none
def ref22_tails_L1 : (Int ×
 List PV ×
 List PV ×
 List PV ×
 List PV ×
 List PV ×
 List PV ×
 List PV ×
 List PV ×
 List PV ×
 List PV ×
 Int ×
 Int ×
 Int ×
 List PV ×
 List PV ×
 List PV ×
 List PV ×
 List PV × List PV × List PV × List PV × List PV × List PV × Int × Int × Int × Unit) → (Int ×
 List PV ×
 List PV ×
 List PV ×
 List PV ×
 List PV ×
 List PV ×
 List PV ×
 List PV ×
 List PV ×
 List PV ×
 Int ×
 Int ×
 Int ×
 List PV ×
 List PV ×
 List PV ×
 List PV ×
 List PV ×
 List PV × List PV × List PV × List PV × List PV × Int × Int × Int × Unit →
 Option PV) → Option PV := fun s48 rec49 =>
 if decide (s48.fst < (↑s48.snd.snd.snd.snd.snd.snd.snd.snd.snd.snd.fst.length : Int)) = true then
 (idxP s48.snd.snd.snd.snd.snd.snd.snd.snd.snd.snd.fst s48.fst).bind fun p50 =>
 (idxP s48.snd.snd.snd.snd.snd.snd.snd.snd.snd.snd.snd.snd.snd.snd.snd.snd.snd.snd.snd.snd.snd.snd.snd.fst
 s48.fst).bind
 fun p51 =>
 if
 chk
 (Kd.str ::
 [].append
 (Kd.int IntKind.i64 ::
 [].append
 (Kd.int IntKind.i64 ::
 [].append
 (Kd.int IntKind.i64 ::
 [].append (Kd.int IntKind.i64 :: [].append (Kd.int IntKind.i64 :: [].append []))))))
 [cell p50 0, cell p50 1, cell p50 2, cell p50 3, cell p50 4, cell p50 5] =
 true ∧
 chk
 (Kd.str ::
 [].append
 (Kd.int IntKind.i64 ::
 [].append
 (Kd.int IntKind.i64 ::
 [].append
 (Kd.int IntKind.i64 ::
 [].append (Kd.int IntKind.i64 :: [].append (Kd.int IntKind.i64 :: [].append []))))))
 [cell p51 0, cell p51 1, cell p51 2, cell p51 3, cell p51 4, cell p51 5] =
 true then
 if
 (!peqL [cell p50 0, cell p50 1, cell p50 2, cell p50 3, cell p50 4, cell p50 5]
 [cell p51 0, cell p51 1, cell p51 2, cell p51 3, cell p51 4, cell p51 5]) =
 true then
 some (PV.bool false)
 else
 rec49
 (IntKind.i64.wrap (s48.fst + 1), s48.snd.fst, s48.snd.snd.fst, s48.snd.snd.snd.fst, s48.snd.snd.snd.snd.fst,
 s48.snd.snd.snd.snd.snd.fst, s48.snd.snd.snd.snd.snd.snd.fst, s48.snd.snd.snd.snd.snd.snd.snd.fst,
 s48.snd.snd.snd.snd.snd.snd.snd.snd.fst, s48.snd.snd.snd.snd.snd.snd.snd.snd.snd.fst,
 s48.snd.snd.snd.snd.snd.snd.snd.snd.snd.snd.fst, s48.snd.snd.snd.snd.snd.snd.snd.snd.snd.snd.snd.fst,
 s48.snd.snd.snd.snd.snd.snd.snd.snd.snd.snd.snd.snd.fst,
 s48.snd.snd.snd.snd.snd.snd.snd.snd.snd.snd.snd.snd.snd.fst,
 s48.snd.snd.snd.snd.snd.snd.snd.snd.snd.snd.snd.snd.snd.snd.fst,
 s48.snd.snd.snd.snd.snd.snd.snd.snd.snd.snd.snd.snd.snd.snd.snd.fst,
 s48.snd.snd.snd.snd.snd.snd.snd.snd.snd.snd.snd.snd.snd.snd.snd.snd.fst,
 s48.snd.snd.snd.snd.snd.snd.snd.snd.snd.snd.snd.snd.snd.snd.snd.snd.snd.fst,
 s48.snd.snd.snd.snd.snd.snd.snd.snd.snd.snd.snd.snd.snd.snd.snd.snd.snd.snd.fst,
 s48.snd.snd.snd.snd.snd.snd.snd.snd.snd.snd.snd.snd.snd.snd.snd.snd.snd.snd.snd.fst,
 s48.snd.snd.snd.snd.snd.snd.snd.snd.snd.snd.snd.snd.snd.snd.snd.snd.snd.snd.snd.snd.fst,
 s48.snd.snd.snd.snd.snd.snd.snd.snd.snd.snd.snd.snd.snd.snd.snd.snd.snd.snd.snd.snd.snd.fst,
 s48.snd.snd.snd.snd.snd.snd.snd.snd.snd.snd.snd.snd.snd.snd.snd.snd.snd.snd.snd.snd.snd.snd.fst,
 s48.snd.snd.snd.snd.snd.snd.snd.snd.snd.snd.snd.snd.snd.snd.snd.snd.snd.snd.snd.snd.snd.snd.snd.fst,
 s48.snd.snd.snd.snd.snd.snd.snd.snd.snd.snd.snd.snd.snd.snd.snd.snd.snd.snd.snd.snd.snd.snd.snd.snd.fst,
 s48.snd.snd.snd.snd.snd.snd.snd.snd.snd.snd.snd.snd.snd.snd.snd.snd.snd.snd.snd.snd.snd.snd.snd.snd.snd.fst,
 s48.snd.snd.snd.snd.snd.snd.snd.snd.snd.snd.snd.snd.snd.snd.snd.snd.snd.snd.snd.snd.snd.snd.snd.snd.snd.snd.fst,
 ())
 else none
else some (PV.bool true)
def ref22_tails_L2 (L : Lps) : (Int ×
 List PV ×
 List PV ×
 List PV ×
 List PV ×
 List PV ×
 List PV ×
 List PV ×
 List PV ×
 List PV ×
 List PV ×
 Int ×
 Int ×
 Int ×
 List PV ×
 List PV ×
 List PV ×
 List PV ×
 List PV × List PV × List PV × List PV × List PV × List PV × Int × Int × Int × Unit) → (Int ×
 List PV ×
 List PV ×
 List PV ×
 List PV ×
 List PV ×
 List PV ×
 List PV ×
 List PV ×
 List PV ×
 List PV ×
 Int ×
 Int ×
 Int ×
 List PV ×
 List PV ×
 List PV ×
 List PV ×
 List PV ×
 List PV × List PV × List PV × List PV × List PV × Int × Int × Int × Unit →
 Option PV) → Option PV := fun s44 rec45 =>
 if decide (s44.fst < (↑s44.snd.snd.snd.snd.snd.snd.snd.snd.snd.fst.length : Int)) = true then
 (idxP s44.snd.snd.snd.snd.snd.snd.snd.snd.snd.fst s44.fst).bind fun p46 =>
 (idxP s44.snd.snd.snd.snd.snd.snd.snd.snd.snd.snd.snd.snd.snd.snd.snd.snd.snd.snd.snd.snd.snd.snd.fst s44.fst).bind
 fun p47 =>
 if
 chk
 (Kd.int IntKind.i64 ::
 [].append
 (Kd.int IntKind.i64 :: [].append (Kd.int IntKind.i64 :: [].append (Kd.bool :: [].append []))))
 [cell p46 0, cell p46 1, cell p46 2, cell p46 3] =
 true ∧
 chk
 (Kd.int IntKind.i64 ::
 [].append
 (Kd.int IntKind.i64 :: [].append (Kd.int IntKind.i64 :: [].append (Kd.bool :: [].append []))))
 [cell p47 0, cell p47 1, cell p47 2, cell p47 3] =
 true then
 if
 (!peqL [cell p46 0, cell p46 1, cell p46 2, cell p46 3] [cell p47 0, cell p47 1, cell p47 2, cell p47 3]) =
 true then
 some (PV.bool false)
 else
 rec45
 (IntKind.i64.wrap (s44.fst + 1), s44.snd.fst, s44.snd.snd.fst, s44.snd.snd.snd.fst, s44.snd.snd.snd.snd.fst,
 s44.snd.snd.snd.snd.snd.fst, s44.snd.snd.snd.snd.snd.snd.fst, s44.snd.snd.snd.snd.snd.snd.snd.fst,
 s44.snd.snd.snd.snd.snd.snd.snd.snd.fst, s44.snd.snd.snd.snd.snd.snd.snd.snd.snd.fst,
 s44.snd.snd.snd.snd.snd.snd.snd.snd.snd.snd.fst, s44.snd.snd.snd.snd.snd.snd.snd.snd.snd.snd.snd.fst,
 s44.snd.snd.snd.snd.snd.snd.snd.snd.snd.snd.snd.snd.fst,
 s44.snd.snd.snd.snd.snd.snd.snd.snd.snd.snd.snd.snd.snd.fst,
 s44.snd.snd.snd.snd.snd.snd.snd.snd.snd.snd.snd.snd.snd.snd.fst,
 s44.snd.snd.snd.snd.snd.snd.snd.snd.snd.snd.snd.snd.snd.snd.snd.fst,
 s44.snd.snd.snd.snd.snd.snd.snd.snd.snd.snd.snd.snd.snd.snd.snd.snd.fst,
 s44.snd.snd.snd.snd.snd.snd.snd.snd.snd.snd.snd.snd.snd.snd.snd.snd.snd.fst,
 s44.snd.snd.snd.snd.snd.snd.snd.snd.snd.snd.snd.snd.snd.snd.snd.snd.snd.snd.fst,
 s44.snd.snd.snd.snd.snd.snd.snd.snd.snd.snd.snd.snd.snd.snd.snd.snd.snd.snd.snd.fst,
 s44.snd.snd.snd.snd.snd.snd.snd.snd.snd.snd.snd.snd.snd.snd.snd.snd.snd.snd.snd.snd.fst,
 s44.snd.snd.snd.snd.snd.snd.snd.snd.snd.snd.snd.snd.snd.snd.snd.snd.snd.snd.snd.snd.snd.fst,
 s44.snd.snd.snd.snd.snd.snd.snd.snd.snd.snd.snd.snd.snd.snd.snd.snd.snd.snd.snd.snd.snd.snd.fst,
 s44.snd.snd.snd.snd.snd.snd.snd.snd.snd.snd.snd.snd.snd.snd.snd.snd.snd.snd.snd.snd.snd.snd.snd.fst,
 s44.snd.snd.snd.snd.snd.snd.snd.snd.snd.snd.snd.snd.snd.snd.snd.snd.snd.snd.snd.snd.snd.snd.snd.snd.fst,
 s44.snd.snd.snd.snd.snd.snd.snd.snd.snd.snd.snd.snd.snd.snd.snd.snd.snd.snd.snd.snd.snd.snd.snd.snd.snd.fst,
 s44.snd.snd.snd.snd.snd.snd.snd.snd.snd.snd.snd.snd.snd.snd.snd.snd.snd.snd.snd.snd.snd.snd.snd.snd.snd.snd.fst,
 ())
 else none
else
 L.run ref22_tails_L1
 (0, s44.snd.fst, s44.snd.snd.fst, s44.snd.snd.snd.fst, s44.snd.snd.snd.snd.fst, s44.snd.snd.snd.snd.snd.fst,
 s44.snd.snd.snd.snd.snd.snd.fst, s44.snd.snd.snd.snd.snd.snd.snd.fst, s44.snd.snd.snd.snd.snd.snd.snd.snd.fst,
 s44.snd.snd.snd.snd.snd.snd.snd.snd.snd.fst, s44.snd.snd.snd.snd.snd.snd.snd.snd.snd.snd.fst,
 s44.snd.snd.snd.snd.snd.snd.snd.snd.snd.snd.snd.fst, s44.snd.snd.snd.snd.snd.snd.snd.snd.snd.snd.snd.snd.fst,
 s44.snd.snd.snd.snd.snd.snd.snd.snd.snd.snd.snd.snd.snd.fst,
 s44.snd.snd.snd.snd.snd.snd.snd.snd.snd.snd.snd.snd.snd.snd.fst,
 s44.snd.snd.snd.snd.snd.snd.snd.snd.snd.snd.snd.snd.snd.snd.snd.fst,
 s44.snd.snd.snd.snd.snd.snd.snd.snd.snd.snd.snd.snd.snd.snd.snd.snd.fst,
 s44.snd.snd.snd.snd.snd.snd.snd.snd.snd.snd.snd.snd.snd.snd.snd.snd.snd.fst,
 s44.snd.snd.snd.snd.snd.snd.snd.snd.snd.snd.snd.snd.snd.snd.snd.snd.snd.snd.fst,
 s44.snd.snd.snd.snd.snd.snd.snd.snd.snd.snd.snd.snd.snd.snd.snd.snd.snd.snd.snd.fst,
 s44.snd.snd.snd.snd.snd.snd.snd.snd.snd.snd.snd.snd.snd.snd.snd.snd.snd.snd.snd.snd.fst,
 s44.snd.snd.snd.snd.snd.snd.snd.snd.snd.snd.snd.snd.snd.snd.snd.snd.snd.snd.snd.snd.snd.fst,
 s44.snd.snd.snd.snd.snd.snd.snd.snd.snd.snd.snd.snd.snd.snd.snd.snd.snd.snd.snd.snd.snd.snd.fst,
 s44.snd.snd.snd.snd.snd.snd.snd.snd.snd.snd.snd.snd.snd.snd.snd.snd.snd.snd.snd.snd.snd.snd.snd.fst,
 s44.snd.snd.snd.snd.snd.snd.snd.snd.snd.snd.snd.snd.snd.snd.snd.snd.snd.snd.snd.snd.snd.snd.snd.snd.fst,
 s44.snd.snd.snd.snd.snd.snd.snd.snd.snd.snd.snd.snd.snd.snd.snd.snd.snd.snd.snd.snd.snd.snd.snd.snd.snd.fst,
 s44.snd.snd.snd.snd.snd.snd.snd.snd.snd.snd.snd.snd.snd.snd.snd.snd.snd.snd.snd.snd.snd.snd.snd.snd.snd.snd.fst,
 ())
def ref22_tails_L3 (L : Lps) : (Int ×
 List PV ×
 List PV ×
 List PV ×
 List PV ×
 List PV ×
 List PV ×
 List PV ×
 List PV ×
 List PV ×
 List PV ×
 Int ×
 Int ×
 Int ×
 List PV ×
 List PV ×
 List PV ×
 List PV ×
 List PV × List PV × List PV × List PV × List PV × List PV × Int × Int × Int × Unit) → (Int ×
 List PV ×
 List PV ×
 List PV ×
 List PV ×
 List PV ×
 List PV ×
 List PV ×
 List PV ×
 List PV ×
 List PV ×
 Int ×
 Int ×
 Int ×
 List PV ×
 List PV ×
 List PV ×
 List PV ×
 List PV ×
 List PV × List PV × List PV × List PV × List PV × Int × Int × Int × Unit →
 Option PV) → Option PV := fun s40 rec41 =>
 if decide (s40.fst < (↑s40.snd.snd.snd.snd.snd.snd.snd.snd.fst.length : Int)) = true then
 (idxP s40.snd.snd.snd.snd.snd.snd.snd.snd.fst s40.fst).bind fun p42 =>
 (idxP s40.snd.snd.snd.snd.snd.snd.snd.snd.snd.snd.snd.snd.snd.snd.snd.snd.snd.snd.snd.snd.snd.fst s40.fst).bind
 fun p43 =>
 if
 chk (Kd.int IntKind.i64 :: [].append (Kd.int IntKind.i64 :: [].append (Kd.int IntKind.i64 :: [].append [])))
 [cell p42 0, cell p42 1, cell p42 2] =
 true ∧
 chk (Kd.int IntKind.i64 :: [].append (Kd.int IntKind.i64 :: [].append (Kd.int IntKind.i64 :: [].append [])))
 [cell p43 0, cell p43 1, cell p43 2] =
 true then
 if (!peqL [cell p42 0, cell p42 1, cell p42 2] [cell p43 0, cell p43 1, cell p43 2]) = true then
 some (PV.bool false)
 else
 rec41
 (IntKind.i64.wrap (s40.fst + 1), s40.snd.fst, s40.snd.snd.fst, s40.snd.snd.snd.fst, s40.snd.snd.snd.snd.fst,
 s40.snd.snd.snd.snd.snd.fst, s40.snd.snd.snd.snd.snd.snd.fst, s40.snd.snd.snd.snd.snd.snd.snd.fst,
 s40.snd.snd.snd.snd.snd.snd.snd.snd.fst, s40.snd.snd.snd.snd.snd.snd.snd.snd.snd.fst,
 s40.snd.snd.snd.snd.snd.snd.snd.snd.snd.snd.fst, s40.snd.snd.snd.snd.snd.snd.snd.snd.snd.snd.snd.fst,
 s40.snd.snd.snd.snd.snd.snd.snd.snd.snd.snd.snd.snd.fst,
 s40.snd.snd.snd.snd.snd.snd.snd.snd.snd.snd.snd.snd.snd.fst,
 s40.snd.snd.snd.snd.snd.snd.snd.snd.snd.snd.snd.snd.snd.snd.fst,
 s40.snd.snd.snd.snd.snd.snd.snd.snd.snd.snd.snd.snd.snd.snd.snd.fst,
 s40.snd.snd.snd.snd.snd.snd.snd.snd.snd.snd.snd.snd.snd.snd.snd.snd.fst,
 s40.snd.snd.snd.snd.snd.snd.snd.snd.snd.snd.snd.snd.snd.snd.snd.snd.snd.fst,
 s40.snd.snd.snd.snd.snd.snd.snd.snd.snd.snd.snd.snd.snd.snd.snd.snd.snd.snd.fst,
 s40.snd.snd.snd.snd.snd.snd.snd.snd.snd.snd.snd.snd.snd.snd.snd.snd.snd.snd.snd.fst,
 s40.snd.snd.snd.snd.snd.snd.snd.snd.snd.snd.snd.snd.snd.snd.snd.snd.snd.snd.snd.snd.fst,
 s40.snd.snd.snd.snd.snd.snd.snd.snd.snd.snd.snd.snd.snd.snd.snd.snd.snd.snd.snd.snd.snd.fst,
 s40.snd.snd.snd.snd.snd.snd.snd.snd.snd.snd.snd.snd.snd.snd.snd.snd.snd.snd.snd.snd.snd.snd.fst,
 s40.snd.snd.snd.snd.snd.snd.snd.snd.snd.snd.snd.snd.snd.snd.snd.snd.snd.snd.snd.snd.snd.snd.snd.fst,
 s40.snd.snd.snd.snd.snd.snd.snd.snd.snd.snd.snd.snd.snd.snd.snd.snd.snd.snd.snd.snd.snd.snd.snd.snd.fst,
 s40.snd.snd.snd.snd.snd.snd.snd.snd.snd.snd.snd.snd.snd.snd.snd.snd.snd.snd.snd.snd.snd.snd.snd.snd.snd.fst,
 s40.snd.snd.snd.snd.snd.snd.snd.snd.snd.snd.snd.snd.snd.snd.snd.snd.snd.snd.snd.snd.snd.snd.snd.snd.snd.snd.fst,
 ())
 else none
else
 L.run (ref22_tails_L2 L)
 (0, s40.snd.fst, s40.snd.snd.fst, s40.snd.snd.snd.fst, s40.snd.snd.snd.snd.fst, s40.snd.snd.snd.snd.snd.fst,
 s40.snd.snd.snd.snd.snd.snd.fst, s40.snd.snd.snd.snd.snd.snd.snd.fst, s40.snd.snd.snd.snd.snd.snd.snd.snd.fst,
 s40.snd.snd.snd.snd.snd.snd.snd.snd.snd.fst, s40.snd.snd.snd.snd.snd.snd.snd.snd.snd.snd.fst,
 s40.snd.snd.snd.snd.snd.snd.snd.snd.snd.snd.snd.fst, s40.snd.snd.snd.snd.snd.snd.snd.snd.snd.snd.snd.snd.fst,
 s40.snd.snd.snd.snd.snd.snd.snd.snd.snd.snd.snd.snd.snd.fst,
 s40.snd.snd.snd.snd.snd.snd.snd.snd.snd.snd.snd.snd.snd.snd.fst,
 s40.snd.snd.snd.snd.snd.snd.snd.snd.snd.snd.snd.snd.snd.snd.snd.fst,
 s40.snd.snd.snd.snd.snd.snd.snd.snd.snd.snd.snd.snd.snd.snd.snd.snd.fst,
 s40.snd.snd.snd.snd.snd.snd.snd.snd.snd.snd.snd.snd.snd.snd.snd.snd.snd.fst,
 s40.snd.snd.snd.snd.snd.snd.snd.snd.snd.snd.snd.snd.snd.snd.snd.snd.snd.snd.fst,
 s40.snd.snd.snd.snd.snd.snd.snd.snd.snd.snd.snd.snd.snd.snd.snd.snd.snd.snd.snd.fst,
 s40.snd.snd.snd.snd.snd.snd.snd.snd.snd.snd.snd.snd.snd.snd.snd.snd.snd.snd.snd.snd.fst,
 s40.snd.snd.snd.snd.snd.snd.snd.snd.snd.snd.snd.snd.snd.snd.snd.snd.snd.snd.snd.snd.snd.fst,
 s40.snd.snd.snd.snd.snd.snd.snd.snd.snd.snd.snd.snd.snd.snd.snd.snd.snd.snd.snd.snd.snd.snd.fst,
 s40.snd.snd.snd.snd.snd.snd.snd.snd.snd.snd.snd.snd.snd.snd.snd.snd.snd.snd.snd.snd.snd.snd.snd.fst,
 s40.snd.snd.snd.snd.snd.snd.snd.snd.snd.snd.snd.snd.snd.snd.snd.snd.snd.snd.snd.snd.snd.snd.snd.snd.fst,
 s40.snd.snd.snd.snd.snd.snd.snd.snd.snd.snd.snd.snd.snd.snd.snd.snd.snd.snd.snd.snd.snd.snd.snd.snd.snd.fst,
 s40.snd.snd.snd.snd.snd.snd.snd.snd.snd.snd.snd.snd.snd.snd.snd.snd.snd.snd.snd.snd.snd.snd.snd.snd.snd.snd.fst,
 ())
def ref22_tails_L4 (L : Lps) : (Int ×
 List PV ×
 List PV ×
 List PV ×
 List PV ×
 List PV ×
 List PV ×
 List PV ×
 List PV ×
 List PV ×
 List PV ×
 Int ×
 Int ×
 Int ×
 List PV ×
 List PV ×
 List PV ×
 List PV ×
 List PV × List PV × List PV × List PV × List PV × List PV × Int × Int × Int × Unit) → (Int ×
 List PV ×
 List PV ×
 List PV ×
 List PV ×
 List PV ×
 List PV ×
 List PV ×
 List PV ×
 List PV ×
 List PV ×
 Int ×
 Int ×
 Int ×
 List PV ×
 List PV ×
 List PV ×
 List PV ×
 List PV ×
 List PV × List PV × List PV × List PV × List PV × Int × Int × Int × Unit →
 Option PV) → Option PV := fun s36 rec37 =>
 if decide (s36.fst < (↑s36.snd.snd.snd.snd.snd.snd.snd.fst.length : Int)) = true then
 (idxP s36.snd.snd.snd.snd.snd.snd.snd.fst s36.fst).bind fun p38 =>
 (idxP s36.snd.snd.snd.snd.snd.snd.snd.snd.snd.snd.snd.snd.snd.snd.snd.snd.snd.snd.snd.snd.fst s36.fst).bind
 fun p39 =>
 if
 chk (Kd.int IntKind.i64 :: [].append (Kd.int IntKind.i64 :: [].append [])) [cell p38 0, cell p38 1] = true ∧
 chk (Kd.int IntKind.i64 :: [].append (Kd.int IntKind.i64 :: [].append [])) [cell p39 0, cell p39 1] =
 true then
 if (!peqL [cell p38 0, cell p38 1] [cell p39 0, cell p39 1]) = true then some (PV.bool false)
 else
 rec37
 (IntKind.i64.wrap (s36.fst + 1), s36.snd.fst, s36.snd.snd.fst, s36.snd.snd.snd.fst, s36.snd.snd.snd.snd.fst,
 s36.snd.snd.snd.snd.snd.fst, s36.snd.snd.snd.snd.snd.snd.fst, s36.snd.snd.snd.snd.snd.snd.snd.fst,
 s36.snd.snd.snd.snd.snd.snd.snd.snd.fst, s36.snd.snd.snd.snd.snd.snd.snd.snd.snd.fst,
 s36.snd.snd.snd.snd.snd.snd.snd.snd.snd.snd.fst, s36.snd.snd.snd.snd.snd.snd.snd.snd.snd.snd.snd.fst,
 s36.snd.snd.snd.snd.snd.snd.snd.snd.snd.snd.snd.snd.fst,
 s36.snd.snd.snd.snd.snd.snd.snd.snd.snd.snd.snd.snd.snd.fst,
 s36.snd.snd.snd.snd.snd.snd.snd.snd.snd.snd.snd.snd.snd.snd.fst,
 s36.snd.snd.snd.snd.snd.snd.snd.snd.snd.snd.snd.snd.snd.snd.snd.fst,
 s36.snd.snd.snd.snd.snd.snd.snd.snd.snd.snd.snd.snd.snd.snd.snd.snd.fst,
 s36.snd.snd.snd.snd.snd.snd.snd.snd.snd.snd.snd.snd.snd.snd.snd.snd.snd.fst,
 s36.snd.snd.snd.snd.snd.snd.snd.snd.snd.snd.snd.snd.snd.snd.snd.snd.snd.snd.fst,
 s36.snd.snd.snd.snd.snd.snd.snd.snd.snd.snd.snd.snd.snd.snd.snd.snd.snd.snd.snd.fst,
 s36.snd.snd.snd.snd.snd.snd.snd.snd.snd.snd.snd.snd.snd.snd.snd.snd.snd.snd.snd.snd.fst,
 s36.snd.snd.snd.snd.snd.snd.snd.snd.snd.snd.snd.snd.snd.snd.snd.snd.snd.snd.snd.snd.snd.fst,
 s36.snd.snd.snd.snd.snd.snd.snd.snd.snd.snd.snd.snd.snd.snd.snd.snd.snd.snd.snd.snd.snd.snd.fst,
 s36.snd.snd.snd.snd.snd.snd.snd.snd.snd.snd.snd.snd.snd.snd.snd.snd.snd.snd.snd.snd.snd.snd.snd.fst,
 s36.snd.snd.snd.snd.snd.snd.snd.snd.snd.snd.snd.snd.snd.snd.snd.snd.snd.snd.snd.snd.snd.snd.snd.snd.fst,
 s36.snd.snd.snd.snd.snd.snd.snd.snd.snd.snd.snd.snd.snd.snd.snd.snd.snd.snd.snd.snd.snd.snd.snd.snd.snd.fst,
 s36.snd.snd.snd.snd.snd.snd.snd.snd.snd.snd.snd.snd.snd.snd.snd.snd.snd.snd.snd.snd.snd.snd.snd.snd.snd.snd.fst,
 ())
 else none
else
 L.run (ref22_tails_L3 L)
 (0, s36.snd.fst, s36.snd.snd.fst, s36.snd.snd.snd.fst, s36.snd.snd.snd.snd.fst, s36.snd.snd.snd.snd.snd.fst,
 s36.snd.snd.snd.snd.snd.snd.fst, s36.snd.snd.snd.snd.snd.snd.snd.fst, s36.snd.snd.snd.snd.snd.snd.snd.snd.fst,
 s36.snd.snd.snd.snd.snd.snd.snd.snd.snd.fst, s36.snd.snd.snd.snd.snd.snd.snd.snd.snd.snd.fst,
 s36.snd.snd.snd.snd.snd.snd.snd.snd.snd.snd.snd.fst, s36.snd.snd.snd.snd.snd.snd.snd.snd.snd.snd.snd.snd.fst,
 s36.snd.snd.snd.snd.snd.snd.snd.snd.snd.snd.snd.snd.snd.fst,
 s36.snd.snd.snd.snd.snd.snd.snd.snd.snd.snd.snd.snd.snd.snd.fst,
 s36.snd.snd.snd.snd.snd.snd.snd.snd.snd.snd.snd.snd.snd.snd.snd.fst,
 s36.snd.snd.snd.snd.snd.snd.snd.snd.snd.snd.snd.snd.snd.snd.snd.snd.fst,
 s36.snd.snd.snd.snd.snd.snd.snd.snd.snd.snd.snd.snd.snd.snd.snd.snd.snd.fst,
 s36.snd.snd.snd.snd.snd.snd.snd.snd.snd.snd.snd.snd.snd.snd.snd.snd.snd.snd.fst,
 s36.snd.snd.snd.snd.snd.snd.snd.snd.snd.snd.snd.snd.snd.snd.snd.snd.snd.snd.snd.fst,
 s36.snd.snd.snd.snd.snd.snd.snd.snd.snd.snd.snd.snd.snd.snd.snd.snd.snd.snd.snd.snd.fst,
 s36.snd.snd.snd.snd.snd.snd.snd.snd.snd.snd.snd.snd.snd.snd.snd.snd.snd.snd.snd.snd.snd.fst,
 s36.snd.snd.snd.snd.snd.snd.snd.snd.snd.snd.snd.snd.snd.snd.snd.snd.snd.snd.snd.snd.snd.snd.fst,
 s36.snd.snd.snd.snd.snd.snd.snd.snd.snd.snd.snd.snd.snd.snd.snd.snd.snd.snd.snd.snd.snd.snd.snd.fst,
 s36.snd.snd.snd.snd.snd.snd.snd.snd.snd.snd.snd.snd.snd.snd.snd.snd.snd.snd.snd.snd.snd.snd.snd.snd.fst,
 s36.snd.snd.snd.snd.snd.snd.snd.snd.snd.snd.snd.snd.snd.snd.snd.snd.snd.snd.snd.snd.snd.snd.snd.snd.snd.fst,
 s36.snd.snd.snd.snd.snd.snd.snd.snd.snd.snd.snd.snd.snd.snd.snd.snd.snd.snd.snd.snd.snd.snd.snd.snd.snd.snd.fst,
 ())
def ref22_tails_L5 (L : Lps) : (Int ×
 List PV ×
 List PV ×
 List PV ×
 List PV ×
 List PV ×
 List PV ×
 List PV ×
 List PV ×
 List PV ×
 List PV ×
 Int ×
 Int ×
 Int ×
 List PV ×
 List PV ×
 List PV ×
 List PV ×
 List PV × List PV × List PV × List PV × List PV × List PV × Int × Int × Int × Unit) → (Int ×
 List PV ×
 List PV ×
 List PV ×
 List PV ×
 List PV ×
 List PV ×
 List PV ×
 List PV ×
 List PV ×
 List PV ×
 Int ×
 Int ×
 Int ×
 List PV ×
 List PV ×
 List PV ×
 List PV ×
 List PV ×
 List PV × List PV × List PV × List PV × List PV × Int × Int × Int × Unit →
 Option PV) → Option PV := fun s32 rec33 =>
 if decide (s32.fst < (↑s32.snd.snd.snd.snd.snd.snd.fst.length : Int)) = true then
 (idxP s32.snd.snd.snd.snd.snd.snd.fst s32.fst).bind fun p34 =>
 (idxP s32.snd.snd.snd.snd.snd.snd.snd.snd.snd.snd.snd.snd.snd.snd.snd.snd.snd.snd.snd.fst s32.fst).bind fun p35 =>
 if
 chk
 (Kd.int IntKind.i64 ::
 [].append
 (Kd.int IntKind.i64 ::
 [].append (Kd.int IntKind.i64 :: [].append (Kd.int IntKind.i64 :: [].append []))))
 [cell p34 0, cell p34 1, cell p34 2, cell p34 3] =
 true ∧
 chk
 (Kd.int IntKind.i64 ::
 [].append
 (Kd.int IntKind.i64 ::
 [].append (Kd.int IntKind.i64 :: [].append (Kd.int IntKind.i64 :: [].append []))))
 [cell p35 0, cell p35 1, cell p35 2, cell p35 3] =
 true then
 if
 (!peqL [cell p34 0, cell p34 1, cell p34 2, cell p34 3] [cell p35 0, cell p35 1, cell p35 2, cell p35 3]) =
 true then
 some (PV.bool false)
 else
 rec33
 (IntKind.i64.wrap (s32.fst + 1), s32.snd.fst, s32.snd.snd.fst, s32.snd.snd.snd.fst, s32.snd.snd.snd.snd.fst,
 s32.snd.snd.snd.snd.snd.fst, s32.snd.snd.snd.snd.snd.snd.fst, s32.snd.snd.snd.snd.snd.snd.snd.fst,
 s32.snd.snd.snd.snd.snd.snd.snd.snd.fst, s32.snd.snd.snd.snd.snd.snd.snd.snd.snd.fst,
 s32.snd.snd.snd.snd.snd.snd.snd.snd.snd.snd.fst, s32.snd.snd.snd.snd.snd.snd.snd.snd.snd.snd.snd.fst,
 s32.snd.snd.snd.snd.snd.snd.snd.snd.snd.snd.snd.snd.fst,
 s32.snd.snd.snd.snd.snd.snd.snd.snd.snd.snd.snd.snd.snd.fst,
 s32.snd.snd.snd.snd.snd.snd.snd.snd.snd.snd.snd.snd.snd.snd.fst,
 s32.snd.snd.snd.snd.snd.snd.snd.snd.snd.snd.snd.snd.snd.snd.snd.fst,
 s32.snd.snd.snd.snd.snd.snd.snd.snd.snd.snd.snd.snd.snd.snd.snd.snd.fst,
 s32.snd.snd.snd.snd.snd.snd.snd.snd.snd.snd.snd.snd.snd.snd.snd.snd.snd.fst,
 s32.snd.snd.snd.snd.snd.snd.snd.snd.snd.snd.snd.snd.snd.snd.snd.snd.snd.snd.fst,
 s32.snd.snd.snd.snd.snd.snd.snd.snd.snd.snd.snd.snd.snd.snd.snd.snd.snd.snd.snd.fst,
 s32.snd.snd.snd.snd.snd.snd.snd.snd.snd.snd.snd.snd.snd.snd.snd.snd.snd.snd.snd.snd.fst,
 s32.snd.snd.snd.snd.snd.snd.snd.snd.snd.snd.snd.snd.snd.snd.snd.snd.snd.snd.snd.snd.snd.fst,
 s32.snd.snd.snd.snd.snd.snd.snd.snd.snd.snd.snd.snd.snd.snd.snd.snd.snd.snd.snd.snd.snd.snd.fst,
 s32.snd.snd.snd.snd.snd.snd.snd.snd.snd.snd.snd.snd.snd.snd.snd.snd.snd.snd.snd.snd.snd.snd.snd.fst,
 s32.snd.snd.snd.snd.snd.snd.snd.snd.snd.snd.snd.snd.snd.snd.snd.snd.snd.snd.snd.snd.snd.snd.snd.snd.fst,
 s32.snd.snd.snd.snd.snd.snd.snd.snd.snd.snd.snd.snd.snd.snd.snd.snd.snd.snd.snd.snd.snd.snd.snd.snd.snd.fst,
 s32.snd.snd.snd.snd.snd.snd.snd.snd.snd.snd.snd.snd.snd.snd.snd.snd.snd.snd.snd.snd.snd.snd.snd.snd.snd.snd.fst,
 ())
 else none
else
 L.run (ref22_tails_L4 L)
 (0, s32.snd.fst, s32.snd.snd.fst, s32.snd.snd.snd.fst, s32.snd.snd.snd.snd.fst, s32.snd.snd.snd.snd.snd.fst,
 s32.snd.snd.snd.snd.snd.snd.fst, s32.snd.snd.snd.snd.snd.snd.snd.fst, s32.snd.snd.snd.snd.snd.snd.snd.snd.fst,
 s32.snd.snd.snd.snd.snd.snd.snd.snd.snd.fst, s32.snd.snd.snd.snd.snd.snd.snd.snd.snd.snd.fst,
 s32.snd.snd.snd.snd.snd.snd.snd.snd.snd.snd.snd.fst, s32.snd.snd.snd.snd.snd.snd.snd.snd.snd.snd.snd.snd.fst,
 s32.snd.snd.snd.snd.snd.snd.snd.snd.snd.snd.snd.snd.snd.fst,
 s32.snd.snd.snd.snd.snd.snd.snd.snd.snd.snd.snd.snd.snd.snd.fst,
 s32.snd.snd.snd.snd.snd.snd.snd.snd.snd.snd.snd.snd.snd.snd.snd.fst,
 s32.snd.snd.snd.snd.snd.snd.snd.snd.snd.snd.snd.snd.snd.snd.snd.snd.fst,
 s32.snd.snd.snd.snd.snd.snd.snd.snd.snd.snd.snd.snd.snd.snd.snd.snd.snd.fst,
 s32.snd.snd.snd.snd.snd.snd.snd.snd.snd.snd.snd.snd.snd.snd.snd.snd.snd.snd.fst,
 s32.snd.snd.snd.snd.snd.snd.snd.snd.snd.snd.snd.snd.snd.snd.snd.snd.snd.snd.snd.fst,
 s32.snd.snd.snd.snd.snd.snd.snd.snd.snd.snd.snd.snd.snd.snd.snd.snd.snd.snd.snd.snd.fst,
 s32.snd.snd.snd.snd.snd.snd.snd.snd.snd.snd.snd.snd.snd.snd.snd.snd.snd.snd.snd.snd.snd.fst,
 s32.snd.snd.snd.snd.snd.snd.snd.snd.snd.snd.snd.snd.snd.snd.snd.snd.snd.snd.snd.snd.snd.snd.fst,
 s32.snd.snd.snd.snd.snd.snd.snd.snd.snd.snd.snd.snd.snd.snd.snd.snd.snd.snd.snd.snd.snd.snd.snd.fst,
 s32.snd.snd.snd.snd.snd.snd.snd.snd.snd.snd.snd.snd.snd.snd.snd.snd.snd.snd.snd.snd.snd.snd.snd.snd.fst,
 s32.snd.snd.snd.snd.snd.snd.snd.snd.snd.snd.snd.snd.snd.snd.snd.snd.snd.snd.snd.snd.snd.snd.snd.snd.snd.fst,
 s32.snd.snd.snd.snd.snd.snd.snd.snd.snd.snd.snd.snd.snd.snd.snd.snd.snd.snd.snd.snd.snd.snd.snd.snd.snd.snd.fst,
 ())
def ref22_tails (L : Lps) (p0 : PV) (p1 : PV) : Option PV :=
 (Ab.asAgg 13 p0).bind fun x0 =>
 (asSl 4 (cell p0 0)).bind fun es1 =>
 (asSl 3 (cell p0 1)).bind fun es2 =>
 (asSl 10 (cell p0 2)).bind fun es3 =>
 (asSl 3 (cell p0 3)).bind fun es4 =>
 (asSl 5 (cell p0 4)).bind fun es5 =>
 (asSl 4 (cell p0 5)).bind fun es6 =>
 (asSl 2 (cell p0 6)).bind fun es7 =>
 (asSl 3 (cell p0 7)).bind fun es8 =>
 (asSl 4 (cell p0 8)).bind fun es9 =>
 (asSl 6 (cell p0 9)).bind fun es10 =>
 (Ab.asInt IntKind.i64 (cell p0 10)).bind fun n11 =>
 (Ab.asInt IntKind.i64 (cell p0 11)).bind fun n12 =>
 (Ab.asInt IntKind.i64 (cell p0 12)).bind fun n13 =>
 (Ab.asAgg 13 p1).bind fun x14 =>
 (asSl 4 (cell p1 0)).bind fun es15 =>
 (asSl 3 (cell p1 1)).bind fun es16 =>
 (asSl 10 (cell p1 2)).bind fun es17 =>
 (asSl 3 (cell p1 3)).bind fun es18 =>
 (asSl 5 (cell p1 4)).bind fun es19 =>
 (asSl 4 (cell p1 5)).bind fun es20 =>
 (asSl 2 (cell p1 6)).bind fun es21 =>
 (asSl 3 (cell p1 7)).bind fun es22 =>
 (asSl 4 (cell p1 8)).bind fun es23 =>
 (asSl 6 (cell p1 9)).bind fun es24 =>
 (Ab.asInt IntKind.i64 (cell p1 10)).bind fun n25 =>
 (Ab.asInt IntKind.i64 (cell p1 11)).bind fun n26 =>
 (Ab.asInt IntKind.i64 (cell p1 12)).bind fun n27 =>
 (bif (↑es6.length : Int) != (↑es20.length : Int) then some true
 else
 some ((↑es7.length : Int) != (↑es21.length : Int))).bind
 fun r28 =>
 (bif r28 then some true
 else
 some ((↑es8.length : Int) != (↑es22.length : Int))).bind
 fun r29 =>
 (bif r29 then some true
 else
 some
 ((↑es9.length : Int) != (↑es23.length : Int))).bind
 fun r30 =>
 (bif r30 then some true
 else
 some
 ((↑es10.length : Int) !=
 (↑es24.length : Int))).bind
 fun r31 =>
 if r31 = true then some (PV.bool false)
 else
 L.run (ref22_tails_L5 L)
 (0, es1, es2, es3, es4, es5, es6, es7, es8, es9,
 es10, n11, n12, n13, es15, es16, es17, es18, es19,
 es20, es21, es22, es23, es24, n25, n26, n27, ())
def ref22_tails_M : List PV → Option PV
  | [p0, p1] => ref22_tails lpS p0 p1
  | _ => none
def ref22_trips_L1 (rec3 : List PV × List PV × Int × Unit → Option PV) : (List PV × List PV × Int × Int × Unit) → (List PV × List PV × Int × Int × Unit → Option PV) → Option PV := fun s28 rec29 =>
 (idxP s28.fst s28.snd.snd.fst).bind fun p30 =>
 (asSl 5 (cell p30 4)).bind fun es31 =>
 if decide (s28.snd.snd.snd.fst < (↑es31.length : Int)) = true then
 (idxP s28.fst s28.snd.snd.fst).bind fun p32 =>
 (asSl 5 (cell p32 4)).bind fun es33 =>
 (idxP es33 s28.snd.snd.snd.fst).bind fun p34 =>
 (idxP s28.snd.fst s28.snd.snd.fst).bind fun p35 =>
 (asSl 5 (cell p35 4)).bind fun es36 =>
 (idxP es36 s28.snd.snd.snd.fst).bind fun p37 =>
 if
 chk
 (Kd.int IntKind.i64 ::
 [].append
 (Kd.int IntKind.i64 ::
 [].append
 (Kd.int IntKind.i64 :: [].append (Kd.bool :: [].append (Kd.bool :: [].append [])))))
 [cell p34 0, cell p34 1, cell p34 2, cell p34 3, cell p34 4] =
 true ∧
 chk
 (Kd.int IntKind.i64 ::
 [].append
 (Kd.int IntKind.i64 ::
 [].append
 (Kd.int IntKind.i64 :: [].append (Kd.bool :: [].append (Kd.bool :: [].append [])))))
 [cell p37 0, cell p37 1, cell p37 2, cell p37 3, cell p37 4] =
 true then
 if
 (!peqL [cell p34 0, cell p34 1, cell p34 2, cell p34 3, cell p34 4]
 [cell p37 0, cell p37 1, cell p37 2, cell p37 3, cell p37 4]) =
 true then
 some (PV.bool false)
 else rec29 (s28.fst, s28.snd.fst, s28.snd.snd.fst, IntKind.i64.wrap (s28.snd.snd.snd.fst + 1), ())
 else none
 else rec3 (s28.fst, s28.snd.fst, IntKind.i64.wrap (s28.snd.snd.fst + 1), ())
def ref22_trips_L2 (L : Lps) : (List PV × List PV × Int × Unit) → (List PV × List PV × Int × Unit → Option PV) → Option PV := fun s2 rec3 =>
 if decide (s2.snd.snd.fst < (↑s2.fst.length : Int)) = true then
 (idxP s2.fst s2.snd.snd.fst).bind fun p4 =>
 (asStr (cell p4 0)).bind fun s5 =>
 (idxP s2.snd.fst s2.snd.snd.fst).bind fun p6 =>
 (asStr (cell p6 0)).bind fun s7 =>
 (bif !s5 == s7 then some true
 else
 (idxP s2.fst s2.snd.snd.fst).bind fun p8 =>
 (Ab.asInt IntKind.i64 (cell p8 1)).bind fun n9 =>
 (idxP s2.snd.fst s2.snd.snd.fst).bind fun p10 =>
 (Ab.asInt IntKind.i64 (cell p10 1)).bind fun n11 => some (n9 != n11)).bind
 fun r12 =>
 (bif r12 then some true
 else
 (idxP s2.fst s2.snd.snd.fst).bind fun p13 =>
 (Ab.asInt IntKind.i64 (cell p13 2)).bind fun n14 =>
 (idxP s2.snd.fst s2.snd.snd.fst).bind fun p15 =>
 (Ab.asInt IntKind.i64 (cell p15 2)).bind fun n16 => some (n14 != n16)).bind
 fun r17 =>
 (bif r17 then some true
 else
 (idxP s2.fst s2.snd.snd.fst).bind fun p18 =>
 (Ab.asBool (cell p18 3)).bind fun b19 =>
 (idxP s2.snd.fst s2.snd.snd.fst).bind fun p20 =>
 (Ab.asBool (cell p20 3)).bind fun b21 => some !b19 == b21).bind
 fun r22 =>
 (bif r22 then some true
 else
 (idxP s2.fst s2.snd.snd.fst).bind fun p23 =>
 (asSl 5 (cell p23 4)).bind fun es24 =>
 (idxP s2.snd.fst s2.snd.snd.fst).bind fun p25 =>
 (asSl 5 (cell p25 4)).bind fun es26 =>
 some ((↑es24.length : Int) != (↑es26.length : Int))).bind
 fun r27 =>
 if r27 = true then some (PV.bool false)
 else L.run (ref22_trips_L1 rec3) (s2.fst, s2.snd.fst, s2.snd.snd.fst, 0, ())
else some (PV.bool true)
def ref22_trips (L : Lps) (p0 : PV) (p1 : PV) : Option PV :=
 (asSl 5 p0).bind fun es0 =>
 (asSl 5 p1).bind fun es1 =>
 if ((↑es0.length : Int) != (↑es1.length : Int)) = true then some (PV.bool false)
 else L.run (ref22_trips_L2 L) (es0, es1, 0, ())
def ref22_trips_M : List PV → Option PV
  | [p0, p1] => ref22_trips lpS p0 p1
  | _ => none
def ref22_Equal (L : Lps) (p0 : PV) (p1 : PV) : Option PV :=
 (Ab.asAgg 13 p0).bind fun x0 =>
 (asSl 4 (cell p0 0)).bind fun es1 =>
 (asSl 3 (cell p0 1)).bind fun es2 =>
 (asSl 10 (cell p0 2)).bind fun es3 =>
 (asSl 3 (cell p0 3)).bind fun es4 =>
 (asSl 5 (cell p0 4)).bind fun es5 =>
 (asSl 4 (cell p0 5)).bind fun es6 =>
 (asSl 2 (cell p0 6)).bind fun es7 =>
 (asSl 3 (cell p0 7)).bind fun es8 =>
 (asSl 4 (cell p0 8)).bind fun es9 =>
 (asSl 6 (cell p0 9)).bind fun es10 =>
 (Ab.asInt IntKind.i64 (cell p0 10)).bind fun n11 =>
 (Ab.asInt IntKind.i64 (cell p0 11)).bind fun n12 =>
 (Ab.asInt IntKind.i64 (cell p0 12)).bind fun n13 =>
 (Ab.asAgg 13 p1).bind fun x14 =>
 (asSl 4 (cell p1 0)).bind fun es15 =>
 (asSl 3 (cell p1 1)).bind fun es16 =>
 (asSl 10 (cell p1 2)).bind fun es17 =>
 (asSl 3 (cell p1 3)).bind fun es18 =>
 (asSl 5 (cell p1 4)).bind fun es19 =>
 (asSl 4 (cell p1 5)).bind fun es20 =>
 (asSl 2 (cell p1 6)).bind fun es21 =>
 (asSl 3 (cell p1 7)).bind fun es22 =>
 (asSl 4 (cell p1 8)).bind fun es23 =>
 (asSl 6 (cell p1 9)).bind fun es24 =>
 (Ab.asInt IntKind.i64 (cell p1 10)).bind fun n25 =>
 (Ab.asInt IntKind.i64 (cell p1 11)).bind fun n26 =>
 (Ab.asInt IntKind.i64 (cell p1 12)).bind fun n27 =>
 (ref22_heads_M
 [PV.agg
 [PV.rs 4 es1, PV.rs 3 es2, PV.rs 10 es3, PV.rs 3 es4,
 PV.rs 5 es5, PV.rs 4 es6, PV.rs 2 es7, PV.rs 3 es8,
 PV.rs 4 es9, PV.rs 6 es10, PV.int IntKind.i64 n11,
 PV.int IntKind.i64 n12, PV.int IntKind.i64 n13],
 PV.agg
 [PV.rs 4 es15, PV.rs 3 es16, PV.rs 10 es17,
 PV.rs 3 es18, PV.rs 5 es19, PV.rs 4 es20,
 PV.rs 2 es21, PV.rs 3 es22, PV.rs 4 es23,
 PV.rs 6 es24, PV.int IntKind.i64 n25,
 PV.int IntKind.i64 n26,
 PV.int IntKind.i64 n27]]).bind
 fun r28 =>
 (Ab.asBool r28).bind fun b29 =>
 (bif b29 then
 (ref22_trips_M [PV.rs 5 es5, PV.rs 5 es19]).bind
 fun r30 => (Ab.asBool r30).bind fun b31 => some b31
 else some false).bind
 fun r32 =>
 (bif r32 then
 (ref22_tails_M
 [PV.agg
 [PV.rs 4 es1, PV.rs 3 es2, PV.rs 10 es3,
 PV.rs 3 es4, PV.rs 5 es5, PV.rs 4 es6,
 PV.rs 2 es7, PV.rs 3 es8, PV.rs 4 es9,
 PV.rs 6 es10, PV.int IntKind.i64 n11,
 PV.int IntKind.i64 n12,
 PV.int IntKind.i64 n13],
 PV.agg
 [PV.rs 4 es15, PV.rs 3 es16,
 PV.rs 10 es17, PV.rs 3 es18,
 PV.rs 5 es19, PV.rs 4 es20,
 PV.rs 2 es21, PV.rs 3 es22,
 PV.rs 4 es23, PV.rs 6 es24,
 PV.int IntKind.i64 n25,
 PV.int IntKind.i64 n26,
 PV.int IntKind.i64 n27]]).bind
 fun r33 =>
 (Ab.asBool r33).bind fun b34 => some b34
 else some false).bind
 fun r35 =>
 (bif r35 then some (n11 == n25) else some false).bind
 fun r36 =>
 (bif r36 then some (n12 == n26) else some false).bind
 fun r37 =>
 (bif r37 then some (n13 == n27)
 else some false).bind
 fun r38 => some (PV.bool r38)
def ref22_Equal_M : List PV → Option PV
  | [p0, p1] => ref22_Equal lpS p0 p1
  | _ => none
def timetable_same_Product_L1 : (List PV × List PV × Int × Int × Unit) → (List PV × List PV × Int × Int × Unit → Option PV) → Option PV := fun s2 rec3 =>
 if decide (s2.snd.snd.snd.fst < s2.snd.snd.fst) = true then
 (idxP s2.snd.fst s2.snd.snd.snd.fst).bind fun p4 =>
 (idxP s2.fst s2.snd.snd.snd.fst).bind fun p5 =>
 if
 chk
 (Kd.str ::
 [].append
 (Kd.int IntKind.i64 ::
 [].append
 (Kd.int IntKind.i64 ::
 [].append
 (Kd.int IntKind.i64 ::
 [].append (Kd.int IntKind.i64 :: [].append (Kd.int IntKind.i64 :: [].append []))))))
 [cell p4 0, cell p4 1, cell p4 2, cell p4 3, cell p4 4, cell p4 5] =
 true ∧
 chk
 (Kd.str ::
 [].append
 (Kd.int IntKind.i64 ::
 [].append
 (Kd.int IntKind.i64 ::
 [].append
 (Kd.int IntKind.i64 ::
 [].append (Kd.int IntKind.i64 :: [].append (Kd.int IntKind.i64 :: [].append []))))))
 [cell p5 0, cell p5 1, cell p5 2, cell p5 3, cell p5 4, cell p5 5] =
 true then
 if
 (!peqL [cell p4 0, cell p4 1, cell p4 2, cell p4 3, cell p4 4, cell p4 5]
 [cell p5 0, cell p5 1, cell p5 2, cell p5 3, cell p5 4, cell p5 5]) =
 true then
 some (PV.bool false)
 else rec3 (s2.fst, s2.snd.fst, s2.snd.snd.fst, IntKind.i64.wrap (s2.snd.snd.snd.fst + 1), ())
 else none
else some (PV.bool true)
def timetable_same_Product (L : Lps) (p0 : PV) (p1 : PV) : Option PV :=
 (asSl 6 p0).bind fun es0 =>
 (asSl 6 p1).bind fun es1 =>
 if ((↑es0.length : Int) != (↑es1.length : Int)) = true then some (PV.bool false)
 else L.run timetable_same_Product_L1 (es1, es0, (↑es0.length : Int), 0, ())
def timetable_same_Product_M : List PV → Option PV
  | [p0, p1] => timetable_same_Product lpS p0 p1
  | _ => none
def timetable_sameFares (L : Lps) (p0 : PV) (p1 : PV) : Option PV :=
 (Ab.asAgg 4 p0).bind fun x0 =>
 (asSl 6 (cell p0 0)).bind fun es1 =>
 (Ab.asInt IntKind.i64 (cell p0 1)).bind fun n2 =>
 (Ab.asInt IntKind.i64 (cell p0 2)).bind fun n3 =>
 (Ab.asInt IntKind.i64 (cell p0 3)).bind fun n4 =>
 (Ab.asAgg 4 p1).bind fun x5 =>
 (asSl 6 (cell p1 0)).bind fun es6 =>
 (Ab.asInt IntKind.i64 (cell p1 1)).bind fun n7 =>
 (Ab.asInt IntKind.i64 (cell p1 2)).bind fun n8 =>
 (Ab.asInt IntKind.i64 (cell p1 3)).bind fun n9 =>
 (bif n2 == n7 then some (n3 == n8) else some false).bind fun r10 =>
 (bif r10 then some (n4 == n9) else some false).bind fun r11 =>
 (bif r11 then
 (timetable_same_Product_M [PV.rs 6 es1, PV.rs 6 es6]).bind fun r12 =>
 (Ab.asBool r12).bind fun b13 => some b13
 else some false).bind
 fun r14 => some (PV.bool r14)
def timetable_sameFares_M : List PV → Option PV
  | [p0, p1] => timetable_sameFares lpS p0 p1
  | _ => none
def call_Equal_L1 : (List PV × List PV × Int × Int × Unit) → (List PV × List PV × Int × Int × Unit → Option PV) → Option PV := fun s2 rec3 =>
 if decide (s2.snd.snd.snd.fst < s2.snd.snd.fst) = true then
 (idxP s2.snd.fst s2.snd.snd.snd.fst).bind fun p4 =>
 (idxP s2.fst s2.snd.snd.snd.fst).bind fun p5 =>
 if
 chk
 (Kd.int IntKind.i64 ::
 [].append
 (Kd.int IntKind.i64 ::
 [].append (Kd.int IntKind.i64 :: [].append (Kd.bool :: [].append (Kd.bool :: [].append [])))))
 [cell p4 0, cell p4 1, cell p4 2, cell p4 3, cell p4 4] =
 true ∧
 chk
 (Kd.int IntKind.i64 ::
 [].append
 (Kd.int IntKind.i64 ::
 [].append (Kd.int IntKind.i64 :: [].append (Kd.bool :: [].append (Kd.bool :: [].append [])))))
 [cell p5 0, cell p5 1, cell p5 2, cell p5 3, cell p5 4] =
 true then
 if
 (!peqL [cell p4 0, cell p4 1, cell p4 2, cell p4 3, cell p4 4]
 [cell p5 0, cell p5 1, cell p5 2, cell p5 3, cell p5 4]) =
 true then
 some (PV.bool false)
 else rec3 (s2.fst, s2.snd.fst, s2.snd.snd.fst, IntKind.i64.wrap (s2.snd.snd.snd.fst + 1), ())
 else none
else some (PV.bool true)
def call_Equal (L : Lps) (p0 : PV) (p1 : PV) : Option PV :=
 (asSl 5 p0).bind fun es0 =>
 (asSl 5 p1).bind fun es1 =>
 if ((↑es0.length : Int) != (↑es1.length : Int)) = true then some (PV.bool false)
 else L.run call_Equal_L1 (es1, es0, (↑es0.length : Int), 0, ())
def call_Equal_M : List PV → Option PV
  | [p0, p1] => call_Equal lpS p0 p1
  | _ => none
def timetable_sameTrips_L1 : (List PV × List PV × Int × Int × Unit) → (List PV × List PV × Int × Int × Unit → Option PV) → Option PV := fun s2 rec3 =>
 if decide (s2.snd.snd.snd.fst < s2.snd.snd.fst) = true then
 (idxP s2.snd.fst s2.snd.snd.snd.fst).bind fun p4 =>
 (idxP s2.fst s2.snd.snd.snd.fst).bind fun p5 =>
 (asStr (cell p4 0)).bind fun s6 =>
 (asStr (cell p5 0)).bind fun s7 =>
 (bif !s6 == s7 then some true
 else
 (Ab.asInt IntKind.i64 (cell p4 1)).bind fun n8 =>
 (Ab.asInt IntKind.i64 (cell p5 1)).bind fun n9 => some (n8 != n9)).bind
 fun r10 =>
 (bif r10 then some true
 else
 (Ab.asInt IntKind.i64 (cell p4 2)).bind fun n11 =>
 (Ab.asInt IntKind.i64 (cell p5 2)).bind fun n12 => some (n11 != n12)).bind
 fun r13 =>
 (bif r13 then some true
 else
 (Ab.asBool (cell p4 3)).bind fun b14 =>
 (Ab.asBool (cell p5 3)).bind fun b15 => some !b14 == b15).bind
 fun r16 =>
 (bif r16 then some true
 else
 (asSl 5 (cell p4 4)).bind fun es17 =>
 (asSl 5 (cell p5 4)).bind fun es18 =>
 (call_Equal_M [PV.rs 5 es17, PV.rs 5 es18]).bind fun r19 =>
 (Ab.asBool r19).bind fun b20 => some !b20).bind
 fun r21 =>
 if r21 = true then some (PV.bool false)
 else rec3 (s2.fst, s2.snd.fst, s2.snd.snd.fst, IntKind.i64.wrap (s2.snd.snd.snd.fst + 1), ())
else some (PV.bool true)
def timetable_sameTrips (L : Lps) (p0 : PV) (p1 : PV) : Option PV :=
 (asSl 5 p0).bind fun es0 =>
 (asSl 5 p1).bind fun es1 =>
 if ((↑es0.length : Int) != (↑es1.length : Int)) = true then some (PV.bool false)
 else L.run timetable_sameTrips_L1 (es1, es0, (↑es0.length : Int), 0, ())
def timetable_sameTrips_M : List PV → Option PV
  | [p0, p1] => timetable_sameTrips lpS p0 p1
  | _ => none
def timetable_same_Calendar_L1 : (List PV × List PV × Int × Int × Unit) → (List PV × List PV × Int × Int × Unit → Option PV) → Option PV := fun s2 rec3 =>
 if decide (s2.snd.snd.snd.fst < s2.snd.snd.fst) = true then
 (idxP s2.snd.fst s2.snd.snd.snd.fst).bind fun p4 =>
 (idxP s2.fst s2.snd.snd.snd.fst).bind fun p5 =>
 if
 chk
 (Kd.str ::
 [].append
 (Kd.bool ::
 ([].append (kdsRep [Kd.bool] 6)).append
 (Kd.int IntKind.i64 :: [].append (Kd.int IntKind.i64 :: [].append []))))
 [cell p4 0, cell p4 1, cell p4 2, cell p4 3, cell p4 4, cell p4 5, cell p4 6, cell p4 7, cell p4 8,
 cell p4 9] =
 true ∧
 chk
 (Kd.str ::
 [].append
 (Kd.bool ::
 ([].append (kdsRep [Kd.bool] 6)).append
 (Kd.int IntKind.i64 :: [].append (Kd.int IntKind.i64 :: [].append []))))
 [cell p5 0, cell p5 1, cell p5 2, cell p5 3, cell p5 4, cell p5 5, cell p5 6, cell p5 7, cell p5 8,
 cell p5 9] =
 true then
 if
 (!peqL
 [cell p4 0, cell p4 1, cell p4 2, cell p4 3, cell p4 4, cell p4 5, cell p4 6, cell p4 7, cell p4 8,
 cell p4 9]
 [cell p5 0, cell p5 1, cell p5 2, cell p5 3, cell p5 4, cell p5 5, cell p5 6, cell p5 7, cell p5 8,
 cell p5 9]) =
 true then
 some (PV.bool false)
 else rec3 (s2.fst, s2.snd.fst, s2.snd.snd.fst, IntKind.i64.wrap (s2.snd.snd.snd.fst + 1), ())
 else none
else some (PV.bool true)
def timetable_same_Calendar (L : Lps) (p0 : PV) (p1 : PV) : Option PV :=
 (asSl 10 p0).bind fun es0 =>
 (asSl 10 p1).bind fun es1 =>
 if ((↑es0.length : Int) != (↑es1.length : Int)) = true then some (PV.bool false)
 else L.run timetable_same_Calendar_L1 (es1, es0, (↑es0.length : Int), 0, ())
def timetable_same_Calendar_M : List PV → Option PV
  | [p0, p1] => timetable_same_Calendar lpS p0 p1
  | _ => none
def timetable_same_Exception_L1 : (List PV × List PV × Int × Int × Unit) → (List PV × List PV × Int × Int × Unit → Option PV) → Option PV := fun s2 rec3 =>
 if decide (s2.snd.snd.snd.fst < s2.snd.snd.fst) = true then
 (idxP s2.snd.fst s2.snd.snd.snd.fst).bind fun p4 =>
 (idxP s2.fst s2.snd.snd.snd.fst).bind fun p5 =>
 if
 chk (Kd.int IntKind.i64 :: [].append (Kd.int IntKind.i64 :: [].append (Kd.bool :: [].append [])))
 [cell p4 0, cell p4 1, cell p4 2] =
 true ∧
 chk (Kd.int IntKind.i64 :: [].append (Kd.int IntKind.i64 :: [].append (Kd.bool :: [].append [])))
 [cell p5 0, cell p5 1, cell p5 2] =
 true then
 if (!peqL [cell p4 0, cell p4 1, cell p4 2] [cell p5 0, cell p5 1, cell p5 2]) = true then some (PV.bool false)
 else rec3 (s2.fst, s2.snd.fst, s2.snd.snd.fst, IntKind.i64.wrap (s2.snd.snd.snd.fst + 1), ())
 else none
else some (PV.bool true)
def timetable_same_Exception (L : Lps) (p0 : PV) (p1 : PV) : Option PV :=
 (asSl 3 p0).bind fun es0 =>
 (asSl 3 p1).bind fun es1 =>
 if ((↑es0.length : Int) != (↑es1.length : Int)) = true then some (PV.bool false)
 else L.run timetable_same_Exception_L1 (es1, es0, (↑es0.length : Int), 0, ())
def timetable_same_Exception_M : List PV → Option PV
  | [p0, p1] => timetable_same_Exception lpS p0 p1
  | _ => none
def timetable_same_Footpath_L1 : (List PV × List PV × Int × Int × Unit) → (List PV × List PV × Int × Int × Unit → Option PV) → Option PV := fun s2 rec3 =>
 if decide (s2.snd.snd.snd.fst < s2.snd.snd.fst) = true then
 (idxP s2.snd.fst s2.snd.snd.snd.fst).bind fun p4 =>
 (idxP s2.fst s2.snd.snd.snd.fst).bind fun p5 =>
 if
 chk
 (Kd.int IntKind.i64 ::
 [].append
 (Kd.int IntKind.i64 :: [].append (Kd.int IntKind.i64 :: [].append (Kd.bool :: [].append []))))
 [cell p4 0, cell p4 1, cell p4 2, cell p4 3] =
 true ∧
 chk
 (Kd.int IntKind.i64 ::
 [].append
 (Kd.int IntKind.i64 :: [].append (Kd.int IntKind.i64 :: [].append (Kd.bool :: [].append []))))
 [cell p5 0, cell p5 1, cell p5 2, cell p5 3] =
 true then
 if (!peqL [cell p4 0, cell p4 1, cell p4 2, cell p4 3] [cell p5 0, cell p5 1, cell p5 2, cell p5 3]) = true then
 some (PV.bool false)
 else rec3 (s2.fst, s2.snd.fst, s2.snd.snd.fst, IntKind.i64.wrap (s2.snd.snd.snd.fst + 1), ())
 else none
else some (PV.bool true)
def timetable_same_Footpath (L : Lps) (p0 : PV) (p1 : PV) : Option PV :=
 (asSl 4 p0).bind fun es0 =>
 (asSl 4 p1).bind fun es1 =>
 if ((↑es0.length : Int) != (↑es1.length : Int)) = true then some (PV.bool false)
 else L.run timetable_same_Footpath_L1 (es1, es0, (↑es0.length : Int), 0, ())
def timetable_same_Footpath_M : List PV → Option PV
  | [p0, p1] => timetable_same_Footpath lpS p0 p1
  | _ => none
def timetable_same_Frequency_L1 : (List PV × List PV × Int × Int × Unit) → (List PV × List PV × Int × Int × Unit → Option PV) → Option PV := fun s2 rec3 =>
 if decide (s2.snd.snd.snd.fst < s2.snd.snd.fst) = true then
 (idxP s2.snd.fst s2.snd.snd.snd.fst).bind fun p4 =>
 (idxP s2.fst s2.snd.snd.snd.fst).bind fun p5 =>
 if
 chk
 (Kd.int IntKind.i64 ::
 [].append
 (Kd.int IntKind.i64 ::
 [].append (Kd.int IntKind.i64 :: [].append (Kd.int IntKind.i64 :: [].append []))))
 [cell p4 0, cell p4 1, cell p4 2, cell p4 3] =
 true ∧
 chk
 (Kd.int IntKind.i64 ::
 [].append
 (Kd.int IntKind.i64 ::
 [].append (Kd.int IntKind.i64 :: [].append (Kd.int IntKind.i64 :: [].append []))))
 [cell p5 0, cell p5 1, cell p5 2, cell p5 3] =
 true then
 if (!peqL [cell p4 0, cell p4 1, cell p4 2, cell p4 3] [cell p5 0, cell p5 1, cell p5 2, cell p5 3]) = true then
 some (PV.bool false)
 else rec3 (s2.fst, s2.snd.fst, s2.snd.snd.fst, IntKind.i64.wrap (s2.snd.snd.snd.fst + 1), ())
 else none
else some (PV.bool true)
def timetable_same_Frequency (L : Lps) (p0 : PV) (p1 : PV) : Option PV :=
 (asSl 4 p0).bind fun es0 =>
 (asSl 4 p1).bind fun es1 =>
 if ((↑es0.length : Int) != (↑es1.length : Int)) = true then some (PV.bool false)
 else L.run timetable_same_Frequency_L1 (es1, es0, (↑es0.length : Int), 0, ())
def timetable_same_Frequency_M : List PV → Option PV
  | [p0, p1] => timetable_same_Frequency lpS p0 p1
  | _ => none
def timetable_same_Guarantee_L1 : (List PV × List PV × Int × Int × Unit) → (List PV × List PV × Int × Int × Unit → Option PV) → Option PV := fun s2 rec3 =>
 if decide (s2.snd.snd.snd.fst < s2.snd.snd.fst) = true then
 (idxP s2.snd.fst s2.snd.snd.snd.fst).bind fun p4 =>
 (idxP s2.fst s2.snd.snd.snd.fst).bind fun p5 =>
 if
 chk (Kd.int IntKind.i64 :: [].append (Kd.int IntKind.i64 :: [].append (Kd.int IntKind.i64 :: [].append [])))
 [cell p4 0, cell p4 1, cell p4 2] =
 true ∧
 chk (Kd.int IntKind.i64 :: [].append (Kd.int IntKind.i64 :: [].append (Kd.int IntKind.i64 :: [].append [])))
 [cell p5 0, cell p5 1, cell p5 2] =
 true then
 if (!peqL [cell p4 0, cell p4 1, cell p4 2] [cell p5 0, cell p5 1, cell p5 2]) = true then some (PV.bool false)
 else rec3 (s2.fst, s2.snd.fst, s2.snd.snd.fst, IntKind.i64.wrap (s2.snd.snd.snd.fst + 1), ())
 else none
else some (PV.bool true)
def timetable_same_Guarantee (L : Lps) (p0 : PV) (p1 : PV) : Option PV :=
 (asSl 3 p0).bind fun es0 =>
 (asSl 3 p1).bind fun es1 =>
 if ((↑es0.length : Int) != (↑es1.length : Int)) = true then some (PV.bool false)
 else L.run timetable_same_Guarantee_L1 (es1, es0, (↑es0.length : Int), 0, ())
def timetable_same_Guarantee_M : List PV → Option PV
  | [p0, p1] => timetable_same_Guarantee lpS p0 p1
  | _ => none
def timetable_same_Route_L1 : (List PV × List PV × Int × Int × Unit) → (List PV × List PV × Int × Int × Unit → Option PV) → Option PV := fun s2 rec3 =>
 if decide (s2.snd.snd.snd.fst < s2.snd.snd.fst) = true then
 (idxP s2.snd.fst s2.snd.snd.snd.fst).bind fun p4 =>
 (idxP s2.fst s2.snd.snd.snd.fst).bind fun p5 =>
 if
 chk (Kd.str :: [].append (Kd.int IntKind.i64 :: [].append (Kd.bool :: [].append [])))
 [cell p4 0, cell p4 1, cell p4 2] =
 true ∧
 chk (Kd.str :: [].append (Kd.int IntKind.i64 :: [].append (Kd.bool :: [].append [])))
 [cell p5 0, cell p5 1, cell p5 2] =
 true then
 if (!peqL [cell p4 0, cell p4 1, cell p4 2] [cell p5 0, cell p5 1, cell p5 2]) = true then some (PV.bool false)
 else rec3 (s2.fst, s2.snd.fst, s2.snd.snd.fst, IntKind.i64.wrap (s2.snd.snd.snd.fst + 1), ())
 else none
else some (PV.bool true)
def timetable_same_Route (L : Lps) (p0 : PV) (p1 : PV) : Option PV :=
 (asSl 3 p0).bind fun es0 =>
 (asSl 3 p1).bind fun es1 =>
 if ((↑es0.length : Int) != (↑es1.length : Int)) = true then some (PV.bool false)
 else L.run timetable_same_Route_L1 (es1, es0, (↑es0.length : Int), 0, ())
def timetable_same_Route_M : List PV → Option PV
  | [p0, p1] => timetable_same_Route lpS p0 p1
  | _ => none
def timetable_same_Stop_L1 : (List PV × List PV × Int × Int × Unit) → (List PV × List PV × Int × Int × Unit → Option PV) → Option PV := fun s2 rec3 =>
 if decide (s2.snd.snd.snd.fst < s2.snd.snd.fst) = true then
 (idxP s2.snd.fst s2.snd.snd.snd.fst).bind fun p4 =>
 (idxP s2.fst s2.snd.snd.snd.fst).bind fun p5 =>
 if
 chk
 (Kd.str ::
 [].append
 (Kd.int IntKind.i64 :: [].append (Kd.bool :: [].append (Kd.int IntKind.i64 :: [].append []))))
 [cell p4 0, cell p4 1, cell p4 2, cell p4 3] =
 true ∧
 chk
 (Kd.str ::
 [].append
 (Kd.int IntKind.i64 :: [].append (Kd.bool :: [].append (Kd.int IntKind.i64 :: [].append []))))
 [cell p5 0, cell p5 1, cell p5 2, cell p5 3] =
 true then
 if (!peqL [cell p4 0, cell p4 1, cell p4 2, cell p4 3] [cell p5 0, cell p5 1, cell p5 2, cell p5 3]) = true then
 some (PV.bool false)
 else rec3 (s2.fst, s2.snd.fst, s2.snd.snd.fst, IntKind.i64.wrap (s2.snd.snd.snd.fst + 1), ())
 else none
else some (PV.bool true)
def timetable_same_Stop (L : Lps) (p0 : PV) (p1 : PV) : Option PV :=
 (asSl 4 p0).bind fun es0 =>
 (asSl 4 p1).bind fun es1 =>
 if ((↑es0.length : Int) != (↑es1.length : Int)) = true then some (PV.bool false)
 else L.run timetable_same_Stop_L1 (es1, es0, (↑es0.length : Int), 0, ())
def timetable_same_Stop_M : List PV → Option PV
  | [p0, p1] => timetable_same_Stop lpS p0 p1
  | _ => none
def timetable_same_Through_L1 : (List PV × List PV × Int × Int × Unit) → (List PV × List PV × Int × Int × Unit → Option PV) → Option PV := fun s2 rec3 =>
 if decide (s2.snd.snd.snd.fst < s2.snd.snd.fst) = true then
 (idxP s2.snd.fst s2.snd.snd.snd.fst).bind fun p4 =>
 (idxP s2.fst s2.snd.snd.snd.fst).bind fun p5 =>
 if
 chk (Kd.int IntKind.i64 :: [].append (Kd.int IntKind.i64 :: [].append [])) [cell p4 0, cell p4 1] = true ∧
 chk (Kd.int IntKind.i64 :: [].append (Kd.int IntKind.i64 :: [].append [])) [cell p5 0, cell p5 1] =
 true then
 if (!peqL [cell p4 0, cell p4 1] [cell p5 0, cell p5 1]) = true then some (PV.bool false)
 else rec3 (s2.fst, s2.snd.fst, s2.snd.snd.fst, IntKind.i64.wrap (s2.snd.snd.snd.fst + 1), ())
 else none
else some (PV.bool true)
def timetable_same_Through (L : Lps) (p0 : PV) (p1 : PV) : Option PV :=
 (asSl 2 p0).bind fun es0 =>
 (asSl 2 p1).bind fun es1 =>
 if ((↑es0.length : Int) != (↑es1.length : Int)) = true then some (PV.bool false)
 else L.run timetable_same_Through_L1 (es1, es0, (↑es0.length : Int), 0, ())
def timetable_same_Through_M : List PV → Option PV
  | [p0, p1] => timetable_same_Through lpS p0 p1
  | _ => none
def timetable_Equal (L : Lps) (p0 : PV) (p1 : PV) : Option PV :=
 (Ab.asAgg 13 p0).bind fun x0 =>
 (asSl 4 (cell p0 0)).bind fun es1 =>
 (asSl 3 (cell p0 1)).bind fun es2 =>
 (asSl 10 (cell p0 2)).bind fun es3 =>
 (asSl 3 (cell p0 3)).bind fun es4 =>
 (asSl 5 (cell p0 4)).bind fun es5 =>
 (asSl 4 (cell p0 5)).bind fun es6 =>
 (asSl 2 (cell p0 6)).bind fun es7 =>
 (asSl 3 (cell p0 7)).bind fun es8 =>
 (asSl 4 (cell p0 8)).bind fun es9 =>
 (asSl 6 (cell p0 9)).bind fun es10 =>
 (Ab.asInt IntKind.i64 (cell p0 10)).bind fun n11 =>
 (Ab.asInt IntKind.i64 (cell p0 11)).bind fun n12 =>
 (Ab.asInt IntKind.i64 (cell p0 12)).bind fun n13 =>
 (Ab.asAgg 13 p1).bind fun x14 =>
 (asSl 4 (cell p1 0)).bind fun es15 =>
 (asSl 3 (cell p1 1)).bind fun es16 =>
 (asSl 10 (cell p1 2)).bind fun es17 =>
 (asSl 3 (cell p1 3)).bind fun es18 =>
 (asSl 5 (cell p1 4)).bind fun es19 =>
 (asSl 4 (cell p1 5)).bind fun es20 =>
 (asSl 2 (cell p1 6)).bind fun es21 =>
 (asSl 3 (cell p1 7)).bind fun es22 =>
 (asSl 4 (cell p1 8)).bind fun es23 =>
 (asSl 6 (cell p1 9)).bind fun es24 =>
 (Ab.asInt IntKind.i64 (cell p1 10)).bind fun n25 =>
 (Ab.asInt IntKind.i64 (cell p1 11)).bind fun n26 =>
 (Ab.asInt IntKind.i64 (cell p1 12)).bind fun n27 =>
 (timetable_same_Stop_M [PV.rs 4 es1, PV.rs 4 es15]).bind
 fun r28 =>
 (Ab.asBool r28).bind fun b29 =>
 (bif b29 then
 (timetable_same_Route_M
 [PV.rs 3 es2, PV.rs 3 es16]).bind
 fun r30 => (Ab.asBool r30).bind fun b31 => some b31
 else some false).bind
 fun r32 =>
 (bif r32 then
 (timetable_same_Calendar_M
 [PV.rs 10 es3, PV.rs 10 es17]).bind
 fun r33 =>
 (Ab.asBool r33).bind fun b34 => some b34
 else some false).bind
 fun r35 =>
 (bif r35 then
 (timetable_same_Exception_M
 [PV.rs 3 es4, PV.rs 3 es18]).bind
 fun r36 =>
 (Ab.asBool r36).bind fun b37 => some b37
 else some false).bind
 fun r38 =>
 (bif r38 then
 (timetable_sameTrips_M
 [PV.rs 5 es5, PV.rs 5 es19]).bind
 fun r39 =>
 (Ab.asBool r39).bind fun b40 => some b40
 else some false).bind
 fun r41 =>
 (bif r41 then
 (timetable_same_Frequency_M
 [PV.rs 4 es6, PV.rs 4 es20]).bind
 fun r42 =>
 (Ab.asBool r42).bind fun b43 => some b43
 else some false).bind
 fun r44 =>
 (bif r44 then
 (timetable_same_Through_M
 [PV.rs 2 es7, PV.rs 2 es21]).bind
 fun r45 =>
 (Ab.asBool r45).bind fun b46 => some b46
 else some false).bind
 fun r47 =>
 (bif r47 then
 (timetable_same_Guarantee_M
 [PV.rs 3 es8, PV.rs 3 es22]).bind
 fun r48 =>
 (Ab.asBool r48).bind fun b49 => some b49
 else some false).bind
 fun r50 =>
 (bif r50 then
 (timetable_same_Footpath_M
 [PV.rs 4 es9, PV.rs 4 es23]).bind
 fun r51 =>
 (Ab.asBool r51).bind fun b52 =>
 some b52
 else some false).bind
 fun r53 =>
 (bif r53 then
 (timetable_sameFares_M
 [PV.agg
 [PV.rs 6 es10,
 PV.int IntKind.i64 n11,
 PV.int IntKind.i64 n12,
 PV.int IntKind.i64 n13],
 PV.agg
 [PV.rs 6 es24,
 PV.int IntKind.i64 n25,
 PV.int IntKind.i64 n26,
 PV.int IntKind.i64
 n27]]).bind
 fun r54 =>
 (Ab.asBool r54).bind fun b55 =>
 some b55
 else some false).bind
 fun r56 => some (PV.bool r56)
def timetable_Equal_M : List PV → Option PV
  | [p0, p1] => timetable_Equal lpS p0 p1
  | _ => none
def law22_TimetableEquals (L : Lps) (p0 : PV) (p1 : PV) : Option PV :=
 (Ab.asAgg 13 p0).bind fun x0 =>
 (asSl 4 (cell p0 0)).bind fun es1 =>
 (asSl 3 (cell p0 1)).bind fun es2 =>
 (asSl 10 (cell p0 2)).bind fun es3 =>
 (asSl 3 (cell p0 3)).bind fun es4 =>
 (asSl 5 (cell p0 4)).bind fun es5 =>
 (asSl 4 (cell p0 5)).bind fun es6 =>
 (asSl 2 (cell p0 6)).bind fun es7 =>
 (asSl 3 (cell p0 7)).bind fun es8 =>
 (asSl 4 (cell p0 8)).bind fun es9 =>
 (asSl 6 (cell p0 9)).bind fun es10 =>
 (Ab.asInt IntKind.i64 (cell p0 10)).bind fun n11 =>
 (Ab.asInt IntKind.i64 (cell p0 11)).bind fun n12 =>
 (Ab.asInt IntKind.i64 (cell p0 12)).bind fun n13 =>
 (Ab.asAgg 13 p1).bind fun x14 =>
 (asSl 4 (cell p1 0)).bind fun es15 =>
 (asSl 3 (cell p1 1)).bind fun es16 =>
 (asSl 10 (cell p1 2)).bind fun es17 =>
 (asSl 3 (cell p1 3)).bind fun es18 =>
 (asSl 5 (cell p1 4)).bind fun es19 =>
 (asSl 4 (cell p1 5)).bind fun es20 =>
 (asSl 2 (cell p1 6)).bind fun es21 =>
 (asSl 3 (cell p1 7)).bind fun es22 =>
 (asSl 4 (cell p1 8)).bind fun es23 =>
 (asSl 6 (cell p1 9)).bind fun es24 =>
 (Ab.asInt IntKind.i64 (cell p1 10)).bind fun n25 =>
 (Ab.asInt IntKind.i64 (cell p1 11)).bind fun n26 =>
 (Ab.asInt IntKind.i64 (cell p1 12)).bind fun n27 =>
 (ref22_Few_M
 [PV.agg
 [PV.rs 4 es1, PV.rs 3 es2, PV.rs 10 es3, PV.rs 3 es4,
 PV.rs 5 es5, PV.rs 4 es6, PV.rs 2 es7, PV.rs 3 es8,
 PV.rs 4 es9, PV.rs 6 es10, PV.int IntKind.i64 n11,
 PV.int IntKind.i64 n12,
 PV.int IntKind.i64 n13]]).bind
 fun r28 =>
 (Ab.asBool r28).bind fun b29 =>
 (bif !b29 then some true
 else
 (ref22_Few_M
 [PV.agg
 [PV.rs 4 es15, PV.rs 3 es16, PV.rs 10 es17,
 PV.rs 3 es18, PV.rs 5 es19, PV.rs 4 es20,
 PV.rs 2 es21, PV.rs 3 es22, PV.rs 4 es23,
 PV.rs 6 es24, PV.int IntKind.i64 n25,
 PV.int IntKind.i64 n26,
 PV.int IntKind.i64 n27]]).bind
 fun r30 =>
 (Ab.asBool r30).bind fun b31 => some !b31).bind
 fun r32 =>
 if r32 = true then
 (law22_exampleHolds_M []).bind fun r33 =>
 (Ab.asBool r33).bind fun b34 => some (PV.bool b34)
 else
 (timetable_Equal_M
 [PV.agg
 [PV.rs 4 es1, PV.rs 3 es2, PV.rs 10 es3,
 PV.rs 3 es4, PV.rs 5 es5, PV.rs 4 es6,
 PV.rs 2 es7, PV.rs 3 es8, PV.rs 4 es9,
 PV.rs 6 es10, PV.int IntKind.i64 n11,
 PV.int IntKind.i64 n12,
 PV.int IntKind.i64 n13],
 PV.agg
 [PV.rs 4 es15, PV.rs 3 es16, PV.rs 10 es17,
 PV.rs 3 es18, PV.rs 5 es19, PV.rs 4 es20,
 PV.rs 2 es21, PV.rs 3 es22, PV.rs 4 es23,
 PV.rs 6 es24, PV.int IntKind.i64 n25,
 PV.int IntKind.i64 n26,
 PV.int IntKind.i64 n27]]).bind
 fun r35 =>
 (Ab.asBool r35).bind fun b36 =>
 (ref22_Equal_M
 [PV.agg
 [PV.rs 4 es1, PV.rs 3 es2, PV.rs 10 es3,
 PV.rs 3 es4, PV.rs 5 es5, PV.rs 4 es6,
 PV.rs 2 es7, PV.rs 3 es8, PV.rs 4 es9,
 PV.rs 6 es10, PV.int IntKind.i64 n11,
 PV.int IntKind.i64 n12,
 PV.int IntKind.i64 n13],
 PV.agg
 [PV.rs 4 es15, PV.rs 3 es16,
 PV.rs 10 es17, PV.rs 3 es18,
 PV.rs 5 es19, PV.rs 4 es20,
 PV.rs 2 es21, PV.rs 3 es22,
 PV.rs 4 es23, PV.rs 6 es24,
 PV.int IntKind.i64 n25,
 PV.int IntKind.i64 n26,
 PV.int IntKind.i64 n27]]).bind
 fun r37 =>
 (Ab.asBool r37).bind fun b38 =>
 (bif b36 == b38 then
 (timetable_Equal_M
 [PV.agg
 [PV.rs 4 es1, PV.rs 3 es2,
 PV.rs 10 es3, PV.rs 3 es4,
 PV.rs 5 es5, PV.rs 4 es6,
 PV.rs 2 es7, PV.rs 3 es8,
 PV.rs 4 es9, PV.rs 6 es10,
 PV.int IntKind.i64 n11,
 PV.int IntKind.i64 n12,
 PV.int IntKind.i64 n13],
 PV.agg
 [PV.rs 4 es1, PV.rs 3 es2,
 PV.rs 10 es3, PV.rs 3 es4,
 PV.rs 5 es5, PV.rs 4 es6,
 PV.rs 2 es7, PV.rs 3 es8,
 PV.rs 4 es9, PV.rs 6 es10,
 PV.int IntKind.i64 n11,
 PV.int IntKind.i64 n12,
 PV.int IntKind.i64 n13]]).bind
 fun r39 =>
 (Ab.asBool r39).bind fun b40 => some b40
 else some false).bind
 fun r41 =>
 (bif r41 then
 (law22_exampleHolds_M []).bind
 fun r42 =>
 (Ab.asBool r42).bind fun b43 =>
 some b43
 else some false).bind
 fun r44 => some (PV.bool r44)
def law22_TimetableEquals_M : List PV → Option PV
  | [p0, p1] => law22_TimetableEquals lpS p0 p1
  | _ => none
def timetable_copied_Calendar (L : Lps) (p0 : PV) : Option PV :=
 (asSl 10 p0).bind fun es0 =>
 if ([] ++ es0).length * 40 ≤ roomBound ∧ 0 < 40 then some (PV.rs 10 ([] ++ es0)) else none
def timetable_copied_Calendar_M : List PV → Option PV
  | [p0] => timetable_copied_Calendar lpS p0
  | _ => none
def timetable_copied_Call (L : Lps) (p0 : PV) : Option PV :=
 (asSl 5 p0).bind fun es0 => if ([] ++ es0).length * 32 ≤ roomBound ∧ 0 < 32 then some (PV.rs 5 ([] ++ es0)) else none
def timetable_copied_Call_M : List PV → Option PV
  | [p0] => timetable_copied_Call lpS p0
  | _ => none
def timetable_copied_Exception (L : Lps) (p0 : PV) : Option PV :=
 (asSl 3 p0).bind fun es0 => if ([] ++ es0).length * 24 ≤ roomBound ∧ 0 < 24 then some (PV.rs 3 ([] ++ es0)) else none
def timetable_copied_Exception_M : List PV → Option PV
  | [p0] => timetable_copied_Exception lpS p0
  | _ => none
def timetable_copied_Footpath (L : Lps) (p0 : PV) : Option PV :=
 (asSl 4 p0).bind fun es0 => if ([] ++ es0).length * 32 ≤ roomBound ∧ 0 < 32 then some (PV.rs 4 ([] ++ es0)) else none
def timetable_copied_Footpath_M : List PV → Option PV
  | [p0] => timetable_copied_Footpath lpS p0
  | _ => none
def timetable_copied_Frequency (L : Lps) (p0 : PV) : Option PV :=
 (asSl 4 p0).bind fun es0 => if ([] ++ es0).length * 32 ≤ roomBound ∧ 0 < 32 then some (PV.rs 4 ([] ++ es0)) else none
def timetable_copied_Frequency_M : List PV → Option PV
  | [p0] => timetable_copied_Frequency lpS p0
  | _ => none
def timetable_copied_Guarantee (L : Lps) (p0 : PV) : Option PV :=
 (asSl 3 p0).bind fun es0 => if ([] ++ es0).length * 24 ≤ roomBound ∧ 0 < 24 then some (PV.rs 3 ([] ++ es0)) else none
def timetable_copied_Guarantee_M : List PV → Option PV
  | [p0] => timetable_copied_Guarantee lpS p0
  | _ => none
def timetable_copied_Product (L : Lps) (p0 : PV) : Option PV :=
 (asSl 6 p0).bind fun es0 => if ([] ++ es0).length * 56 ≤ roomBound ∧ 0 < 56 then some (PV.rs 6 ([] ++ es0)) else none
def timetable_copied_Product_M : List PV → Option PV
  | [p0] => timetable_copied_Product lpS p0
  | _ => none
def timetable_copied_Route (L : Lps) (p0 : PV) : Option PV :=
 (asSl 3 p0).bind fun es0 => if ([] ++ es0).length * 32 ≤ roomBound ∧ 0 < 32 then some (PV.rs 3 ([] ++ es0)) else none
def timetable_copied_Route_M : List PV → Option PV
  | [p0] => timetable_copied_Route lpS p0
  | _ => none
def timetable_copied_Stop (L : Lps) (p0 : PV) : Option PV :=
 (asSl 4 p0).bind fun es0 => if ([] ++ es0).length * 40 ≤ roomBound ∧ 0 < 40 then some (PV.rs 4 ([] ++ es0)) else none
def timetable_copied_Stop_M : List PV → Option PV
  | [p0] => timetable_copied_Stop lpS p0
  | _ => none
def timetable_copied_Through (L : Lps) (p0 : PV) : Option PV :=
 (asSl 2 p0).bind fun es0 => if ([] ++ es0).length * 16 ≤ roomBound ∧ 0 < 16 then some (PV.rs 2 ([] ++ es0)) else none
def timetable_copied_Through_M : List PV → Option PV
  | [p0] => timetable_copied_Through lpS p0
  | _ => none
def timetable_copied_Trip (L : Lps) (p0 : PV) : Option PV :=
 (asSl 5 p0).bind fun es0 => if ([] ++ es0).length * 64 ≤ roomBound ∧ 0 < 64 then some (PV.rs 5 ([] ++ es0)) else none
def timetable_copied_Trip_M : List PV → Option PV
  | [p0] => timetable_copied_Trip lpS p0
  | _ => none
def timetable_Clone_L1 : (Int ×
 Int ×
 List PV ×
 List PV ×
 List PV ×
 List PV ×
 List PV ×
 List PV ×
 List PV ×
 List PV ×
 List PV ×
 List PV ×
 Int ×
 Int ×
 Int ×
 Int ×
 Int ×
 Int ×
 List PV ×
 List PV ×
 List PV ×
 List PV ×
 List PV ×
 List PV × List PV × List PV × List PV × Int × Int × Int × List PV × Unit) → (Int ×
 Int ×
 List PV ×
 List PV ×
 List PV ×
 List PV ×
 List PV ×
 List PV ×
 List PV ×
 List PV ×
 List PV ×
 List PV ×
 Int ×
 Int ×
 Int ×
 Int ×
 Int ×
 Int ×
 List PV ×
 List PV ×
 List PV ×
 List PV ×
 List PV ×
 List PV ×
 List PV × List PV × List PV × Int × Int × Int × List PV × Unit →
 Option PV) → Option PV := fun s32 rec33 =>
 if decide (s32.snd.fst < s32.fst) = true then
 if
 inRange s32.snd.fst
 s32.snd.snd.snd.snd.snd.snd.snd.snd.snd.snd.snd.snd.snd.snd.snd.snd.snd.snd.snd.snd.snd.snd.snd.snd.snd.snd.snd.snd.snd.snd.fst.length then
 s32.snd.snd.snd.snd.snd.snd.snd.snd.snd.snd.snd.snd.snd.snd.snd.snd.snd.snd.snd.snd.snd.snd.snd.snd.snd.snd.snd.snd.snd.snd.fst[s32.snd.fst.toNat]?.bind
 fun e34 =>
 (asSl 5 (cell e34 4)).bind fun es35 =>
 (timetable_copied_Call_M [PV.rs 5 es35]).bind fun r36 =>
 (asSl 5 r36).bind fun es37 =>
 if
 inRange s32.snd.fst
 s32.snd.snd.snd.snd.snd.snd.snd.snd.snd.snd.snd.snd.snd.snd.snd.snd.snd.snd.snd.snd.snd.snd.snd.snd.snd.snd.snd.snd.snd.snd.fst.length then
 s32.snd.snd.snd.snd.snd.snd.snd.snd.snd.snd.snd.snd.snd.snd.snd.snd.snd.snd.snd.snd.snd.snd.snd.snd.snd.snd.snd.snd.snd.snd.fst[s32.snd.fst.toNat]?.bind
 fun e38 =>
 rec33
 (s32.fst, IntKind.i64.wrap (s32.snd.fst + 1), s32.snd.snd.fst, s32.snd.snd.snd.fst,
 s32.snd.snd.snd.snd.fst, s32.snd.snd.snd.snd.snd.fst, s32.snd.snd.snd.snd.snd.snd.fst,
 s32.snd.snd.snd.snd.snd.snd.snd.fst, s32.snd.snd.snd.snd.snd.snd.snd.snd.fst,
 s32.snd.snd.snd.snd.snd.snd.snd.snd.snd.fst, s32.snd.snd.snd.snd.snd.snd.snd.snd.snd.snd.fst,
 s32.snd.snd.snd.snd.snd.snd.snd.snd.snd.snd.snd.fst,
 s32.snd.snd.snd.snd.snd.snd.snd.snd.snd.snd.snd.snd.fst,
 s32.snd.snd.snd.snd.snd.snd.snd.snd.snd.snd.snd.snd.snd.fst,
 s32.snd.snd.snd.snd.snd.snd.snd.snd.snd.snd.snd.snd.snd.snd.fst,
 s32.snd.snd.snd.snd.snd.snd.snd.snd.snd.snd.snd.snd.snd.snd.snd.fst,
 s32.snd.snd.snd.snd.snd.snd.snd.snd.snd.snd.snd.snd.snd.snd.snd.snd.fst,
 s32.snd.snd.snd.snd.snd.snd.snd.snd.snd.snd.snd.snd.snd.snd.snd.snd.snd.fst,
 s32.snd.snd.snd.snd.snd.snd.snd.snd.snd.snd.snd.snd.snd.snd.snd.snd.snd.snd.fst,
 s32.snd.snd.snd.snd.snd.snd.snd.snd.snd.snd.snd.snd.snd.snd.snd.snd.snd.snd.snd.fst,
 s32.snd.snd.snd.snd.snd.snd.snd.snd.snd.snd.snd.snd.snd.snd.snd.snd.snd.snd.snd.snd.fst,
 s32.snd.snd.snd.snd.snd.snd.snd.snd.snd.snd.snd.snd.snd.snd.snd.snd.snd.snd.snd.snd.snd.fst,
 s32.snd.snd.snd.snd.snd.snd.snd.snd.snd.snd.snd.snd.snd.snd.snd.snd.snd.snd.snd.snd.snd.snd.fst,
 s32.snd.snd.snd.snd.snd.snd.snd.snd.snd.snd.snd.snd.snd.snd.snd.snd.snd.snd.snd.snd.snd.snd.snd.fst,
 s32.snd.snd.snd.snd.snd.snd.snd.snd.snd.snd.snd.snd.snd.snd.snd.snd.snd.snd.snd.snd.snd.snd.snd.snd.fst,
 s32.snd.snd.snd.snd.snd.snd.snd.snd.snd.snd.snd.snd.snd.snd.snd.snd.snd.snd.snd.snd.snd.snd.snd.snd.snd.fst,
 s32.snd.snd.snd.snd.snd.snd.snd.snd.snd.snd.snd.snd.snd.snd.snd.snd.snd.snd.snd.snd.snd.snd.snd.snd.snd.snd.fst,
 s32.snd.snd.snd.snd.snd.snd.snd.snd.snd.snd.snd.snd.snd.snd.snd.snd.snd.snd.snd.snd.snd.snd.snd.snd.snd.snd.snd.fst,
 s32.snd.snd.snd.snd.snd.snd.snd.snd.snd.snd.snd.snd.snd.snd.snd.snd.snd.snd.snd.snd.snd.snd.snd.snd.snd.snd.snd.snd.fst,
 s32.snd.snd.snd.snd.snd.snd.snd.snd.snd.snd.snd.snd.snd.snd.snd.snd.snd.snd.snd.snd.snd.snd.snd.snd.snd.snd.snd.snd.snd.fst,
 s32.snd.snd.snd.snd.snd.snd.snd.snd.snd.snd.snd.snd.snd.snd.snd.snd.snd.snd.snd.snd.snd.snd.snd.snd.snd.snd.snd.snd.snd.snd.fst.set
 s32.snd.fst.toNat
 (PV.agg (cell e38 0 :: cell e38 1 :: cell e38 2 :: cell e38 3 :: PV.rs 5 es37 :: over [] [])),
 ())
 else none
 else none
else
 (timetable_copied_Product_M [PV.rs 6 s32.snd.snd.snd.snd.snd.snd.snd.snd.snd.snd.snd.fst]).bind fun r39 =>
 (asSl 6 r39).bind fun es40 =>
 some
 (PV.agg
 [PV.rs 4 s32.snd.snd.snd.snd.snd.snd.snd.snd.snd.snd.snd.snd.snd.snd.snd.snd.snd.snd.fst,
 PV.rs 3 s32.snd.snd.snd.snd.snd.snd.snd.snd.snd.snd.snd.snd.snd.snd.snd.snd.snd.snd.snd.fst,
 PV.rs 10 s32.snd.snd.snd.snd.snd.snd.snd.snd.snd.snd.snd.snd.snd.snd.snd.snd.snd.snd.snd.snd.fst,
 PV.rs 3 s32.snd.snd.snd.snd.snd.snd.snd.snd.snd.snd.snd.snd.snd.snd.snd.snd.snd.snd.snd.snd.snd.fst,
 PV.rs 5
 s32.snd.snd.snd.snd.snd.snd.snd.snd.snd.snd.snd.snd.snd.snd.snd.snd.snd.snd.snd.snd.snd.snd.snd.snd.snd.snd.snd.snd.snd.snd.fst,
 PV.rs 4 s32.snd.snd.snd.snd.snd.snd.snd.snd.snd.snd.snd.snd.snd.snd.snd.snd.snd.snd.snd.snd.snd.snd.fst,
 PV.rs 2 s32.snd.snd.snd.snd.snd.snd.snd.snd.snd.snd.snd.snd.snd.snd.snd.snd.snd.snd.snd.snd.snd.snd.snd.fst,
 PV.rs 3
 s32.snd.snd.snd.snd.snd.snd.snd.snd.snd.snd.snd.snd.snd.snd.snd.snd.snd.snd.snd.snd.snd.snd.snd.snd.fst,
 PV.rs 4
 s32.snd.snd.snd.snd.snd.snd.snd.snd.snd.snd.snd.snd.snd.snd.snd.snd.snd.snd.snd.snd.snd.snd.snd.snd.snd.fst,
 PV.rs 6 es40,
 PV.int IntKind.i64
 s32.snd.snd.snd.snd.snd.snd.snd.snd.snd.snd.snd.snd.snd.snd.snd.snd.snd.snd.snd.snd.snd.snd.snd.snd.snd.snd.snd.fst,
 PV.int IntKind.i64
 s32.snd.snd.snd.snd.snd.snd.snd.snd.snd.snd.snd.snd.snd.snd.snd.snd.snd.snd.snd.snd.snd.snd.snd.snd.snd.snd.snd.snd.fst,
 PV.int IntKind.i64
 s32.snd.snd.snd.snd.snd.snd.snd.snd.snd.snd.snd.snd.snd.snd.snd.snd.snd.snd.snd.snd.snd.snd.snd.snd.snd.snd.snd.snd.snd.fst])
def timetable_Clone (L : Lps) (p0 : PV) : Option PV :=
 (Ab.asAgg 13 p0).bind fun x0 =>
 (asSl 4 (cell p0 0)).bind fun es1 =>
 (asSl 3 (cell p0 1)).bind fun es2 =>
 (asSl 10 (cell p0 2)).bind fun es3 =>
 (asSl 3 (cell p0 3)).bind fun es4 =>
 (asSl 5 (cell p0 4)).bind fun es5 =>
 (asSl 4 (cell p0 5)).bind fun es6 =>
 (asSl 2 (cell p0 6)).bind fun es7 =>
 (asSl 3 (cell p0 7)).bind fun es8 =>
 (asSl 4 (cell p0 8)).bind fun es9 =>
 (asSl 6 (cell p0 9)).bind fun es10 =>
 (Ab.asInt IntKind.i64 (cell p0 10)).bind fun n11 =>
 (Ab.asInt IntKind.i64 (cell p0 11)).bind fun n12 =>
 (Ab.asInt IntKind.i64 (cell p0 12)).bind fun n13 =>
 (timetable_copied_Stop_M [PV.rs 4 es1]).bind fun r14 =>
 (asSl 4 r14).bind fun es15 =>
 (timetable_copied_Route_M [PV.rs 3 es2]).bind fun r16 =>
 (asSl 3 r16).bind fun es17 =>
 (timetable_copied_Calendar_M [PV.rs 10 es3]).bind fun r18 =>
 (asSl 10 r18).bind fun es19 =>
 (timetable_copied_Exception_M [PV.rs 3 es4]).bind fun r20 =>
 (asSl 3 r20).bind fun es21 =>
 (timetable_copied_Trip_M [PV.rs 5 es5]).bind fun r22 =>
 (asSl 5 r22).bind fun es23 =>
 (timetable_copied_Frequency_M [PV.rs 4 es6]).bind fun r24 =>
 (asSl 4 r24).bind fun es25 =>
 (timetable_copied_Through_M [PV.rs 2 es7]).bind fun r26 =>
 (asSl 2 r26).bind fun es27 =>
 (timetable_copied_Guarantee_M [PV.rs 3 es8]).bind fun r28 =>
 (asSl 3 r28).bind fun es29 =>
 (timetable_copied_Footpath_M [PV.rs 4 es9]).bind fun r30 =>
 (asSl 4 r30).bind fun es31 =>
 L.run timetable_Clone_L1
 ((↑es23.length : Int), 0, es1, es2, es3, es4, es5,
 es6, es7, es8, es9, es10, n11, n12, n13, 0, 0, 0,
 es15, es17, es19, es21, es25, es27, es29, es31,
 es10, n11, n12, n13, es23, ())
def timetable_Clone_M : List PV → Option PV
  | [p0] => timetable_Clone lpS p0
  | _ => none
def law22_TimetableClones (L : Lps) (p0 : PV) : Option PV :=
 (Ab.asAgg 13 p0).bind fun x0 =>
 (asSl 4 (cell p0 0)).bind fun es1 =>
 (asSl 3 (cell p0 1)).bind fun es2 =>
 (asSl 10 (cell p0 2)).bind fun es3 =>
 (asSl 3 (cell p0 3)).bind fun es4 =>
 (asSl 5 (cell p0 4)).bind fun es5 =>
 (asSl 4 (cell p0 5)).bind fun es6 =>
 (asSl 2 (cell p0 6)).bind fun es7 =>
 (asSl 3 (cell p0 7)).bind fun es8 =>
 (asSl 4 (cell p0 8)).bind fun es9 =>
 (asSl 6 (cell p0 9)).bind fun es10 =>
 (Ab.asInt IntKind.i64 (cell p0 10)).bind fun n11 =>
 (Ab.asInt IntKind.i64 (cell p0 11)).bind fun n12 =>
 (Ab.asInt IntKind.i64 (cell p0 12)).bind fun n13 =>
 (ref22_Few_M
 [PV.agg
 [PV.rs 4 es1, PV.rs 3 es2, PV.rs 10 es3, PV.rs 3 es4, PV.rs 5 es5, PV.rs 4 es6,
 PV.rs 2 es7, PV.rs 3 es8, PV.rs 4 es9, PV.rs 6 es10, PV.int IntKind.i64 n11,
 PV.int IntKind.i64 n12, PV.int IntKind.i64 n13]]).bind
 fun r14 =>
 (Ab.asBool r14).bind fun b15 =>
 if (!b15) = true then
 (law22_exampleHolds_M []).bind fun r16 =>
 (Ab.asBool r16).bind fun b17 => some (PV.bool b17)
 else
 (timetable_Clone_M
 [PV.agg
 [PV.rs 4 es1, PV.rs 3 es2, PV.rs 10 es3, PV.rs 3 es4, PV.rs 5 es5,
 PV.rs 4 es6, PV.rs 2 es7, PV.rs 3 es8, PV.rs 4 es9, PV.rs 6 es10,
 PV.int IntKind.i64 n11, PV.int IntKind.i64 n12,
 PV.int IntKind.i64 n13]]).bind
 fun r18 =>
 (Ab.asAgg 13 r18).bind fun x19 =>
 (ref22_Equal_M
 [PV.agg
 [cell r18 0, cell r18 1, cell r18 2, cell r18 3, cell r18 4, cell r18 5,
 cell r18 6, cell r18 7, cell r18 8, cell r18 9, cell r18 10,
 cell r18 11, cell r18 12],
 PV.agg
 [PV.rs 4 es1, PV.rs 3 es2, PV.rs 10 es3, PV.rs 3 es4, PV.rs 5 es5,
 PV.rs 4 es6, PV.rs 2 es7, PV.rs 3 es8, PV.rs 4 es9, PV.rs 6 es10,
 PV.int IntKind.i64 n11, PV.int IntKind.i64 n12,
 PV.int IntKind.i64 n13]]).bind
 fun r20 =>
 (Ab.asBool r20).bind fun b21 =>
 (bif b21 then
 (timetable_Equal_M
 [PV.agg
 [cell r18 0, cell r18 1, cell r18 2, cell r18 3, cell r18 4,
 cell r18 5, cell r18 6, cell r18 7, cell r18 8, cell r18 9,
 cell r18 10, cell r18 11, cell r18 12],
 PV.agg
 [PV.rs 4 es1, PV.rs 3 es2, PV.rs 10 es3, PV.rs 3 es4,
 PV.rs 5 es5, PV.rs 4 es6, PV.rs 2 es7, PV.rs 3 es8,
 PV.rs 4 es9, PV.rs 6 es10, PV.int IntKind.i64 n11,
 PV.int IntKind.i64 n12, PV.int IntKind.i64 n13]]).bind
 fun r22 => (Ab.asBool r22).bind fun b23 => some b23
 else some false).bind
 fun r24 =>
 (bif r24 then
 (timetable_Sizes_M
 [PV.agg
 [cell r18 0, cell r18 1, cell r18 2, cell r18 3, cell r18 4,
 cell r18 5, cell r18 6, cell r18 7, cell r18 8,
 cell r18 9, cell r18 10, cell r18 11, cell r18 12]]).bind
 fun r25 =>
 (Ab.asAgg 11 r25).bind fun x26 =>
 (timetable_Sizes_M
 [PV.agg
 [PV.rs 4 es1, PV.rs 3 es2, PV.rs 10 es3, PV.rs 3 es4,
 PV.rs 5 es5, PV.rs 4 es6, PV.rs 2 es7, PV.rs 3 es8,
 PV.rs 4 es9, PV.rs 6 es10, PV.int IntKind.i64 n11,
 PV.int IntKind.i64 n12, PV.int IntKind.i64 n13]]).bind
 fun r27 =>
 (Ab.asAgg 11 r27).bind fun x28 =>
 if
 chk (kdsRep [Kd.int IntKind.i64] 11)
 [cell r25 0, cell r25 1, cell r25 2, cell r25 3,
 cell r25 4, cell r25 5, cell r25 6, cell r25 7,
 cell r25 8, cell r25 9, cell r25 10] =
 true ∧
 chk (kdsRep [Kd.int IntKind.i64] 11)
 [cell r27 0, cell r27 1, cell r27 2, cell r27 3,
 cell r27 4, cell r27 5, cell r27 6, cell r27 7,
 cell r27 8, cell r27 9, cell r27 10] =
 true then
 some
 (peqL
 [cell r25 0, cell r25 1, cell r25 2, cell r25 3,
 cell r25 4, cell r25 5, cell r25 6, cell r25 7,
 cell r25 8, cell r25 9, cell r25 10]
 [cell r27 0, cell r27 1, cell r27 2, cell r27 3,
 cell r27 4, cell r27 5, cell r27 6, cell r27 7,
 cell r27 8, cell r27 9, cell r27 10])
 else none
 else some false).bind
 fun r29 =>
 (bif r29 then
 (law22_exampleHolds_M []).bind fun r30 =>
 (Ab.asBool r30).bind fun b31 => some b31
 else some false).bind
 fun r32 => some (PV.bool r32)
def law22_TimetableClones_M : List PV → Option PV
  | [p0] => law22_TimetableClones lpS p0
  | _ => none
end Go.Ab
