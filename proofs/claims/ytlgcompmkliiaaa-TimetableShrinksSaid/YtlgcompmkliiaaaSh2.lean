/- Functions of the program as plain Lean functions, printed by a program of the author. -/
import Derived.Test.YtlgcompmkliiaaaSh1
set_option linter.unusedVariables false
namespace Go.Ab
def ref15_Name_L1 : (Bytes × Int × Unit) → (Bytes × Int × Unit → Option PV) → Option PV := fun s2 rec3 =>
  if decide (s2.snd.fst < (↑(List.length s2.fst) : Int)) = true then
  (idxB s2.fst s2.snd.fst).bind fun b4 =>
    (bif decide ((↑b4.toNat : Int) ≥ 97) then some (decide ((↑b4.toNat : Int) ≤ 122)) else some false).bind fun r5 =>
      (bif r5 then some true
          else
            (bif decide ((↑b4.toNat : Int) ≥ 65) then some (decide ((↑b4.toNat : Int) ≤ 90)) else some false).bind
              fun r6 => some r6).bind
        fun r7 =>
        (bif r7 then some true
            else
              (bif decide ((↑b4.toNat : Int) ≥ 48) then some (decide ((↑b4.toNat : Int) ≤ 57)) else some false).bind
                fun r8 => some r8).bind
          fun r9 =>
          (bif r9 then some true else some ((↑b4.toNat : Int) == 45)).bind fun r10 =>
            (bif r10 then some true else some ((↑b4.toNat : Int) == 95)).bind fun r11 =>
              (bif r11 then some true else some ((↑b4.toNat : Int) == 46)).bind fun r12 =>
                if (!r12) = true then some (PV.bool false) else rec3 (s2.fst, IntKind.i64.wrap (s2.snd.fst + 1), ())
else some (PV.bool true)
def ref15_Name (L : Lps) (p0 : PV) : Option PV :=
  (asStr p0).bind fun s0 =>
  (bif decide ((↑(List.length s0) : Int) < 1) then some true else some (decide ((↑(List.length s0) : Int) > 32))).bind
    fun r1 => if r1 = true then some (PV.bool false) else L.run ref15_Name_L1 (s0, 0, ())
def ref15_Name_M : List PV → Option PV
  | [p0] => ref15_Name lpS p0
  | _ => none
def ref15_mode (L : Lps) (p0 : PV) : Option PV :=
  (Ab.asInt IntKind.i64 p0).bind fun n0 =>
  (bif decide (n0 ≥ 0) then some (decide (n0 < 8)) else some false).bind fun r1 => some (PV.bool r1)
def ref15_mode_M : List PV → Option PV
  | [p0] => ref15_mode lpS p0
  | _ => none
def ref15_Check_L1 (rec2 : List PV × Int × Unit → Option PV) : (List PV × Int × Int × Unit) → (List PV × Int × Int × Unit → Option PV) → Option PV := fun s7 rec8 =>
  if decide (s7.snd.snd.fst < s7.snd.fst) = true then
  (idxP s7.fst s7.snd.snd.fst).bind fun p9 =>
    (asStr (cell p9 0)).bind fun s10 =>
      (idxP s7.fst s7.snd.fst).bind fun p11 =>
        (asStr (cell p11 0)).bind fun s12 =>
          if (s10 == s12) = true then some (PV.tup [PV.int IntKind.i64 s7.snd.fst, PV.int IntKind.i64 6])
          else rec8 (s7.fst, s7.snd.fst, IntKind.i64.wrap (s7.snd.snd.fst + 1), ())
else
  (idxP s7.fst s7.snd.fst).bind fun p13 =>
    (Ab.asInt IntKind.i64 (cell p13 1)).bind fun n14 =>
      (ref15_mode_M [PV.int IntKind.i64 n14]).bind fun r15 =>
        (Ab.asBool r15).bind fun b16 =>
          if (!b16) = true then some (PV.tup [PV.int IntKind.i64 s7.snd.fst, PV.int IntKind.i64 2])
          else rec2 (s7.fst, IntKind.i64.wrap (s7.snd.fst + 1), ())
def ref15_Check_L2 (L : Lps) : (List PV × Int × Unit) → (List PV × Int × Unit → Option PV) → Option PV := fun s1 rec2 =>
  if decide (s1.snd.fst < (↑s1.fst.length : Int)) = true then
  (idxP s1.fst s1.snd.fst).bind fun p3 =>
    (asStr (cell p3 0)).bind fun s4 =>
      (ref15_Name_M [PV.str s4]).bind fun r5 =>
        (Ab.asBool r5).bind fun b6 =>
          if (!b6) = true then some (PV.tup [PV.int IntKind.i64 s1.snd.fst, PV.int IntKind.i64 12])
          else L.run (ref15_Check_L1 rec2) (s1.fst, s1.snd.fst, 0, ())
else some (PV.tup [PV.int IntKind.i64 0, PV.int IntKind.i64 0])
def ref15_Check (L : Lps) (p0 : PV) : Option PV :=
  (asSl 3 p0).bind fun es0 =>
  if decide ((↑es0.length : Int) > 64) = true then some (PV.tup [PV.int IntKind.i64 0, PV.int IntKind.i64 5])
  else L.run (ref15_Check_L2 L) (es0, 0, ())
def ref15_Check_M : List PV → Option PV
  | [p0] => ref15_Check lpS p0
  | _ => none
def ref17_Find_L1 : (List PV × Bytes × Int × Unit) → (List PV × Bytes × Int × Unit → Option PV) → Option PV := fun s2 rec3 =>
  if decide (s2.snd.snd.fst < (↑s2.fst.length : Int)) = true then
  (idxP s2.fst s2.snd.snd.fst).bind fun p4 =>
    (asStr (cell p4 0)).bind fun s5 =>
      if (s5 == s2.snd.fst) = true then some (PV.int IntKind.i64 s2.snd.snd.fst)
      else rec3 (s2.fst, s2.snd.fst, IntKind.i64.wrap (s2.snd.snd.fst + 1), ())
else some (PV.int IntKind.i64 (-1))
def ref17_Find (L : Lps) (p0 : PV) (p1 : PV) : Option PV :=
  (asSl 5 p0).bind fun es0 => (asStr p1).bind fun s1 => L.run ref17_Find_L1 (es0, s1, 0, ())
def ref17_Find_M : List PV → Option PV
  | [p0, p1] => ref17_Find lpS p0 p1
  | _ => none
def ref17_calls_L1 : (List PV × Int × Int × Unit) → (List PV × Int × Int × Unit → Option PV) → Option PV := fun s3 rec4 =>
  if decide (s3.snd.snd.fst < (↑s3.fst.length : Int)) = true then
  (idxP s3.fst s3.snd.snd.fst).bind fun p5 =>
    (Ab.asInt IntKind.i64 (cell p5 0)).bind fun n6 =>
      (bif decide (n6 < 0) then some true
          else
            (idxP s3.fst s3.snd.snd.fst).bind fun p7 =>
              (Ab.asInt IntKind.i64 (cell p7 0)).bind fun n8 => some (decide (n8 ≥ s3.snd.fst))).bind
        fun r9 =>
        if r9 = true then some (PV.int IntKind.i64 9)
        else
          (bif decide (s3.snd.snd.fst > 0) then
                (idxP s3.fst s3.snd.snd.fst).bind fun p10 =>
                  (Ab.asInt IntKind.i64 (cell p10 0)).bind fun n11 =>
                    (idxP s3.fst (IntKind.i64.wrap (s3.snd.snd.fst - 1))).bind fun p12 =>
                      (Ab.asInt IntKind.i64 (cell p12 0)).bind fun n13 => some (n11 == n13)
              else some false).bind
            fun r14 =>
            if r14 = true then some (PV.int IntKind.i64 13)
            else
              (idxP s3.fst s3.snd.snd.fst).bind fun p15 =>
                (Ab.asInt IntKind.i64 (cell p15 1)).bind fun n16 =>
                  (bif decide (n16 < 0) then some true
                      else
                        (idxP s3.fst s3.snd.snd.fst).bind fun p17 =>
                          (Ab.asInt IntKind.i64 (cell p17 1)).bind fun n18 =>
                            (idxP s3.fst s3.snd.snd.fst).bind fun p19 =>
                              (Ab.asInt IntKind.i64 (cell p19 2)).bind fun n20 => some (decide (n18 > n20))).bind
                    fun r21 =>
                    (bif r21 then some true
                        else
                          (idxP s3.fst s3.snd.snd.fst).bind fun p22 =>
                            (Ab.asInt IntKind.i64 (cell p22 2)).bind fun n23 => some (decide (n23 > 172800))).bind
                      fun r24 =>
                      (bif r24 then some true
                          else
                            (bif decide (s3.snd.snd.fst > 0) then
                                  (idxP s3.fst s3.snd.snd.fst).bind fun p25 =>
                                    (Ab.asInt IntKind.i64 (cell p25 1)).bind fun n26 =>
                                      (idxP s3.fst (IntKind.i64.wrap (s3.snd.snd.fst - 1))).bind fun p27 =>
                                        (Ab.asInt IntKind.i64 (cell p27 2)).bind fun n28 => some (decide (n26 < n28))
                                else some false).bind
                              fun r29 => some r29).bind
                        fun r30 =>
                        if r30 = true then some (PV.int IntKind.i64 10)
                        else rec4 (s3.fst, s3.snd.fst, IntKind.i64.wrap (s3.snd.snd.fst + 1), ())
else some (PV.int IntKind.i64 0)
def ref17_calls (L : Lps) (p0 : PV) (p1 : PV) : Option PV :=
  (asSl 5 p0).bind fun es0 =>
  (Ab.asInt IntKind.i64 p1).bind fun n1 =>
    (bif decide ((↑es0.length : Int) < 2) then some true else some (decide ((↑es0.length : Int) > 32))).bind fun r2 =>
      if r2 = true then some (PV.int IntKind.i64 5) else L.run ref17_calls_L1 (es0, n1, 0, ())
def ref17_calls_M : List PV → Option PV
  | [p0, p1] => ref17_calls lpS p0 p1
  | _ => none
def ref17_one (L : Lps) (p0 : PV) (p1 : PV) (p2 : PV) (p3 : PV) (p4 : PV) : Option PV :=
  (asSl 5 p0).bind fun es0 =>
  (Ab.asInt IntKind.i64 p1).bind fun n1 =>
    (Ab.asInt IntKind.i64 p2).bind fun n2 =>
      (Ab.asInt IntKind.i64 p3).bind fun n3 =>
        (Ab.asInt IntKind.i64 p4).bind fun n4 =>
          (idxP es0 n1).bind fun p5 =>
            (asStr (cell p5 0)).bind fun s6 =>
              (ref05_Valid_M [PV.str s6]).bind fun r7 =>
                (Ab.asBool r7).bind fun b8 =>
                  if (!b8) = true then some (PV.int IntKind.i64 12)
                  else
                    if (0 : Int) ≤ 0 ∧ 0 ≤ n1 ∧ n1 ≤ (↑es0.length : Int) ∧ 5 = 5 ∧ 5 ≠ 0 then
                      (asStr (cell p5 0)).bind fun s9 =>
                        (ref17_Find_M [PV.rs 5 (List.drop (Int.toNat 0) (List.take n1.toNat es0)), PV.str s9]).bind
                          fun r10 =>
                          (Ab.asInt IntKind.i64 r10).bind fun n11 =>
                            if decide (n11 ≥ 0) = true then some (PV.int IntKind.i64 6)
                            else
                              (Ab.asInt IntKind.i64 (cell p5 1)).bind fun n12 =>
                                (bif decide (n12 < 0) then some true
                                    else
                                      (Ab.asInt IntKind.i64 (cell p5 1)).bind fun n13 => some (decide (n13 ≥ n3))).bind
                                  fun r14 =>
                                  (bif r14 then some true
                                      else
                                        (Ab.asInt IntKind.i64 (cell p5 2)).bind fun n15 => some (decide (n15 < 0))).bind
                                    fun r16 =>
                                    (bif r16 then some true
                                        else
                                          (Ab.asInt IntKind.i64 (cell p5 2)).bind fun n17 =>
                                            some (decide (n17 ≥ n4))).bind
                                      fun r18 =>
                                      if r18 = true then some (PV.int IntKind.i64 9)
                                      else
                                        (asSl 5 (cell p5 4)).bind fun es19 =>
                                          (ref17_calls_M [PV.rs 5 es19, PV.int IntKind.i64 n2]).bind fun r20 =>
                                            (Ab.asInt IntKind.i64 r20).bind fun n21 => some (PV.int IntKind.i64 n21)
                    else none
def ref17_one_M : List PV → Option PV
  | [p0, p1, p2, p3, p4] => ref17_one lpS p0 p1 p2 p3 p4
  | _ => none
def ref17_Check_L1 : (List PV × Int × Int × Int × Int × Unit) → (List PV × Int × Int × Int × Int × Unit → Option PV) → Option PV := fun s4 rec5 =>
  if decide (s4.snd.snd.snd.snd.fst < (↑s4.fst.length : Int)) = true then
  (ref17_one_M
        [PV.rs 5 s4.fst, PV.int IntKind.i64 s4.snd.snd.snd.snd.fst, PV.int IntKind.i64 s4.snd.fst,
          PV.int IntKind.i64 s4.snd.snd.fst, PV.int IntKind.i64 s4.snd.snd.snd.fst]).bind
    fun r6 =>
    (Ab.asInt IntKind.i64 r6).bind fun n7 =>
      if (n7 != 0) = true then some (PV.tup [PV.int IntKind.i64 s4.snd.snd.snd.snd.fst, PV.int IntKind.i64 n7])
      else
        rec5 (s4.fst, s4.snd.fst, s4.snd.snd.fst, s4.snd.snd.snd.fst, IntKind.i64.wrap (s4.snd.snd.snd.snd.fst + 1), ())
else some (PV.tup [PV.int IntKind.i64 0, PV.int IntKind.i64 0])
def ref17_Check (L : Lps) (p0 : PV) (p1 : PV) (p2 : PV) (p3 : PV) : Option PV :=
  (asSl 5 p0).bind fun es0 =>
  (Ab.asInt IntKind.i64 p1).bind fun n1 =>
    (Ab.asInt IntKind.i64 p2).bind fun n2 =>
      (Ab.asInt IntKind.i64 p3).bind fun n3 =>
        if decide ((↑es0.length : Int) > 256) = true then some (PV.tup [PV.int IntKind.i64 0, PV.int IntKind.i64 5])
        else L.run ref17_Check_L1 (es0, n1, n2, n3, 0, ())
def ref17_Check_M : List PV → Option PV
  | [p0, p1, p2, p3] => ref17_Check lpS p0 p1 p2 p3
  | _ => none
def ref18_Sound (L : Lps) (p0 : PV) : Option PV :=
  (Ab.asAgg 4 p0).bind fun x0 =>
  (Ab.asInt IntKind.i64 (cell p0 0)).bind fun n1 =>
    (Ab.asInt IntKind.i64 (cell p0 1)).bind fun n2 =>
      (Ab.asInt IntKind.i64 (cell p0 2)).bind fun n3 =>
        (Ab.asInt IntKind.i64 (cell p0 3)).bind fun n4 =>
          (bif decide (n2 ≥ 0) then some (decide (n2 ≤ 172800)) else some false).bind fun r5 =>
            (bif r5 then some (decide (n3 ≥ 0)) else some false).bind fun r6 =>
              (bif r6 then some (decide (n3 ≤ 172800)) else some false).bind fun r7 =>
                (bif r7 then some (decide (n2 < n3)) else some false).bind fun r8 =>
                  (bif r8 then some (decide (n4 ≥ 1)) else some false).bind fun r9 =>
                    (bif r9 then some (decide (n4 ≤ 86400)) else some false).bind fun r10 => some (PV.bool r10)
def ref18_Sound_M : List PV → Option PV
  | [p0] => ref18_Sound lpS p0
  | _ => none
def ref18_count (L : Lps) (p0 : PV) : Option PV :=
  (Ab.asAgg 4 p0).bind fun x0 =>
  (Ab.asInt IntKind.i64 (cell p0 0)).bind fun n1 =>
    (Ab.asInt IntKind.i64 (cell p0 1)).bind fun n2 =>
      (Ab.asInt IntKind.i64 (cell p0 2)).bind fun n3 =>
        (Ab.asInt IntKind.i64 (cell p0 3)).bind fun n4 =>
          if n4 = 0 then none
          else
            some
              (PV.int IntKind.i64
                (IntKind.i64.wrap (IntKind.i64.wrap ((IntKind.i64.wrap (IntKind.i64.wrap (n3 - n2) - 1)).tdiv n4) + 1)))
def ref18_count_M : List PV → Option PV
  | [p0] => ref18_count lpS p0
  | _ => none
def ref18_Shift (L : Lps) (p0 : PV) (p1 : PV) (p2 : PV) : Option PV :=
  (Ab.asInt IntKind.i64 p0).bind fun n0 =>
  (Ab.asInt IntKind.i64 p1).bind fun n1 =>
    (Ab.asInt IntKind.i64 p2).bind fun n2 =>
      (bif decide (n1 < 0) then some true else some (decide (n1 > 172800))).bind fun r3 =>
        if r3 = true then some (PV.tup [PV.int IntKind.i64 0, PV.bool false])
        else
          if decide (n0 ≥ n2) = true then
            if decide (IntKind.u64.wrap (IntKind.u64.wrap n0 - IntKind.u64.wrap n2) > 172800) = true then
              some (PV.tup [PV.int IntKind.i64 0, PV.bool false])
            else
              (bif decide (IntKind.i64.wrap (n1 + IntKind.i64.wrap (n0 - n2)) ≥ 0) then
                    some (decide (IntKind.i64.wrap (n1 + IntKind.i64.wrap (n0 - n2)) ≤ 172800))
                  else some false).bind
                fun r4 =>
                some (PV.tup [PV.int IntKind.i64 (IntKind.i64.wrap (n1 + IntKind.i64.wrap (n0 - n2))), PV.bool r4])
          else
            if decide (IntKind.u64.wrap (IntKind.u64.wrap n2 - IntKind.u64.wrap n0) > 172800) = true then
              some (PV.tup [PV.int IntKind.i64 0, PV.bool false])
            else
              (bif decide (IntKind.i64.wrap (n1 + IntKind.i64.wrap (n0 - n2)) ≥ 0) then
                    some (decide (IntKind.i64.wrap (n1 + IntKind.i64.wrap (n0 - n2)) ≤ 172800))
                  else some false).bind
                fun r5 =>
                some (PV.tup [PV.int IntKind.i64 (IntKind.i64.wrap (n1 + IntKind.i64.wrap (n0 - n2))), PV.bool r5])
def ref18_Shift_M : List PV → Option PV
  | [p0, p1, p2] => ref18_Shift lpS p0 p1 p2
  | _ => none
def ref18_Calls_L1 (L : Lps) : (Int × Int × Int × Bytes × Int × Int × Bool × List PV × List PV × Unit) → (Int × Int × Int × Bytes × Int × Int × Bool × List PV × List PV × Unit → Option PV) → Option PV := fun s9 rec10 =>
  if decide (s9.snd.snd.fst < (↑s9.snd.snd.snd.snd.snd.snd.snd.fst.length : Int)) = true then
  (idxP s9.snd.snd.snd.snd.snd.snd.snd.fst s9.snd.snd.fst).bind fun p11 =>
    (Ab.asInt IntKind.i64 (cell p11 1)).bind fun n12 =>
      (ref18_Shift_M [PV.int IntKind.i64 n12, PV.int IntKind.i64 s9.fst, PV.int IntKind.i64 s9.snd.fst]).bind fun r13 =>
        (asTup 2 r13).bind fun vs14 =>
          (Ab.asInt IntKind.i64 (vs14.getD 0 PV.bad)).bind fun n15 =>
            (Ab.asBool (vs14.getD 1 PV.bad)).bind fun b16 =>
              (Ab.asInt IntKind.i64 (cell p11 2)).bind fun n17 =>
                (ref18_Shift_M [PV.int IntKind.i64 n17, PV.int IntKind.i64 s9.fst, PV.int IntKind.i64 s9.snd.fst]).bind
                  fun r18 =>
                  (asTup 2 r18).bind fun vs19 =>
                    (Ab.asInt IntKind.i64 (vs19.getD 0 PV.bad)).bind fun n20 =>
                      (Ab.asBool (vs19.getD 1 PV.bad)).bind fun b21 =>
                        (bif !b16 then some true else some !b21).bind fun r22 =>
                          if r22 = true then some (PV.tup [PV.rs 5 [], PV.int IntKind.i64 10])
                          else
                            (Ab.asInt IntKind.i64 (cell p11 0)).bind fun n23 =>
                              (Ab.asBool (cell p11 3)).bind fun b24 =>
                                (Ab.asBool (cell p11 4)).bind fun b25 =>
                                  if
                                      (s9.snd.snd.snd.snd.snd.snd.snd.snd.fst ++
                                                [PV.agg
                                                    [PV.int IntKind.i64 n23, PV.int IntKind.i64 n15,
                                                      PV.int IntKind.i64 n20, PV.bool b24, PV.bool b25]]).length *
                                            32 ≤
                                          roomBound ∧
                                        0 < 32 then
                                    rec10
                                      (s9.fst, s9.snd.fst, IntKind.i64.wrap (s9.snd.snd.fst + 1), s9.snd.snd.snd.fst,
                                        s9.snd.snd.snd.snd.fst, s9.snd.snd.snd.snd.snd.fst,
                                        s9.snd.snd.snd.snd.snd.snd.fst, s9.snd.snd.snd.snd.snd.snd.snd.fst,
                                        s9.snd.snd.snd.snd.snd.snd.snd.snd.fst ++
                                          [PV.agg
                                              [PV.int IntKind.i64 n23, PV.int IntKind.i64 n15, PV.int IntKind.i64 n20,
                                                PV.bool b24, PV.bool b25]],
                                        ())
                                  else none
else some (PV.tup [PV.rs 5 s9.snd.snd.snd.snd.snd.snd.snd.snd.fst, PV.int IntKind.i64 0])
def ref18_Calls (L : Lps) (p0 : PV) (p1 : PV) : Option PV :=
  (Ab.asAgg 5 p0).bind fun x0 =>
  (asStr (cell p0 0)).bind fun s1 =>
    (Ab.asInt IntKind.i64 (cell p0 1)).bind fun n2 =>
      (Ab.asInt IntKind.i64 (cell p0 2)).bind fun n3 =>
        (Ab.asBool (cell p0 3)).bind fun b4 =>
          (asSl 5 (cell p0 4)).bind fun es5 =>
            (Ab.asInt IntKind.i64 p1).bind fun n6 =>
              if ((↑es5.length : Int) == 0) = true then some (PV.tup [PV.rs 5 [], PV.int IntKind.i64 16])
              else
                (idxP es5 0).bind fun p7 =>
                  (Ab.asInt IntKind.i64 (cell p7 2)).bind fun n8 =>
                    L.run (ref18_Calls_L1 L) (n6, n8, 0, s1, n2, n3, b4, es5, [], ())
def ref18_Calls_M : List PV → Option PV
  | [p0, p1] => ref18_Calls lpS p0 p1
  | _ => none
def ref18_Starts_L1 (L : Lps) : (Int × Int × Int × Int × Int × List PV × Unit) → (Int × Int × Int × Int × Int × List PV × Unit → Option PV) → Option PV := fun s7 rec8 =>
  if decide (s7.fst < s7.snd.snd.snd.fst) = true then
  if (s7.snd.snd.snd.snd.snd.fst ++ [PV.int IntKind.i64 s7.fst]).length * 8 ≤ roomBound ∧ 0 < 8 then
    rec8
      (IntKind.i64.wrap (s7.fst + s7.snd.snd.snd.snd.fst), s7.snd.fst, s7.snd.snd.fst, s7.snd.snd.snd.fst,
        s7.snd.snd.snd.snd.fst, s7.snd.snd.snd.snd.snd.fst ++ [PV.int IntKind.i64 s7.fst], ())
  else none
else some (PV.rs 1 s7.snd.snd.snd.snd.snd.fst)
def ref18_Starts (L : Lps) (p0 : PV) : Option PV :=
  (Ab.asAgg 4 p0).bind fun x0 =>
  (Ab.asInt IntKind.i64 (cell p0 0)).bind fun n1 =>
    (Ab.asInt IntKind.i64 (cell p0 1)).bind fun n2 =>
      (Ab.asInt IntKind.i64 (cell p0 2)).bind fun n3 =>
        (Ab.asInt IntKind.i64 (cell p0 3)).bind fun n4 =>
          (ref18_Sound_M
                [PV.agg
                    [PV.int IntKind.i64 n1, PV.int IntKind.i64 n2, PV.int IntKind.i64 n3, PV.int IntKind.i64 n4]]).bind
            fun r5 =>
            (Ab.asBool r5).bind fun b6 =>
              if (!b6) = true then some (PV.rs 1 []) else L.run (ref18_Starts_L1 L) (n2, n1, n2, n3, n4, [], ())
def ref18_Starts_M : List PV → Option PV
  | [p0] => ref18_Starts lpS p0
  | _ => none
def ref18_fits (L : Lps) (p0 : PV) (p1 : PV) : Option PV :=
  (Ab.asAgg 5 p0).bind fun x0 =>
  (asStr (cell p0 0)).bind fun s1 =>
    (Ab.asInt IntKind.i64 (cell p0 1)).bind fun n2 =>
      (Ab.asInt IntKind.i64 (cell p0 2)).bind fun n3 =>
        (Ab.asBool (cell p0 3)).bind fun b4 =>
          (asSl 5 (cell p0 4)).bind fun es5 =>
            (Ab.asAgg 4 p1).bind fun x6 =>
              (Ab.asInt IntKind.i64 (cell p1 0)).bind fun n7 =>
                (Ab.asInt IntKind.i64 (cell p1 1)).bind fun n8 =>
                  (Ab.asInt IntKind.i64 (cell p1 2)).bind fun n9 =>
                    (Ab.asInt IntKind.i64 (cell p1 3)).bind fun n10 =>
                      (ref18_Starts_M
                            [PV.agg
                                [PV.int IntKind.i64 n7, PV.int IntKind.i64 n8, PV.int IntKind.i64 n9,
                                  PV.int IntKind.i64 n10]]).bind
                        fun r11 =>
                        (asSl 1 r11).bind fun es12 =>
                          (idxP es12 0).bind fun p13 =>
                            (Ab.asInt IntKind.i64 (cell p13 0)).bind fun n14 =>
                              (ref18_Calls_M
                                    [PV.agg
                                        [PV.str s1, PV.int IntKind.i64 n2, PV.int IntKind.i64 n3, PV.bool b4,
                                          PV.rs 5 es5],
                                      PV.int IntKind.i64 n14]).bind
                                fun r15 =>
                                (asTup 2 r15).bind fun vs16 =>
                                  (asSl 5 (vs16.getD 0 PV.bad)).bind fun es17 =>
                                    (Ab.asInt IntKind.i64 (vs16.getD 1 PV.bad)).bind fun n18 =>
                                      (idxP es12 (IntKind.i64.wrap ((↑es12.length : Int) - 1))).bind fun p19 =>
                                        (Ab.asInt IntKind.i64 (cell p19 0)).bind fun n20 =>
                                          (ref18_Calls_M
                                                [PV.agg
                                                    [PV.str s1, PV.int IntKind.i64 n2, PV.int IntKind.i64 n3,
                                                      PV.bool b4, PV.rs 5 es5],
                                                  PV.int IntKind.i64 n20]).bind
                                            fun r21 =>
                                            (asTup 2 r21).bind fun vs22 =>
                                              (asSl 5 (vs22.getD 0 PV.bad)).bind fun es23 =>
                                                (Ab.asInt IntKind.i64 (vs22.getD 1 PV.bad)).bind fun n24 =>
                                                  (bif n18 != 10 then some (n24 != 10) else some false).bind fun r25 =>
                                                    some (PV.bool r25)
def ref18_fits_M : List PV → Option PV
  | [p0, p1] => ref18_fits lpS p0 p1
  | _ => none
def ref18_Check_L1 (rec3 : List PV × List PV × Int × Unit → Option PV) : (List PV × List PV × Int × Int × Bool × Int × PV × PV × PV × PV × Unit) → (List PV × List PV × Int × Int × Bool × Int × PV × PV × PV × PV × Unit → Option PV) → Option PV := fun s15 rec16 =>
  if decide (s15.snd.snd.snd.snd.snd.fst ≤ s15.snd.snd.fst) = true then
  (idxP s15.fst s15.snd.snd.snd.snd.snd.fst).bind fun p17 =>
    (Ab.asInt IntKind.i64 (cell p17 0)).bind fun n18 =>
      (Ab.asInt IntKind.i64 s15.snd.snd.snd.snd.snd.snd.fst).bind fun n19 =>
        if (n18 != n19) = true then
          rec16
            (s15.fst, s15.snd.fst, s15.snd.snd.fst, s15.snd.snd.snd.fst, s15.snd.snd.snd.snd.fst,
              IntKind.i64.wrap (s15.snd.snd.snd.snd.snd.fst + 1), s15.snd.snd.snd.snd.snd.snd.fst,
              s15.snd.snd.snd.snd.snd.snd.snd.fst, s15.snd.snd.snd.snd.snd.snd.snd.snd.fst,
              s15.snd.snd.snd.snd.snd.snd.snd.snd.snd.fst, ())
        else
          (idxP s15.fst s15.snd.snd.snd.snd.snd.fst).bind fun p20 =>
            (ref18_count_M [PV.agg [cell p20 0, cell p20 1, cell p20 2, cell p20 3]]).bind fun r21 =>
              (Ab.asInt IntKind.i64 r21).bind fun n22 =>
                (bif decide (s15.snd.snd.snd.snd.snd.fst < s15.snd.snd.fst) then
                      (idxP s15.fst s15.snd.snd.snd.snd.snd.fst).bind fun p23 =>
                        (Ab.asInt IntKind.i64 (cell p23 1)).bind fun n24 =>
                          (Ab.asInt IntKind.i64 s15.snd.snd.snd.snd.snd.snd.snd.snd.fst).bind fun n25 =>
                            some (decide (n24 < n25))
                    else some false).bind
                  fun r26 =>
                  (bif r26 then
                        (Ab.asInt IntKind.i64 s15.snd.snd.snd.snd.snd.snd.snd.fst).bind fun n27 =>
                          (idxP s15.fst s15.snd.snd.snd.snd.snd.fst).bind fun p28 =>
                            (Ab.asInt IntKind.i64 (cell p28 2)).bind fun n29 => some (decide (n27 < n29))
                      else some false).bind
                    fun r30 =>
                    if r30 = true then
                      rec16
                        (s15.fst, s15.snd.fst, s15.snd.snd.fst, IntKind.i64.wrap (s15.snd.snd.snd.fst + n22), true,
                          IntKind.i64.wrap (s15.snd.snd.snd.snd.snd.fst + 1), s15.snd.snd.snd.snd.snd.snd.fst,
                          s15.snd.snd.snd.snd.snd.snd.snd.fst, s15.snd.snd.snd.snd.snd.snd.snd.snd.fst,
                          s15.snd.snd.snd.snd.snd.snd.snd.snd.snd.fst, ())
                    else
                      rec16
                        (s15.fst, s15.snd.fst, s15.snd.snd.fst, IntKind.i64.wrap (s15.snd.snd.snd.fst + n22),
                          s15.snd.snd.snd.snd.fst, IntKind.i64.wrap (s15.snd.snd.snd.snd.snd.fst + 1),
                          s15.snd.snd.snd.snd.snd.snd.fst, s15.snd.snd.snd.snd.snd.snd.snd.fst,
                          s15.snd.snd.snd.snd.snd.snd.snd.snd.fst, s15.snd.snd.snd.snd.snd.snd.snd.snd.snd.fst, ())
else
  if decide (s15.snd.snd.snd.fst > 256) = true then
    some (PV.tup [PV.int IntKind.i64 s15.snd.snd.fst, PV.int IntKind.i64 17])
  else
    if s15.snd.snd.snd.snd.fst = true then some (PV.tup [PV.int IntKind.i64 s15.snd.snd.fst, PV.int IntKind.i64 8])
    else rec3 (s15.fst, s15.snd.fst, IntKind.i64.wrap (s15.snd.snd.fst + 1), ())
def ref18_Check_L2 (L : Lps) : (List PV × List PV × Int × Unit) → (List PV × List PV × Int × Unit → Option PV) → Option PV := fun s2 rec3 =>
  if decide (s2.snd.snd.fst < (↑s2.fst.length : Int)) = true then
  (idxP s2.fst s2.snd.snd.fst).bind fun p4 =>
    (Ab.asInt IntKind.i64 (cell p4 0)).bind fun n5 =>
      (bif decide (n5 < 0) then some true
          else (Ab.asInt IntKind.i64 (cell p4 0)).bind fun n6 => some (decide (n6 ≥ (↑s2.snd.fst.length : Int)))).bind
        fun r7 =>
        if r7 = true then some (PV.tup [PV.int IntKind.i64 s2.snd.snd.fst, PV.int IntKind.i64 9])
        else
          (ref18_Sound_M [PV.agg [cell p4 0, cell p4 1, cell p4 2, cell p4 3]]).bind fun r8 =>
            (Ab.asBool r8).bind fun b9 =>
              (bif !b9 then some true
                  else
                    (Ab.asInt IntKind.i64 (cell p4 0)).bind fun n10 =>
                      (idxP s2.snd.fst n10).bind fun p11 =>
                        (ref18_fits_M
                              [PV.agg [cell p11 0, cell p11 1, cell p11 2, cell p11 3, cell p11 4],
                                PV.agg [cell p4 0, cell p4 1, cell p4 2, cell p4 3]]).bind
                          fun r12 => (Ab.asBool r12).bind fun b13 => some !b13).bind
                fun r14 =>
                if r14 = true then some (PV.tup [PV.int IntKind.i64 s2.snd.snd.fst, PV.int IntKind.i64 10])
                else
                  L.run (ref18_Check_L1 rec3)
                    (s2.fst, s2.snd.fst, s2.snd.snd.fst, 0, false, 0, cell p4 0, cell p4 1, cell p4 2, cell p4 3, ())
else some (PV.tup [PV.int IntKind.i64 0, PV.int IntKind.i64 0])
def ref18_Check (L : Lps) (p0 : PV) (p1 : PV) : Option PV :=
  (asSl 4 p0).bind fun es0 =>
  (asSl 5 p1).bind fun es1 =>
    if decide ((↑es0.length : Int) > 64) = true then some (PV.tup [PV.int IntKind.i64 0, PV.int IntKind.i64 5])
    else L.run (ref18_Check_L2 L) (es0, es1, 0, ())
def ref18_Check_M : List PV → Option PV
  | [p0, p1] => ref18_Check lpS p0 p1
  | _ => none
def ref19_Has_L1 : (List PV × Int × Int × Unit) → (List PV × Int × Int × Unit → Option PV) → Option PV := fun s2 rec3 =>
  if decide (s2.snd.snd.fst < (↑s2.fst.length : Int)) = true then
  (idxP s2.fst s2.snd.snd.fst).bind fun p4 =>
    (Ab.asInt IntKind.i64 (cell p4 0)).bind fun n5 =>
      if (n5 == s2.snd.fst) = true then some (PV.bool true)
      else rec3 (s2.fst, s2.snd.fst, IntKind.i64.wrap (s2.snd.snd.fst + 1), ())
else some (PV.bool false)
def ref19_Has (L : Lps) (p0 : PV) (p1 : PV) : Option PV :=
  (asSl 1 p0).bind fun es0 => (Ab.asInt IntKind.i64 p1).bind fun n1 => L.run ref19_Has_L1 (es0, n1, 0, ())
def ref19_Has_M : List PV → Option PV
  | [p0, p1] => ref19_Has lpS p0 p1
  | _ => none
def ref19_Next_L1 : (List PV × Int × Int × Unit) → (List PV × Int × Int × Unit → Option PV) → Option PV := fun s2 rec3 =>
  if decide (s2.snd.snd.fst < (↑s2.fst.length : Int)) = true then
  (idxP s2.fst s2.snd.snd.fst).bind fun p4 =>
    (Ab.asInt IntKind.i64 (cell p4 0)).bind fun n5 =>
      if (n5 == s2.snd.fst) = true then
        (idxP s2.fst s2.snd.snd.fst).bind fun p6 =>
          (Ab.asInt IntKind.i64 (cell p6 1)).bind fun n7 => some (PV.tup [PV.int IntKind.i64 n7, PV.bool true])
      else rec3 (s2.fst, s2.snd.fst, IntKind.i64.wrap (s2.snd.snd.fst + 1), ())
else some (PV.tup [PV.int IntKind.i64 0, PV.bool false])
def ref19_Next (L : Lps) (p0 : PV) (p1 : PV) : Option PV :=
  (asSl 2 p0).bind fun es0 => (Ab.asInt IntKind.i64 p1).bind fun n1 => L.run ref19_Next_L1 (es0, n1, 0, ())
def ref19_Next_M : List PV → Option PV
  | [p0, p1] => ref19_Next lpS p0 p1
  | _ => none
def ref19_Chain_L1 (L : Lps) : (List PV × Int × Int × List PV × Unit) → (List PV × Int × Int × List PV × Unit → Option PV) → Option PV := fun s2 rec3 =>
  if decide (s2.snd.snd.fst < s2.snd.fst) = true then
  if inRange (IntKind.i64.wrap ((↑s2.snd.snd.snd.fst.length : Int) - 1)) s2.snd.snd.snd.fst.length then
    s2.snd.snd.snd.fst[(IntKind.i64.wrap ((↑s2.snd.snd.snd.fst.length : Int) - 1)).toNat]?.bind fun e4 =>
      (Ab.asInt IntKind.i64 (cell e4 0)).bind fun n5 =>
        (ref19_Next_M [PV.rs 2 s2.fst, PV.int IntKind.i64 n5]).bind fun r6 =>
          (asTup 2 r6).bind fun vs7 =>
            (Ab.asInt IntKind.i64 (vs7.getD 0 PV.bad)).bind fun n8 =>
              (Ab.asBool (vs7.getD 1 PV.bad)).bind fun b9 =>
                (bif !b9 then some true
                    else
                      (ref19_Has_M [PV.rs 1 s2.snd.snd.snd.fst, PV.int IntKind.i64 n8]).bind fun r10 =>
                        (Ab.asBool r10).bind fun b11 => some b11).bind
                  fun r12 =>
                  if r12 = true then some (PV.rs 1 s2.snd.snd.snd.fst)
                  else
                    if (s2.snd.snd.snd.fst ++ [PV.int IntKind.i64 n8]).length * 8 ≤ roomBound ∧ 0 < 8 then
                      rec3
                        (s2.fst, s2.snd.fst, IntKind.i64.wrap (s2.snd.snd.fst + 1),
                          s2.snd.snd.snd.fst ++ [PV.int IntKind.i64 n8], ())
                    else none
  else none
else some (PV.rs 1 s2.snd.snd.snd.fst)
def ref19_Chain (L : Lps) (p0 : PV) (p1 : PV) : Option PV :=
  (asSl 2 p0).bind fun es0 =>
  (Ab.asInt IntKind.i64 p1).bind fun n1 =>
    L.run (ref19_Chain_L1 L) (es0, (↑es0.length : Int), 0, [PV.int IntKind.i64 n1], ())
def ref19_Chain_M : List PV → Option PV
  | [p0, p1] => ref19_Chain lpS p0 p1
  | _ => none
def ref19_in (L : Lps) (p0 : PV) (p1 : PV) : Option PV :=
  (Ab.asInt IntKind.i64 p0).bind fun n0 =>
  (Ab.asInt IntKind.i64 p1).bind fun n1 =>
    (bif decide (n0 ≥ 0) then some (decide (n0 < n1)) else some false).bind fun r2 => some (PV.bool r2)
def ref19_in_M : List PV → Option PV
  | [p0, p1] => ref19_in lpS p0 p1
  | _ => none
def ref19_repeated_L1 : (List PV × Int × Int × Unit) → (List PV × Int × Int × Unit → Option PV) → Option PV := fun s2 rec3 =>
  if decide (s2.snd.snd.fst < (↑s2.fst.length : Int)) = true then
  (idxP s2.fst s2.snd.snd.fst).bind fun p4 =>
    (Ab.asInt IntKind.i64 (cell p4 0)).bind fun n5 =>
      if (n5 == s2.snd.fst) = true then some (PV.bool true)
      else rec3 (s2.fst, s2.snd.fst, IntKind.i64.wrap (s2.snd.snd.fst + 1), ())
else some (PV.bool false)
def ref19_repeated (L : Lps) (p0 : PV) (p1 : PV) : Option PV :=
  (asSl 4 p0).bind fun es0 => (Ab.asInt IntKind.i64 p1).bind fun n1 => L.run ref19_repeated_L1 (es0, n1, 0, ())
def ref19_repeated_M : List PV → Option PV
  | [p0, p1] => ref19_repeated lpS p0 p1
  | _ => none
def ref19_one_L1 (L : Lps) : (List PV × Int × Int × PV × PV × Unit) → (List PV × Int × Int × PV × PV × Unit → Option PV) → Option PV := fun s44 rec45 =>
  if decide (s44.snd.snd.fst < s44.snd.fst) = true then
  (idxP s44.fst s44.snd.snd.fst).bind fun p46 =>
    (Ab.asInt IntKind.i64 (cell p46 0)).bind fun n47 =>
      (Ab.asInt IntKind.i64 s44.snd.snd.snd.fst).bind fun n48 =>
        (bif n47 == n48 then some true
            else
              (idxP s44.fst s44.snd.snd.fst).bind fun p49 =>
                (Ab.asInt IntKind.i64 (cell p49 1)).bind fun n50 =>
                  (Ab.asInt IntKind.i64 s44.snd.snd.snd.snd.fst).bind fun n51 => some (n50 == n51)).bind
          fun r52 =>
          if r52 = true then some (PV.int IntKind.i64 6)
          else
            rec45
              (s44.fst, s44.snd.fst, IntKind.i64.wrap (s44.snd.snd.fst + 1), s44.snd.snd.snd.fst,
                s44.snd.snd.snd.snd.fst, ())
else
  if (0 : Int) ≤ 0 ∧ 0 ≤ s44.snd.fst ∧ s44.snd.fst ≤ (↑s44.fst.length : Int) ∧ 2 = 2 ∧ 2 ≠ 0 then
    (Ab.asInt IntKind.i64 s44.snd.snd.snd.snd.fst).bind fun n53 =>
      (ref19_Chain_M
            [PV.rs 2 (List.drop (Int.toNat 0) (List.take s44.snd.fst.toNat s44.fst)), PV.int IntKind.i64 n53]).bind
        fun r54 =>
        (asSl 1 r54).bind fun es55 =>
          (Ab.asInt IntKind.i64 s44.snd.snd.snd.fst).bind fun n56 =>
            (ref19_Has_M [PV.rs 1 es55, PV.int IntKind.i64 n56]).bind fun r57 =>
              (Ab.asBool r57).bind fun b58 =>
                if b58 = true then some (PV.int IntKind.i64 19) else some (PV.int IntKind.i64 0)
  else none
def ref19_one (L : Lps) (p0 : PV) (p1 : PV) (p2 : PV) (p3 : PV) : Option PV :=
  (asSl 2 p0).bind fun es0 =>
  (Ab.asInt IntKind.i64 p1).bind fun n1 =>
    (asSl 5 p2).bind fun es2 =>
      (asSl 4 p3).bind fun es3 =>
        (idxP es0 n1).bind fun p4 =>
          (Ab.asInt IntKind.i64 (cell p4 0)).bind fun n5 =>
            (ref19_in_M [PV.int IntKind.i64 n5, PV.int IntKind.i64 (↑es2.length : Int)]).bind fun r6 =>
              (Ab.asBool r6).bind fun b7 =>
                (bif !b7 then some true
                    else
                      (Ab.asInt IntKind.i64 (cell p4 1)).bind fun n8 =>
                        (ref19_in_M [PV.int IntKind.i64 n8, PV.int IntKind.i64 (↑es2.length : Int)]).bind fun r9 =>
                          (Ab.asBool r9).bind fun b10 => some !b10).bind
                  fun r11 =>
                  (bif r11 then some true
                      else
                        (Ab.asInt IntKind.i64 (cell p4 0)).bind fun n12 =>
                          (Ab.asInt IntKind.i64 (cell p4 1)).bind fun n13 => some (n12 == n13)).bind
                    fun r14 =>
                    if r14 = true then some (PV.int IntKind.i64 9)
                    else
                      (Ab.asInt IntKind.i64 (cell p4 0)).bind fun n15 =>
                        (ref19_repeated_M [PV.rs 4 es3, PV.int IntKind.i64 n15]).bind fun r16 =>
                          (Ab.asBool r16).bind fun b17 =>
                            (bif b17 then some true
                                else
                                  (Ab.asInt IntKind.i64 (cell p4 1)).bind fun n18 =>
                                    (ref19_repeated_M [PV.rs 4 es3, PV.int IntKind.i64 n18]).bind fun r19 =>
                                      (Ab.asBool r19).bind fun b20 => some b20).bind
                              fun r21 =>
                              if r21 = true then some (PV.int IntKind.i64 17)
                              else
                                (Ab.asInt IntKind.i64 (cell p4 0)).bind fun n22 =>
                                  (idxP es2 n22).bind fun p23 =>
                                    (Ab.asInt IntKind.i64 (cell p4 1)).bind fun n24 =>
                                      (idxP es2 n24).bind fun p25 =>
                                        (Ab.asInt IntKind.i64 (cell p23 2)).bind fun n26 =>
                                          (Ab.asInt IntKind.i64 (cell p25 2)).bind fun n27 =>
                                            if (n26 != n27) = true then some (PV.int IntKind.i64 15)
                                            else
                                              (asSl 5 (cell p23 4)).bind fun es28 =>
                                                (bif decide (IntKind.i64.wrap ((↑es28.length : Int) - 1) < 0) then
                                                      some true
                                                    else
                                                      (asSl 5 (cell p25 4)).bind fun es29 =>
                                                        some ((↑es29.length : Int) == 0)).bind
                                                  fun r30 =>
                                                  (bif r30 then some true
                                                      else
                                                        (asSl 5 (cell p23 4)).bind fun es31 =>
                                                          (idxP es31 (IntKind.i64.wrap ((↑es28.length : Int) - 1))).bind
                                                            fun p32 =>
                                                            (Ab.asInt IntKind.i64 (cell p32 0)).bind fun n33 =>
                                                              (asSl 5 (cell p25 4)).bind fun es34 =>
                                                                (idxP es34 0).bind fun p35 =>
                                                                  (Ab.asInt IntKind.i64 (cell p35 0)).bind fun n36 =>
                                                                    some (n33 != n36)).bind
                                                    fun r37 =>
                                                    if r37 = true then some (PV.int IntKind.i64 13)
                                                    else
                                                      (asSl 5 (cell p25 4)).bind fun es38 =>
                                                        (idxP es38 0).bind fun p39 =>
                                                          (Ab.asInt IntKind.i64 (cell p39 2)).bind fun n40 =>
                                                            (asSl 5 (cell p23 4)).bind fun es41 =>
                                                              (idxP es41
                                                                    (IntKind.i64.wrap ((↑es28.length : Int) - 1))).bind
                                                                fun p42 =>
                                                                (Ab.asInt IntKind.i64 (cell p42 1)).bind fun n43 =>
                                                                  if decide (n40 < n43) = true then
                                                                    some (PV.int IntKind.i64 10)
                                                                  else
                                                                    L.run (ref19_one_L1 L)
                                                                      (es0, n1, 0, cell p4 0, cell p4 1, ())
def ref19_one_M : List PV → Option PV
  | [p0, p1, p2, p3] => ref19_one lpS p0 p1 p2 p3
  | _ => none
def ref19_Check_L1 : (List PV × List PV × List PV × Int × Unit) → (List PV × List PV × List PV × Int × Unit → Option PV) → Option PV := fun s3 rec4 =>
  if decide (s3.snd.snd.snd.fst < (↑s3.fst.length : Int)) = true then
  (ref19_one_M [PV.rs 2 s3.fst, PV.int IntKind.i64 s3.snd.snd.snd.fst, PV.rs 5 s3.snd.fst, PV.rs 4 s3.snd.snd.fst]).bind
    fun r5 =>
    (Ab.asInt IntKind.i64 r5).bind fun n6 =>
      if (n6 != 0) = true then some (PV.tup [PV.int IntKind.i64 s3.snd.snd.snd.fst, PV.int IntKind.i64 n6])
      else rec4 (s3.fst, s3.snd.fst, s3.snd.snd.fst, IntKind.i64.wrap (s3.snd.snd.snd.fst + 1), ())
else some (PV.tup [PV.int IntKind.i64 0, PV.int IntKind.i64 0])
def ref19_Check (L : Lps) (p0 : PV) (p1 : PV) (p2 : PV) : Option PV :=
  (asSl 2 p0).bind fun es0 =>
  (asSl 5 p1).bind fun es1 =>
    (asSl 4 p2).bind fun es2 =>
      if decide ((↑es0.length : Int) > 128) = true then some (PV.tup [PV.int IntKind.i64 0, PV.int IntKind.i64 5])
      else L.run ref19_Check_L1 (es0, es1, es2, 0, ())
def ref19_Check_M : List PV → Option PV
  | [p0, p1, p2] => ref19_Check lpS p0 p1 p2
  | _ => none
def ref19_Meets_L1 : (List PV × List PV × Int × Int × Int × Unit) → (List PV × List PV × Int × Int × Int × Unit → Option PV) → Option PV := fun s10 rec11 =>
  if decide (IntKind.i64.wrap (s10.snd.snd.snd.snd.fst + 1) < (↑s10.snd.fst.length : Int)) = true then
  (idxP s10.snd.fst s10.snd.snd.snd.snd.fst).bind fun p12 =>
    (Ab.asInt IntKind.i64 (cell p12 0)).bind fun n13 =>
      (bif n13 == s10.snd.snd.fst then
            (idxP s10.snd.fst s10.snd.snd.snd.snd.fst).bind fun p14 => (Ab.asBool (cell p14 3)).bind fun b15 => some b15
          else some false).bind
        fun r16 =>
        if r16 = true then
          (idxP s10.snd.fst s10.snd.snd.snd.snd.fst).bind fun p17 =>
            (Ab.asInt IntKind.i64 (cell p17 2)).bind fun n18 =>
              (idxP s10.fst s10.snd.snd.snd.fst).bind fun p19 =>
                (Ab.asInt IntKind.i64 (cell p19 1)).bind fun n20 =>
                  if decide (n18 < n20) = true then
                    some (PV.tup [PV.int IntKind.i64 0, PV.int IntKind.i64 0, PV.bool false])
                  else
                    some
                      (PV.tup
                        [PV.int IntKind.i64 s10.snd.snd.snd.fst, PV.int IntKind.i64 s10.snd.snd.snd.snd.fst,
                          PV.bool true])
        else
          rec11
            (s10.fst, s10.snd.fst, s10.snd.snd.fst, s10.snd.snd.snd.fst, IntKind.i64.wrap (s10.snd.snd.snd.snd.fst + 1),
              ())
else some (PV.tup [PV.int IntKind.i64 0, PV.int IntKind.i64 0, PV.bool false])
def ref19_Meets_L2 (L : Lps) : (List PV × List PV × Int × Int × Unit) → (List PV × List PV × Int × Int × Unit → Option PV) → Option PV := fun s3 rec4 =>
  if decide (s3.snd.snd.snd.fst < (↑s3.fst.length : Int)) = true then
  (idxP s3.fst s3.snd.snd.snd.fst).bind fun p5 =>
    (Ab.asInt IntKind.i64 (cell p5 0)).bind fun n6 =>
      (bif n6 != s3.snd.snd.fst then some true
          else (idxP s3.fst s3.snd.snd.snd.fst).bind fun p7 => (Ab.asBool (cell p7 4)).bind fun b8 => some !b8).bind
        fun r9 =>
        if r9 = true then rec4 (s3.fst, s3.snd.fst, s3.snd.snd.fst, IntKind.i64.wrap (s3.snd.snd.snd.fst + 1), ())
        else L.run ref19_Meets_L1 (s3.fst, s3.snd.fst, s3.snd.snd.fst, s3.snd.snd.snd.fst, 0, ())
else some (PV.tup [PV.int IntKind.i64 0, PV.int IntKind.i64 0, PV.bool false])
def ref19_Meets (L : Lps) (p0 : PV) (p1 : PV) (p2 : PV) : Option PV :=
  (asSl 5 p0).bind fun es0 =>
  (asSl 5 p1).bind fun es1 => (Ab.asInt IntKind.i64 p2).bind fun n2 => L.run (ref19_Meets_L2 L) (es0, es1, n2, 1, ())
def ref19_Meets_M : List PV → Option PV
  | [p0, p1, p2] => ref19_Meets lpS p0 p1 p2
  | _ => none
def ref19_guarantee_L1 : (List PV × Int × Int × PV × PV × PV × Unit) → (List PV × Int × Int × PV × PV × PV × Unit → Option PV) → Option PV := fun s39 rec40 =>
  if decide (s39.snd.snd.fst < s39.snd.fst) = true then
  (idxP s39.fst s39.snd.snd.fst).bind fun p41 =>
    if
        chk (Kd.int IntKind.i64 :: [].append (Kd.int IntKind.i64 :: [].append (Kd.int IntKind.i64 :: [].append [])))
              [cell p41 0, cell p41 1, cell p41 2] =
            true ∧
          chk (Kd.int IntKind.i64 :: [].append (Kd.int IntKind.i64 :: [].append (Kd.int IntKind.i64 :: [].append [])))
              [s39.snd.snd.snd.fst, s39.snd.snd.snd.snd.fst, s39.snd.snd.snd.snd.snd.fst] =
            true then
      if
          peqL [cell p41 0, cell p41 1, cell p41 2]
              [s39.snd.snd.snd.fst, s39.snd.snd.snd.snd.fst, s39.snd.snd.snd.snd.snd.fst] =
            true then
        some (PV.int IntKind.i64 6)
      else
        rec40
          (s39.fst, s39.snd.fst, IntKind.i64.wrap (s39.snd.snd.fst + 1), s39.snd.snd.snd.fst, s39.snd.snd.snd.snd.fst,
            s39.snd.snd.snd.snd.snd.fst, ())
    else none
else some (PV.int IntKind.i64 0)
def ref19_guarantee (L : Lps) (p0 : PV) (p1 : PV) (p2 : PV) (p3 : PV) (p4 : PV) : Option PV :=
  (asSl 3 p0).bind fun es0 =>
  (Ab.asInt IntKind.i64 p1).bind fun n1 =>
    (asSl 5 p2).bind fun es2 =>
      (asSl 4 p3).bind fun es3 =>
        (Ab.asInt IntKind.i64 p4).bind fun n4 =>
          (idxP es0 n1).bind fun p5 =>
            (Ab.asInt IntKind.i64 (cell p5 0)).bind fun n6 =>
              (ref19_in_M [PV.int IntKind.i64 n6, PV.int IntKind.i64 (↑es2.length : Int)]).bind fun r7 =>
                (Ab.asBool r7).bind fun b8 =>
                  (bif !b8 then some true
                      else
                        (Ab.asInt IntKind.i64 (cell p5 1)).bind fun n9 =>
                          (ref19_in_M [PV.int IntKind.i64 n9, PV.int IntKind.i64 (↑es2.length : Int)]).bind fun r10 =>
                            (Ab.asBool r10).bind fun b11 => some !b11).bind
                    fun r12 =>
                    (bif r12 then some true
                        else
                          (Ab.asInt IntKind.i64 (cell p5 0)).bind fun n13 =>
                            (Ab.asInt IntKind.i64 (cell p5 1)).bind fun n14 => some (n13 == n14)).bind
                      fun r15 =>
                      (bif r15 then some true
                          else
                            (Ab.asInt IntKind.i64 (cell p5 2)).bind fun n16 =>
                              (ref19_in_M [PV.int IntKind.i64 n16, PV.int IntKind.i64 n4]).bind fun r17 =>
                                (Ab.asBool r17).bind fun b18 => some !b18).bind
                        fun r19 =>
                        if r19 = true then some (PV.int IntKind.i64 9)
                        else
                          (Ab.asInt IntKind.i64 (cell p5 0)).bind fun n20 =>
                            (ref19_repeated_M [PV.rs 4 es3, PV.int IntKind.i64 n20]).bind fun r21 =>
                              (Ab.asBool r21).bind fun b22 =>
                                (bif b22 then some true
                                    else
                                      (Ab.asInt IntKind.i64 (cell p5 1)).bind fun n23 =>
                                        (ref19_repeated_M [PV.rs 4 es3, PV.int IntKind.i64 n23]).bind fun r24 =>
                                          (Ab.asBool r24).bind fun b25 => some b25).bind
                                  fun r26 =>
                                  if r26 = true then some (PV.int IntKind.i64 17)
                                  else
                                    (Ab.asInt IntKind.i64 (cell p5 0)).bind fun n27 =>
                                      (idxP es2 n27).bind fun p28 =>
                                        (asSl 5 (cell p28 4)).bind fun es29 =>
                                          (Ab.asInt IntKind.i64 (cell p5 1)).bind fun n30 =>
                                            (idxP es2 n30).bind fun p31 =>
                                              (asSl 5 (cell p31 4)).bind fun es32 =>
                                                (Ab.asInt IntKind.i64 (cell p5 2)).bind fun n33 =>
                                                  (ref19_Meets_M
                                                        [PV.rs 5 es29, PV.rs 5 es32, PV.int IntKind.i64 n33]).bind
                                                    fun r34 =>
                                                    (asTup 3 r34).bind fun vs35 =>
                                                      (Ab.asInt IntKind.i64 (vs35.getD 0 PV.bad)).bind fun n36 =>
                                                        (Ab.asInt IntKind.i64 (vs35.getD 1 PV.bad)).bind fun n37 =>
                                                          (Ab.asBool (vs35.getD 2 PV.bad)).bind fun b38 =>
                                                            if (!b38) = true then some (PV.int IntKind.i64 19)
                                                            else
                                                              L.run ref19_guarantee_L1
                                                                (es0, n1, 0, cell p5 0, cell p5 1, cell p5 2, ())
def ref19_guarantee_M : List PV → Option PV
  | [p0, p1, p2, p3, p4] => ref19_guarantee lpS p0 p1 p2 p3 p4
  | _ => none
def ref19_CheckGuarantees_L1 : (List PV × List PV × List PV × Int × Int × Unit) → (List PV × List PV × List PV × Int × Int × Unit → Option PV) → Option PV := fun s4 rec5 =>
  if decide (s4.snd.snd.snd.snd.fst < (↑s4.fst.length : Int)) = true then
  (ref19_guarantee_M
        [PV.rs 3 s4.fst, PV.int IntKind.i64 s4.snd.snd.snd.snd.fst, PV.rs 5 s4.snd.fst, PV.rs 4 s4.snd.snd.fst,
          PV.int IntKind.i64 s4.snd.snd.snd.fst]).bind
    fun r6 =>
    (Ab.asInt IntKind.i64 r6).bind fun n7 =>
      if (n7 != 0) = true then some (PV.tup [PV.int IntKind.i64 s4.snd.snd.snd.snd.fst, PV.int IntKind.i64 n7])
      else
        rec5 (s4.fst, s4.snd.fst, s4.snd.snd.fst, s4.snd.snd.snd.fst, IntKind.i64.wrap (s4.snd.snd.snd.snd.fst + 1), ())
else some (PV.tup [PV.int IntKind.i64 0, PV.int IntKind.i64 0])
def ref19_CheckGuarantees (L : Lps) (p0 : PV) (p1 : PV) (p2 : PV) (p3 : PV) : Option PV :=
  (asSl 3 p0).bind fun es0 =>
  (asSl 5 p1).bind fun es1 =>
    (asSl 4 p2).bind fun es2 =>
      (Ab.asInt IntKind.i64 p3).bind fun n3 =>
        if decide ((↑es0.length : Int) > 128) = true then some (PV.tup [PV.int IntKind.i64 0, PV.int IntKind.i64 5])
        else L.run ref19_CheckGuarantees_L1 (es0, es1, es2, n3, 0, ())
def ref19_CheckGuarantees_M : List PV → Option PV
  | [p0, p1, p2, p3] => ref19_CheckGuarantees lpS p0 p1 p2 p3
  | _ => none
def ref20_valid_L1 (rec3 : List PV × Int × Int × Unit → Option PV) : (List PV × Int × Int × Int × PV × PV × PV × PV × Unit) → (List PV × Int × Int × Int × PV × PV × PV × PV × Unit → Option PV) → Option PV := fun s18 rec19 =>
  if decide (s18.snd.snd.snd.fst < s18.snd.snd.fst) = true then
  (idxP s18.fst s18.snd.snd.snd.fst).bind fun p20 =>
    (Ab.asInt IntKind.i64 (cell p20 0)).bind fun n21 =>
      (Ab.asInt IntKind.i64 s18.snd.snd.snd.snd.fst).bind fun n22 =>
        (bif n21 == n22 then
              (idxP s18.fst s18.snd.snd.snd.fst).bind fun p23 =>
                (Ab.asInt IntKind.i64 (cell p23 1)).bind fun n24 =>
                  (Ab.asInt IntKind.i64 s18.snd.snd.snd.snd.snd.fst).bind fun n25 => some (n24 == n25)
            else some false).bind
          fun r26 =>
          (bif r26 then
                (idxP s18.fst s18.snd.snd.snd.fst).bind fun p27 =>
                  (Ab.asBool (cell p27 3)).bind fun b28 =>
                    (Ab.asBool s18.snd.snd.snd.snd.snd.snd.snd.fst).bind fun b29 => some (b28 == b29)
              else some false).bind
            fun r30 =>
            if r30 = true then some (PV.tup [PV.int IntKind.i64 s18.snd.snd.fst, PV.int IntKind.i64 6])
            else
              rec19
                (s18.fst, s18.snd.fst, s18.snd.snd.fst, IntKind.i64.wrap (s18.snd.snd.snd.fst + 1),
                  s18.snd.snd.snd.snd.fst, s18.snd.snd.snd.snd.snd.fst, s18.snd.snd.snd.snd.snd.snd.fst,
                  s18.snd.snd.snd.snd.snd.snd.snd.fst, ())
else rec3 (s18.fst, s18.snd.fst, IntKind.i64.wrap (s18.snd.snd.fst + 1), ())
def ref20_valid_L2 (L : Lps) : (List PV × Int × Int × Unit) → (List PV × Int × Int × Unit → Option PV) → Option PV := fun s2 rec3 =>
  if decide (s2.snd.snd.fst < (↑s2.fst.length : Int)) = true then
  (idxP s2.fst s2.snd.snd.fst).bind fun p4 =>
    (Ab.asInt IntKind.i64 (cell p4 0)).bind fun n5 =>
      (bif decide (n5 < 0) then some true
          else (Ab.asInt IntKind.i64 (cell p4 0)).bind fun n6 => some (decide (n6 ≥ s2.snd.fst))).bind
        fun r7 =>
        (bif r7 then some true else (Ab.asInt IntKind.i64 (cell p4 1)).bind fun n8 => some (decide (n8 < 0))).bind
          fun r9 =>
          (bif r9 then some true
              else (Ab.asInt IntKind.i64 (cell p4 1)).bind fun n10 => some (decide (n10 ≥ s2.snd.fst))).bind
            fun r11 =>
            (bif r11 then some true
                else
                  (Ab.asInt IntKind.i64 (cell p4 0)).bind fun n12 =>
                    (Ab.asInt IntKind.i64 (cell p4 1)).bind fun n13 => some (n12 == n13)).bind
              fun r14 =>
              if r14 = true then some (PV.tup [PV.int IntKind.i64 s2.snd.snd.fst, PV.int IntKind.i64 9])
              else
                (Ab.asInt IntKind.i64 (cell p4 2)).bind fun n15 =>
                  (bif decide (n15 < 1) then some true
                      else (Ab.asInt IntKind.i64 (cell p4 2)).bind fun n16 => some (decide (n16 > 14400))).bind
                    fun r17 =>
                    if r17 = true then some (PV.tup [PV.int IntKind.i64 s2.snd.snd.fst, PV.int IntKind.i64 2])
                    else
                      L.run (ref20_valid_L1 rec3)
                        (s2.fst, s2.snd.fst, s2.snd.snd.fst, 0, cell p4 0, cell p4 1, cell p4 2, cell p4 3, ())
else some (PV.tup [PV.int IntKind.i64 0, PV.int IntKind.i64 0])
def ref20_valid (L : Lps) (p0 : PV) (p1 : PV) : Option PV :=
  (asSl 4 p0).bind fun es0 => (Ab.asInt IntKind.i64 p1).bind fun n1 => L.run (ref20_valid_L2 L) (es0, n1, 0, ())
def ref20_valid_M : List PV → Option PV
  | [p0, p1] => ref20_valid lpS p0 p1
  | _ => none
def ref20_Check (L : Lps) (p0 : PV) (p1 : PV) : Option PV :=
  (asSl 4 p0).bind fun es0 =>
  (Ab.asInt IntKind.i64 p1).bind fun n1 =>
    if decide ((↑es0.length : Int) > 512) = true then some (PV.tup [PV.int IntKind.i64 0, PV.int IntKind.i64 5])
    else
      (ref20_valid_M [PV.rs 4 es0, PV.int IntKind.i64 n1]).bind fun r2 =>
        (asTup 2 r2).bind fun vs3 =>
          (Ab.asInt IntKind.i64 (vs3.getD 0 PV.bad)).bind fun n4 =>
            (Ab.asInt IntKind.i64 (vs3.getD 1 PV.bad)).bind fun n5 =>
              some (PV.tup [PV.int IntKind.i64 n4, PV.int IntKind.i64 n5])
def ref20_Check_M : List PV → Option PV
  | [p0, p1] => ref20_Check lpS p0 p1
  | _ => none
def ref21_within (L : Lps) (p0 : PV) (p1 : PV) (p2 : PV) : Option PV :=
  (Ab.asInt IntKind.i64 p0).bind fun n0 =>
  (Ab.asInt IntKind.i64 p1).bind fun n1 =>
    (Ab.asInt IntKind.i64 p2).bind fun n2 =>
      (bif decide (n0 ≥ n1) then some (decide (n0 ≤ n2)) else some false).bind fun r3 => some (PV.bool r3)
def ref21_within_M : List PV → Option PV
  | [p0, p1, p2] => ref21_within lpS p0 p1 p2
  | _ => none
def ref21_Right (L : Lps) (p0 : PV) : Option PV :=
  (Ab.asAgg 6 p0).bind fun x0 =>
  (asStr (cell p0 0)).bind fun s1 =>
    (Ab.asInt IntKind.i64 (cell p0 1)).bind fun n2 =>
      (Ab.asInt IntKind.i64 (cell p0 2)).bind fun n3 =>
        (Ab.asInt IntKind.i64 (cell p0 3)).bind fun n4 =>
          (Ab.asInt IntKind.i64 (cell p0 4)).bind fun n5 =>
            (Ab.asInt IntKind.i64 (cell p0 5)).bind fun n6 =>
              (ref21_within_M [PV.int IntKind.i64 n2, PV.int IntKind.i64 0, PV.int IntKind.i64 1000000]).bind fun r7 =>
                (Ab.asBool r7).bind fun b8 =>
                  (bif b8 then
                        (ref21_within_M [PV.int IntKind.i64 n3, PV.int IntKind.i64 1, PV.int IntKind.i64 8]).bind
                          fun r9 => (Ab.asBool r9).bind fun b10 => some b10
                      else some false).bind
                    fun r11 =>
                    (bif r11 then
                          (ref21_within_M [PV.int IntKind.i64 n4, PV.int IntKind.i64 1, PV.int IntKind.i64 16]).bind
                            fun r12 => (Ab.asBool r12).bind fun b13 => some b13
                        else some false).bind
                      fun r14 =>
                      (bif r14 then
                            (ref21_within_M
                                  [PV.int IntKind.i64 n5, PV.int IntKind.i64 0, PV.int IntKind.i64 86400]).bind
                              fun r15 => (Ab.asBool r15).bind fun b16 => some b16
                          else some false).bind
                        fun r17 =>
                        (bif r17 then
                              (ref21_within_M
                                    [PV.int IntKind.i64 n6, PV.int IntKind.i64 1, PV.int IntKind.i64 255]).bind
                                fun r18 => (Ab.asBool r18).bind fun b19 => some b19
                            else some false).bind
                          fun r20 => some (PV.bool r20)
def ref21_Right_M : List PV → Option PV
  | [p0] => ref21_Right lpS p0
  | _ => none
def ref21_Check_L1 (rec14 : List PV × Int × Unit → Option PV) : (List PV × Int × Int × Unit) → (List PV × Int × Int × Unit → Option PV) → Option PV := fun s19 rec20 =>
  if decide (s19.snd.snd.fst < s19.snd.fst) = true then
  (idxP s19.fst s19.snd.snd.fst).bind fun p21 =>
    (asStr (cell p21 0)).bind fun s22 =>
      (idxP s19.fst s19.snd.fst).bind fun p23 =>
        (asStr (cell p23 0)).bind fun s24 =>
          if (s22 == s24) = true then some (PV.tup [PV.int IntKind.i64 s19.snd.fst, PV.int IntKind.i64 6])
          else rec20 (s19.fst, s19.snd.fst, IntKind.i64.wrap (s19.snd.snd.fst + 1), ())
else
  (idxP s19.fst s19.snd.fst).bind fun p25 =>
    (ref21_Right_M [PV.agg [cell p25 0, cell p25 1, cell p25 2, cell p25 3, cell p25 4, cell p25 5]]).bind fun r26 =>
      (Ab.asBool r26).bind fun b27 =>
        if (!b27) = true then some (PV.tup [PV.int IntKind.i64 s19.snd.fst, PV.int IntKind.i64 2])
        else rec14 (s19.fst, IntKind.i64.wrap (s19.snd.fst + 1), ())
def ref21_Check_L2 (L : Lps) : (List PV × Int × Unit) → (List PV × Int × Unit → Option PV) → Option PV := fun s13 rec14 =>
  if decide (s13.snd.fst < (↑s13.fst.length : Int)) = true then
  (idxP s13.fst s13.snd.fst).bind fun p15 =>
    (asStr (cell p15 0)).bind fun s16 =>
      (ref15_Name_M [PV.str s16]).bind fun r17 =>
        (Ab.asBool r17).bind fun b18 =>
          if (!b18) = true then some (PV.tup [PV.int IntKind.i64 s13.snd.fst, PV.int IntKind.i64 12])
          else L.run (ref21_Check_L1 rec14) (s13.fst, s13.snd.fst, 0, ())
else some (PV.tup [PV.int IntKind.i64 0, PV.int IntKind.i64 0])
def ref21_Check (L : Lps) (p0 : PV) : Option PV :=
  (Ab.asAgg 4 p0).bind fun x0 =>
  (asSl 6 (cell p0 0)).bind fun es1 =>
    (Ab.asInt IntKind.i64 (cell p0 1)).bind fun n2 =>
      (Ab.asInt IntKind.i64 (cell p0 2)).bind fun n3 =>
        (Ab.asInt IntKind.i64 (cell p0 3)).bind fun n4 =>
          (ref21_within_M [PV.int IntKind.i64 n2, PV.int IntKind.i64 0, PV.int IntKind.i64 1000000]).bind fun r5 =>
            (Ab.asBool r5).bind fun b6 =>
              (bif !b6 then some true
                  else
                    (ref21_within_M [PV.int IntKind.i64 n3, PV.int IntKind.i64 0, PV.int IntKind.i64 86400]).bind
                      fun r7 => (Ab.asBool r7).bind fun b8 => some !b8).bind
                fun r9 =>
                (bif r9 then some true
                    else
                      (ref21_within_M [PV.int IntKind.i64 n4, PV.int IntKind.i64 0, PV.int IntKind.i64 1000000]).bind
                        fun r10 => (Ab.asBool r10).bind fun b11 => some !b11).bind
                  fun r12 =>
                  if r12 = true then some (PV.tup [PV.int IntKind.i64 (-1), PV.int IntKind.i64 2])
                  else
                    if decide ((↑es1.length : Int) > 16) = true then
                      some (PV.tup [PV.int IntKind.i64 0, PV.int IntKind.i64 5])
                    else L.run (ref21_Check_L2 L) (es1, 0, ())
def ref21_Check_M : List PV → Option PV
  | [p0] => ref21_Check lpS p0
  | _ => none
def ref22_part (L : Lps) (p0 : PV) (p1 : PV) : Option PV :=
  (Ab.asAgg 13 p0).bind fun x0 =>
  (asSl 4 (cell p0 0)).bind fun es1 =>
    (asSl 3 (cell p0 1)).bind fun es2 =>
      (asSl 10 (cell p0 2)).bind fun es3 =>
        (asSl 3 (cell p0 3)).bind fun es4 =>
          (asSl 5 (cell p0 4)).bind fun es5 =>
            (asSl 4 (cell p0 5)).bind fun es6 =>
              (asSl 2 (cell p0 6)).bind fun es7 =>
                (asSl 3 (cell p0 7)).bind fun es8 =>
                  (asSl 4 (cell p0 8)).bind fun es9 =>
                    (asSl 6 (cell p0 9)).bind fun es10 =>
                      (Ab.asInt IntKind.i64 (cell p0 10)).bind fun n11 =>
                        (Ab.asInt IntKind.i64 (cell p0 11)).bind fun n12 =>
                          (Ab.asInt IntKind.i64 (cell p0 12)).bind fun n13 =>
                            (Ab.asInt IntKind.i64 p1).bind fun n14 =>
                              if (n14 == 0) = true then
                                (ref13_Check_M [PV.rs 4 es1]).bind fun r15 =>
                                  (asTup 2 r15).bind fun vs16 =>
                                    (Ab.asInt IntKind.i64 (vs16.getD 0 PV.bad)).bind fun n17 =>
                                      (Ab.asInt IntKind.i64 (vs16.getD 1 PV.bad)).bind fun n18 =>
                                        some (PV.tup [PV.int IntKind.i64 n17, PV.int IntKind.i64 n18])
                              else
                                if (n14 == 1) = true then
                                  (ref15_Check_M [PV.rs 3 es2]).bind fun r19 =>
                                    (asTup 2 r19).bind fun vs20 =>
                                      (Ab.asInt IntKind.i64 (vs20.getD 0 PV.bad)).bind fun n21 =>
                                        (Ab.asInt IntKind.i64 (vs20.getD 1 PV.bad)).bind fun n22 =>
                                          some (PV.tup [PV.int IntKind.i64 n21, PV.int IntKind.i64 n22])
                                else
                                  if (n14 == 2) = true then
                                    (ref14_Check_M [PV.rs 10 es3]).bind fun r23 =>
                                      (asTup 2 r23).bind fun vs24 =>
                                        (Ab.asInt IntKind.i64 (vs24.getD 0 PV.bad)).bind fun n25 =>
                                          (Ab.asInt IntKind.i64 (vs24.getD 1 PV.bad)).bind fun n26 =>
                                            some (PV.tup [PV.int IntKind.i64 n25, PV.int IntKind.i64 n26])
                                  else
                                    if (n14 == 3) = true then
                                      (ref14_CheckExceptions_M
                                            [PV.rs 3 es4, PV.int IntKind.i64 (↑es3.length : Int)]).bind
                                        fun r27 =>
                                        (asTup 2 r27).bind fun vs28 =>
                                          (Ab.asInt IntKind.i64 (vs28.getD 0 PV.bad)).bind fun n29 =>
                                            (Ab.asInt IntKind.i64 (vs28.getD 1 PV.bad)).bind fun n30 =>
                                              some (PV.tup [PV.int IntKind.i64 n29, PV.int IntKind.i64 n30])
                                    else
                                      if (n14 == 4) = true then
                                        (ref17_Check_M
                                              [PV.rs 5 es5, PV.int IntKind.i64 (↑es1.length : Int),
                                                PV.int IntKind.i64 (↑es2.length : Int),
                                                PV.int IntKind.i64 (↑es3.length : Int)]).bind
                                          fun r31 =>
                                          (asTup 2 r31).bind fun vs32 =>
                                            (Ab.asInt IntKind.i64 (vs32.getD 0 PV.bad)).bind fun n33 =>
                                              (Ab.asInt IntKind.i64 (vs32.getD 1 PV.bad)).bind fun n34 =>
                                                some (PV.tup [PV.int IntKind.i64 n33, PV.int IntKind.i64 n34])
                                      else
                                        if (n14 == 5) = true then
                                          (ref18_Check_M [PV.rs 4 es6, PV.rs 5 es5]).bind fun r35 =>
                                            (asTup 2 r35).bind fun vs36 =>
                                              (Ab.asInt IntKind.i64 (vs36.getD 0 PV.bad)).bind fun n37 =>
                                                (Ab.asInt IntKind.i64 (vs36.getD 1 PV.bad)).bind fun n38 =>
                                                  some (PV.tup [PV.int IntKind.i64 n37, PV.int IntKind.i64 n38])
                                        else
                                          if (n14 == 6) = true then
                                            (ref19_Check_M [PV.rs 2 es7, PV.rs 5 es5, PV.rs 4 es6]).bind fun r39 =>
                                              (asTup 2 r39).bind fun vs40 =>
                                                (Ab.asInt IntKind.i64 (vs40.getD 0 PV.bad)).bind fun n41 =>
                                                  (Ab.asInt IntKind.i64 (vs40.getD 1 PV.bad)).bind fun n42 =>
                                                    some (PV.tup [PV.int IntKind.i64 n41, PV.int IntKind.i64 n42])
                                          else
                                            if (n14 == 7) = true then
                                              (ref19_CheckGuarantees_M
                                                    [PV.rs 3 es8, PV.rs 5 es5, PV.rs 4 es6,
                                                      PV.int IntKind.i64 (↑es1.length : Int)]).bind
                                                fun r43 =>
                                                (asTup 2 r43).bind fun vs44 =>
                                                  (Ab.asInt IntKind.i64 (vs44.getD 0 PV.bad)).bind fun n45 =>
                                                    (Ab.asInt IntKind.i64 (vs44.getD 1 PV.bad)).bind fun n46 =>
                                                      some (PV.tup [PV.int IntKind.i64 n45, PV.int IntKind.i64 n46])
                                            else
                                              if (n14 == 8) = true then
                                                (ref20_Check_M
                                                      [PV.rs 4 es9, PV.int IntKind.i64 (↑es1.length : Int)]).bind
                                                  fun r47 =>
                                                  (asTup 2 r47).bind fun vs48 =>
                                                    (Ab.asInt IntKind.i64 (vs48.getD 0 PV.bad)).bind fun n49 =>
                                                      (Ab.asInt IntKind.i64 (vs48.getD 1 PV.bad)).bind fun n50 =>
                                                        some (PV.tup [PV.int IntKind.i64 n49, PV.int IntKind.i64 n50])
                                              else
                                                (ref21_Check_M
                                                      [PV.agg
                                                          [PV.rs 6 es10, PV.int IntKind.i64 n11, PV.int IntKind.i64 n12,
                                                            PV.int IntKind.i64 n13]]).bind
                                                  fun r51 =>
                                                  (asTup 2 r51).bind fun vs52 =>
                                                    (Ab.asInt IntKind.i64 (vs52.getD 0 PV.bad)).bind fun n53 =>
                                                      (Ab.asInt IntKind.i64 (vs52.getD 1 PV.bad)).bind fun n54 =>
                                                        some (PV.tup [PV.int IntKind.i64 n53, PV.int IntKind.i64 n54])
def ref22_part_M : List PV → Option PV
  | [p0, p1] => ref22_part lpS p0 p1
  | _ => none
def ref22_Check_L1 : (Int ×
  List PV ×
    List PV × List PV × List PV × List PV × List PV × List PV × List PV × List PV × List PV × Int × Int × Int × Unit) → (Int ×
    List PV ×
      List PV ×
        List PV × List PV × List PV × List PV × List PV × List PV × List PV × List PV × Int × Int × Int × Unit →
  Option PV) → Option PV := fun s14 rec15 =>
  if decide (s14.fst < 10) = true then
  (ref22_part_M
        [PV.agg
            [PV.rs 4 s14.snd.fst, PV.rs 3 s14.snd.snd.fst, PV.rs 10 s14.snd.snd.snd.fst,
              PV.rs 3 s14.snd.snd.snd.snd.fst, PV.rs 5 s14.snd.snd.snd.snd.snd.fst,
              PV.rs 4 s14.snd.snd.snd.snd.snd.snd.fst, PV.rs 2 s14.snd.snd.snd.snd.snd.snd.snd.fst,
              PV.rs 3 s14.snd.snd.snd.snd.snd.snd.snd.snd.fst, PV.rs 4 s14.snd.snd.snd.snd.snd.snd.snd.snd.snd.fst,
              PV.rs 6 s14.snd.snd.snd.snd.snd.snd.snd.snd.snd.snd.fst,
              PV.int IntKind.i64 s14.snd.snd.snd.snd.snd.snd.snd.snd.snd.snd.snd.fst,
              PV.int IntKind.i64 s14.snd.snd.snd.snd.snd.snd.snd.snd.snd.snd.snd.snd.fst,
              PV.int IntKind.i64 s14.snd.snd.snd.snd.snd.snd.snd.snd.snd.snd.snd.snd.snd.fst],
          PV.int IntKind.i64 s14.fst]).bind
    fun r16 =>
    (asTup 2 r16).bind fun vs17 =>
      (Ab.asInt IntKind.i64 (vs17.getD 0 PV.bad)).bind fun n18 =>
        (Ab.asInt IntKind.i64 (vs17.getD 1 PV.bad)).bind fun n19 =>
          if (n19 != 0) = true then
            some (PV.tup [PV.int IntKind.i64 s14.fst, PV.int IntKind.i64 n18, PV.int IntKind.i64 n19])
          else
            rec15
              (IntKind.i64.wrap (s14.fst + 1), s14.snd.fst, s14.snd.snd.fst, s14.snd.snd.snd.fst,
                s14.snd.snd.snd.snd.fst, s14.snd.snd.snd.snd.snd.fst, s14.snd.snd.snd.snd.snd.snd.fst,
                s14.snd.snd.snd.snd.snd.snd.snd.fst, s14.snd.snd.snd.snd.snd.snd.snd.snd.fst,
                s14.snd.snd.snd.snd.snd.snd.snd.snd.snd.fst, s14.snd.snd.snd.snd.snd.snd.snd.snd.snd.snd.fst,
                s14.snd.snd.snd.snd.snd.snd.snd.snd.snd.snd.snd.fst,
                s14.snd.snd.snd.snd.snd.snd.snd.snd.snd.snd.snd.snd.fst,
                s14.snd.snd.snd.snd.snd.snd.snd.snd.snd.snd.snd.snd.snd.fst, ())
else some (PV.tup [PV.int IntKind.i64 0, PV.int IntKind.i64 0, PV.int IntKind.i64 0])
def ref22_Check (L : Lps) (p0 : PV) : Option PV :=
  (Ab.asAgg 13 p0).bind fun x0 =>
  (asSl 4 (cell p0 0)).bind fun es1 =>
    (asSl 3 (cell p0 1)).bind fun es2 =>
      (asSl 10 (cell p0 2)).bind fun es3 =>
        (asSl 3 (cell p0 3)).bind fun es4 =>
          (asSl 5 (cell p0 4)).bind fun es5 =>
            (asSl 4 (cell p0 5)).bind fun es6 =>
              (asSl 2 (cell p0 6)).bind fun es7 =>
                (asSl 3 (cell p0 7)).bind fun es8 =>
                  (asSl 4 (cell p0 8)).bind fun es9 =>
                    (asSl 6 (cell p0 9)).bind fun es10 =>
                      (Ab.asInt IntKind.i64 (cell p0 10)).bind fun n11 =>
                        (Ab.asInt IntKind.i64 (cell p0 11)).bind fun n12 =>
                          (Ab.asInt IntKind.i64 (cell p0 12)).bind fun n13 =>
                            L.run ref22_Check_L1
                              (0, es1, es2, es3, es4, es5, es6, es7, es8, es9, es10, n11, n12, n13, ())
def ref22_Check_M : List PV → Option PV
  | [p0] => ref22_Check lpS p0
  | _ => none
def ref22_Few_L1 : (Int ×
  List PV ×
    List PV × List PV × List PV × List PV × List PV × List PV × List PV × List PV × List PV × Int × Int × Int × Unit) → (Int ×
    List PV ×
      List PV ×
        List PV × List PV × List PV × List PV × List PV × List PV × List PV × List PV × Int × Int × Int × Unit →
  Option PV) → Option PV := fun s23 rec24 =>
  if decide (s23.fst < (↑s23.snd.snd.snd.snd.snd.fst.length : Int)) = true then
  (idxP s23.snd.snd.snd.snd.snd.fst s23.fst).bind fun p25 =>
    (asSl 5 (cell p25 4)).bind fun es26 =>
      if decide ((↑es26.length : Int) > 40) = true then some (PV.bool false)
      else
        rec24
          (IntKind.i64.wrap (s23.fst + 1), s23.snd.fst, s23.snd.snd.fst, s23.snd.snd.snd.fst, s23.snd.snd.snd.snd.fst,
            s23.snd.snd.snd.snd.snd.fst, s23.snd.snd.snd.snd.snd.snd.fst, s23.snd.snd.snd.snd.snd.snd.snd.fst,
            s23.snd.snd.snd.snd.snd.snd.snd.snd.fst, s23.snd.snd.snd.snd.snd.snd.snd.snd.snd.fst,
            s23.snd.snd.snd.snd.snd.snd.snd.snd.snd.snd.fst, s23.snd.snd.snd.snd.snd.snd.snd.snd.snd.snd.snd.fst,
            s23.snd.snd.snd.snd.snd.snd.snd.snd.snd.snd.snd.snd.fst,
            s23.snd.snd.snd.snd.snd.snd.snd.snd.snd.snd.snd.snd.snd.fst, ())
else some (PV.bool true)
def ref22_Few (L : Lps) (p0 : PV) : Option PV :=
  (Ab.asAgg 13 p0).bind fun x0 =>
  (asSl 4 (cell p0 0)).bind fun es1 =>
    (asSl 3 (cell p0 1)).bind fun es2 =>
      (asSl 10 (cell p0 2)).bind fun es3 =>
        (asSl 3 (cell p0 3)).bind fun es4 =>
          (asSl 5 (cell p0 4)).bind fun es5 =>
            (asSl 4 (cell p0 5)).bind fun es6 =>
              (asSl 2 (cell p0 6)).bind fun es7 =>
                (asSl 3 (cell p0 7)).bind fun es8 =>
                  (asSl 4 (cell p0 8)).bind fun es9 =>
                    (asSl 6 (cell p0 9)).bind fun es10 =>
                      (Ab.asInt IntKind.i64 (cell p0 10)).bind fun n11 =>
                        (Ab.asInt IntKind.i64 (cell p0 11)).bind fun n12 =>
                          (Ab.asInt IntKind.i64 (cell p0 12)).bind fun n13 =>
                            (bif decide ((↑es1.length : Int) > 70) then some true
                                else some (decide ((↑es2.length : Int) > 70))).bind
                              fun r14 =>
                              (bif r14 then some true else some (decide ((↑es3.length : Int) > 70))).bind fun r15 =>
                                (bif r15 then some true else some (decide ((↑es4.length : Int) > 70))).bind fun r16 =>
                                  (bif r16 then some true else some (decide ((↑es5.length : Int) > 40))).bind fun r17 =>
                                    (bif r17 then some true else some (decide ((↑es6.length : Int) > 70))).bind
                                      fun r18 =>
                                      (bif r18 then some true else some (decide ((↑es7.length : Int) > 140))).bind
                                        fun r19 =>
                                        (bif r19 then some true else some (decide ((↑es8.length : Int) > 140))).bind
                                          fun r20 =>
                                          (bif r20 then some true else some (decide ((↑es9.length : Int) > 70))).bind
                                            fun r21 =>
                                            (bif r21 then some true else some (decide ((↑es10.length : Int) > 20))).bind
                                              fun r22 =>
                                              if r22 = true then some (PV.bool false)
                                              else
                                                L.run ref22_Few_L1
                                                  (0, es1, es2, es3, es4, es5, es6, es7, es8, es9, es10, n11, n12, n13,
                                                    ())
def ref22_Few_M : List PV → Option PV
  | [p0] => ref22_Few lpS p0
  | _ => none
def law22_TimetableChecks (L : Lps) (p0 : PV) : Option PV :=
  (Ab.asAgg 13 p0).bind fun x0 =>
  (asSl 4 (cell p0 0)).bind fun es1 =>
    (asSl 3 (cell p0 1)).bind fun es2 =>
      (asSl 10 (cell p0 2)).bind fun es3 =>
        (asSl 3 (cell p0 3)).bind fun es4 =>
          (asSl 5 (cell p0 4)).bind fun es5 =>
            (asSl 4 (cell p0 5)).bind fun es6 =>
              (asSl 2 (cell p0 6)).bind fun es7 =>
                (asSl 3 (cell p0 7)).bind fun es8 =>
                  (asSl 4 (cell p0 8)).bind fun es9 =>
                    (asSl 6 (cell p0 9)).bind fun es10 =>
                      (Ab.asInt IntKind.i64 (cell p0 10)).bind fun n11 =>
                        (Ab.asInt IntKind.i64 (cell p0 11)).bind fun n12 =>
                          (Ab.asInt IntKind.i64 (cell p0 12)).bind fun n13 =>
                            (ref22_Few_M
                                  [PV.agg
                                      [PV.rs 4 es1, PV.rs 3 es2, PV.rs 10 es3, PV.rs 3 es4, PV.rs 5 es5, PV.rs 4 es6,
                                        PV.rs 2 es7, PV.rs 3 es8, PV.rs 4 es9, PV.rs 6 es10, PV.int IntKind.i64 n11,
                                        PV.int IntKind.i64 n12, PV.int IntKind.i64 n13]]).bind
                              fun r14 =>
                              (Ab.asBool r14).bind fun b15 =>
                                if (!b15) = true then
                                  (law22_exampleHolds_M []).bind fun r16 =>
                                    (Ab.asBool r16).bind fun b17 => some (PV.bool b17)
                                else
                                  (timetable_Check_M
                                        [PV.agg
                                            [PV.rs 4 es1, PV.rs 3 es2, PV.rs 10 es3, PV.rs 3 es4, PV.rs 5 es5,
                                              PV.rs 4 es6, PV.rs 2 es7, PV.rs 3 es8, PV.rs 4 es9, PV.rs 6 es10,
                                              PV.int IntKind.i64 n11, PV.int IntKind.i64 n12,
                                              PV.int IntKind.i64 n13]]).bind
                                    fun r18 =>
                                    (asTup 3 r18).bind fun vs19 =>
                                      (Ab.asInt IntKind.i64 (vs19.getD 0 PV.bad)).bind fun n20 =>
                                        (Ab.asInt IntKind.i64 (vs19.getD 1 PV.bad)).bind fun n21 =>
                                          (Ab.asInt IntKind.i64 (vs19.getD 2 PV.bad)).bind fun n22 =>
                                            (ref22_Check_M
                                                  [PV.agg
                                                      [PV.rs 4 es1, PV.rs 3 es2, PV.rs 10 es3, PV.rs 3 es4, PV.rs 5 es5,
                                                        PV.rs 4 es6, PV.rs 2 es7, PV.rs 3 es8, PV.rs 4 es9,
                                                        PV.rs 6 es10, PV.int IntKind.i64 n11, PV.int IntKind.i64 n12,
                                                        PV.int IntKind.i64 n13]]).bind
                                              fun r23 =>
                                              (asTup 3 r23).bind fun vs24 =>
                                                (Ab.asInt IntKind.i64 (vs24.getD 0 PV.bad)).bind fun n25 =>
                                                  (Ab.asInt IntKind.i64 (vs24.getD 1 PV.bad)).bind fun n26 =>
                                                    (Ab.asInt IntKind.i64 (vs24.getD 2 PV.bad)).bind fun n27 =>
                                                      (bif n20 == n25 then some (n21 == n26) else some false).bind
                                                        fun r28 =>
                                                        (bif r28 then some (n22 == n27) else some false).bind fun r29 =>
                                                          (bif r29 then
                                                                (law22_exampleHolds_M []).bind fun r30 =>
                                                                  (Ab.asBool r30).bind fun b31 => some b31
                                                              else some false).bind
                                                            fun r32 => some (PV.bool r32)
def law22_TimetableChecks_M : List PV → Option PV
  | [p0] => law22_TimetableChecks lpS p0
  | _ => none
def ref22_Sizes_L1 : (Int ×
  Int ×
    List PV ×
      List PV ×
        List PV ×
          List PV ×
            List PV ×
              List PV ×
                List PV ×
                  List PV ×
                    List PV ×
                      List PV ×
                        Int × Int × Int × Int × Int × Int × Int × Int × Int × Int × Int × Int × Int × Int × Unit) → (Int ×
    Int ×
      List PV ×
        List PV ×
          List PV ×
            List PV ×
              List PV ×
                List PV ×
                  List PV ×
                    List PV ×
                      List PV ×
                        List PV ×
                          Int × Int × Int × Int × Int × Int × Int × Int × Int × Int × Int × Int × Int × Int × Unit →
  Option PV) → Option PV := fun s14 rec15 =>
  if decide (s14.snd.fst < (↑s14.snd.snd.snd.snd.snd.snd.fst.length : Int)) = true then
  (idxP s14.snd.snd.snd.snd.snd.snd.fst s14.snd.fst).bind fun p16 =>
    (asSl 5 (cell p16 4)).bind fun es17 =>
      rec15
        (IntKind.i64.wrap (s14.fst + (↑es17.length : Int)), IntKind.i64.wrap (s14.snd.fst + 1), s14.snd.snd.fst,
          s14.snd.snd.snd.fst, s14.snd.snd.snd.snd.fst, s14.snd.snd.snd.snd.snd.fst, s14.snd.snd.snd.snd.snd.snd.fst,
          s14.snd.snd.snd.snd.snd.snd.snd.fst, s14.snd.snd.snd.snd.snd.snd.snd.snd.fst,
          s14.snd.snd.snd.snd.snd.snd.snd.snd.snd.fst, s14.snd.snd.snd.snd.snd.snd.snd.snd.snd.snd.fst,
          s14.snd.snd.snd.snd.snd.snd.snd.snd.snd.snd.snd.fst, s14.snd.snd.snd.snd.snd.snd.snd.snd.snd.snd.snd.snd.fst,
          s14.snd.snd.snd.snd.snd.snd.snd.snd.snd.snd.snd.snd.snd.fst,
          s14.snd.snd.snd.snd.snd.snd.snd.snd.snd.snd.snd.snd.snd.snd.fst,
          s14.snd.snd.snd.snd.snd.snd.snd.snd.snd.snd.snd.snd.snd.snd.snd.fst,
          s14.snd.snd.snd.snd.snd.snd.snd.snd.snd.snd.snd.snd.snd.snd.snd.snd.fst,
          s14.snd.snd.snd.snd.snd.snd.snd.snd.snd.snd.snd.snd.snd.snd.snd.snd.snd.fst,
          s14.snd.snd.snd.snd.snd.snd.snd.snd.snd.snd.snd.snd.snd.snd.snd.snd.snd.snd.fst,
          s14.snd.snd.snd.snd.snd.snd.snd.snd.snd.snd.snd.snd.snd.snd.snd.snd.snd.snd.snd.fst,
          s14.snd.snd.snd.snd.snd.snd.snd.snd.snd.snd.snd.snd.snd.snd.snd.snd.snd.snd.snd.snd.fst,
          s14.snd.snd.snd.snd.snd.snd.snd.snd.snd.snd.snd.snd.snd.snd.snd.snd.snd.snd.snd.snd.snd.fst,
          s14.snd.snd.snd.snd.snd.snd.snd.snd.snd.snd.snd.snd.snd.snd.snd.snd.snd.snd.snd.snd.snd.snd.fst,
          s14.snd.snd.snd.snd.snd.snd.snd.snd.snd.snd.snd.snd.snd.snd.snd.snd.snd.snd.snd.snd.snd.snd.snd.fst,
          s14.snd.snd.snd.snd.snd.snd.snd.snd.snd.snd.snd.snd.snd.snd.snd.snd.snd.snd.snd.snd.snd.snd.snd.snd.fst,
          s14.snd.snd.snd.snd.snd.snd.snd.snd.snd.snd.snd.snd.snd.snd.snd.snd.snd.snd.snd.snd.snd.snd.snd.snd.snd.fst,
          ())
else
  some
    (PV.agg
      [PV.int IntKind.i64 (↑s14.snd.snd.fst.length : Int), PV.int IntKind.i64 (↑s14.snd.snd.snd.fst.length : Int),
        PV.int IntKind.i64 (↑s14.snd.snd.snd.snd.fst.length : Int),
        PV.int IntKind.i64 (↑s14.snd.snd.snd.snd.snd.fst.length : Int),
        PV.int IntKind.i64 (↑s14.snd.snd.snd.snd.snd.snd.fst.length : Int), PV.int IntKind.i64 s14.fst,
        PV.int IntKind.i64 (↑s14.snd.snd.snd.snd.snd.snd.snd.fst.length : Int),
        PV.int IntKind.i64 (↑s14.snd.snd.snd.snd.snd.snd.snd.snd.fst.length : Int),
        PV.int IntKind.i64 (↑s14.snd.snd.snd.snd.snd.snd.snd.snd.snd.fst.length : Int),
        PV.int IntKind.i64 (↑s14.snd.snd.snd.snd.snd.snd.snd.snd.snd.snd.fst.length : Int),
        PV.int IntKind.i64 (↑s14.snd.snd.snd.snd.snd.snd.snd.snd.snd.snd.snd.fst.length : Int)])
def ref22_Sizes (L : Lps) (p0 : PV) : Option PV :=
  (Ab.asAgg 13 p0).bind fun x0 =>
  (asSl 4 (cell p0 0)).bind fun es1 =>
    (asSl 3 (cell p0 1)).bind fun es2 =>
      (asSl 10 (cell p0 2)).bind fun es3 =>
        (asSl 3 (cell p0 3)).bind fun es4 =>
          (asSl 5 (cell p0 4)).bind fun es5 =>
            (asSl 4 (cell p0 5)).bind fun es6 =>
              (asSl 2 (cell p0 6)).bind fun es7 =>
                (asSl 3 (cell p0 7)).bind fun es8 =>
                  (asSl 4 (cell p0 8)).bind fun es9 =>
                    (asSl 6 (cell p0 9)).bind fun es10 =>
                      (Ab.asInt IntKind.i64 (cell p0 10)).bind fun n11 =>
                        (Ab.asInt IntKind.i64 (cell p0 11)).bind fun n12 =>
                          (Ab.asInt IntKind.i64 (cell p0 12)).bind fun n13 =>
                            L.run ref22_Sizes_L1
                              (0, 0, es1, es2, es3, es4, es5, es6, es7, es8, es9, es10, n11, n12, n13, 0, 0, 0, 0, 0, 0,
                                0, 0, 0, 0, 0, ())
def ref22_Sizes_M : List PV → Option PV
  | [p0] => ref22_Sizes lpS p0
  | _ => none
def law22_TimetableSizes (L : Lps) (p0 : PV) : Option PV :=
  (Ab.asAgg 13 p0).bind fun x0 =>
  (asSl 4 (cell p0 0)).bind fun es1 =>
    (asSl 3 (cell p0 1)).bind fun es2 =>
      (asSl 10 (cell p0 2)).bind fun es3 =>
        (asSl 3 (cell p0 3)).bind fun es4 =>
          (asSl 5 (cell p0 4)).bind fun es5 =>
            (asSl 4 (cell p0 5)).bind fun es6 =>
              (asSl 2 (cell p0 6)).bind fun es7 =>
                (asSl 3 (cell p0 7)).bind fun es8 =>
                  (asSl 4 (cell p0 8)).bind fun es9 =>
                    (asSl 6 (cell p0 9)).bind fun es10 =>
                      (Ab.asInt IntKind.i64 (cell p0 10)).bind fun n11 =>
                        (Ab.asInt IntKind.i64 (cell p0 11)).bind fun n12 =>
                          (Ab.asInt IntKind.i64 (cell p0 12)).bind fun n13 =>
                            (ref22_Few_M
                                  [PV.agg
                                      [PV.rs 4 es1, PV.rs 3 es2, PV.rs 10 es3, PV.rs 3 es4, PV.rs 5 es5, PV.rs 4 es6,
                                        PV.rs 2 es7, PV.rs 3 es8, PV.rs 4 es9, PV.rs 6 es10, PV.int IntKind.i64 n11,
                                        PV.int IntKind.i64 n12, PV.int IntKind.i64 n13]]).bind
                              fun r14 =>
                              (Ab.asBool r14).bind fun b15 =>
                                if (!b15) = true then
                                  (law22_exampleHolds_M []).bind fun r16 =>
                                    (Ab.asBool r16).bind fun b17 => some (PV.bool b17)
                                else
                                  (timetable_Sizes_M
                                        [PV.agg
                                            [PV.rs 4 es1, PV.rs 3 es2, PV.rs 10 es3, PV.rs 3 es4, PV.rs 5 es5,
                                              PV.rs 4 es6, PV.rs 2 es7, PV.rs 3 es8, PV.rs 4 es9, PV.rs 6 es10,
                                              PV.int IntKind.i64 n11, PV.int IntKind.i64 n12,
                                              PV.int IntKind.i64 n13]]).bind
                                    fun r18 =>
                                    (Ab.asAgg 11 r18).bind fun x19 =>
                                      (ref22_Sizes_M
                                            [PV.agg
                                                [PV.rs 4 es1, PV.rs 3 es2, PV.rs 10 es3, PV.rs 3 es4, PV.rs 5 es5,
                                                  PV.rs 4 es6, PV.rs 2 es7, PV.rs 3 es8, PV.rs 4 es9, PV.rs 6 es10,
                                                  PV.int IntKind.i64 n11, PV.int IntKind.i64 n12,
                                                  PV.int IntKind.i64 n13]]).bind
                                        fun r20 =>
                                        (Ab.asAgg 11 r20).bind fun x21 =>
                                          if
                                              chk (kdsRep [Kd.int IntKind.i64] 11)
                                                    [cell r18 0, cell r18 1, cell r18 2, cell r18 3, cell r18 4,
                                                      cell r18 5, cell r18 6, cell r18 7, cell r18 8, cell r18 9,
                                                      cell r18 10] =
                                                  true ∧
                                                chk (kdsRep [Kd.int IntKind.i64] 11)
                                                    [cell r20 0, cell r20 1, cell r20 2, cell r20 3, cell r20 4,
                                                      cell r20 5, cell r20 6, cell r20 7, cell r20 8, cell r20 9,
                                                      cell r20 10] =
                                                  true then
                                            (bif
                                                    peqL
                                                      [cell r18 0, cell r18 1, cell r18 2, cell r18 3, cell r18 4,
                                                        cell r18 5, cell r18 6, cell r18 7, cell r18 8, cell r18 9,
                                                        cell r18 10]
                                                      [cell r20 0, cell r20 1, cell r20 2, cell r20 3, cell r20 4,
                                                        cell r20 5, cell r20 6, cell r20 7, cell r20 8, cell r20 9,
                                                        cell r20 10] then
                                                  (law22_exampleHolds_M []).bind fun r22 =>
                                                    (Ab.asBool r22).bind fun b23 => some b23
                                                else some false).bind
                                              fun r24 => some (PV.bool r24)
                                          else none
def law22_TimetableSizes_M : List PV → Option PV
  | [p0] => law22_TimetableSizes lpS p0
  | _ => none
def law22_lower (L : Lps) (p0 : PV) : Option PV :=
  (Ab.asAgg 13 p0).bind fun x0 =>
  (asSl 4 (cell p0 0)).bind fun es1 =>
    (asSl 3 (cell p0 1)).bind fun es2 =>
      (asSl 10 (cell p0 2)).bind fun es3 =>
        (asSl 3 (cell p0 3)).bind fun es4 =>
          (asSl 5 (cell p0 4)).bind fun es5 =>
            (asSl 4 (cell p0 5)).bind fun es6 =>
              (asSl 2 (cell p0 6)).bind fun es7 =>
                (asSl 3 (cell p0 7)).bind fun es8 =>
                  (asSl 4 (cell p0 8)).bind fun es9 =>
                    (asSl 6 (cell p0 9)).bind fun es10 =>
                      (Ab.asInt IntKind.i64 (cell p0 10)).bind fun n11 =>
                        (Ab.asInt IntKind.i64 (cell p0 11)).bind fun n12 =>
                          (Ab.asInt IntKind.i64 (cell p0 12)).bind fun n13 =>
                            (frequency_Check_M [PV.rs 4 es6, PV.rs 5 es5]).bind fun r14 =>
                              (asTup 2 r14).bind fun vs15 =>
                                (Ab.asInt IntKind.i64 (vs15.getD 0 PV.bad)).bind fun n16 =>
                                  (Ab.asInt IntKind.i64 (vs15.getD 1 PV.bad)).bind fun n17 =>
                                    (through_Check_M [PV.rs 2 es7, PV.rs 5 es5, PV.rs 4 es6]).bind fun r18 =>
                                      (asTup 2 r18).bind fun vs19 =>
                                        (Ab.asInt IntKind.i64 (vs19.getD 0 PV.bad)).bind fun n20 =>
                                          (Ab.asInt IntKind.i64 (vs19.getD 1 PV.bad)).bind fun n21 =>
                                            (through_CheckGuarantees_M
                                                  [PV.rs 3 es8, PV.rs 5 es5, PV.rs 4 es6,
                                                    PV.int IntKind.i64 (↑es1.length : Int)]).bind
                                              fun r22 =>
                                              (asTup 2 r22).bind fun vs23 =>
                                                (Ab.asInt IntKind.i64 (vs23.getD 0 PV.bad)).bind fun n24 =>
                                                  (Ab.asInt IntKind.i64 (vs23.getD 1 PV.bad)).bind fun n25 =>
                                                    (footpath_Check_M
                                                          [PV.rs 4 es9, PV.int IntKind.i64 (↑es1.length : Int)]).bind
                                                      fun r26 =>
                                                      (asTup 2 r26).bind fun vs27 =>
                                                        (Ab.asInt IntKind.i64 (vs27.getD 0 PV.bad)).bind fun n28 =>
                                                          (Ab.asInt IntKind.i64 (vs27.getD 1 PV.bad)).bind fun n29 =>
                                                            (product_Check_M
                                                                  [PV.agg
                                                                      [PV.rs 6 es10, PV.int IntKind.i64 n11,
                                                                        PV.int IntKind.i64 n12,
                                                                        PV.int IntKind.i64 n13]]).bind
                                                              fun r30 =>
                                                              (asTup 2 r30).bind fun vs31 =>
                                                                (Ab.asInt IntKind.i64 (vs31.getD 0 PV.bad)).bind
                                                                  fun n32 =>
                                                                  (Ab.asInt IntKind.i64 (vs31.getD 1 PV.bad)).bind
                                                                    fun n33 =>
                                                                    (bif n17 == 0 then some (n21 == 0)
                                                                        else some false).bind
                                                                      fun r34 =>
                                                                      (bif r34 then some (n25 == 0)
                                                                          else some false).bind
                                                                        fun r35 =>
                                                                        (bif r35 then some (n29 == 0)
                                                                            else some false).bind
                                                                          fun r36 =>
                                                                          (bif r36 then some (n33 == 0)
                                                                              else some false).bind
                                                                            fun r37 => some (PV.bool r37)
def law22_lower_M : List PV → Option PV
  | [p0] => law22_lower lpS p0
  | _ => none
def law22_upper (L : Lps) (p0 : PV) : Option PV :=
  (Ab.asAgg 13 p0).bind fun x0 =>
  (asSl 4 (cell p0 0)).bind fun es1 =>
    (asSl 3 (cell p0 1)).bind fun es2 =>
      (asSl 10 (cell p0 2)).bind fun es3 =>
        (asSl 3 (cell p0 3)).bind fun es4 =>
          (asSl 5 (cell p0 4)).bind fun es5 =>
            (asSl 4 (cell p0 5)).bind fun es6 =>
              (asSl 2 (cell p0 6)).bind fun es7 =>
                (asSl 3 (cell p0 7)).bind fun es8 =>
                  (asSl 4 (cell p0 8)).bind fun es9 =>
                    (asSl 6 (cell p0 9)).bind fun es10 =>
                      (Ab.asInt IntKind.i64 (cell p0 10)).bind fun n11 =>
                        (Ab.asInt IntKind.i64 (cell p0 11)).bind fun n12 =>
                          (Ab.asInt IntKind.i64 (cell p0 12)).bind fun n13 =>
                            (stop_Check_M [PV.rs 4 es1]).bind fun r14 =>
                              (asTup 2 r14).bind fun vs15 =>
                                (Ab.asInt IntKind.i64 (vs15.getD 0 PV.bad)).bind fun n16 =>
                                  (Ab.asInt IntKind.i64 (vs15.getD 1 PV.bad)).bind fun n17 =>
                                    (route_Check_M [PV.rs 3 es2]).bind fun r18 =>
                                      (asTup 2 r18).bind fun vs19 =>
                                        (Ab.asInt IntKind.i64 (vs19.getD 0 PV.bad)).bind fun n20 =>
                                          (Ab.asInt IntKind.i64 (vs19.getD 1 PV.bad)).bind fun n21 =>
                                            (calendar_Check_M [PV.rs 10 es3]).bind fun r22 =>
                                              (asTup 2 r22).bind fun vs23 =>
                                                (Ab.asInt IntKind.i64 (vs23.getD 0 PV.bad)).bind fun n24 =>
                                                  (Ab.asInt IntKind.i64 (vs23.getD 1 PV.bad)).bind fun n25 =>
                                                    (calendar_CheckExceptions_M
                                                          [PV.rs 3 es4, PV.int IntKind.i64 (↑es3.length : Int)]).bind
                                                      fun r26 =>
                                                      (asTup 2 r26).bind fun vs27 =>
                                                        (Ab.asInt IntKind.i64 (vs27.getD 0 PV.bad)).bind fun n28 =>
                                                          (Ab.asInt IntKind.i64 (vs27.getD 1 PV.bad)).bind fun n29 =>
                                                            (trip_Check_M
                                                                  [PV.rs 5 es5, PV.int IntKind.i64 (↑es1.length : Int),
                                                                    PV.int IntKind.i64 (↑es2.length : Int),
                                                                    PV.int IntKind.i64 (↑es3.length : Int)]).bind
                                                              fun r30 =>
                                                              (asTup 2 r30).bind fun vs31 =>
                                                                (Ab.asInt IntKind.i64 (vs31.getD 0 PV.bad)).bind
                                                                  fun n32 =>
                                                                  (Ab.asInt IntKind.i64 (vs31.getD 1 PV.bad)).bind
                                                                    fun n33 =>
                                                                    (bif n17 == 0 then some (n21 == 0)
                                                                        else some false).bind
                                                                      fun r34 =>
                                                                      (bif r34 then some (n25 == 0)
                                                                          else some false).bind
                                                                        fun r35 =>
                                                                        (bif r35 then some (n29 == 0)
                                                                            else some false).bind
                                                                          fun r36 =>
                                                                          (bif r36 then some (n33 == 0)
                                                                              else some false).bind
                                                                            fun r37 => some (PV.bool r37)
def law22_upper_M : List PV → Option PV
  | [p0] => law22_upper lpS p0
  | _ => none
def law22_TimetableParts (L : Lps) (p0 : PV) : Option PV :=
  (Ab.asAgg 13 p0).bind fun x0 =>
  (asSl 4 (cell p0 0)).bind fun es1 =>
    (asSl 3 (cell p0 1)).bind fun es2 =>
      (asSl 10 (cell p0 2)).bind fun es3 =>
        (asSl 3 (cell p0 3)).bind fun es4 =>
          (asSl 5 (cell p0 4)).bind fun es5 =>
            (asSl 4 (cell p0 5)).bind fun es6 =>
              (asSl 2 (cell p0 6)).bind fun es7 =>
                (asSl 3 (cell p0 7)).bind fun es8 =>
                  (asSl 4 (cell p0 8)).bind fun es9 =>
                    (asSl 6 (cell p0 9)).bind fun es10 =>
                      (Ab.asInt IntKind.i64 (cell p0 10)).bind fun n11 =>
                        (Ab.asInt IntKind.i64 (cell p0 11)).bind fun n12 =>
                          (Ab.asInt IntKind.i64 (cell p0 12)).bind fun n13 =>
                            (ref22_Few_M
                                  [PV.agg
                                      [PV.rs 4 es1, PV.rs 3 es2, PV.rs 10 es3, PV.rs 3 es4, PV.rs 5 es5, PV.rs 4 es6,
                                        PV.rs 2 es7, PV.rs 3 es8, PV.rs 4 es9, PV.rs 6 es10, PV.int IntKind.i64 n11,
                                        PV.int IntKind.i64 n12, PV.int IntKind.i64 n13]]).bind
                              fun r14 =>
                              (Ab.asBool r14).bind fun b15 =>
                                if (!b15) = true then
                                  (law22_exampleHolds_M []).bind fun r16 =>
                                    (Ab.asBool r16).bind fun b17 => some (PV.bool b17)
                                else
                                  (timetable_Check_M
                                        [PV.agg
                                            [PV.rs 4 es1, PV.rs 3 es2, PV.rs 10 es3, PV.rs 3 es4, PV.rs 5 es5,
                                              PV.rs 4 es6, PV.rs 2 es7, PV.rs 3 es8, PV.rs 4 es9, PV.rs 6 es10,
                                              PV.int IntKind.i64 n11, PV.int IntKind.i64 n12,
                                              PV.int IntKind.i64 n13]]).bind
                                    fun r18 =>
                                    (asTup 3 r18).bind fun vs19 =>
                                      (Ab.asInt IntKind.i64 (vs19.getD 0 PV.bad)).bind fun n20 =>
                                        (Ab.asInt IntKind.i64 (vs19.getD 1 PV.bad)).bind fun n21 =>
                                          (Ab.asInt IntKind.i64 (vs19.getD 2 PV.bad)).bind fun n22 =>
                                            (law22_upper_M
                                                  [PV.agg
                                                      [PV.rs 4 es1, PV.rs 3 es2, PV.rs 10 es3, PV.rs 3 es4, PV.rs 5 es5,
                                                        PV.rs 4 es6, PV.rs 2 es7, PV.rs 3 es8, PV.rs 4 es9,
                                                        PV.rs 6 es10, PV.int IntKind.i64 n11, PV.int IntKind.i64 n12,
                                                        PV.int IntKind.i64 n13]]).bind
                                              fun r23 =>
                                              (Ab.asBool r23).bind fun b24 =>
                                                (bif b24 then
                                                      (law22_lower_M
                                                            [PV.agg
                                                                [PV.rs 4 es1, PV.rs 3 es2, PV.rs 10 es3, PV.rs 3 es4,
                                                                  PV.rs 5 es5, PV.rs 4 es6, PV.rs 2 es7, PV.rs 3 es8,
                                                                  PV.rs 4 es9, PV.rs 6 es10, PV.int IntKind.i64 n11,
                                                                  PV.int IntKind.i64 n12, PV.int IntKind.i64 n13]]).bind
                                                        fun r25 => (Ab.asBool r25).bind fun b26 => some b26
                                                    else some false).bind
                                                  fun r27 =>
                                                  (bif (n22 == 0) == r27 then
                                                        (law22_exampleHolds_M []).bind fun r28 =>
                                                          (Ab.asBool r28).bind fun b29 => some b29
                                                      else some false).bind
                                                    fun r30 => some (PV.bool r30)
def law22_TimetableParts_M : List PV → Option PV
  | [p0] => law22_TimetableParts lpS p0
  | _ => none
def law22_TimetableShrinks (L : Lps) (p0 : PV) (p1 : PV) : Option PV :=
  (Ab.asAgg 13 p0).bind fun x0 =>
  (asSl 4 (cell p0 0)).bind fun es1 =>
    (asSl 3 (cell p0 1)).bind fun es2 =>
      (asSl 10 (cell p0 2)).bind fun es3 =>
        (asSl 3 (cell p0 3)).bind fun es4 =>
          (asSl 5 (cell p0 4)).bind fun es5 =>
            (asSl 4 (cell p0 5)).bind fun es6 =>
              (asSl 2 (cell p0 6)).bind fun es7 =>
                (asSl 3 (cell p0 7)).bind fun es8 =>
                  (asSl 4 (cell p0 8)).bind fun es9 =>
                    (asSl 6 (cell p0 9)).bind fun es10 =>
                      (Ab.asInt IntKind.i64 (cell p0 10)).bind fun n11 =>
                        (Ab.asInt IntKind.i64 (cell p0 11)).bind fun n12 =>
                          (Ab.asInt IntKind.i64 (cell p0 12)).bind fun n13 =>
                            (Ab.asInt IntKind.i64 p1).bind fun n14 =>
                              (ref22_Few_M
                                    [PV.agg
                                        [PV.rs 4 es1, PV.rs 3 es2, PV.rs 10 es3, PV.rs 3 es4, PV.rs 5 es5, PV.rs 4 es6,
                                          PV.rs 2 es7, PV.rs 3 es8, PV.rs 4 es9, PV.rs 6 es10, PV.int IntKind.i64 n11,
                                          PV.int IntKind.i64 n12, PV.int IntKind.i64 n13]]).bind
                                fun r15 =>
                                (Ab.asBool r15).bind fun b16 =>
                                  (bif !b16 then some true else some (decide (n14 < 0))).bind fun r17 =>
                                    if r17 = true then
                                      (law22_exampleHolds_M []).bind fun r18 =>
                                        (Ab.asBool r18).bind fun b19 => some (PV.bool b19)
                                    else
                                      (timetable_Check_M
                                            [PV.agg
                                                [PV.rs 4 es1, PV.rs 3 es2, PV.rs 10 es3, PV.rs 3 es4, PV.rs 5 es5,
                                                  PV.rs 4 es6, PV.rs 2 es7, PV.rs 3 es8, PV.rs 4 es9, PV.rs 6 es10,
                                                  PV.int IntKind.i64 n11, PV.int IntKind.i64 n12,
                                                  PV.int IntKind.i64 n13]]).bind
                                        fun r20 =>
                                        (asTup 3 r20).bind fun vs21 =>
                                          (Ab.asInt IntKind.i64 (vs21.getD 0 PV.bad)).bind fun n22 =>
                                            (Ab.asInt IntKind.i64 (vs21.getD 1 PV.bad)).bind fun n23 =>
                                              (Ab.asInt IntKind.i64 (vs21.getD 2 PV.bad)).bind fun n24 =>
                                                if
                                                    (0 : Int) ≤ 0 ∧
                                                      (0 ≤
                                                          if (↑es4.length : Int) < n14 then (↑es4.length : Int)
                                                          else n14) ∧
                                                        (if (↑es4.length : Int) < n14 then (↑es4.length : Int)
                                                            else n14) ≤
                                                            (↑es4.length : Int) ∧
                                                          3 = 3 ∧ 3 ≠ 0 then
                                                  if
                                                      (0 : Int) ≤ 0 ∧
                                                        (0 ≤
                                                            if (↑es6.length : Int) < n14 then (↑es6.length : Int)
                                                            else n14) ∧
                                                          (if (↑es6.length : Int) < n14 then (↑es6.length : Int)
                                                              else n14) ≤
                                                              (↑es6.length : Int) ∧
                                                            4 = 4 ∧ 4 ≠ 0 then
                                                    if
                                                        (0 : Int) ≤ 0 ∧
                                                          (0 ≤
                                                              if (↑es7.length : Int) < n14 then (↑es7.length : Int)
                                                              else n14) ∧
                                                            (if (↑es7.length : Int) < n14 then (↑es7.length : Int)
                                                                else n14) ≤
                                                                (↑es7.length : Int) ∧
                                                              2 = 2 ∧ 2 ≠ 0 then
                                                      if
                                                          (0 : Int) ≤ 0 ∧
                                                            (0 ≤
                                                                if (↑es8.length : Int) < n14 then (↑es8.length : Int)
                                                                else n14) ∧
                                                              (if (↑es8.length : Int) < n14 then (↑es8.length : Int)
                                                                  else n14) ≤
                                                                  (↑es8.length : Int) ∧
                                                                3 = 3 ∧ 3 ≠ 0 then
                                                        if
                                                            (0 : Int) ≤ 0 ∧
                                                              (0 ≤
                                                                  if (↑es9.length : Int) < n14 then (↑es9.length : Int)
                                                                  else n14) ∧
                                                                (if (↑es9.length : Int) < n14 then (↑es9.length : Int)
                                                                    else n14) ≤
                                                                    (↑es9.length : Int) ∧
                                                                  4 = 4 ∧ 4 ≠ 0 then
                                                          (timetable_Check_M
                                                                [PV.agg
                                                                    [PV.rs 4 es1, PV.rs 3 es2, PV.rs 10 es3,
                                                                      PV.rs 3
                                                                        (List.drop (Int.toNat 0)
                                                                          (List.take
                                                                            (if (↑es4.length : Int) < n14 then
                                                                                (↑es4.length : Int)
                                                                              else n14).toNat
                                                                            es4)),
                                                                      PV.rs 5 es5,
                                                                      PV.rs 4
                                                                        (List.drop (Int.toNat 0)
                                                                          (List.take
                                                                            (if (↑es6.length : Int) < n14 then
                                                                                (↑es6.length : Int)
                                                                              else n14).toNat
                                                                            es6)),
                                                                      PV.rs 2
                                                                        (List.drop (Int.toNat 0)
                                                                          (List.take
                                                                            (if (↑es7.length : Int) < n14 then
                                                                                (↑es7.length : Int)
                                                                              else n14).toNat
                                                                            es7)),
                                                                      PV.rs 3
                                                                        (List.drop (Int.toNat 0)
                                                                          (List.take
                                                                            (if (↑es8.length : Int) < n14 then
                                                                                (↑es8.length : Int)
                                                                              else n14).toNat
                                                                            es8)),
                                                                      PV.rs 4
                                                                        (List.drop (Int.toNat 0)
                                                                          (List.take
                                                                            (if (↑es9.length : Int) < n14 then
                                                                                (↑es9.length : Int)
                                                                              else n14).toNat
                                                                            es9)),
                                                                      PV.rs 6 es10, PV.int IntKind.i64 n11,
                                                                      PV.int IntKind.i64 n12,
                                                                      PV.int IntKind.i64 n13]]).bind
                                                            fun r25 =>
                                                            (asTup 3 r25).bind fun vs26 =>
                                                              (Ab.asInt IntKind.i64 (vs26.getD 0 PV.bad)).bind
                                                                fun n27 =>
                                                                (Ab.asInt IntKind.i64 (vs26.getD 1 PV.bad)).bind
                                                                  fun n28 =>
                                                                  (Ab.asInt IntKind.i64 (vs26.getD 2 PV.bad)).bind
                                                                    fun n29 =>
                                                                    (bif n24 != 0 then some true
                                                                        else some (n29 == 0)).bind
                                                                      fun r30 =>
                                                                      (bif r30 then
                                                                            (law22_exampleHolds_M []).bind fun r31 =>
                                                                              (Ab.asBool r31).bind fun b32 => some b32
                                                                          else some false).bind
                                                                        fun r33 => some (PV.bool r33)
                                                        else none
                                                      else none
                                                    else none
                                                  else none
                                                else none
def law22_TimetableShrinks_M : List PV → Option PV
  | [p0, p1] => law22_TimetableShrinks lpS p0 p1
  | _ => none
def ref22_heads_L1 : (Int ×
  List PV ×
    List PV ×
      List PV ×
        List PV ×
          List PV ×
            List PV ×
              List PV ×
                List PV ×
                  List PV ×
                    List PV ×
                      Int ×
                        Int ×
                          Int ×
                            List PV ×
                              List PV ×
                                List PV ×
                                  List PV ×
                                    List PV × List PV × List PV × List PV × List PV × List PV × Int × Int × Int × Unit) → (Int ×
    List PV ×
      List PV ×
        List PV ×
          List PV ×
            List PV ×
              List PV ×
                List PV ×
                  List PV ×
                    List PV ×
                      List PV ×
                        Int ×
                          Int ×
                            Int ×
                              List PV ×
                                List PV ×
                                  List PV ×
                                    List PV ×
                                      List PV ×
                                        List PV × List PV × List PV × List PV × List PV × Int × Int × Int × Unit →
  Option PV) → Option PV := fun s43 rec44 =>
  if decide (s43.fst < (↑s43.snd.snd.snd.snd.fst.length : Int)) = true then
  (idxP s43.snd.snd.snd.snd.fst s43.fst).bind fun p45 =>
    (idxP s43.snd.snd.snd.snd.snd.snd.snd.snd.snd.snd.snd.snd.snd.snd.snd.snd.snd.fst s43.fst).bind fun p46 =>
      if
          chk (Kd.int IntKind.i64 :: [].append (Kd.int IntKind.i64 :: [].append (Kd.bool :: [].append [])))
                [cell p45 0, cell p45 1, cell p45 2] =
              true ∧
            chk (Kd.int IntKind.i64 :: [].append (Kd.int IntKind.i64 :: [].append (Kd.bool :: [].append [])))
                [cell p46 0, cell p46 1, cell p46 2] =
              true then
        if (!peqL [cell p45 0, cell p45 1, cell p45 2] [cell p46 0, cell p46 1, cell p46 2]) = true then
          some (PV.bool false)
        else
          rec44
            (IntKind.i64.wrap (s43.fst + 1), s43.snd.fst, s43.snd.snd.fst, s43.snd.snd.snd.fst, s43.snd.snd.snd.snd.fst,
              s43.snd.snd.snd.snd.snd.fst, s43.snd.snd.snd.snd.snd.snd.fst, s43.snd.snd.snd.snd.snd.snd.snd.fst,
              s43.snd.snd.snd.snd.snd.snd.snd.snd.fst, s43.snd.snd.snd.snd.snd.snd.snd.snd.snd.fst,
              s43.snd.snd.snd.snd.snd.snd.snd.snd.snd.snd.fst, s43.snd.snd.snd.snd.snd.snd.snd.snd.snd.snd.snd.fst,
              s43.snd.snd.snd.snd.snd.snd.snd.snd.snd.snd.snd.snd.fst,
              s43.snd.snd.snd.snd.snd.snd.snd.snd.snd.snd.snd.snd.snd.fst,
              s43.snd.snd.snd.snd.snd.snd.snd.snd.snd.snd.snd.snd.snd.snd.fst,
              s43.snd.snd.snd.snd.snd.snd.snd.snd.snd.snd.snd.snd.snd.snd.snd.fst,
              s43.snd.snd.snd.snd.snd.snd.snd.snd.snd.snd.snd.snd.snd.snd.snd.snd.fst,
              s43.snd.snd.snd.snd.snd.snd.snd.snd.snd.snd.snd.snd.snd.snd.snd.snd.snd.fst,
              s43.snd.snd.snd.snd.snd.snd.snd.snd.snd.snd.snd.snd.snd.snd.snd.snd.snd.snd.fst,
              s43.snd.snd.snd.snd.snd.snd.snd.snd.snd.snd.snd.snd.snd.snd.snd.snd.snd.snd.snd.fst,
              s43.snd.snd.snd.snd.snd.snd.snd.snd.snd.snd.snd.snd.snd.snd.snd.snd.snd.snd.snd.snd.fst,
              s43.snd.snd.snd.snd.snd.snd.snd.snd.snd.snd.snd.snd.snd.snd.snd.snd.snd.snd.snd.snd.snd.fst,
              s43.snd.snd.snd.snd.snd.snd.snd.snd.snd.snd.snd.snd.snd.snd.snd.snd.snd.snd.snd.snd.snd.snd.fst,
              s43.snd.snd.snd.snd.snd.snd.snd.snd.snd.snd.snd.snd.snd.snd.snd.snd.snd.snd.snd.snd.snd.snd.snd.fst,
              s43.snd.snd.snd.snd.snd.snd.snd.snd.snd.snd.snd.snd.snd.snd.snd.snd.snd.snd.snd.snd.snd.snd.snd.snd.fst,
              s43.snd.snd.snd.snd.snd.snd.snd.snd.snd.snd.snd.snd.snd.snd.snd.snd.snd.snd.snd.snd.snd.snd.snd.snd.snd.fst,
              s43.snd.snd.snd.snd.snd.snd.snd.snd.snd.snd.snd.snd.snd.snd.snd.snd.snd.snd.snd.snd.snd.snd.snd.snd.snd.snd.fst,
              ())
      else none
else some (PV.bool true)
def ref22_heads_L2 (L : Lps) : (Int ×
  List PV ×
    List PV ×
      List PV ×
        List PV ×
          List PV ×
            List PV ×
              List PV ×
                List PV ×
                  List PV ×
                    List PV ×
                      Int ×
                        Int ×
                          Int ×
                            List PV ×
                              List PV ×
                                List PV ×
                                  List PV ×
                                    List PV × List PV × List PV × List PV × List PV × List PV × Int × Int × Int × Unit) → (Int ×
    List PV ×
      List PV ×
        List PV ×
          List PV ×
            List PV ×
              List PV ×
                List PV ×
                  List PV ×
                    List PV ×
                      List PV ×
                        Int ×
                          Int ×
                            Int ×
                              List PV ×
                                List PV ×
                                  List PV ×
                                    List PV ×
                                      List PV ×
                                        List PV × List PV × List PV × List PV × List PV × Int × Int × Int × Unit →
  Option PV) → Option PV := fun s39 rec40 =>
  if decide (s39.fst < (↑s39.snd.snd.snd.fst.length : Int)) = true then
  (idxP s39.snd.snd.snd.fst s39.fst).bind fun p41 =>
    (idxP s39.snd.snd.snd.snd.snd.snd.snd.snd.snd.snd.snd.snd.snd.snd.snd.snd.fst s39.fst).bind fun p42 =>
      if
          chk
                (Kd.str ::
                  [].append
                    (Kd.bool ::
                      ([].append (kdsRep [Kd.bool] 6)).append
                        (Kd.int IntKind.i64 :: [].append (Kd.int IntKind.i64 :: [].append []))))
                [cell p41 0, cell p41 1, cell p41 2, cell p41 3, cell p41 4, cell p41 5, cell p41 6, cell p41 7,
                  cell p41 8, cell p41 9] =
              true ∧
            chk
                (Kd.str ::
                  [].append
                    (Kd.bool ::
                      ([].append (kdsRep [Kd.bool] 6)).append
                        (Kd.int IntKind.i64 :: [].append (Kd.int IntKind.i64 :: [].append []))))
                [cell p42 0, cell p42 1, cell p42 2, cell p42 3, cell p42 4, cell p42 5, cell p42 6, cell p42 7,
                  cell p42 8, cell p42 9] =
              true then
        if
            (!peqL
                  [cell p41 0, cell p41 1, cell p41 2, cell p41 3, cell p41 4, cell p41 5, cell p41 6, cell p41 7,
                    cell p41 8, cell p41 9]
                  [cell p42 0, cell p42 1, cell p42 2, cell p42 3, cell p42 4, cell p42 5, cell p42 6, cell p42 7,
                    cell p42 8, cell p42 9]) =
              true then
          some (PV.bool false)
        else
          rec40
            (IntKind.i64.wrap (s39.fst + 1), s39.snd.fst, s39.snd.snd.fst, s39.snd.snd.snd.fst, s39.snd.snd.snd.snd.fst,
              s39.snd.snd.snd.snd.snd.fst, s39.snd.snd.snd.snd.snd.snd.fst, s39.snd.snd.snd.snd.snd.snd.snd.fst,
              s39.snd.snd.snd.snd.snd.snd.snd.snd.fst, s39.snd.snd.snd.snd.snd.snd.snd.snd.snd.fst,
              s39.snd.snd.snd.snd.snd.snd.snd.snd.snd.snd.fst, s39.snd.snd.snd.snd.snd.snd.snd.snd.snd.snd.snd.fst,
              s39.snd.snd.snd.snd.snd.snd.snd.snd.snd.snd.snd.snd.fst,
              s39.snd.snd.snd.snd.snd.snd.snd.snd.snd.snd.snd.snd.snd.fst,
              s39.snd.snd.snd.snd.snd.snd.snd.snd.snd.snd.snd.snd.snd.snd.fst,
              s39.snd.snd.snd.snd.snd.snd.snd.snd.snd.snd.snd.snd.snd.snd.snd.fst,
              s39.snd.snd.snd.snd.snd.snd.snd.snd.snd.snd.snd.snd.snd.snd.snd.snd.fst,
              s39.snd.snd.snd.snd.snd.snd.snd.snd.snd.snd.snd.snd.snd.snd.snd.snd.snd.fst,
              s39.snd.snd.snd.snd.snd.snd.snd.snd.snd.snd.snd.snd.snd.snd.snd.snd.snd.snd.fst,
              s39.snd.snd.snd.snd.snd.snd.snd.snd.snd.snd.snd.snd.snd.snd.snd.snd.snd.snd.snd.fst,
              s39.snd.snd.snd.snd.snd.snd.snd.snd.snd.snd.snd.snd.snd.snd.snd.snd.snd.snd.snd.snd.fst,
              s39.snd.snd.snd.snd.snd.snd.snd.snd.snd.snd.snd.snd.snd.snd.snd.snd.snd.snd.snd.snd.snd.fst,
              s39.snd.snd.snd.snd.snd.snd.snd.snd.snd.snd.snd.snd.snd.snd.snd.snd.snd.snd.snd.snd.snd.snd.fst,
              s39.snd.snd.snd.snd.snd.snd.snd.snd.snd.snd.snd.snd.snd.snd.snd.snd.snd.snd.snd.snd.snd.snd.snd.fst,
              s39.snd.snd.snd.snd.snd.snd.snd.snd.snd.snd.snd.snd.snd.snd.snd.snd.snd.snd.snd.snd.snd.snd.snd.snd.fst,
              s39.snd.snd.snd.snd.snd.snd.snd.snd.snd.snd.snd.snd.snd.snd.snd.snd.snd.snd.snd.snd.snd.snd.snd.snd.snd.fst,
              s39.snd.snd.snd.snd.snd.snd.snd.snd.snd.snd.snd.snd.snd.snd.snd.snd.snd.snd.snd.snd.snd.snd.snd.snd.snd.snd.fst,
              ())
      else none
else
  L.run ref22_heads_L1
    (0, s39.snd.fst, s39.snd.snd.fst, s39.snd.snd.snd.fst, s39.snd.snd.snd.snd.fst, s39.snd.snd.snd.snd.snd.fst,
      s39.snd.snd.snd.snd.snd.snd.fst, s39.snd.snd.snd.snd.snd.snd.snd.fst, s39.snd.snd.snd.snd.snd.snd.snd.snd.fst,
      s39.snd.snd.snd.snd.snd.snd.snd.snd.snd.fst, s39.snd.snd.snd.snd.snd.snd.snd.snd.snd.snd.fst,
      s39.snd.snd.snd.snd.snd.snd.snd.snd.snd.snd.snd.fst, s39.snd.snd.snd.snd.snd.snd.snd.snd.snd.snd.snd.snd.fst,
      s39.snd.snd.snd.snd.snd.snd.snd.snd.snd.snd.snd.snd.snd.fst,
      s39.snd.snd.snd.snd.snd.snd.snd.snd.snd.snd.snd.snd.snd.snd.fst,
      s39.snd.snd.snd.snd.snd.snd.snd.snd.snd.snd.snd.snd.snd.snd.snd.fst,
      s39.snd.snd.snd.snd.snd.snd.snd.snd.snd.snd.snd.snd.snd.snd.snd.snd.fst,
      s39.snd.snd.snd.snd.snd.snd.snd.snd.snd.snd.snd.snd.snd.snd.snd.snd.snd.fst,
      s39.snd.snd.snd.snd.snd.snd.snd.snd.snd.snd.snd.snd.snd.snd.snd.snd.snd.snd.fst,
      s39.snd.snd.snd.snd.snd.snd.snd.snd.snd.snd.snd.snd.snd.snd.snd.snd.snd.snd.snd.fst,
      s39.snd.snd.snd.snd.snd.snd.snd.snd.snd.snd.snd.snd.snd.snd.snd.snd.snd.snd.snd.snd.fst,
      s39.snd.snd.snd.snd.snd.snd.snd.snd.snd.snd.snd.snd.snd.snd.snd.snd.snd.snd.snd.snd.snd.fst,
      s39.snd.snd.snd.snd.snd.snd.snd.snd.snd.snd.snd.snd.snd.snd.snd.snd.snd.snd.snd.snd.snd.snd.fst,
      s39.snd.snd.snd.snd.snd.snd.snd.snd.snd.snd.snd.snd.snd.snd.snd.snd.snd.snd.snd.snd.snd.snd.snd.fst,
      s39.snd.snd.snd.snd.snd.snd.snd.snd.snd.snd.snd.snd.snd.snd.snd.snd.snd.snd.snd.snd.snd.snd.snd.snd.fst,
      s39.snd.snd.snd.snd.snd.snd.snd.snd.snd.snd.snd.snd.snd.snd.snd.snd.snd.snd.snd.snd.snd.snd.snd.snd.snd.fst,
      s39.snd.snd.snd.snd.snd.snd.snd.snd.snd.snd.snd.snd.snd.snd.snd.snd.snd.snd.snd.snd.snd.snd.snd.snd.snd.snd.fst,
      ())
def ref22_heads_L3 (L : Lps) : (Int ×
  List PV ×
    List PV ×
      List PV ×
        List PV ×
          List PV ×
            List PV ×
              List PV ×
                List PV ×
                  List PV ×
                    List PV ×
                      Int ×
                        Int ×
                          Int ×
                            List PV ×
                              List PV ×
                                List PV ×
                                  List PV ×
                                    List PV × List PV × List PV × List PV × List PV × List PV × Int × Int × Int × Unit) → (Int ×
    List PV ×
      List PV ×
        List PV ×
          List PV ×
            List PV ×
              List PV ×
                List PV ×
                  List PV ×
                    List PV ×
                      List PV ×
                        Int ×
                          Int ×
                            Int ×
                              List PV ×
                                List PV ×
                                  List PV ×
                                    List PV ×
                                      List PV ×
                                        List PV × List PV × List PV × List PV × List PV × Int × Int × Int × Unit →
  Option PV) → Option PV := fun s35 rec36 =>
  if decide (s35.fst < (↑s35.snd.snd.fst.length : Int)) = true then
  (idxP s35.snd.snd.fst s35.fst).bind fun p37 =>
    (idxP s35.snd.snd.snd.snd.snd.snd.snd.snd.snd.snd.snd.snd.snd.snd.snd.fst s35.fst).bind fun p38 =>
      if
          chk (Kd.str :: [].append (Kd.int IntKind.i64 :: [].append (Kd.bool :: [].append [])))
                [cell p37 0, cell p37 1, cell p37 2] =
              true ∧
            chk (Kd.str :: [].append (Kd.int IntKind.i64 :: [].append (Kd.bool :: [].append [])))
                [cell p38 0, cell p38 1, cell p38 2] =
              true then
        if (!peqL [cell p37 0, cell p37 1, cell p37 2] [cell p38 0, cell p38 1, cell p38 2]) = true then
          some (PV.bool false)
        else
          rec36
            (IntKind.i64.wrap (s35.fst + 1), s35.snd.fst, s35.snd.snd.fst, s35.snd.snd.snd.fst, s35.snd.snd.snd.snd.fst,
              s35.snd.snd.snd.snd.snd.fst, s35.snd.snd.snd.snd.snd.snd.fst, s35.snd.snd.snd.snd.snd.snd.snd.fst,
              s35.snd.snd.snd.snd.snd.snd.snd.snd.fst, s35.snd.snd.snd.snd.snd.snd.snd.snd.snd.fst,
              s35.snd.snd.snd.snd.snd.snd.snd.snd.snd.snd.fst, s35.snd.snd.snd.snd.snd.snd.snd.snd.snd.snd.snd.fst,
              s35.snd.snd.snd.snd.snd.snd.snd.snd.snd.snd.snd.snd.fst,
              s35.snd.snd.snd.snd.snd.snd.snd.snd.snd.snd.snd.snd.snd.fst,
              s35.snd.snd.snd.snd.snd.snd.snd.snd.snd.snd.snd.snd.snd.snd.fst,
              s35.snd.snd.snd.snd.snd.snd.snd.snd.snd.snd.snd.snd.snd.snd.snd.fst,
              s35.snd.snd.snd.snd.snd.snd.snd.snd.snd.snd.snd.snd.snd.snd.snd.snd.fst,
              s35.snd.snd.snd.snd.snd.snd.snd.snd.snd.snd.snd.snd.snd.snd.snd.snd.snd.fst,
              s35.snd.snd.snd.snd.snd.snd.snd.snd.snd.snd.snd.snd.snd.snd.snd.snd.snd.snd.fst,
              s35.snd.snd.snd.snd.snd.snd.snd.snd.snd.snd.snd.snd.snd.snd.snd.snd.snd.snd.snd.fst,
              s35.snd.snd.snd.snd.snd.snd.snd.snd.snd.snd.snd.snd.snd.snd.snd.snd.snd.snd.snd.snd.fst,
              s35.snd.snd.snd.snd.snd.snd.snd.snd.snd.snd.snd.snd.snd.snd.snd.snd.snd.snd.snd.snd.snd.fst,
              s35.snd.snd.snd.snd.snd.snd.snd.snd.snd.snd.snd.snd.snd.snd.snd.snd.snd.snd.snd.snd.snd.snd.fst,
              s35.snd.snd.snd.snd.snd.snd.snd.snd.snd.snd.snd.snd.snd.snd.snd.snd.snd.snd.snd.snd.snd.snd.snd.fst,
              s35.snd.snd.snd.snd.snd.snd.snd.snd.snd.snd.snd.snd.snd.snd.snd.snd.snd.snd.snd.snd.snd.snd.snd.snd.fst,
              s35.snd.snd.snd.snd.snd.snd.snd.snd.snd.snd.snd.snd.snd.snd.snd.snd.snd.snd.snd.snd.snd.snd.snd.snd.snd.fst,
              s35.snd.snd.snd.snd.snd.snd.snd.snd.snd.snd.snd.snd.snd.snd.snd.snd.snd.snd.snd.snd.snd.snd.snd.snd.snd.snd.fst,
              ())
      else none
else
  L.run (ref22_heads_L2 L)
    (0, s35.snd.fst, s35.snd.snd.fst, s35.snd.snd.snd.fst, s35.snd.snd.snd.snd.fst, s35.snd.snd.snd.snd.snd.fst,
      s35.snd.snd.snd.snd.snd.snd.fst, s35.snd.snd.snd.snd.snd.snd.snd.fst, s35.snd.snd.snd.snd.snd.snd.snd.snd.fst,
      s35.snd.snd.snd.snd.snd.snd.snd.snd.snd.fst, s35.snd.snd.snd.snd.snd.snd.snd.snd.snd.snd.fst,
      s35.snd.snd.snd.snd.snd.snd.snd.snd.snd.snd.snd.fst, s35.snd.snd.snd.snd.snd.snd.snd.snd.snd.snd.snd.snd.fst,
      s35.snd.snd.snd.snd.snd.snd.snd.snd.snd.snd.snd.snd.snd.fst,
      s35.snd.snd.snd.snd.snd.snd.snd.snd.snd.snd.snd.snd.snd.snd.fst,
      s35.snd.snd.snd.snd.snd.snd.snd.snd.snd.snd.snd.snd.snd.snd.snd.fst,
      s35.snd.snd.snd.snd.snd.snd.snd.snd.snd.snd.snd.snd.snd.snd.snd.snd.fst,
      s35.snd.snd.snd.snd.snd.snd.snd.snd.snd.snd.snd.snd.snd.snd.snd.snd.snd.fst,
      s35.snd.snd.snd.snd.snd.snd.snd.snd.snd.snd.snd.snd.snd.snd.snd.snd.snd.snd.fst,
      s35.snd.snd.snd.snd.snd.snd.snd.snd.snd.snd.snd.snd.snd.snd.snd.snd.snd.snd.snd.fst,
      s35.snd.snd.snd.snd.snd.snd.snd.snd.snd.snd.snd.snd.snd.snd.snd.snd.snd.snd.snd.snd.fst,
      s35.snd.snd.snd.snd.snd.snd.snd.snd.snd.snd.snd.snd.snd.snd.snd.snd.snd.snd.snd.snd.snd.fst,
      s35.snd.snd.snd.snd.snd.snd.snd.snd.snd.snd.snd.snd.snd.snd.snd.snd.snd.snd.snd.snd.snd.snd.fst,
      s35.snd.snd.snd.snd.snd.snd.snd.snd.snd.snd.snd.snd.snd.snd.snd.snd.snd.snd.snd.snd.snd.snd.snd.fst,
      s35.snd.snd.snd.snd.snd.snd.snd.snd.snd.snd.snd.snd.snd.snd.snd.snd.snd.snd.snd.snd.snd.snd.snd.snd.fst,
      s35.snd.snd.snd.snd.snd.snd.snd.snd.snd.snd.snd.snd.snd.snd.snd.snd.snd.snd.snd.snd.snd.snd.snd.snd.snd.fst,
      s35.snd.snd.snd.snd.snd.snd.snd.snd.snd.snd.snd.snd.snd.snd.snd.snd.snd.snd.snd.snd.snd.snd.snd.snd.snd.snd.fst,
      ())
def ref22_heads_L4 (L : Lps) : (Int ×
  List PV ×
    List PV ×
      List PV ×
        List PV ×
          List PV ×
            List PV ×
              List PV ×
                List PV ×
                  List PV ×
                    List PV ×
                      Int ×
                        Int ×
                          Int ×
                            List PV ×
                              List PV ×
                                List PV ×
                                  List PV ×
                                    List PV × List PV × List PV × List PV × List PV × List PV × Int × Int × Int × Unit) → (Int ×
    List PV ×
      List PV ×
        List PV ×
          List PV ×
            List PV ×
              List PV ×
                List PV ×
                  List PV ×
                    List PV ×
                      List PV ×
                        Int ×
                          Int ×
                            Int ×
                              List PV ×
                                List PV ×
                                  List PV ×
                                    List PV ×
                                      List PV ×
                                        List PV × List PV × List PV × List PV × List PV × Int × Int × Int × Unit →
  Option PV) → Option PV := fun s31 rec32 =>
  if decide (s31.fst < (↑s31.snd.fst.length : Int)) = true then
  (idxP s31.snd.fst s31.fst).bind fun p33 =>
    (idxP s31.snd.snd.snd.snd.snd.snd.snd.snd.snd.snd.snd.snd.snd.snd.fst s31.fst).bind fun p34 =>
      if
          chk
                (Kd.str ::
                  [].append
                    (Kd.int IntKind.i64 :: [].append (Kd.bool :: [].append (Kd.int IntKind.i64 :: [].append []))))
                [cell p33 0, cell p33 1, cell p33 2, cell p33 3] =
              true ∧
            chk
                (Kd.str ::
                  [].append
                    (Kd.int IntKind.i64 :: [].append (Kd.bool :: [].append (Kd.int IntKind.i64 :: [].append []))))
                [cell p34 0, cell p34 1, cell p34 2, cell p34 3] =
              true then
        if
            (!peqL [cell p33 0, cell p33 1, cell p33 2, cell p33 3] [cell p34 0, cell p34 1, cell p34 2, cell p34 3]) =
              true then
          some (PV.bool false)
        else
          rec32
            (IntKind.i64.wrap (s31.fst + 1), s31.snd.fst, s31.snd.snd.fst, s31.snd.snd.snd.fst, s31.snd.snd.snd.snd.fst,
              s31.snd.snd.snd.snd.snd.fst, s31.snd.snd.snd.snd.snd.snd.fst, s31.snd.snd.snd.snd.snd.snd.snd.fst,
              s31.snd.snd.snd.snd.snd.snd.snd.snd.fst, s31.snd.snd.snd.snd.snd.snd.snd.snd.snd.fst,
              s31.snd.snd.snd.snd.snd.snd.snd.snd.snd.snd.fst, s31.snd.snd.snd.snd.snd.snd.snd.snd.snd.snd.snd.fst,
              s31.snd.snd.snd.snd.snd.snd.snd.snd.snd.snd.snd.snd.fst,
              s31.snd.snd.snd.snd.snd.snd.snd.snd.snd.snd.snd.snd.snd.fst,
              s31.snd.snd.snd.snd.snd.snd.snd.snd.snd.snd.snd.snd.snd.snd.fst,
              s31.snd.snd.snd.snd.snd.snd.snd.snd.snd.snd.snd.snd.snd.snd.snd.fst,
              s31.snd.snd.snd.snd.snd.snd.snd.snd.snd.snd.snd.snd.snd.snd.snd.snd.fst,
              s31.snd.snd.snd.snd.snd.snd.snd.snd.snd.snd.snd.snd.snd.snd.snd.snd.snd.fst,
              s31.snd.snd.snd.snd.snd.snd.snd.snd.snd.snd.snd.snd.snd.snd.snd.snd.snd.snd.fst,
              s31.snd.snd.snd.snd.snd.snd.snd.snd.snd.snd.snd.snd.snd.snd.snd.snd.snd.snd.snd.fst,
              s31.snd.snd.snd.snd.snd.snd.snd.snd.snd.snd.snd.snd.snd.snd.snd.snd.snd.snd.snd.snd.fst,
              s31.snd.snd.snd.snd.snd.snd.snd.snd.snd.snd.snd.snd.snd.snd.snd.snd.snd.snd.snd.snd.snd.fst,
              s31.snd.snd.snd.snd.snd.snd.snd.snd.snd.snd.snd.snd.snd.snd.snd.snd.snd.snd.snd.snd.snd.snd.fst,
              s31.snd.snd.snd.snd.snd.snd.snd.snd.snd.snd.snd.snd.snd.snd.snd.snd.snd.snd.snd.snd.snd.snd.snd.fst,
              s31.snd.snd.snd.snd.snd.snd.snd.snd.snd.snd.snd.snd.snd.snd.snd.snd.snd.snd.snd.snd.snd.snd.snd.snd.fst,
              s31.snd.snd.snd.snd.snd.snd.snd.snd.snd.snd.snd.snd.snd.snd.snd.snd.snd.snd.snd.snd.snd.snd.snd.snd.snd.fst,
              s31.snd.snd.snd.snd.snd.snd.snd.snd.snd.snd.snd.snd.snd.snd.snd.snd.snd.snd.snd.snd.snd.snd.snd.snd.snd.snd.fst,
              ())
      else none
else
  L.run (ref22_heads_L3 L)
    (0, s31.snd.fst, s31.snd.snd.fst, s31.snd.snd.snd.fst, s31.snd.snd.snd.snd.fst, s31.snd.snd.snd.snd.snd.fst,
      s31.snd.snd.snd.snd.snd.snd.fst, s31.snd.snd.snd.snd.snd.snd.snd.fst, s31.snd.snd.snd.snd.snd.snd.snd.snd.fst,
      s31.snd.snd.snd.snd.snd.snd.snd.snd.snd.fst, s31.snd.snd.snd.snd.snd.snd.snd.snd.snd.snd.fst,
      s31.snd.snd.snd.snd.snd.snd.snd.snd.snd.snd.snd.fst, s31.snd.snd.snd.snd.snd.snd.snd.snd.snd.snd.snd.snd.fst,
      s31.snd.snd.snd.snd.snd.snd.snd.snd.snd.snd.snd.snd.snd.fst,
      s31.snd.snd.snd.snd.snd.snd.snd.snd.snd.snd.snd.snd.snd.snd.fst,
      s31.snd.snd.snd.snd.snd.snd.snd.snd.snd.snd.snd.snd.snd.snd.snd.fst,
      s31.snd.snd.snd.snd.snd.snd.snd.snd.snd.snd.snd.snd.snd.snd.snd.snd.fst,
      s31.snd.snd.snd.snd.snd.snd.snd.snd.snd.snd.snd.snd.snd.snd.snd.snd.snd.fst,
      s31.snd.snd.snd.snd.snd.snd.snd.snd.snd.snd.snd.snd.snd.snd.snd.snd.snd.snd.fst,
      s31.snd.snd.snd.snd.snd.snd.snd.snd.snd.snd.snd.snd.snd.snd.snd.snd.snd.snd.snd.fst,
      s31.snd.snd.snd.snd.snd.snd.snd.snd.snd.snd.snd.snd.snd.snd.snd.snd.snd.snd.snd.snd.fst,
      s31.snd.snd.snd.snd.snd.snd.snd.snd.snd.snd.snd.snd.snd.snd.snd.snd.snd.snd.snd.snd.snd.fst,
      s31.snd.snd.snd.snd.snd.snd.snd.snd.snd.snd.snd.snd.snd.snd.snd.snd.snd.snd.snd.snd.snd.snd.fst,
      s31.snd.snd.snd.snd.snd.snd.snd.snd.snd.snd.snd.snd.snd.snd.snd.snd.snd.snd.snd.snd.snd.snd.snd.fst,
      s31.snd.snd.snd.snd.snd.snd.snd.snd.snd.snd.snd.snd.snd.snd.snd.snd.snd.snd.snd.snd.snd.snd.snd.snd.fst,
      s31.snd.snd.snd.snd.snd.snd.snd.snd.snd.snd.snd.snd.snd.snd.snd.snd.snd.snd.snd.snd.snd.snd.snd.snd.snd.fst,
      s31.snd.snd.snd.snd.snd.snd.snd.snd.snd.snd.snd.snd.snd.snd.snd.snd.snd.snd.snd.snd.snd.snd.snd.snd.snd.snd.fst,
      ())
def ref22_heads (L : Lps) (p0 : PV) (p1 : PV) : Option PV :=
  (Ab.asAgg 13 p0).bind fun x0 =>
  (asSl 4 (cell p0 0)).bind fun es1 =>
    (asSl 3 (cell p0 1)).bind fun es2 =>
      (asSl 10 (cell p0 2)).bind fun es3 =>
        (asSl 3 (cell p0 3)).bind fun es4 =>
          (asSl 5 (cell p0 4)).bind fun es5 =>
            (asSl 4 (cell p0 5)).bind fun es6 =>
              (asSl 2 (cell p0 6)).bind fun es7 =>
                (asSl 3 (cell p0 7)).bind fun es8 =>
                  (asSl 4 (cell p0 8)).bind fun es9 =>
                    (asSl 6 (cell p0 9)).bind fun es10 =>
                      (Ab.asInt IntKind.i64 (cell p0 10)).bind fun n11 =>
                        (Ab.asInt IntKind.i64 (cell p0 11)).bind fun n12 =>
                          (Ab.asInt IntKind.i64 (cell p0 12)).bind fun n13 =>
                            (Ab.asAgg 13 p1).bind fun x14 =>
                              (asSl 4 (cell p1 0)).bind fun es15 =>
                                (asSl 3 (cell p1 1)).bind fun es16 =>
                                  (asSl 10 (cell p1 2)).bind fun es17 =>
                                    (asSl 3 (cell p1 3)).bind fun es18 =>
                                      (asSl 5 (cell p1 4)).bind fun es19 =>
                                        (asSl 4 (cell p1 5)).bind fun es20 =>
                                          (asSl 2 (cell p1 6)).bind fun es21 =>
                                            (asSl 3 (cell p1 7)).bind fun es22 =>
                                              (asSl 4 (cell p1 8)).bind fun es23 =>
                                                (asSl 6 (cell p1 9)).bind fun es24 =>
                                                  (Ab.asInt IntKind.i64 (cell p1 10)).bind fun n25 =>
                                                    (Ab.asInt IntKind.i64 (cell p1 11)).bind fun n26 =>
                                                      (Ab.asInt IntKind.i64 (cell p1 12)).bind fun n27 =>
                                                        (bif (↑es1.length : Int) != (↑es15.length : Int) then some true
                                                            else
                                                              some ((↑es2.length : Int) != (↑es16.length : Int))).bind
                                                          fun r28 =>
                                                          (bif r28 then some true
                                                              else
                                                                some ((↑es3.length : Int) != (↑es17.length : Int))).bind
                                                            fun r29 =>
                                                            (bif r29 then some true
                                                                else
                                                                  some
                                                                    ((↑es4.length : Int) != (↑es18.length : Int))).bind
                                                              fun r30 =>
                                                              if r30 = true then some (PV.bool false)
                                                              else
                                                                L.run (ref22_heads_L4 L)
                                                                  (0, es1, es2, es3, es4, es5, es6, es7, es8, es9, es10,
                                                                    n11, n12, n13, es15, es16, es17, es18, es19, es20,
                                                                    es21, es22, es23, es24, n25, n26, n27, ())
def ref22_heads_M : List PV → Option PV
  | [p0, p1] => ref22_heads lpS p0 p1
  | _ => none
def ref22_tails_L1 : (Int ×
  List PV ×
    List PV ×
      List PV ×
        List PV ×
          List PV ×
            List PV ×
              List PV ×
                List PV ×
                  List PV ×
                    List PV ×
                      Int ×
                        Int ×
                          Int ×
                            List PV ×
                              List PV ×
                                List PV ×
                                  List PV ×
                                    List PV × List PV × List PV × List PV × List PV × List PV × Int × Int × Int × Unit) → (Int ×
    List PV ×
      List PV ×
        List PV ×
          List PV ×
            List PV ×
              List PV ×
                List PV ×
                  List PV ×
                    List PV ×
                      List PV ×
                        Int ×
                          Int ×
                            Int ×
                              List PV ×
                                List PV ×
                                  List PV ×
                                    List PV ×
                                      List PV ×
                                        List PV × List PV × List PV × List PV × List PV × Int × Int × Int × Unit →
  Option PV) → Option PV := fun s48 rec49 =>
  if decide (s48.fst < (↑s48.snd.snd.snd.snd.snd.snd.snd.snd.snd.snd.fst.length : Int)) = true then
  (idxP s48.snd.snd.snd.snd.snd.snd.snd.snd.snd.snd.fst s48.fst).bind fun p50 =>
    (idxP s48.snd.snd.snd.snd.snd.snd.snd.snd.snd.snd.snd.snd.snd.snd.snd.snd.snd.snd.snd.snd.snd.snd.snd.fst
          s48.fst).bind
      fun p51 =>
      if
          chk
                (Kd.str ::
                  [].append
                    (Kd.int IntKind.i64 ::
                      [].append
                        (Kd.int IntKind.i64 ::
                          [].append
                            (Kd.int IntKind.i64 ::
                              [].append (Kd.int IntKind.i64 :: [].append (Kd.int IntKind.i64 :: [].append []))))))
                [cell p50 0, cell p50 1, cell p50 2, cell p50 3, cell p50 4, cell p50 5] =
              true ∧
            chk
                (Kd.str ::
                  [].append
                    (Kd.int IntKind.i64 ::
                      [].append
                        (Kd.int IntKind.i64 ::
                          [].append
                            (Kd.int IntKind.i64 ::
                              [].append (Kd.int IntKind.i64 :: [].append (Kd.int IntKind.i64 :: [].append []))))))
                [cell p51 0, cell p51 1, cell p51 2, cell p51 3, cell p51 4, cell p51 5] =
              true then
        if
            (!peqL [cell p50 0, cell p50 1, cell p50 2, cell p50 3, cell p50 4, cell p50 5]
                  [cell p51 0, cell p51 1, cell p51 2, cell p51 3, cell p51 4, cell p51 5]) =
              true then
          some (PV.bool false)
        else
          rec49
            (IntKind.i64.wrap (s48.fst + 1), s48.snd.fst, s48.snd.snd.fst, s48.snd.snd.snd.fst, s48.snd.snd.snd.snd.fst,
              s48.snd.snd.snd.snd.snd.fst, s48.snd.snd.snd.snd.snd.snd.fst, s48.snd.snd.snd.snd.snd.snd.snd.fst,
              s48.snd.snd.snd.snd.snd.snd.snd.snd.fst, s48.snd.snd.snd.snd.snd.snd.snd.snd.snd.fst,
              s48.snd.snd.snd.snd.snd.snd.snd.snd.snd.snd.fst, s48.snd.snd.snd.snd.snd.snd.snd.snd.snd.snd.snd.fst,
              s48.snd.snd.snd.snd.snd.snd.snd.snd.snd.snd.snd.snd.fst,
              s48.snd.snd.snd.snd.snd.snd.snd.snd.snd.snd.snd.snd.snd.fst,
              s48.snd.snd.snd.snd.snd.snd.snd.snd.snd.snd.snd.snd.snd.snd.fst,
              s48.snd.snd.snd.snd.snd.snd.snd.snd.snd.snd.snd.snd.snd.snd.snd.fst,
              s48.snd.snd.snd.snd.snd.snd.snd.snd.snd.snd.snd.snd.snd.snd.snd.snd.fst,
              s48.snd.snd.snd.snd.snd.snd.snd.snd.snd.snd.snd.snd.snd.snd.snd.snd.snd.fst,
              s48.snd.snd.snd.snd.snd.snd.snd.snd.snd.snd.snd.snd.snd.snd.snd.snd.snd.snd.fst,
              s48.snd.snd.snd.snd.snd.snd.snd.snd.snd.snd.snd.snd.snd.snd.snd.snd.snd.snd.snd.fst,
              s48.snd.snd.snd.snd.snd.snd.snd.snd.snd.snd.snd.snd.snd.snd.snd.snd.snd.snd.snd.snd.fst,
              s48.snd.snd.snd.snd.snd.snd.snd.snd.snd.snd.snd.snd.snd.snd.snd.snd.snd.snd.snd.snd.snd.fst,
              s48.snd.snd.snd.snd.snd.snd.snd.snd.snd.snd.snd.snd.snd.snd.snd.snd.snd.snd.snd.snd.snd.snd.fst,
              s48.snd.snd.snd.snd.snd.snd.snd.snd.snd.snd.snd.snd.snd.snd.snd.snd.snd.snd.snd.snd.snd.snd.snd.fst,
              s48.snd.snd.snd.snd.snd.snd.snd.snd.snd.snd.snd.snd.snd.snd.snd.snd.snd.snd.snd.snd.snd.snd.snd.snd.fst,
              s48.snd.snd.snd.snd.snd.snd.snd.snd.snd.snd.snd.snd.snd.snd.snd.snd.snd.snd.snd.snd.snd.snd.snd.snd.snd.fst,
              s48.snd.snd.snd.snd.snd.snd.snd.snd.snd.snd.snd.snd.snd.snd.snd.snd.snd.snd.snd.snd.snd.snd.snd.snd.snd.snd.fst,
              ())
      else none
else some (PV.bool true)
def ref22_tails_L2 (L : Lps) : (Int ×
  List PV ×
    List PV ×
      List PV ×
        List PV ×
          List PV ×
            List PV ×
              List PV ×
                List PV ×
                  List PV ×
                    List PV ×
                      Int ×
                        Int ×
                          Int ×
                            List PV ×
                              List PV ×
                                List PV ×
                                  List PV ×
                                    List PV × List PV × List PV × List PV × List PV × List PV × Int × Int × Int × Unit) → (Int ×
    List PV ×
      List PV ×
        List PV ×
          List PV ×
            List PV ×
              List PV ×
                List PV ×
                  List PV ×
                    List PV ×
                      List PV ×
                        Int ×
                          Int ×
                            Int ×
                              List PV ×
                                List PV ×
                                  List PV ×
                                    List PV ×
                                      List PV ×
                                        List PV × List PV × List PV × List PV × List PV × Int × Int × Int × Unit →
  Option PV) → Option PV := fun s44 rec45 =>
  if decide (s44.fst < (↑s44.snd.snd.snd.snd.snd.snd.snd.snd.snd.fst.length : Int)) = true then
  (idxP s44.snd.snd.snd.snd.snd.snd.snd.snd.snd.fst s44.fst).bind fun p46 =>
    (idxP s44.snd.snd.snd.snd.snd.snd.snd.snd.snd.snd.snd.snd.snd.snd.snd.snd.snd.snd.snd.snd.snd.snd.fst s44.fst).bind
      fun p47 =>
      if
          chk
                (Kd.int IntKind.i64 ::
                  [].append
                    (Kd.int IntKind.i64 :: [].append (Kd.int IntKind.i64 :: [].append (Kd.bool :: [].append []))))
                [cell p46 0, cell p46 1, cell p46 2, cell p46 3] =
              true ∧
            chk
                (Kd.int IntKind.i64 ::
                  [].append
                    (Kd.int IntKind.i64 :: [].append (Kd.int IntKind.i64 :: [].append (Kd.bool :: [].append []))))
                [cell p47 0, cell p47 1, cell p47 2, cell p47 3] =
              true then
        if
            (!peqL [cell p46 0, cell p46 1, cell p46 2, cell p46 3] [cell p47 0, cell p47 1, cell p47 2, cell p47 3]) =
              true then
          some (PV.bool false)
        else
          rec45
            (IntKind.i64.wrap (s44.fst + 1), s44.snd.fst, s44.snd.snd.fst, s44.snd.snd.snd.fst, s44.snd.snd.snd.snd.fst,
              s44.snd.snd.snd.snd.snd.fst, s44.snd.snd.snd.snd.snd.snd.fst, s44.snd.snd.snd.snd.snd.snd.snd.fst,
              s44.snd.snd.snd.snd.snd.snd.snd.snd.fst, s44.snd.snd.snd.snd.snd.snd.snd.snd.snd.fst,
              s44.snd.snd.snd.snd.snd.snd.snd.snd.snd.snd.fst, s44.snd.snd.snd.snd.snd.snd.snd.snd.snd.snd.snd.fst,
              s44.snd.snd.snd.snd.snd.snd.snd.snd.snd.snd.snd.snd.fst,
              s44.snd.snd.snd.snd.snd.snd.snd.snd.snd.snd.snd.snd.snd.fst,
              s44.snd.snd.snd.snd.snd.snd.snd.snd.snd.snd.snd.snd.snd.snd.fst,
              s44.snd.snd.snd.snd.snd.snd.snd.snd.snd.snd.snd.snd.snd.snd.snd.fst,
              s44.snd.snd.snd.snd.snd.snd.snd.snd.snd.snd.snd.snd.snd.snd.snd.snd.fst,
              s44.snd.snd.snd.snd.snd.snd.snd.snd.snd.snd.snd.snd.snd.snd.snd.snd.snd.fst,
              s44.snd.snd.snd.snd.snd.snd.snd.snd.snd.snd.snd.snd.snd.snd.snd.snd.snd.snd.fst,
              s44.snd.snd.snd.snd.snd.snd.snd.snd.snd.snd.snd.snd.snd.snd.snd.snd.snd.snd.snd.fst,
              s44.snd.snd.snd.snd.snd.snd.snd.snd.snd.snd.snd.snd.snd.snd.snd.snd.snd.snd.snd.snd.fst,
              s44.snd.snd.snd.snd.snd.snd.snd.snd.snd.snd.snd.snd.snd.snd.snd.snd.snd.snd.snd.snd.snd.fst,
              s44.snd.snd.snd.snd.snd.snd.snd.snd.snd.snd.snd.snd.snd.snd.snd.snd.snd.snd.snd.snd.snd.snd.fst,
              s44.snd.snd.snd.snd.snd.snd.snd.snd.snd.snd.snd.snd.snd.snd.snd.snd.snd.snd.snd.snd.snd.snd.snd.fst,
              s44.snd.snd.snd.snd.snd.snd.snd.snd.snd.snd.snd.snd.snd.snd.snd.snd.snd.snd.snd.snd.snd.snd.snd.snd.fst,
              s44.snd.snd.snd.snd.snd.snd.snd.snd.snd.snd.snd.snd.snd.snd.snd.snd.snd.snd.snd.snd.snd.snd.snd.snd.snd.fst,
              s44.snd.snd.snd.snd.snd.snd.snd.snd.snd.snd.snd.snd.snd.snd.snd.snd.snd.snd.snd.snd.snd.snd.snd.snd.snd.snd.fst,
              ())
      else none
else
  L.run ref22_tails_L1
    (0, s44.snd.fst, s44.snd.snd.fst, s44.snd.snd.snd.fst, s44.snd.snd.snd.snd.fst, s44.snd.snd.snd.snd.snd.fst,
      s44.snd.snd.snd.snd.snd.snd.fst, s44.snd.snd.snd.snd.snd.snd.snd.fst, s44.snd.snd.snd.snd.snd.snd.snd.snd.fst,
      s44.snd.snd.snd.snd.snd.snd.snd.snd.snd.fst, s44.snd.snd.snd.snd.snd.snd.snd.snd.snd.snd.fst,
      s44.snd.snd.snd.snd.snd.snd.snd.snd.snd.snd.snd.fst, s44.snd.snd.snd.snd.snd.snd.snd.snd.snd.snd.snd.snd.fst,
      s44.snd.snd.snd.snd.snd.snd.snd.snd.snd.snd.snd.snd.snd.fst,
      s44.snd.snd.snd.snd.snd.snd.snd.snd.snd.snd.snd.snd.snd.snd.fst,
      s44.snd.snd.snd.snd.snd.snd.snd.snd.snd.snd.snd.snd.snd.snd.snd.fst,
      s44.snd.snd.snd.snd.snd.snd.snd.snd.snd.snd.snd.snd.snd.snd.snd.snd.fst,
      s44.snd.snd.snd.snd.snd.snd.snd.snd.snd.snd.snd.snd.snd.snd.snd.snd.snd.fst,
      s44.snd.snd.snd.snd.snd.snd.snd.snd.snd.snd.snd.snd.snd.snd.snd.snd.snd.snd.fst,
      s44.snd.snd.snd.snd.snd.snd.snd.snd.snd.snd.snd.snd.snd.snd.snd.snd.snd.snd.snd.fst,
      s44.snd.snd.snd.snd.snd.snd.snd.snd.snd.snd.snd.snd.snd.snd.snd.snd.snd.snd.snd.snd.fst,
      s44.snd.snd.snd.snd.snd.snd.snd.snd.snd.snd.snd.snd.snd.snd.snd.snd.snd.snd.snd.snd.snd.fst,
      s44.snd.snd.snd.snd.snd.snd.snd.snd.snd.snd.snd.snd.snd.snd.snd.snd.snd.snd.snd.snd.snd.snd.fst,
      s44.snd.snd.snd.snd.snd.snd.snd.snd.snd.snd.snd.snd.snd.snd.snd.snd.snd.snd.snd.snd.snd.snd.snd.fst,
      s44.snd.snd.snd.snd.snd.snd.snd.snd.snd.snd.snd.snd.snd.snd.snd.snd.snd.snd.snd.snd.snd.snd.snd.snd.fst,
      s44.snd.snd.snd.snd.snd.snd.snd.snd.snd.snd.snd.snd.snd.snd.snd.snd.snd.snd.snd.snd.snd.snd.snd.snd.snd.fst,
      s44.snd.snd.snd.snd.snd.snd.snd.snd.snd.snd.snd.snd.snd.snd.snd.snd.snd.snd.snd.snd.snd.snd.snd.snd.snd.snd.fst,
      ())
def ref22_tails_L3 (L : Lps) : (Int ×
  List PV ×
    List PV ×
      List PV ×
        List PV ×
          List PV ×
            List PV ×
              List PV ×
                List PV ×
                  List PV ×
                    List PV ×
                      Int ×
                        Int ×
                          Int ×
                            List PV ×
                              List PV ×
                                List PV ×
                                  List PV ×
                                    List PV × List PV × List PV × List PV × List PV × List PV × Int × Int × Int × Unit) → (Int ×
    List PV ×
      List PV ×
        List PV ×
          List PV ×
            List PV ×
              List PV ×
                List PV ×
                  List PV ×
                    List PV ×
                      List PV ×
                        Int ×
                          Int ×
                            Int ×
                              List PV ×
                                List PV ×
                                  List PV ×
                                    List PV ×
                                      List PV ×
                                        List PV × List PV × List PV × List PV × List PV × Int × Int × Int × Unit →
  Option PV) → Option PV := fun s40 rec41 =>
  if decide (s40.fst < (↑s40.snd.snd.snd.snd.snd.snd.snd.snd.fst.length : Int)) = true then
  (idxP s40.snd.snd.snd.snd.snd.snd.snd.snd.fst s40.fst).bind fun p42 =>
    (idxP s40.snd.snd.snd.snd.snd.snd.snd.snd.snd.snd.snd.snd.snd.snd.snd.snd.snd.snd.snd.snd.snd.fst s40.fst).bind
      fun p43 =>
      if
          chk (Kd.int IntKind.i64 :: [].append (Kd.int IntKind.i64 :: [].append (Kd.int IntKind.i64 :: [].append [])))
                [cell p42 0, cell p42 1, cell p42 2] =
              true ∧
            chk (Kd.int IntKind.i64 :: [].append (Kd.int IntKind.i64 :: [].append (Kd.int IntKind.i64 :: [].append [])))
                [cell p43 0, cell p43 1, cell p43 2] =
              true then
        if (!peqL [cell p42 0, cell p42 1, cell p42 2] [cell p43 0, cell p43 1, cell p43 2]) = true then
          some (PV.bool false)
        else
          rec41
            (IntKind.i64.wrap (s40.fst + 1), s40.snd.fst, s40.snd.snd.fst, s40.snd.snd.snd.fst, s40.snd.snd.snd.snd.fst,
              s40.snd.snd.snd.snd.snd.fst, s40.snd.snd.snd.snd.snd.snd.fst, s40.snd.snd.snd.snd.snd.snd.snd.fst,
              s40.snd.snd.snd.snd.snd.snd.snd.snd.fst, s40.snd.snd.snd.snd.snd.snd.snd.snd.snd.fst,
              s40.snd.snd.snd.snd.snd.snd.snd.snd.snd.snd.fst, s40.snd.snd.snd.snd.snd.snd.snd.snd.snd.snd.snd.fst,
              s40.snd.snd.snd.snd.snd.snd.snd.snd.snd.snd.snd.snd.fst,
              s40.snd.snd.snd.snd.snd.snd.snd.snd.snd.snd.snd.snd.snd.fst,
              s40.snd.snd.snd.snd.snd.snd.snd.snd.snd.snd.snd.snd.snd.snd.fst,
              s40.snd.snd.snd.snd.snd.snd.snd.snd.snd.snd.snd.snd.snd.snd.snd.fst,
              s40.snd.snd.snd.snd.snd.snd.snd.snd.snd.snd.snd.snd.snd.snd.snd.snd.fst,
              s40.snd.snd.snd.snd.snd.snd.snd.snd.snd.snd.snd.snd.snd.snd.snd.snd.snd.fst,
              s40.snd.snd.snd.snd.snd.snd.snd.snd.snd.snd.snd.snd.snd.snd.snd.snd.snd.snd.fst,
              s40.snd.snd.snd.snd.snd.snd.snd.snd.snd.snd.snd.snd.snd.snd.snd.snd.snd.snd.snd.fst,
              s40.snd.snd.snd.snd.snd.snd.snd.snd.snd.snd.snd.snd.snd.snd.snd.snd.snd.snd.snd.snd.fst,
              s40.snd.snd.snd.snd.snd.snd.snd.snd.snd.snd.snd.snd.snd.snd.snd.snd.snd.snd.snd.snd.snd.fst,
              s40.snd.snd.snd.snd.snd.snd.snd.snd.snd.snd.snd.snd.snd.snd.snd.snd.snd.snd.snd.snd.snd.snd.fst,
              s40.snd.snd.snd.snd.snd.snd.snd.snd.snd.snd.snd.snd.snd.snd.snd.snd.snd.snd.snd.snd.snd.snd.snd.fst,
              s40.snd.snd.snd.snd.snd.snd.snd.snd.snd.snd.snd.snd.snd.snd.snd.snd.snd.snd.snd.snd.snd.snd.snd.snd.fst,
              s40.snd.snd.snd.snd.snd.snd.snd.snd.snd.snd.snd.snd.snd.snd.snd.snd.snd.snd.snd.snd.snd.snd.snd.snd.snd.fst,
              s40.snd.snd.snd.snd.snd.snd.snd.snd.snd.snd.snd.snd.snd.snd.snd.snd.snd.snd.snd.snd.snd.snd.snd.snd.snd.snd.fst,
              ())
      else none
else
  L.run (ref22_tails_L2 L)
    (0, s40.snd.fst, s40.snd.snd.fst, s40.snd.snd.snd.fst, s40.snd.snd.snd.snd.fst, s40.snd.snd.snd.snd.snd.fst,
      s40.snd.snd.snd.snd.snd.snd.fst, s40.snd.snd.snd.snd.snd.snd.snd.fst, s40.snd.snd.snd.snd.snd.snd.snd.snd.fst,
      s40.snd.snd.snd.snd.snd.snd.snd.snd.snd.fst, s40.snd.snd.snd.snd.snd.snd.snd.snd.snd.snd.fst,
      s40.snd.snd.snd.snd.snd.snd.snd.snd.snd.snd.snd.fst, s40.snd.snd.snd.snd.snd.snd.snd.snd.snd.snd.snd.snd.fst,
      s40.snd.snd.snd.snd.snd.snd.snd.snd.snd.snd.snd.snd.snd.fst,
      s40.snd.snd.snd.snd.snd.snd.snd.snd.snd.snd.snd.snd.snd.snd.fst,
      s40.snd.snd.snd.snd.snd.snd.snd.snd.snd.snd.snd.snd.snd.snd.snd.fst,
      s40.snd.snd.snd.snd.snd.snd.snd.snd.snd.snd.snd.snd.snd.snd.snd.snd.fst,
      s40.snd.snd.snd.snd.snd.snd.snd.snd.snd.snd.snd.snd.snd.snd.snd.snd.snd.fst,
      s40.snd.snd.snd.snd.snd.snd.snd.snd.snd.snd.snd.snd.snd.snd.snd.snd.snd.snd.fst,
      s40.snd.snd.snd.snd.snd.snd.snd.snd.snd.snd.snd.snd.snd.snd.snd.snd.snd.snd.snd.fst,
      s40.snd.snd.snd.snd.snd.snd.snd.snd.snd.snd.snd.snd.snd.snd.snd.snd.snd.snd.snd.snd.fst,
      s40.snd.snd.snd.snd.snd.snd.snd.snd.snd.snd.snd.snd.snd.snd.snd.snd.snd.snd.snd.snd.snd.fst,
      s40.snd.snd.snd.snd.snd.snd.snd.snd.snd.snd.snd.snd.snd.snd.snd.snd.snd.snd.snd.snd.snd.snd.fst,
      s40.snd.snd.snd.snd.snd.snd.snd.snd.snd.snd.snd.snd.snd.snd.snd.snd.snd.snd.snd.snd.snd.snd.snd.fst,
      s40.snd.snd.snd.snd.snd.snd.snd.snd.snd.snd.snd.snd.snd.snd.snd.snd.snd.snd.snd.snd.snd.snd.snd.snd.fst,
      s40.snd.snd.snd.snd.snd.snd.snd.snd.snd.snd.snd.snd.snd.snd.snd.snd.snd.snd.snd.snd.snd.snd.snd.snd.snd.fst,
      s40.snd.snd.snd.snd.snd.snd.snd.snd.snd.snd.snd.snd.snd.snd.snd.snd.snd.snd.snd.snd.snd.snd.snd.snd.snd.snd.fst,
      ())
def ref22_tails_L4 (L : Lps) : (Int ×
  List PV ×
    List PV ×
      List PV ×
        List PV ×
          List PV ×
            List PV ×
              List PV ×
                List PV ×
                  List PV ×
                    List PV ×
                      Int ×
                        Int ×
                          Int ×
                            List PV ×
                              List PV ×
                                List PV ×
                                  List PV ×
                                    List PV × List PV × List PV × List PV × List PV × List PV × Int × Int × Int × Unit) → (Int ×
    List PV ×
      List PV ×
        List PV ×
          List PV ×
            List PV ×
              List PV ×
                List PV ×
                  List PV ×
                    List PV ×
                      List PV ×
                        Int ×
                          Int ×
                            Int ×
                              List PV ×
                                List PV ×
                                  List PV ×
                                    List PV ×
                                      List PV ×
                                        List PV × List PV × List PV × List PV × List PV × Int × Int × Int × Unit →
  Option PV) → Option PV := fun s36 rec37 =>
  if decide (s36.fst < (↑s36.snd.snd.snd.snd.snd.snd.snd.fst.length : Int)) = true then
  (idxP s36.snd.snd.snd.snd.snd.snd.snd.fst s36.fst).bind fun p38 =>
    (idxP s36.snd.snd.snd.snd.snd.snd.snd.snd.snd.snd.snd.snd.snd.snd.snd.snd.snd.snd.snd.snd.fst s36.fst).bind
      fun p39 =>
      if
          chk (Kd.int IntKind.i64 :: [].append (Kd.int IntKind.i64 :: [].append [])) [cell p38 0, cell p38 1] = true ∧
            chk (Kd.int IntKind.i64 :: [].append (Kd.int IntKind.i64 :: [].append [])) [cell p39 0, cell p39 1] =
              true then
        if (!peqL [cell p38 0, cell p38 1] [cell p39 0, cell p39 1]) = true then some (PV.bool false)
        else
          rec37
            (IntKind.i64.wrap (s36.fst + 1), s36.snd.fst, s36.snd.snd.fst, s36.snd.snd.snd.fst, s36.snd.snd.snd.snd.fst,
              s36.snd.snd.snd.snd.snd.fst, s36.snd.snd.snd.snd.snd.snd.fst, s36.snd.snd.snd.snd.snd.snd.snd.fst,
              s36.snd.snd.snd.snd.snd.snd.snd.snd.fst, s36.snd.snd.snd.snd.snd.snd.snd.snd.snd.fst,
              s36.snd.snd.snd.snd.snd.snd.snd.snd.snd.snd.fst, s36.snd.snd.snd.snd.snd.snd.snd.snd.snd.snd.snd.fst,
              s36.snd.snd.snd.snd.snd.snd.snd.snd.snd.snd.snd.snd.fst,
              s36.snd.snd.snd.snd.snd.snd.snd.snd.snd.snd.snd.snd.snd.fst,
              s36.snd.snd.snd.snd.snd.snd.snd.snd.snd.snd.snd.snd.snd.snd.fst,
              s36.snd.snd.snd.snd.snd.snd.snd.snd.snd.snd.snd.snd.snd.snd.snd.fst,
              s36.snd.snd.snd.snd.snd.snd.snd.snd.snd.snd.snd.snd.snd.snd.snd.snd.fst,
              s36.snd.snd.snd.snd.snd.snd.snd.snd.snd.snd.snd.snd.snd.snd.snd.snd.snd.fst,
              s36.snd.snd.snd.snd.snd.snd.snd.snd.snd.snd.snd.snd.snd.snd.snd.snd.snd.snd.fst,
              s36.snd.snd.snd.snd.snd.snd.snd.snd.snd.snd.snd.snd.snd.snd.snd.snd.snd.snd.snd.fst,
              s36.snd.snd.snd.snd.snd.snd.snd.snd.snd.snd.snd.snd.snd.snd.snd.snd.snd.snd.snd.snd.fst,
              s36.snd.snd.snd.snd.snd.snd.snd.snd.snd.snd.snd.snd.snd.snd.snd.snd.snd.snd.snd.snd.snd.fst,
              s36.snd.snd.snd.snd.snd.snd.snd.snd.snd.snd.snd.snd.snd.snd.snd.snd.snd.snd.snd.snd.snd.snd.fst,
              s36.snd.snd.snd.snd.snd.snd.snd.snd.snd.snd.snd.snd.snd.snd.snd.snd.snd.snd.snd.snd.snd.snd.snd.fst,
              s36.snd.snd.snd.snd.snd.snd.snd.snd.snd.snd.snd.snd.snd.snd.snd.snd.snd.snd.snd.snd.snd.snd.snd.snd.fst,
              s36.snd.snd.snd.snd.snd.snd.snd.snd.snd.snd.snd.snd.snd.snd.snd.snd.snd.snd.snd.snd.snd.snd.snd.snd.snd.fst,
              s36.snd.snd.snd.snd.snd.snd.snd.snd.snd.snd.snd.snd.snd.snd.snd.snd.snd.snd.snd.snd.snd.snd.snd.snd.snd.snd.fst,
              ())
      else none
else
  L.run (ref22_tails_L3 L)
    (0, s36.snd.fst, s36.snd.snd.fst, s36.snd.snd.snd.fst, s36.snd.snd.snd.snd.fst, s36.snd.snd.snd.snd.snd.fst,
      s36.snd.snd.snd.snd.snd.snd.fst, s36.snd.snd.snd.snd.snd.snd.snd.fst, s36.snd.snd.snd.snd.snd.snd.snd.snd.fst,
      s36.snd.snd.snd.snd.snd.snd.snd.snd.snd.fst, s36.snd.snd.snd.snd.snd.snd.snd.snd.snd.snd.fst,
      s36.snd.snd.snd.snd.snd.snd.snd.snd.snd.snd.snd.fst, s36.snd.snd.snd.snd.snd.snd.snd.snd.snd.snd.snd.snd.fst,
      s36.snd.snd.snd.snd.snd.snd.snd.snd.snd.snd.snd.snd.snd.fst,
      s36.snd.snd.snd.snd.snd.snd.snd.snd.snd.snd.snd.snd.snd.snd.fst,
      s36.snd.snd.snd.snd.snd.snd.snd.snd.snd.snd.snd.snd.snd.snd.snd.fst,
      s36.snd.snd.snd.snd.snd.snd.snd.snd.snd.snd.snd.snd.snd.snd.snd.snd.fst,
      s36.snd.snd.snd.snd.snd.snd.snd.snd.snd.snd.snd.snd.snd.snd.snd.snd.snd.fst,
      s36.snd.snd.snd.snd.snd.snd.snd.snd.snd.snd.snd.snd.snd.snd.snd.snd.snd.snd.fst,
      s36.snd.snd.snd.snd.snd.snd.snd.snd.snd.snd.snd.snd.snd.snd.snd.snd.snd.snd.snd.fst,
      s36.snd.snd.snd.snd.snd.snd.snd.snd.snd.snd.snd.snd.snd.snd.snd.snd.snd.snd.snd.snd.fst,
      s36.snd.snd.snd.snd.snd.snd.snd.snd.snd.snd.snd.snd.snd.snd.snd.snd.snd.snd.snd.snd.snd.fst,
      s36.snd.snd.snd.snd.snd.snd.snd.snd.snd.snd.snd.snd.snd.snd.snd.snd.snd.snd.snd.snd.snd.snd.fst,
      s36.snd.snd.snd.snd.snd.snd.snd.snd.snd.snd.snd.snd.snd.snd.snd.snd.snd.snd.snd.snd.snd.snd.snd.fst,
      s36.snd.snd.snd.snd.snd.snd.snd.snd.snd.snd.snd.snd.snd.snd.snd.snd.snd.snd.snd.snd.snd.snd.snd.snd.fst,
      s36.snd.snd.snd.snd.snd.snd.snd.snd.snd.snd.snd.snd.snd.snd.snd.snd.snd.snd.snd.snd.snd.snd.snd.snd.snd.fst,
      s36.snd.snd.snd.snd.snd.snd.snd.snd.snd.snd.snd.snd.snd.snd.snd.snd.snd.snd.snd.snd.snd.snd.snd.snd.snd.snd.fst,
      ())
def ref22_tails_L5 (L : Lps) : (Int ×
  List PV ×
    List PV ×
      List PV ×
        List PV ×
          List PV ×
            List PV ×
              List PV ×
                List PV ×
                  List PV ×
                    List PV ×
                      Int ×
                        Int ×
                          Int ×
                            List PV ×
                              List PV ×
                                List PV ×
                                  List PV ×
                                    List PV × List PV × List PV × List PV × List PV × List PV × Int × Int × Int × Unit) → (Int ×
    List PV ×
      List PV ×
        List PV ×
          List PV ×
            List PV ×
              List PV ×
                List PV ×
                  List PV ×
                    List PV ×
                      List PV ×
                        Int ×
                          Int ×
                            Int ×
                              List PV ×
                                List PV ×
                                  List PV ×
                                    List PV ×
                                      List PV ×
                                        List PV × List PV × List PV × List PV × List PV × Int × Int × Int × Unit →
  Option PV) → Option PV := fun s32 rec33 =>
  if decide (s32.fst < (↑s32.snd.snd.snd.snd.snd.snd.fst.length : Int)) = true then
  (idxP s32.snd.snd.snd.snd.snd.snd.fst s32.fst).bind fun p34 =>
    (idxP s32.snd.snd.snd.snd.snd.snd.snd.snd.snd.snd.snd.snd.snd.snd.snd.snd.snd.snd.snd.fst s32.fst).bind fun p35 =>
      if
          chk
                (Kd.int IntKind.i64 ::
                  [].append
                    (Kd.int IntKind.i64 ::
                      [].append (Kd.int IntKind.i64 :: [].append (Kd.int IntKind.i64 :: [].append []))))
                [cell p34 0, cell p34 1, cell p34 2, cell p34 3] =
              true ∧
            chk
                (Kd.int IntKind.i64 ::
                  [].append
                    (Kd.int IntKind.i64 ::
                      [].append (Kd.int IntKind.i64 :: [].append (Kd.int IntKind.i64 :: [].append []))))
                [cell p35 0, cell p35 1, cell p35 2, cell p35 3] =
              true then
        if
            (!peqL [cell p34 0, cell p34 1, cell p34 2, cell p34 3] [cell p35 0, cell p35 1, cell p35 2, cell p35 3]) =
              true then
          some (PV.bool false)
        else
          rec33
            (IntKind.i64.wrap (s32.fst + 1), s32.snd.fst, s32.snd.snd.fst, s32.snd.snd.snd.fst, s32.snd.snd.snd.snd.fst,
              s32.snd.snd.snd.snd.snd.fst, s32.snd.snd.snd.snd.snd.snd.fst, s32.snd.snd.snd.snd.snd.snd.snd.fst,
              s32.snd.snd.snd.snd.snd.snd.snd.snd.fst, s32.snd.snd.snd.snd.snd.snd.snd.snd.snd.fst,
              s32.snd.snd.snd.snd.snd.snd.snd.snd.snd.snd.fst, s32.snd.snd.snd.snd.snd.snd.snd.snd.snd.snd.snd.fst,
              s32.snd.snd.snd.snd.snd.snd.snd.snd.snd.snd.snd.snd.fst,
              s32.snd.snd.snd.snd.snd.snd.snd.snd.snd.snd.snd.snd.snd.fst,
              s32.snd.snd.snd.snd.snd.snd.snd.snd.snd.snd.snd.snd.snd.snd.fst,
              s32.snd.snd.snd.snd.snd.snd.snd.snd.snd.snd.snd.snd.snd.snd.snd.fst,
              s32.snd.snd.snd.snd.snd.snd.snd.snd.snd.snd.snd.snd.snd.snd.snd.snd.fst,
              s32.snd.snd.snd.snd.snd.snd.snd.snd.snd.snd.snd.snd.snd.snd.snd.snd.snd.fst,
              s32.snd.snd.snd.snd.snd.snd.snd.snd.snd.snd.snd.snd.snd.snd.snd.snd.snd.snd.fst,
              s32.snd.snd.snd.snd.snd.snd.snd.snd.snd.snd.snd.snd.snd.snd.snd.snd.snd.snd.snd.fst,
              s32.snd.snd.snd.snd.snd.snd.snd.snd.snd.snd.snd.snd.snd.snd.snd.snd.snd.snd.snd.snd.fst,
              s32.snd.snd.snd.snd.snd.snd.snd.snd.snd.snd.snd.snd.snd.snd.snd.snd.snd.snd.snd.snd.snd.fst,
              s32.snd.snd.snd.snd.snd.snd.snd.snd.snd.snd.snd.snd.snd.snd.snd.snd.snd.snd.snd.snd.snd.snd.fst,
              s32.snd.snd.snd.snd.snd.snd.snd.snd.snd.snd.snd.snd.snd.snd.snd.snd.snd.snd.snd.snd.snd.snd.snd.fst,
              s32.snd.snd.snd.snd.snd.snd.snd.snd.snd.snd.snd.snd.snd.snd.snd.snd.snd.snd.snd.snd.snd.snd.snd.snd.fst,
              s32.snd.snd.snd.snd.snd.snd.snd.snd.snd.snd.snd.snd.snd.snd.snd.snd.snd.snd.snd.snd.snd.snd.snd.snd.snd.fst,
              s32.snd.snd.snd.snd.snd.snd.snd.snd.snd.snd.snd.snd.snd.snd.snd.snd.snd.snd.snd.snd.snd.snd.snd.snd.snd.snd.fst,
              ())
      else none
else
  L.run (ref22_tails_L4 L)
    (0, s32.snd.fst, s32.snd.snd.fst, s32.snd.snd.snd.fst, s32.snd.snd.snd.snd.fst, s32.snd.snd.snd.snd.snd.fst,
      s32.snd.snd.snd.snd.snd.snd.fst, s32.snd.snd.snd.snd.snd.snd.snd.fst, s32.snd.snd.snd.snd.snd.snd.snd.snd.fst,
      s32.snd.snd.snd.snd.snd.snd.snd.snd.snd.fst, s32.snd.snd.snd.snd.snd.snd.snd.snd.snd.snd.fst,
      s32.snd.snd.snd.snd.snd.snd.snd.snd.snd.snd.snd.fst, s32.snd.snd.snd.snd.snd.snd.snd.snd.snd.snd.snd.snd.fst,
      s32.snd.snd.snd.snd.snd.snd.snd.snd.snd.snd.snd.snd.snd.fst,
      s32.snd.snd.snd.snd.snd.snd.snd.snd.snd.snd.snd.snd.snd.snd.fst,
      s32.snd.snd.snd.snd.snd.snd.snd.snd.snd.snd.snd.snd.snd.snd.snd.fst,
      s32.snd.snd.snd.snd.snd.snd.snd.snd.snd.snd.snd.snd.snd.snd.snd.snd.fst,
      s32.snd.snd.snd.snd.snd.snd.snd.snd.snd.snd.snd.snd.snd.snd.snd.snd.snd.fst,
      s32.snd.snd.snd.snd.snd.snd.snd.snd.snd.snd.snd.snd.snd.snd.snd.snd.snd.snd.fst,
      s32.snd.snd.snd.snd.snd.snd.snd.snd.snd.snd.snd.snd.snd.snd.snd.snd.snd.snd.snd.fst,
      s32.snd.snd.snd.snd.snd.snd.snd.snd.snd.snd.snd.snd.snd.snd.snd.snd.snd.snd.snd.snd.fst,
      s32.snd.snd.snd.snd.snd.snd.snd.snd.snd.snd.snd.snd.snd.snd.snd.snd.snd.snd.snd.snd.snd.fst,
      s32.snd.snd.snd.snd.snd.snd.snd.snd.snd.snd.snd.snd.snd.snd.snd.snd.snd.snd.snd.snd.snd.snd.fst,
      s32.snd.snd.snd.snd.snd.snd.snd.snd.snd.snd.snd.snd.snd.snd.snd.snd.snd.snd.snd.snd.snd.snd.snd.fst,
      s32.snd.snd.snd.snd.snd.snd.snd.snd.snd.snd.snd.snd.snd.snd.snd.snd.snd.snd.snd.snd.snd.snd.snd.snd.fst,
      s32.snd.snd.snd.snd.snd.snd.snd.snd.snd.snd.snd.snd.snd.snd.snd.snd.snd.snd.snd.snd.snd.snd.snd.snd.snd.fst,
      s32.snd.snd.snd.snd.snd.snd.snd.snd.snd.snd.snd.snd.snd.snd.snd.snd.snd.snd.snd.snd.snd.snd.snd.snd.snd.snd.fst,
      ())
def ref22_tails (L : Lps) (p0 : PV) (p1 : PV) : Option PV :=
  (Ab.asAgg 13 p0).bind fun x0 =>
  (asSl 4 (cell p0 0)).bind fun es1 =>
    (asSl 3 (cell p0 1)).bind fun es2 =>
      (asSl 10 (cell p0 2)).bind fun es3 =>
        (asSl 3 (cell p0 3)).bind fun es4 =>
          (asSl 5 (cell p0 4)).bind fun es5 =>
            (asSl 4 (cell p0 5)).bind fun es6 =>
              (asSl 2 (cell p0 6)).bind fun es7 =>
                (asSl 3 (cell p0 7)).bind fun es8 =>
                  (asSl 4 (cell p0 8)).bind fun es9 =>
                    (asSl 6 (cell p0 9)).bind fun es10 =>
                      (Ab.asInt IntKind.i64 (cell p0 10)).bind fun n11 =>
                        (Ab.asInt IntKind.i64 (cell p0 11)).bind fun n12 =>
                          (Ab.asInt IntKind.i64 (cell p0 12)).bind fun n13 =>
                            (Ab.asAgg 13 p1).bind fun x14 =>
                              (asSl 4 (cell p1 0)).bind fun es15 =>
                                (asSl 3 (cell p1 1)).bind fun es16 =>
                                  (asSl 10 (cell p1 2)).bind fun es17 =>
                                    (asSl 3 (cell p1 3)).bind fun es18 =>
                                      (asSl 5 (cell p1 4)).bind fun es19 =>
                                        (asSl 4 (cell p1 5)).bind fun es20 =>
                                          (asSl 2 (cell p1 6)).bind fun es21 =>
                                            (asSl 3 (cell p1 7)).bind fun es22 =>
                                              (asSl 4 (cell p1 8)).bind fun es23 =>
                                                (asSl 6 (cell p1 9)).bind fun es24 =>
                                                  (Ab.asInt IntKind.i64 (cell p1 10)).bind fun n25 =>
                                                    (Ab.asInt IntKind.i64 (cell p1 11)).bind fun n26 =>
                                                      (Ab.asInt IntKind.i64 (cell p1 12)).bind fun n27 =>
                                                        (bif (↑es6.length : Int) != (↑es20.length : Int) then some true
                                                            else
                                                              some ((↑es7.length : Int) != (↑es21.length : Int))).bind
                                                          fun r28 =>
                                                          (bif r28 then some true
                                                              else
                                                                some ((↑es8.length : Int) != (↑es22.length : Int))).bind
                                                            fun r29 =>
                                                            (bif r29 then some true
                                                                else
                                                                  some
                                                                    ((↑es9.length : Int) != (↑es23.length : Int))).bind
                                                              fun r30 =>
                                                              (bif r30 then some true
                                                                  else
                                                                    some
                                                                      ((↑es10.length : Int) !=
                                                                        (↑es24.length : Int))).bind
                                                                fun r31 =>
                                                                if r31 = true then some (PV.bool false)
                                                                else
                                                                  L.run (ref22_tails_L5 L)
                                                                    (0, es1, es2, es3, es4, es5, es6, es7, es8, es9,
                                                                      es10, n11, n12, n13, es15, es16, es17, es18, es19,
                                                                      es20, es21, es22, es23, es24, n25, n26, n27, ())
def ref22_tails_M : List PV → Option PV
  | [p0, p1] => ref22_tails lpS p0 p1
  | _ => none
end Go.Ab
