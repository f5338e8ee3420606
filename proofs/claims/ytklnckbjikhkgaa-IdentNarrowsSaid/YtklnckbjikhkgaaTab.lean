/- The table of the functions of this seat: shapes of loop heads, and what is known of each function. Printed by a program of the author. -/
import Derived.Test.YtklnckbjikhkgaaProg
import Derived.Test.YtklnckbjikhkgaaAbSeat
import Derived.Test.YtklnckbjikhkgaaSh1
import Derived.KernelRfl
namespace Go.Proofs.Ytklnckbjikhkgaa
open Go.Ab
set_option maxRecDepth 100000
def tpl_12_2_0 : Tpl := { slots := [(0, Sh.str), (3, Sh.int IntKind.i64)], blks := [] }
def tpl_28_5_0 : Tpl := { slots := [(0, Sh.rp 3), (1, Sh.str), (5, Sh.own (V.os 114693)), (13, Sh.rs 1), (14, Sh.int IntKind.i64), (15, Sh.int IntKind.i64)], blks := [(114693, BSh.arr 1 3)] }
def tpl_302026784_3_0 : Tpl := { slots := [(5, Sh.own (V.om 1237101707276)), (13, Sh.rs 1), (14, Sh.int IntKind.i64), (15, Sh.int IntKind.i64)], blks := [(1237101707276, BSh.map 9)] }
def tpl_25_4_0 : Tpl := { slots := [(0, Sh.rs 1), (1, Sh.rs 1), (5, Sh.int IntKind.i64)], blks := [] }
def tpl_3942436866932768_3_0 : Tpl := { slots := [(5, Sh.own (V.om 16148221406956617740)), (13, Sh.own (V.os 57369)), (14, Sh.int IntKind.i64), (15, Sh.int IntKind.i64), (37, Sh.own (V.os 57369)), (89, Sh.int IntKind.i64), (90, Sh.int IntKind.i64), (91, Sh.int IntKind.i64), (92, Sh.int IntKind.i64)], blks := [(16148221406956617740, BSh.map 9), (57369, BSh.arr 1 9)] }
def tpl_234987549_6_0 : Tpl := { slots := [(8, Sh.own (V.op 962509000712 0)), (29, Sh.int IntKind.i64), (30, Sh.int IntKind.i64), (52, Sh.int IntKind.i64), (53, Sh.int IntKind.i64), (54, Sh.int IntKind.i64), (55, Sh.int IntKind.i64)], blks := [(962509000712, BSh.box [Sh.own (V.op 962509000728 0)]), (962509000728, BSh.box [Sh.own (V.os 962509000725), Sh.own (V.om 16148221406956617740), Sh.own (V.os 4820814132776970826625886277023487807566608981349341014904856)]), (962509000725, BSh.arr 1 9), (16148221406956617740, BSh.map 9), (4820814132776970826625886277023487807566608981349341014904856, BSh.arr 1 3)] }
def tpl_13_4_0 : Tpl := { slots := [(0, Sh.str), (3, Sh.int IntKind.i64)], blks := [] }
def tpl_16_2_0 : Tpl := { slots := [(0, Sh.str), (1, Sh.str), (5, Sh.int IntKind.i64)], blks := [] }
def tpl_17_4_0 : Tpl := { slots := [(0, Sh.rs 1), (3, Sh.int IntKind.i64)], blks := [] }
def tpl_22_2_0 : Tpl := { slots := [(0, Sh.rs 1), (1, Sh.str), (5, Sh.int IntKind.i64)], blks := [] }
def tpl_19_2_0 : Tpl := { slots := [(0, Sh.rs 1), (4, Sh.int IntKind.i64)], blks := [] }
def tpl_28363027565432574885920_3_0 : Tpl := { slots := [(5, Sh.own (V.om 116174960908011826732728332)), (13, Sh.own (V.os 412736372740)), (14, Sh.int IntKind.i64), (15, Sh.int IntKind.i64), (37, Sh.own (V.os 412736372740)), (88, Sh.rs 1), (92, Sh.own (V.os 412736372740)), (138, Sh.rs 1), (139, Sh.str), (140, Sh.int IntKind.i64)], blks := [(116174960908011826732728332, BSh.map 9), (412736372740, BSh.arr 1 9)] }
def tpl_100765716_6_0 : Tpl := { slots := [(4, Sh.own (V.os 412736372740)), (5, Sh.own (V.pv PV.nilp)), (6, Sh.int IntKind.i64), (7, Sh.int IntKind.i64), (8, Sh.int IntKind.i64), (9, Sh.int IntKind.i64), (10, Sh.int IntKind.i64), (50, Sh.rs 1), (51, Sh.str), (52, Sh.int IntKind.i64)], blks := [(412736372740, BSh.arr 1 9)] }
def tpl_1690568182792221_6_0 : Tpl := { slots := [(8, Sh.own (V.op 6924567276716937224 0)), (29, Sh.int IntKind.i64), (30, Sh.int IntKind.i64), (51, Sh.rs 1), (55, Sh.own (V.os 412736372740)), (101, Sh.rs 1), (102, Sh.str), (103, Sh.int IntKind.i64)], blks := [(6924567276716937224, BSh.box [Sh.own (V.op 6924567276716937240 0)]), (412736372740, BSh.arr 1 9), (6924567276716937240, BSh.box [Sh.own (V.os 6924567276716937237), Sh.own (V.om 116174960908011826732728332), Sh.own (V.os 4820814132776970826625886277023487807566615905915655222841368)]), (6924567276716937237, BSh.arr 1 9), (116174960908011826732728332, BSh.map 9), (4820814132776970826625886277023487807566615905915655222841368, BSh.arr 1 3)] }
def tpl_100765716_6_1 : Tpl := { slots := [(4, Sh.own (V.os 412736372740)), (5, Sh.own (V.op 6924567276716937240 0)), (6, Sh.int IntKind.i64), (7, Sh.int IntKind.i64), (8, Sh.int IntKind.i64), (9, Sh.int IntKind.i64), (10, Sh.int IntKind.i64), (50, Sh.rs 1), (51, Sh.str), (52, Sh.int IntKind.i64)], blks := [(412736372740, BSh.arr 1 9), (6924567276716937240, BSh.box [Sh.own (V.os 6924567276716937237), Sh.own (V.om 116174960908011826732728332), Sh.own (V.os 4820814132776970826625886277023487807566615905915655222841368)]), (6924567276716937237, BSh.arr 1 9), (116174960908011826732728332, BSh.map 9), (4820814132776970826625886277023487807566615905915655222841368, BSh.arr 1 3)] }
def tpl_27_3_0 : Tpl := { slots := [(0, Sh.rs 1), (1, Sh.str), (5, Sh.rs 1), (6, Sh.int IntKind.i64)], blks := [], fz := [(5, 1)] }
def tpl_27_7_0 : Tpl := { slots := [(0, Sh.rs 1), (1, Sh.str), (5, Sh.rs 1), (6, Sh.int IntKind.i64), (7, Sh.int IntKind.i64)], blks := [], fz := [(5, 1)] }
def tpl_33077323597769972170784_3_0 : Tpl := { slots := [(5, Sh.own (V.om 135484717456465806011531276)), (13, Sh.own (V.os 481338408964)), (14, Sh.int IntKind.i64), (15, Sh.int IntKind.i64), (37, Sh.own (V.os 481338408964)), (88, Sh.rs 1), (92, Sh.own (V.os 481338408964)), (138, Sh.rs 1), (139, Sh.str)], blks := [(135484717456465806011531276, BSh.map 9), (481338408964, BSh.arr 1 9)] }
def tpl_117514260_6_0 : Tpl := { slots := [(4, Sh.own (V.os 481338408964)), (5, Sh.own (V.pv PV.nilp)), (6, Sh.int IntKind.i64), (7, Sh.int IntKind.i64), (8, Sh.int IntKind.i64), (9, Sh.int IntKind.i64), (10, Sh.int IntKind.i64), (50, Sh.rs 1), (51, Sh.str)], blks := [(481338408964, BSh.arr 1 9)] }
def tpl_1971562123165725_6_0 : Tpl := { slots := [(8, Sh.own (V.op 8075518456486809608 0)), (29, Sh.int IntKind.i64), (30, Sh.int IntKind.i64), (51, Sh.rs 1), (55, Sh.own (V.os 481338408964)), (101, Sh.rs 1), (102, Sh.str)], blks := [(8075518456486809608, BSh.box [Sh.own (V.op 8075518456486809624 0)]), (481338408964, BSh.arr 1 9), (8075518456486809624, BSh.box [Sh.own (V.os 8075518456486809621), Sh.own (V.om 135484717456465806011531276), Sh.own (V.os 4820814132776970826625886277023487807566617056866834992713752)]), (8075518456486809621, BSh.arr 1 9), (135484717456465806011531276, BSh.map 9), (4820814132776970826625886277023487807566617056866834992713752, BSh.arr 1 3)] }
def tpl_117514260_6_1 : Tpl := { slots := [(4, Sh.own (V.os 481338408964)), (5, Sh.own (V.op 8075518456486809624 0)), (6, Sh.int IntKind.i64), (7, Sh.int IntKind.i64), (8, Sh.int IntKind.i64), (9, Sh.int IntKind.i64), (10, Sh.int IntKind.i64), (50, Sh.rs 1), (51, Sh.str)], blks := [(481338408964, BSh.arr 1 9), (8075518456486809624, BSh.box [Sh.own (V.os 8075518456486809621), Sh.own (V.om 135484717456465806011531276), Sh.own (V.os 4820814132776970826625886277023487807566617056866834992713752)]), (8075518456486809621, BSh.arr 1 9), (135484717456465806011531276, BSh.map 9), (4820814132776970826625886277023487807566617056866834992713752, BSh.arr 1 3)] }
def tpl_30_2_0 : Tpl := { slots := [(0, Sh.own (V.pv PV.nilp)), (1, Sh.rs 1), (5, Sh.int IntKind.i64)], blks := [] }
def tpl_30_2_1 : Tpl := { slots := [(0, Sh.rp 3), (1, Sh.rs 1), (5, Sh.int IntKind.i64)], blks := [] }
def tpl_2535199422332960_3_0 : Tpl := { slots := [(5, Sh.own (V.om 10384176833875804172)), (13, Sh.rs 1), (14, Sh.int IntKind.i64), (15, Sh.int IntKind.i64), (37, Sh.rs 1), (88, Sh.rs 1), (89, Sh.str)], blks := [(10384176833875804172, BSh.map 9)] }
def tpl_151109661_6_0 : Tpl := { slots := [(8, Sh.own (V.op 618945171464 0)), (29, Sh.int IntKind.i64), (30, Sh.int IntKind.i64), (51, Sh.rs 1), (52, Sh.str)], blks := [(618945171464, BSh.box [Sh.own (V.op 618945171480 0)]), (618945171480, BSh.box [Sh.own (V.os 618945171477), Sh.own (V.om 10384176833875804172), Sh.own (V.os 4820814132776970826625886277023487807566608981348997451075608)]), (618945171477, BSh.arr 1 9), (10384176833875804172, BSh.map 9), (4820814132776970826625886277023487807566608981348997451075608, BSh.arr 1 3)] }
def tpl_9_7_0 : Tpl := { slots := [(0, Sh.rs 1), (1, Sh.str), (5, Sh.own (V.op 618945171480 0)), (8, Sh.int IntKind.i64)], blks := [(618945171480, BSh.box [Sh.own (V.os 618945171477), Sh.own (V.om 10384176833875804172), Sh.own (V.os 4820814132776970826625886277023487807566608981348997451075608)]), (618945171477, BSh.arr 1 9), (10384176833875804172, BSh.map 9), (4820814132776970826625886277023487807566608981348997451075608, BSh.arr 1 3)] }
def tpl_31_2_0 : Tpl := { slots := [(0, Sh.rs 1), (1, Sh.rs 1), (5, Sh.int IntKind.i64)], blks := [] }
def tpl_3098011936800800_3_0 : Tpl := { slots := [(5, Sh.own (V.om 12689456893136076812)), (13, Sh.rs 1), (14, Sh.int IntKind.i64), (15, Sh.int IntKind.i64), (37, Sh.rs 1), (89, Sh.str), (90, Sh.str)], blks := [(12689456893136076812, BSh.map 9)] }
def tpl_184655901_6_0 : Tpl := { slots := [(8, Sh.own (V.op 756350570504 0)), (29, Sh.int IntKind.i64), (30, Sh.int IntKind.i64), (52, Sh.str), (53, Sh.str)], blks := [(756350570504, BSh.box [Sh.own (V.op 756350570520 0)]), (756350570520, BSh.box [Sh.own (V.os 756350570517), Sh.own (V.om 12689456893136076812), Sh.own (V.os 4820814132776970826625886277023487807566608981349134856474648)]), (756350570517, BSh.arr 1 9), (12689456893136076812, BSh.map 9), (4820814132776970826625886277023487807566608981349134856474648, BSh.arr 1 3)] }
def hints (f k : Nat) : List Tpl :=
  bif Nat.beq f 12 then (bif Nat.beq k 2 then [tpl_12_2_0] else []) else
  bif Nat.beq f 28 then (bif Nat.beq k 5 then [tpl_28_5_0] else []) else
  bif Nat.beq f 302026784 then (bif Nat.beq k 3 then [tpl_302026784_3_0] else []) else
  bif Nat.beq f 25 then (bif Nat.beq k 4 then [tpl_25_4_0] else []) else
  bif Nat.beq f 3942436866932768 then (bif Nat.beq k 3 then [tpl_3942436866932768_3_0] else []) else
  bif Nat.beq f 234987549 then (bif Nat.beq k 6 then [tpl_234987549_6_0] else []) else
  bif Nat.beq f 13 then (bif Nat.beq k 4 then [tpl_13_4_0] else []) else
  bif Nat.beq f 16 then (bif Nat.beq k 2 then [tpl_16_2_0] else []) else
  bif Nat.beq f 17 then (bif Nat.beq k 4 then [tpl_17_4_0] else []) else
  bif Nat.beq f 22 then (bif Nat.beq k 2 then [tpl_22_2_0] else []) else
  bif Nat.beq f 19 then (bif Nat.beq k 2 then [tpl_19_2_0] else []) else
  bif Nat.beq f 28363027565432574885920 then (bif Nat.beq k 3 then [tpl_28363027565432574885920_3_0] else []) else
  bif Nat.beq f 100765716 then (bif Nat.beq k 6 then [tpl_100765716_6_0, tpl_100765716_6_1] else []) else
  bif Nat.beq f 1690568182792221 then (bif Nat.beq k 6 then [tpl_1690568182792221_6_0] else []) else
  bif Nat.beq f 27 then (bif Nat.beq k 3 then [tpl_27_3_0] else bif Nat.beq k 7 then [tpl_27_7_0] else []) else
  bif Nat.beq f 33077323597769972170784 then (bif Nat.beq k 3 then [tpl_33077323597769972170784_3_0] else []) else
  bif Nat.beq f 117514260 then (bif Nat.beq k 6 then [tpl_117514260_6_0, tpl_117514260_6_1] else []) else
  bif Nat.beq f 1971562123165725 then (bif Nat.beq k 6 then [tpl_1971562123165725_6_0] else []) else
  bif Nat.beq f 30 then (bif Nat.beq k 2 then [tpl_30_2_0, tpl_30_2_1] else []) else
  bif Nat.beq f 2535199422332960 then (bif Nat.beq k 3 then [tpl_2535199422332960_3_0] else []) else
  bif Nat.beq f 151109661 then (bif Nat.beq k 6 then [tpl_151109661_6_0] else []) else
  bif Nat.beq f 9 then (bif Nat.beq k 7 then [tpl_9_7_0] else []) else
  bif Nat.beq f 31 then (bif Nat.beq k 2 then [tpl_31_2_0] else []) else
  bif Nat.beq f 3098011936800800 then (bif Nat.beq k 3 then [tpl_3098011936800800_3_0] else []) else
  bif Nat.beq f 184655901 then (bif Nat.beq k 6 then [tpl_184655901_6_0] else []) else
  []
noncomputable def S0 : Seat := { P := Try.prog, glob := fun _ => none, hint := hints }
noncomputable def clo (g : Nat) : Option (List PV → Option PV) := bif Nat.beq g 38 then some ident_New_1_M else none
noncomputable def S : Seat := { P := Try.prog, glob := fun _ => none, hint := hints, hook := fun g => bif Nat.beq g 37 then some (sortHook clo) else none }
noncomputable def tab_0 : Tab := []
noncomputable def otab_0 : Tab := []
noncomputable def tab_1 : Tab := (15, ident_Compare_M) :: tab_0
noncomputable def tab_2 : Tab := (38, ident_New_1_M) :: tab_1
noncomputable def tab_3 : Tab := (12, ident_Valid_M) :: tab_2
noncomputable def tab_4 : Tab := (21, ident_Table_Find_M) :: tab_3
noncomputable def tab_5 : Tab := (24, ident_Table_Len_M) :: tab_4
noncomputable def tab_6 : Tab := (23, ident_Table_Name_M) :: tab_5
noncomputable def tab_7 : Tab := (35, strings_HasPrefix_M) :: tab_6
noncomputable def otab_1 : Tab := (28, ident_Table_Prefix_M) :: otab_0
noncomputable def otab_2 : Tab := (33, slices_Clone_int_int_M) :: otab_1
noncomputable def otab_3 : Tab := (26, ident_Table_Sorted_M) :: otab_2
noncomputable def tab_8 : Tab := (18, ident_Unique_M) :: tab_7
noncomputable def tab_9 : Tab := (25, law05_same_M) :: tab_8
noncomputable def otab_4 : Tab := (36, slices_Clone_string_string_M) :: otab_3
noncomputable def tab_10 : Tab := (14, law05_exampleHolds_M) :: tab_9
noncomputable def tab_11 : Tab := (13, ref05_Valid_M) :: tab_10
noncomputable def tab_12 : Tab := (3, law05_IdentValids_M) :: tab_11
noncomputable def tab_13 : Tab := (16, ref05_Compare_M) :: tab_12
noncomputable def tab_14 : Tab := (4, law05_IdentCompares_M) :: tab_13
noncomputable def tab_15 : Tab := (17, law05_small_M) :: tab_14
noncomputable def tab_16 : Tab := (22, ref05_Find_M) :: tab_15
noncomputable def tab_17 : Tab := (19, ref05_Unique_M) :: tab_16
noncomputable def tab_18 : Tab := (5, law05_IdentUniques_M) :: tab_17
noncomputable def tab_19 : Tab := (6, law05_IdentFinds_M) :: tab_18
noncomputable def tab_20 : Tab := (34, ref05_Begins_M) :: tab_19
noncomputable def tab_21 : Tab := (27, ref05_Prefix_M) :: tab_20
noncomputable def tab_22 : Tab := (7, law05_IdentSections_M) :: tab_21
noncomputable def tab_23 : Tab := (8, law05_IdentOrders_M) :: tab_22
noncomputable def tab_24 : Tab := (30, law05_rises_M) :: tab_23
noncomputable def tab_25 : Tab := (9, law05_IdentTable_M) :: tab_24
noncomputable def tab_26 : Tab := (10, law05_IdentNils_M) :: tab_25
noncomputable def tab_27 : Tab := (31, law05_section_M) :: tab_26
noncomputable def tab_28 : Tab := (11, law05_IdentNarrows_M) :: tab_27
end Go.Proofs.Ytklnckbjikhkgaa
