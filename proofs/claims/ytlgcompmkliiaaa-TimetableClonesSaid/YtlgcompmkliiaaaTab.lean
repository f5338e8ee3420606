/- The table of the functions of this seat: shapes of loop heads, and what is known of each function. Printed by a program of the author. -/
import Derived.Test.YtlgcompmkliiaaaProg
import Derived.Test.YtlgcompmkliiaaaAbSeat
import Derived.Test.YtlgcompmkliiaaaSh2
import Derived.KernelRfl
namespace Go.Proofs.Ytlgcompmkliiaaa
open Go.Ab
set_option maxRecDepth 100000
def tpl_65_2 : Tpl := { slots := [(0, Sh.str), (3, Sh.int IntKind.i64)], blks := [] }
def tpl_21_5 : Tpl := { slots := [(4, Sh.own (V.om 86026)), (11, Sh.rs 4), (12, Sh.int IntKind.i64), (13, Sh.int IntKind.i64)], blks := [(86026, BSh.map 9)] }
def tpl_39_7 : Tpl := { slots := [(4, Sh.own (V.om 159771)), (29, Sh.rs 6), (30, Sh.int IntKind.i64), (31, Sh.int IntKind.i64)], blks := [(159771, BSh.map 9)] }
def tpl_23_5 : Tpl := { slots := [(4, Sh.own (V.om 94218)), (11, Sh.rs 3), (12, Sh.int IntKind.i64), (13, Sh.int IntKind.i64)], blks := [(94218, BSh.map 9)] }
def tpl_25_5 : Tpl := { slots := [(4, Sh.own (V.om 102410)), (11, Sh.rs 10), (12, Sh.int IntKind.i64), (13, Sh.int IntKind.i64)], blks := [(102410, BSh.map 9)] }
def tpl_27_5 : Tpl := { slots := [(1, Sh.int IntKind.i64), (6, Sh.own (V.om 110605)), (14, Sh.rs 3), (15, Sh.int IntKind.i64), (16, Sh.int IntKind.i64)], blks := [(110605, BSh.map 112)] }
def tpl_68_4 : Tpl := { slots := [(0, Sh.rs 5), (1, Sh.int IntKind.i64), (2, Sh.int IntKind.i64), (3, Sh.int IntKind.i64), (21, Sh.int IntKind.i64), (22, Sh.int IntKind.i64)], blks := [] }
def tpl_29_5 : Tpl := { slots := [(1, Sh.int IntKind.i64), (2, Sh.int IntKind.i64), (3, Sh.int IntKind.i64), (10, Sh.own (V.om 118802)), (19, Sh.rs 5), (20, Sh.int IntKind.i64), (21, Sh.int IntKind.i64)], blks := [(118802, BSh.map 9)] }
def tpl_91_7 : Tpl := { slots := [(1, Sh.int IntKind.i64), (6, Sh.int IntKind.i64), (7, Sh.own (V.os 372759)), (29, Sh.int IntKind.i64), (30, Sh.int IntKind.i64)], blks := [(372759, BSh.arr 5 104)] }
def tpl_31_4 : Tpl := { slots := [(0, Sh.rs 4), (1, Sh.rs 5), (15, Sh.rs 4), (16, Sh.int IntKind.i64), (17, Sh.int IntKind.i64)], blks := [] }
def tpl_31_12 : Tpl := { slots := [(0, Sh.rs 4), (1, Sh.rs 5), (6, Sh.int IntKind.i64), (7, Sh.own (V.op 126983 0)), (8, Sh.int IntKind.i64), (9, Sh.bool), (15, Sh.rs 4), (16, Sh.int IntKind.i64), (17, Sh.int IntKind.i64), (51, Sh.rs 4), (52, Sh.int IntKind.i64), (53, Sh.int IntKind.i64)], blks := [(126983, BSh.box [Sh.raw, Sh.raw, Sh.raw, Sh.raw])] }
def tpl_114_2 : Tpl := { slots := [(1, Sh.int IntKind.i64), (8, Sh.rs 2), (9, Sh.int IntKind.i64), (10, Sh.int IntKind.i64)], blks := [] }
def tpl_95_3 : Tpl := { slots := [(0, Sh.rs 2), (5, Sh.own (V.os 389130)), (6, Sh.own (V.om 389131))], blks := [(389130, BSh.arr 1 3), (389131, BSh.map 3)] }
def tpl_74_2 : Tpl := { slots := [(2, Sh.int IntKind.i64), (11, Sh.rs 1), (12, Sh.int IntKind.i64), (13, Sh.int IntKind.i64)], blks := [] }
def tpl_94_2 : Tpl := { slots := [(1, Sh.int IntKind.i64), (7, Sh.rs 4), (8, Sh.int IntKind.i64), (9, Sh.int IntKind.i64)], blks := [] }
def tpl_33_5 : Tpl := { slots := [(0, Sh.rs 2), (1, Sh.rs 5), (2, Sh.rs 4), (8, Sh.own (V.om 135186)), (9, Sh.own (V.om 135187)), (20, Sh.rs 2), (21, Sh.int IntKind.i64), (22, Sh.int IntKind.i64)], blks := [(135186, BSh.map 3), (135187, BSh.map 3)] }
def tpl_96_2 : Tpl := { slots := [(1, Sh.int IntKind.i64), (7, Sh.rs 5), (8, Sh.int IntKind.i64), (9, Sh.int IntKind.i64)], blks := [] }
def tpl_97_2 : Tpl := { slots := [(0, Sh.rs 5), (1, Sh.int IntKind.i64), (7, Sh.rs 5), (8, Sh.int IntKind.i64), (9, Sh.int IntKind.i64)], blks := [] }
def tpl_35_5 : Tpl := { slots := [(1, Sh.rs 5), (2, Sh.rs 4), (3, Sh.int IntKind.i64), (10, Sh.own (V.om 143381)), (22, Sh.rs 3), (23, Sh.int IntKind.i64), (24, Sh.int IntKind.i64)], blks := [(143381, BSh.map 90)] }
def tpl_76_3 : Tpl := { slots := [(1, Sh.int IntKind.i64), (6, Sh.own (V.om 311306)), (11, Sh.rs 4), (12, Sh.int IntKind.i64), (13, Sh.int IntKind.i64)], blks := [(311306, BSh.map 144)] }
def tpl_13_3 : Tpl := { slots := [(1, Sh.own (V.op 53249 0)), (2, Sh.own (V.op 53250 0)), (3, Sh.int IntKind.i64), (7, Sh.rs 5), (8, Sh.int IntKind.i64), (9, Sh.int IntKind.i64)], blks := [(53249, BSh.box [Sh.rs 4, Sh.rs 3, Sh.rs 10, Sh.rs 3, Sh.rs 5, Sh.rs 4, Sh.rs 2, Sh.rs 3, Sh.rs 4, Sh.rs 6, Sh.int IntKind.i64, Sh.int IntKind.i64, Sh.int IntKind.i64]), (53250, BSh.box [Sh.int IntKind.i64, Sh.int IntKind.i64, Sh.int IntKind.i64, Sh.int IntKind.i64, Sh.int IntKind.i64, Sh.int IntKind.i64, Sh.int IntKind.i64, Sh.int IntKind.i64, Sh.int IntKind.i64, Sh.int IntKind.i64, Sh.int IntKind.i64])] }
def tpl_99_2 : Tpl := { slots := [(0, Sh.rs 4), (1, Sh.str), (5, Sh.int IntKind.i64)], blks := [] }
def tpl_98_4 : Tpl := { slots := [(0, Sh.str), (3, Sh.int IntKind.i64)], blks := [] }
def tpl_78_4 : Tpl := { slots := [(0, Sh.rs 4), (4, Sh.int IntKind.i64)], blks := [] }
def tpl_102_4 : Tpl := { slots := [(0, Sh.str), (3, Sh.int IntKind.i64)], blks := [] }
def tpl_80_4 : Tpl := { slots := [(0, Sh.rs 10), (4, Sh.int IntKind.i64)], blks := [] }
def tpl_80_9 : Tpl := { slots := [(0, Sh.rs 10), (4, Sh.int IntKind.i64), (5, Sh.int IntKind.i64)], blks := [] }
def tpl_81_4 : Tpl := { slots := [(0, Sh.rs 3), (1, Sh.int IntKind.i64), (6, Sh.int IntKind.i64)], blks := [] }
def tpl_81_11 : Tpl := { slots := [(0, Sh.rs 3), (1, Sh.int IntKind.i64), (6, Sh.int IntKind.i64), (7, Sh.int IntKind.i64)], blks := [] }
def tpl_100_4 : Tpl := { slots := [(0, Sh.str), (3, Sh.int IntKind.i64)], blks := [] }
def tpl_79_4 : Tpl := { slots := [(0, Sh.rs 3), (4, Sh.int IntKind.i64)], blks := [] }
def tpl_79_9 : Tpl := { slots := [(0, Sh.rs 3), (4, Sh.int IntKind.i64), (5, Sh.int IntKind.i64)], blks := [] }
def tpl_115_2 : Tpl := { slots := [(0, Sh.rs 5), (1, Sh.str), (5, Sh.int IntKind.i64)], blks := [] }
def tpl_116_4 : Tpl := { slots := [(0, Sh.rs 5), (1, Sh.int IntKind.i64), (5, Sh.int IntKind.i64)], blks := [] }
def tpl_82_4 : Tpl := { slots := [(0, Sh.rs 5), (1, Sh.int IntKind.i64), (2, Sh.int IntKind.i64), (3, Sh.int IntKind.i64), (10, Sh.int IntKind.i64)], blks := [] }
def tpl_118_6 : Tpl := { slots := [(1, Sh.int IntKind.i64), (2, Sh.own (V.op 483330 0)), (6, Sh.int IntKind.i64), (7, Sh.own (V.os 483335)), (8, Sh.int IntKind.i64)], blks := [(483330, BSh.box [Sh.str, Sh.int IntKind.i64, Sh.int IntKind.i64, Sh.bool, Sh.rs 5]), (483335, BSh.arr 5 104)] }
def tpl_117_5 : Tpl := { slots := [(1, Sh.own (V.op 479233 0)), (3, Sh.own (V.os 479235)), (4, Sh.int IntKind.i64)], blks := [(479233, BSh.box [Sh.int IntKind.i64, Sh.int IntKind.i64, Sh.int IntKind.i64, Sh.int IntKind.i64]), (479235, BSh.arr 1 3)] }
def tpl_83_4 : Tpl := { slots := [(0, Sh.rs 4), (1, Sh.rs 5), (6, Sh.int IntKind.i64)], blks := [] }
def tpl_83_14 : Tpl := { slots := [(0, Sh.rs 4), (1, Sh.rs 5), (6, Sh.int IntKind.i64), (7, Sh.own (V.op 339975 0)), (8, Sh.int IntKind.i64), (9, Sh.bool), (10, Sh.int IntKind.i64)], blks := [(339975, BSh.box [Sh.raw, Sh.raw, Sh.raw, Sh.raw])] }
def tpl_121_2 : Tpl := { slots := [(0, Sh.rs 1), (1, Sh.int IntKind.i64), (5, Sh.int IntKind.i64)], blks := [] }
def tpl_127_2 : Tpl := { slots := [(0, Sh.rs 2), (1, Sh.int IntKind.i64), (6, Sh.int IntKind.i64)], blks := [] }
def tpl_122_3 : Tpl := { slots := [(0, Sh.rs 2), (5, Sh.own (V.os 499721)), (11, Sh.int IntKind.i64), (12, Sh.int IntKind.i64)], blks := [(499721, BSh.arr 1 3)] }
def tpl_120_2 : Tpl := { slots := [(0, Sh.rs 4), (1, Sh.int IntKind.i64), (5, Sh.int IntKind.i64)], blks := [] }
def tpl_108_15 : Tpl := { slots := [(0, Sh.rs 2), (1, Sh.int IntKind.i64), (9, Sh.own (V.op 442377 0)), (13, Sh.int IntKind.i64)], blks := [(442377, BSh.box [Sh.raw, Sh.raw])] }
def tpl_84_4 : Tpl := { slots := [(0, Sh.rs 2), (1, Sh.rs 5), (2, Sh.rs 4), (8, Sh.int IntKind.i64)], blks := [] }
def tpl_123_2 : Tpl := { slots := [(0, Sh.rs 5), (1, Sh.rs 5), (2, Sh.int IntKind.i64), (9, Sh.int IntKind.i64)], blks := [] }
def tpl_123_6 : Tpl := { slots := [(0, Sh.rs 5), (1, Sh.rs 5), (2, Sh.int IntKind.i64), (9, Sh.int IntKind.i64), (10, Sh.int IntKind.i64)], blks := [] }
def tpl_109_10 : Tpl := { slots := [(0, Sh.rs 3), (1, Sh.int IntKind.i64), (11, Sh.own (V.op 446475 0)), (15, Sh.int IntKind.i64)], blks := [(446475, BSh.box [Sh.raw, Sh.raw, Sh.raw])] }
def tpl_85_4 : Tpl := { slots := [(0, Sh.rs 3), (1, Sh.rs 5), (2, Sh.rs 4), (3, Sh.int IntKind.i64), (10, Sh.int IntKind.i64)], blks := [] }
def tpl_110_2 : Tpl := { slots := [(0, Sh.rs 4), (1, Sh.int IntKind.i64), (6, Sh.int IntKind.i64)], blks := [] }
def tpl_110_10 : Tpl := { slots := [(0, Sh.rs 4), (1, Sh.int IntKind.i64), (6, Sh.int IntKind.i64), (7, Sh.own (V.op 450567 0)), (8, Sh.int IntKind.i64)], blks := [(450567, BSh.box [Sh.raw, Sh.raw, Sh.raw, Sh.raw])] }
def tpl_87_7 : Tpl := { slots := [(4, Sh.rs 6), (5, Sh.int IntKind.i64)], blks := [] }
def tpl_87_12 : Tpl := { slots := [(4, Sh.rs 6), (5, Sh.int IntKind.i64), (6, Sh.int IntKind.i64)], blks := [] }
def tpl_12_2 : Tpl := { slots := [(1, Sh.own (V.op 49153 0)), (5, Sh.int IntKind.i64)], blks := [(49153, BSh.box [Sh.rs 4, Sh.rs 3, Sh.rs 10, Sh.rs 3, Sh.rs 5, Sh.rs 4, Sh.rs 2, Sh.rs 3, Sh.rs 4, Sh.rs 6, Sh.int IntKind.i64, Sh.int IntKind.i64, Sh.int IntKind.i64])] }
def tpl_9_4 : Tpl := { slots := [(1, Sh.own (V.op 36865 0)), (3, Sh.int IntKind.i64)], blks := [(36865, BSh.box [Sh.rs 4, Sh.rs 3, Sh.rs 10, Sh.rs 3, Sh.rs 5, Sh.rs 4, Sh.rs 2, Sh.rs 3, Sh.rs 4, Sh.rs 6, Sh.int IntKind.i64, Sh.int IntKind.i64, Sh.int IntKind.i64])] }
def tpl_14_3 : Tpl := { slots := [(1, Sh.own (V.op 57345 0)), (2, Sh.own (V.op 57346 0)), (3, Sh.int IntKind.i64), (4, Sh.int IntKind.i64)], blks := [(57345, BSh.box [Sh.rs 4, Sh.rs 3, Sh.rs 10, Sh.rs 3, Sh.rs 5, Sh.rs 4, Sh.rs 2, Sh.rs 3, Sh.rs 4, Sh.rs 6, Sh.int IntKind.i64, Sh.int IntKind.i64, Sh.int IntKind.i64]), (57346, BSh.box [Sh.int IntKind.i64, Sh.int IntKind.i64, Sh.int IntKind.i64, Sh.int IntKind.i64, Sh.int IntKind.i64, Sh.int IntKind.i64, Sh.int IntKind.i64, Sh.int IntKind.i64, Sh.int IntKind.i64, Sh.int IntKind.i64, Sh.int IntKind.i64])] }
def tpl_51_4 : Tpl := { slots := [(2, Sh.own (V.op 208898 0)), (3, Sh.own (V.op 208899 0)), (5, Sh.int IntKind.i64)], blks := [(208898, BSh.box [Sh.rs 4, Sh.rs 3, Sh.rs 10, Sh.rs 3, Sh.rs 5, Sh.rs 4, Sh.rs 2, Sh.rs 3, Sh.rs 4, Sh.rs 6, Sh.int IntKind.i64, Sh.int IntKind.i64, Sh.int IntKind.i64]), (208899, BSh.box [Sh.rs 4, Sh.rs 3, Sh.rs 10, Sh.rs 3, Sh.rs 5, Sh.rs 4, Sh.rs 2, Sh.rs 3, Sh.rs 4, Sh.rs 6, Sh.int IntKind.i64, Sh.int IntKind.i64, Sh.int IntKind.i64])] }
def tpl_51_9 : Tpl := { slots := [(2, Sh.own (V.op 208898 0)), (3, Sh.own (V.op 208899 0)), (6, Sh.int IntKind.i64)], blks := [(208898, BSh.box [Sh.rs 4, Sh.rs 3, Sh.rs 10, Sh.rs 3, Sh.rs 5, Sh.rs 4, Sh.rs 2, Sh.rs 3, Sh.rs 4, Sh.rs 6, Sh.int IntKind.i64, Sh.int IntKind.i64, Sh.int IntKind.i64]), (208899, BSh.box [Sh.rs 4, Sh.rs 3, Sh.rs 10, Sh.rs 3, Sh.rs 5, Sh.rs 4, Sh.rs 2, Sh.rs 3, Sh.rs 4, Sh.rs 6, Sh.int IntKind.i64, Sh.int IntKind.i64, Sh.int IntKind.i64])] }
def tpl_51_14 : Tpl := { slots := [(2, Sh.own (V.op 208898 0)), (3, Sh.own (V.op 208899 0)), (7, Sh.int IntKind.i64)], blks := [(208898, BSh.box [Sh.rs 4, Sh.rs 3, Sh.rs 10, Sh.rs 3, Sh.rs 5, Sh.rs 4, Sh.rs 2, Sh.rs 3, Sh.rs 4, Sh.rs 6, Sh.int IntKind.i64, Sh.int IntKind.i64, Sh.int IntKind.i64]), (208899, BSh.box [Sh.rs 4, Sh.rs 3, Sh.rs 10, Sh.rs 3, Sh.rs 5, Sh.rs 4, Sh.rs 2, Sh.rs 3, Sh.rs 4, Sh.rs 6, Sh.int IntKind.i64, Sh.int IntKind.i64, Sh.int IntKind.i64])] }
def tpl_51_19 : Tpl := { slots := [(2, Sh.own (V.op 208898 0)), (3, Sh.own (V.op 208899 0)), (8, Sh.int IntKind.i64)], blks := [(208898, BSh.box [Sh.rs 4, Sh.rs 3, Sh.rs 10, Sh.rs 3, Sh.rs 5, Sh.rs 4, Sh.rs 2, Sh.rs 3, Sh.rs 4, Sh.rs 6, Sh.int IntKind.i64, Sh.int IntKind.i64, Sh.int IntKind.i64]), (208899, BSh.box [Sh.rs 4, Sh.rs 3, Sh.rs 10, Sh.rs 3, Sh.rs 5, Sh.rs 4, Sh.rs 2, Sh.rs 3, Sh.rs 4, Sh.rs 6, Sh.int IntKind.i64, Sh.int IntKind.i64, Sh.int IntKind.i64])] }
def tpl_53_4 : Tpl := { slots := [(2, Sh.own (V.op 217090 0)), (3, Sh.own (V.op 217091 0)), (5, Sh.int IntKind.i64)], blks := [(217090, BSh.box [Sh.rs 4, Sh.rs 3, Sh.rs 10, Sh.rs 3, Sh.rs 5, Sh.rs 4, Sh.rs 2, Sh.rs 3, Sh.rs 4, Sh.rs 6, Sh.int IntKind.i64, Sh.int IntKind.i64, Sh.int IntKind.i64]), (217091, BSh.box [Sh.rs 4, Sh.rs 3, Sh.rs 10, Sh.rs 3, Sh.rs 5, Sh.rs 4, Sh.rs 2, Sh.rs 3, Sh.rs 4, Sh.rs 6, Sh.int IntKind.i64, Sh.int IntKind.i64, Sh.int IntKind.i64])] }
def tpl_53_9 : Tpl := { slots := [(2, Sh.own (V.op 217090 0)), (3, Sh.own (V.op 217091 0)), (6, Sh.int IntKind.i64)], blks := [(217090, BSh.box [Sh.rs 4, Sh.rs 3, Sh.rs 10, Sh.rs 3, Sh.rs 5, Sh.rs 4, Sh.rs 2, Sh.rs 3, Sh.rs 4, Sh.rs 6, Sh.int IntKind.i64, Sh.int IntKind.i64, Sh.int IntKind.i64]), (217091, BSh.box [Sh.rs 4, Sh.rs 3, Sh.rs 10, Sh.rs 3, Sh.rs 5, Sh.rs 4, Sh.rs 2, Sh.rs 3, Sh.rs 4, Sh.rs 6, Sh.int IntKind.i64, Sh.int IntKind.i64, Sh.int IntKind.i64])] }
def tpl_53_14 : Tpl := { slots := [(2, Sh.own (V.op 217090 0)), (3, Sh.own (V.op 217091 0)), (7, Sh.int IntKind.i64)], blks := [(217090, BSh.box [Sh.rs 4, Sh.rs 3, Sh.rs 10, Sh.rs 3, Sh.rs 5, Sh.rs 4, Sh.rs 2, Sh.rs 3, Sh.rs 4, Sh.rs 6, Sh.int IntKind.i64, Sh.int IntKind.i64, Sh.int IntKind.i64]), (217091, BSh.box [Sh.rs 4, Sh.rs 3, Sh.rs 10, Sh.rs 3, Sh.rs 5, Sh.rs 4, Sh.rs 2, Sh.rs 3, Sh.rs 4, Sh.rs 6, Sh.int IntKind.i64, Sh.int IntKind.i64, Sh.int IntKind.i64])] }
def tpl_53_19 : Tpl := { slots := [(2, Sh.own (V.op 217090 0)), (3, Sh.own (V.op 217091 0)), (8, Sh.int IntKind.i64)], blks := [(217090, BSh.box [Sh.rs 4, Sh.rs 3, Sh.rs 10, Sh.rs 3, Sh.rs 5, Sh.rs 4, Sh.rs 2, Sh.rs 3, Sh.rs 4, Sh.rs 6, Sh.int IntKind.i64, Sh.int IntKind.i64, Sh.int IntKind.i64]), (217091, BSh.box [Sh.rs 4, Sh.rs 3, Sh.rs 10, Sh.rs 3, Sh.rs 5, Sh.rs 4, Sh.rs 2, Sh.rs 3, Sh.rs 4, Sh.rs 6, Sh.int IntKind.i64, Sh.int IntKind.i64, Sh.int IntKind.i64])] }
def tpl_53_24 : Tpl := { slots := [(2, Sh.own (V.op 217090 0)), (3, Sh.own (V.op 217091 0)), (9, Sh.int IntKind.i64)], blks := [(217090, BSh.box [Sh.rs 4, Sh.rs 3, Sh.rs 10, Sh.rs 3, Sh.rs 5, Sh.rs 4, Sh.rs 2, Sh.rs 3, Sh.rs 4, Sh.rs 6, Sh.int IntKind.i64, Sh.int IntKind.i64, Sh.int IntKind.i64]), (217091, BSh.box [Sh.rs 4, Sh.rs 3, Sh.rs 10, Sh.rs 3, Sh.rs 5, Sh.rs 4, Sh.rs 2, Sh.rs 3, Sh.rs 4, Sh.rs 6, Sh.int IntKind.i64, Sh.int IntKind.i64, Sh.int IntKind.i64])] }
def tpl_52_4 : Tpl := { slots := [(0, Sh.rs 5), (1, Sh.rs 5), (5, Sh.int IntKind.i64)], blks := [] }
def tpl_52_9 : Tpl := { slots := [(0, Sh.rs 5), (1, Sh.rs 5), (5, Sh.int IntKind.i64), (6, Sh.int IntKind.i64)], blks := [] }
def tpl_89_4 : Tpl := { slots := [(1, Sh.rs 6), (12, Sh.rs 6), (13, Sh.int IntKind.i64), (14, Sh.int IntKind.i64)], blks := [] }
def tpl_88_4 : Tpl := { slots := [(1, Sh.rs 5), (12, Sh.rs 5), (13, Sh.int IntKind.i64), (14, Sh.int IntKind.i64)], blks := [] }
def tpl_45_4 : Tpl := { slots := [(1, Sh.rs 5), (13, Sh.rs 5), (14, Sh.int IntKind.i64), (15, Sh.int IntKind.i64)], blks := [] }
def tpl_43_4 : Tpl := { slots := [(1, Sh.rs 10), (12, Sh.rs 10), (13, Sh.int IntKind.i64), (14, Sh.int IntKind.i64)], blks := [] }
def tpl_44_4 : Tpl := { slots := [(1, Sh.rs 3), (12, Sh.rs 3), (13, Sh.int IntKind.i64), (14, Sh.int IntKind.i64)], blks := [] }
def tpl_49_4 : Tpl := { slots := [(1, Sh.rs 4), (12, Sh.rs 4), (13, Sh.int IntKind.i64), (14, Sh.int IntKind.i64)], blks := [] }
def tpl_46_4 : Tpl := { slots := [(1, Sh.rs 4), (12, Sh.rs 4), (13, Sh.int IntKind.i64), (14, Sh.int IntKind.i64)], blks := [] }
def tpl_48_4 : Tpl := { slots := [(1, Sh.rs 3), (12, Sh.rs 3), (13, Sh.int IntKind.i64), (14, Sh.int IntKind.i64)], blks := [] }
def tpl_42_4 : Tpl := { slots := [(1, Sh.rs 3), (12, Sh.rs 3), (13, Sh.int IntKind.i64), (14, Sh.int IntKind.i64)], blks := [] }
def tpl_41_4 : Tpl := { slots := [(1, Sh.rs 4), (12, Sh.rs 4), (13, Sh.int IntKind.i64), (14, Sh.int IntKind.i64)], blks := [] }
def tpl_47_4 : Tpl := { slots := [(1, Sh.rs 2), (12, Sh.rs 2), (13, Sh.int IntKind.i64), (14, Sh.int IntKind.i64)], blks := [] }
def tpl_19_3 : Tpl := { slots := [(1, Sh.own (V.op 77825 0)), (2, Sh.own (V.op 77826 0)), (3, Sh.own (V.op 77827 0)), (37, Sh.int IntKind.i64), (38, Sh.int IntKind.i64)], blks := [(77825, BSh.box [Sh.rs 4, Sh.rs 3, Sh.rs 10, Sh.rs 3, Sh.rs 5, Sh.rs 4, Sh.rs 2, Sh.rs 3, Sh.rs 4, Sh.rs 6, Sh.int IntKind.i64, Sh.int IntKind.i64, Sh.int IntKind.i64]), (77826, BSh.box [Sh.own V.nils, Sh.own V.nils, Sh.own V.nils, Sh.own V.nils, Sh.own V.nils, Sh.own V.nils, Sh.own V.nils, Sh.own V.nils, Sh.own V.nils, Sh.own V.nils, Sh.int IntKind.i64, Sh.int IntKind.i64, Sh.int IntKind.i64]), (77827, BSh.box [Sh.rs 4, Sh.rs 3, Sh.rs 10, Sh.rs 3, Sh.own (V.os 77843), Sh.rs 4, Sh.rs 2, Sh.rs 3, Sh.rs 4, Sh.rs 6, Sh.int IntKind.i64, Sh.int IntKind.i64, Sh.int IntKind.i64]), (77843, BSh.arr 5 50)] }
def hints (f k : Nat) : Option Tpl :=
  bif Nat.beq f 65 then (bif Nat.beq k 2 then some tpl_65_2 else none) else
  bif Nat.beq f 21 then (bif Nat.beq k 5 then some tpl_21_5 else none) else
  bif Nat.beq f 39 then (bif Nat.beq k 7 then some tpl_39_7 else none) else
  bif Nat.beq f 23 then (bif Nat.beq k 5 then some tpl_23_5 else none) else
  bif Nat.beq f 25 then (bif Nat.beq k 5 then some tpl_25_5 else none) else
  bif Nat.beq f 27 then (bif Nat.beq k 5 then some tpl_27_5 else none) else
  bif Nat.beq f 68 then (bif Nat.beq k 4 then some tpl_68_4 else none) else
  bif Nat.beq f 29 then (bif Nat.beq k 5 then some tpl_29_5 else none) else
  bif Nat.beq f 91 then (bif Nat.beq k 7 then some tpl_91_7 else none) else
  bif Nat.beq f 31 then (bif Nat.beq k 4 then some tpl_31_4 else bif Nat.beq k 12 then some tpl_31_12 else none) else
  bif Nat.beq f 114 then (bif Nat.beq k 2 then some tpl_114_2 else none) else
  bif Nat.beq f 95 then (bif Nat.beq k 3 then some tpl_95_3 else none) else
  bif Nat.beq f 74 then (bif Nat.beq k 2 then some tpl_74_2 else none) else
  bif Nat.beq f 94 then (bif Nat.beq k 2 then some tpl_94_2 else none) else
  bif Nat.beq f 33 then (bif Nat.beq k 5 then some tpl_33_5 else none) else
  bif Nat.beq f 96 then (bif Nat.beq k 2 then some tpl_96_2 else none) else
  bif Nat.beq f 97 then (bif Nat.beq k 2 then some tpl_97_2 else none) else
  bif Nat.beq f 35 then (bif Nat.beq k 5 then some tpl_35_5 else none) else
  bif Nat.beq f 76 then (bif Nat.beq k 3 then some tpl_76_3 else none) else
  bif Nat.beq f 13 then (bif Nat.beq k 3 then some tpl_13_3 else none) else
  bif Nat.beq f 99 then (bif Nat.beq k 2 then some tpl_99_2 else none) else
  bif Nat.beq f 98 then (bif Nat.beq k 4 then some tpl_98_4 else none) else
  bif Nat.beq f 78 then (bif Nat.beq k 4 then some tpl_78_4 else none) else
  bif Nat.beq f 102 then (bif Nat.beq k 4 then some tpl_102_4 else none) else
  bif Nat.beq f 80 then (bif Nat.beq k 4 then some tpl_80_4 else bif Nat.beq k 9 then some tpl_80_9 else none) else
  bif Nat.beq f 81 then (bif Nat.beq k 4 then some tpl_81_4 else bif Nat.beq k 11 then some tpl_81_11 else none) else
  bif Nat.beq f 100 then (bif Nat.beq k 4 then some tpl_100_4 else none) else
  bif Nat.beq f 79 then (bif Nat.beq k 4 then some tpl_79_4 else bif Nat.beq k 9 then some tpl_79_9 else none) else
  bif Nat.beq f 115 then (bif Nat.beq k 2 then some tpl_115_2 else none) else
  bif Nat.beq f 116 then (bif Nat.beq k 4 then some tpl_116_4 else none) else
  bif Nat.beq f 82 then (bif Nat.beq k 4 then some tpl_82_4 else none) else
  bif Nat.beq f 118 then (bif Nat.beq k 6 then some tpl_118_6 else none) else
  bif Nat.beq f 117 then (bif Nat.beq k 5 then some tpl_117_5 else none) else
  bif Nat.beq f 83 then (bif Nat.beq k 4 then some tpl_83_4 else bif Nat.beq k 14 then some tpl_83_14 else none) else
  bif Nat.beq f 121 then (bif Nat.beq k 2 then some tpl_121_2 else none) else
  bif Nat.beq f 127 then (bif Nat.beq k 2 then some tpl_127_2 else none) else
  bif Nat.beq f 122 then (bif Nat.beq k 3 then some tpl_122_3 else none) else
  bif Nat.beq f 120 then (bif Nat.beq k 2 then some tpl_120_2 else none) else
  bif Nat.beq f 108 then (bif Nat.beq k 15 then some tpl_108_15 else none) else
  bif Nat.beq f 84 then (bif Nat.beq k 4 then some tpl_84_4 else none) else
  bif Nat.beq f 123 then (bif Nat.beq k 2 then some tpl_123_2 else bif Nat.beq k 6 then some tpl_123_6 else none) else
  bif Nat.beq f 109 then (bif Nat.beq k 10 then some tpl_109_10 else none) else
  bif Nat.beq f 85 then (bif Nat.beq k 4 then some tpl_85_4 else none) else
  bif Nat.beq f 110 then (bif Nat.beq k 2 then some tpl_110_2 else bif Nat.beq k 10 then some tpl_110_10 else none) else
  bif Nat.beq f 87 then (bif Nat.beq k 7 then some tpl_87_7 else bif Nat.beq k 12 then some tpl_87_12 else none) else
  bif Nat.beq f 12 then (bif Nat.beq k 2 then some tpl_12_2 else none) else
  bif Nat.beq f 9 then (bif Nat.beq k 4 then some tpl_9_4 else none) else
  bif Nat.beq f 14 then (bif Nat.beq k 3 then some tpl_14_3 else none) else
  bif Nat.beq f 51 then (bif Nat.beq k 4 then some tpl_51_4 else bif Nat.beq k 9 then some tpl_51_9 else bif Nat.beq k 14 then some tpl_51_14 else bif Nat.beq k 19 then some tpl_51_19 else none) else
  bif Nat.beq f 53 then (bif Nat.beq k 4 then some tpl_53_4 else bif Nat.beq k 9 then some tpl_53_9 else bif Nat.beq k 14 then some tpl_53_14 else bif Nat.beq k 19 then some tpl_53_19 else bif Nat.beq k 24 then some tpl_53_24 else none) else
  bif Nat.beq f 52 then (bif Nat.beq k 4 then some tpl_52_4 else bif Nat.beq k 9 then some tpl_52_9 else none) else
  bif Nat.beq f 89 then (bif Nat.beq k 4 then some tpl_89_4 else none) else
  bif Nat.beq f 88 then (bif Nat.beq k 4 then some tpl_88_4 else none) else
  bif Nat.beq f 45 then (bif Nat.beq k 4 then some tpl_45_4 else none) else
  bif Nat.beq f 43 then (bif Nat.beq k 4 then some tpl_43_4 else none) else
  bif Nat.beq f 44 then (bif Nat.beq k 4 then some tpl_44_4 else none) else
  bif Nat.beq f 49 then (bif Nat.beq k 4 then some tpl_49_4 else none) else
  bif Nat.beq f 46 then (bif Nat.beq k 4 then some tpl_46_4 else none) else
  bif Nat.beq f 48 then (bif Nat.beq k 4 then some tpl_48_4 else none) else
  bif Nat.beq f 42 then (bif Nat.beq k 4 then some tpl_42_4 else none) else
  bif Nat.beq f 41 then (bif Nat.beq k 4 then some tpl_41_4 else none) else
  bif Nat.beq f 47 then (bif Nat.beq k 4 then some tpl_47_4 else none) else
  bif Nat.beq f 19 then (bif Nat.beq k 3 then some tpl_19_3 else none) else
  none
noncomputable def S : Seat := { P := Try.prog, glob := fun _ => none, hint := hints }
def tab_0 : Tab := []
def otab_0 : Tab := []
def tab_1 : Tab := (65, ident_Valid_M) :: tab_0
def tab_2 : Tab := (21, stop_Check_M) :: tab_1
def tab_3 : Tab := (20, timetable_Check_1_M) :: tab_2
def tab_4 : Tab := (77, product_within_M) :: tab_3
def tab_5 : Tab := (39, product_Check_M) :: tab_4
def tab_6 : Tab := (38, timetable_Check_10_M) :: tab_5
def tab_7 : Tab := (66, route_known_M) :: tab_6
def tab_8 : Tab := (23, route_Check_M) :: tab_7
def tab_9 : Tab := (22, timetable_Check_2_M) :: tab_8
def tab_10 : Tab := (67, date_Valid_M) :: tab_9
def tab_11 : Tab := (25, calendar_Check_M) :: tab_10
def tab_12 : Tab := (24, timetable_Check_3_M) :: tab_11
def tab_13 : Tab := (27, calendar_CheckExceptions_M) :: tab_12
def tab_14 : Tab := (26, timetable_Check_4_M) :: tab_13
def tab_15 : Tab := (90, call_one_M) :: tab_14
def tab_16 : Tab := (68, call_Check_M) :: tab_15
def tab_17 : Tab := (29, trip_Check_M) :: tab_16
def tab_18 : Tab := (28, timetable_Check_5_M) :: tab_17
def tab_19 : Tab := (71, frequency_count_M) :: tab_18
def tab_20 : Tab := (124, frequency_moved_1_M) :: tab_19
def tab_21 : Tab := (125, frequency_wide_M) :: tab_20
def tab_22 : Tab := (113, frequency_moved_M) :: tab_21
def tab_23 : Tab := (91, frequency_Calls_M) :: tab_22
def tab_24 : Tab := (92, frequency_last_M) :: tab_23
def tab_25 : Tab := (70, frequency_fits_M) :: tab_24
def tab_26 : Tab := (69, frequency_sound_M) :: tab_25
def tab_27 : Tab := (31, frequency_Check_M) :: tab_26
def tab_28 : Tab := (30, timetable_Check_6_M) :: tab_27
def tab_29 : Tab := (73, through_follows_M) :: tab_28
def tab_30 : Tab := (114, through_Next_M) :: tab_29
def tab_31 : Tab := (95, through_Chain_M) :: tab_30
def tab_32 : Tab := (74, through_leads_M) :: tab_31
def tab_33 : Tab := (94, frequency_Repeated_M) :: tab_32
def tab_34 : Tab := (93, through_pair_1_M) :: tab_33
def tab_35 : Tab := (72, through_pair_M) :: tab_34
def tab_36 : Tab := (33, through_Check_M) :: tab_35
def tab_37 : Tab := (32, timetable_Check_7_M) :: tab_36
def tab_38 : Tab := (96, through_alighting_M) :: tab_37
def tab_39 : Tab := (97, through_boarding_M) :: tab_38
def tab_40 : Tab := (75, through_Meets_M) :: tab_39
def tab_41 : Tab := (35, through_CheckGuarantees_M) :: tab_40
def tab_42 : Tab := (34, timetable_Check_8_M) :: tab_41
def tab_43 : Tab := (76, footpath_sound_M) :: tab_42
def tab_44 : Tab := (37, footpath_Check_M) :: tab_43
def tab_45 : Tab := (36, timetable_Check_9_M) :: tab_44
def tab_46 : Tab := (11, timetable_Check_M) :: tab_45
def tab_47 : Tab := (13, timetable_Sizes_M) :: tab_46
def tab_48 : Tab := (10, law22_exampleHolds_M) :: tab_47
def tab_49 : Tab := (99, ref13_Find_M) :: tab_48
def tab_50 : Tab := (98, ref13_Identifier_M) :: tab_49
def tab_51 : Tab := (78, ref13_Check_M) :: tab_50
def tab_52 : Tab := (103, ref02_Valid_M) :: tab_51
def tab_53 : Tab := (102, ref05_Valid_M) :: tab_52
def tab_54 : Tab := (80, ref14_Check_M) :: tab_53
def tab_55 : Tab := (81, ref14_CheckExceptions_M) :: tab_54
def tab_56 : Tab := (100, ref15_Name_M) :: tab_55
def tab_57 : Tab := (101, ref15_mode_M) :: tab_56
def tab_58 : Tab := (79, ref15_Check_M) :: tab_57
def tab_59 : Tab := (115, ref17_Find_M) :: tab_58
def tab_60 : Tab := (116, ref17_calls_M) :: tab_59
def tab_61 : Tab := (104, ref17_one_M) :: tab_60
def tab_62 : Tab := (82, ref17_Check_M) :: tab_61
def tab_63 : Tab := (105, ref18_Sound_M) :: tab_62
def tab_64 : Tab := (107, ref18_count_M) :: tab_63
def tab_65 : Tab := (126, ref18_Shift_M) :: tab_64
def tab_66 : Tab := (118, ref18_Calls_M) :: tab_65
def tab_67 : Tab := (117, ref18_Starts_M) :: tab_66
def tab_68 : Tab := (106, ref18_fits_M) :: tab_67
def tab_69 : Tab := (83, ref18_Check_M) :: tab_68
def tab_70 : Tab := (121, ref19_Has_M) :: tab_69
def tab_71 : Tab := (127, ref19_Next_M) :: tab_70
def tab_72 : Tab := (122, ref19_Chain_M) :: tab_71
def tab_73 : Tab := (119, ref19_in_M) :: tab_72
def tab_74 : Tab := (120, ref19_repeated_M) :: tab_73
def tab_75 : Tab := (108, ref19_one_M) :: tab_74
def tab_76 : Tab := (84, ref19_Check_M) :: tab_75
def tab_77 : Tab := (123, ref19_Meets_M) :: tab_76
def tab_78 : Tab := (109, ref19_guarantee_M) :: tab_77
def tab_79 : Tab := (85, ref19_CheckGuarantees_M) :: tab_78
def tab_80 : Tab := (110, ref20_valid_M) :: tab_79
def tab_81 : Tab := (86, ref20_Check_M) :: tab_80
def tab_82 : Tab := (111, ref21_within_M) :: tab_81
def tab_83 : Tab := (112, ref21_Right_M) :: tab_82
def tab_84 : Tab := (87, ref21_Check_M) :: tab_83
def tab_85 : Tab := (40, ref22_part_M) :: tab_84
def tab_86 : Tab := (12, ref22_Check_M) :: tab_85
def tab_87 : Tab := (9, ref22_Few_M) :: tab_86
def tab_88 : Tab := (3, law22_TimetableChecks_M) :: tab_87
def tab_89 : Tab := (14, ref22_Sizes_M) :: tab_88
def tab_90 : Tab := (4, law22_TimetableSizes_M) :: tab_89
def tab_91 : Tab := (16, law22_lower_M) :: tab_90
def tab_92 : Tab := (15, law22_upper_M) :: tab_91
def tab_93 : Tab := (5, law22_TimetableParts_M) :: tab_92
def tab_94 : Tab := (6, law22_TimetableShrinks_M) :: tab_93
def tab_95 : Tab := (51, ref22_heads_M) :: tab_94
def tab_96 : Tab := (53, ref22_tails_M) :: tab_95
def tab_97 : Tab := (52, ref22_trips_M) :: tab_96
def tab_98 : Tab := (18, ref22_Equal_M) :: tab_97
def tab_99 : Tab := (89, timetable_same_Product_M) :: tab_98
def tab_100 : Tab := (50, timetable_sameFares_M) :: tab_99
def tab_101 : Tab := (88, call_Equal_M) :: tab_100
def tab_102 : Tab := (45, timetable_sameTrips_M) :: tab_101
def tab_103 : Tab := (43, timetable_same_Calendar_M) :: tab_102
def tab_104 : Tab := (44, timetable_same_Exception_M) :: tab_103
def tab_105 : Tab := (49, timetable_same_Footpath_M) :: tab_104
def tab_106 : Tab := (46, timetable_same_Frequency_M) :: tab_105
def tab_107 : Tab := (48, timetable_same_Guarantee_M) :: tab_106
def tab_108 : Tab := (42, timetable_same_Route_M) :: tab_107
def tab_109 : Tab := (41, timetable_same_Stop_M) :: tab_108
def tab_110 : Tab := (47, timetable_same_Through_M) :: tab_109
def tab_111 : Tab := (17, timetable_Equal_M) :: tab_110
def tab_112 : Tab := (7, law22_TimetableEquals_M) :: tab_111
def tab_113 : Tab := (56, timetable_copied_Calendar_M) :: tab_112
def tab_114 : Tab := (63, timetable_copied_Call_M) :: tab_113
def tab_115 : Tab := (57, timetable_copied_Exception_M) :: tab_114
def tab_116 : Tab := (62, timetable_copied_Footpath_M) :: tab_115
def tab_117 : Tab := (59, timetable_copied_Frequency_M) :: tab_116
def tab_118 : Tab := (61, timetable_copied_Guarantee_M) :: tab_117
def tab_119 : Tab := (64, timetable_copied_Product_M) :: tab_118
def tab_120 : Tab := (55, timetable_copied_Route_M) :: tab_119
def tab_121 : Tab := (54, timetable_copied_Stop_M) :: tab_120
def tab_122 : Tab := (60, timetable_copied_Through_M) :: tab_121
def otab_1 : Tab := (58, timetable_copied_Trip_M) :: otab_0
def tab_123 : Tab := (19, timetable_Clone_M) :: tab_122
def tab_124 : Tab := (8, law22_TimetableClones_M) :: tab_123
end Go.Proofs.Ytlgcompmkliiaaa
