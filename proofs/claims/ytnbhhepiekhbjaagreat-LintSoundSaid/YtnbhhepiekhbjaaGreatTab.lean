/- The table of the functions of this seat: shapes of loop heads, and what is known of each function. Printed by a program of the author. -/
import Derived.Test.YtnbhhepiekhbjaaGreatProg
import Derived.Test.YtnbhhepiekhbjaaGreatAbSeat
import Derived.Test.YtnbhhepiekhbjaaGreatSh3
import Derived.KernelRfl
namespace Go.Proofs.YtnbhhepiekhbjaaGreat
open Go.Ab
set_option maxRecDepth 100000
def tpl_9_3_0 : Tpl := { slots := [(0, .rs 3), (3, .own (.os 36867)), (4, .int .i64)], blks := [(36867, .arr 3 47)] }
def tpl_23_3_0 : Tpl := { slots := [(1, .own (.op 94209 0)), (3, .own (.om 94214)), (8, .rs 5), (9, .int .i64), (10, .int .i64)], blks := [(94209, .box [.rs 4, .rs 3, .rs 10, .rs 3, .rs 5, .rs 4, .rs 2, .rs 3, .rs 4, .rs 6, .int .i64, .int .i64, .int .i64]), (94214, .map 3)] }
def tpl_127_6_0 : Tpl := { slots := [(2, .int .i64), (3, .int .i64), (9, .int .i64), (10, .own (.op 520202 0)), (32, .rs 3), (33, .int .i64), (34, .int .i64)], blks := [(520202, .box [.raw, .raw, .raw, .raw, .raw, .raw, .raw, .raw, .raw, .raw])] }
def tpl_71_2_0 : Tpl := { slots := [(0, .rs 10), (1, .rs 3), (2, .int .i64), (10, .int .i64)], blks := [] }
def tpl_24_3_0 : Tpl := { slots := [(1, .own (.op 98305 0)), (3, .own (.om 98310)), (8, .rs 5), (9, .int .i64), (10, .int .i64)], blks := [(98305, .box [.rs 4, .rs 3, .rs 10, .rs 3, .rs 5, .rs 4, .rs 2, .rs 3, .rs 4, .rs 6, .int .i64, .int .i64, .int .i64]), (98310, .map 3)] }
def tpl_25_3_0 : Tpl := { slots := [(1, .own (.op 102401 0)), (3, .own (.op 102403 0)), (9, .rs 4), (10, .int .i64), (11, .int .i64)], blks := [(102401, .box [.rs 4, .rs 3, .rs 10, .rs 3, .rs 5, .rs 4, .rs 2, .rs 3, .rs 4, .rs 6, .int .i64, .int .i64, .int .i64]), (102403, .box [.own (.om 102407)]), (102407, .map 3)] }
def tpl_22_3_0 : Tpl := { slots := [(1, .own (.op 90113 0)), (3, .own (.om 90118)), (8, .rs 5), (9, .int .i64), (10, .int .i64)], blks := [(90113, .box [.rs 4, .rs 3, .rs 10, .rs 3, .rs 5, .rs 4, .rs 2, .rs 3, .rs 4, .rs 6, .int .i64, .int .i64, .int .i64]), (90118, .map 3)] }
def tpl_21_3_0 : Tpl := { slots := [(1, .own (.op 86017 0)), (3, .own (.om 86026)), (12, .rs 5), (13, .int .i64), (14, .int .i64)], blks := [(86017, .box [.rs 4, .rs 3, .rs 10, .rs 3, .rs 5, .rs 4, .rs 2, .rs 3, .rs 4, .rs 6, .int .i64, .int .i64, .int .i64]), (86026, .map 3)] }
def tpl_21_6_0 : Tpl := { slots := [(1, .own (.op 86017 0)), (3, .own (.om 86026)), (12, .rs 5), (13, .int .i64), (14, .int .i64), (19, .rs 5), (20, .int .i64), (21, .int .i64)], blks := [(86017, .box [.rs 4, .rs 3, .rs 10, .rs 3, .rs 5, .rs 4, .rs 2, .rs 3, .rs 4, .rs 6, .int .i64, .int .i64, .int .i64]), (86026, .map 3)] }
def tpl_21_12_0 : Tpl := { slots := [(1, .own (.op 86017 0)), (3, .own (.om 86026)), (31, .rs 4), (32, .int .i64), (33, .int .i64)], blks := [(86017, .box [.rs 4, .rs 3, .rs 10, .rs 3, .rs 5, .rs 4, .rs 2, .rs 3, .rs 4, .rs 6, .int .i64, .int .i64, .int .i64]), (86026, .map 3)] }
def tpl_27_3_0 : Tpl := { slots := [(1, .own (.op 110593 0)), (3, .int .i64), (15, .rs 6), (16, .int .i64), (17, .int .i64)], blks := [(110593, .box [.rs 4, .rs 3, .rs 10, .rs 3, .rs 5, .rs 4, .rs 2, .rs 3, .rs 4, .rs 6, .int .i64, .int .i64, .int .i64])] }
def tpl_27_9_0 : Tpl := { slots := [(1, .own (.op 110593 0)), (3, .int .i64), (6, .own (.om 110618)), (28, .rs 3), (29, .int .i64), (30, .int .i64)], blks := [(110593, .box [.rs 4, .rs 3, .rs 10, .rs 3, .rs 5, .rs 4, .rs 2, .rs 3, .rs 4, .rs 6, .int .i64, .int .i64, .int .i64]), (110618, .map 3)] }
def tpl_27_15_0 : Tpl := { slots := [(1, .own (.op 110593 0)), (6, .own (.om 110618)), (9, .own (.om 110636)), (46, .rs 5), (47, .int .i64), (48, .int .i64)], blks := [(110593, .box [.rs 4, .rs 3, .rs 10, .rs 3, .rs 5, .rs 4, .rs 2, .rs 3, .rs 4, .rs 6, .int .i64, .int .i64, .int .i64]), (110618, .map 3), (110636, .map 3)] }
def tpl_27_20_0 : Tpl := { slots := [(1, .own (.op 110593 0)), (6, .own (.om 110618)), (9, .own (.om 110636)), (58, .int .i64), (59, .int .i64)], blks := [(110593, .box [.rs 4, .rs 3, .rs 10, .rs 3, .rs 5, .rs 4, .rs 2, .rs 3, .rs 4, .rs 6, .int .i64, .int .i64, .int .i64]), (110618, .map 3), (110636, .map 3)] }
def tpl_26_3_0 : Tpl := { slots := [(1, .own (.op 106497 0)), (3, .own (.om 106506)), (12, .rs 5), (13, .int .i64), (14, .int .i64)], blks := [(106497, .box [.rs 4, .rs 3, .rs 10, .rs 3, .rs 5, .rs 4, .rs 2, .rs 3, .rs 4, .rs 6, .int .i64, .int .i64, .int .i64]), (106506, .map 3)] }
def tpl_26_6_0 : Tpl := { slots := [(1, .own (.op 106497 0)), (3, .own (.om 106506)), (12, .rs 5), (13, .int .i64), (14, .int .i64), (19, .rs 5), (20, .int .i64), (21, .int .i64)], blks := [(106497, .box [.rs 4, .rs 3, .rs 10, .rs 3, .rs 5, .rs 4, .rs 2, .rs 3, .rs 4, .rs 6, .int .i64, .int .i64, .int .i64]), (106506, .map 3)] }
def tpl_26_13_0 : Tpl := { slots := [(1, .own (.op 106497 0)), (3, .own (.om 106506)), (38, .rs 4), (39, .int .i64), (40, .int .i64)], blks := [(106497, .box [.rs 4, .rs 3, .rs 10, .rs 3, .rs 5, .rs 4, .rs 2, .rs 3, .rs 4, .rs 6, .int .i64, .int .i64, .int .i64]), (106506, .map 3)] }
def tpl_91_2_0 : Tpl := { slots := [(0, .str), (3, .int .i64)], blks := [] }
def tpl_51_5_0 : Tpl := { slots := [(4, .own (.om 208906)), (11, .rs 4), (12, .int .i64), (13, .int .i64)], blks := [(208906, .map 9)] }
def tpl_69_7_0 : Tpl := { slots := [(4, .own (.om 282651)), (29, .rs 6), (30, .int .i64), (31, .int .i64)], blks := [(282651, .map 9)] }
def tpl_53_5_0 : Tpl := { slots := [(4, .own (.om 217098)), (11, .rs 3), (12, .int .i64), (13, .int .i64)], blks := [(217098, .map 9)] }
def tpl_55_5_0 : Tpl := { slots := [(4, .own (.om 225290)), (11, .rs 10), (12, .int .i64), (13, .int .i64)], blks := [(225290, .map 9)] }
def tpl_57_5_0 : Tpl := { slots := [(1, .int .i64), (6, .own (.om 233485)), (14, .rs 3), (15, .int .i64), (16, .int .i64)], blks := [(233485, .map 128)] }
def tpl_94_4_0 : Tpl := { slots := [(0, .rs 5), (1, .int .i64), (2, .int .i64), (3, .int .i64), (21, .int .i64), (22, .int .i64)], blks := [] }
def tpl_59_5_0 : Tpl := { slots := [(1, .int .i64), (2, .int .i64), (3, .int .i64), (10, .own (.om 241682)), (19, .rs 5), (20, .int .i64), (21, .int .i64)], blks := [(241682, .map 9)] }
def tpl_120_7_0 : Tpl := { slots := [(1, .int .i64), (6, .int .i64), (7, .own (.os 491543)), (29, .int .i64), (30, .int .i64)], blks := [(491543, .arr 5 55)] }
def tpl_61_4_0 : Tpl := { slots := [(0, .rs 4), (1, .rs 5), (15, .rs 4), (16, .int .i64), (17, .int .i64)], blks := [] }
def tpl_61_12_0 : Tpl := { slots := [(0, .rs 4), (1, .rs 5), (6, .int .i64), (7, .own (.op 249863 0)), (8, .int .i64), (9, .bool), (15, .rs 4), (16, .int .i64), (17, .int .i64), (51, .rs 4), (52, .int .i64), (53, .int .i64)], blks := [(249863, .box [.raw, .raw, .raw, .raw])] }
def tpl_132_2_0 : Tpl := { slots := [(1, .int .i64), (8, .rs 2), (9, .int .i64), (10, .int .i64)], blks := [] }
def tpl_124_3_0 : Tpl := { slots := [(0, .rs 2), (5, .own (.os 507914)), (6, .own (.om 507915))], blks := [(507914, .arr 1 3), (507915, .map 3)] }
def tpl_100_2_0 : Tpl := { slots := [(2, .int .i64), (11, .rs 1), (12, .int .i64), (13, .int .i64)], blks := [] }
def tpl_123_2_0 : Tpl := { slots := [(1, .int .i64), (7, .rs 4), (8, .int .i64), (9, .int .i64)], blks := [] }
def tpl_63_5_0 : Tpl := { slots := [(0, .rs 2), (1, .rs 5), (2, .rs 4), (8, .own (.om 258066)), (9, .own (.om 258067)), (20, .rs 2), (21, .int .i64), (22, .int .i64)], blks := [(258066, .map 3), (258067, .map 3)] }
def tpl_125_2_0 : Tpl := { slots := [(1, .int .i64), (7, .rs 5), (8, .int .i64), (9, .int .i64)], blks := [] }
def tpl_126_2_0 : Tpl := { slots := [(0, .rs 5), (1, .int .i64), (7, .rs 5), (8, .int .i64), (9, .int .i64)], blks := [] }
def tpl_65_5_0 : Tpl := { slots := [(1, .rs 5), (2, .rs 4), (3, .int .i64), (10, .own (.om 266261)), (22, .rs 3), (23, .int .i64), (24, .int .i64)], blks := [(266261, .map 92)] }
def tpl_102_3_0 : Tpl := { slots := [(1, .int .i64), (6, .own (.om 417802)), (11, .rs 4), (12, .int .i64), (13, .int .i64)], blks := [(417802, .map 153)] }
def tpl_106_4_0 : Tpl := { slots := [(2, .own (.op 434178 0)), (3, .own (.op 434179 0)), (17, .int .i64), (18, .int .i64)], blks := [(434178, .box [.str, .int .i64, .int .i64, .bool, .rs 5]), (434179, .box [.str, .int .i64, .int .i64, .bool, .rs 5])] }
def tpl_74_5_0 : Tpl := { slots := [(2, .own (.op 303106 0)), (3, .own (.op 303107 0)), (5, .bool), (17, .int .i64), (18, .int .i64)], blks := [(303106, .box [.str, .int .i64, .int .i64, .bool, .rs 5]), (303107, .box [.str, .int .i64, .int .i64, .bool, .rs 5])] }
def tpl_2817567601217640_1_0 : Tpl := { slots := [(0, .own (.yl 687882715141)), (2, .rp 1), (3, .rp 1), (6, .int .i64), (7, .int .i64), (24, .own (.op 40966 0)), (52, .own (.op 40966 0)), (53, .own (.fn 20 [.op 40966 0])), (79, .own (.os 40993)), (80, .own (.pv (.int .i64 7))), (81, .own (.pv (.int .i64 0)))], blks := [(687882715141, .loop), (40966, .box [.own (.os 1606938044258990275541962092341162602522202993782792835342342)]), (40993, .box [.fs (FS.fn 104 [FS.ptr [FS.raw], FS.ptr [FS.raw], FS.ptr [FS.raw]]), .fs (FS.fn 104 [FS.ptr [FS.raw], FS.ptr [FS.raw], FS.ptr [FS.raw]]), .fs (FS.fn 104 [FS.ptr [FS.raw], FS.ptr [FS.raw], FS.ptr [FS.raw]]), .fs (FS.fn 104 [FS.ptr [FS.raw], FS.ptr [FS.raw], FS.ptr [FS.raw]]), .fs (FS.fn 73 [FS.ptr [FS.raw, FS.raw, FS.raw, FS.raw, FS.raw, FS.raw, FS.raw, FS.raw, FS.raw, FS.raw, FS.raw, FS.raw, FS.raw], FS.ptr [FS.fn 72 [FS.ptr [FS.raw]]]]), .fs (FS.fn 104 [FS.ptr [FS.raw], FS.ptr [FS.raw], FS.ptr [FS.raw]]), .fs (FS.fn 104 [FS.ptr [FS.raw], FS.ptr [FS.raw], FS.ptr [FS.raw]])]), (1606938044258990275541962092341162602522202993782792835342342, .arr 3 45)] }
def tpl_2817567601217640_1_1 : Tpl := { slots := [(0, .own (.yl 687882715141)), (2, .rp 1), (3, .rp 1), (6, .int .i64), (7, .int .i64), (24, .own (.op 40966 0)), (52, .own (.op 40966 0)), (53, .own (.fn 20 [.op 40966 0])), (79, .own (.os 40993)), (80, .own (.pv (.int .i64 7))), (81, .own (.pv (.int .i64 1)))], blks := [(687882715141, .loop), (40966, .box [.own (.os 1606938044258990275541962092341162602522202993782792835342342)]), (40993, .box [.fs (FS.fn 104 [FS.ptr [FS.raw], FS.ptr [FS.raw], FS.ptr [FS.raw]]), .fs (FS.fn 104 [FS.ptr [FS.raw], FS.ptr [FS.raw], FS.ptr [FS.raw]]), .fs (FS.fn 104 [FS.ptr [FS.raw], FS.ptr [FS.raw], FS.ptr [FS.raw]]), .fs (FS.fn 104 [FS.ptr [FS.raw], FS.ptr [FS.raw], FS.ptr [FS.raw]]), .fs (FS.fn 73 [FS.ptr [FS.raw, FS.raw, FS.raw, FS.raw, FS.raw, FS.raw, FS.raw, FS.raw, FS.raw, FS.raw, FS.raw, FS.raw, FS.raw], FS.ptr [FS.fn 72 [FS.ptr [FS.raw]]]]), .fs (FS.fn 104 [FS.ptr [FS.raw], FS.ptr [FS.raw], FS.ptr [FS.raw]]), .fs (FS.fn 104 [FS.ptr [FS.raw], FS.ptr [FS.raw], FS.ptr [FS.raw]])]), (1606938044258990275541962092341162602522202993782792835342342, .arr 3 45)] }
def tpl_2817567601217640_1_2 : Tpl := { slots := [(0, .own (.yl 687882715141)), (2, .rp 1), (3, .rp 1), (6, .int .i64), (7, .int .i64), (24, .own (.op 40966 0)), (52, .own (.op 40966 0)), (53, .own (.fn 20 [.op 40966 0])), (79, .own (.os 40993)), (80, .own (.pv (.int .i64 7))), (81, .own (.pv (.int .i64 2)))], blks := [(687882715141, .loop), (40966, .box [.own (.os 1606938044258990275541962092341162602522202993782792835342342)]), (40993, .box [.fs (FS.fn 104 [FS.ptr [FS.raw], FS.ptr [FS.raw], FS.ptr [FS.raw]]), .fs (FS.fn 104 [FS.ptr [FS.raw], FS.ptr [FS.raw], FS.ptr [FS.raw]]), .fs (FS.fn 104 [FS.ptr [FS.raw], FS.ptr [FS.raw], FS.ptr [FS.raw]]), .fs (FS.fn 104 [FS.ptr [FS.raw], FS.ptr [FS.raw], FS.ptr [FS.raw]]), .fs (FS.fn 73 [FS.ptr [FS.raw, FS.raw, FS.raw, FS.raw, FS.raw, FS.raw, FS.raw, FS.raw, FS.raw, FS.raw, FS.raw, FS.raw, FS.raw], FS.ptr [FS.fn 72 [FS.ptr [FS.raw]]]]), .fs (FS.fn 104 [FS.ptr [FS.raw], FS.ptr [FS.raw], FS.ptr [FS.raw]]), .fs (FS.fn 104 [FS.ptr [FS.raw], FS.ptr [FS.raw], FS.ptr [FS.raw]])]), (1606938044258990275541962092341162602522202993782792835342342, .arr 3 45)] }
def tpl_2817567601217640_1_3 : Tpl := { slots := [(0, .own (.yl 687882715141)), (2, .rp 1), (3, .rp 1), (6, .int .i64), (7, .int .i64), (24, .own (.op 40966 0)), (52, .own (.op 40966 0)), (53, .own (.fn 20 [.op 40966 0])), (79, .own (.os 40993)), (80, .own (.pv (.int .i64 7))), (81, .own (.pv (.int .i64 3)))], blks := [(687882715141, .loop), (40966, .box [.own (.os 1606938044258990275541962092341162602522202993782792835342342)]), (40993, .box [.fs (FS.fn 104 [FS.ptr [FS.raw], FS.ptr [FS.raw], FS.ptr [FS.raw]]), .fs (FS.fn 104 [FS.ptr [FS.raw], FS.ptr [FS.raw], FS.ptr [FS.raw]]), .fs (FS.fn 104 [FS.ptr [FS.raw], FS.ptr [FS.raw], FS.ptr [FS.raw]]), .fs (FS.fn 104 [FS.ptr [FS.raw], FS.ptr [FS.raw], FS.ptr [FS.raw]]), .fs (FS.fn 73 [FS.ptr [FS.raw, FS.raw, FS.raw, FS.raw, FS.raw, FS.raw, FS.raw, FS.raw, FS.raw, FS.raw, FS.raw, FS.raw, FS.raw], FS.ptr [FS.fn 72 [FS.ptr [FS.raw]]]]), .fs (FS.fn 104 [FS.ptr [FS.raw], FS.ptr [FS.raw], FS.ptr [FS.raw]]), .fs (FS.fn 104 [FS.ptr [FS.raw], FS.ptr [FS.raw], FS.ptr [FS.raw]])]), (1606938044258990275541962092341162602522202993782792835342342, .arr 3 45)] }
def tpl_2817567601217609_1_0 : Tpl := { slots := [(0, .own (.yl 687882715141)), (1, .rp 13), (2, .fs (FS.ptr [FS.fn 72 [FS.ptr [FS.raw]]])), (9, .rs 5), (10, .int .i64), (11, .int .i64), (60, .own (.op 40966 0)), (88, .own (.op 40966 0)), (89, .own (.fn 20 [.op 40966 0])), (115, .own (.os 40993)), (116, .own (.pv (.int .i64 7))), (117, .own (.pv (.int .i64 4)))], blks := [(687882715141, .loop), (40966, .box [.own (.os 1606938044258990275541962092341162602522202993782792835342342)]), (40993, .box [.fs (FS.fn 104 [FS.ptr [FS.raw], FS.ptr [FS.raw], FS.ptr [FS.raw]]), .fs (FS.fn 104 [FS.ptr [FS.raw], FS.ptr [FS.raw], FS.ptr [FS.raw]]), .fs (FS.fn 104 [FS.ptr [FS.raw], FS.ptr [FS.raw], FS.ptr [FS.raw]]), .fs (FS.fn 104 [FS.ptr [FS.raw], FS.ptr [FS.raw], FS.ptr [FS.raw]]), .fs (FS.fn 73 [FS.ptr [FS.raw, FS.raw, FS.raw, FS.raw, FS.raw, FS.raw, FS.raw, FS.raw, FS.raw, FS.raw, FS.raw, FS.raw, FS.raw], FS.ptr [FS.fn 72 [FS.ptr [FS.raw]]]]), .fs (FS.fn 104 [FS.ptr [FS.raw], FS.ptr [FS.raw], FS.ptr [FS.raw]]), .fs (FS.fn 104 [FS.ptr [FS.raw], FS.ptr [FS.raw], FS.ptr [FS.raw]])]), (1606938044258990275541962092341162602522202993782792835342342, .arr 3 45)] }
def tpl_2817567601217609_4_0 : Tpl := { slots := [(0, .own (.yl 687882715141)), (1, .rp 13), (2, .fs (FS.ptr [FS.fn 72 [FS.ptr [FS.raw]]])), (4, .int .i64), (5, .own (.op 11540756894587326469 0)), (9, .rs 5), (10, .int .i64), (11, .int .i64), (17, .rs 5), (18, .int .i64), (19, .int .i64), (60, .own (.op 40966 0)), (88, .own (.op 40966 0)), (89, .own (.fn 20 [.op 40966 0])), (115, .own (.os 40993)), (116, .own (.pv (.int .i64 7))), (117, .own (.pv (.int .i64 4)))], blks := [(687882715141, .loop), (11540756894587326469, .box [.raw, .raw, .raw, .raw, .raw]), (40966, .box [.own (.os 1606938044258990275541962092341162602522202993782792835342342)]), (40993, .box [.fs (FS.fn 104 [FS.ptr [FS.raw], FS.ptr [FS.raw], FS.ptr [FS.raw]]), .fs (FS.fn 104 [FS.ptr [FS.raw], FS.ptr [FS.raw], FS.ptr [FS.raw]]), .fs (FS.fn 104 [FS.ptr [FS.raw], FS.ptr [FS.raw], FS.ptr [FS.raw]]), .fs (FS.fn 104 [FS.ptr [FS.raw], FS.ptr [FS.raw], FS.ptr [FS.raw]]), .fs (FS.fn 73 [FS.ptr [FS.raw, FS.raw, FS.raw, FS.raw, FS.raw, FS.raw, FS.raw, FS.raw, FS.raw, FS.raw, FS.raw, FS.raw, FS.raw], FS.ptr [FS.fn 72 [FS.ptr [FS.raw]]]]), .fs (FS.fn 104 [FS.ptr [FS.raw], FS.ptr [FS.raw], FS.ptr [FS.raw]]), .fs (FS.fn 104 [FS.ptr [FS.raw], FS.ptr [FS.raw], FS.ptr [FS.raw]])]), (1606938044258990275541962092341162602522202993782792835342342, .arr 3 45)] }
def tpl_2817567601217640_1_4 : Tpl := { slots := [(0, .own (.yl 687882715141)), (2, .rp 1), (3, .rp 1), (6, .int .i64), (7, .int .i64), (24, .own (.op 40966 0)), (52, .own (.op 40966 0)), (53, .own (.fn 20 [.op 40966 0])), (79, .own (.os 40993)), (80, .own (.pv (.int .i64 7))), (81, .own (.pv (.int .i64 5)))], blks := [(687882715141, .loop), (40966, .box [.own (.os 1606938044258990275541962092341162602522202993782792835342342)]), (40993, .box [.fs (FS.fn 104 [FS.ptr [FS.raw], FS.ptr [FS.raw], FS.ptr [FS.raw]]), .fs (FS.fn 104 [FS.ptr [FS.raw], FS.ptr [FS.raw], FS.ptr [FS.raw]]), .fs (FS.fn 104 [FS.ptr [FS.raw], FS.ptr [FS.raw], FS.ptr [FS.raw]]), .fs (FS.fn 104 [FS.ptr [FS.raw], FS.ptr [FS.raw], FS.ptr [FS.raw]]), .fs (FS.fn 73 [FS.ptr [FS.raw, FS.raw, FS.raw, FS.raw, FS.raw, FS.raw, FS.raw, FS.raw, FS.raw, FS.raw, FS.raw, FS.raw, FS.raw], FS.ptr [FS.fn 72 [FS.ptr [FS.raw]]]]), .fs (FS.fn 104 [FS.ptr [FS.raw], FS.ptr [FS.raw], FS.ptr [FS.raw]]), .fs (FS.fn 104 [FS.ptr [FS.raw], FS.ptr [FS.raw], FS.ptr [FS.raw]])]), (1606938044258990275541962092341162602522202993782792835342342, .arr 3 45)] }
def tpl_2817567601217640_1_5 : Tpl := { slots := [(0, .own (.yl 687882715141)), (2, .rp 1), (3, .rp 1), (6, .int .i64), (7, .int .i64), (24, .own (.op 40966 0)), (52, .own (.op 40966 0)), (53, .own (.fn 20 [.op 40966 0])), (79, .own (.os 40993)), (80, .own (.pv (.int .i64 7))), (81, .own (.pv (.int .i64 6)))], blks := [(687882715141, .loop), (40966, .box [.own (.os 1606938044258990275541962092341162602522202993782792835342342)]), (40993, .box [.fs (FS.fn 104 [FS.ptr [FS.raw], FS.ptr [FS.raw], FS.ptr [FS.raw]]), .fs (FS.fn 104 [FS.ptr [FS.raw], FS.ptr [FS.raw], FS.ptr [FS.raw]]), .fs (FS.fn 104 [FS.ptr [FS.raw], FS.ptr [FS.raw], FS.ptr [FS.raw]]), .fs (FS.fn 104 [FS.ptr [FS.raw], FS.ptr [FS.raw], FS.ptr [FS.raw]]), .fs (FS.fn 73 [FS.ptr [FS.raw, FS.raw, FS.raw, FS.raw, FS.raw, FS.raw, FS.raw, FS.raw, FS.raw, FS.raw, FS.raw, FS.raw, FS.raw], FS.ptr [FS.fn 72 [FS.ptr [FS.raw]]]]), .fs (FS.fn 104 [FS.ptr [FS.raw], FS.ptr [FS.raw], FS.ptr [FS.raw]]), .fs (FS.fn 104 [FS.ptr [FS.raw], FS.ptr [FS.raw], FS.ptr [FS.raw]])]), (1606938044258990275541962092341162602522202993782792835342342, .arr 3 45)] }
def tpl_8_4_0 : Tpl := { slots := [(0, .rs 3), (1, .rs 3), (5, .int .i64)], blks := [] }
def tpl_18_5_0 : Tpl := { slots := [(0, .rs 4), (1, .int .i64), (5, .int .i64), (6, .int .i64)], blks := [] }
def tpl_7_4_0 : Tpl := { slots := [(1, .own (.op 28673 0)), (3, .int .i64)], blks := [(28673, .box [.rs 4, .rs 3, .rs 10, .rs 3, .rs 5, .rs 4, .rs 2, .rs 3, .rs 4, .rs 6, .int .i64, .int .i64, .int .i64])] }
def tpl_116_4_0 : Tpl := { slots := [(0, .rs 10), (1, .rs 3), (2, .int .i64), (3, .int .i64), (9, .int .i64)], blks := [] }
def tpl_42_3_0 : Tpl := { slots := [(0, .rs 10), (1, .rs 3), (2, .int .i64), (3, .int .i64)], blks := [] }
def tpl_41_2_0 : Tpl := { slots := [(1, .int .i64), (2, .own (.op 167938 0)), (5, .int .i64)], blks := [(167938, .box [.rs 4, .rs 3, .rs 10, .rs 3, .rs 5, .rs 4, .rs 2, .rs 3, .rs 4, .rs 6, .int .i64, .int .i64, .int .i64])] }
def tpl_117_4_0 : Tpl := { slots := [(2, .own (.op 479234 0)), (3, .own (.op 479235 0)), (5, .int .i64)], blks := [(479234, .box [.str, .int .i64, .int .i64, .bool, .rs 5]), (479235, .box [.str, .int .i64, .int .i64, .bool, .rs 5])] }
def tpl_89_4_0 : Tpl := { slots := [(2, .own (.op 364546 0)), (3, .own (.op 364547 0)), (5, .int .i64)], blks := [(364546, .box [.str, .int .i64, .int .i64, .bool, .rs 5]), (364547, .box [.str, .int .i64, .int .i64, .bool, .rs 5])] }
def tpl_89_7_0 : Tpl := { slots := [(2, .own (.op 364546 0)), (3, .own (.op 364547 0)), (5, .int .i64), (6, .int .i64)], blks := [(364546, .box [.str, .int .i64, .int .i64, .bool, .rs 5]), (364547, .box [.str, .int .i64, .int .i64, .bool, .rs 5])] }
def tpl_47_2_0 : Tpl := { slots := [(0, .rs 4), (1, .int .i64), (5, .int .i64)], blks := [] }
def tpl_45_2_0 : Tpl := { slots := [(1, .int .i64), (2, .own (.op 184322 0)), (5, .int .i64)], blks := [(184322, .box [.rs 4, .rs 3, .rs 10, .rs 3, .rs 5, .rs 4, .rs 2, .rs 3, .rs 4, .rs 6, .int .i64, .int .i64, .int .i64])] }
def tpl_44_2_0 : Tpl := { slots := [(1, .int .i64), (2, .own (.op 180226 0)), (5, .int .i64)], blks := [(180226, .box [.rs 4, .rs 3, .rs 10, .rs 3, .rs 5, .rs 4, .rs 2, .rs 3, .rs 4, .rs 6, .int .i64, .int .i64, .int .i64])] }
def tpl_44_5_0 : Tpl := { slots := [(1, .int .i64), (2, .own (.op 180226 0)), (5, .int .i64), (6, .int .i64)], blks := [(180226, .box [.rs 4, .rs 3, .rs 10, .rs 3, .rs 5, .rs 4, .rs 2, .rs 3, .rs 4, .rs 6, .int .i64, .int .i64, .int .i64])] }
def tpl_44_10_0 : Tpl := { slots := [(1, .int .i64), (2, .own (.op 180226 0)), (7, .int .i64)], blks := [(180226, .box [.rs 4, .rs 3, .rs 10, .rs 3, .rs 5, .rs 4, .rs 2, .rs 3, .rs 4, .rs 6, .int .i64, .int .i64, .int .i64])] }
def tpl_40_2_0 : Tpl := { slots := [(1, .int .i64), (2, .own (.op 163842 0)), (5, .int .i64)], blks := [(163842, .box [.rs 4, .rs 3, .rs 10, .rs 3, .rs 5, .rs 4, .rs 2, .rs 3, .rs 4, .rs 6, .int .i64, .int .i64, .int .i64])] }
def tpl_39_2_0 : Tpl := { slots := [(1, .int .i64), (2, .own (.op 159746 0)), (5, .int .i64)], blks := [(159746, .box [.rs 4, .rs 3, .rs 10, .rs 3, .rs 5, .rs 4, .rs 2, .rs 3, .rs 4, .rs 6, .int .i64, .int .i64, .int .i64])] }
def tpl_39_5_0 : Tpl := { slots := [(1, .int .i64), (2, .own (.op 159746 0)), (5, .int .i64), (6, .int .i64)], blks := [(159746, .box [.rs 4, .rs 3, .rs 10, .rs 3, .rs 5, .rs 4, .rs 2, .rs 3, .rs 4, .rs 6, .int .i64, .int .i64, .int .i64])] }
def tpl_39_10_0 : Tpl := { slots := [(1, .int .i64), (2, .own (.op 159746 0)), (7, .int .i64)], blks := [(159746, .box [.rs 4, .rs 3, .rs 10, .rs 3, .rs 5, .rs 4, .rs 2, .rs 3, .rs 4, .rs 6, .int .i64, .int .i64, .int .i64])] }
def tpl_76_2_0 : Tpl := { slots := [(0, .rs 4), (1, .str), (5, .int .i64)], blks := [] }
def tpl_75_4_0 : Tpl := { slots := [(0, .str), (3, .int .i64)], blks := [] }
def tpl_29_4_0 : Tpl := { slots := [(0, .rs 4), (4, .int .i64)], blks := [] }
def tpl_79_4_0 : Tpl := { slots := [(0, .str), (3, .int .i64)], blks := [] }
def tpl_31_4_0 : Tpl := { slots := [(0, .rs 10), (4, .int .i64)], blks := [] }
def tpl_31_9_0 : Tpl := { slots := [(0, .rs 10), (4, .int .i64), (5, .int .i64)], blks := [] }
def tpl_32_4_0 : Tpl := { slots := [(0, .rs 3), (1, .int .i64), (6, .int .i64)], blks := [] }
def tpl_32_11_0 : Tpl := { slots := [(0, .rs 3), (1, .int .i64), (6, .int .i64), (7, .int .i64)], blks := [] }
def tpl_77_4_0 : Tpl := { slots := [(0, .str), (3, .int .i64)], blks := [] }
def tpl_30_4_0 : Tpl := { slots := [(0, .rs 3), (4, .int .i64)], blks := [] }
def tpl_30_9_0 : Tpl := { slots := [(0, .rs 3), (4, .int .i64), (5, .int .i64)], blks := [] }
def tpl_107_2_0 : Tpl := { slots := [(0, .rs 5), (1, .str), (5, .int .i64)], blks := [] }
def tpl_108_4_0 : Tpl := { slots := [(0, .rs 5), (1, .int .i64), (5, .int .i64)], blks := [] }
def tpl_33_4_0 : Tpl := { slots := [(0, .rs 5), (1, .int .i64), (2, .int .i64), (3, .int .i64), (10, .int .i64)], blks := [] }
def tpl_110_6_0 : Tpl := { slots := [(1, .int .i64), (2, .own (.op 450562 0)), (6, .int .i64), (7, .own (.os 450567)), (8, .int .i64)], blks := [(450562, .box [.str, .int .i64, .int .i64, .bool, .rs 5]), (450567, .arr 5 55)] }
def tpl_109_5_0 : Tpl := { slots := [(1, .own (.op 446465 0)), (3, .own (.os 446467)), (4, .int .i64)], blks := [(446465, .box [.int .i64, .int .i64, .int .i64, .int .i64]), (446467, .arr 1 3)] }
def tpl_34_4_0 : Tpl := { slots := [(0, .rs 4), (1, .rs 5), (6, .int .i64)], blks := [] }
def tpl_34_14_0 : Tpl := { slots := [(0, .rs 4), (1, .rs 5), (6, .int .i64), (7, .own (.op 139271 0)), (8, .int .i64), (9, .bool), (10, .int .i64)], blks := [(139271, .box [.raw, .raw, .raw, .raw])] }
def tpl_113_2_0 : Tpl := { slots := [(0, .rs 1), (1, .int .i64), (5, .int .i64)], blks := [] }
def tpl_129_2_0 : Tpl := { slots := [(0, .rs 2), (1, .int .i64), (6, .int .i64)], blks := [] }
def tpl_114_3_0 : Tpl := { slots := [(0, .rs 2), (5, .own (.os 466953)), (11, .int .i64), (12, .int .i64)], blks := [(466953, .arr 1 3)] }
def tpl_112_2_0 : Tpl := { slots := [(0, .rs 4), (1, .int .i64), (5, .int .i64)], blks := [] }
def tpl_83_15_0 : Tpl := { slots := [(0, .rs 2), (1, .int .i64), (9, .own (.op 339977 0)), (13, .int .i64)], blks := [(339977, .box [.raw, .raw])] }
def tpl_35_4_0 : Tpl := { slots := [(0, .rs 2), (1, .rs 5), (2, .rs 4), (8, .int .i64)], blks := [] }
def tpl_115_2_0 : Tpl := { slots := [(0, .rs 5), (1, .rs 5), (2, .int .i64), (9, .int .i64)], blks := [] }
def tpl_115_6_0 : Tpl := { slots := [(0, .rs 5), (1, .rs 5), (2, .int .i64), (9, .int .i64), (10, .int .i64)], blks := [] }
def tpl_84_10_0 : Tpl := { slots := [(0, .rs 3), (1, .int .i64), (11, .own (.op 344075 0)), (15, .int .i64)], blks := [(344075, .box [.raw, .raw, .raw])] }
def tpl_36_4_0 : Tpl := { slots := [(0, .rs 3), (1, .rs 5), (2, .rs 4), (3, .int .i64), (10, .int .i64)], blks := [] }
def tpl_85_2_0 : Tpl := { slots := [(0, .rs 4), (1, .int .i64), (6, .int .i64)], blks := [] }
def tpl_85_10_0 : Tpl := { slots := [(0, .rs 4), (1, .int .i64), (6, .int .i64), (7, .own (.op 348167 0)), (8, .int .i64)], blks := [(348167, .box [.raw, .raw, .raw, .raw])] }
def tpl_38_7_0 : Tpl := { slots := [(4, .rs 6), (5, .int .i64)], blks := [] }
def tpl_38_12_0 : Tpl := { slots := [(4, .rs 6), (5, .int .i64), (6, .int .i64)], blks := [] }
def tpl_4_6_0 : Tpl := { slots := [(1, .own (.op 16385 0)), (3, .rs 3), (4, .int .i64), (5, .int .i64), (6, .int .i64), (7, .int .i64)], blks := [(16385, .box [.rs 4, .rs 3, .rs 10, .rs 3, .rs 5, .rs 4, .rs 2, .rs 3, .rs 4, .rs 6, .int .i64, .int .i64, .int .i64])] }
def hints (f k : Nat) : List Tpl :=
  bif Nat.beq f 9 then (bif Nat.beq k 3 then [tpl_9_3_0] else []) else
  bif Nat.beq f 23 then (bif Nat.beq k 3 then [tpl_23_3_0] else []) else
  bif Nat.beq f 127 then (bif Nat.beq k 6 then [tpl_127_6_0] else []) else
  bif Nat.beq f 71 then (bif Nat.beq k 2 then [tpl_71_2_0] else []) else
  bif Nat.beq f 24 then (bif Nat.beq k 3 then [tpl_24_3_0] else []) else
  bif Nat.beq f 25 then (bif Nat.beq k 3 then [tpl_25_3_0] else []) else
  bif Nat.beq f 22 then (bif Nat.beq k 3 then [tpl_22_3_0] else []) else
  bif Nat.beq f 21 then (bif Nat.beq k 3 then [tpl_21_3_0] else bif Nat.beq k 6 then [tpl_21_6_0] else bif Nat.beq k 12 then [tpl_21_12_0] else []) else
  bif Nat.beq f 27 then (bif Nat.beq k 3 then [tpl_27_3_0] else bif Nat.beq k 9 then [tpl_27_9_0] else bif Nat.beq k 15 then [tpl_27_15_0] else bif Nat.beq k 20 then [tpl_27_20_0] else []) else
  bif Nat.beq f 26 then (bif Nat.beq k 3 then [tpl_26_3_0] else bif Nat.beq k 6 then [tpl_26_6_0] else bif Nat.beq k 13 then [tpl_26_13_0] else []) else
  bif Nat.beq f 91 then (bif Nat.beq k 2 then [tpl_91_2_0] else []) else
  bif Nat.beq f 51 then (bif Nat.beq k 5 then [tpl_51_5_0] else []) else
  bif Nat.beq f 69 then (bif Nat.beq k 7 then [tpl_69_7_0] else []) else
  bif Nat.beq f 53 then (bif Nat.beq k 5 then [tpl_53_5_0] else []) else
  bif Nat.beq f 55 then (bif Nat.beq k 5 then [tpl_55_5_0] else []) else
  bif Nat.beq f 57 then (bif Nat.beq k 5 then [tpl_57_5_0] else []) else
  bif Nat.beq f 94 then (bif Nat.beq k 4 then [tpl_94_4_0] else []) else
  bif Nat.beq f 59 then (bif Nat.beq k 5 then [tpl_59_5_0] else []) else
  bif Nat.beq f 120 then (bif Nat.beq k 7 then [tpl_120_7_0] else []) else
  bif Nat.beq f 61 then (bif Nat.beq k 4 then [tpl_61_4_0] else bif Nat.beq k 12 then [tpl_61_12_0] else []) else
  bif Nat.beq f 132 then (bif Nat.beq k 2 then [tpl_132_2_0] else []) else
  bif Nat.beq f 124 then (bif Nat.beq k 3 then [tpl_124_3_0] else []) else
  bif Nat.beq f 100 then (bif Nat.beq k 2 then [tpl_100_2_0] else []) else
  bif Nat.beq f 123 then (bif Nat.beq k 2 then [tpl_123_2_0] else []) else
  bif Nat.beq f 63 then (bif Nat.beq k 5 then [tpl_63_5_0] else []) else
  bif Nat.beq f 125 then (bif Nat.beq k 2 then [tpl_125_2_0] else []) else
  bif Nat.beq f 126 then (bif Nat.beq k 2 then [tpl_126_2_0] else []) else
  bif Nat.beq f 65 then (bif Nat.beq k 5 then [tpl_65_5_0] else []) else
  bif Nat.beq f 102 then (bif Nat.beq k 3 then [tpl_102_3_0] else []) else
  bif Nat.beq f 106 then (bif Nat.beq k 4 then [tpl_106_4_0] else []) else
  bif Nat.beq f 74 then (bif Nat.beq k 5 then [tpl_74_5_0] else []) else
  bif Nat.beq f 2817567601217640 then (bif Nat.beq k 1 then [tpl_2817567601217640_1_0, tpl_2817567601217640_1_1, tpl_2817567601217640_1_2, tpl_2817567601217640_1_3, tpl_2817567601217640_1_4, tpl_2817567601217640_1_5] else []) else
  bif Nat.beq f 2817567601217609 then (bif Nat.beq k 1 then [tpl_2817567601217609_1_0] else bif Nat.beq k 4 then [tpl_2817567601217609_4_0] else []) else
  bif Nat.beq f 8 then (bif Nat.beq k 4 then [tpl_8_4_0] else []) else
  bif Nat.beq f 18 then (bif Nat.beq k 5 then [tpl_18_5_0] else []) else
  bif Nat.beq f 7 then (bif Nat.beq k 4 then [tpl_7_4_0] else []) else
  bif Nat.beq f 116 then (bif Nat.beq k 4 then [tpl_116_4_0] else []) else
  bif Nat.beq f 42 then (bif Nat.beq k 3 then [tpl_42_3_0] else []) else
  bif Nat.beq f 41 then (bif Nat.beq k 2 then [tpl_41_2_0] else []) else
  bif Nat.beq f 117 then (bif Nat.beq k 4 then [tpl_117_4_0] else []) else
  bif Nat.beq f 89 then (bif Nat.beq k 4 then [tpl_89_4_0] else bif Nat.beq k 7 then [tpl_89_7_0] else []) else
  bif Nat.beq f 47 then (bif Nat.beq k 2 then [tpl_47_2_0] else []) else
  bif Nat.beq f 45 then (bif Nat.beq k 2 then [tpl_45_2_0] else []) else
  bif Nat.beq f 44 then (bif Nat.beq k 2 then [tpl_44_2_0] else bif Nat.beq k 5 then [tpl_44_5_0] else bif Nat.beq k 10 then [tpl_44_10_0] else []) else
  bif Nat.beq f 40 then (bif Nat.beq k 2 then [tpl_40_2_0] else []) else
  bif Nat.beq f 39 then (bif Nat.beq k 2 then [tpl_39_2_0] else bif Nat.beq k 5 then [tpl_39_5_0] else bif Nat.beq k 10 then [tpl_39_10_0] else []) else
  bif Nat.beq f 76 then (bif Nat.beq k 2 then [tpl_76_2_0] else []) else
  bif Nat.beq f 75 then (bif Nat.beq k 4 then [tpl_75_4_0] else []) else
  bif Nat.beq f 29 then (bif Nat.beq k 4 then [tpl_29_4_0] else []) else
  bif Nat.beq f 79 then (bif Nat.beq k 4 then [tpl_79_4_0] else []) else
  bif Nat.beq f 31 then (bif Nat.beq k 4 then [tpl_31_4_0] else bif Nat.beq k 9 then [tpl_31_9_0] else []) else
  bif Nat.beq f 32 then (bif Nat.beq k 4 then [tpl_32_4_0] else bif Nat.beq k 11 then [tpl_32_11_0] else []) else
  bif Nat.beq f 77 then (bif Nat.beq k 4 then [tpl_77_4_0] else []) else
  bif Nat.beq f 30 then (bif Nat.beq k 4 then [tpl_30_4_0] else bif Nat.beq k 9 then [tpl_30_9_0] else []) else
  bif Nat.beq f 107 then (bif Nat.beq k 2 then [tpl_107_2_0] else []) else
  bif Nat.beq f 108 then (bif Nat.beq k 4 then [tpl_108_4_0] else []) else
  bif Nat.beq f 33 then (bif Nat.beq k 4 then [tpl_33_4_0] else []) else
  bif Nat.beq f 110 then (bif Nat.beq k 6 then [tpl_110_6_0] else []) else
  bif Nat.beq f 109 then (bif Nat.beq k 5 then [tpl_109_5_0] else []) else
  bif Nat.beq f 34 then (bif Nat.beq k 4 then [tpl_34_4_0] else bif Nat.beq k 14 then [tpl_34_14_0] else []) else
  bif Nat.beq f 113 then (bif Nat.beq k 2 then [tpl_113_2_0] else []) else
  bif Nat.beq f 129 then (bif Nat.beq k 2 then [tpl_129_2_0] else []) else
  bif Nat.beq f 114 then (bif Nat.beq k 3 then [tpl_114_3_0] else []) else
  bif Nat.beq f 112 then (bif Nat.beq k 2 then [tpl_112_2_0] else []) else
  bif Nat.beq f 83 then (bif Nat.beq k 15 then [tpl_83_15_0] else []) else
  bif Nat.beq f 35 then (bif Nat.beq k 4 then [tpl_35_4_0] else []) else
  bif Nat.beq f 115 then (bif Nat.beq k 2 then [tpl_115_2_0] else bif Nat.beq k 6 then [tpl_115_6_0] else []) else
  bif Nat.beq f 84 then (bif Nat.beq k 10 then [tpl_84_10_0] else []) else
  bif Nat.beq f 36 then (bif Nat.beq k 4 then [tpl_36_4_0] else []) else
  bif Nat.beq f 85 then (bif Nat.beq k 2 then [tpl_85_2_0] else bif Nat.beq k 10 then [tpl_85_10_0] else []) else
  bif Nat.beq f 38 then (bif Nat.beq k 7 then [tpl_38_7_0] else bif Nat.beq k 12 then [tpl_38_12_0] else []) else
  bif Nat.beq f 4 then (bif Nat.beq k 6 then [tpl_4_6_0] else []) else
  []
noncomputable def S : Seat := { P := Tryz.prog, glob := fun _ => none, hint := hints, fnr := fun g => bif Nat.beq g 70 then some (FS.fn 104 [FS.ptr [FS.raw], FS.ptr [FS.raw], FS.ptr [FS.raw]]) else bif Nat.beq g 21 then some (FS.fn 104 [FS.ptr [FS.raw], FS.ptr [FS.raw], FS.ptr [FS.raw]]) else bif Nat.beq g 22 then some (FS.fn 104 [FS.ptr [FS.raw], FS.ptr [FS.raw], FS.ptr [FS.raw]]) else bif Nat.beq g 23 then some (FS.fn 104 [FS.ptr [FS.raw], FS.ptr [FS.raw], FS.ptr [FS.raw]]) else bif Nat.beq g 24 then some (FS.fn 104 [FS.ptr [FS.raw], FS.ptr [FS.raw], FS.ptr [FS.raw]]) else bif Nat.beq g 26 then some (FS.fn 104 [FS.ptr [FS.raw], FS.ptr [FS.raw], FS.ptr [FS.raw]]) else bif Nat.beq g 27 then some (FS.fn 104 [FS.ptr [FS.raw], FS.ptr [FS.raw], FS.ptr [FS.raw]]) else bif Nat.beq g 25 then some (FS.fn 73 [FS.ptr [FS.raw, FS.raw, FS.raw, FS.raw, FS.raw, FS.raw, FS.raw, FS.raw, FS.raw, FS.raw, FS.raw, FS.raw, FS.raw], FS.ptr [FS.fn 72 [FS.ptr [FS.raw]]]]) else none }
def tab_0 : Tab := []
def otab_0 : Tab := []
def tab_1 : Tab := (28, law24_example_M) :: tab_0
def tab_2 : Tab := (9, law24_to_M) :: tab_1
def tab_3 : Tab := (46, lint_Text_1_M) :: tab_2
def tab_4 : Tab := (15, lint_Text_M) :: tab_3
def tab_5 : Tab := (23, lint_calendars_M) :: tab_4
def tab_6 : Tab := (93, date_Valid_M) :: tab_5
def tab_7 : Tab := (133, date_Weekday_M) :: tab_6
def tab_8 : Tab := (127, calendar_Reason_M) :: tab_7
def tab_9 : Tab := (105, calendar_Active_M) :: tab_8
def tab_10 : Tab := (71, calendar_Next_M) :: tab_9
def tab_11 : Tab := (24, lint_idle_M) :: tab_10
def tab_12 : Tab := (25, lint_overtaking_M) :: tab_11
def tab_13 : Tab := (72, lint_overtaking_1_M) :: tab_12
def tab_14 : Tab := (22, lint_routes_M) :: tab_13
def tab_15 : Tab := (21, lint_stops_M) :: tab_14
def tab_16 : Tab := (27, lint_unpaid_M) :: tab_15
def tab_17 : Tab := (26, lint_unreachable_M) :: tab_16
def tab_18 : Tab := (91, ident_Valid_M) :: tab_17
def tab_19 : Tab := (51, stop_Check_M) :: tab_18
def tab_20 : Tab := (50, timetable_Check_1_M) :: tab_19
def tab_21 : Tab := (103, product_within_M) :: tab_20
def tab_22 : Tab := (69, product_Check_M) :: tab_21
def tab_23 : Tab := (68, timetable_Check_10_M) :: tab_22
def tab_24 : Tab := (92, route_known_M) :: tab_23
def tab_25 : Tab := (53, route_Check_M) :: tab_24
def tab_26 : Tab := (52, timetable_Check_2_M) :: tab_25
def tab_27 : Tab := (55, calendar_Check_M) :: tab_26
def tab_28 : Tab := (54, timetable_Check_3_M) :: tab_27
def tab_29 : Tab := (57, calendar_CheckExceptions_M) :: tab_28
def tab_30 : Tab := (56, timetable_Check_4_M) :: tab_29
def tab_31 : Tab := (119, call_one_M) :: tab_30
def tab_32 : Tab := (94, call_Check_M) :: tab_31
def tab_33 : Tab := (59, trip_Check_M) :: tab_32
def tab_34 : Tab := (58, timetable_Check_5_M) :: tab_33
def tab_35 : Tab := (97, frequency_count_M) :: tab_34
def tab_36 : Tab := (134, frequency_moved_1_M) :: tab_35
def tab_37 : Tab := (135, frequency_wide_M) :: tab_36
def tab_38 : Tab := (131, frequency_moved_M) :: tab_37
def tab_39 : Tab := (120, frequency_Calls_M) :: tab_38
def tab_40 : Tab := (121, frequency_last_M) :: tab_39
def tab_41 : Tab := (96, frequency_fits_M) :: tab_40
def tab_42 : Tab := (95, frequency_sound_M) :: tab_41
def tab_43 : Tab := (61, frequency_Check_M) :: tab_42
def tab_44 : Tab := (60, timetable_Check_6_M) :: tab_43
def tab_45 : Tab := (99, through_follows_M) :: tab_44
def tab_46 : Tab := (132, through_Next_M) :: tab_45
def tab_47 : Tab := (124, through_Chain_M) :: tab_46
def tab_48 : Tab := (100, through_leads_M) :: tab_47
def tab_49 : Tab := (123, frequency_Repeated_M) :: tab_48
def tab_50 : Tab := (122, through_pair_1_M) :: tab_49
def tab_51 : Tab := (98, through_pair_M) :: tab_50
def tab_52 : Tab := (63, through_Check_M) :: tab_51
def tab_53 : Tab := (62, timetable_Check_7_M) :: tab_52
def tab_54 : Tab := (125, through_alighting_M) :: tab_53
def tab_55 : Tab := (126, through_boarding_M) :: tab_54
def tab_56 : Tab := (101, through_Meets_M) :: tab_55
def tab_57 : Tab := (65, through_CheckGuarantees_M) :: tab_56
def tab_58 : Tab := (64, timetable_Check_8_M) :: tab_57
def tab_59 : Tab := (102, footpath_sound_M) :: tab_58
def tab_60 : Tab := (67, footpath_Check_M) :: tab_59
def tab_61 : Tab := (66, timetable_Check_9_M) :: tab_60
def tab_62 : Tab := (19, timetable_Check_M) :: tab_61
def tab_63 : Tab := (106, trip_SamePattern_M) :: tab_62
def tab_64 : Tab := (74, trip_Overtakes_M) :: tab_63
def tab_65 : Tab := (10, lint_Warnings_M) :: tab_64
def tab_66 : Tab := (8, ref24_Same_M) :: tab_65
def tab_67 : Tab := (12, law24_exampleHolds_M) :: tab_66
def tab_68 : Tab := (48, ref18_Sound_M) :: tab_67
def tab_69 : Tab := (49, ref18_count_M) :: tab_68
def tab_70 : Tab := (18, ref18_Many_M) :: tab_69
def tab_71 : Tab := (7, ref24_Large_M) :: tab_70
def tab_72 : Tab := (80, ref02_Valid_M) :: tab_71
def tab_73 : Tab := (130, ref02_Weekday_M) :: tab_72
def tab_74 : Tab := (116, ref14_Reason_M) :: tab_73
def tab_75 : Tab := (88, ref14_Active_M) :: tab_74
def tab_76 : Tab := (42, ref14_Next_M) :: tab_75
def tab_77 : Tab := (41, ref24_calendarUsed_M) :: tab_76
def tab_78 : Tab := (117, ref17_SamePattern_M) :: tab_77
def tab_79 : Tab := (118, ref17_event_M) :: tab_78
def tab_80 : Tab := (89, ref17_Overtakes_M) :: tab_79
def tab_81 : Tab := (47, ref18_Repeated_M) :: tab_80
def tab_82 : Tab := (43, ref24_overtakes_M) :: tab_81
def tab_83 : Tab := (90, ref15_Bit_M) :: tab_82
def tab_84 : Tab := (45, ref24_paid_M) :: tab_83
def tab_85 : Tab := (44, ref24_reached_M) :: tab_84
def tab_86 : Tab := (40, ref24_routeUsed_M) :: tab_85
def tab_87 : Tab := (39, ref24_stopUsed_M) :: tab_86
def tab_88 : Tab := (14, ref24_Holds_M) :: tab_87
def tab_89 : Tab := (76, ref13_Find_M) :: tab_88
def tab_90 : Tab := (75, ref13_Identifier_M) :: tab_89
def tab_91 : Tab := (29, ref13_Check_M) :: tab_90
def tab_92 : Tab := (79, ref05_Valid_M) :: tab_91
def tab_93 : Tab := (31, ref14_Check_M) :: tab_92
def tab_94 : Tab := (32, ref14_CheckExceptions_M) :: tab_93
def tab_95 : Tab := (77, ref15_Name_M) :: tab_94
def tab_96 : Tab := (78, ref15_mode_M) :: tab_95
def tab_97 : Tab := (30, ref15_Check_M) :: tab_96
def tab_98 : Tab := (107, ref17_Find_M) :: tab_97
def tab_99 : Tab := (108, ref17_calls_M) :: tab_98
def tab_100 : Tab := (81, ref17_one_M) :: tab_99
def tab_101 : Tab := (33, ref17_Check_M) :: tab_100
def tab_102 : Tab := (128, ref18_Shift_M) :: tab_101
def tab_103 : Tab := (110, ref18_Calls_M) :: tab_102
def tab_104 : Tab := (109, ref18_Starts_M) :: tab_103
def tab_105 : Tab := (82, ref18_fits_M) :: tab_104
def tab_106 : Tab := (34, ref18_Check_M) :: tab_105
def tab_107 : Tab := (113, ref19_Has_M) :: tab_106
def tab_108 : Tab := (129, ref19_Next_M) :: tab_107
def tab_109 : Tab := (114, ref19_Chain_M) :: tab_108
def tab_110 : Tab := (111, ref19_in_M) :: tab_109
def tab_111 : Tab := (112, ref19_repeated_M) :: tab_110
def tab_112 : Tab := (83, ref19_one_M) :: tab_111
def tab_113 : Tab := (35, ref19_Check_M) :: tab_112
def tab_114 : Tab := (115, ref19_Meets_M) :: tab_113
def tab_115 : Tab := (84, ref19_guarantee_M) :: tab_114
def tab_116 : Tab := (36, ref19_CheckGuarantees_M) :: tab_115
def tab_117 : Tab := (85, ref20_valid_M) :: tab_116
def tab_118 : Tab := (37, ref20_Check_M) :: tab_117
def tab_119 : Tab := (86, ref21_within_M) :: tab_118
def tab_120 : Tab := (87, ref21_Right_M) :: tab_119
def tab_121 : Tab := (38, ref21_Check_M) :: tab_120
def tab_122 : Tab := (13, ref24_Valid_M) :: tab_121
def tab_123 : Tab := (4, law24_LintSound_M) :: tab_122
end Go.Proofs.YtnbhhepiekhbjaaGreat
