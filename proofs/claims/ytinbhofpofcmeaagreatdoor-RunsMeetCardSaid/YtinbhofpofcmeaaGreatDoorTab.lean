/- The table of the functions of this seat: shapes of loop heads, and what is known of each function. Printed by a program of the author. -/
import Derived.Test.YtinbhofpofcmeaaGreatDoorProg
import Derived.Test.YtinbhofpofcmeaaGreatDoorAbSeat
import Derived.Test.YtinbhofpofcmeaaGreatDoorSh2
import Derived.KernelRfl
namespace Go.Proofs.YtinbhofpofcmeaaGreatDoor
open Go.Ab
set_option maxRecDepth 100000
def tpl_42_2_0 : Tpl := { slots := [(0, .str), (3, .int .i64)], blks := [] }
def tpl_55_6_0 : Tpl := { slots := [(2, .int .i64), (3, .int .i64), (9, .int .i64), (10, .own (.op 225290 0)), (32, .rs 3), (33, .int .i64), (34, .int .i64)], blks := [(225290, .box [.raw, .raw, .raw, .raw, .raw, .raw, .raw, .raw, .raw, .raw])] }
def tpl_114_3_0 : Tpl := { slots := [(1, .int .i64), (5, .own (.os 466949)), (8, .rs 5), (9, .int .i64), (10, .int .i64)], blks := [(466949, .arr 5 84)] }
def tpl_115_7_0 : Tpl := { slots := [(1, .int .i64), (6, .int .i64), (7, .own (.os 471063)), (29, .int .i64), (30, .int .i64)], blks := [(471063, .arr 5 84)] }
def tpl_23_4_0 : Tpl := { slots := [(1, .int .i64), (5, .own (.op 94213 0)), (6, .own (.op 94214 0)), (11, .rs 4), (12, .int .i64), (13, .int .i64)], blks := [(94213, .box [.own (.os 1606938044258990275541962092341162602522202993782792835395589)]), (94214, .box [.own (.fn 56 [.op 94213 0])]), (1606938044258990275541962092341162602522202993782792835395589, .arr 1 3)] }
def tpl_385970273_2_0 : Tpl := { slots := [(0, .own (.yl 94231)), (1, .own (.op 1580917297153 0)), (3, .int .i64), (22, .int .i64), (26, .own (.op 94213 0)), (27, .own (.op 94214 0)), (32, .rs 4), (33, .int .i64), (34, .int .i64)], blks := [(94231, .loop), (1580917297153, .box [.raw, .raw, .raw, .raw]), (94213, .box [.own (.os 1606938044258990275541962092341162602522202993782792835395589)]), (94214, .box [.own (.fn 56 [.op 94213 0])]), (1606938044258990275541962092341162602522202993782792835395589, .arr 1 3)] }
def tpl_108640973604986594369592_2_0 : Tpl := { slots := [(0, .int .i64), (1, .own (.op 94213 0)), (3, .int .i64), (64, .own (.yl 94231)), (65, .own (.op 1580917297153 0)), (67, .int .i64), (86, .int .i64), (90, .own (.op 94213 0)), (91, .own (.op 94214 0)), (96, .rs 4), (97, .int .i64), (98, .int .i64)], blks := [(94213, .box [.own (.os 1606938044258990275541962092341162602522202993782792835395589)]), (94231, .busy), (1580917297153, .box [.raw, .raw, .raw, .raw]), (94214, .box [.own (.fn 56 [.op 94213 0])]), (1606938044258990275541962092341162602522202993782792835395589, .arr 1 3)] }
def tpl_22_2_0 : Tpl := { slots := [(1, .int .i64), (7, .rs 4), (8, .int .i64), (9, .int .i64)], blks := [] }
def tpl_37_4_0 : Tpl := { slots := [(2, .int .i64), (3, .own (.op 151555 0)), (8, .own (.op 151560 0)), (9, .own (.fn 82 [.op 151560 0])), (10, .int .i64)], blks := [(151555, .box [.rs 4, .rs 3, .rs 10, .rs 3, .rs 5, .rs 4, .rs 2, .rs 3, .rs 4, .rs 6, .int .i64, .int .i64, .int .i64]), (151560, .box [.own (.os 1606938044258990275541962092341162602522202993782792835452936)]), (1606938044258990275541962092341162602522202993782792835452936, .arr 8 48)] }
def tpl_37_7_0 : Tpl := { slots := [(2, .int .i64), (3, .own (.op 151555 0)), (8, .own (.op 151560 0)), (9, .own (.fn 82 [.op 151560 0])), (10, .int .i64), (21, .int .i64), (22, .int .i64)], blks := [(151555, .box [.rs 4, .rs 3, .rs 10, .rs 3, .rs 5, .rs 4, .rs 2, .rs 3, .rs 4, .rs 6, .int .i64, .int .i64, .int .i64]), (151560, .box [.own (.os 1606938044258990275541962092341162602522202993782792835452936)]), (1606938044258990275541962092341162602522202993782792835452936, .arr 8 48)] }
def tpl_620875859_8_0 : Tpl := { slots := [(2, .int .i64), (3, .own (.fn 82 [.op 151560 0])), (8, .own (.op 2543107518472 0)), (9, .own (.op 2543107518473 0)), (58, .rs 1), (59, .int .i64), (60, .int .i64), (85, .int .i64), (86, .own (.op 151555 0)), (91, .own (.op 151560 0)), (92, .own (.fn 82 [.op 151560 0])), (93, .int .i64), (104, .int .i64), (105, .int .i64)], blks := [(151560, .box [.own (.os 1606938044258990275541962092341162602522202993782792835452936)]), (2543107518472, .box [.raw, .raw, .raw, .raw, .raw]), (2543107518473, .box [.int .i64, .int .i64, .int .i64, .str, .int .i64, .bool, .bool, .rs 5]), (151555, .box [.rs 4, .rs 3, .rs 10, .rs 3, .rs 5, .rs 4, .rs 2, .rs 3, .rs 4, .rs 6, .int .i64, .int .i64, .int .i64]), (1606938044258990275541962092341162602522202993782792835452936, .arr 8 48)], bz := [(2543107518473, 7, 5)] }
def tpl_63_5_0 : Tpl := { slots := [(4, .own (.om 258058)), (11, .rs 4), (12, .int .i64), (13, .int .i64)], blks := [(258058, .map 9)] }
def tpl_81_7_0 : Tpl := { slots := [(4, .own (.om 331803)), (29, .rs 6), (30, .int .i64), (31, .int .i64)], blks := [(331803, .map 9)] }
def tpl_65_5_0 : Tpl := { slots := [(4, .own (.om 266250)), (11, .rs 3), (12, .int .i64), (13, .int .i64)], blks := [(266250, .map 9)] }
def tpl_67_5_0 : Tpl := { slots := [(4, .own (.om 274442)), (11, .rs 10), (12, .int .i64), (13, .int .i64)], blks := [(274442, .map 9)] }
def tpl_69_5_0 : Tpl := { slots := [(1, .int .i64), (6, .own (.om 282637)), (14, .rs 3), (15, .int .i64), (16, .int .i64)], blks := [(282637, .map 163)] }
def tpl_106_4_0 : Tpl := { slots := [(0, .rs 5), (1, .int .i64), (2, .int .i64), (3, .int .i64), (21, .int .i64), (22, .int .i64)], blks := [] }
def tpl_71_5_0 : Tpl := { slots := [(1, .int .i64), (2, .int .i64), (3, .int .i64), (10, .own (.om 290834)), (19, .rs 5), (20, .int .i64), (21, .int .i64)], blks := [(290834, .map 9)] }
def tpl_73_4_0 : Tpl := { slots := [(0, .rs 4), (1, .rs 5), (15, .rs 4), (16, .int .i64), (17, .int .i64)], blks := [] }
def tpl_73_12_0 : Tpl := { slots := [(0, .rs 4), (1, .rs 5), (6, .int .i64), (7, .own (.op 299015 0)), (8, .int .i64), (9, .bool), (15, .rs 4), (16, .int .i64), (17, .int .i64), (51, .rs 4), (52, .int .i64), (53, .int .i64)], blks := [(299015, .box [.raw, .raw, .raw, .raw])] }
def tpl_100_2_0 : Tpl := { slots := [(1, .int .i64), (8, .rs 2), (9, .int .i64), (10, .int .i64)], blks := [] }
def tpl_144_3_0 : Tpl := { slots := [(0, .rs 2), (5, .own (.os 589834)), (6, .own (.om 589835))], blks := [(589834, .arr 1 3), (589835, .map 3)] }
def tpl_111_2_0 : Tpl := { slots := [(2, .int .i64), (11, .rs 1), (12, .int .i64), (13, .int .i64)], blks := [] }
def tpl_75_5_0 : Tpl := { slots := [(0, .rs 2), (1, .rs 5), (2, .rs 4), (8, .own (.om 307218)), (9, .own (.om 307219)), (20, .rs 2), (21, .int .i64), (22, .int .i64)], blks := [(307218, .map 3), (307219, .map 3)] }
def tpl_139_2_0 : Tpl := { slots := [(1, .int .i64), (7, .rs 5), (8, .int .i64), (9, .int .i64)], blks := [] }
def tpl_140_2_0 : Tpl := { slots := [(0, .rs 5), (1, .int .i64), (7, .rs 5), (8, .int .i64), (9, .int .i64)], blks := [] }
def tpl_77_5_0 : Tpl := { slots := [(1, .rs 5), (2, .rs 4), (3, .int .i64), (10, .own (.om 315413)), (22, .rs 3), (23, .int .i64), (24, .int .i64)], blks := [(315413, .map 157)] }
def tpl_112_3_0 : Tpl := { slots := [(1, .int .i64), (6, .own (.om 458762)), (11, .rs 4), (12, .int .i64), (13, .int .i64)], blks := [(458762, .map 204)] }
def tpl_47_2_0 : Tpl := { slots := [(0, .str), (4, .int .i64)], blks := [] }
def tpl_32_4_0 : Tpl := { slots := [(1, .own (.op 131073 0)), (3, .int .i64)], blks := [(131073, .box [.rs 4, .rs 3, .rs 10, .rs 3, .rs 5, .rs 4, .rs 2, .rs 3, .rs 4, .rs 6, .int .i64, .int .i64, .int .i64])] }
def tpl_12_4_0 : Tpl := { slots := [(1, .own (.op 49153 0)), (3, .int .i64)], blks := [(49153, .box [.rs 4, .rs 3, .rs 10, .rs 3, .rs 5, .rs 4, .rs 2, .rs 3, .rs 4, .rs 6, .int .i64, .int .i64, .int .i64])] }
def tpl_146_2_0 : Tpl := { slots := [(0, .rs 4), (1, .str), (5, .int .i64)], blks := [] }
def tpl_44_4_0 : Tpl := { slots := [(0, .str), (3, .int .i64)], blks := [] }
def tpl_116_4_0 : Tpl := { slots := [(0, .rs 4), (4, .int .i64)], blks := [] }
def tpl_149_4_0 : Tpl := { slots := [(0, .str), (3, .int .i64)], blks := [] }
def tpl_118_4_0 : Tpl := { slots := [(0, .rs 10), (4, .int .i64)], blks := [] }
def tpl_118_9_0 : Tpl := { slots := [(0, .rs 10), (4, .int .i64), (5, .int .i64)], blks := [] }
def tpl_119_4_0 : Tpl := { slots := [(0, .rs 3), (1, .int .i64), (6, .int .i64)], blks := [] }
def tpl_119_11_0 : Tpl := { slots := [(0, .rs 3), (1, .int .i64), (6, .int .i64), (7, .int .i64)], blks := [] }
def tpl_147_4_0 : Tpl := { slots := [(0, .str), (3, .int .i64)], blks := [] }
def tpl_117_4_0 : Tpl := { slots := [(0, .rs 3), (4, .int .i64)], blks := [] }
def tpl_117_9_0 : Tpl := { slots := [(0, .rs 3), (4, .int .i64), (5, .int .i64)], blks := [] }
def tpl_174_2_0 : Tpl := { slots := [(0, .rs 5), (1, .str), (5, .int .i64)], blks := [] }
def tpl_175_4_0 : Tpl := { slots := [(0, .rs 5), (1, .int .i64), (5, .int .i64)], blks := [] }
def tpl_120_4_0 : Tpl := { slots := [(0, .rs 5), (1, .int .i64), (2, .int .i64), (3, .int .i64), (10, .int .i64)], blks := [] }
def tpl_89_6_0 : Tpl := { slots := [(1, .int .i64), (2, .own (.op 364546 0)), (6, .int .i64), (7, .own (.os 364551)), (8, .int .i64)], blks := [(364546, .box [.str, .int .i64, .int .i64, .bool, .rs 5]), (364551, .arr 5 84)] }
def tpl_127_5_0 : Tpl := { slots := [(1, .own (.op 520193 0)), (3, .own (.os 520195)), (4, .int .i64)], blks := [(520193, .box [.int .i64, .int .i64, .int .i64, .int .i64]), (520195, .arr 1 3)] }
def tpl_121_4_0 : Tpl := { slots := [(0, .rs 4), (1, .rs 5), (6, .int .i64)], blks := [] }
def tpl_121_14_0 : Tpl := { slots := [(0, .rs 4), (1, .rs 5), (6, .int .i64), (7, .own (.op 495623 0)), (8, .int .i64), (9, .bool), (10, .int .i64)], blks := [(495623, .box [.raw, .raw, .raw, .raw])] }
def tpl_178_2_0 : Tpl := { slots := [(0, .rs 1), (1, .int .i64), (5, .int .i64)], blks := [] }
def tpl_102_2_0 : Tpl := { slots := [(0, .rs 2), (1, .int .i64), (6, .int .i64)], blks := [] }
def tpl_179_3_0 : Tpl := { slots := [(0, .rs 2), (5, .own (.os 733193)), (11, .int .i64), (12, .int .i64)], blks := [(733193, .arr 1 3)] }
def tpl_177_2_0 : Tpl := { slots := [(0, .rs 4), (1, .int .i64), (5, .int .i64)], blks := [] }
def tpl_154_15_0 : Tpl := { slots := [(0, .rs 2), (1, .int .i64), (9, .own (.op 630793 0)), (13, .int .i64)], blks := [(630793, .box [.raw, .raw])] }
def tpl_122_4_0 : Tpl := { slots := [(0, .rs 2), (1, .rs 5), (2, .rs 4), (8, .int .i64)], blks := [] }
def tpl_104_2_0 : Tpl := { slots := [(0, .rs 5), (1, .rs 5), (2, .int .i64), (9, .int .i64)], blks := [] }
def tpl_104_6_0 : Tpl := { slots := [(0, .rs 5), (1, .rs 5), (2, .int .i64), (9, .int .i64), (10, .int .i64)], blks := [] }
def tpl_155_10_0 : Tpl := { slots := [(0, .rs 3), (1, .int .i64), (11, .own (.op 634891 0)), (15, .int .i64)], blks := [(634891, .box [.raw, .raw, .raw])] }
def tpl_123_4_0 : Tpl := { slots := [(0, .rs 3), (1, .rs 5), (2, .rs 4), (3, .int .i64), (10, .int .i64)], blks := [] }
def tpl_156_2_0 : Tpl := { slots := [(0, .rs 4), (1, .int .i64), (6, .int .i64)], blks := [] }
def tpl_156_10_0 : Tpl := { slots := [(0, .rs 4), (1, .int .i64), (6, .int .i64), (7, .own (.op 638983 0)), (8, .int .i64)], blks := [(638983, .box [.raw, .raw, .raw, .raw])] }
def tpl_125_7_0 : Tpl := { slots := [(4, .rs 6), (5, .int .i64)], blks := [] }
def tpl_125_12_0 : Tpl := { slots := [(4, .rs 6), (5, .int .i64), (6, .int .i64)], blks := [] }
def tpl_38_2_0 : Tpl := { slots := [(1, .own (.op 155649 0)), (5, .int .i64)], blks := [(155649, .box [.rs 4, .rs 3, .rs 10, .rs 3, .rs 5, .rs 4, .rs 2, .rs 3, .rs 4, .rs 6, .int .i64, .int .i64, .int .i64])] }
def tpl_126_4_0 : Tpl := { slots := [(0, .rs 10), (1, .rs 3), (2, .int .i64), (3, .int .i64), (9, .int .i64)], blks := [] }
def tpl_88_3_0 : Tpl := { slots := [(0, .rs 4), (1, .int .i64), (5, .own (.os 360453)), (6, .int .i64)], blks := [(360453, .arr 1 3)] }
def tpl_88_8_0 : Tpl := { slots := [(0, .rs 4), (1, .int .i64), (5, .own (.os 360453)), (6, .int .i64), (7, .rs 1), (8, .int .i64)], blks := [(360453, .arr 1 3)] }
def tpl_88_12_0 : Tpl := { slots := [(0, .rs 4), (1, .int .i64), (5, .own (.os 360453)), (6, .int .i64), (7, .rs 1), (8, .int .i64), (9, .int .i64)], blks := [(360453, .arr 1 3)] }
def tpl_86_2_0 : Tpl := { slots := [(0, .rs 4), (1, .int .i64), (5, .int .i64)], blks := [] }
def tpl_87_4_0 : Tpl := { slots := [(2, .int .i64), (4, .rs 5), (10, .own (.op 356362 0)), (12, .own (.op 356364 0)), (13, .int .i64)], blks := [(356362, .box [.int .i64, .int .i64, .int .i64, .str, .int .i64, .bool, .bool, .own .nils]), (356364, .box [.int .i64, .int .i64, .int .i64, .str, .int .i64, .bool, .bool, .own (.os 12855504354071922204335696738729300820177623950262342682767372)]), (12855504354071922204335696738729300820177623950262342682767372, .arr 5 84)], bo := [(356364, 7, 12855504354071922204335696738729300820177623950262342682767372, 84)] }
def tpl_40_3_0 : Tpl := { slots := [(1, .int .i64), (2, .own (.op 163842 0)), (5, .own (.os 163845)), (6, .int .i64)], blks := [(163842, .box [.rs 4, .rs 3, .rs 10, .rs 3, .rs 5, .rs 4, .rs 2, .rs 3, .rs 4, .rs 6, .int .i64, .int .i64, .int .i64]), (163845, .arr 8 48)] }
def tpl_40_10_0 : Tpl := { slots := [(1, .int .i64), (2, .own (.op 163842 0)), (5, .own (.os 163845)), (6, .int .i64), (7, .rs 1), (8, .int .i64)], blks := [(163842, .box [.rs 4, .rs 3, .rs 10, .rs 3, .rs 5, .rs 4, .rs 2, .rs 3, .rs 4, .rs 6, .int .i64, .int .i64, .int .i64]), (163845, .arr 8 48)] }
def tpl_90_4_0 : Tpl := { slots := [(0, .rs 5), (1, .rs 5), (5, .int .i64)], blks := [] }
def tpl_28_10_0 : Tpl := { slots := [(2, .int .i64), (3, .own (.op 114691 0)), (11, .own (.os 114699)), (12, .int .i64)], blks := [(114691, .box [.rs 4, .rs 3, .rs 10, .rs 3, .rs 5, .rs 4, .rs 2, .rs 3, .rs 4, .rs 6, .int .i64, .int .i64, .int .i64]), (114699, .arr 8 48)] }
def tpl_103_2_0 : Tpl := { slots := [(0, .rs 8), (1, .int .i64), (2, .int .i64), (7, .int .i64)], blks := [] }
def tpl_61_9_0 : Tpl := { slots := [(1, .rs 8), (2, .int .i64), (3, .own (.op 249859 0)), (7, .own (.os 249863)), (8, .own (.op 249864 0)), (9, .int .i64), (10, .bool), (12, .int .i64)], blks := [(249859, .box [.rs 4, .rs 3, .rs 10, .rs 3, .rs 5, .rs 4, .rs 2, .rs 3, .rs 4, .rs 6, .int .i64, .int .i64, .int .i64]), (249863, .arr 5 82), (249864, .box [.raw, .raw, .raw, .raw, .raw, .raw, .raw, .raw])] }
def tpl_60_5_0 : Tpl := { slots := [(3, .own (.op 245763 0)), (5, .rs 8), (6, .int .i64)], blks := [(245763, .box [.int .i64, .int .i64, .int .i64, .str, .int .i64, .bool, .bool, .rs 5])] }
def tpl_30_7_0 : Tpl := { slots := [(1, .rs 8), (2, .own (.op 122882 0)), (9, .int .i64)], blks := [(122882, .box [.rs 4, .rs 3, .rs 10, .rs 3, .rs 5, .rs 4, .rs 2, .rs 3, .rs 4, .rs 6, .int .i64, .int .i64, .int .i64])] }
def tpl_30_12_0 : Tpl := { slots := [(1, .rs 8), (2, .own (.op 122882 0)), (9, .int .i64), (10, .int .i64)], blks := [(122882, .box [.rs 4, .rs 3, .rs 10, .rs 3, .rs 5, .rs 4, .rs 2, .rs 3, .rs 4, .rs 6, .int .i64, .int .i64, .int .i64])] }
def tpl_30_18_0 : Tpl := { slots := [(1, .rs 8), (2, .own (.op 122882 0)), (11, .own (.os 122891)), (12, .int .i64)], blks := [(122882, .box [.rs 4, .rs 3, .rs 10, .rs 3, .rs 5, .rs 4, .rs 2, .rs 3, .rs 4, .rs 6, .int .i64, .int .i64, .int .i64]), (122891, .arr 5 82)] }
def tpl_31_4_0 : Tpl := { slots := [(0, .rs 5), (1, .rs 5), (5, .int .i64)], blks := [] }
def tpl_171_4_0 : Tpl := { slots := [(1, .rs 5), (12, .rs 5), (13, .int .i64), (14, .int .i64)], blks := [] }
def tpl_1661063251_8_0 : Tpl := { slots := [(2, .int .i64), (3, .own (.fn 137 [.op 405507 0, .op 405509 0])), (8, .own (.op 6803715076104 0)), (9, .own (.op 6803715076105 0)), (58, .rs 1), (59, .int .i64), (60, .int .i64), (88, .own (.op 405509 0))], blks := [(405507, .box [.int .i64, .int .i64, .int .i64, .str, .int .i64, .bool, .bool, .rs 5]), (405509, .box [.bool]), (6803715076104, .box [.raw, .raw, .raw, .raw, .raw]), (6803715076105, .box [.int .i64, .int .i64, .int .i64, .str, .int .i64, .bool, .bool, .rs 5])], bz := [(6803715076105, 7, 5)] }
def tpl_58_3_0 : Tpl := { slots := [(2, .own (.op 237570 0)), (6, .own (.om 237580)), (13, .rs 8), (14, .int .i64), (15, .int .i64)], blks := [(237570, .box [.rs 4, .rs 3, .rs 10, .rs 3, .rs 5, .rs 4, .rs 2, .rs 3, .rs 4, .rs 6, .int .i64, .int .i64, .int .i64]), (237580, .map 154)] }
def tpl_59_11_0 : Tpl := { slots := [(1, .rs 8), (2, .own (.pv .nilm)), (3, .int .i64), (9, .own (.os 241673)), (10, .own (.op 241674 0)), (11, .own (.op 241675 0)), (58, .rs 3), (59, .int .i64), (60, .int .i64)], blks := [(241673, .arr 5 82), (241674, .box [.raw, .raw, .raw, .raw, .raw, .raw, .raw, .raw]), (241675, .box [.int .i64, .int .i64, .int .i64, .int .i64, .bool])] }
def tpl_59_11_1 : Tpl := { slots := [(1, .rs 8), (2, .raw), (3, .int .i64), (9, .own (.os 241673)), (10, .own (.op 241674 0)), (11, .own (.op 241675 0)), (58, .rs 3), (59, .int .i64), (60, .int .i64)], blks := [(241673, .arr 5 82), (241674, .box [.raw, .raw, .raw, .raw, .raw, .raw, .raw, .raw]), (241675, .box [.int .i64, .int .i64, .int .i64, .int .i64, .bool])] }
def tpl_29_11_0 : Tpl := { slots := [(1, .rs 8), (2, .own (.op 118786 0)), (9, .own (.pv .nilm)), (11, .own (.os 118795)), (35, .int .i64), (36, .int .i64)], blks := [(118786, .box [.rs 4, .rs 3, .rs 10, .rs 3, .rs 5, .rs 4, .rs 2, .rs 3, .rs 4, .rs 6, .int .i64, .int .i64, .int .i64]), (118795, .arr 5 82)] }
def tpl_29_11_1 : Tpl := { slots := [(1, .rs 8), (2, .own (.op 118786 0)), (9, .raw), (11, .own (.os 118795)), (35, .int .i64), (36, .int .i64)], blks := [(118786, .box [.rs 4, .rs 3, .rs 10, .rs 3, .rs 5, .rs 4, .rs 2, .rs 3, .rs 4, .rs 6, .int .i64, .int .i64, .int .i64]), (118795, .arr 5 82)] }
def tpl_10_4_0 : Tpl := { slots := [(1, .rs 8), (2, .own (.op 40962 0)), (20, .rs 8), (21, .int .i64), (22, .int .i64)], blks := [(40962, .box [.rs 4, .rs 3, .rs 10, .rs 3, .rs 5, .rs 4, .rs 2, .rs 3, .rs 4, .rs 6, .int .i64, .int .i64, .int .i64])] }
def tpl_11_12_0 : Tpl := { slots := [(7, .rs 8), (9, .rs 5), (47, .rs 5), (48, .int .i64), (49, .int .i64)], blks := [] }
def tpl_11_22_0 : Tpl := { slots := [(7, .rs 8), (9, .rs 5), (12, .own (.op 45068 0)), (47, .rs 5), (48, .int .i64), (49, .int .i64), (179, .rs 5), (180, .int .i64), (181, .int .i64)], blks := [(45068, .box [.raw, .raw, .raw, .raw, .raw])] }
def globs (g : Nat) : Option (List PV) := bif Nat.beq g 1 then some [.ifc true] else bif Nat.beq g 2 then some [.ifc true] else bif Nat.beq g 3 then some powCells else none
def hints (f k : Nat) : List Tpl :=
  bif Nat.beq f 42 then (bif Nat.beq k 2 then [tpl_42_2_0] else []) else
  bif Nat.beq f 55 then (bif Nat.beq k 6 then [tpl_55_6_0] else []) else
  bif Nat.beq f 114 then (bif Nat.beq k 3 then [tpl_114_3_0] else []) else
  bif Nat.beq f 115 then (bif Nat.beq k 7 then [tpl_115_7_0] else []) else
  bif Nat.beq f 23 then (bif Nat.beq k 4 then [tpl_23_4_0] else []) else
  bif Nat.beq f 385970273 then (bif Nat.beq k 2 then [tpl_385970273_2_0] else []) else
  bif Nat.beq f 108640973604986594369592 then (bif Nat.beq k 2 then [tpl_108640973604986594369592_2_0] else []) else
  bif Nat.beq f 22 then (bif Nat.beq k 2 then [tpl_22_2_0] else []) else
  bif Nat.beq f 37 then (bif Nat.beq k 4 then [tpl_37_4_0] else bif Nat.beq k 7 then [tpl_37_7_0] else []) else
  bif Nat.beq f 620875859 then (bif Nat.beq k 8 then [tpl_620875859_8_0] else []) else
  bif Nat.beq f 63 then (bif Nat.beq k 5 then [tpl_63_5_0] else []) else
  bif Nat.beq f 81 then (bif Nat.beq k 7 then [tpl_81_7_0] else []) else
  bif Nat.beq f 65 then (bif Nat.beq k 5 then [tpl_65_5_0] else []) else
  bif Nat.beq f 67 then (bif Nat.beq k 5 then [tpl_67_5_0] else []) else
  bif Nat.beq f 69 then (bif Nat.beq k 5 then [tpl_69_5_0] else []) else
  bif Nat.beq f 106 then (bif Nat.beq k 4 then [tpl_106_4_0] else []) else
  bif Nat.beq f 71 then (bif Nat.beq k 5 then [tpl_71_5_0] else []) else
  bif Nat.beq f 73 then (bif Nat.beq k 4 then [tpl_73_4_0] else bif Nat.beq k 12 then [tpl_73_12_0] else []) else
  bif Nat.beq f 100 then (bif Nat.beq k 2 then [tpl_100_2_0] else []) else
  bif Nat.beq f 144 then (bif Nat.beq k 3 then [tpl_144_3_0] else []) else
  bif Nat.beq f 111 then (bif Nat.beq k 2 then [tpl_111_2_0] else []) else
  bif Nat.beq f 75 then (bif Nat.beq k 5 then [tpl_75_5_0] else []) else
  bif Nat.beq f 139 then (bif Nat.beq k 2 then [tpl_139_2_0] else []) else
  bif Nat.beq f 140 then (bif Nat.beq k 2 then [tpl_140_2_0] else []) else
  bif Nat.beq f 77 then (bif Nat.beq k 5 then [tpl_77_5_0] else []) else
  bif Nat.beq f 112 then (bif Nat.beq k 3 then [tpl_112_3_0] else []) else
  bif Nat.beq f 47 then (bif Nat.beq k 2 then [tpl_47_2_0] else []) else
  bif Nat.beq f 32 then (bif Nat.beq k 4 then [tpl_32_4_0] else []) else
  bif Nat.beq f 12 then (bif Nat.beq k 4 then [tpl_12_4_0] else []) else
  bif Nat.beq f 146 then (bif Nat.beq k 2 then [tpl_146_2_0] else []) else
  bif Nat.beq f 44 then (bif Nat.beq k 4 then [tpl_44_4_0] else []) else
  bif Nat.beq f 116 then (bif Nat.beq k 4 then [tpl_116_4_0] else []) else
  bif Nat.beq f 149 then (bif Nat.beq k 4 then [tpl_149_4_0] else []) else
  bif Nat.beq f 118 then (bif Nat.beq k 4 then [tpl_118_4_0] else bif Nat.beq k 9 then [tpl_118_9_0] else []) else
  bif Nat.beq f 119 then (bif Nat.beq k 4 then [tpl_119_4_0] else bif Nat.beq k 11 then [tpl_119_11_0] else []) else
  bif Nat.beq f 147 then (bif Nat.beq k 4 then [tpl_147_4_0] else []) else
  bif Nat.beq f 117 then (bif Nat.beq k 4 then [tpl_117_4_0] else bif Nat.beq k 9 then [tpl_117_9_0] else []) else
  bif Nat.beq f 174 then (bif Nat.beq k 2 then [tpl_174_2_0] else []) else
  bif Nat.beq f 175 then (bif Nat.beq k 4 then [tpl_175_4_0] else []) else
  bif Nat.beq f 120 then (bif Nat.beq k 4 then [tpl_120_4_0] else []) else
  bif Nat.beq f 89 then (bif Nat.beq k 6 then [tpl_89_6_0] else []) else
  bif Nat.beq f 127 then (bif Nat.beq k 5 then [tpl_127_5_0] else []) else
  bif Nat.beq f 121 then (bif Nat.beq k 4 then [tpl_121_4_0] else bif Nat.beq k 14 then [tpl_121_14_0] else []) else
  bif Nat.beq f 178 then (bif Nat.beq k 2 then [tpl_178_2_0] else []) else
  bif Nat.beq f 102 then (bif Nat.beq k 2 then [tpl_102_2_0] else []) else
  bif Nat.beq f 179 then (bif Nat.beq k 3 then [tpl_179_3_0] else []) else
  bif Nat.beq f 177 then (bif Nat.beq k 2 then [tpl_177_2_0] else []) else
  bif Nat.beq f 154 then (bif Nat.beq k 15 then [tpl_154_15_0] else []) else
  bif Nat.beq f 122 then (bif Nat.beq k 4 then [tpl_122_4_0] else []) else
  bif Nat.beq f 104 then (bif Nat.beq k 2 then [tpl_104_2_0] else bif Nat.beq k 6 then [tpl_104_6_0] else []) else
  bif Nat.beq f 155 then (bif Nat.beq k 10 then [tpl_155_10_0] else []) else
  bif Nat.beq f 123 then (bif Nat.beq k 4 then [tpl_123_4_0] else []) else
  bif Nat.beq f 156 then (bif Nat.beq k 2 then [tpl_156_2_0] else bif Nat.beq k 10 then [tpl_156_10_0] else []) else
  bif Nat.beq f 125 then (bif Nat.beq k 7 then [tpl_125_7_0] else bif Nat.beq k 12 then [tpl_125_12_0] else []) else
  bif Nat.beq f 38 then (bif Nat.beq k 2 then [tpl_38_2_0] else []) else
  bif Nat.beq f 126 then (bif Nat.beq k 4 then [tpl_126_4_0] else []) else
  bif Nat.beq f 88 then (bif Nat.beq k 3 then [tpl_88_3_0] else bif Nat.beq k 8 then [tpl_88_8_0] else bif Nat.beq k 12 then [tpl_88_12_0] else []) else
  bif Nat.beq f 86 then (bif Nat.beq k 2 then [tpl_86_2_0] else []) else
  bif Nat.beq f 87 then (bif Nat.beq k 4 then [tpl_87_4_0] else []) else
  bif Nat.beq f 40 then (bif Nat.beq k 3 then [tpl_40_3_0] else bif Nat.beq k 10 then [tpl_40_10_0] else []) else
  bif Nat.beq f 90 then (bif Nat.beq k 4 then [tpl_90_4_0] else []) else
  bif Nat.beq f 28 then (bif Nat.beq k 10 then [tpl_28_10_0] else []) else
  bif Nat.beq f 103 then (bif Nat.beq k 2 then [tpl_103_2_0] else []) else
  bif Nat.beq f 61 then (bif Nat.beq k 9 then [tpl_61_9_0] else []) else
  bif Nat.beq f 60 then (bif Nat.beq k 5 then [tpl_60_5_0] else []) else
  bif Nat.beq f 30 then (bif Nat.beq k 7 then [tpl_30_7_0] else bif Nat.beq k 12 then [tpl_30_12_0] else bif Nat.beq k 18 then [tpl_30_18_0] else []) else
  bif Nat.beq f 31 then (bif Nat.beq k 4 then [tpl_31_4_0] else []) else
  bif Nat.beq f 171 then (bif Nat.beq k 4 then [tpl_171_4_0] else []) else
  bif Nat.beq f 1661063251 then (bif Nat.beq k 8 then [tpl_1661063251_8_0] else []) else
  bif Nat.beq f 58 then (bif Nat.beq k 3 then [tpl_58_3_0] else []) else
  bif Nat.beq f 59 then (bif Nat.beq k 11 then [tpl_59_11_0, tpl_59_11_1] else []) else
  bif Nat.beq f 29 then (bif Nat.beq k 11 then [tpl_29_11_0, tpl_29_11_1] else []) else
  bif Nat.beq f 10 then (bif Nat.beq k 4 then [tpl_10_4_0] else []) else
  bif Nat.beq f 11 then (bif Nat.beq k 12 then [tpl_11_12_0] else bif Nat.beq k 22 then [tpl_11_22_0] else []) else
  []
noncomputable def S : Seat := { P := Tryz.prog, glob := globs, hint := hints }
def tab_0 : Tab := []
def otab_0 : Tab := []
def tab_1 : Tab := (130, index1_M) :: tab_0
def tab_2 : Tab := (43, itoa_M) :: tab_1
def tab_3 : Tab := (50, atoi_M) :: tab_2
def tab_4 : Tab := (34, law25_sample_M) :: tab_3
def tab_5 : Tab := (36, date_Valid_M) :: tab_4
def tab_6 : Tab := (42, ident_Valid_M) :: tab_5
def tab_7 : Tab := (17, runs_Key_M) :: tab_6
def tab_8 : Tab := (96, date_Weekday_M) :: tab_7
def tab_9 : Tab := (55, calendar_Reason_M) :: tab_8
def tab_10 : Tab := (21, calendar_Active_M) :: tab_9
def tab_11 : Tab := (114, call_Shift_M) :: tab_10
def tab_12 : Tab := (172, frequency_moved_1_M) :: tab_11
def tab_13 : Tab := (173, frequency_wide_M) :: tab_12
def tab_14 : Tab := (145, frequency_moved_M) :: tab_13
def tab_15 : Tab := (115, frequency_Calls_M) :: tab_14
def tab_16 : Tab := (98, frequency_sound_M) :: tab_15
def tab_17 : Tab := (23, frequency_Instances_M) :: tab_16
def tab_18 : Tab := (22, frequency_Repeated_M) :: tab_17
def tab_19 : Tab := (37, runs_days_M) :: tab_18
def tab_20 : Tab := (63, stop_Check_M) :: tab_19
def tab_21 : Tab := (62, timetable_Check_1_M) :: tab_20
def tab_22 : Tab := (113, product_within_M) :: tab_21
def tab_23 : Tab := (81, product_Check_M) :: tab_22
def tab_24 : Tab := (80, timetable_Check_10_M) :: tab_23
def tab_25 : Tab := (105, route_known_M) :: tab_24
def tab_26 : Tab := (65, route_Check_M) :: tab_25
def tab_27 : Tab := (64, timetable_Check_2_M) :: tab_26
def tab_28 : Tab := (67, calendar_Check_M) :: tab_27
def tab_29 : Tab := (66, timetable_Check_3_M) :: tab_28
def tab_30 : Tab := (69, calendar_CheckExceptions_M) :: tab_29
def tab_31 : Tab := (68, timetable_Check_4_M) :: tab_30
def tab_32 : Tab := (141, call_one_M) :: tab_31
def tab_33 : Tab := (106, call_Check_M) :: tab_32
def tab_34 : Tab := (71, trip_Check_M) :: tab_33
def tab_35 : Tab := (70, timetable_Check_5_M) :: tab_34
def tab_36 : Tab := (108, frequency_count_M) :: tab_35
def tab_37 : Tab := (142, frequency_last_M) :: tab_36
def tab_38 : Tab := (107, frequency_fits_M) :: tab_37
def tab_39 : Tab := (73, frequency_Check_M) :: tab_38
def tab_40 : Tab := (72, timetable_Check_6_M) :: tab_39
def tab_41 : Tab := (110, through_follows_M) :: tab_40
def tab_42 : Tab := (100, through_Next_M) :: tab_41
def tab_43 : Tab := (144, through_Chain_M) :: tab_42
def tab_44 : Tab := (111, through_leads_M) :: tab_43
def tab_45 : Tab := (143, through_pair_1_M) :: tab_44
def tab_46 : Tab := (109, through_pair_M) :: tab_45
def tab_47 : Tab := (75, through_Check_M) :: tab_46
def tab_48 : Tab := (74, timetable_Check_7_M) :: tab_47
def tab_49 : Tab := (139, through_alighting_M) :: tab_48
def tab_50 : Tab := (140, through_boarding_M) :: tab_49
def tab_51 : Tab := (101, through_Meets_M) :: tab_50
def tab_52 : Tab := (77, through_CheckGuarantees_M) :: tab_51
def tab_53 : Tab := (76, timetable_Check_8_M) :: tab_52
def tab_54 : Tab := (112, footpath_sound_M) :: tab_53
def tab_55 : Tab := (79, footpath_Check_M) :: tab_54
def tab_56 : Tab := (78, timetable_Check_9_M) :: tab_55
def tab_57 : Tab := (35, timetable_Check_M) :: tab_56
def tab_58 : Tab := (14, runs_OfDay_M) :: tab_57
def tab_59 : Tab := (49, runs_canonical_M) :: tab_58
def tab_60 : Tab := (47, runs_digits_M) :: tab_59
def tab_61 : Tab := (92, internal_stringslite_Cut_M) :: tab_60
def tab_62 : Tab := (46, strings_Cut_M) :: tab_61
def tab_63 : Tab := (131, internal_stringslite_HasPrefix_M) :: tab_62
def tab_64 : Tab := (93, internal_stringslite_CutPrefix_M) :: tab_63
def tab_65 : Tab := (48, strings_CutPrefix_M) :: tab_64
def tab_66 : Tab := (19, runs_ParseKey_M) :: tab_65
def tab_67 : Tab := (13, law25_exampleHolds_M) :: tab_66
def tab_68 : Tab := (33, ref18_Sound_M) :: tab_67
def tab_69 : Tab := (32, ref22_Few_M) :: tab_68
def tab_70 : Tab := (12, ref25_Light_M) :: tab_69
def tab_71 : Tab := (146, ref13_Find_M) :: tab_70
def tab_72 : Tab := (44, ref13_Identifier_M) :: tab_71
def tab_73 : Tab := (116, ref13_Check_M) :: tab_72
def tab_74 : Tab := (150, ref02_Valid_M) :: tab_73
def tab_75 : Tab := (149, ref05_Valid_M) :: tab_74
def tab_76 : Tab := (118, ref14_Check_M) :: tab_75
def tab_77 : Tab := (119, ref14_CheckExceptions_M) :: tab_76
def tab_78 : Tab := (147, ref15_Name_M) :: tab_77
def tab_79 : Tab := (148, ref15_mode_M) :: tab_78
def tab_80 : Tab := (117, ref15_Check_M) :: tab_79
def tab_81 : Tab := (174, ref17_Find_M) :: tab_80
def tab_82 : Tab := (175, ref17_calls_M) :: tab_81
def tab_83 : Tab := (151, ref17_one_M) :: tab_82
def tab_84 : Tab := (120, ref17_Check_M) :: tab_83
def tab_85 : Tab := (153, ref18_count_M) :: tab_84
def tab_86 : Tab := (128, ref18_Shift_M) :: tab_85
def tab_87 : Tab := (89, ref18_Calls_M) :: tab_86
def tab_88 : Tab := (127, ref18_Starts_M) :: tab_87
def tab_89 : Tab := (152, ref18_fits_M) :: tab_88
def tab_90 : Tab := (121, ref18_Check_M) :: tab_89
def tab_91 : Tab := (178, ref19_Has_M) :: tab_90
def tab_92 : Tab := (102, ref19_Next_M) :: tab_91
def tab_93 : Tab := (179, ref19_Chain_M) :: tab_92
def tab_94 : Tab := (176, ref19_in_M) :: tab_93
def tab_95 : Tab := (177, ref19_repeated_M) :: tab_94
def tab_96 : Tab := (154, ref19_one_M) :: tab_95
def tab_97 : Tab := (122, ref19_Check_M) :: tab_96
def tab_98 : Tab := (104, ref19_Meets_M) :: tab_97
def tab_99 : Tab := (155, ref19_guarantee_M) :: tab_98
def tab_100 : Tab := (123, ref19_CheckGuarantees_M) :: tab_99
def tab_101 : Tab := (156, ref20_valid_M) :: tab_100
def tab_102 : Tab := (124, ref20_Check_M) :: tab_101
def tab_103 : Tab := (157, ref21_within_M) :: tab_102
def tab_104 : Tab := (158, ref21_Right_M) :: tab_103
def tab_105 : Tab := (125, ref21_Check_M) :: tab_104
def tab_106 : Tab := (84, ref22_part_M) :: tab_105
def tab_107 : Tab := (38, ref22_Check_M) :: tab_106
def tab_108 : Tab := (159, ref02_Weekday_M) :: tab_107
def tab_109 : Tab := (126, ref14_Reason_M) :: tab_108
def tab_110 : Tab := (85, ref14_Active_M) :: tab_109
def tab_111 : Tab := (88, ref18_Instances_M) :: tab_110
def tab_112 : Tab := (86, ref18_Repeated_M) :: tab_111
def tab_113 : Tab := (87, ref25_run_M) :: tab_112
def tab_114 : Tab := (40, ref25_Day_M) :: tab_113
def tab_115 : Tab := (39, ref25_ValidDay_M) :: tab_114
def tab_116 : Tab := (15, ref25_OfDay_M) :: tab_115
def tab_117 : Tab := (90, ref18_SameCalls_M) :: tab_116
def tab_118 : Tab := (41, ref25_SameRun_M) :: tab_117
def tab_119 : Tab := (28, ref25_OfDays_M) :: tab_118
def tab_120 : Tab := (27, runs_OfDays_M) :: tab_119
def tab_121 : Tab := (103, ref25_find_M) :: tab_120
def tab_122 : Tab := (61, ref25_from_M) :: tab_121
def tab_123 : Tab := (60, ref25_known_M) :: tab_122
def tab_124 : Tab := (30, ref25_Links_M) :: tab_123
def tab_125 : Tab := (31, ref25_SameLinks_M) :: tab_124
def tab_126 : Tab := (171, call_Equal_M) :: tab_125
def tab_127 : Tab := (138, runs_same_M) :: tab_126
def tab_128 : Tab := (99, runs_operates_M) :: tab_127
def tab_129 : Tab := (58, runs_index_M) :: tab_128
def tab_130 : Tab := (59, runs_of_M) :: tab_129
def tab_131 : Tab := (29, runs_Links_M) :: tab_130
def tab_132 : Tab := (10, law25_RunsLinks_M) :: tab_131
def tab_133 : Tab := (11, law25_RunsMeet_M) :: tab_132
end Go.Proofs.YtinbhofpofcmeaaGreatDoor
