/- The table of the functions of this seat: shapes of loop heads, and what is known of each function. Printed by a program of the author. -/
import Derived.Test.YtnbhhepiekhbjaaProg
import Derived.Test.YtnbhhepiekhbjaaAbSeat
import Derived.Test.YtnbhhepiekhbjaaSh2
import Derived.KernelRfl
namespace Go.Proofs.Ytnbhhepiekhbjaa
open Go.Ab
set_option maxRecDepth 100000
def tpl_13_3_0 : Tpl := { slots := [(0, .rs 3), (3, .own (.os 53251)), (4, .int .i64)], blks := [(53251, .arr 3 37)] }
def tpl_20_3_0 : Tpl := { slots := [(1, .own (.op 81921 0)), (3, .own (.om 81926)), (8, .rs 5), (9, .int .i64), (10, .int .i64)], blks := [(81921, .box [.rs 4, .rs 3, .rs 10, .rs 3, .rs 5, .rs 4, .rs 2, .rs 3, .rs 4, .rs 6, .int .i64, .int .i64, .int .i64]), (81926, .map 3)] }
def tpl_74_6_0 : Tpl := { slots := [(2, .int .i64), (3, .int .i64), (9, .int .i64), (10, .own (.op 303114 0)), (32, .rs 3), (33, .int .i64), (34, .int .i64)], blks := [(303114, .box [.raw, .raw, .raw, .raw, .raw, .raw, .raw, .raw, .raw, .raw])] }
def tpl_46_2_0 : Tpl := { slots := [(0, .rs 10), (1, .rs 3), (2, .int .i64), (10, .int .i64)], blks := [] }
def tpl_21_3_0 : Tpl := { slots := [(1, .own (.op 86017 0)), (3, .own (.om 86022)), (8, .rs 5), (9, .int .i64), (10, .int .i64)], blks := [(86017, .box [.rs 4, .rs 3, .rs 10, .rs 3, .rs 5, .rs 4, .rs 2, .rs 3, .rs 4, .rs 6, .int .i64, .int .i64, .int .i64]), (86022, .map 3)] }
def tpl_22_3_0 : Tpl := { slots := [(1, .own (.op 90113 0)), (3, .own (.op 90115 0)), (9, .rs 4), (10, .int .i64), (11, .int .i64)], blks := [(90113, .box [.rs 4, .rs 3, .rs 10, .rs 3, .rs 5, .rs 4, .rs 2, .rs 3, .rs 4, .rs 6, .int .i64, .int .i64, .int .i64]), (90115, .box [.own (.om 90119)]), (90119, .map 3)] }
def tpl_19_3_0 : Tpl := { slots := [(1, .own (.op 77825 0)), (3, .own (.om 77830)), (8, .rs 5), (9, .int .i64), (10, .int .i64)], blks := [(77825, .box [.rs 4, .rs 3, .rs 10, .rs 3, .rs 5, .rs 4, .rs 2, .rs 3, .rs 4, .rs 6, .int .i64, .int .i64, .int .i64]), (77830, .map 3)] }
def tpl_18_3_0 : Tpl := { slots := [(1, .own (.op 73729 0)), (3, .own (.om 73738)), (12, .rs 5), (13, .int .i64), (14, .int .i64)], blks := [(73729, .box [.rs 4, .rs 3, .rs 10, .rs 3, .rs 5, .rs 4, .rs 2, .rs 3, .rs 4, .rs 6, .int .i64, .int .i64, .int .i64]), (73738, .map 3)] }
def tpl_18_6_0 : Tpl := { slots := [(1, .own (.op 73729 0)), (3, .own (.om 73738)), (12, .rs 5), (13, .int .i64), (14, .int .i64), (19, .rs 5), (20, .int .i64), (21, .int .i64)], blks := [(73729, .box [.rs 4, .rs 3, .rs 10, .rs 3, .rs 5, .rs 4, .rs 2, .rs 3, .rs 4, .rs 6, .int .i64, .int .i64, .int .i64]), (73738, .map 3)] }
def tpl_18_12_0 : Tpl := { slots := [(1, .own (.op 73729 0)), (3, .own (.om 73738)), (31, .rs 4), (32, .int .i64), (33, .int .i64)], blks := [(73729, .box [.rs 4, .rs 3, .rs 10, .rs 3, .rs 5, .rs 4, .rs 2, .rs 3, .rs 4, .rs 6, .int .i64, .int .i64, .int .i64]), (73738, .map 3)] }
def tpl_24_3_0 : Tpl := { slots := [(1, .own (.op 98305 0)), (3, .int .i64), (15, .rs 6), (16, .int .i64), (17, .int .i64)], blks := [(98305, .box [.rs 4, .rs 3, .rs 10, .rs 3, .rs 5, .rs 4, .rs 2, .rs 3, .rs 4, .rs 6, .int .i64, .int .i64, .int .i64])] }
def tpl_24_9_0 : Tpl := { slots := [(1, .own (.op 98305 0)), (3, .int .i64), (6, .own (.om 98330)), (28, .rs 3), (29, .int .i64), (30, .int .i64)], blks := [(98305, .box [.rs 4, .rs 3, .rs 10, .rs 3, .rs 5, .rs 4, .rs 2, .rs 3, .rs 4, .rs 6, .int .i64, .int .i64, .int .i64]), (98330, .map 3)] }
def tpl_24_15_0 : Tpl := { slots := [(1, .own (.op 98305 0)), (6, .own (.om 98330)), (9, .own (.om 98348)), (46, .rs 5), (47, .int .i64), (48, .int .i64)], blks := [(98305, .box [.rs 4, .rs 3, .rs 10, .rs 3, .rs 5, .rs 4, .rs 2, .rs 3, .rs 4, .rs 6, .int .i64, .int .i64, .int .i64]), (98330, .map 3), (98348, .map 3)] }
def tpl_24_20_0 : Tpl := { slots := [(1, .own (.op 98305 0)), (6, .own (.om 98330)), (9, .own (.om 98348)), (58, .int .i64), (59, .int .i64)], blks := [(98305, .box [.rs 4, .rs 3, .rs 10, .rs 3, .rs 5, .rs 4, .rs 2, .rs 3, .rs 4, .rs 6, .int .i64, .int .i64, .int .i64]), (98330, .map 3), (98348, .map 3)] }
def tpl_23_3_0 : Tpl := { slots := [(1, .own (.op 94209 0)), (3, .own (.om 94218)), (12, .rs 5), (13, .int .i64), (14, .int .i64)], blks := [(94209, .box [.rs 4, .rs 3, .rs 10, .rs 3, .rs 5, .rs 4, .rs 2, .rs 3, .rs 4, .rs 6, .int .i64, .int .i64, .int .i64]), (94218, .map 3)] }
def tpl_23_6_0 : Tpl := { slots := [(1, .own (.op 94209 0)), (3, .own (.om 94218)), (12, .rs 5), (13, .int .i64), (14, .int .i64), (19, .rs 5), (20, .int .i64), (21, .int .i64)], blks := [(94209, .box [.rs 4, .rs 3, .rs 10, .rs 3, .rs 5, .rs 4, .rs 2, .rs 3, .rs 4, .rs 6, .int .i64, .int .i64, .int .i64]), (94218, .map 3)] }
def tpl_23_13_0 : Tpl := { slots := [(1, .own (.op 94209 0)), (3, .own (.om 94218)), (38, .rs 4), (39, .int .i64), (40, .int .i64)], blks := [(94209, .box [.rs 4, .rs 3, .rs 10, .rs 3, .rs 5, .rs 4, .rs 2, .rs 3, .rs 4, .rs 6, .int .i64, .int .i64, .int .i64]), (94218, .map 3)] }
def tpl_50_2_0 : Tpl := { slots := [(0, .str), (3, .int .i64)], blks := [] }
def tpl_26_5_0 : Tpl := { slots := [(4, .own (.om 106506)), (11, .rs 4), (12, .int .i64), (13, .int .i64)], blks := [(106506, .map 9)] }
def tpl_44_7_0 : Tpl := { slots := [(4, .own (.om 180251)), (29, .rs 6), (30, .int .i64), (31, .int .i64)], blks := [(180251, .map 9)] }
def tpl_28_5_0 : Tpl := { slots := [(4, .own (.om 114698)), (11, .rs 3), (12, .int .i64), (13, .int .i64)], blks := [(114698, .map 9)] }
def tpl_30_5_0 : Tpl := { slots := [(4, .own (.om 122890)), (11, .rs 10), (12, .int .i64), (13, .int .i64)], blks := [(122890, .map 9)] }
def tpl_32_5_0 : Tpl := { slots := [(1, .int .i64), (6, .own (.om 131085)), (14, .rs 3), (15, .int .i64), (16, .int .i64)], blks := [(131085, .map 105)] }
def tpl_53_4_0 : Tpl := { slots := [(0, .rs 5), (1, .int .i64), (2, .int .i64), (3, .int .i64), (21, .int .i64), (22, .int .i64)], blks := [] }
def tpl_34_5_0 : Tpl := { slots := [(1, .int .i64), (2, .int .i64), (3, .int .i64), (10, .own (.om 139282)), (19, .rs 5), (20, .int .i64), (21, .int .i64)], blks := [(139282, .map 9)] }
def tpl_67_7_0 : Tpl := { slots := [(1, .int .i64), (6, .int .i64), (7, .own (.os 274455)), (29, .int .i64), (30, .int .i64)], blks := [(274455, .arr 5 67)] }
def tpl_36_4_0 : Tpl := { slots := [(0, .rs 4), (1, .rs 5), (15, .rs 4), (16, .int .i64), (17, .int .i64)], blks := [] }
def tpl_36_12_0 : Tpl := { slots := [(0, .rs 4), (1, .rs 5), (6, .int .i64), (7, .own (.op 147463 0)), (8, .int .i64), (9, .bool), (15, .rs 4), (16, .int .i64), (17, .int .i64), (51, .rs 4), (52, .int .i64), (53, .int .i64)], blks := [(147463, .box [.raw, .raw, .raw, .raw])] }
def tpl_76_2_0 : Tpl := { slots := [(1, .int .i64), (8, .rs 2), (9, .int .i64), (10, .int .i64)], blks := [] }
def tpl_71_3_0 : Tpl := { slots := [(0, .rs 2), (5, .own (.os 290826)), (6, .own (.om 290827))], blks := [(290826, .arr 1 3), (290827, .map 3)] }
def tpl_59_2_0 : Tpl := { slots := [(2, .int .i64), (11, .rs 1), (12, .int .i64), (13, .int .i64)], blks := [] }
def tpl_70_2_0 : Tpl := { slots := [(1, .int .i64), (7, .rs 4), (8, .int .i64), (9, .int .i64)], blks := [] }
def tpl_38_5_0 : Tpl := { slots := [(0, .rs 2), (1, .rs 5), (2, .rs 4), (8, .own (.om 155666)), (9, .own (.om 155667)), (20, .rs 2), (21, .int .i64), (22, .int .i64)], blks := [(155666, .map 3), (155667, .map 3)] }
def tpl_72_2_0 : Tpl := { slots := [(1, .int .i64), (7, .rs 5), (8, .int .i64), (9, .int .i64)], blks := [] }
def tpl_73_2_0 : Tpl := { slots := [(0, .rs 5), (1, .int .i64), (7, .rs 5), (8, .int .i64), (9, .int .i64)], blks := [] }
def tpl_40_5_0 : Tpl := { slots := [(1, .rs 5), (2, .rs 4), (3, .int .i64), (10, .own (.om 163861)), (22, .rs 3), (23, .int .i64), (24, .int .i64)], blks := [(163861, .map 116)] }
def tpl_61_3_0 : Tpl := { slots := [(1, .int .i64), (6, .own (.om 249866)), (11, .rs 4), (12, .int .i64), (13, .int .i64)], blks := [(249866, .map 130)] }
def tpl_65_4_0 : Tpl := { slots := [(2, .own (.op 266242 0)), (3, .own (.op 266243 0)), (17, .int .i64), (18, .int .i64)], blks := [(266242, .box [.str, .int .i64, .int .i64, .bool, .rs 5]), (266243, .box [.str, .int .i64, .int .i64, .bool, .rs 5])] }
def tpl_49_5_0 : Tpl := { slots := [(2, .own (.op 200706 0)), (3, .own (.op 200707 0)), (5, .bool), (17, .int .i64), (18, .int .i64)], blks := [(200706, .box [.str, .int .i64, .int .i64, .bool, .rs 5]), (200707, .box [.str, .int .i64, .int .i64, .bool, .rs 5])] }
def tpl_3099042527596607_1_0 : Tpl := { slots := [(0, .own (.yl 756602179589)), (2, .rp 1), (3, .rp 1), (6, .int .i64), (7, .int .i64), (24, .own (.op 45062 0)), (52, .own (.op 45062 0)), (53, .own (.fn 17 [.op 45062 0])), (79, .own (.os 45089)), (80, .own (.pv (.int .i64 7))), (81, .own (.pv (.int .i64 0)))], blks := [(756602179589, .loop), (45062, .box [.own (.os 1606938044258990275541962092341162602522202993782792835346438)]), (45089, .box [.fs (FS.fn 63 [FS.ptr [FS.raw], FS.ptr [FS.raw], FS.ptr [FS.raw]]), .fs (FS.fn 63 [FS.ptr [FS.raw], FS.ptr [FS.raw], FS.ptr [FS.raw]]), .fs (FS.fn 63 [FS.ptr [FS.raw], FS.ptr [FS.raw], FS.ptr [FS.raw]]), .fs (FS.fn 63 [FS.ptr [FS.raw], FS.ptr [FS.raw], FS.ptr [FS.raw]]), .fs (FS.fn 48 [FS.ptr [FS.raw, FS.raw, FS.raw, FS.raw, FS.raw, FS.raw, FS.raw, FS.raw, FS.raw, FS.raw, FS.raw, FS.raw, FS.raw], FS.ptr [FS.fn 47 [FS.ptr [FS.raw]]]]), .fs (FS.fn 63 [FS.ptr [FS.raw], FS.ptr [FS.raw], FS.ptr [FS.raw]]), .fs (FS.fn 63 [FS.ptr [FS.raw], FS.ptr [FS.raw], FS.ptr [FS.raw]])]), (1606938044258990275541962092341162602522202993782792835346438, .arr 3 40)] }
def tpl_3099042527596607_1_1 : Tpl := { slots := [(0, .own (.yl 756602179589)), (2, .rp 1), (3, .rp 1), (6, .int .i64), (7, .int .i64), (24, .own (.op 45062 0)), (52, .own (.op 45062 0)), (53, .own (.fn 17 [.op 45062 0])), (79, .own (.os 45089)), (80, .own (.pv (.int .i64 7))), (81, .own (.pv (.int .i64 1)))], blks := [(756602179589, .loop), (45062, .box [.own (.os 1606938044258990275541962092341162602522202993782792835346438)]), (45089, .box [.fs (FS.fn 63 [FS.ptr [FS.raw], FS.ptr [FS.raw], FS.ptr [FS.raw]]), .fs (FS.fn 63 [FS.ptr [FS.raw], FS.ptr [FS.raw], FS.ptr [FS.raw]]), .fs (FS.fn 63 [FS.ptr [FS.raw], FS.ptr [FS.raw], FS.ptr [FS.raw]]), .fs (FS.fn 63 [FS.ptr [FS.raw], FS.ptr [FS.raw], FS.ptr [FS.raw]]), .fs (FS.fn 48 [FS.ptr [FS.raw, FS.raw, FS.raw, FS.raw, FS.raw, FS.raw, FS.raw, FS.raw, FS.raw, FS.raw, FS.raw, FS.raw, FS.raw], FS.ptr [FS.fn 47 [FS.ptr [FS.raw]]]]), .fs (FS.fn 63 [FS.ptr [FS.raw], FS.ptr [FS.raw], FS.ptr [FS.raw]]), .fs (FS.fn 63 [FS.ptr [FS.raw], FS.ptr [FS.raw], FS.ptr [FS.raw]])]), (1606938044258990275541962092341162602522202993782792835346438, .arr 3 40)] }
def tpl_3099042527596607_1_2 : Tpl := { slots := [(0, .own (.yl 756602179589)), (2, .rp 1), (3, .rp 1), (6, .int .i64), (7, .int .i64), (24, .own (.op 45062 0)), (52, .own (.op 45062 0)), (53, .own (.fn 17 [.op 45062 0])), (79, .own (.os 45089)), (80, .own (.pv (.int .i64 7))), (81, .own (.pv (.int .i64 2)))], blks := [(756602179589, .loop), (45062, .box [.own (.os 1606938044258990275541962092341162602522202993782792835346438)]), (45089, .box [.fs (FS.fn 63 [FS.ptr [FS.raw], FS.ptr [FS.raw], FS.ptr [FS.raw]]), .fs (FS.fn 63 [FS.ptr [FS.raw], FS.ptr [FS.raw], FS.ptr [FS.raw]]), .fs (FS.fn 63 [FS.ptr [FS.raw], FS.ptr [FS.raw], FS.ptr [FS.raw]]), .fs (FS.fn 63 [FS.ptr [FS.raw], FS.ptr [FS.raw], FS.ptr [FS.raw]]), .fs (FS.fn 48 [FS.ptr [FS.raw, FS.raw, FS.raw, FS.raw, FS.raw, FS.raw, FS.raw, FS.raw, FS.raw, FS.raw, FS.raw, FS.raw, FS.raw], FS.ptr [FS.fn 47 [FS.ptr [FS.raw]]]]), .fs (FS.fn 63 [FS.ptr [FS.raw], FS.ptr [FS.raw], FS.ptr [FS.raw]]), .fs (FS.fn 63 [FS.ptr [FS.raw], FS.ptr [FS.raw], FS.ptr [FS.raw]])]), (1606938044258990275541962092341162602522202993782792835346438, .arr 3 40)] }
def tpl_3099042527596607_1_3 : Tpl := { slots := [(0, .own (.yl 756602179589)), (2, .rp 1), (3, .rp 1), (6, .int .i64), (7, .int .i64), (24, .own (.op 45062 0)), (52, .own (.op 45062 0)), (53, .own (.fn 17 [.op 45062 0])), (79, .own (.os 45089)), (80, .own (.pv (.int .i64 7))), (81, .own (.pv (.int .i64 3)))], blks := [(756602179589, .loop), (45062, .box [.own (.os 1606938044258990275541962092341162602522202993782792835346438)]), (45089, .box [.fs (FS.fn 63 [FS.ptr [FS.raw], FS.ptr [FS.raw], FS.ptr [FS.raw]]), .fs (FS.fn 63 [FS.ptr [FS.raw], FS.ptr [FS.raw], FS.ptr [FS.raw]]), .fs (FS.fn 63 [FS.ptr [FS.raw], FS.ptr [FS.raw], FS.ptr [FS.raw]]), .fs (FS.fn 63 [FS.ptr [FS.raw], FS.ptr [FS.raw], FS.ptr [FS.raw]]), .fs (FS.fn 48 [FS.ptr [FS.raw, FS.raw, FS.raw, FS.raw, FS.raw, FS.raw, FS.raw, FS.raw, FS.raw, FS.raw, FS.raw, FS.raw, FS.raw], FS.ptr [FS.fn 47 [FS.ptr [FS.raw]]]]), .fs (FS.fn 63 [FS.ptr [FS.raw], FS.ptr [FS.raw], FS.ptr [FS.raw]]), .fs (FS.fn 63 [FS.ptr [FS.raw], FS.ptr [FS.raw], FS.ptr [FS.raw]])]), (1606938044258990275541962092341162602522202993782792835346438, .arr 3 40)] }
def tpl_3099042527596592_1_0 : Tpl := { slots := [(0, .own (.yl 756602179589)), (1, .rp 13), (2, .fs (FS.ptr [FS.fn 47 [FS.ptr [FS.raw]]])), (9, .rs 5), (10, .int .i64), (11, .int .i64), (60, .own (.op 45062 0)), (88, .own (.op 45062 0)), (89, .own (.fn 17 [.op 45062 0])), (115, .own (.os 45089)), (116, .own (.pv (.int .i64 7))), (117, .own (.pv (.int .i64 4)))], blks := [(756602179589, .loop), (45062, .box [.own (.os 1606938044258990275541962092341162602522202993782792835346438)]), (45089, .box [.fs (FS.fn 63 [FS.ptr [FS.raw], FS.ptr [FS.raw], FS.ptr [FS.raw]]), .fs (FS.fn 63 [FS.ptr [FS.raw], FS.ptr [FS.raw], FS.ptr [FS.raw]]), .fs (FS.fn 63 [FS.ptr [FS.raw], FS.ptr [FS.raw], FS.ptr [FS.raw]]), .fs (FS.fn 63 [FS.ptr [FS.raw], FS.ptr [FS.raw], FS.ptr [FS.raw]]), .fs (FS.fn 48 [FS.ptr [FS.raw, FS.raw, FS.raw, FS.raw, FS.raw, FS.raw, FS.raw, FS.raw, FS.raw, FS.raw, FS.raw, FS.raw, FS.raw], FS.ptr [FS.fn 47 [FS.ptr [FS.raw]]]]), .fs (FS.fn 63 [FS.ptr [FS.raw], FS.ptr [FS.raw], FS.ptr [FS.raw]]), .fs (FS.fn 63 [FS.ptr [FS.raw], FS.ptr [FS.raw], FS.ptr [FS.raw]])]), (1606938044258990275541962092341162602522202993782792835346438, .arr 3 40)] }
def tpl_3099042527596592_4_0 : Tpl := { slots := [(0, .own (.yl 756602179589)), (1, .rp 13), (2, .fs (FS.ptr [FS.fn 47 [FS.ptr [FS.raw]]])), (4, .int .i64), (5, .own (.op 12693678193035640837 0)), (9, .rs 5), (10, .int .i64), (11, .int .i64), (17, .rs 5), (18, .int .i64), (19, .int .i64), (60, .own (.op 45062 0)), (88, .own (.op 45062 0)), (89, .own (.fn 17 [.op 45062 0])), (115, .own (.os 45089)), (116, .own (.pv (.int .i64 7))), (117, .own (.pv (.int .i64 4)))], blks := [(756602179589, .loop), (12693678193035640837, .box [.raw, .raw, .raw, .raw, .raw]), (45062, .box [.own (.os 1606938044258990275541962092341162602522202993782792835346438)]), (45089, .box [.fs (FS.fn 63 [FS.ptr [FS.raw], FS.ptr [FS.raw], FS.ptr [FS.raw]]), .fs (FS.fn 63 [FS.ptr [FS.raw], FS.ptr [FS.raw], FS.ptr [FS.raw]]), .fs (FS.fn 63 [FS.ptr [FS.raw], FS.ptr [FS.raw], FS.ptr [FS.raw]]), .fs (FS.fn 63 [FS.ptr [FS.raw], FS.ptr [FS.raw], FS.ptr [FS.raw]]), .fs (FS.fn 48 [FS.ptr [FS.raw, FS.raw, FS.raw, FS.raw, FS.raw, FS.raw, FS.raw, FS.raw, FS.raw, FS.raw, FS.raw, FS.raw, FS.raw], FS.ptr [FS.fn 47 [FS.ptr [FS.raw]]]]), .fs (FS.fn 63 [FS.ptr [FS.raw], FS.ptr [FS.raw], FS.ptr [FS.raw]]), .fs (FS.fn 63 [FS.ptr [FS.raw], FS.ptr [FS.raw], FS.ptr [FS.raw]])]), (1606938044258990275541962092341162602522202993782792835346438, .arr 3 40)] }
def tpl_3099042527596607_1_4 : Tpl := { slots := [(0, .own (.yl 756602179589)), (2, .rp 1), (3, .rp 1), (6, .int .i64), (7, .int .i64), (24, .own (.op 45062 0)), (52, .own (.op 45062 0)), (53, .own (.fn 17 [.op 45062 0])), (79, .own (.os 45089)), (80, .own (.pv (.int .i64 7))), (81, .own (.pv (.int .i64 5)))], blks := [(756602179589, .loop), (45062, .box [.own (.os 1606938044258990275541962092341162602522202993782792835346438)]), (45089, .box [.fs (FS.fn 63 [FS.ptr [FS.raw], FS.ptr [FS.raw], FS.ptr [FS.raw]]), .fs (FS.fn 63 [FS.ptr [FS.raw], FS.ptr [FS.raw], FS.ptr [FS.raw]]), .fs (FS.fn 63 [FS.ptr [FS.raw], FS.ptr [FS.raw], FS.ptr [FS.raw]]), .fs (FS.fn 63 [FS.ptr [FS.raw], FS.ptr [FS.raw], FS.ptr [FS.raw]]), .fs (FS.fn 48 [FS.ptr [FS.raw, FS.raw, FS.raw, FS.raw, FS.raw, FS.raw, FS.raw, FS.raw, FS.raw, FS.raw, FS.raw, FS.raw, FS.raw], FS.ptr [FS.fn 47 [FS.ptr [FS.raw]]]]), .fs (FS.fn 63 [FS.ptr [FS.raw], FS.ptr [FS.raw], FS.ptr [FS.raw]]), .fs (FS.fn 63 [FS.ptr [FS.raw], FS.ptr [FS.raw], FS.ptr [FS.raw]])]), (1606938044258990275541962092341162602522202993782792835346438, .arr 3 40)] }
def tpl_3099042527596607_1_5 : Tpl := { slots := [(0, .own (.yl 756602179589)), (2, .rp 1), (3, .rp 1), (6, .int .i64), (7, .int .i64), (24, .own (.op 45062 0)), (52, .own (.op 45062 0)), (53, .own (.fn 17 [.op 45062 0])), (79, .own (.os 45089)), (80, .own (.pv (.int .i64 7))), (81, .own (.pv (.int .i64 6)))], blks := [(756602179589, .loop), (45062, .box [.own (.os 1606938044258990275541962092341162602522202993782792835346438)]), (45089, .box [.fs (FS.fn 63 [FS.ptr [FS.raw], FS.ptr [FS.raw], FS.ptr [FS.raw]]), .fs (FS.fn 63 [FS.ptr [FS.raw], FS.ptr [FS.raw], FS.ptr [FS.raw]]), .fs (FS.fn 63 [FS.ptr [FS.raw], FS.ptr [FS.raw], FS.ptr [FS.raw]]), .fs (FS.fn 63 [FS.ptr [FS.raw], FS.ptr [FS.raw], FS.ptr [FS.raw]]), .fs (FS.fn 48 [FS.ptr [FS.raw, FS.raw, FS.raw, FS.raw, FS.raw, FS.raw, FS.raw, FS.raw, FS.raw, FS.raw, FS.raw, FS.raw, FS.raw], FS.ptr [FS.fn 47 [FS.ptr [FS.raw]]]]), .fs (FS.fn 63 [FS.ptr [FS.raw], FS.ptr [FS.raw], FS.ptr [FS.raw]]), .fs (FS.fn 63 [FS.ptr [FS.raw], FS.ptr [FS.raw], FS.ptr [FS.raw]])]), (1606938044258990275541962092341162602522202993782792835346438, .arr 3 40)] }
def tpl_12_4_0 : Tpl := { slots := [(0, .rs 3), (1, .rs 3), (5, .int .i64)], blks := [] }
def tpl_8_5_0 : Tpl := { slots := [(0, .rs 4), (1, .int .i64), (5, .int .i64), (6, .int .i64)], blks := [] }
def tpl_4_4_0 : Tpl := { slots := [(1, .own (.op 16385 0)), (3, .int .i64)], blks := [(16385, .box [.rs 4, .rs 3, .rs 10, .rs 3, .rs 5, .rs 4, .rs 2, .rs 3, .rs 4, .rs 6, .int .i64, .int .i64, .int .i64])] }
def hints (f k : Nat) : List Tpl :=
  bif Nat.beq f 13 then (bif Nat.beq k 3 then [tpl_13_3_0] else []) else
  bif Nat.beq f 20 then (bif Nat.beq k 3 then [tpl_20_3_0] else []) else
  bif Nat.beq f 74 then (bif Nat.beq k 6 then [tpl_74_6_0] else []) else
  bif Nat.beq f 46 then (bif Nat.beq k 2 then [tpl_46_2_0] else []) else
  bif Nat.beq f 21 then (bif Nat.beq k 3 then [tpl_21_3_0] else []) else
  bif Nat.beq f 22 then (bif Nat.beq k 3 then [tpl_22_3_0] else []) else
  bif Nat.beq f 19 then (bif Nat.beq k 3 then [tpl_19_3_0] else []) else
  bif Nat.beq f 18 then (bif Nat.beq k 3 then [tpl_18_3_0] else bif Nat.beq k 6 then [tpl_18_6_0] else bif Nat.beq k 12 then [tpl_18_12_0] else []) else
  bif Nat.beq f 24 then (bif Nat.beq k 3 then [tpl_24_3_0] else bif Nat.beq k 9 then [tpl_24_9_0] else bif Nat.beq k 15 then [tpl_24_15_0] else bif Nat.beq k 20 then [tpl_24_20_0] else []) else
  bif Nat.beq f 23 then (bif Nat.beq k 3 then [tpl_23_3_0] else bif Nat.beq k 6 then [tpl_23_6_0] else bif Nat.beq k 13 then [tpl_23_13_0] else []) else
  bif Nat.beq f 50 then (bif Nat.beq k 2 then [tpl_50_2_0] else []) else
  bif Nat.beq f 26 then (bif Nat.beq k 5 then [tpl_26_5_0] else []) else
  bif Nat.beq f 44 then (bif Nat.beq k 7 then [tpl_44_7_0] else []) else
  bif Nat.beq f 28 then (bif Nat.beq k 5 then [tpl_28_5_0] else []) else
  bif Nat.beq f 30 then (bif Nat.beq k 5 then [tpl_30_5_0] else []) else
  bif Nat.beq f 32 then (bif Nat.beq k 5 then [tpl_32_5_0] else []) else
  bif Nat.beq f 53 then (bif Nat.beq k 4 then [tpl_53_4_0] else []) else
  bif Nat.beq f 34 then (bif Nat.beq k 5 then [tpl_34_5_0] else []) else
  bif Nat.beq f 67 then (bif Nat.beq k 7 then [tpl_67_7_0] else []) else
  bif Nat.beq f 36 then (bif Nat.beq k 4 then [tpl_36_4_0] else bif Nat.beq k 12 then [tpl_36_12_0] else []) else
  bif Nat.beq f 76 then (bif Nat.beq k 2 then [tpl_76_2_0] else []) else
  bif Nat.beq f 71 then (bif Nat.beq k 3 then [tpl_71_3_0] else []) else
  bif Nat.beq f 59 then (bif Nat.beq k 2 then [tpl_59_2_0] else []) else
  bif Nat.beq f 70 then (bif Nat.beq k 2 then [tpl_70_2_0] else []) else
  bif Nat.beq f 38 then (bif Nat.beq k 5 then [tpl_38_5_0] else []) else
  bif Nat.beq f 72 then (bif Nat.beq k 2 then [tpl_72_2_0] else []) else
  bif Nat.beq f 73 then (bif Nat.beq k 2 then [tpl_73_2_0] else []) else
  bif Nat.beq f 40 then (bif Nat.beq k 5 then [tpl_40_5_0] else []) else
  bif Nat.beq f 61 then (bif Nat.beq k 3 then [tpl_61_3_0] else []) else
  bif Nat.beq f 65 then (bif Nat.beq k 4 then [tpl_65_4_0] else []) else
  bif Nat.beq f 49 then (bif Nat.beq k 5 then [tpl_49_5_0] else []) else
  bif Nat.beq f 3099042527596607 then (bif Nat.beq k 1 then [tpl_3099042527596607_1_0, tpl_3099042527596607_1_1, tpl_3099042527596607_1_2, tpl_3099042527596607_1_3, tpl_3099042527596607_1_4, tpl_3099042527596607_1_5] else []) else
  bif Nat.beq f 3099042527596592 then (bif Nat.beq k 1 then [tpl_3099042527596592_1_0] else bif Nat.beq k 4 then [tpl_3099042527596592_4_0] else []) else
  bif Nat.beq f 12 then (bif Nat.beq k 4 then [tpl_12_4_0] else []) else
  bif Nat.beq f 8 then (bif Nat.beq k 5 then [tpl_8_5_0] else []) else
  bif Nat.beq f 4 then (bif Nat.beq k 4 then [tpl_4_4_0] else []) else
  []
noncomputable def S : Seat := { P := Try.prog, glob := fun _ => none, hint := hints, fnr := fun g => bif Nat.beq g 45 then some (FS.fn 63 [FS.ptr [FS.raw], FS.ptr [FS.raw], FS.ptr [FS.raw]]) else bif Nat.beq g 18 then some (FS.fn 63 [FS.ptr [FS.raw], FS.ptr [FS.raw], FS.ptr [FS.raw]]) else bif Nat.beq g 19 then some (FS.fn 63 [FS.ptr [FS.raw], FS.ptr [FS.raw], FS.ptr [FS.raw]]) else bif Nat.beq g 20 then some (FS.fn 63 [FS.ptr [FS.raw], FS.ptr [FS.raw], FS.ptr [FS.raw]]) else bif Nat.beq g 21 then some (FS.fn 63 [FS.ptr [FS.raw], FS.ptr [FS.raw], FS.ptr [FS.raw]]) else bif Nat.beq g 23 then some (FS.fn 63 [FS.ptr [FS.raw], FS.ptr [FS.raw], FS.ptr [FS.raw]]) else bif Nat.beq g 24 then some (FS.fn 63 [FS.ptr [FS.raw], FS.ptr [FS.raw], FS.ptr [FS.raw]]) else bif Nat.beq g 22 then some (FS.fn 48 [FS.ptr [FS.raw, FS.raw, FS.raw, FS.raw, FS.raw, FS.raw, FS.raw, FS.raw, FS.raw, FS.raw, FS.raw, FS.raw, FS.raw], FS.ptr [FS.fn 47 [FS.ptr [FS.raw]]]]) else none }
def tab_0 : Tab := []
def otab_0 : Tab := []
def tab_1 : Tab := (10, law24_example_M) :: tab_0
def tab_2 : Tab := (13, law24_to_M) :: tab_1
def tab_3 : Tab := (9, lint_Text_1_M) :: tab_2
def tab_4 : Tab := (5, lint_Text_M) :: tab_3
def tab_5 : Tab := (20, lint_calendars_M) :: tab_4
def tab_6 : Tab := (52, date_Valid_M) :: tab_5
def tab_7 : Tab := (77, date_Weekday_M) :: tab_6
def tab_8 : Tab := (74, calendar_Reason_M) :: tab_7
def tab_9 : Tab := (64, calendar_Active_M) :: tab_8
def tab_10 : Tab := (46, calendar_Next_M) :: tab_9
def tab_11 : Tab := (21, lint_idle_M) :: tab_10
def tab_12 : Tab := (22, lint_overtaking_M) :: tab_11
def tab_13 : Tab := (47, lint_overtaking_1_M) :: tab_12
def tab_14 : Tab := (19, lint_routes_M) :: tab_13
def tab_15 : Tab := (18, lint_stops_M) :: tab_14
def tab_16 : Tab := (24, lint_unpaid_M) :: tab_15
def tab_17 : Tab := (23, lint_unreachable_M) :: tab_16
def tab_18 : Tab := (50, ident_Valid_M) :: tab_17
def tab_19 : Tab := (26, stop_Check_M) :: tab_18
def tab_20 : Tab := (25, timetable_Check_1_M) :: tab_19
def tab_21 : Tab := (62, product_within_M) :: tab_20
def tab_22 : Tab := (44, product_Check_M) :: tab_21
def tab_23 : Tab := (43, timetable_Check_10_M) :: tab_22
def tab_24 : Tab := (51, route_known_M) :: tab_23
def tab_25 : Tab := (28, route_Check_M) :: tab_24
def tab_26 : Tab := (27, timetable_Check_2_M) :: tab_25
def tab_27 : Tab := (30, calendar_Check_M) :: tab_26
def tab_28 : Tab := (29, timetable_Check_3_M) :: tab_27
def tab_29 : Tab := (32, calendar_CheckExceptions_M) :: tab_28
def tab_30 : Tab := (31, timetable_Check_4_M) :: tab_29
def tab_31 : Tab := (66, call_one_M) :: tab_30
def tab_32 : Tab := (53, call_Check_M) :: tab_31
def tab_33 : Tab := (34, trip_Check_M) :: tab_32
def tab_34 : Tab := (33, timetable_Check_5_M) :: tab_33
def tab_35 : Tab := (56, frequency_count_M) :: tab_34
def tab_36 : Tab := (78, frequency_moved_1_M) :: tab_35
def tab_37 : Tab := (79, frequency_wide_M) :: tab_36
def tab_38 : Tab := (75, frequency_moved_M) :: tab_37
def tab_39 : Tab := (67, frequency_Calls_M) :: tab_38
def tab_40 : Tab := (68, frequency_last_M) :: tab_39
def tab_41 : Tab := (55, frequency_fits_M) :: tab_40
def tab_42 : Tab := (54, frequency_sound_M) :: tab_41
def tab_43 : Tab := (36, frequency_Check_M) :: tab_42
def tab_44 : Tab := (35, timetable_Check_6_M) :: tab_43
def tab_45 : Tab := (58, through_follows_M) :: tab_44
def tab_46 : Tab := (76, through_Next_M) :: tab_45
def tab_47 : Tab := (71, through_Chain_M) :: tab_46
def tab_48 : Tab := (59, through_leads_M) :: tab_47
def tab_49 : Tab := (70, frequency_Repeated_M) :: tab_48
def tab_50 : Tab := (69, through_pair_1_M) :: tab_49
def tab_51 : Tab := (57, through_pair_M) :: tab_50
def tab_52 : Tab := (38, through_Check_M) :: tab_51
def tab_53 : Tab := (37, timetable_Check_7_M) :: tab_52
def tab_54 : Tab := (72, through_alighting_M) :: tab_53
def tab_55 : Tab := (73, through_boarding_M) :: tab_54
def tab_56 : Tab := (60, through_Meets_M) :: tab_55
def tab_57 : Tab := (40, through_CheckGuarantees_M) :: tab_56
def tab_58 : Tab := (39, timetable_Check_8_M) :: tab_57
def tab_59 : Tab := (61, footpath_sound_M) :: tab_58
def tab_60 : Tab := (42, footpath_Check_M) :: tab_59
def tab_61 : Tab := (41, timetable_Check_9_M) :: tab_60
def tab_62 : Tab := (16, timetable_Check_M) :: tab_61
def tab_63 : Tab := (65, trip_SamePattern_M) :: tab_62
def tab_64 : Tab := (49, trip_Overtakes_M) :: tab_63
def tab_65 : Tab := (11, lint_Warnings_M) :: tab_64
def tab_66 : Tab := (12, ref24_Same_M) :: tab_65
def tab_67 : Tab := (7, law24_exampleHolds_M) :: tab_66
def tab_68 : Tab := (14, ref18_Sound_M) :: tab_67
def tab_69 : Tab := (15, ref18_count_M) :: tab_68
def tab_70 : Tab := (8, ref18_Many_M) :: tab_69
def tab_71 : Tab := (4, ref24_Large_M) :: tab_70
def tab_72 : Tab := (6, ref24_Text_M) :: tab_71
def tab_73 : Tab := (3, law24_LintTexts_M) :: tab_72
end Go.Proofs.Ytnbhhepiekhbjaa
