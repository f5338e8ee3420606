/- The table of the functions of this seat: shapes of loop heads, and what is known of each function. Printed by a program of the author. -/
import Derived.Test.YtacjfkmonjbcmaaProg
import Derived.Test.YtacjfkmonjbcmaaAbSeat
import Derived.Test.YtacjfkmonjbcmaaSh2
import Derived.KernelRfl
namespace Go.Proofs.Ytacjfkmonjbcmaa
open Go.Ab
set_option maxRecDepth 100000
def tpl_71_3_0 : Tpl := { slots := [(3, .int .i64), (6, .rs 1), (7, .int .i64), (8, .int .i64)], blks := [] }
def tpl_53_2_0 : Tpl := { slots := [(0, .own (.pv .nilm)), (2, .int .i64), (7, .int .i64), (8, .bool)], blks := [] }
def tpl_53_2_1 : Tpl := { slots := [(0, .raw), (2, .int .i64), (7, .int .i64), (8, .bool)], blks := [] }
def tpl_24_6_0 : Tpl := { slots := [(1, .own (.op 98305 0)), (2, .own (.op 98306 0)), (3, .own (.om 98322)), (4, .own (.om 98323)), (5, .own (.om 98324)), (22, .rs 5), (23, .int .i64), (24, .int .i64)], blks := [(98305, .box [.rs 4, .rs 3, .rs 8, .rs 5, .rs 4, .rs 6, .int .i64, .int .i64, .int .i64]), (98306, .box [.int .i64, .int .i64, .int .i64]), (98322, .map 3), (98323, .map 3), (98324, .map 99)] }
def tpl_77_7_0 : Tpl := { slots := [(2, .rs 1), (7, .own (.fn 91 [.op 315395 0])), (22, .rs 3), (23, .int .i64), (24, .int .i64)], blks := [(315395, .box [.int .i64])] }
def tpl_77_15_0 : Tpl := { slots := [(7, .own (.fn 91 [.op 315395 0])), (47, .rs 1), (48, .int .i64), (49, .int .i64)], blks := [(315395, .box [.int .i64])] }
def tpl_80_3_0 : Tpl := { slots := [(1, .raw), (2, .int .i64), (7, .own (.os 327695)), (17, .int .i64), (18, .int .i64)], blks := [(327695, .arr 3 148)] }
def tpl_1342304350_5_0 : Tpl := { slots := [(0, .own (.op 5498011500551 0)), (4, .int .i64), (55, .raw), (61, .own (.os 327695)), (63, .own (.op 5498011500551 0))], blks := [(5498011500551, .box [.own (.fn 93 []), .own (.os 3213876088517980551083924184682325205044405987571083682103303), .int .i64]), (327695, .arr 3 148), (3213876088517980551083924184682325205044405987571083682103303, .arr 4 165)] }
def tpl_80_9_0 : Tpl := { slots := [(1, .raw), (7, .own (.os 327695)), (9, .own (.op 5498011500551 0))], blks := [(327695, .arr 3 148), (5498011500551, .box [.own (.fn 93 []), .own (.os 3213876088517980551083924184682325205044405987571083682103303), .int .i64]), (3213876088517980551083924184682325205044405987571083682103303, .arr 4 165)] }
def tpl_22520336193036392_1_0 : Tpl := { slots := [(0, .own (.op 5498011500551 0)), (2, .int .i64), (43, .own (.op 5498128953346 0)), (45, .own (.op 5498128953348 0)), (78, .raw), (84, .own (.os 327695)), (86, .own (.op 5498011500551 0))], blks := [(5498011500551, .box [.own (.fn 93 []), .own (.os 3213876088517980551083924184682325205044405987571083682103303), .int .i64]), (5498128953346, .box [.int .i64, .int .i64, .int .i64]), (5498128953348, .box [.raw, .raw, .raw]), (327695, .arr 3 148), (3213876088517980551083924184682325205044405987571083682103303, .arr 4 165)], ct := [(5498011500551, 1)] }
def tpl_80_15_0 : Tpl := { slots := [(1, .raw), (7, .own (.os 327695)), (9, .own (.op 5498011500551 0)), (10, .own (.op 327690 0)), (55, .rs 0), (56, .int .i64), (57, .int .i64)], blks := [(327695, .arr 3 148), (5498011500551, .box [.own (.fn 93 []), .own (.os 3213876088517980551083924184682325205044405987571083682103303), .int .i64]), (327690, .box [.raw, .raw, .raw]), (3213876088517980551083924184682325205044405987571083682103303, .arr 4 165)] }
def tpl_80_15_1 : Tpl := { slots := [(1, .raw), (7, .own (.os 327695)), (9, .own (.op 5498011500551 0)), (10, .own (.op 327690 0)), (55, .rs 3), (56, .int .i64), (57, .int .i64)], blks := [(327695, .arr 3 148), (5498011500551, .box [.own (.fn 93 []), .own (.os 3213876088517980551083924184682325205044405987571083682103303), .int .i64]), (327690, .box [.raw, .raw, .raw]), (3213876088517980551083924184682325205044405987571083682103303, .arr 4 165)] }
def tpl_1342505054_5_0 : Tpl := { slots := [(0, .own (.op 5498011500551 0)), (4, .int .i64), (55, .raw), (61, .own (.os 327695)), (63, .own (.op 5498011500551 0)), (64, .own (.op 327690 0)), (109, .rs 3), (110, .int .i64), (111, .int .i64)], blks := [(5498011500551, .box [.own (.fn 93 []), .own (.os 3213876088517980551083924184682325205044405987571083682103303), .int .i64]), (327695, .arr 3 148), (327690, .box [.raw, .raw, .raw]), (3213876088517980551083924184682325205044405987571083682103303, .arr 4 165)] }
def tpl_79_3_0 : Tpl := { slots := [(3, .own (.os 323592)), (9, .rs 3), (10, .int .i64), (11, .int .i64)], blks := [(323592, .arr 1 3)] }
def tpl_78_3_0 : Tpl := { slots := [(1, .bool), (5, .own (.om 319496)), (9, .rs 3), (10, .int .i64), (11, .int .i64)], blks := [(319496, .mapN 3 124)] }
def tpl_73_7_0 : Tpl := { slots := [(0, .int .i64), (7, .raw), (8, .own (.os 299027)), (21, .int .i64), (22, .int .i64)], blks := [(299027, .arr 1 56)] }
def tpl_67_3_0 : Tpl := { slots := [(1, .int .i64), (2, .bool), (7, .own (.om 274450)), (19, .rs 4), (20, .int .i64), (21, .int .i64)], blks := [(274450, .map 115)] }
def tpl_67_13_0 : Tpl := { slots := [(1, .int .i64), (13, .own (.os 274489)), (59, .own (.it 274491))], blks := [(274489, .arr 3 124), (274491, .iter 121)] }
def tpl_65_5_0 : Tpl := { slots := [(5, .rs 1), (6, .rs 1), (7, .own (.op 266247 0)), (8, .own (.fn 68 [.op 266247 0])), (21, .int .i64), (22, .int .i64)], blks := [(266247, .box [.own (.os 1606938044258990275541962092341162602522202993782792835567623)]), (1606938044258990275541962092341162602522202993782792835567623, .arr 4 53)] }
def tpl_65_8_0 : Tpl := { slots := [(5, .rs 1), (6, .rs 1), (7, .own (.op 266247 0)), (8, .own (.fn 68 [.op 266247 0])), (9, .int .i64), (21, .int .i64), (22, .int .i64), (28, .rs 1), (29, .int .i64), (30, .int .i64)], blks := [(266247, .box [.own (.os 1606938044258990275541962092341162602522202993782792835567623)]), (1606938044258990275541962092341162602522202993782792835567623, .arr 4 53)] }
def tpl_64_3_0 : Tpl := { slots := [(1, .int .i64), (6, .own (.om 262154)), (11, .rs 4), (12, .int .i64), (13, .int .i64)], blks := [(262154, .map 115)] }
def tpl_55_10_0 : Tpl := { slots := [(0, .rs 4), (7, .rs 4), (29, .int .i64), (30, .int .i64)], blks := [] }
def tpl_26_3_0 : Tpl := { slots := [(1, .own (.op 106497 0)), (2, .own (.op 106498 0)), (3, .own (.om 106503)), (9, .rs 4), (10, .int .i64), (11, .int .i64)], blks := [(106497, .box [.rs 4, .rs 3, .rs 8, .rs 5, .rs 4, .rs 6, .int .i64, .int .i64, .int .i64]), (106498, .box [.int .i64, .int .i64, .int .i64]), (106503, .map 53)] }
def tpl_51_4_0 : Tpl := { slots := [(0, .rs 5), (1, .int .i64), (2, .int .i64), (3, .int .i64), (21, .int .i64), (22, .int .i64)], blks := [] }
def tpl_49_2_0 : Tpl := { slots := [(0, .str), (3, .int .i64)], blks := [] }
def tpl_23_5_0 : Tpl := { slots := [(1, .own (.op 94209 0)), (2, .own (.op 94210 0)), (3, .own (.om 94222)), (16, .rs 8), (17, .int .i64), (18, .int .i64)], blks := [(94209, .box [.rs 4, .rs 3, .rs 8, .rs 5, .rs 4, .rs 6, .int .i64, .int .i64, .int .i64]), (94210, .box [.int .i64, .int .i64, .int .i64]), (94222, .map 94)] }
def tpl_21_2_0 : Tpl := { slots := [(2, .own (.op 86018 0)), (5, .rs 3), (6, .int .i64), (7, .int .i64)], blks := [(86018, .box [.int .i64, .int .i64, .int .i64])] }
def tpl_25_7_0 : Tpl := { slots := [(4, .own (.om 102427)), (29, .rs 6), (30, .int .i64), (31, .int .i64)], blks := [(102427, .map 9)] }
def tpl_20_5_0 : Tpl := { slots := [(4, .own (.om 81930)), (11, .rs 3), (12, .int .i64), (13, .int .i64)], blks := [(81930, .map 9)] }
def tpl_19_5_0 : Tpl := { slots := [(4, .own (.om 77834)), (11, .rs 4), (12, .int .i64), (13, .int .i64)], blks := [(77834, .map 9)] }
def tpl_12_6_0 : Tpl := { slots := [(8, .int .i64), (9, .int .i64), (10, .bool), (24, .rs 8), (25, .int .i64), (26, .int .i64)], blks := [] }
def tpl_8_4_0 : Tpl := { slots := [(1, .own (.op 32769 0)), (41, .int .i64), (42, .int .i64)], blks := [(32769, .box [.rs 4, .rs 3, .rs 8, .rs 5, .rs 4, .rs 6, .int .i64, .int .i64, .int .i64])] }
def tpl_41_4_0 : Tpl := { slots := [(2, .own (.op 167938 0)), (3, .own (.op 167939 0)), (5, .int .i64)], blks := [(167938, .box [.rs 6, .int .i64, .int .i64, .int .i64]), (167939, .box [.rs 6, .int .i64, .int .i64, .int .i64])] }
def tpl_61_4_0 : Tpl := { slots := [(0, .rs 5), (1, .rs 5), (5, .int .i64)], blks := [] }
def tpl_40_4_0 : Tpl := { slots := [(0, .rs 8), (1, .rs 8), (5, .int .i64)], blks := [] }
def tpl_15_4_0 : Tpl := { slots := [(2, .own (.op 61442 0)), (3, .own (.op 61443 0)), (5, .int .i64)], blks := [(61442, .box [.rs 4, .rs 3, .rs 8, .rs 5, .rs 4, .rs 6, .int .i64, .int .i64, .int .i64]), (61443, .box [.rs 4, .rs 3, .rs 8, .rs 5, .rs 4, .rs 6, .int .i64, .int .i64, .int .i64])] }
def tpl_15_9_0 : Tpl := { slots := [(2, .own (.op 61442 0)), (3, .own (.op 61443 0)), (6, .int .i64)], blks := [(61442, .box [.rs 4, .rs 3, .rs 8, .rs 5, .rs 4, .rs 6, .int .i64, .int .i64, .int .i64]), (61443, .box [.rs 4, .rs 3, .rs 8, .rs 5, .rs 4, .rs 6, .int .i64, .int .i64, .int .i64])] }
def tpl_15_14_0 : Tpl := { slots := [(2, .own (.op 61442 0)), (3, .own (.op 61443 0)), (7, .int .i64)], blks := [(61442, .box [.rs 4, .rs 3, .rs 8, .rs 5, .rs 4, .rs 6, .int .i64, .int .i64, .int .i64]), (61443, .box [.rs 4, .rs 3, .rs 8, .rs 5, .rs 4, .rs 6, .int .i64, .int .i64, .int .i64])] }
def tpl_15_19_0 : Tpl := { slots := [(2, .own (.op 61442 0)), (3, .own (.op 61443 0)), (8, .int .i64)], blks := [(61442, .box [.rs 4, .rs 3, .rs 8, .rs 5, .rs 4, .rs 6, .int .i64, .int .i64, .int .i64]), (61443, .box [.rs 4, .rs 3, .rs 8, .rs 5, .rs 4, .rs 6, .int .i64, .int .i64, .int .i64])] }
def tpl_83955726_3_0 : Tpl := { slots := [(1, .own (.op 343882653697 0)), (2, .own (.op 343882653698 0)), (3, .own (.op 343882653699 0)), (25, .int .i64), (26, .int .i64), (50, .own (.op 20481 0))], blks := [(343882653697, .box [.rs 4, .rs 3, .rs 8, .rs 5, .rs 4, .rs 6, .int .i64, .int .i64, .int .i64]), (343882653698, .box [.own .nils, .own .nils, .own .nils, .own .nils, .own .nils, .own .nils, .int .i64, .int .i64, .int .i64]), (343882653699, .box [.own (.os 343882653703), .own (.os 343882653706), .own (.os 343882653709), .own (.os 343882653712), .own (.os 343882653715), .rs 6, .int .i64, .int .i64, .int .i64]), (20481, .box [.rs 4, .rs 3, .rs 8, .rs 5, .rs 4, .rs 6, .int .i64, .int .i64, .int .i64]), (343882653703, .arr 4 47), (343882653706, .arr 3 49), (343882653709, .nest 8 41), (343882653712, .arr 5 51), (343882653715, .arr 4 53)], nz := [343882653709] }
def tpl_83963918_3_0 : Tpl := { slots := [(1, .own (.op 343916208129 0)), (2, .own (.op 343916208130 0)), (3, .own (.op 343916208131 0)), (25, .int .i64), (26, .int .i64), (50, .own (.op 20481 0)), (52, .own (.op 20483 0))], blks := [(343916208129, .box [.rs 4, .rs 3, .rs 8, .rs 5, .rs 4, .rs 6, .int .i64, .int .i64, .int .i64]), (343916208130, .box [.own .nils, .own .nils, .own .nils, .own .nils, .own .nils, .own .nils, .int .i64, .int .i64, .int .i64]), (343916208131, .box [.own (.os 343916208135), .own (.os 343916208138), .own (.os 343916208141), .own (.os 343916208144), .own (.os 343916208147), .rs 6, .int .i64, .int .i64, .int .i64]), (20481, .box [.rs 4, .rs 3, .rs 8, .rs 5, .rs 4, .rs 6, .int .i64, .int .i64, .int .i64]), (20483, .box [.own (.os 343882653703), .own (.os 343882653706), .own (.os 343882653709), .own (.os 343882653712), .own (.os 343882653715), .own (.os 343882653741), .int .i64, .int .i64, .int .i64]), (343916208135, .arr 4 47), (343916208138, .arr 3 49), (343916208141, .nest 8 41), (343916208144, .arr 5 51), (343916208147, .arr 4 53), (343882653703, .arr 4 47), (343882653706, .arr 3 49), (343882653709, .nest 8 41), (343882653712, .arr 5 51), (343882653715, .arr 4 53), (343882653741, .arr 6 55)], nz := [343916208141] }
def tpl_62_4_0 : Tpl := { slots := [(0, .rs 5), (1, .rs 5), (12, .int .i64), (13, .int .i64)], blks := [] }
def tpl_48_4_0 : Tpl := { slots := [(0, .rs 4), (1, .rs 4), (12, .int .i64), (13, .int .i64)], blks := [] }
def tpl_47_4_0 : Tpl := { slots := [(0, .rs 5), (1, .rs 5), (12, .int .i64), (13, .int .i64)], blks := [] }
def tpl_42_4_0 : Tpl := { slots := [(0, .rs 6), (1, .rs 6), (12, .int .i64), (13, .int .i64)], blks := [] }
def tpl_44_4_0 : Tpl := { slots := [(0, .rs 3), (1, .rs 3), (12, .int .i64), (13, .int .i64)], blks := [] }
def tpl_43_4_0 : Tpl := { slots := [(0, .rs 4), (1, .rs 4), (12, .int .i64), (13, .int .i64)], blks := [] }
def tpl_285437997_4_0 : Tpl := { slots := [(1, .rs 8), (2, .own (.fn 46 [])), (15, .rs 8), (16, .int .i64), (17, .int .i64), (34, .own (.op 69634 0)), (35, .own (.op 69635 0)), (82, .bool)], blks := [(69634, .box [.rs 4, .rs 3, .rs 8, .rs 5, .rs 4, .rs 6, .int .i64, .int .i64, .int .i64]), (69635, .box [.rs 4, .rs 3, .rs 8, .rs 5, .rs 4, .rs 6, .int .i64, .int .i64, .int .i64])] }
def hints (f k : Nat) : List Tpl :=
  bif Nat.beq f 71 then (bif Nat.beq k 3 then [tpl_71_3_0] else []) else
  bif Nat.beq f 53 then (bif Nat.beq k 2 then [tpl_53_2_0, tpl_53_2_1] else []) else
  bif Nat.beq f 24 then (bif Nat.beq k 6 then [tpl_24_6_0] else []) else
  bif Nat.beq f 77 then (bif Nat.beq k 7 then [tpl_77_7_0] else bif Nat.beq k 15 then [tpl_77_15_0] else []) else
  bif Nat.beq f 80 then (bif Nat.beq k 3 then [tpl_80_3_0] else bif Nat.beq k 9 then [tpl_80_9_0] else bif Nat.beq k 15 then [tpl_80_15_0, tpl_80_15_1] else []) else
  bif Nat.beq f 1342304350 then (bif Nat.beq k 5 then [tpl_1342304350_5_0] else []) else
  bif Nat.beq f 22520336193036392 then (bif Nat.beq k 1 then [tpl_22520336193036392_1_0] else []) else
  bif Nat.beq f 1342505054 then (bif Nat.beq k 5 then [tpl_1342505054_5_0] else []) else
  bif Nat.beq f 79 then (bif Nat.beq k 3 then [tpl_79_3_0] else []) else
  bif Nat.beq f 78 then (bif Nat.beq k 3 then [tpl_78_3_0] else []) else
  bif Nat.beq f 73 then (bif Nat.beq k 7 then [tpl_73_7_0] else []) else
  bif Nat.beq f 67 then (bif Nat.beq k 3 then [tpl_67_3_0] else bif Nat.beq k 13 then [tpl_67_13_0] else []) else
  bif Nat.beq f 65 then (bif Nat.beq k 5 then [tpl_65_5_0] else bif Nat.beq k 8 then [tpl_65_8_0] else []) else
  bif Nat.beq f 64 then (bif Nat.beq k 3 then [tpl_64_3_0] else []) else
  bif Nat.beq f 55 then (bif Nat.beq k 10 then [tpl_55_10_0] else []) else
  bif Nat.beq f 26 then (bif Nat.beq k 3 then [tpl_26_3_0] else []) else
  bif Nat.beq f 51 then (bif Nat.beq k 4 then [tpl_51_4_0] else []) else
  bif Nat.beq f 49 then (bif Nat.beq k 2 then [tpl_49_2_0] else []) else
  bif Nat.beq f 23 then (bif Nat.beq k 5 then [tpl_23_5_0] else []) else
  bif Nat.beq f 21 then (bif Nat.beq k 2 then [tpl_21_2_0] else []) else
  bif Nat.beq f 25 then (bif Nat.beq k 7 then [tpl_25_7_0] else []) else
  bif Nat.beq f 20 then (bif Nat.beq k 5 then [tpl_20_5_0] else []) else
  bif Nat.beq f 19 then (bif Nat.beq k 5 then [tpl_19_5_0] else []) else
  bif Nat.beq f 12 then (bif Nat.beq k 6 then [tpl_12_6_0] else []) else
  bif Nat.beq f 8 then (bif Nat.beq k 4 then [tpl_8_4_0] else []) else
  bif Nat.beq f 41 then (bif Nat.beq k 4 then [tpl_41_4_0] else []) else
  bif Nat.beq f 61 then (bif Nat.beq k 4 then [tpl_61_4_0] else []) else
  bif Nat.beq f 40 then (bif Nat.beq k 4 then [tpl_40_4_0] else []) else
  bif Nat.beq f 15 then (bif Nat.beq k 4 then [tpl_15_4_0] else bif Nat.beq k 9 then [tpl_15_9_0] else bif Nat.beq k 14 then [tpl_15_14_0] else bif Nat.beq k 19 then [tpl_15_19_0] else []) else
  bif Nat.beq f 83955726 then (bif Nat.beq k 3 then [tpl_83955726_3_0] else []) else
  bif Nat.beq f 83963918 then (bif Nat.beq k 3 then [tpl_83963918_3_0] else []) else
  bif Nat.beq f 62 then (bif Nat.beq k 4 then [tpl_62_4_0] else []) else
  bif Nat.beq f 48 then (bif Nat.beq k 4 then [tpl_48_4_0] else []) else
  bif Nat.beq f 47 then (bif Nat.beq k 4 then [tpl_47_4_0] else []) else
  bif Nat.beq f 42 then (bif Nat.beq k 4 then [tpl_42_4_0] else []) else
  bif Nat.beq f 44 then (bif Nat.beq k 4 then [tpl_44_4_0] else []) else
  bif Nat.beq f 43 then (bif Nat.beq k 4 then [tpl_43_4_0] else []) else
  bif Nat.beq f 285437997 then (bif Nat.beq k 4 then [tpl_285437997_4_0] else []) else
  []
noncomputable def S0 : Seat := { P := Try.prog, glob := fun _ => none, hint := hints, nst := fun s => Nat.beq s 319496 || Nat.beq s 319516 || Nat.beq s 323583 || Nat.beq s 270369 || Nat.beq s 270370 || Nat.beq s 270391 || Nat.beq s 270398 || Nat.beq s 270425 || Nat.beq s 270430 || Nat.beq s 270437 || Nat.beq s 270444 || Nat.beq s 274431 || Nat.beq s 20533 || Nat.beq s 20543 || Nat.beq s 24575 || Nat.beq s 343882657791 || Nat.beq s 343916212223 }
noncomputable def clo (g : Nat) : Option (List PV → Option PV) := bif Nat.beq g 70 then some footpath_closure_2_M else none
noncomputable def S : Seat := { P := Try.prog, glob := fun _ => none, hint := hints, hook := fun g => bif Nat.beq g 69 then some (sortHookK 4 clo) else none, nst := fun s => Nat.beq s 319496 || Nat.beq s 319516 || Nat.beq s 323583 || Nat.beq s 270369 || Nat.beq s 270370 || Nat.beq s 270391 || Nat.beq s 270398 || Nat.beq s 270425 || Nat.beq s 270430 || Nat.beq s 270437 || Nat.beq s 270444 || Nat.beq s 274431 || Nat.beq s 20533 || Nat.beq s 20543 || Nat.beq s 24575 || Nat.beq s 343882657791 || Nat.beq s 343916212223 }
noncomputable def tab_0 : Tab := []
noncomputable def otab_0 : Tab := []
noncomputable def tab_1 : Tab := (72, cmp_Compare_int_M) :: tab_0
noncomputable def tab_2 : Tab := (71, cmp_Or_int_M) :: tab_1
noncomputable def tab_3 : Tab := (70, footpath_closure_2_M) :: tab_2
noncomputable def tab_4 : Tab := (18, law26_example_M) :: tab_3
noncomputable def tab_5 : Tab := (53, network_leads_M) :: tab_4
noncomputable def tab_6 : Tab := (22, network_of_M) :: tab_5
noncomputable def tab_7 : Tab := (52, network_within_M) :: tab_6
noncomputable def tab_8 : Tab := (24, network_checkLinks_M) :: tab_7
noncomputable def tab_9 : Tab := (91, shortest_check_1_M) :: tab_8
noncomputable def tab_10 : Tab := (77, shortest_check_M) :: tab_9
noncomputable def tab_11 : Tab := (93, shortest_less_M) :: tab_10
noncomputable def tab_12 : Tab := (101, heap_Heap_shortest_label_before_M) :: tab_11
noncomputable def tab_13 : Tab := (80, shortest_labels_M) :: tab_12
noncomputable def tab_14 : Tab := (79, shortest_lengths_M) :: tab_13
noncomputable def tab_15 : Tab := (78, shortest_neighbors_M) :: tab_14
noncomputable def tab_16 : Tab := (73, shortest_All_M) :: tab_15
noncomputable def tab_17 : Tab := (67, footpath_distances_M) :: tab_16
noncomputable def tab_18 : Tab := (65, footpath_closure_M) :: tab_17
noncomputable def tab_19 : Tab := (64, footpath_sound_M) :: tab_18
noncomputable def tab_20 : Tab := (55, footpath_IsClosed_M) :: tab_19
noncomputable def tab_21 : Tab := (26, network_checkPaths_M) :: tab_20
noncomputable def tab_22 : Tab := (63, call_one_M) :: tab_21
noncomputable def tab_23 : Tab := (51, call_Check_M) :: tab_22
noncomputable def tab_24 : Tab := (49, ident_Valid_M) :: tab_23
noncomputable def tab_25 : Tab := (23, network_checkRuns_M) :: tab_24
noncomputable def tab_26 : Tab := (21, network_first_M) :: tab_25
noncomputable def tab_27 : Tab := (54, product_within_M) :: tab_26
noncomputable def tab_28 : Tab := (25, product_Check_M) :: tab_27
noncomputable def tab_29 : Tab := (50, route_known_M) :: tab_28
noncomputable def tab_30 : Tab := (20, route_Check_M) :: tab_29
noncomputable def tab_31 : Tab := (19, stop_Check_M) :: tab_30
noncomputable def tab_32 : Tab := (10, network_Check_M) :: tab_31
noncomputable def tab_33 : Tab := (12, network_Horizon_M) :: tab_32
noncomputable def tab_34 : Tab := (9, law26_exampleHolds_M) :: tab_33
noncomputable def tab_35 : Tab := (8, law26_light_M) :: tab_34
noncomputable def otab_1 : Tab := (38, network_fresh_Call_M) :: otab_0
noncomputable def otab_2 : Tab := (37, network_fresh_Footpath_M) :: otab_1
noncomputable def otab_3 : Tab := (36, network_fresh_Link_M) :: otab_2
noncomputable def otab_4 : Tab := (39, network_fresh_Product_M) :: otab_3
noncomputable def otab_5 : Tab := (34, network_fresh_Route_M) :: otab_4
noncomputable def otab_6 : Tab := (35, network_fresh_Run_M) :: otab_5
noncomputable def otab_7 : Tab := (33, network_fresh_Stop_M) :: otab_6
noncomputable def tab_52 : Tab := (41, ref26_SameFares_M) :: tab_35
noncomputable def tab_53 : Tab := (61, ref26_SameCalls_M) :: tab_52
noncomputable def tab_54 : Tab := (40, ref26_SameRuns_M) :: tab_53
noncomputable def tab_55 : Tab := (15, ref26_Equal_M) :: tab_54
noncomputable def tab_59 : Tab := (62, slices_Equal_Call_Call_M) :: tab_55
noncomputable def tab_60 : Tab := (46, network_sameRun_M) :: tab_59
noncomputable def tab_61 : Tab := (48, slices_Equal_Footpath_Footpath_M) :: tab_60
noncomputable def tab_62 : Tab := (47, slices_Equal_Link_Link_M) :: tab_61
noncomputable def tab_63 : Tab := (42, slices_Equal_Product_Product_M) :: tab_62
noncomputable def tab_64 : Tab := (44, slices_Equal_Route_Route_M) :: tab_63
noncomputable def tab_65 : Tab := (43, slices_Equal_Stop_Stop_M) :: tab_64
noncomputable def tab_66 : Tab := (17, network_Equal_M) :: tab_65
noncomputable def tab_67 : Tab := (7, law26_NetworkEqual_M) :: tab_66
end Go.Proofs.Ytacjfkmonjbcmaa
