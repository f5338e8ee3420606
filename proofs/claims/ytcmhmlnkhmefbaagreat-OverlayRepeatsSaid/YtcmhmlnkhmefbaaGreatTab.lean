import Derived.Test.YtcmhmlnkhmefbaaGreatProg
import Derived.Test.YtcmhmlnkhmefbaaGreatAbSeat
import Derived.Test.YtcmhmlnkhmefbaaGreatSh3
import Derived.KernelRfl
namespace Go.Proofs.YtcmhmlnkhmefbaaGreat
open Go.Ab
set_option maxRecDepth 100000
def HX:fg:={aA:=[(3,.int .i64),(6,.rs 1),(7,.int .i64),(8,.int .i64)],bQ:=[]}
def Lq:fg:={aA:=[(0,.rs 5),(1,.int .i64),(2,.int .i64),(3,.int .i64),(21,.int .i64),(22,.int .i64)],bQ:=[]}
def Lr:fg:={aA:=[(3,.int .i64),(6,.rs 5),(7,.int .i64),(8,.int .i64)],bQ:=[]}
def Lt:fg:={aA:=[(0,.str),(3,.int .i64)],bQ:=[]}
def Lu:fg:={aA:=[(0,.raw),(2,.int .i64),(7,.int .i64),(8,.bool)],bQ:=[]}
def Lv:fg:={aA:=[(1,.own (.op 184321 0)),(2,.own (.op 184322 0)),(3,.own (.om 184338)),(4,.own (.om 184339)),(5,.own (.om 184340)),(22,.rs 5),(23,.int .i64),(24,.int .i64)],bQ:=[(184321,.box [.rs 4,.rs 3,.rs 8,.rs 5,.rs 4,.rs 6,.int .i64,.int .i64,.int .i64]),(184322,.box [.int .i64,.int .i64,.int .i64]),(184338,.map 3),(184339,.map 3),(184340,.map 131)]}
def HY:fg:={aA:=[(2,.rs 1),(7,.own (.fn 121 [.op 438275 0])),(22,.rs 3),(23,.int .i64),(24,.int .i64)],bQ:=[(438275,.box [.int .i64])]}
def FL:fg:={aA:=[(7,.own (.fn 121 [.op 438275 0])),(47,.rs 1),(48,.int .i64),(49,.int .i64)],bQ:=[(438275,.box [.int .i64])]}
def HZ:fg:={aA:=[(1,.raw),(2,.int .i64),(7,.own (.os 450575)),(17,.int .i64),(18,.int .i64)],bQ:=[(450575,.arr 3 181)]}
def wF:fg:={aA:=[(0,.own (.op 7559595925511 0)),(4,.int .i64),(55,.raw),(61,.own (.os 450575)),(63,.own (.op 7559595925511 0))],bQ:=[(7559595925511,.box [.own (.fn 123 []),.own (.os 3213876088517980551083924184682325205044405987573145266528263),.int .i64]),(450575,.arr 3 181),(3213876088517980551083924184682325205044405987573145266528263,.arr 4 198)]}
def H0:fg:={aA:=[(1,.raw),(7,.own (.os 450575)),(9,.own (.op 7559595925511 0))],bQ:=[(450575,.arr 3 181),(7559595925511,.box [.own (.fn 123 []),.own (.os 3213876088517980551083924184682325205044405987573145266528263),.int .i64]),(3213876088517980551083924184682325205044405987573145266528263,.arr 4 198)]}
def pJ:fg:={aA:=[(0,.own (.op 7559595925511 0)),(2,.int .i64),(43,.own (.op 7559713378306 0)),(45,.own (.op 7559713378308 0)),(78,.raw),(84,.own (.os 450575)),(86,.own (.op 7559595925511 0))],bQ:=[(7559595925511,.box [.own (.fn 123 []),.own (.os 3213876088517980551083924184682325205044405987573145266528263),.int .i64]),(7559713378306,.box [.int .i64,.int .i64,.int .i64]),(7559713378308,.box [.raw,.raw,.raw]),(450575,.arr 3 181),(3213876088517980551083924184682325205044405987573145266528263,.arr 4 198)],ct:=[(7559595925511,1)]}
def FM:fg:={aA:=[(1,.raw),(7,.own (.os 450575)),(9,.own (.op 7559595925511 0)),(10,.own (.op 450570 0)),(55,.rs 0),(56,.int .i64),(57,.int .i64)],bQ:=[(450575,.arr 3 181),(7559595925511,.box [.own (.fn 123 []),.own (.os 3213876088517980551083924184682325205044405987573145266528263),.int .i64]),(450570,.box [.raw,.raw,.raw]),(3213876088517980551083924184682325205044405987573145266528263,.arr 4 198)]}
def FN:fg:={aA:=[(1,.raw),(7,.own (.os 450575)),(9,.own (.op 7559595925511 0)),(10,.own (.op 450570 0)),(55,.rs 3),(56,.int .i64),(57,.int .i64)],bQ:=[(450575,.arr 3 181),(7559595925511,.box [.own (.fn 123 []),.own (.os 3213876088517980551083924184682325205044405987573145266528263),.int .i64]),(450570,.box [.raw,.raw,.raw]),(3213876088517980551083924184682325205044405987573145266528263,.arr 4 198)]}
def wG:fg:={aA:=[(0,.own (.op 7559595925511 0)),(4,.int .i64),(55,.raw),(61,.own (.os 450575)),(63,.own (.op 7559595925511 0)),(64,.own (.op 450570 0)),(109,.rs 3),(110,.int .i64),(111,.int .i64)],bQ:=[(7559595925511,.box [.own (.fn 123 []),.own (.os 3213876088517980551083924184682325205044405987573145266528263),.int .i64]),(450575,.arr 3 181),(450570,.box [.raw,.raw,.raw]),(3213876088517980551083924184682325205044405987573145266528263,.arr 4 198)]}
def H2:fg:={aA:=[(3,.own (.os 446472)),(9,.rs 3),(10,.int .i64),(11,.int .i64)],bQ:=[(446472,.arr 1 3)]}
def H3:fg:={aA:=[(1,.bool),(5,.own (.om 442376)),(9,.rs 3),(10,.int .i64),(11,.int .i64)],bQ:=[(442376,.eU 3 157)]}
def H4:fg:={aA:=[(0,.int .i64),(7,.raw),(8,.own (.os 421907)),(21,.int .i64),(22,.int .i64)],bQ:=[(421907,.arr 1 52)]}
def Lw:fg:={aA:=[(1,.int .i64),(2,.bool),(7,.own (.om 397330)),(19,.rs 4),(20,.int .i64),(21,.int .i64)],bQ:=[(397330,.map 148)]}
def H5:fg:={aA:=[(1,.int .i64),(13,.own (.os 397369)),(59,.own (.it 397371))],bQ:=[(397369,.arr 3 157),(397371,.iter 154)]}
def Lx:fg:={aA:=[(5,.rs 1),(6,.rs 1),(7,.own (.op 376839 0)),(8,.own (.fn 98 [.op 376839 0])),(21,.int .i64),(22,.int .i64)],bQ:=[(376839,.box [.own (.os 1606938044258990275541962092341162602522202993782792835678215)]),(1606938044258990275541962092341162602522202993782792835678215,.arr 4 83)]}
def Ly:fg:={aA:=[(5,.rs 1),(6,.rs 1),(7,.own (.op 376839 0)),(8,.own (.fn 98 [.op 376839 0])),(9,.int .i64),(21,.int .i64),(22,.int .i64),(28,.rs 1),(29,.int .i64),(30,.int .i64)],bQ:=[(376839,.box [.own (.os 1606938044258990275541962092341162602522202993782792835678215)]),(1606938044258990275541962092341162602522202993782792835678215,.arr 4 83)]}
def Lz:fg:={aA:=[(1,.int .i64),(6,.own (.om 372746)),(11,.rs 4),(12,.int .i64),(13,.int .i64)],bQ:=[(372746,.map 148)]}
def H6:fg:={aA:=[(0,.rs 4),(7,.rs 4),(29,.int .i64),(30,.int .i64)],bQ:=[]}
def LA:fg:={aA:=[(1,.own (.op 192513 0)),(2,.own (.op 192514 0)),(3,.own (.om 192519)),(9,.rs 4),(10,.int .i64),(11,.int .i64)],bQ:=[(192513,.box [.rs 4,.rs 3,.rs 8,.rs 5,.rs 4,.rs 6,.int .i64,.int .i64,.int .i64]),(192514,.box [.int .i64,.int .i64,.int .i64]),(192519,.map 83)]}
def LB:fg:={aA:=[(1,.own (.op 180225 0)),(2,.own (.op 180226 0)),(3,.own (.om 180238)),(16,.rs 8),(17,.int .i64),(18,.int .i64)],bQ:=[(180225,.box [.rs 4,.rs 3,.rs 8,.rs 5,.rs 4,.rs 6,.int .i64,.int .i64,.int .i64]),(180226,.box [.int .i64,.int .i64,.int .i64]),(180238,.map 126)]}
def LC:fg:={aA:=[(2,.own (.op 172034 0)),(5,.rs 3),(6,.int .i64),(7,.int .i64)],bQ:=[(172034,.box [.int .i64,.int .i64,.int .i64])]}
def LD:fg:={aA:=[(4,.own (.om 188443)),(29,.rs 6),(30,.int .i64),(31,.int .i64)],bQ:=[(188443,.map 9)]}
def LF:fg:={aA:=[(4,.own (.om 167946)),(11,.rs 3),(12,.int .i64),(13,.int .i64)],bQ:=[(167946,.map 9)]}
def LG:fg:={aA:=[(4,.own (.om 163850)),(11,.rs 4),(12,.int .i64),(13,.int .i64)],bQ:=[(163850,.map 9)]}
def LH:fg:={aA:=[(3,.own (.op 49155 0)),(9,.rs 8),(10,.int .i64),(11,.int .i64)],bQ:=[(49155,.box [.int .i64,.int .i64,.int .i64,.int .i64,.int .i64,.str,.int .i64,.int .i64,.int .i64,.int .i64,.int .i64,.bool,.rs 5])]}
def xL:fg:={aA:=[(1,.own (.op 1374624530433 0)),(2,.own (.op 1374624530434 0)),(3,.own (.op 1374624530435 0)),(25,.int .i64),(26,.int .i64),(50,.rs 13),(51,.own (.op 81922 0)),(53,.own (.op 81924 0))],bQ:=[(1374624530433,.box [.rs 4,.rs 3,.rs 8,.rs 5,.rs 4,.rs 6,.int .i64,.int .i64,.int .i64]),(1374624530434,.box [.own .bj,.own .bj,.own .bj,.own .bj,.own .bj,.own .bj,.int .i64,.int .i64,.int .i64]),(1374624530435,.box [.own (.os 1374624530439),.own (.os 1374624530442),.own (.os 1374624530445),.own (.os 1374624530448),.own (.os 1374624530451),.rs 6,.int .i64,.int .i64,.int .i64]),(81922,.box [.rs 4,.rs 3,.rs 8,.rs 5,.rs 4,.rs 6,.int .i64,.int .i64,.int .i64]),(81924,.box [.own .bj,.own .bj,.own .bj,.own .bj,.own .bj,.own .bj,.int .i64,.int .i64,.int .i64]),(1374624530439,.arr 4 77),(1374624530442,.arr 3 79),(1374624530445,.nest 8 59),(1374624530448,.arr 5 81),(1374624530451,.arr 4 83)],nz:=[1374624530445]}
def LI:fg:={aA:=[(1,.rs 13),(4,.own (.op 81924 0)),(6,.own (.op 81926 0)),(9,.int .i64),(10,.own (.os 81930)),(22,.int .i64),(23,.int .i64)],bQ:=[(81924,.box [.own .bj,.own .bj,.own .bj,.own .bj,.own .bj,.own .bj,.int .i64,.int .i64,.int .i64]),(81926,.box [.own (.os 1374624530439),.own (.os 1374624530442),.own (.os 1374624530445),.own (.os 1374624530448),.own (.os 1374624530451),.own (.os 1374624530477),.int .i64,.int .i64,.int .i64]),(81930,.arr 1 42),(1374624530439,.arr 4 77),(1374624530442,.arr 3 79),(1374624530445,.nest 8 59),(1374624530448,.arr 5 81),(1374624530451,.arr 4 83),(1374624530477,.arr 6 110)],ct:=[(81926,3)]}
def lN:fg:={aA:=[(0,.row 1374624530445 7),(1,.int .i64),(8,.own (.os 387040468021129576528031779)),(10,.int .i64),(57,.int .i64),(58,.int .i64),(112,.own (.op 81926 0)),(114,.int .i64),(251,.rs 13),(254,.own (.op 81924 0)),(256,.own (.op 81926 0)),(259,.int .i64),(260,.own (.os 81930)),(272,.int .i64),(273,.int .i64)],bQ:=[(1374624530445,.nest 8 59),(387040468021129576528031779,.arr 5 64),(81926,.box [.own (.os 1374624530439),.own (.os 1374624530442),.own (.os 1374624530445),.own (.os 1374624530448),.own (.os 1374624530451),.own (.os 1374624530477),.int .i64,.int .i64,.int .i64]),(81924,.box [.own .bj,.own .bj,.own .bj,.own .bj,.own .bj,.own .bj,.int .i64,.int .i64,.int .i64]),(81930,.arr 1 42),(1374624530439,.arr 4 77),(1374624530442,.arr 3 79),(1374624530448,.arr 5 81),(1374624530451,.arr 4 83),(1374624530477,.arr 6 110)]}
def iG:fg:={aA:=[(0,.own (.os 1374624530448)),(1,.own (.fn 85 [.op 23069409610788233221 0])),(7,.int .i64),(8,.int .i64),(19,.own (.os 1374624530448)),(20,.own (.fn 85 [.op 23069409610788233221 0])),(94,.own (.op 81926 0)),(206,.rs 13),(209,.own (.op 81924 0)),(211,.own (.op 81926 0)),(214,.int .i64),(215,.own (.os 81930)),(227,.int .i64),(228,.int .i64)],bQ:=[(1374624530448,.arr 5 81),(23069409610788233221,.box [.int .i64]),(81926,.box [.own (.os 1374624530439),.own (.os 1374624530442),.own (.os 1374624530445),.own (.os 1374624530448),.own (.os 1374624530451),.own (.os 1374624530477),.int .i64,.int .i64,.int .i64]),(81924,.box [.own .bj,.own .bj,.own .bj,.own .bj,.own .bj,.own .bj,.int .i64,.int .i64,.int .i64]),(81930,.arr 1 42),(1374624530439,.arr 4 77),(1374624530442,.arr 3 79),(1374624530445,.nest 8 59),(1374624530451,.arr 4 83),(1374624530477,.arr 6 110)]}
def lQ:fg:={aA:=[(0,.own (.os 1374624530448)),(1,.own (.fn 85 [.op 23069409610788233221 0])),(5,.int .i64),(6,.int .i64),(75,.own (.op 81926 0)),(187,.rs 13),(190,.own (.op 81924 0)),(192,.own (.op 81926 0)),(195,.int .i64),(196,.own (.os 81930)),(208,.int .i64),(209,.int .i64)],bQ:=[(1374624530448,.arr 5 81),(23069409610788233221,.box [.int .i64]),(81926,.box [.own (.os 1374624530439),.own (.os 1374624530442),.own (.os 1374624530445),.own (.os 1374624530448),.own (.os 1374624530451),.own (.os 1374624530477),.int .i64,.int .i64,.int .i64]),(81924,.box [.own .bj,.own .bj,.own .bj,.own .bj,.own .bj,.own .bj,.int .i64,.int .i64,.int .i64]),(81930,.arr 1 42),(1374624530439,.arr 4 77),(1374624530442,.arr 3 79),(1374624530445,.nest 8 59),(1374624530451,.arr 4 83),(1374624530477,.arr 6 110)]}
def xM:fg:={aA:=[(1,.own (.op 1031262027777 0)),(2,.own (.op 1031262027778 0)),(3,.own (.op 1031262027779 0)),(25,.int .i64),(26,.int .i64),(52,.own (.op 61443 0)),(53,.own (.op 61444 0))],bQ:=[(1031262027777,.box [.rs 4,.rs 3,.rs 8,.rs 5,.rs 4,.rs 6,.int .i64,.int .i64,.int .i64]),(1031262027778,.box [.own .bj,.own .bj,.own .bj,.own .bj,.own .bj,.own .bj,.int .i64,.int .i64,.int .i64]),(1031262027779,.box [.own (.os 1031262027783),.own (.os 1031262027786),.own (.os 1031262027789),.own (.os 1031262027792),.own (.os 1031262027795),.rs 6,.int .i64,.int .i64,.int .i64]),(61443,.box [.int .i64,.int .i64,.int .i64,.int .i64,.int .i64,.str,.int .i64,.int .i64,.int .i64,.int .i64,.int .i64,.bool,.rs 5]),(61444,.box [.own .bj,.own .bj,.own .bj,.own .bj,.own .bj,.own .bj,.int .i64,.int .i64,.int .i64]),(1031262027783,.arr 4 77),(1031262027786,.arr 3 79),(1031262027789,.nest 8 59),(1031262027792,.arr 5 81),(1031262027795,.arr 4 83)],nz:=[1031262027789]}
def lO:fg:={aA:=[(0,.row 1031262027789 7),(1,.int .i64),(8,.own (.os 290283901153613415744614435)),(10,.int .i64),(57,.int .i64),(58,.int .i64),(112,.own (.op 61450 0)),(114,.int .i64),(254,.own (.op 61444 0)),(260,.own (.op 61450 0))],bQ:=[(1031262027789,.nest 8 59),(290283901153613415744614435,.arr 5 64),(61450,.box [.own (.os 1031262027783),.own (.os 1031262027786),.own (.os 1031262027789),.own (.os 1031262027792),.own (.os 1031262027795),.own (.os 1031262027821),.int .i64,.int .i64,.int .i64]),(61444,.box [.own .bj,.own .bj,.own .bj,.own .bj,.own .bj,.own .bj,.int .i64,.int .i64,.int .i64]),(1031262027783,.arr 4 77),(1031262027786,.arr 3 79),(1031262027792,.arr 5 81),(1031262027795,.arr 4 83),(1031262027821,.arr 6 110)]}
def iH:fg:={aA:=[(0,.own (.os 1031262027792)),(1,.own (.fn 85 [.op 17302268812963602437 0])),(7,.int .i64),(8,.int .i64),(19,.own (.os 1031262027792)),(20,.own (.fn 85 [.op 17302268812963602437 0])),(94,.own (.op 61450 0)),(209,.own (.op 61444 0)),(215,.own (.op 61450 0))],bQ:=[(1031262027792,.arr 5 81),(17302268812963602437,.box [.int .i64]),(61450,.box [.own (.os 1031262027783),.own (.os 1031262027786),.own (.os 1031262027789),.own (.os 1031262027792),.own (.os 1031262027795),.own (.os 1031262027821),.int .i64,.int .i64,.int .i64]),(61444,.box [.own .bj,.own .bj,.own .bj,.own .bj,.own .bj,.own .bj,.int .i64,.int .i64,.int .i64]),(1031262027783,.arr 4 77),(1031262027786,.arr 3 79),(1031262027789,.nest 8 59),(1031262027795,.arr 4 83),(1031262027821,.arr 6 110)]}
def lR:fg:={aA:=[(0,.own (.os 1031262027792)),(1,.own (.fn 85 [.op 17302268812963602437 0])),(5,.int .i64),(6,.int .i64),(75,.own (.op 61450 0)),(190,.own (.op 61444 0)),(196,.own (.op 61450 0))],bQ:=[(1031262027792,.arr 5 81),(17302268812963602437,.box [.int .i64]),(61450,.box [.own (.os 1031262027783),.own (.os 1031262027786),.own (.os 1031262027789),.own (.os 1031262027792),.own (.os 1031262027795),.own (.os 1031262027821),.int .i64,.int .i64,.int .i64]),(61444,.box [.own .bj,.own .bj,.own .bj,.own .bj,.own .bj,.own .bj,.int .i64,.int .i64,.int .i64]),(1031262027783,.arr 4 77),(1031262027786,.arr 3 79),(1031262027789,.nest 8 59),(1031262027795,.arr 4 83),(1031262027821,.arr 6 110)]}
def LJ:fg:={aA:=[(0,.rs 5),(1,.rs 5),(12,.int .i64),(13,.int .i64)],bQ:=[]}
def LK:fg:={aA:=[(2,.own (.op 90114 0)),(3,.own (.op 90115 0)),(5,.own (.os 90117)),(13,.int .i64),(14,.int .i64)],bQ:=[(90114,.box [.rs 4,.rs 3,.rs 8,.rs 5,.rs 4,.rs 6,.int .i64,.int .i64,.int .i64]),(90115,.box [.rs 4,.rs 3,.rs 8,.rs 5,.rs 4,.rs 6,.int .i64,.int .i64,.int .i64]),(90117,.arr 1 3)]}
def LL:fg:={aA:=[(0,.str),(3,.int .i64)],bQ:=[]}
def LM:fg:={aA:=[(1,.own (.op 303105 0)),(4,.int .i64)],bQ:=[(303105,.box [.rs 6,.int .i64,.int .i64,.int .i64])]}
def H7:fg:={aA:=[(1,.own (.op 303105 0)),(4,.int .i64),(5,.own (.op 303109 0)),(6,.int .i64)],bQ:=[(303105,.box [.rs 6,.int .i64,.int .i64,.int .i64]),(303109,.box [.raw,.raw,.raw,.raw,.raw,.raw])]}
def LN:fg:={aA:=[(1,.int .i64),(2,.int .i64),(3,.int .i64),(4,.own (.op 360452 0)),(9,.int .i64)],bQ:=[(360452,.box [.rs 4,.rs 3,.rs 8,.rs 5,.rs 4,.rs 6,.int .i64,.int .i64,.int .i64])]}
def LO:fg:={aA:=[(1,.int .i64),(2,.int .i64),(3,.int .i64),(4,.own (.op 360452 0)),(9,.int .i64),(10,.int .i64),(11,.int .i64)],bQ:=[(360452,.box [.rs 4,.rs 3,.rs 8,.rs 5,.rs 4,.rs 6,.int .i64,.int .i64,.int .i64])]}
def H8:fg:={aA:=[(1,.int .i64),(2,.own (.op 294914 0)),(5,.own (.op 294917 0)),(8,.int .i64)],bQ:=[(294914,.box [.rs 4,.rs 3,.rs 8,.rs 5,.rs 4,.rs 6,.int .i64,.int .i64,.int .i64]),(294917,.box [.raw,.raw,.raw,.raw,.raw])]}
def H9:fg:={aA:=[(1,.int .i64),(2,.own (.op 294914 0)),(5,.own (.op 294917 0)),(10,.int .i64)],bQ:=[(294914,.box [.rs 4,.rs 3,.rs 8,.rs 5,.rs 4,.rs 6,.int .i64,.int .i64,.int .i64]),(294917,.box [.raw,.raw,.raw,.raw,.raw])]}
def LP:fg:={aA:=[(0,.rs 4),(1,.int .i64),(2,.bool),(7,.own (.os 393232)),(8,.int .i64)],bQ:=[(393232,.nest 1 52)],nz:=[393232]}
def LQ:fg:={aA:=[(0,.rs 4),(1,.int .i64),(2,.bool),(7,.own (.os 393232)),(8,.int .i64),(9,.own (.os 393238)),(10,.int .i64)],bQ:=[(393232,.nest 1 52),(393238,.arr 1 3)],nz:=[393232]}
def Ia:fg:={aA:=[(0,.rs 4),(1,.int .i64),(2,.bool),(7,.own (.os 393232)),(11,.int .i64)],bQ:=[(393232,.nest 1 52)],nz:=[393232]}
def Ib:fg:={aA:=[(1,.int .i64),(7,.own (.os 393232)),(13,.int .i64)],bQ:=[(393232,.nest 1 52)],nz:=[393232]}
def Ic:fg:={aA:=[(1,.int .i64),(7,.own (.os 393232)),(13,.int .i64),(14,.int .i64)],bQ:=[(393232,.nest 1 52)],nz:=[393232]}
def Ie:fg:={aA:=[(1,.int .i64),(7,.own (.os 393232)),(13,.int .i64),(14,.int .i64),(15,.int .i64)],bQ:=[(393232,.nest 1 52)],nz:=[393232]}
def LR:fg:={aA:=[(1,.int .i64),(5,.rs 1),(6,.rs 1),(7,.own (.os 364560)),(8,.int .i64)],bQ:=[(364560,.arr 4 83)]}
def LS:fg:={aA:=[(1,.int .i64),(5,.rs 1),(6,.rs 1),(7,.own (.os 364560)),(8,.int .i64),(9,.int .i64)],bQ:=[(364560,.arr 4 83)]}
def LU:fg:={aA:=[(1,.own (.op 299009 0)),(4,.int .i64)],bQ:=[(299009,.box [.rs 4,.rs 3,.rs 8,.rs 5,.rs 4,.rs 6,.int .i64,.int .i64,.int .i64])]}
def Ig:fg:={aA:=[(1,.own (.op 299009 0)),(4,.int .i64),(5,.own (.op 299013 0)),(6,.int .i64)],bQ:=[(299009,.box [.rs 4,.rs 3,.rs 8,.rs 5,.rs 4,.rs 6,.int .i64,.int .i64,.int .i64]),(299013,.box [.raw,.raw,.raw,.raw])]}
def Ih:fg:={aA:=[(1,.own (.op 299009 0)),(8,.rs 4),(9,.int .i64)],bQ:=[(299009,.box [.rs 4,.rs 3,.rs 8,.rs 5,.rs 4,.rs 6,.int .i64,.int .i64,.int .i64])]}
def LV:fg:={aA:=[(0,.rs 3),(4,.int .i64)],bQ:=[]}
def LW:fg:={aA:=[(0,.rs 3),(4,.int .i64),(5,.int .i64)],bQ:=[]}
def LX:fg:={aA:=[(0,.rs 5),(1,.int .i64),(2,.int .i64),(3,.int .i64),(9,.int .i64)],bQ:=[]}
def Ii:fg:={aA:=[(1,.int .i64),(2,.own (.op 290818 0)),(5,.own (.op 290821 0)),(7,.int .i64)],bQ:=[(290818,.box [.rs 4,.rs 3,.rs 8,.rs 5,.rs 4,.rs 6,.int .i64,.int .i64,.int .i64]),(290821,.box [.raw,.raw,.raw,.raw,.raw,.raw,.raw,.raw])]}
def LY:fg:={aA:=[(0,.rs 4),(4,.int .i64)],bQ:=[]}
def LZ:fg:={aA:=[(0,.rs 4),(4,.int .i64),(5,.int .i64)],bQ:=[]}
def Ij:fg:={aA:=[(1,.own (.op 155649 0)),(7,.int .i64)],bQ:=[(155649,.box [.rs 4,.rs 3,.rs 8,.rs 5,.rs 4,.rs 6,.int .i64,.int .i64,.int .i64])]}
def Ik:fg:={aA:=[(1,.own (.op 155649 0)),(8,.int .i64)],bQ:=[(155649,.box [.rs 4,.rs 3,.rs 8,.rs 5,.rs 4,.rs 6,.int .i64,.int .i64,.int .i64])]}
def L2:fg:={aA:=[(1,.own (.op 40961 0)),(3,.int .i64)],bQ:=[(40961,.box [.rs 4,.rs 3,.rs 8,.rs 5,.rs 4,.rs 6,.int .i64,.int .i64,.int .i64])]}
def L3:fg:={aA:=[(2,.own (.op 151554 0)),(3,.own (.op 151555 0)),(5,.int .i64)],bQ:=[(151554,.box [.rs 6,.int .i64,.int .i64,.int .i64]),(151555,.box [.rs 6,.int .i64,.int .i64,.int .i64])]}
def L4:fg:={aA:=[(0,.rs 5),(1,.rs 5),(5,.int .i64)],bQ:=[]}
def L5:fg:={aA:=[(0,.rs 8),(1,.rs 8),(5,.int .i64)],bQ:=[]}
def L6:fg:={aA:=[(2,.own (.op 69634 0)),(3,.own (.op 69635 0)),(5,.int .i64)],bQ:=[(69634,.box [.rs 4,.rs 3,.rs 8,.rs 5,.rs 4,.rs 6,.int .i64,.int .i64,.int .i64]),(69635,.box [.rs 4,.rs 3,.rs 8,.rs 5,.rs 4,.rs 6,.int .i64,.int .i64,.int .i64])]}
def L7:fg:={aA:=[(2,.own (.op 69634 0)),(3,.own (.op 69635 0)),(6,.int .i64)],bQ:=[(69634,.box [.rs 4,.rs 3,.rs 8,.rs 5,.rs 4,.rs 6,.int .i64,.int .i64,.int .i64]),(69635,.box [.rs 4,.rs 3,.rs 8,.rs 5,.rs 4,.rs 6,.int .i64,.int .i64,.int .i64])]}
def Il:fg:={aA:=[(2,.own (.op 69634 0)),(3,.own (.op 69635 0)),(7,.int .i64)],bQ:=[(69634,.box [.rs 4,.rs 3,.rs 8,.rs 5,.rs 4,.rs 6,.int .i64,.int .i64,.int .i64]),(69635,.box [.rs 4,.rs 3,.rs 8,.rs 5,.rs 4,.rs 6,.int .i64,.int .i64,.int .i64])]}
def Im:fg:={aA:=[(2,.own (.op 69634 0)),(3,.own (.op 69635 0)),(8,.int .i64)],bQ:=[(69634,.box [.rs 4,.rs 3,.rs 8,.rs 5,.rs 4,.rs 6,.int .i64,.int .i64,.int .i64]),(69635,.box [.rs 4,.rs 3,.rs 8,.rs 5,.rs 4,.rs 6,.int .i64,.int .i64,.int .i64])]}
def L8:fg:={aA:=[(0,.rs 8),(3,.own (.os 131075)),(4,.int .i64)],bQ:=[(131075,.arr 8 59)]}
def xN:fg:={aA:=[(0,.rs 8),(3,.own (.os 1100166070275)),(4,.int .i64),(32,.own (.op 65538 0)),(33,.own (.op 65539 0)),(34,.own (.op 65540 0)),(37,.int .i64),(38,.own (.op 65544 0))],bQ:=[(1100166070275,.nest 8 59),(65538,.box [.rs 4,.rs 3,.rs 8,.rs 5,.rs 4,.rs 6,.int .i64,.int .i64,.int .i64]),(65539,.box [.int .i64,.int .i64,.int .i64,.int .i64,.int .i64,.str,.int .i64,.int .i64,.int .i64,.int .i64,.int .i64,.bool,.rs 5]),(65540,.box [.own .bj,.own .bj,.own .bj,.own .bj,.own .bj,.own .bj,.int .i64,.int .i64,.int .i64]),(65544,.box [.rs 4,.rs 3,.rs 8,.rs 5,.rs 4,.rs 6,.int .i64,.int .i64,.int .i64])],nz:=[1100166070275]}
def hints(f k:Nat):List fg:=
 bif Nat.beq f 101 then(bif Nat.beq k 3 then[HX]else[])else
 bif Nat.beq f 77 then(bif Nat.beq k 4 then[Lq]else[])else
 bif Nat.beq f 93 then(bif Nat.beq k 3 then[Lr]else[])else
 bif Nat.beq f 49 then(bif Nat.beq k 2 then[Lt]else[])else
 bif Nat.beq f 79 then(bif Nat.beq k 2 then[Lu]else[])else
 bif Nat.beq f 45 then(bif Nat.beq k 6 then[Lv]else[])else
 bif Nat.beq f 107 then(bif Nat.beq k 7 then[HY]else bif Nat.beq k 15 then[FL]else[])else
 bif Nat.beq f 110 then(bif Nat.beq k 3 then[HZ]else bif Nat.beq k 9 then[H0]else bif Nat.beq k 15 then[FM,FN]else[])else
 bif Nat.beq f 1845620860 then(bif Nat.beq k 5 then[wF]else[])else
 bif Nat.beq f 30964585997672582 then(bif Nat.beq k 1 then[pJ]else[])else
 bif Nat.beq f 1845821564 then(bif Nat.beq k 5 then[wG]else[])else
 bif Nat.beq f 109 then(bif Nat.beq k 3 then[H2]else[])else
 bif Nat.beq f 108 then(bif Nat.beq k 3 then[H3]else[])else
 bif Nat.beq f 103 then(bif Nat.beq k 7 then[H4]else[])else
 bif Nat.beq f 97 then(bif Nat.beq k 3 then[Lw]else bif Nat.beq k 13 then[H5]else[])else
 bif Nat.beq f 92 then(bif Nat.beq k 5 then[Lx]else bif Nat.beq k 8 then[Ly]else[])else
 bif Nat.beq f 91 then(bif Nat.beq k 3 then[Lz]else[])else
 bif Nat.beq f 81 then(bif Nat.beq k 10 then[H6]else[])else
 bif Nat.beq f 47 then(bif Nat.beq k 3 then[LA]else[])else
 bif Nat.beq f 44 then(bif Nat.beq k 5 then[LB]else[])else
 bif Nat.beq f 42 then(bif Nat.beq k 2 then[LC]else[])else
 bif Nat.beq f 46 then(bif Nat.beq k 7 then[LD]else[])else
 bif Nat.beq f 41 then(bif Nat.beq k 5 then[LF]else[])else
 bif Nat.beq f 40 then(bif Nat.beq k 5 then[LG]else[])else
 bif Nat.beq f 12 then(bif Nat.beq k 2 then[LH]else[])else
 bif Nat.beq f 335601692 then(bif Nat.beq k 3 then[xL]else[])else
 bif Nat.beq f 20 then(bif Nat.beq k 5 then[LI]else[])else
 bif Nat.beq f 94492301762971088019539 then(bif Nat.beq k 14 then[lN]else[])else
 bif Nat.beq f 1585317757061816809790923382879 then(bif Nat.beq k 2 then[iG]else[])else
 bif Nat.beq f 94492301765788603412564 then(bif Nat.beq k 5 then[lQ]else[])else
 bif Nat.beq f 251772956 then(bif Nat.beq k 3 then[xM]else[])else
 bif Nat.beq f 70870093055081400328275 then(bif Nat.beq k 14 then[lO]else[])else
 bif Nat.beq f 1189002859172470615222045941855 then(bif Nat.beq k 2 then[iH]else[])else
 bif Nat.beq f 70870093057898915721300 then(bif Nat.beq k 5 then[lR]else[])else
 bif Nat.beq f 75 then(bif Nat.beq k 4 then[LJ]else[])else
 bif Nat.beq f 22 then(bif Nat.beq k 3 then[LK]else[])else
 bif Nat.beq f 86 then(bif Nat.beq k 4 then[LL]else[])else
 bif Nat.beq f 74 then(bif Nat.beq k 6 then[LM]else bif Nat.beq k 12 then[H7]else[])else
 bif Nat.beq f 88 then(bif Nat.beq k 2 then[LN]else bif Nat.beq k 6 then[LO]else[])else
 bif Nat.beq f 72 then(bif Nat.beq k 12 then[H8]else bif Nat.beq k 20 then[H9]else[])else
 bif Nat.beq f 96 then(bif Nat.beq k 3 then[LP]else bif Nat.beq k 7 then[LQ]else bif Nat.beq k 12 then[Ia]else bif Nat.beq k 18 then[Ib]else bif Nat.beq k 21 then[Ic]else bif Nat.beq k 24 then[Ie]else[])else
 bif Nat.beq f 89 then(bif Nat.beq k 4 then[LR]else bif Nat.beq k 7 then[LS]else[])else
 bif Nat.beq f 73 then(bif Nat.beq k 2 then[LU]else bif Nat.beq k 10 then[Ig]else bif Nat.beq k 19 then[Ih]else[])else
 bif Nat.beq f 70 then(bif Nat.beq k 4 then[LV]else bif Nat.beq k 9 then[LW]else[])else
 bif Nat.beq f 34 then(bif Nat.beq k 4 then[LX]else[])else
 bif Nat.beq f 71 then(bif Nat.beq k 14 then[Ii]else[])else
 bif Nat.beq f 69 then(bif Nat.beq k 4 then[LY]else bif Nat.beq k 9 then[LZ]else[])else
 bif Nat.beq f 38 then(bif Nat.beq k 10 then[Ij]else bif Nat.beq k 18 then[Ik]else[])else
 bif Nat.beq f 10 then(bif Nat.beq k 4 then[L2]else[])else
 bif Nat.beq f 37 then(bif Nat.beq k 4 then[L3]else[])else
 bif Nat.beq f 68 then(bif Nat.beq k 4 then[L4]else[])else
 bif Nat.beq f 36 then(bif Nat.beq k 4 then[L5]else[])else
 bif Nat.beq f 17 then(bif Nat.beq k 4 then[L6]else bif Nat.beq k 9 then[L7]else bif Nat.beq k 14 then[Il]else bif Nat.beq k 19 then[Im]else[])else
 bif Nat.beq f 32 then(bif Nat.beq k 3 then[L8]else[])else
 bif Nat.beq f 268595232 then(bif Nat.beq k 3 then[xN]else[])else
 []
noncomputable def S0:pC:={P:=Tryz.prog,aI:=fun _=>none,hint:=hints,y0:=fun s=>Nat.beq s 65641||Nat.beq s 65651||Nat.beq s 69631||Nat.beq s 393249||Nat.beq s 393250||Nat.beq s 393271||Nat.beq s 393278||Nat.beq s 393305||Nat.beq s 393310||Nat.beq s 393317||Nat.beq s 393324||Nat.beq s 397311||Nat.beq s 442376||Nat.beq s 442396||Nat.beq s 446463||Nat.beq s 1031262031871||Nat.beq s 1031295586352||Nat.beq s 1031295586383||Nat.beq s 1031295586395||Nat.beq s 1031295590399||Nat.beq s 1100166070299||Nat.beq s 1100166070300||Nat.beq s 1374624534527||Nat.beq s 1375043964976||Nat.beq s 1375043965007||Nat.beq s 1375043965019||Nat.beq s 1375043969023||Nat.beq s 17302268811638194237||Nat.beq s 17302268811638194238||Nat.beq s 17302268811638194239||Nat.beq s 17302268812275732497||Nat.beq s 17302268812275736575||Nat.beq s 17302268812963606527||Nat.beq s 23069409609462825021||Nat.beq s 23069409609462825022||Nat.beq s 23069409609462825023||Nat.beq s 23069409610100363281||Nat.beq s 23069409610100367359||Nat.beq s 23069409610788237311||Nat.beq s 1000000000000000000000000127036}
noncomputable def Ut(g:Nat):Option (List PV→Option PV):=bif Nat.beq g 100 then some bq else none
noncomputable def S:pC:={P:=Tryz.prog,aI:=fun _=>none,hint:=hints,Jn:=fun g=>bif Nat.beq g 99 then some (uZ 4 Ut)else none,y0:=fun s=>Nat.beq s 65641||Nat.beq s 65651||Nat.beq s 69631||Nat.beq s 393249||Nat.beq s 393250||Nat.beq s 393271||Nat.beq s 393278||Nat.beq s 393305||Nat.beq s 393310||Nat.beq s 393317||Nat.beq s 393324||Nat.beq s 397311||Nat.beq s 442376||Nat.beq s 442396||Nat.beq s 446463||Nat.beq s 1031262031871||Nat.beq s 1031295586352||Nat.beq s 1031295586383||Nat.beq s 1031295586395||Nat.beq s 1031295590399||Nat.beq s 1100166070299||Nat.beq s 1100166070300||Nat.beq s 1374624534527||Nat.beq s 1375043964976||Nat.beq s 1375043965007||Nat.beq s 1375043965019||Nat.beq s 1375043969023||Nat.beq s 17302268811638194237||Nat.beq s 17302268811638194238||Nat.beq s 17302268811638194239||Nat.beq s 17302268812275732497||Nat.beq s 17302268812275736575||Nat.beq s 17302268812963606527||Nat.beq s 23069409609462825021||Nat.beq s 23069409609462825022||Nat.beq s 23069409609462825023||Nat.beq s 23069409610100363281||Nat.beq s 23069409610100367359||Nat.beq s 23069409610788237311||Nat.beq s 1000000000000000000000000127036}
noncomputable def RC:fF:=[]
noncomputable def bS:fF:=[]
noncomputable def RF:fF:=(102,cV)::RC
noncomputable def RI:fF:=(101,gK)::RF
noncomputable def MQ:fF:=(100,bq)::RI
noncomputable def RD:fF:=(24,hU)::MQ
noncomputable def RG:fF:=(25,fT)::RD
noncomputable def RJ:fF:=(23,fG)::RG
noncomputable def RL:fF:=(90,j6)::RJ
noncomputable def RE:fF:=(77,dx)::RL
noncomputable def RH:fF:=(94,e8)::RE
noncomputable def JS:fF:=(93,ee)::RH
noncomputable def J9:fF:=(50,gJ)::JS
noncomputable def Jp:fF:=(49,dv)::J9
noncomputable def JD:fF:=(48,bH)::Jp
noncomputable def JT:fF:=(51,dW)::JD
noncomputable def Ka:fF:=(52,fo)::JT
noncomputable def Jq:fF:=(27,cM)::Ka
noncomputable def JE:fF:=(79,eT)::Jq
noncomputable def JU:fF:=(43,aU)::JE
noncomputable def Kb:fF:=(78,bW)::JU
noncomputable def Jr:fF:=(45,cw)::Kb
noncomputable def JF:fF:=(121,cC)::Jr
noncomputable def JV:fF:=(107,eC)::JF
noncomputable def Kc:fF:=(123,ec)::JV
noncomputable def Js:fF:=(131,aD)::Kc
noncomputable def JG:fF:=(110,dt)::Js
noncomputable def JW:fF:=(109,dC)::JG
noncomputable def Ke:fF:=(108,c8)::JW
noncomputable def Jt:fF:=(103,dS)::Ke
noncomputable def JH:fF:=(97,cv)::Jt
noncomputable def JX:fF:=(92,c7)::JH
noncomputable def Kf:fF:=(91,eB)::JX
noncomputable def Ju:fF:=(81,dr)::Kf
noncomputable def JI:fF:=(47,bF)::Ju
noncomputable def JY:fF:=(44,dq)::JI
noncomputable def Kg:fF:=(42,cL)::JY
noncomputable def Jv:fF:=(80,bt)::Kg
noncomputable def JJ:fF:=(46,dc)::Jv
noncomputable def JZ:fF:=(76,hT)::JJ
noncomputable def Kh:fF:=(41,fS)::JZ
noncomputable def Jw:fF:=(40,gI)::Kh
noncomputable def qA:fF:=(26,dZ)::Jw
noncomputable def J0:fF:=(58,cA)::bS
noncomputable def Ki:fF:=(57,bG)::J0
noncomputable def Jx:fF:=(56,cz)::Ki
noncomputable def JK:fF:=(59,bN)::Jx
noncomputable def J1:fF:=(54,ck)::JK
noncomputable def Kj:fF:=(55,cR)::J1
noncomputable def EM:fF:=(53,cy)::Kj
noncomputable def EO:fF:=(12,bI)::qA
noncomputable def dK:fF:=(82,dd)::EM
noncomputable def Kk:fF:=(85,bP)::EO
noncomputable def Jy:fF:=(20,e9)::Kk
noncomputable def JL:fF:=(15,aY)::Jy
noncomputable def J2:fF:=(75,cj)::JL
noncomputable def Km:fF:=(39,fm)::J2
noncomputable def EN:fF:=(22,bY)::Km
noncomputable def JM:fF:=(11,db)::EN
noncomputable def J3:fF:=(86,ef)::JM
noncomputable def Kn:fF:=(87,bE)::J3
noncomputable def Jz:fF:=(74,jE)::Kn
noncomputable def JN:fF:=(88,jI)::Jz
noncomputable def J4:fF:=(72,ly)::JN
noncomputable def Ko:fF:=(96,ff)::J4
noncomputable def JA:fF:=(89,fq)::Ko
noncomputable def JO:fF:=(73,jG)::JA
noncomputable def J5:fF:=(70,iU)::JO
noncomputable def Kp:fF:=(34,jF)::J5
noncomputable def JB:fF:=(71,mN)::Kp
noncomputable def JP:fF:=(69,jD)::JB
noncomputable def J6:fF:=(38,jJ)::JP
noncomputable def Kq:fF:=(19,jK)::J6
noncomputable def J7:fF:=(10,jL)::Kq
noncomputable def Kr:fF:=(14,gW)::J7
noncomputable def JC:fF:=(37,fN)::Kr
noncomputable def JQ:fF:=(68,fM)::JC
noncomputable def J8:fF:=(36,gp)::JQ
noncomputable def JR:fF:=(17,fb)::J8
noncomputable def Sg:fF:=(9,dV)::JR
end Go.Proofs.YtcmhmlnkhmefbaaGreat
