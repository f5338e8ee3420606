import Derived.Test.YtcmhmlnkhmefbaaGreatProg
import Derived.Test.YtcmhmlnkhmefbaaGreatAbSeat
import Derived.Test.YtcmhmlnkhmefbaaGreatSh3
import Derived.KernelRfl
namespace Go.Proofs.YtcmhmlnkhmefbaaGreat
open Go.Ab
set_option maxRecDepth 100000
def H7:ff:={az:=[(3,.int .i64),(6,.rs 1),(7,.int .i64),(8,.int .i64)],bQ:=[]}
def LB:ff:={az:=[(0,.rs 5),(1,.int .i64),(2,.int .i64),(3,.int .i64),(21,.int .i64),(22,.int .i64)],bQ:=[]}
def LC:ff:={az:=[(3,.int .i64),(6,.rs 5),(7,.int .i64),(8,.int .i64)],bQ:=[]}
def LD:ff:={az:=[(0,.str),(3,.int .i64)],bQ:=[]}
def LF:ff:={az:=[(0,.raw),(2,.int .i64),(7,.int .i64),(8,.bool)],bQ:=[]}
def LG:ff:={az:=[(1,.own (.op 184321 0)),(2,.own (.op 184322 0)),(3,.own (.om 184338)),(4,.own (.om 184339)),(5,.own (.om 184340)),(22,.rs 5),(23,.int .i64),(24,.int .i64)],bQ:=[(184321,.box [.rs 4,.rs 3,.rs 8,.rs 5,.rs 4,.rs 6,.int .i64,.int .i64,.int .i64]),(184322,.box [.int .i64,.int .i64,.int .i64]),(184338,.map 3),(184339,.map 3),(184340,.map 131)]}
def H8:ff:={az:=[(2,.rs 1),(7,.own (.fn 121 [.op 438275 0])),(22,.rs 3),(23,.int .i64),(24,.int .i64)],bQ:=[(438275,.box [.int .i64])]}
def FQ:ff:={az:=[(7,.own (.fn 121 [.op 438275 0])),(47,.rs 1),(48,.int .i64),(49,.int .i64)],bQ:=[(438275,.box [.int .i64])]}
def H9:ff:={az:=[(1,.raw),(2,.int .i64),(7,.own (.os 450575)),(17,.int .i64),(18,.int .i64)],bQ:=[(450575,.arr 3 181)]}
def wz:ff:={az:=[(0,.own (.op 7559595925511 0)),(4,.int .i64),(55,.raw),(61,.own (.os 450575)),(63,.own (.op 7559595925511 0))],bQ:=[(7559595925511,.box [.own (.fn 123 []),.own (.os 3213876088517980551083924184682325205044405987573145266528263),.int .i64]),(450575,.arr 3 181),(3213876088517980551083924184682325205044405987573145266528263,.arr 4 198)]}
def Ia:ff:={az:=[(1,.raw),(7,.own (.os 450575)),(9,.own (.op 7559595925511 0))],bQ:=[(450575,.arr 3 181),(7559595925511,.box [.own (.fn 123 []),.own (.os 3213876088517980551083924184682325205044405987573145266528263),.int .i64]),(3213876088517980551083924184682325205044405987573145266528263,.arr 4 198)]}
def pJ:ff:={az:=[(0,.own (.op 7559595925511 0)),(2,.int .i64),(43,.own (.op 7559713378306 0)),(45,.own (.op 7559713378308 0)),(78,.raw),(84,.own (.os 450575)),(86,.own (.op 7559595925511 0))],bQ:=[(7559595925511,.box [.own (.fn 123 []),.own (.os 3213876088517980551083924184682325205044405987573145266528263),.int .i64]),(7559713378306,.box [.int .i64,.int .i64,.int .i64]),(7559713378308,.box [.raw,.raw,.raw]),(450575,.arr 3 181),(3213876088517980551083924184682325205044405987573145266528263,.arr 4 198)],ct:=[(7559595925511,1)]}
def FT:ff:={az:=[(1,.raw),(7,.own (.os 450575)),(9,.own (.op 7559595925511 0)),(10,.own (.op 450570 0)),(55,.rs 0),(56,.int .i64),(57,.int .i64)],bQ:=[(450575,.arr 3 181),(7559595925511,.box [.own (.fn 123 []),.own (.os 3213876088517980551083924184682325205044405987573145266528263),.int .i64]),(450570,.box [.raw,.raw,.raw]),(3213876088517980551083924184682325205044405987573145266528263,.arr 4 198)]}
def FU:ff:={az:=[(1,.raw),(7,.own (.os 450575)),(9,.own (.op 7559595925511 0)),(10,.own (.op 450570 0)),(55,.rs 3),(56,.int .i64),(57,.int .i64)],bQ:=[(450575,.arr 3 181),(7559595925511,.box [.own (.fn 123 []),.own (.os 3213876088517980551083924184682325205044405987573145266528263),.int .i64]),(450570,.box [.raw,.raw,.raw]),(3213876088517980551083924184682325205044405987573145266528263,.arr 4 198)]}
def wA:ff:={az:=[(0,.own (.op 7559595925511 0)),(4,.int .i64),(55,.raw),(61,.own (.os 450575)),(63,.own (.op 7559595925511 0)),(64,.own (.op 450570 0)),(109,.rs 3),(110,.int .i64),(111,.int .i64)],bQ:=[(7559595925511,.box [.own (.fn 123 []),.own (.os 3213876088517980551083924184682325205044405987573145266528263),.int .i64]),(450575,.arr 3 181),(450570,.box [.raw,.raw,.raw]),(3213876088517980551083924184682325205044405987573145266528263,.arr 4 198)]}
def Ib:ff:={az:=[(3,.own (.os 446472)),(9,.rs 3),(10,.int .i64),(11,.int .i64)],bQ:=[(446472,.arr 1 3)]}
def Ic:ff:={az:=[(1,.bool),(5,.own (.om 442376)),(9,.rs 3),(10,.int .i64),(11,.int .i64)],bQ:=[(442376,.eU 3 157)]}
def Ie:ff:={az:=[(0,.int .i64),(7,.raw),(8,.own (.os 421907)),(21,.int .i64),(22,.int .i64)],bQ:=[(421907,.arr 1 52)]}
def LH:ff:={az:=[(1,.int .i64),(2,.bool),(7,.own (.om 397330)),(19,.rs 4),(20,.int .i64),(21,.int .i64)],bQ:=[(397330,.map 148)]}
def Ig:ff:={az:=[(1,.int .i64),(13,.own (.os 397369)),(59,.own (.it 397371))],bQ:=[(397369,.arr 3 157),(397371,.iter 154)]}
def LI:ff:={az:=[(5,.rs 1),(6,.rs 1),(7,.own (.op 376839 0)),(8,.own (.fn 98 [.op 376839 0])),(21,.int .i64),(22,.int .i64)],bQ:=[(376839,.box [.own (.os 1606938044258990275541962092341162602522202993782792835678215)]),(1606938044258990275541962092341162602522202993782792835678215,.arr 4 83)]}
def LJ:ff:={az:=[(5,.rs 1),(6,.rs 1),(7,.own (.op 376839 0)),(8,.own (.fn 98 [.op 376839 0])),(9,.int .i64),(21,.int .i64),(22,.int .i64),(28,.rs 1),(29,.int .i64),(30,.int .i64)],bQ:=[(376839,.box [.own (.os 1606938044258990275541962092341162602522202993782792835678215)]),(1606938044258990275541962092341162602522202993782792835678215,.arr 4 83)]}
def LK:ff:={az:=[(1,.int .i64),(6,.own (.om 372746)),(11,.rs 4),(12,.int .i64),(13,.int .i64)],bQ:=[(372746,.map 148)]}
def Ih:ff:={az:=[(0,.rs 4),(7,.rs 4),(29,.int .i64),(30,.int .i64)],bQ:=[]}
def LL:ff:={az:=[(1,.own (.op 192513 0)),(2,.own (.op 192514 0)),(3,.own (.om 192519)),(9,.rs 4),(10,.int .i64),(11,.int .i64)],bQ:=[(192513,.box [.rs 4,.rs 3,.rs 8,.rs 5,.rs 4,.rs 6,.int .i64,.int .i64,.int .i64]),(192514,.box [.int .i64,.int .i64,.int .i64]),(192519,.map 83)]}
def LM:ff:={az:=[(1,.own (.op 180225 0)),(2,.own (.op 180226 0)),(3,.own (.om 180238)),(16,.rs 8),(17,.int .i64),(18,.int .i64)],bQ:=[(180225,.box [.rs 4,.rs 3,.rs 8,.rs 5,.rs 4,.rs 6,.int .i64,.int .i64,.int .i64]),(180226,.box [.int .i64,.int .i64,.int .i64]),(180238,.map 126)]}
def LN:ff:={az:=[(2,.own (.op 172034 0)),(5,.rs 3),(6,.int .i64),(7,.int .i64)],bQ:=[(172034,.box [.int .i64,.int .i64,.int .i64])]}
def LO:ff:={az:=[(4,.own (.om 188443)),(29,.rs 6),(30,.int .i64),(31,.int .i64)],bQ:=[(188443,.map 9)]}
def LP:ff:={az:=[(4,.own (.om 167946)),(11,.rs 3),(12,.int .i64),(13,.int .i64)],bQ:=[(167946,.map 9)]}
def LQ:ff:={az:=[(4,.own (.om 163850)),(11,.rs 4),(12,.int .i64),(13,.int .i64)],bQ:=[(163850,.map 9)]}
def LR:ff:={az:=[(3,.own (.op 49155 0)),(9,.rs 8),(10,.int .i64),(11,.int .i64)],bQ:=[(49155,.box [.int .i64,.int .i64,.int .i64,.int .i64,.int .i64,.str,.int .i64,.int .i64,.int .i64,.int .i64,.int .i64,.bool,.rs 5])]}
def xF:ff:={az:=[(1,.own (.op 1374624530433 0)),(2,.own (.op 1374624530434 0)),(3,.own (.op 1374624530435 0)),(25,.int .i64),(26,.int .i64),(50,.rs 13),(51,.own (.op 81922 0)),(53,.own (.op 81924 0))],bQ:=[(1374624530433,.box [.rs 4,.rs 3,.rs 8,.rs 5,.rs 4,.rs 6,.int .i64,.int .i64,.int .i64]),(1374624530434,.box [.own .bj,.own .bj,.own .bj,.own .bj,.own .bj,.own .bj,.int .i64,.int .i64,.int .i64]),(1374624530435,.box [.own (.os 1374624530439),.own (.os 1374624530442),.own (.os 1374624530445),.own (.os 1374624530448),.own (.os 1374624530451),.rs 6,.int .i64,.int .i64,.int .i64]),(81922,.box [.rs 4,.rs 3,.rs 8,.rs 5,.rs 4,.rs 6,.int .i64,.int .i64,.int .i64]),(81924,.box [.own .bj,.own .bj,.own .bj,.own .bj,.own .bj,.own .bj,.int .i64,.int .i64,.int .i64]),(1374624530439,.arr 4 77),(1374624530442,.arr 3 79),(1374624530445,.nest 8 59),(1374624530448,.arr 5 81),(1374624530451,.arr 4 83)],nz:=[1374624530445]}
def LS:ff:={az:=[(1,.rs 13),(4,.own (.op 81924 0)),(6,.own (.op 81926 0)),(9,.int .i64),(10,.own (.os 81930)),(22,.int .i64),(23,.int .i64)],bQ:=[(81924,.box [.own .bj,.own .bj,.own .bj,.own .bj,.own .bj,.own .bj,.int .i64,.int .i64,.int .i64]),(81926,.box [.own (.os 1374624530439),.own (.os 1374624530442),.own (.os 1374624530445),.own (.os 1374624530448),.own (.os 1374624530451),.own (.os 1374624530477),.int .i64,.int .i64,.int .i64]),(81930,.arr 1 42),(1374624530439,.arr 4 77),(1374624530442,.arr 3 79),(1374624530445,.nest 8 59),(1374624530448,.arr 5 81),(1374624530451,.arr 4 83),(1374624530477,.arr 6 110)],ct:=[(81926,3)]}
def lM:ff:={az:=[(0,.row 1374624530445 7),(1,.int .i64),(8,.own (.os 387040468021129576528031779)),(10,.int .i64),(57,.int .i64),(58,.int .i64),(112,.own (.op 81926 0)),(114,.int .i64),(251,.rs 13),(254,.own (.op 81924 0)),(256,.own (.op 81926 0)),(259,.int .i64),(260,.own (.os 81930)),(272,.int .i64),(273,.int .i64)],bQ:=[(1374624530445,.nest 8 59),(387040468021129576528031779,.arr 5 64),(81926,.box [.own (.os 1374624530439),.own (.os 1374624530442),.own (.os 1374624530445),.own (.os 1374624530448),.own (.os 1374624530451),.own (.os 1374624530477),.int .i64,.int .i64,.int .i64]),(81924,.box [.own .bj,.own .bj,.own .bj,.own .bj,.own .bj,.own .bj,.int .i64,.int .i64,.int .i64]),(81930,.arr 1 42),(1374624530439,.arr 4 77),(1374624530442,.arr 3 79),(1374624530448,.arr 5 81),(1374624530451,.arr 4 83),(1374624530477,.arr 6 110)]}
def iF:ff:={az:=[(0,.own (.os 1374624530448)),(1,.own (.fn 85 [.op 23069409610788233221 0])),(7,.int .i64),(8,.int .i64),(19,.own (.os 1374624530448)),(20,.own (.fn 85 [.op 23069409610788233221 0])),(94,.own (.op 81926 0)),(206,.rs 13),(209,.own (.op 81924 0)),(211,.own (.op 81926 0)),(214,.int .i64),(215,.own (.os 81930)),(227,.int .i64),(228,.int .i64)],bQ:=[(1374624530448,.arr 5 81),(23069409610788233221,.box [.int .i64]),(81926,.box [.own (.os 1374624530439),.own (.os 1374624530442),.own (.os 1374624530445),.own (.os 1374624530448),.own (.os 1374624530451),.own (.os 1374624530477),.int .i64,.int .i64,.int .i64]),(81924,.box [.own .bj,.own .bj,.own .bj,.own .bj,.own .bj,.own .bj,.int .i64,.int .i64,.int .i64]),(81930,.arr 1 42),(1374624530439,.arr 4 77),(1374624530442,.arr 3 79),(1374624530445,.nest 8 59),(1374624530451,.arr 4 83),(1374624530477,.arr 6 110)]}
def lP:ff:={az:=[(0,.own (.os 1374624530448)),(1,.own (.fn 85 [.op 23069409610788233221 0])),(5,.int .i64),(6,.int .i64),(75,.own (.op 81926 0)),(187,.rs 13),(190,.own (.op 81924 0)),(192,.own (.op 81926 0)),(195,.int .i64),(196,.own (.os 81930)),(208,.int .i64),(209,.int .i64)],bQ:=[(1374624530448,.arr 5 81),(23069409610788233221,.box [.int .i64]),(81926,.box [.own (.os 1374624530439),.own (.os 1374624530442),.own (.os 1374624530445),.own (.os 1374624530448),.own (.os 1374624530451),.own (.os 1374624530477),.int .i64,.int .i64,.int .i64]),(81924,.box [.own .bj,.own .bj,.own .bj,.own .bj,.own .bj,.own .bj,.int .i64,.int .i64,.int .i64]),(81930,.arr 1 42),(1374624530439,.arr 4 77),(1374624530442,.arr 3 79),(1374624530445,.nest 8 59),(1374624530451,.arr 4 83),(1374624530477,.arr 6 110)]}
def xG:ff:={az:=[(1,.own (.op 1031262027777 0)),(2,.own (.op 1031262027778 0)),(3,.own (.op 1031262027779 0)),(25,.int .i64),(26,.int .i64),(52,.own (.op 61443 0)),(53,.own (.op 61444 0))],bQ:=[(1031262027777,.box [.rs 4,.rs 3,.rs 8,.rs 5,.rs 4,.rs 6,.int .i64,.int .i64,.int .i64]),(1031262027778,.box [.own .bj,.own .bj,.own .bj,.own .bj,.own .bj,.own .bj,.int .i64,.int .i64,.int .i64]),(1031262027779,.box [.own (.os 1031262027783),.own (.os 1031262027786),.own (.os 1031262027789),.own (.os 1031262027792),.own (.os 1031262027795),.rs 6,.int .i64,.int .i64,.int .i64]),(61443,.box [.int .i64,.int .i64,.int .i64,.int .i64,.int .i64,.str,.int .i64,.int .i64,.int .i64,.int .i64,.int .i64,.bool,.rs 5]),(61444,.box [.own .bj,.own .bj,.own .bj,.own .bj,.own .bj,.own .bj,.int .i64,.int .i64,.int .i64]),(1031262027783,.arr 4 77),(1031262027786,.arr 3 79),(1031262027789,.nest 8 59),(1031262027792,.arr 5 81),(1031262027795,.arr 4 83)],nz:=[1031262027789]}
def lN:ff:={az:=[(0,.row 1031262027789 7),(1,.int .i64),(8,.own (.os 290283901153613415744614435)),(10,.int .i64),(57,.int .i64),(58,.int .i64),(112,.own (.op 61450 0)),(114,.int .i64),(254,.own (.op 61444 0)),(260,.own (.op 61450 0))],bQ:=[(1031262027789,.nest 8 59),(290283901153613415744614435,.arr 5 64),(61450,.box [.own (.os 1031262027783),.own (.os 1031262027786),.own (.os 1031262027789),.own (.os 1031262027792),.own (.os 1031262027795),.own (.os 1031262027821),.int .i64,.int .i64,.int .i64]),(61444,.box [.own .bj,.own .bj,.own .bj,.own .bj,.own .bj,.own .bj,.int .i64,.int .i64,.int .i64]),(1031262027783,.arr 4 77),(1031262027786,.arr 3 79),(1031262027792,.arr 5 81),(1031262027795,.arr 4 83),(1031262027821,.arr 6 110)]}
def iG:ff:={az:=[(0,.own (.os 1031262027792)),(1,.own (.fn 85 [.op 17302268812963602437 0])),(7,.int .i64),(8,.int .i64),(19,.own (.os 1031262027792)),(20,.own (.fn 85 [.op 17302268812963602437 0])),(94,.own (.op 61450 0)),(209,.own (.op 61444 0)),(215,.own (.op 61450 0))],bQ:=[(1031262027792,.arr 5 81),(17302268812963602437,.box [.int .i64]),(61450,.box [.own (.os 1031262027783),.own (.os 1031262027786),.own (.os 1031262027789),.own (.os 1031262027792),.own (.os 1031262027795),.own (.os 1031262027821),.int .i64,.int .i64,.int .i64]),(61444,.box [.own .bj,.own .bj,.own .bj,.own .bj,.own .bj,.own .bj,.int .i64,.int .i64,.int .i64]),(1031262027783,.arr 4 77),(1031262027786,.arr 3 79),(1031262027789,.nest 8 59),(1031262027795,.arr 4 83),(1031262027821,.arr 6 110)]}
def lQ:ff:={az:=[(0,.own (.os 1031262027792)),(1,.own (.fn 85 [.op 17302268812963602437 0])),(5,.int .i64),(6,.int .i64),(75,.own (.op 61450 0)),(190,.own (.op 61444 0)),(196,.own (.op 61450 0))],bQ:=[(1031262027792,.arr 5 81),(17302268812963602437,.box [.int .i64]),(61450,.box [.own (.os 1031262027783),.own (.os 1031262027786),.own (.os 1031262027789),.own (.os 1031262027792),.own (.os 1031262027795),.own (.os 1031262027821),.int .i64,.int .i64,.int .i64]),(61444,.box [.own .bj,.own .bj,.own .bj,.own .bj,.own .bj,.own .bj,.int .i64,.int .i64,.int .i64]),(1031262027783,.arr 4 77),(1031262027786,.arr 3 79),(1031262027789,.nest 8 59),(1031262027795,.arr 4 83),(1031262027821,.arr 6 110)]}
def LU:ff:={az:=[(0,.rs 5),(1,.rs 5),(12,.int .i64),(13,.int .i64)],bQ:=[]}
def LV:ff:={az:=[(2,.own (.op 90114 0)),(3,.own (.op 90115 0)),(5,.own (.os 90117)),(13,.int .i64),(14,.int .i64)],bQ:=[(90114,.box [.rs 4,.rs 3,.rs 8,.rs 5,.rs 4,.rs 6,.int .i64,.int .i64,.int .i64]),(90115,.box [.rs 4,.rs 3,.rs 8,.rs 5,.rs 4,.rs 6,.int .i64,.int .i64,.int .i64]),(90117,.arr 1 3)]}
def LW:ff:={az:=[(0,.str),(3,.int .i64)],bQ:=[]}
def LX:ff:={az:=[(1,.own (.op 303105 0)),(4,.int .i64)],bQ:=[(303105,.box [.rs 6,.int .i64,.int .i64,.int .i64])]}
def Ii:ff:={az:=[(1,.own (.op 303105 0)),(4,.int .i64),(5,.own (.op 303109 0)),(6,.int .i64)],bQ:=[(303105,.box [.rs 6,.int .i64,.int .i64,.int .i64]),(303109,.box [.raw,.raw,.raw,.raw,.raw,.raw])]}
def LY:ff:={az:=[(1,.int .i64),(2,.int .i64),(3,.int .i64),(4,.own (.op 360452 0)),(9,.int .i64)],bQ:=[(360452,.box [.rs 4,.rs 3,.rs 8,.rs 5,.rs 4,.rs 6,.int .i64,.int .i64,.int .i64])]}
def LZ:ff:={az:=[(1,.int .i64),(2,.int .i64),(3,.int .i64),(4,.own (.op 360452 0)),(9,.int .i64),(10,.int .i64),(11,.int .i64)],bQ:=[(360452,.box [.rs 4,.rs 3,.rs 8,.rs 5,.rs 4,.rs 6,.int .i64,.int .i64,.int .i64])]}
def Ij:ff:={az:=[(1,.int .i64),(2,.own (.op 294914 0)),(5,.own (.op 294917 0)),(8,.int .i64)],bQ:=[(294914,.box [.rs 4,.rs 3,.rs 8,.rs 5,.rs 4,.rs 6,.int .i64,.int .i64,.int .i64]),(294917,.box [.raw,.raw,.raw,.raw,.raw])]}
def Ik:ff:={az:=[(1,.int .i64),(2,.own (.op 294914 0)),(5,.own (.op 294917 0)),(10,.int .i64)],bQ:=[(294914,.box [.rs 4,.rs 3,.rs 8,.rs 5,.rs 4,.rs 6,.int .i64,.int .i64,.int .i64]),(294917,.box [.raw,.raw,.raw,.raw,.raw])]}
def L2:ff:={az:=[(0,.rs 4),(1,.int .i64),(2,.bool),(7,.own (.os 393232)),(8,.int .i64)],bQ:=[(393232,.nest 1 52)],nz:=[393232]}
def L3:ff:={az:=[(0,.rs 4),(1,.int .i64),(2,.bool),(7,.own (.os 393232)),(8,.int .i64),(9,.own (.os 393238)),(10,.int .i64)],bQ:=[(393232,.nest 1 52),(393238,.arr 1 3)],nz:=[393232]}
def Il:ff:={az:=[(0,.rs 4),(1,.int .i64),(2,.bool),(7,.own (.os 393232)),(11,.int .i64)],bQ:=[(393232,.nest 1 52)],nz:=[393232]}
def Im:ff:={az:=[(1,.int .i64),(7,.own (.os 393232)),(13,.int .i64)],bQ:=[(393232,.nest 1 52)],nz:=[393232]}
def Io:ff:={az:=[(1,.int .i64),(7,.own (.os 393232)),(13,.int .i64),(14,.int .i64)],bQ:=[(393232,.nest 1 52)],nz:=[393232]}
def Ip:ff:={az:=[(1,.int .i64),(7,.own (.os 393232)),(13,.int .i64),(14,.int .i64),(15,.int .i64)],bQ:=[(393232,.nest 1 52)],nz:=[393232]}
def L4:ff:={az:=[(1,.int .i64),(5,.rs 1),(6,.rs 1),(7,.own (.os 364560)),(8,.int .i64)],bQ:=[(364560,.arr 4 83)]}
def L5:ff:={az:=[(1,.int .i64),(5,.rs 1),(6,.rs 1),(7,.own (.os 364560)),(8,.int .i64),(9,.int .i64)],bQ:=[(364560,.arr 4 83)]}
def L6:ff:={az:=[(1,.own (.op 299009 0)),(4,.int .i64)],bQ:=[(299009,.box [.rs 4,.rs 3,.rs 8,.rs 5,.rs 4,.rs 6,.int .i64,.int .i64,.int .i64])]}
def Iq:ff:={az:=[(1,.own (.op 299009 0)),(4,.int .i64),(5,.own (.op 299013 0)),(6,.int .i64)],bQ:=[(299009,.box [.rs 4,.rs 3,.rs 8,.rs 5,.rs 4,.rs 6,.int .i64,.int .i64,.int .i64]),(299013,.box [.raw,.raw,.raw,.raw])]}
def Ir:ff:={az:=[(1,.own (.op 299009 0)),(8,.rs 4),(9,.int .i64)],bQ:=[(299009,.box [.rs 4,.rs 3,.rs 8,.rs 5,.rs 4,.rs 6,.int .i64,.int .i64,.int .i64])]}
def L7:ff:={az:=[(0,.rs 3),(4,.int .i64)],bQ:=[]}
def L8:ff:={az:=[(0,.rs 3),(4,.int .i64),(5,.int .i64)],bQ:=[]}
def L9:ff:={az:=[(0,.rs 5),(1,.int .i64),(2,.int .i64),(3,.int .i64),(9,.int .i64)],bQ:=[]}
def Is:ff:={az:=[(1,.int .i64),(2,.own (.op 290818 0)),(5,.own (.op 290821 0)),(7,.int .i64)],bQ:=[(290818,.box [.rs 4,.rs 3,.rs 8,.rs 5,.rs 4,.rs 6,.int .i64,.int .i64,.int .i64]),(290821,.box [.raw,.raw,.raw,.raw,.raw,.raw,.raw,.raw])]}
def Ma:ff:={az:=[(0,.rs 4),(4,.int .i64)],bQ:=[]}
def Mb:ff:={az:=[(0,.rs 4),(4,.int .i64),(5,.int .i64)],bQ:=[]}
def It:ff:={az:=[(1,.own (.op 155649 0)),(7,.int .i64)],bQ:=[(155649,.box [.rs 4,.rs 3,.rs 8,.rs 5,.rs 4,.rs 6,.int .i64,.int .i64,.int .i64])]}
def Iu:ff:={az:=[(1,.own (.op 155649 0)),(8,.int .i64)],bQ:=[(155649,.box [.rs 4,.rs 3,.rs 8,.rs 5,.rs 4,.rs 6,.int .i64,.int .i64,.int .i64])]}
def Mc:ff:={az:=[(1,.own (.op 40961 0)),(3,.int .i64)],bQ:=[(40961,.box [.rs 4,.rs 3,.rs 8,.rs 5,.rs 4,.rs 6,.int .i64,.int .i64,.int .i64])]}
def Md:ff:={az:=[(2,.own (.op 151554 0)),(3,.own (.op 151555 0)),(5,.int .i64)],bQ:=[(151554,.box [.rs 6,.int .i64,.int .i64,.int .i64]),(151555,.box [.rs 6,.int .i64,.int .i64,.int .i64])]}
def Me:ff:={az:=[(0,.rs 5),(1,.rs 5),(5,.int .i64)],bQ:=[]}
def Mf:ff:={az:=[(0,.rs 8),(1,.rs 8),(5,.int .i64)],bQ:=[]}
def Mg:ff:={az:=[(2,.own (.op 69634 0)),(3,.own (.op 69635 0)),(5,.int .i64)],bQ:=[(69634,.box [.rs 4,.rs 3,.rs 8,.rs 5,.rs 4,.rs 6,.int .i64,.int .i64,.int .i64]),(69635,.box [.rs 4,.rs 3,.rs 8,.rs 5,.rs 4,.rs 6,.int .i64,.int .i64,.int .i64])]}
def Mh:ff:={az:=[(2,.own (.op 69634 0)),(3,.own (.op 69635 0)),(6,.int .i64)],bQ:=[(69634,.box [.rs 4,.rs 3,.rs 8,.rs 5,.rs 4,.rs 6,.int .i64,.int .i64,.int .i64]),(69635,.box [.rs 4,.rs 3,.rs 8,.rs 5,.rs 4,.rs 6,.int .i64,.int .i64,.int .i64])]}
def Iv:ff:={az:=[(2,.own (.op 69634 0)),(3,.own (.op 69635 0)),(7,.int .i64)],bQ:=[(69634,.box [.rs 4,.rs 3,.rs 8,.rs 5,.rs 4,.rs 6,.int .i64,.int .i64,.int .i64]),(69635,.box [.rs 4,.rs 3,.rs 8,.rs 5,.rs 4,.rs 6,.int .i64,.int .i64,.int .i64])]}
def Iw:ff:={az:=[(2,.own (.op 69634 0)),(3,.own (.op 69635 0)),(8,.int .i64)],bQ:=[(69634,.box [.rs 4,.rs 3,.rs 8,.rs 5,.rs 4,.rs 6,.int .i64,.int .i64,.int .i64]),(69635,.box [.rs 4,.rs 3,.rs 8,.rs 5,.rs 4,.rs 6,.int .i64,.int .i64,.int .i64])]}
def Mi:ff:={az:=[(0,.rs 8),(3,.own (.os 131075)),(4,.int .i64)],bQ:=[(131075,.arr 8 59)]}
def xH:ff:={az:=[(0,.rs 8),(3,.own (.os 1100166070275)),(4,.int .i64),(32,.own (.op 65538 0)),(33,.own (.op 65539 0)),(34,.own (.op 65540 0)),(37,.int .i64),(38,.own (.op 65544 0))],bQ:=[(1100166070275,.nest 8 59),(65538,.box [.rs 4,.rs 3,.rs 8,.rs 5,.rs 4,.rs 6,.int .i64,.int .i64,.int .i64]),(65539,.box [.int .i64,.int .i64,.int .i64,.int .i64,.int .i64,.str,.int .i64,.int .i64,.int .i64,.int .i64,.int .i64,.bool,.rs 5]),(65540,.box [.own .bj,.own .bj,.own .bj,.own .bj,.own .bj,.own .bj,.int .i64,.int .i64,.int .i64]),(65544,.box [.rs 4,.rs 3,.rs 8,.rs 5,.rs 4,.rs 6,.int .i64,.int .i64,.int .i64])],nz:=[1100166070275]}
def hints(f k:Nat):List ff:=
 bif Nat.beq f 101 then(bif Nat.beq k 3 then[H7]else[])else
 bif Nat.beq f 77 then(bif Nat.beq k 4 then[LB]else[])else
 bif Nat.beq f 93 then(bif Nat.beq k 3 then[LC]else[])else
 bif Nat.beq f 49 then(bif Nat.beq k 2 then[LD]else[])else
 bif Nat.beq f 79 then(bif Nat.beq k 2 then[LF]else[])else
 bif Nat.beq f 45 then(bif Nat.beq k 6 then[LG]else[])else
 bif Nat.beq f 107 then(bif Nat.beq k 7 then[H8]else bif Nat.beq k 15 then[FQ]else[])else
 bif Nat.beq f 110 then(bif Nat.beq k 3 then[H9]else bif Nat.beq k 9 then[Ia]else bif Nat.beq k 15 then[FT,FU]else[])else
 bif Nat.beq f 1845620860 then(bif Nat.beq k 5 then[wz]else[])else
 bif Nat.beq f 30964585997672582 then(bif Nat.beq k 1 then[pJ]else[])else
 bif Nat.beq f 1845821564 then(bif Nat.beq k 5 then[wA]else[])else
 bif Nat.beq f 109 then(bif Nat.beq k 3 then[Ib]else[])else
 bif Nat.beq f 108 then(bif Nat.beq k 3 then[Ic]else[])else
 bif Nat.beq f 103 then(bif Nat.beq k 7 then[Ie]else[])else
 bif Nat.beq f 97 then(bif Nat.beq k 3 then[LH]else bif Nat.beq k 13 then[Ig]else[])else
 bif Nat.beq f 92 then(bif Nat.beq k 5 then[LI]else bif Nat.beq k 8 then[LJ]else[])else
 bif Nat.beq f 91 then(bif Nat.beq k 3 then[LK]else[])else
 bif Nat.beq f 81 then(bif Nat.beq k 10 then[Ih]else[])else
 bif Nat.beq f 47 then(bif Nat.beq k 3 then[LL]else[])else
 bif Nat.beq f 44 then(bif Nat.beq k 5 then[LM]else[])else
 bif Nat.beq f 42 then(bif Nat.beq k 2 then[LN]else[])else
 bif Nat.beq f 46 then(bif Nat.beq k 7 then[LO]else[])else
 bif Nat.beq f 41 then(bif Nat.beq k 5 then[LP]else[])else
 bif Nat.beq f 40 then(bif Nat.beq k 5 then[LQ]else[])else
 bif Nat.beq f 12 then(bif Nat.beq k 2 then[LR]else[])else
 bif Nat.beq f 335601692 then(bif Nat.beq k 3 then[xF]else[])else
 bif Nat.beq f 20 then(bif Nat.beq k 5 then[LS]else[])else
 bif Nat.beq f 94492301762971088019539 then(bif Nat.beq k 14 then[lM]else[])else
 bif Nat.beq f 1585317757061816809790923382879 then(bif Nat.beq k 2 then[iF]else[])else
 bif Nat.beq f 94492301765788603412564 then(bif Nat.beq k 5 then[lP]else[])else
 bif Nat.beq f 251772956 then(bif Nat.beq k 3 then[xG]else[])else
 bif Nat.beq f 70870093055081400328275 then(bif Nat.beq k 14 then[lN]else[])else
 bif Nat.beq f 1189002859172470615222045941855 then(bif Nat.beq k 2 then[iG]else[])else
 bif Nat.beq f 70870093057898915721300 then(bif Nat.beq k 5 then[lQ]else[])else
 bif Nat.beq f 75 then(bif Nat.beq k 4 then[LU]else[])else
 bif Nat.beq f 22 then(bif Nat.beq k 3 then[LV]else[])else
 bif Nat.beq f 86 then(bif Nat.beq k 4 then[LW]else[])else
 bif Nat.beq f 74 then(bif Nat.beq k 6 then[LX]else bif Nat.beq k 12 then[Ii]else[])else
 bif Nat.beq f 88 then(bif Nat.beq k 2 then[LY]else bif Nat.beq k 6 then[LZ]else[])else
 bif Nat.beq f 72 then(bif Nat.beq k 12 then[Ij]else bif Nat.beq k 20 then[Ik]else[])else
 bif Nat.beq f 96 then(bif Nat.beq k 3 then[L2]else bif Nat.beq k 7 then[L3]else bif Nat.beq k 12 then[Il]else bif Nat.beq k 18 then[Im]else bif Nat.beq k 21 then[Io]else bif Nat.beq k 24 then[Ip]else[])else
 bif Nat.beq f 89 then(bif Nat.beq k 4 then[L4]else bif Nat.beq k 7 then[L5]else[])else
 bif Nat.beq f 73 then(bif Nat.beq k 2 then[L6]else bif Nat.beq k 10 then[Iq]else bif Nat.beq k 19 then[Ir]else[])else
 bif Nat.beq f 70 then(bif Nat.beq k 4 then[L7]else bif Nat.beq k 9 then[L8]else[])else
 bif Nat.beq f 34 then(bif Nat.beq k 4 then[L9]else[])else
 bif Nat.beq f 71 then(bif Nat.beq k 14 then[Is]else[])else
 bif Nat.beq f 69 then(bif Nat.beq k 4 then[Ma]else bif Nat.beq k 9 then[Mb]else[])else
 bif Nat.beq f 38 then(bif Nat.beq k 10 then[It]else bif Nat.beq k 18 then[Iu]else[])else
 bif Nat.beq f 10 then(bif Nat.beq k 4 then[Mc]else[])else
 bif Nat.beq f 37 then(bif Nat.beq k 4 then[Md]else[])else
 bif Nat.beq f 68 then(bif Nat.beq k 4 then[Me]else[])else
 bif Nat.beq f 36 then(bif Nat.beq k 4 then[Mf]else[])else
 bif Nat.beq f 17 then(bif Nat.beq k 4 then[Mg]else bif Nat.beq k 9 then[Mh]else bif Nat.beq k 14 then[Iv]else bif Nat.beq k 19 then[Iw]else[])else
 bif Nat.beq f 32 then(bif Nat.beq k 3 then[Mi]else[])else
 bif Nat.beq f 268595232 then(bif Nat.beq k 3 then[xH]else[])else
 []
noncomputable def S0:pC:={P:=Tryz.prog,aH:=fun _=>none,hint:=hints,yW:=fun s=>Nat.beq s 65641||Nat.beq s 65651||Nat.beq s 69631||Nat.beq s 393249||Nat.beq s 393250||Nat.beq s 393271||Nat.beq s 393278||Nat.beq s 393305||Nat.beq s 393310||Nat.beq s 393317||Nat.beq s 393324||Nat.beq s 397311||Nat.beq s 442376||Nat.beq s 442396||Nat.beq s 446463||Nat.beq s 1031262031871||Nat.beq s 1031295586352||Nat.beq s 1031295586383||Nat.beq s 1031295586395||Nat.beq s 1031295590399||Nat.beq s 1100166070299||Nat.beq s 1100166070300||Nat.beq s 1374624534527||Nat.beq s 1375043964976||Nat.beq s 1375043965007||Nat.beq s 1375043965019||Nat.beq s 1375043969023||Nat.beq s 17302268811638194237||Nat.beq s 17302268811638194238||Nat.beq s 17302268811638194239||Nat.beq s 17302268812275732497||Nat.beq s 17302268812275736575||Nat.beq s 17302268812963606527||Nat.beq s 23069409609462825021||Nat.beq s 23069409609462825022||Nat.beq s 23069409609462825023||Nat.beq s 23069409610100363281||Nat.beq s 23069409610100367359||Nat.beq s 23069409610788237311||Nat.beq s 1000000000000000000000000127036}
noncomputable def UK(g:Nat):Option (List PV→Option PV):=bif Nat.beq g 100 then some bq else none
noncomputable def S:pC:={P:=Tryz.prog,aH:=fun _=>none,hint:=hints,Jy:=fun g=>bif Nat.beq g 99 then some (uV 4 UK)else none,yW:=fun s=>Nat.beq s 65641||Nat.beq s 65651||Nat.beq s 69631||Nat.beq s 393249||Nat.beq s 393250||Nat.beq s 393271||Nat.beq s 393278||Nat.beq s 393305||Nat.beq s 393310||Nat.beq s 393317||Nat.beq s 393324||Nat.beq s 397311||Nat.beq s 442376||Nat.beq s 442396||Nat.beq s 446463||Nat.beq s 1031262031871||Nat.beq s 1031295586352||Nat.beq s 1031295586383||Nat.beq s 1031295586395||Nat.beq s 1031295590399||Nat.beq s 1100166070299||Nat.beq s 1100166070300||Nat.beq s 1374624534527||Nat.beq s 1375043964976||Nat.beq s 1375043965007||Nat.beq s 1375043965019||Nat.beq s 1375043969023||Nat.beq s 17302268811638194237||Nat.beq s 17302268811638194238||Nat.beq s 17302268811638194239||Nat.beq s 17302268812275732497||Nat.beq s 17302268812275736575||Nat.beq s 17302268812963606527||Nat.beq s 23069409609462825021||Nat.beq s 23069409609462825022||Nat.beq s 23069409609462825023||Nat.beq s 23069409610100363281||Nat.beq s 23069409610100367359||Nat.beq s 23069409610788237311||Nat.beq s 1000000000000000000000000127036}
noncomputable def RH:fF:=[]
noncomputable def bS:fF:=[]
noncomputable def RL:fF:=(102,cU)::RH
noncomputable def RO:fF:=(101,gK)::RL
noncomputable def MZ:fF:=(100,bq)::RO
noncomputable def RI:fF:=(24,hT)::MZ
noncomputable def RM:fF:=(25,fU)::RI
noncomputable def RP:fF:=(23,fG)::RM
noncomputable def RQ:fF:=(90,j3)::RP
noncomputable def RJ:fF:=(77,dv)::RQ
noncomputable def RN:fF:=(94,e9)::RJ
noncomputable def J3:fF:=(93,ec)::RN
noncomputable def Km:fF:=(50,gJ)::J3
noncomputable def JA:fF:=(49,dt)::Km
noncomputable def JP:fF:=(48,bG)::JA
noncomputable def J4:fF:=(51,dV)::JP
noncomputable def Kn:fF:=(52,fm)::J4
noncomputable def JB:fF:=(27,cM)::Kn
noncomputable def JQ:fF:=(79,eT)::JB
noncomputable def J5:fF:=(43,aT)::JQ
noncomputable def Ko:fF:=(78,bU)::J5
noncomputable def JC:fF:=(45,cv)::Ko
noncomputable def JR:fF:=(121,cB)::JC
noncomputable def J6:fF:=(107,eB)::JR
noncomputable def Kp:fF:=(123,dZ)::J6
noncomputable def JD:fF:=(131,aC)::Kp
noncomputable def JS:fF:=(110,dq)::JD
noncomputable def J7:fF:=(109,dA)::JS
noncomputable def Kq:fF:=(108,c7)::J7
noncomputable def JE:fF:=(103,dR)::Kq
noncomputable def JT:fF:=(97,cu)::JE
noncomputable def J8:fF:=(92,cZ)::JT
noncomputable def Kr:fF:=(91,eA)::J8
noncomputable def JF:fF:=(81,dn)::Kr
noncomputable def JU:fF:=(47,bE)::JF
noncomputable def J9:fF:=(44,dm)::JU
noncomputable def Ks:fF:=(42,cL)::J9
noncomputable def JG:fF:=(80,bu)::Ks
noncomputable def JV:fF:=(46,da)::JG
noncomputable def Ka:fF:=(76,gZ)::JV
noncomputable def Kt:fF:=(41,fT)::Ka
noncomputable def JH:fF:=(40,gI)::Kt
noncomputable def qz:fF:=(26,dY)::JH
noncomputable def Kb:fF:=(58,cz)::bS
noncomputable def Ku:fF:=(57,bF)::Kb
noncomputable def JI:fF:=(56,cy)::Ku
noncomputable def JW:fF:=(59,bN)::JI
noncomputable def Kc:fF:=(54,cj)::JW
noncomputable def Kv:fF:=(55,cQ)::Kc
noncomputable def EO:fF:=(53,cw)::Kv
noncomputable def ER:fF:=(12,bH)::qz
noncomputable def dJ:fF:=(82,db)::EO
noncomputable def Kw:fF:=(85,bP)::ER
noncomputable def JJ:fF:=(20,du)::Kw
noncomputable def JX:fF:=(15,bg)::JJ
noncomputable def Ke:fF:=(75,cg)::JX
noncomputable def Kx:fF:=(39,fl)::Ke
noncomputable def EP:fF:=(22,bX)::Kx
noncomputable def JY:fF:=(11,dE)::EP
noncomputable def Kf:fF:=(86,ee)::JY
noncomputable def Ky:fF:=(87,bD)::Kf
noncomputable def JK:fF:=(74,jB)::Ky
noncomputable def JZ:fF:=(88,jF)::JK
noncomputable def Kg:fF:=(72,lv)::JZ
noncomputable def Kz:fF:=(96,fe)::Kg
noncomputable def JL:fF:=(89,fp)::Kz
noncomputable def J0:fF:=(73,jD)::JL
noncomputable def Kh:fF:=(70,iS)::J0
noncomputable def KA:fF:=(34,jC)::Kh
noncomputable def JM:fF:=(71,mM)::KA
noncomputable def J1:fF:=(69,jA)::JM
noncomputable def Ki:fF:=(38,jG)::J1
noncomputable def KB:fF:=(19,jH)::Ki
noncomputable def Kj:fF:=(10,jI)::KB
noncomputable def KC:fF:=(14,fH)::Kj
noncomputable def JN:fF:=(37,fO)::KC
noncomputable def J2:fF:=(68,fN)::JN
noncomputable def Kk:fF:=(36,gp)::J2
noncomputable def JO:fF:=(17,fa)::Kk
noncomputable def Sn:fF:=(8,dF)::JO
end Go.Proofs.YtcmhmlnkhmefbaaGreat
