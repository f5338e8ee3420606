import Derived.Test.YtcmhmlnkhmefbaaGreatProg
import Derived.Test.YtcmhmlnkhmefbaaGreatAbSeat
import Derived.Test.YtcmhmlnkhmefbaaGreatSh3
import Derived.KernelRfl
namespace Go.Proofs.YtcmhmlnkhmefbaaGreat
open Go.Ab
set_option maxRecDepth 100000
def H4:fi:={aA:=[(3,.int .i64),(6,.rs 1),(7,.int .i64),(8,.int .i64)],bR:=[]}
def Lt:fi:={aA:=[(0,.rs 5),(1,.int .i64),(2,.int .i64),(3,.int .i64),(21,.int .i64),(22,.int .i64)],bR:=[]}
def Lu:fi:={aA:=[(3,.int .i64),(6,.rs 5),(7,.int .i64),(8,.int .i64)],bR:=[]}
def Lv:fi:={aA:=[(0,.str),(3,.int .i64)],bR:=[]}
def Lw:fi:={aA:=[(0,.raw),(2,.int .i64),(7,.int .i64),(8,.bool)],bR:=[]}
def Lx:fi:={aA:=[(1,.own (.op 184321 0)),(2,.own (.op 184322 0)),(3,.own (.om 184338)),(4,.own (.om 184339)),(5,.own (.om 184340)),(22,.rs 5),(23,.int .i64),(24,.int .i64)],bR:=[(184321,.box [.rs 4,.rs 3,.rs 8,.rs 5,.rs 4,.rs 6,.int .i64,.int .i64,.int .i64]),(184322,.box [.int .i64,.int .i64,.int .i64]),(184338,.map 3),(184339,.map 3),(184340,.map 131)]}
def H5:fi:={aA:=[(2,.rs 1),(7,.own (.fn 121 [.op 438275 0])),(22,.rs 3),(23,.int .i64),(24,.int .i64)],bR:=[(438275,.box [.int .i64])]}
def FO:fi:={aA:=[(7,.own (.fn 121 [.op 438275 0])),(47,.rs 1),(48,.int .i64),(49,.int .i64)],bR:=[(438275,.box [.int .i64])]}
def H6:fi:={aA:=[(1,.raw),(2,.int .i64),(7,.own (.os 450575)),(17,.int .i64),(18,.int .i64)],bR:=[(450575,.arr 3 181)]}
def wI:fi:={aA:=[(0,.own (.op 7559595925511 0)),(4,.int .i64),(55,.raw),(61,.own (.os 450575)),(63,.own (.op 7559595925511 0))],bR:=[(7559595925511,.box [.own (.fn 123 []),.own (.os 3213876088517980551083924184682325205044405987573145266528263),.int .i64]),(450575,.arr 3 181),(3213876088517980551083924184682325205044405987573145266528263,.arr 4 198)]}
def H7:fi:={aA:=[(1,.raw),(7,.own (.os 450575)),(9,.own (.op 7559595925511 0))],bR:=[(450575,.arr 3 181),(7559595925511,.box [.own (.fn 123 []),.own (.os 3213876088517980551083924184682325205044405987573145266528263),.int .i64]),(3213876088517980551083924184682325205044405987573145266528263,.arr 4 198)]}
def pK:fi:={aA:=[(0,.own (.op 7559595925511 0)),(2,.int .i64),(43,.own (.op 7559713378306 0)),(45,.own (.op 7559713378308 0)),(78,.raw),(84,.own (.os 450575)),(86,.own (.op 7559595925511 0))],bR:=[(7559595925511,.box [.own (.fn 123 []),.own (.os 3213876088517980551083924184682325205044405987573145266528263),.int .i64]),(7559713378306,.box [.int .i64,.int .i64,.int .i64]),(7559713378308,.box [.raw,.raw,.raw]),(450575,.arr 3 181),(3213876088517980551083924184682325205044405987573145266528263,.arr 4 198)],ct:=[(7559595925511,1)]}
def FP:fi:={aA:=[(1,.raw),(7,.own (.os 450575)),(9,.own (.op 7559595925511 0)),(10,.own (.op 450570 0)),(55,.rs 0),(56,.int .i64),(57,.int .i64)],bR:=[(450575,.arr 3 181),(7559595925511,.box [.own (.fn 123 []),.own (.os 3213876088517980551083924184682325205044405987573145266528263),.int .i64]),(450570,.box [.raw,.raw,.raw]),(3213876088517980551083924184682325205044405987573145266528263,.arr 4 198)]}
def FQ:fi:={aA:=[(1,.raw),(7,.own (.os 450575)),(9,.own (.op 7559595925511 0)),(10,.own (.op 450570 0)),(55,.rs 3),(56,.int .i64),(57,.int .i64)],bR:=[(450575,.arr 3 181),(7559595925511,.box [.own (.fn 123 []),.own (.os 3213876088517980551083924184682325205044405987573145266528263),.int .i64]),(450570,.box [.raw,.raw,.raw]),(3213876088517980551083924184682325205044405987573145266528263,.arr 4 198)]}
def wJ:fi:={aA:=[(0,.own (.op 7559595925511 0)),(4,.int .i64),(55,.raw),(61,.own (.os 450575)),(63,.own (.op 7559595925511 0)),(64,.own (.op 450570 0)),(109,.rs 3),(110,.int .i64),(111,.int .i64)],bR:=[(7559595925511,.box [.own (.fn 123 []),.own (.os 3213876088517980551083924184682325205044405987573145266528263),.int .i64]),(450575,.arr 3 181),(450570,.box [.raw,.raw,.raw]),(3213876088517980551083924184682325205044405987573145266528263,.arr 4 198)]}
def H8:fi:={aA:=[(3,.own (.os 446472)),(9,.rs 3),(10,.int .i64),(11,.int .i64)],bR:=[(446472,.arr 1 3)]}
def H9:fi:={aA:=[(1,.bool),(5,.own (.om 442376)),(9,.rs 3),(10,.int .i64),(11,.int .i64)],bR:=[(442376,.eX 3 157)]}
def Ia:fi:={aA:=[(0,.int .i64),(7,.raw),(8,.own (.os 421907)),(21,.int .i64),(22,.int .i64)],bR:=[(421907,.arr 1 52)]}
def Ly:fi:={aA:=[(1,.int .i64),(2,.bool),(7,.own (.om 397330)),(19,.rs 4),(20,.int .i64),(21,.int .i64)],bR:=[(397330,.map 148)]}
def Ib:fi:={aA:=[(1,.int .i64),(13,.own (.os 397369)),(59,.own (.it 397371))],bR:=[(397369,.arr 3 157),(397371,.iter 154)]}
def Lz:fi:={aA:=[(5,.rs 1),(6,.rs 1),(7,.own (.op 376839 0)),(8,.own (.fn 98 [.op 376839 0])),(21,.int .i64),(22,.int .i64)],bR:=[(376839,.box [.own (.os 1606938044258990275541962092341162602522202993782792835678215)]),(1606938044258990275541962092341162602522202993782792835678215,.arr 4 83)]}
def LA:fi:={aA:=[(5,.rs 1),(6,.rs 1),(7,.own (.op 376839 0)),(8,.own (.fn 98 [.op 376839 0])),(9,.int .i64),(21,.int .i64),(22,.int .i64),(28,.rs 1),(29,.int .i64),(30,.int .i64)],bR:=[(376839,.box [.own (.os 1606938044258990275541962092341162602522202993782792835678215)]),(1606938044258990275541962092341162602522202993782792835678215,.arr 4 83)]}
def LB:fi:={aA:=[(1,.int .i64),(6,.own (.om 372746)),(11,.rs 4),(12,.int .i64),(13,.int .i64)],bR:=[(372746,.map 148)]}
def Ic:fi:={aA:=[(0,.rs 4),(7,.rs 4),(29,.int .i64),(30,.int .i64)],bR:=[]}
def LC:fi:={aA:=[(1,.own (.op 192513 0)),(2,.own (.op 192514 0)),(3,.own (.om 192519)),(9,.rs 4),(10,.int .i64),(11,.int .i64)],bR:=[(192513,.box [.rs 4,.rs 3,.rs 8,.rs 5,.rs 4,.rs 6,.int .i64,.int .i64,.int .i64]),(192514,.box [.int .i64,.int .i64,.int .i64]),(192519,.map 83)]}
def LD:fi:={aA:=[(1,.own (.op 180225 0)),(2,.own (.op 180226 0)),(3,.own (.om 180238)),(16,.rs 8),(17,.int .i64),(18,.int .i64)],bR:=[(180225,.box [.rs 4,.rs 3,.rs 8,.rs 5,.rs 4,.rs 6,.int .i64,.int .i64,.int .i64]),(180226,.box [.int .i64,.int .i64,.int .i64]),(180238,.map 126)]}
def LF:fi:={aA:=[(2,.own (.op 172034 0)),(5,.rs 3),(6,.int .i64),(7,.int .i64)],bR:=[(172034,.box [.int .i64,.int .i64,.int .i64])]}
def LG:fi:={aA:=[(4,.own (.om 188443)),(29,.rs 6),(30,.int .i64),(31,.int .i64)],bR:=[(188443,.map 9)]}
def LH:fi:={aA:=[(4,.own (.om 167946)),(11,.rs 3),(12,.int .i64),(13,.int .i64)],bR:=[(167946,.map 9)]}
def LI:fi:={aA:=[(4,.own (.om 163850)),(11,.rs 4),(12,.int .i64),(13,.int .i64)],bR:=[(163850,.map 9)]}
def LJ:fi:={aA:=[(3,.own (.op 49155 0)),(9,.rs 8),(10,.int .i64),(11,.int .i64)],bR:=[(49155,.box [.int .i64,.int .i64,.int .i64,.int .i64,.int .i64,.str,.int .i64,.int .i64,.int .i64,.int .i64,.int .i64,.bool,.rs 5])]}
def xN:fi:={aA:=[(1,.own (.op 1374624530433 0)),(2,.own (.op 1374624530434 0)),(3,.own (.op 1374624530435 0)),(25,.int .i64),(26,.int .i64),(50,.rs 13),(51,.own (.op 81922 0)),(53,.own (.op 81924 0))],bR:=[(1374624530433,.box [.rs 4,.rs 3,.rs 8,.rs 5,.rs 4,.rs 6,.int .i64,.int .i64,.int .i64]),(1374624530434,.box [.own .bk,.own .bk,.own .bk,.own .bk,.own .bk,.own .bk,.int .i64,.int .i64,.int .i64]),(1374624530435,.box [.own (.os 1374624530439),.own (.os 1374624530442),.own (.os 1374624530445),.own (.os 1374624530448),.own (.os 1374624530451),.rs 6,.int .i64,.int .i64,.int .i64]),(81922,.box [.rs 4,.rs 3,.rs 8,.rs 5,.rs 4,.rs 6,.int .i64,.int .i64,.int .i64]),(81924,.box [.own .bk,.own .bk,.own .bk,.own .bk,.own .bk,.own .bk,.int .i64,.int .i64,.int .i64]),(1374624530439,.arr 4 77),(1374624530442,.arr 3 79),(1374624530445,.nest 8 59),(1374624530448,.arr 5 81),(1374624530451,.arr 4 83)],nz:=[1374624530445]}
def LK:fi:={aA:=[(1,.rs 13),(4,.own (.op 81924 0)),(6,.own (.op 81926 0)),(9,.int .i64),(10,.own (.os 81930)),(22,.int .i64),(23,.int .i64)],bR:=[(81924,.box [.own .bk,.own .bk,.own .bk,.own .bk,.own .bk,.own .bk,.int .i64,.int .i64,.int .i64]),(81926,.box [.own (.os 1374624530439),.own (.os 1374624530442),.own (.os 1374624530445),.own (.os 1374624530448),.own (.os 1374624530451),.own (.os 1374624530477),.int .i64,.int .i64,.int .i64]),(81930,.arr 1 42),(1374624530439,.arr 4 77),(1374624530442,.arr 3 79),(1374624530445,.nest 8 59),(1374624530448,.arr 5 81),(1374624530451,.arr 4 83),(1374624530477,.arr 6 110)],ct:=[(81926,3)]}
def lQ:fi:={aA:=[(0,.row 1374624530445 7),(1,.int .i64),(8,.own (.os 387040468021129576528031779)),(10,.int .i64),(57,.int .i64),(58,.int .i64),(112,.own (.op 81926 0)),(114,.int .i64),(251,.rs 13),(254,.own (.op 81924 0)),(256,.own (.op 81926 0)),(259,.int .i64),(260,.own (.os 81930)),(272,.int .i64),(273,.int .i64)],bR:=[(1374624530445,.nest 8 59),(387040468021129576528031779,.arr 5 64),(81926,.box [.own (.os 1374624530439),.own (.os 1374624530442),.own (.os 1374624530445),.own (.os 1374624530448),.own (.os 1374624530451),.own (.os 1374624530477),.int .i64,.int .i64,.int .i64]),(81924,.box [.own .bk,.own .bk,.own .bk,.own .bk,.own .bk,.own .bk,.int .i64,.int .i64,.int .i64]),(81930,.arr 1 42),(1374624530439,.arr 4 77),(1374624530442,.arr 3 79),(1374624530448,.arr 5 81),(1374624530451,.arr 4 83),(1374624530477,.arr 6 110)]}
def iK:fi:={aA:=[(0,.own (.os 1374624530448)),(1,.own (.fn 85 [.op 23069409610788233221 0])),(7,.int .i64),(8,.int .i64),(19,.own (.os 1374624530448)),(20,.own (.fn 85 [.op 23069409610788233221 0])),(94,.own (.op 81926 0)),(206,.rs 13),(209,.own (.op 81924 0)),(211,.own (.op 81926 0)),(214,.int .i64),(215,.own (.os 81930)),(227,.int .i64),(228,.int .i64)],bR:=[(1374624530448,.arr 5 81),(23069409610788233221,.box [.int .i64]),(81926,.box [.own (.os 1374624530439),.own (.os 1374624530442),.own (.os 1374624530445),.own (.os 1374624530448),.own (.os 1374624530451),.own (.os 1374624530477),.int .i64,.int .i64,.int .i64]),(81924,.box [.own .bk,.own .bk,.own .bk,.own .bk,.own .bk,.own .bk,.int .i64,.int .i64,.int .i64]),(81930,.arr 1 42),(1374624530439,.arr 4 77),(1374624530442,.arr 3 79),(1374624530445,.nest 8 59),(1374624530451,.arr 4 83),(1374624530477,.arr 6 110)]}
def lT:fi:={aA:=[(0,.own (.os 1374624530448)),(1,.own (.fn 85 [.op 23069409610788233221 0])),(5,.int .i64),(6,.int .i64),(75,.own (.op 81926 0)),(187,.rs 13),(190,.own (.op 81924 0)),(192,.own (.op 81926 0)),(195,.int .i64),(196,.own (.os 81930)),(208,.int .i64),(209,.int .i64)],bR:=[(1374624530448,.arr 5 81),(23069409610788233221,.box [.int .i64]),(81926,.box [.own (.os 1374624530439),.own (.os 1374624530442),.own (.os 1374624530445),.own (.os 1374624530448),.own (.os 1374624530451),.own (.os 1374624530477),.int .i64,.int .i64,.int .i64]),(81924,.box [.own .bk,.own .bk,.own .bk,.own .bk,.own .bk,.own .bk,.int .i64,.int .i64,.int .i64]),(81930,.arr 1 42),(1374624530439,.arr 4 77),(1374624530442,.arr 3 79),(1374624530445,.nest 8 59),(1374624530451,.arr 4 83),(1374624530477,.arr 6 110)]}
def xO:fi:={aA:=[(1,.own (.op 1031262027777 0)),(2,.own (.op 1031262027778 0)),(3,.own (.op 1031262027779 0)),(25,.int .i64),(26,.int .i64),(52,.own (.op 61443 0)),(53,.own (.op 61444 0))],bR:=[(1031262027777,.box [.rs 4,.rs 3,.rs 8,.rs 5,.rs 4,.rs 6,.int .i64,.int .i64,.int .i64]),(1031262027778,.box [.own .bk,.own .bk,.own .bk,.own .bk,.own .bk,.own .bk,.int .i64,.int .i64,.int .i64]),(1031262027779,.box [.own (.os 1031262027783),.own (.os 1031262027786),.own (.os 1031262027789),.own (.os 1031262027792),.own (.os 1031262027795),.rs 6,.int .i64,.int .i64,.int .i64]),(61443,.box [.int .i64,.int .i64,.int .i64,.int .i64,.int .i64,.str,.int .i64,.int .i64,.int .i64,.int .i64,.int .i64,.bool,.rs 5]),(61444,.box [.own .bk,.own .bk,.own .bk,.own .bk,.own .bk,.own .bk,.int .i64,.int .i64,.int .i64]),(1031262027783,.arr 4 77),(1031262027786,.arr 3 79),(1031262027789,.nest 8 59),(1031262027792,.arr 5 81),(1031262027795,.arr 4 83)],nz:=[1031262027789]}
def lR:fi:={aA:=[(0,.row 1031262027789 7),(1,.int .i64),(8,.own (.os 290283901153613415744614435)),(10,.int .i64),(57,.int .i64),(58,.int .i64),(112,.own (.op 61450 0)),(114,.int .i64),(254,.own (.op 61444 0)),(260,.own (.op 61450 0))],bR:=[(1031262027789,.nest 8 59),(290283901153613415744614435,.arr 5 64),(61450,.box [.own (.os 1031262027783),.own (.os 1031262027786),.own (.os 1031262027789),.own (.os 1031262027792),.own (.os 1031262027795),.own (.os 1031262027821),.int .i64,.int .i64,.int .i64]),(61444,.box [.own .bk,.own .bk,.own .bk,.own .bk,.own .bk,.own .bk,.int .i64,.int .i64,.int .i64]),(1031262027783,.arr 4 77),(1031262027786,.arr 3 79),(1031262027792,.arr 5 81),(1031262027795,.arr 4 83),(1031262027821,.arr 6 110)]}
def iL:fi:={aA:=[(0,.own (.os 1031262027792)),(1,.own (.fn 85 [.op 17302268812963602437 0])),(7,.int .i64),(8,.int .i64),(19,.own (.os 1031262027792)),(20,.own (.fn 85 [.op 17302268812963602437 0])),(94,.own (.op 61450 0)),(209,.own (.op 61444 0)),(215,.own (.op 61450 0))],bR:=[(1031262027792,.arr 5 81),(17302268812963602437,.box [.int .i64]),(61450,.box [.own (.os 1031262027783),.own (.os 1031262027786),.own (.os 1031262027789),.own (.os 1031262027792),.own (.os 1031262027795),.own (.os 1031262027821),.int .i64,.int .i64,.int .i64]),(61444,.box [.own .bk,.own .bk,.own .bk,.own .bk,.own .bk,.own .bk,.int .i64,.int .i64,.int .i64]),(1031262027783,.arr 4 77),(1031262027786,.arr 3 79),(1031262027789,.nest 8 59),(1031262027795,.arr 4 83),(1031262027821,.arr 6 110)]}
def lU:fi:={aA:=[(0,.own (.os 1031262027792)),(1,.own (.fn 85 [.op 17302268812963602437 0])),(5,.int .i64),(6,.int .i64),(75,.own (.op 61450 0)),(190,.own (.op 61444 0)),(196,.own (.op 61450 0))],bR:=[(1031262027792,.arr 5 81),(17302268812963602437,.box [.int .i64]),(61450,.box [.own (.os 1031262027783),.own (.os 1031262027786),.own (.os 1031262027789),.own (.os 1031262027792),.own (.os 1031262027795),.own (.os 1031262027821),.int .i64,.int .i64,.int .i64]),(61444,.box [.own .bk,.own .bk,.own .bk,.own .bk,.own .bk,.own .bk,.int .i64,.int .i64,.int .i64]),(1031262027783,.arr 4 77),(1031262027786,.arr 3 79),(1031262027789,.nest 8 59),(1031262027795,.arr 4 83),(1031262027821,.arr 6 110)]}
def LL:fi:={aA:=[(0,.rs 5),(1,.rs 5),(12,.int .i64),(13,.int .i64)],bR:=[]}
def LM:fi:={aA:=[(2,.own (.op 90114 0)),(3,.own (.op 90115 0)),(5,.own (.os 90117)),(13,.int .i64),(14,.int .i64)],bR:=[(90114,.box [.rs 4,.rs 3,.rs 8,.rs 5,.rs 4,.rs 6,.int .i64,.int .i64,.int .i64]),(90115,.box [.rs 4,.rs 3,.rs 8,.rs 5,.rs 4,.rs 6,.int .i64,.int .i64,.int .i64]),(90117,.arr 1 3)]}
def LN:fi:={aA:=[(0,.str),(3,.int .i64)],bR:=[]}
def LO:fi:={aA:=[(1,.own (.op 303105 0)),(4,.int .i64)],bR:=[(303105,.box [.rs 6,.int .i64,.int .i64,.int .i64])]}
def Ie:fi:={aA:=[(1,.own (.op 303105 0)),(4,.int .i64),(5,.own (.op 303109 0)),(6,.int .i64)],bR:=[(303105,.box [.rs 6,.int .i64,.int .i64,.int .i64]),(303109,.box [.raw,.raw,.raw,.raw,.raw,.raw])]}
def LP:fi:={aA:=[(1,.int .i64),(2,.int .i64),(3,.int .i64),(4,.own (.op 360452 0)),(9,.int .i64)],bR:=[(360452,.box [.rs 4,.rs 3,.rs 8,.rs 5,.rs 4,.rs 6,.int .i64,.int .i64,.int .i64])]}
def LQ:fi:={aA:=[(1,.int .i64),(2,.int .i64),(3,.int .i64),(4,.own (.op 360452 0)),(9,.int .i64),(10,.int .i64),(11,.int .i64)],bR:=[(360452,.box [.rs 4,.rs 3,.rs 8,.rs 5,.rs 4,.rs 6,.int .i64,.int .i64,.int .i64])]}
def Ig:fi:={aA:=[(1,.int .i64),(2,.own (.op 294914 0)),(5,.own (.op 294917 0)),(8,.int .i64)],bR:=[(294914,.box [.rs 4,.rs 3,.rs 8,.rs 5,.rs 4,.rs 6,.int .i64,.int .i64,.int .i64]),(294917,.box [.raw,.raw,.raw,.raw,.raw])]}
def Ih:fi:={aA:=[(1,.int .i64),(2,.own (.op 294914 0)),(5,.own (.op 294917 0)),(10,.int .i64)],bR:=[(294914,.box [.rs 4,.rs 3,.rs 8,.rs 5,.rs 4,.rs 6,.int .i64,.int .i64,.int .i64]),(294917,.box [.raw,.raw,.raw,.raw,.raw])]}
def LR:fi:={aA:=[(0,.rs 4),(1,.int .i64),(2,.bool),(7,.own (.os 393232)),(8,.int .i64)],bR:=[(393232,.nest 1 52)],nz:=[393232]}
def LS:fi:={aA:=[(0,.rs 4),(1,.int .i64),(2,.bool),(7,.own (.os 393232)),(8,.int .i64),(9,.own (.os 393238)),(10,.int .i64)],bR:=[(393232,.nest 1 52),(393238,.arr 1 3)],nz:=[393232]}
def Ii:fi:={aA:=[(0,.rs 4),(1,.int .i64),(2,.bool),(7,.own (.os 393232)),(11,.int .i64)],bR:=[(393232,.nest 1 52)],nz:=[393232]}
def Ij:fi:={aA:=[(1,.int .i64),(7,.own (.os 393232)),(13,.int .i64)],bR:=[(393232,.nest 1 52)],nz:=[393232]}
def Ik:fi:={aA:=[(1,.int .i64),(7,.own (.os 393232)),(13,.int .i64),(14,.int .i64)],bR:=[(393232,.nest 1 52)],nz:=[393232]}
def Il:fi:={aA:=[(1,.int .i64),(7,.own (.os 393232)),(13,.int .i64),(14,.int .i64),(15,.int .i64)],bR:=[(393232,.nest 1 52)],nz:=[393232]}
def LU:fi:={aA:=[(1,.int .i64),(5,.rs 1),(6,.rs 1),(7,.own (.os 364560)),(8,.int .i64)],bR:=[(364560,.arr 4 83)]}
def LV:fi:={aA:=[(1,.int .i64),(5,.rs 1),(6,.rs 1),(7,.own (.os 364560)),(8,.int .i64),(9,.int .i64)],bR:=[(364560,.arr 4 83)]}
def LW:fi:={aA:=[(1,.own (.op 299009 0)),(4,.int .i64)],bR:=[(299009,.box [.rs 4,.rs 3,.rs 8,.rs 5,.rs 4,.rs 6,.int .i64,.int .i64,.int .i64])]}
def Im:fi:={aA:=[(1,.own (.op 299009 0)),(4,.int .i64),(5,.own (.op 299013 0)),(6,.int .i64)],bR:=[(299009,.box [.rs 4,.rs 3,.rs 8,.rs 5,.rs 4,.rs 6,.int .i64,.int .i64,.int .i64]),(299013,.box [.raw,.raw,.raw,.raw])]}
def Io:fi:={aA:=[(1,.own (.op 299009 0)),(8,.rs 4),(9,.int .i64)],bR:=[(299009,.box [.rs 4,.rs 3,.rs 8,.rs 5,.rs 4,.rs 6,.int .i64,.int .i64,.int .i64])]}
def LX:fi:={aA:=[(0,.rs 3),(4,.int .i64)],bR:=[]}
def LY:fi:={aA:=[(0,.rs 3),(4,.int .i64),(5,.int .i64)],bR:=[]}
def LZ:fi:={aA:=[(0,.rs 5),(1,.int .i64),(2,.int .i64),(3,.int .i64),(9,.int .i64)],bR:=[]}
def Ip:fi:={aA:=[(1,.int .i64),(2,.own (.op 290818 0)),(5,.own (.op 290821 0)),(7,.int .i64)],bR:=[(290818,.box [.rs 4,.rs 3,.rs 8,.rs 5,.rs 4,.rs 6,.int .i64,.int .i64,.int .i64]),(290821,.box [.raw,.raw,.raw,.raw,.raw,.raw,.raw,.raw])]}
def L2:fi:={aA:=[(0,.rs 4),(4,.int .i64)],bR:=[]}
def L3:fi:={aA:=[(0,.rs 4),(4,.int .i64),(5,.int .i64)],bR:=[]}
def Iq:fi:={aA:=[(1,.own (.op 155649 0)),(7,.int .i64)],bR:=[(155649,.box [.rs 4,.rs 3,.rs 8,.rs 5,.rs 4,.rs 6,.int .i64,.int .i64,.int .i64])]}
def Ir:fi:={aA:=[(1,.own (.op 155649 0)),(8,.int .i64)],bR:=[(155649,.box [.rs 4,.rs 3,.rs 8,.rs 5,.rs 4,.rs 6,.int .i64,.int .i64,.int .i64])]}
def L4:fi:={aA:=[(1,.own (.op 40961 0)),(3,.int .i64)],bR:=[(40961,.box [.rs 4,.rs 3,.rs 8,.rs 5,.rs 4,.rs 6,.int .i64,.int .i64,.int .i64])]}
def L5:fi:={aA:=[(2,.own (.op 151554 0)),(3,.own (.op 151555 0)),(5,.int .i64)],bR:=[(151554,.box [.rs 6,.int .i64,.int .i64,.int .i64]),(151555,.box [.rs 6,.int .i64,.int .i64,.int .i64])]}
def L6:fi:={aA:=[(0,.rs 5),(1,.rs 5),(5,.int .i64)],bR:=[]}
def L7:fi:={aA:=[(0,.rs 8),(1,.rs 8),(5,.int .i64)],bR:=[]}
def L8:fi:={aA:=[(2,.own (.op 69634 0)),(3,.own (.op 69635 0)),(5,.int .i64)],bR:=[(69634,.box [.rs 4,.rs 3,.rs 8,.rs 5,.rs 4,.rs 6,.int .i64,.int .i64,.int .i64]),(69635,.box [.rs 4,.rs 3,.rs 8,.rs 5,.rs 4,.rs 6,.int .i64,.int .i64,.int .i64])]}
def L9:fi:={aA:=[(2,.own (.op 69634 0)),(3,.own (.op 69635 0)),(6,.int .i64)],bR:=[(69634,.box [.rs 4,.rs 3,.rs 8,.rs 5,.rs 4,.rs 6,.int .i64,.int .i64,.int .i64]),(69635,.box [.rs 4,.rs 3,.rs 8,.rs 5,.rs 4,.rs 6,.int .i64,.int .i64,.int .i64])]}
def Is:fi:={aA:=[(2,.own (.op 69634 0)),(3,.own (.op 69635 0)),(7,.int .i64)],bR:=[(69634,.box [.rs 4,.rs 3,.rs 8,.rs 5,.rs 4,.rs 6,.int .i64,.int .i64,.int .i64]),(69635,.box [.rs 4,.rs 3,.rs 8,.rs 5,.rs 4,.rs 6,.int .i64,.int .i64,.int .i64])]}
def It:fi:={aA:=[(2,.own (.op 69634 0)),(3,.own (.op 69635 0)),(8,.int .i64)],bR:=[(69634,.box [.rs 4,.rs 3,.rs 8,.rs 5,.rs 4,.rs 6,.int .i64,.int .i64,.int .i64]),(69635,.box [.rs 4,.rs 3,.rs 8,.rs 5,.rs 4,.rs 6,.int .i64,.int .i64,.int .i64])]}
def Ma:fi:={aA:=[(0,.rs 8),(3,.own (.os 131075)),(4,.int .i64)],bR:=[(131075,.arr 8 59)]}
def xP:fi:={aA:=[(0,.rs 8),(3,.own (.os 1100166070275)),(4,.int .i64),(32,.own (.op 65538 0)),(33,.own (.op 65539 0)),(34,.own (.op 65540 0)),(37,.int .i64),(38,.own (.op 65544 0))],bR:=[(1100166070275,.nest 8 59),(65538,.box [.rs 4,.rs 3,.rs 8,.rs 5,.rs 4,.rs 6,.int .i64,.int .i64,.int .i64]),(65539,.box [.int .i64,.int .i64,.int .i64,.int .i64,.int .i64,.str,.int .i64,.int .i64,.int .i64,.int .i64,.int .i64,.bool,.rs 5]),(65540,.box [.own .bk,.own .bk,.own .bk,.own .bk,.own .bk,.own .bk,.int .i64,.int .i64,.int .i64]),(65544,.box [.rs 4,.rs 3,.rs 8,.rs 5,.rs 4,.rs 6,.int .i64,.int .i64,.int .i64])],nz:=[1100166070275]}
def hints(f k:Nat):List fi:=
 bif Nat.beq f 101 then(bif Nat.beq k 3 then[H4]else[])else
 bif Nat.beq f 77 then(bif Nat.beq k 4 then[Lt]else[])else
 bif Nat.beq f 93 then(bif Nat.beq k 3 then[Lu]else[])else
 bif Nat.beq f 49 then(bif Nat.beq k 2 then[Lv]else[])else
 bif Nat.beq f 79 then(bif Nat.beq k 2 then[Lw]else[])else
 bif Nat.beq f 45 then(bif Nat.beq k 6 then[Lx]else[])else
 bif Nat.beq f 107 then(bif Nat.beq k 7 then[H5]else bif Nat.beq k 15 then[FO]else[])else
 bif Nat.beq f 110 then(bif Nat.beq k 3 then[H6]else bif Nat.beq k 9 then[H7]else bif Nat.beq k 15 then[FP,FQ]else[])else
 bif Nat.beq f 1845620860 then(bif Nat.beq k 5 then[wI]else[])else
 bif Nat.beq f 30964585997672582 then(bif Nat.beq k 1 then[pK]else[])else
 bif Nat.beq f 1845821564 then(bif Nat.beq k 5 then[wJ]else[])else
 bif Nat.beq f 109 then(bif Nat.beq k 3 then[H8]else[])else
 bif Nat.beq f 108 then(bif Nat.beq k 3 then[H9]else[])else
 bif Nat.beq f 103 then(bif Nat.beq k 7 then[Ia]else[])else
 bif Nat.beq f 97 then(bif Nat.beq k 3 then[Ly]else bif Nat.beq k 13 then[Ib]else[])else
 bif Nat.beq f 92 then(bif Nat.beq k 5 then[Lz]else bif Nat.beq k 8 then[LA]else[])else
 bif Nat.beq f 91 then(bif Nat.beq k 3 then[LB]else[])else
 bif Nat.beq f 81 then(bif Nat.beq k 10 then[Ic]else[])else
 bif Nat.beq f 47 then(bif Nat.beq k 3 then[LC]else[])else
 bif Nat.beq f 44 then(bif Nat.beq k 5 then[LD]else[])else
 bif Nat.beq f 42 then(bif Nat.beq k 2 then[LF]else[])else
 bif Nat.beq f 46 then(bif Nat.beq k 7 then[LG]else[])else
 bif Nat.beq f 41 then(bif Nat.beq k 5 then[LH]else[])else
 bif Nat.beq f 40 then(bif Nat.beq k 5 then[LI]else[])else
 bif Nat.beq f 12 then(bif Nat.beq k 2 then[LJ]else[])else
 bif Nat.beq f 335601692 then(bif Nat.beq k 3 then[xN]else[])else
 bif Nat.beq f 20 then(bif Nat.beq k 5 then[LK]else[])else
 bif Nat.beq f 94492301762971088019539 then(bif Nat.beq k 14 then[lQ]else[])else
 bif Nat.beq f 1585317757061816809790923382879 then(bif Nat.beq k 2 then[iK]else[])else
 bif Nat.beq f 94492301765788603412564 then(bif Nat.beq k 5 then[lT]else[])else
 bif Nat.beq f 251772956 then(bif Nat.beq k 3 then[xO]else[])else
 bif Nat.beq f 70870093055081400328275 then(bif Nat.beq k 14 then[lR]else[])else
 bif Nat.beq f 1189002859172470615222045941855 then(bif Nat.beq k 2 then[iL]else[])else
 bif Nat.beq f 70870093057898915721300 then(bif Nat.beq k 5 then[lU]else[])else
 bif Nat.beq f 75 then(bif Nat.beq k 4 then[LL]else[])else
 bif Nat.beq f 22 then(bif Nat.beq k 3 then[LM]else[])else
 bif Nat.beq f 86 then(bif Nat.beq k 4 then[LN]else[])else
 bif Nat.beq f 74 then(bif Nat.beq k 6 then[LO]else bif Nat.beq k 12 then[Ie]else[])else
 bif Nat.beq f 88 then(bif Nat.beq k 2 then[LP]else bif Nat.beq k 6 then[LQ]else[])else
 bif Nat.beq f 72 then(bif Nat.beq k 12 then[Ig]else bif Nat.beq k 20 then[Ih]else[])else
 bif Nat.beq f 96 then(bif Nat.beq k 3 then[LR]else bif Nat.beq k 7 then[LS]else bif Nat.beq k 12 then[Ii]else bif Nat.beq k 18 then[Ij]else bif Nat.beq k 21 then[Ik]else bif Nat.beq k 24 then[Il]else[])else
 bif Nat.beq f 89 then(bif Nat.beq k 4 then[LU]else bif Nat.beq k 7 then[LV]else[])else
 bif Nat.beq f 73 then(bif Nat.beq k 2 then[LW]else bif Nat.beq k 10 then[Im]else bif Nat.beq k 19 then[Io]else[])else
 bif Nat.beq f 70 then(bif Nat.beq k 4 then[LX]else bif Nat.beq k 9 then[LY]else[])else
 bif Nat.beq f 34 then(bif Nat.beq k 4 then[LZ]else[])else
 bif Nat.beq f 71 then(bif Nat.beq k 14 then[Ip]else[])else
 bif Nat.beq f 69 then(bif Nat.beq k 4 then[L2]else bif Nat.beq k 9 then[L3]else[])else
 bif Nat.beq f 38 then(bif Nat.beq k 10 then[Iq]else bif Nat.beq k 18 then[Ir]else[])else
 bif Nat.beq f 10 then(bif Nat.beq k 4 then[L4]else[])else
 bif Nat.beq f 37 then(bif Nat.beq k 4 then[L5]else[])else
 bif Nat.beq f 68 then(bif Nat.beq k 4 then[L6]else[])else
 bif Nat.beq f 36 then(bif Nat.beq k 4 then[L7]else[])else
 bif Nat.beq f 17 then(bif Nat.beq k 4 then[L8]else bif Nat.beq k 9 then[L9]else bif Nat.beq k 14 then[Is]else bif Nat.beq k 19 then[It]else[])else
 bif Nat.beq f 32 then(bif Nat.beq k 3 then[Ma]else[])else
 bif Nat.beq f 268595232 then(bif Nat.beq k 3 then[xP]else[])else
 []
noncomputable def S0:pD:={P:=Tryz.prog,aI:=fun _=>none,hint:=hints,y6:=fun s=>Nat.beq s 65641||Nat.beq s 65651||Nat.beq s 69631||Nat.beq s 393249||Nat.beq s 393250||Nat.beq s 393271||Nat.beq s 393278||Nat.beq s 393305||Nat.beq s 393310||Nat.beq s 393317||Nat.beq s 393324||Nat.beq s 397311||Nat.beq s 442376||Nat.beq s 442396||Nat.beq s 446463||Nat.beq s 1031262031871||Nat.beq s 1031295586352||Nat.beq s 1031295586383||Nat.beq s 1031295586395||Nat.beq s 1031295590399||Nat.beq s 1100166070299||Nat.beq s 1100166070300||Nat.beq s 1374624534527||Nat.beq s 1375043964976||Nat.beq s 1375043965007||Nat.beq s 1375043965019||Nat.beq s 1375043969023||Nat.beq s 17302268811638194237||Nat.beq s 17302268811638194238||Nat.beq s 17302268811638194239||Nat.beq s 17302268812275732497||Nat.beq s 17302268812275736575||Nat.beq s 17302268812963606527||Nat.beq s 23069409609462825021||Nat.beq s 23069409609462825022||Nat.beq s 23069409609462825023||Nat.beq s 23069409610100363281||Nat.beq s 23069409610100367359||Nat.beq s 23069409610788237311||Nat.beq s 1000000000000000000000000127036}
noncomputable def Uw(g:Nat):Option (List PV→Option PV):=bif Nat.beq g 100 then some bq else none
noncomputable def S:pD:={P:=Tryz.prog,aI:=fun _=>none,hint:=hints,Jr:=fun g=>bif Nat.beq g 99 then some (uZ 4 Uw)else none,y6:=fun s=>Nat.beq s 65641||Nat.beq s 65651||Nat.beq s 69631||Nat.beq s 393249||Nat.beq s 393250||Nat.beq s 393271||Nat.beq s 393278||Nat.beq s 393305||Nat.beq s 393310||Nat.beq s 393317||Nat.beq s 393324||Nat.beq s 397311||Nat.beq s 442376||Nat.beq s 442396||Nat.beq s 446463||Nat.beq s 1031262031871||Nat.beq s 1031295586352||Nat.beq s 1031295586383||Nat.beq s 1031295586395||Nat.beq s 1031295590399||Nat.beq s 1100166070299||Nat.beq s 1100166070300||Nat.beq s 1374624534527||Nat.beq s 1375043964976||Nat.beq s 1375043965007||Nat.beq s 1375043965019||Nat.beq s 1375043969023||Nat.beq s 17302268811638194237||Nat.beq s 17302268811638194238||Nat.beq s 17302268811638194239||Nat.beq s 17302268812275732497||Nat.beq s 17302268812275736575||Nat.beq s 17302268812963606527||Nat.beq s 23069409609462825021||Nat.beq s 23069409609462825022||Nat.beq s 23069409609462825023||Nat.beq s 23069409610100363281||Nat.beq s 23069409610100367359||Nat.beq s 23069409610788237311||Nat.beq s 1000000000000000000000000127036}
noncomputable def RI:fH:=[]
noncomputable def bU:fH:=[]
noncomputable def RM:fH:=(102,cW)::RI
noncomputable def RP:fH:=(101,gN)::RM
noncomputable def MT:fH:=(100,bq)::RP
noncomputable def RJ:fH:=(24,ij)::MT
noncomputable def RN:fH:=(25,fV)::RJ
noncomputable def RQ:fH:=(23,fI)::RN
noncomputable def RR:fH:=(90,j8)::RQ
noncomputable def RL:fH:=(77,dy)::RR
noncomputable def RO:fH:=(94,fb)::RL
noncomputable def JV:fH:=(93,ef)::RO
noncomputable def Kc:fH:=(50,gM)::JV
noncomputable def Jt:fH:=(49,dv)::Kc
noncomputable def JH:fH:=(48,bI)::Jt
noncomputable def JW:fH:=(51,dX)::JH
noncomputable def Ke:fH:=(52,fq)::JW
noncomputable def Ju:fH:=(27,cN)::Ke
noncomputable def JI:fH:=(79,eW)::Ju
noncomputable def JX:fH:=(43,aU)::JI
noncomputable def Kf:fH:=(78,bX)::JX
noncomputable def Jv:fH:=(45,cw)::Kf
noncomputable def JJ:fH:=(121,cD)::Jv
noncomputable def JY:fH:=(107,eD)::JJ
noncomputable def Kg:fH:=(123,ee)::JY
noncomputable def Jw:fH:=(131,aD)::Kg
noncomputable def JK:fH:=(110,dt)::Jw
noncomputable def JZ:fH:=(109,dC)::JK
noncomputable def Kh:fH:=(108,c9)::JZ
noncomputable def Jx:fH:=(103,dV)::Kh
noncomputable def JL:fH:=(97,cv)::Jx
noncomputable def J0:fH:=(92,c8)::JL
noncomputable def Ki:fH:=(91,eC)::J0
noncomputable def Jy:fH:=(81,dr)::Ki
noncomputable def JM:fH:=(47,bG)::Jy
noncomputable def J1:fH:=(44,dq)::JM
noncomputable def Kj:fH:=(42,cM)::J1
noncomputable def Jz:fH:=(80,bu)::Kj
noncomputable def JN:fH:=(46,dc)::Jz
noncomputable def J2:fH:=(76,ig)::JN
noncomputable def Kk:fH:=(41,fU)::J2
noncomputable def JA:fH:=(40,gL)::Kk
noncomputable def qC:fH:=(26,ec)::JA
noncomputable def J3:fH:=(58,cA)::bU
noncomputable def Km:fH:=(57,bH)::J3
noncomputable def JB:fH:=(56,cz)::Km
noncomputable def JO:fH:=(59,bO)::JB
noncomputable def J4:fH:=(54,ck)::JO
noncomputable def Kn:fH:=(55,cT)::J4
noncomputable def ER:fH:=(53,cy)::Kn
noncomputable def ET:fH:=(12,bw)::qC
noncomputable def dM:fH:=(82,dd)::ER
noncomputable def Ko:fH:=(85,bQ)::ET
noncomputable def JC:fH:=(20,fe)::Ko
noncomputable def JP:fH:=(15,aZ)::JC
noncomputable def J5:fH:=(75,cj)::JP
noncomputable def Kp:fH:=(39,fp)::J5
noncomputable def ES:fH:=(22,bK)::Kp
noncomputable def JQ:fH:=(11,cB)::ES
noncomputable def J6:fH:=(86,eg)::JQ
noncomputable def Kq:fH:=(87,bF)::J6
noncomputable def JD:fH:=(74,jH)::Kq
noncomputable def JR:fH:=(88,jL)::JD
noncomputable def J7:fH:=(72,lB)::JR
noncomputable def Kr:fH:=(96,fh)::J7
noncomputable def JE:fH:=(89,fx)::Kr
noncomputable def JS:fH:=(73,jJ)::JE
noncomputable def J8:fH:=(70,iX)::JS
noncomputable def Ks:fH:=(34,jI)::J8
noncomputable def JF:fH:=(71,mS)::Ks
noncomputable def JT:fH:=(69,jG)::JF
noncomputable def J9:fH:=(38,jM)::JT
noncomputable def Kt:fH:=(19,im)::J9
noncomputable def Ka:fH:=(10,jN)::Kt
noncomputable def Ku:fH:=(14,gZ)::Ka
noncomputable def JG:fH:=(37,fP)::Ku
noncomputable def JU:fH:=(68,fO)::JG
noncomputable def Kb:fH:=(36,gu)::JU
noncomputable def Kv:fH:=(17,dx)::Kb
noncomputable def Sq:fH:=(7,eQ)::Kv
end Go.Proofs.YtcmhmlnkhmefbaaGreat
