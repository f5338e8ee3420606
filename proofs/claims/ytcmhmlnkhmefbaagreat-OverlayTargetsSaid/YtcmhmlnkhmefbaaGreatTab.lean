import Derived.Test.YtcmhmlnkhmefbaaGreatProg
import Derived.Test.YtcmhmlnkhmefbaaGreatAbSeat
import Derived.Test.YtcmhmlnkhmefbaaGreatSh3
import Derived.KernelRfl
namespace Go.Proofs.YtcmhmlnkhmefbaaGreat
open Go.Ab
set_option maxRecDepth 100000
def Hn:fB:={aB:=[(3,.int .i64),(6,.rs 1),(7,.int .i64),(8,.int .i64)],cd:=[]}
def KI:fB:={aB:=[(0,.rs 5),(1,.int .i64),(2,.int .i64),(3,.int .i64),(21,.int .i64),(22,.int .i64)],cd:=[]}
def KJ:fB:={aB:=[(3,.int .i64),(6,.rs 5),(7,.int .i64),(8,.int .i64)],cd:=[]}
def KK:fB:={aB:=[(0,.str),(3,.int .i64)],cd:=[]}
def KL:fB:={aB:=[(0,.raw),(2,.int .i64),(7,.int .i64),(8,.bool)],cd:=[]}
def KM:fB:={aB:=[(1,.own (.op 184321 0)),(2,.own (.op 184322 0)),(3,.own (.om 184338)),(4,.own (.om 184339)),(5,.own (.om 184340)),(22,.rs 5),(23,.int .i64),(24,.int .i64)],cd:=[(184321,.box [.rs 4,.rs 3,.rs 8,.rs 5,.rs 4,.rs 6,.int .i64,.int .i64,.int .i64]),(184322,.box [.int .i64,.int .i64,.int .i64]),(184338,.map 3),(184339,.map 3),(184340,.map 131)]}
def Ho:fB:={aB:=[(2,.rs 1),(7,.own (.fn 121 [.op 438275 0])),(22,.rs 3),(23,.int .i64),(24,.int .i64)],cd:=[(438275,.box [.int .i64])]}
def Fa:fB:={aB:=[(7,.own (.fn 121 [.op 438275 0])),(47,.rs 1),(48,.int .i64),(49,.int .i64)],cd:=[(438275,.box [.int .i64])]}
def Hq:fB:={aB:=[(1,.raw),(2,.int .i64),(7,.own (.os 450575)),(17,.int .i64),(18,.int .i64)],cd:=[(450575,.arr 3 181)]}
def vQ:fB:={aB:=[(0,.own (.op 7559595925511 0)),(4,.int .i64),(55,.raw),(61,.own (.os 450575)),(63,.own (.op 7559595925511 0))],cd:=[(7559595925511,.box [.own (.fn 123 []),.own (.os 3213876088517980551083924184682325205044405987573145266528263),.int .i64]),(450575,.arr 3 181),(3213876088517980551083924184682325205044405987573145266528263,.arr 4 198)]}
def Hr:fB:={aB:=[(1,.raw),(7,.own (.os 450575)),(9,.own (.op 7559595925511 0))],cd:=[(450575,.arr 3 181),(7559595925511,.box [.own (.fn 123 []),.own (.os 3213876088517980551083924184682325205044405987573145266528263),.int .i64]),(3213876088517980551083924184682325205044405987573145266528263,.arr 4 198)]}
def pf:fB:={aB:=[(0,.own (.op 7559595925511 0)),(2,.int .i64),(43,.own (.op 7559713378306 0)),(45,.own (.op 7559713378308 0)),(78,.raw),(84,.own (.os 450575)),(86,.own (.op 7559595925511 0))],cd:=[(7559595925511,.box [.own (.fn 123 []),.own (.os 3213876088517980551083924184682325205044405987573145266528263),.int .i64]),(7559713378306,.box [.int .i64,.int .i64,.int .i64]),(7559713378308,.box [.raw,.raw,.raw]),(450575,.arr 3 181),(3213876088517980551083924184682325205044405987573145266528263,.arr 4 198)],ct:=[(7559595925511,1)]}
def Fb:fB:={aB:=[(1,.raw),(7,.own (.os 450575)),(9,.own (.op 7559595925511 0)),(10,.own (.op 450570 0)),(55,.rs 0),(56,.int .i64),(57,.int .i64)],cd:=[(450575,.arr 3 181),(7559595925511,.box [.own (.fn 123 []),.own (.os 3213876088517980551083924184682325205044405987573145266528263),.int .i64]),(450570,.box [.raw,.raw,.raw]),(3213876088517980551083924184682325205044405987573145266528263,.arr 4 198)]}
def Fc:fB:={aB:=[(1,.raw),(7,.own (.os 450575)),(9,.own (.op 7559595925511 0)),(10,.own (.op 450570 0)),(55,.rs 3),(56,.int .i64),(57,.int .i64)],cd:=[(450575,.arr 3 181),(7559595925511,.box [.own (.fn 123 []),.own (.os 3213876088517980551083924184682325205044405987573145266528263),.int .i64]),(450570,.box [.raw,.raw,.raw]),(3213876088517980551083924184682325205044405987573145266528263,.arr 4 198)]}
def vR:fB:={aB:=[(0,.own (.op 7559595925511 0)),(4,.int .i64),(55,.raw),(61,.own (.os 450575)),(63,.own (.op 7559595925511 0)),(64,.own (.op 450570 0)),(109,.rs 3),(110,.int .i64),(111,.int .i64)],cd:=[(7559595925511,.box [.own (.fn 123 []),.own (.os 3213876088517980551083924184682325205044405987573145266528263),.int .i64]),(450575,.arr 3 181),(450570,.box [.raw,.raw,.raw]),(3213876088517980551083924184682325205044405987573145266528263,.arr 4 198)]}
def Hs:fB:={aB:=[(3,.own (.os 446472)),(9,.rs 3),(10,.int .i64),(11,.int .i64)],cd:=[(446472,.arr 1 3)]}
def Ht:fB:={aB:=[(1,.bool),(5,.own (.om 442376)),(9,.rs 3),(10,.int .i64),(11,.int .i64)],cd:=[(442376,.eU 3 157)]}
def Hu:fB:={aB:=[(0,.int .i64),(7,.raw),(8,.own (.os 421907)),(21,.int .i64),(22,.int .i64)],cd:=[(421907,.arr 1 52)]}
def KN:fB:={aB:=[(1,.int .i64),(2,.bool),(7,.own (.om 397330)),(19,.rs 4),(20,.int .i64),(21,.int .i64)],cd:=[(397330,.map 148)]}
def Hv:fB:={aB:=[(1,.int .i64),(13,.own (.os 397369)),(59,.own (.it 397371))],cd:=[(397369,.arr 3 157),(397371,.iter 154)]}
def KO:fB:={aB:=[(5,.rs 1),(6,.rs 1),(7,.own (.op 376839 0)),(8,.own (.fn 98 [.op 376839 0])),(21,.int .i64),(22,.int .i64)],cd:=[(376839,.box [.own (.os 1606938044258990275541962092341162602522202993782792835678215)]),(1606938044258990275541962092341162602522202993782792835678215,.arr 4 83)]}
def KP:fB:={aB:=[(5,.rs 1),(6,.rs 1),(7,.own (.op 376839 0)),(8,.own (.fn 98 [.op 376839 0])),(9,.int .i64),(21,.int .i64),(22,.int .i64),(28,.rs 1),(29,.int .i64),(30,.int .i64)],cd:=[(376839,.box [.own (.os 1606938044258990275541962092341162602522202993782792835678215)]),(1606938044258990275541962092341162602522202993782792835678215,.arr 4 83)]}
def KQ:fB:={aB:=[(1,.int .i64),(6,.own (.om 372746)),(11,.rs 4),(12,.int .i64),(13,.int .i64)],cd:=[(372746,.map 148)]}
def Hw:fB:={aB:=[(0,.rs 4),(7,.rs 4),(29,.int .i64),(30,.int .i64)],cd:=[]}
def KS:fB:={aB:=[(1,.own (.op 192513 0)),(2,.own (.op 192514 0)),(3,.own (.om 192519)),(9,.rs 4),(10,.int .i64),(11,.int .i64)],cd:=[(192513,.box [.rs 4,.rs 3,.rs 8,.rs 5,.rs 4,.rs 6,.int .i64,.int .i64,.int .i64]),(192514,.box [.int .i64,.int .i64,.int .i64]),(192519,.map 83)]}
def KT:fB:={aB:=[(1,.own (.op 180225 0)),(2,.own (.op 180226 0)),(3,.own (.om 180238)),(16,.rs 8),(17,.int .i64),(18,.int .i64)],cd:=[(180225,.box [.rs 4,.rs 3,.rs 8,.rs 5,.rs 4,.rs 6,.int .i64,.int .i64,.int .i64]),(180226,.box [.int .i64,.int .i64,.int .i64]),(180238,.map 126)]}
def KU:fB:={aB:=[(2,.own (.op 172034 0)),(5,.rs 3),(6,.int .i64),(7,.int .i64)],cd:=[(172034,.box [.int .i64,.int .i64,.int .i64])]}
def KV:fB:={aB:=[(4,.own (.om 188443)),(29,.rs 6),(30,.int .i64),(31,.int .i64)],cd:=[(188443,.map 9)]}
def KW:fB:={aB:=[(4,.own (.om 167946)),(11,.rs 3),(12,.int .i64),(13,.int .i64)],cd:=[(167946,.map 9)]}
def KX:fB:={aB:=[(4,.own (.om 163850)),(11,.rs 4),(12,.int .i64),(13,.int .i64)],cd:=[(163850,.map 9)]}
def KY:fB:={aB:=[(3,.own (.op 49155 0)),(9,.rs 8),(10,.int .i64),(11,.int .i64)],cd:=[(49155,.box [.int .i64,.int .i64,.int .i64,.int .i64,.int .i64,.str,.int .i64,.int .i64,.int .i64,.int .i64,.int .i64,.bool,.rs 5])]}
def xb:fB:={aB:=[(1,.own (.op 1374624530433 0)),(2,.own (.op 1374624530434 0)),(3,.own (.op 1374624530435 0)),(25,.int .i64),(26,.int .i64),(50,.rs 13),(51,.own (.op 81922 0)),(53,.own (.op 81924 0))],cd:=[(1374624530433,.box [.rs 4,.rs 3,.rs 8,.rs 5,.rs 4,.rs 6,.int .i64,.int .i64,.int .i64]),(1374624530434,.box [.own .ba,.own .ba,.own .ba,.own .ba,.own .ba,.own .ba,.int .i64,.int .i64,.int .i64]),(1374624530435,.box [.own (.os 1374624530439),.own (.os 1374624530442),.own (.os 1374624530445),.own (.os 1374624530448),.own (.os 1374624530451),.rs 6,.int .i64,.int .i64,.int .i64]),(81922,.box [.rs 4,.rs 3,.rs 8,.rs 5,.rs 4,.rs 6,.int .i64,.int .i64,.int .i64]),(81924,.box [.own .ba,.own .ba,.own .ba,.own .ba,.own .ba,.own .ba,.int .i64,.int .i64,.int .i64]),(1374624530439,.arr 4 77),(1374624530442,.arr 3 79),(1374624530445,.nest 8 59),(1374624530448,.arr 5 81),(1374624530451,.arr 4 83)],nz:=[1374624530445]}
def KZ:fB:={aB:=[(1,.rs 13),(4,.own (.op 81924 0)),(6,.own (.op 81926 0)),(9,.int .i64),(10,.own (.os 81930)),(22,.int .i64),(23,.int .i64)],cd:=[(81924,.box [.own .ba,.own .ba,.own .ba,.own .ba,.own .ba,.own .ba,.int .i64,.int .i64,.int .i64]),(81926,.box [.own (.os 1374624530439),.own (.os 1374624530442),.own (.os 1374624530445),.own (.os 1374624530448),.own (.os 1374624530451),.own (.os 1374624530477),.int .i64,.int .i64,.int .i64]),(81930,.arr 1 42),(1374624530439,.arr 4 77),(1374624530442,.arr 3 79),(1374624530445,.nest 8 59),(1374624530448,.arr 5 81),(1374624530451,.arr 4 83),(1374624530477,.arr 6 110)],ct:=[(81926,3)]}
def lA:fB:={aB:=[(0,.row 1374624530445 7),(1,.int .i64),(8,.own (.os 387040468021129576528031779)),(10,.int .i64),(57,.int .i64),(58,.int .i64),(112,.own (.op 81926 0)),(114,.int .i64),(251,.rs 13),(254,.own (.op 81924 0)),(256,.own (.op 81926 0)),(259,.int .i64),(260,.own (.os 81930)),(272,.int .i64),(273,.int .i64)],cd:=[(1374624530445,.nest 8 59),(387040468021129576528031779,.arr 5 64),(81926,.box [.own (.os 1374624530439),.own (.os 1374624530442),.own (.os 1374624530445),.own (.os 1374624530448),.own (.os 1374624530451),.own (.os 1374624530477),.int .i64,.int .i64,.int .i64]),(81924,.box [.own .ba,.own .ba,.own .ba,.own .ba,.own .ba,.own .ba,.int .i64,.int .i64,.int .i64]),(81930,.arr 1 42),(1374624530439,.arr 4 77),(1374624530442,.arr 3 79),(1374624530448,.arr 5 81),(1374624530451,.arr 4 83),(1374624530477,.arr 6 110)]}
def iq:fB:={aB:=[(0,.own (.os 1374624530448)),(1,.own (.fn 85 [.op 23069409610788233221 0])),(7,.int .i64),(8,.int .i64),(19,.own (.os 1374624530448)),(20,.own (.fn 85 [.op 23069409610788233221 0])),(94,.own (.op 81926 0)),(206,.rs 13),(209,.own (.op 81924 0)),(211,.own (.op 81926 0)),(214,.int .i64),(215,.own (.os 81930)),(227,.int .i64),(228,.int .i64)],cd:=[(1374624530448,.arr 5 81),(23069409610788233221,.box [.int .i64]),(81926,.box [.own (.os 1374624530439),.own (.os 1374624530442),.own (.os 1374624530445),.own (.os 1374624530448),.own (.os 1374624530451),.own (.os 1374624530477),.int .i64,.int .i64,.int .i64]),(81924,.box [.own .ba,.own .ba,.own .ba,.own .ba,.own .ba,.own .ba,.int .i64,.int .i64,.int .i64]),(81930,.arr 1 42),(1374624530439,.arr 4 77),(1374624530442,.arr 3 79),(1374624530445,.nest 8 59),(1374624530451,.arr 4 83),(1374624530477,.arr 6 110)]}
def lC:fB:={aB:=[(0,.own (.os 1374624530448)),(1,.own (.fn 85 [.op 23069409610788233221 0])),(5,.int .i64),(6,.int .i64),(75,.own (.op 81926 0)),(187,.rs 13),(190,.own (.op 81924 0)),(192,.own (.op 81926 0)),(195,.int .i64),(196,.own (.os 81930)),(208,.int .i64),(209,.int .i64)],cd:=[(1374624530448,.arr 5 81),(23069409610788233221,.box [.int .i64]),(81926,.box [.own (.os 1374624530439),.own (.os 1374624530442),.own (.os 1374624530445),.own (.os 1374624530448),.own (.os 1374624530451),.own (.os 1374624530477),.int .i64,.int .i64,.int .i64]),(81924,.box [.own .ba,.own .ba,.own .ba,.own .ba,.own .ba,.own .ba,.int .i64,.int .i64,.int .i64]),(81930,.arr 1 42),(1374624530439,.arr 4 77),(1374624530442,.arr 3 79),(1374624530445,.nest 8 59),(1374624530451,.arr 4 83),(1374624530477,.arr 6 110)]}
def xc:fB:={aB:=[(1,.own (.op 1031262027777 0)),(2,.own (.op 1031262027778 0)),(3,.own (.op 1031262027779 0)),(25,.int .i64),(26,.int .i64),(52,.own (.op 61443 0)),(53,.own (.op 61444 0))],cd:=[(1031262027777,.box [.rs 4,.rs 3,.rs 8,.rs 5,.rs 4,.rs 6,.int .i64,.int .i64,.int .i64]),(1031262027778,.box [.own .ba,.own .ba,.own .ba,.own .ba,.own .ba,.own .ba,.int .i64,.int .i64,.int .i64]),(1031262027779,.box [.own (.os 1031262027783),.own (.os 1031262027786),.own (.os 1031262027789),.own (.os 1031262027792),.own (.os 1031262027795),.rs 6,.int .i64,.int .i64,.int .i64]),(61443,.box [.int .i64,.int .i64,.int .i64,.int .i64,.int .i64,.str,.int .i64,.int .i64,.int .i64,.int .i64,.int .i64,.bool,.rs 5]),(61444,.box [.own .ba,.own .ba,.own .ba,.own .ba,.own .ba,.own .ba,.int .i64,.int .i64,.int .i64]),(1031262027783,.arr 4 77),(1031262027786,.arr 3 79),(1031262027789,.nest 8 59),(1031262027792,.arr 5 81),(1031262027795,.arr 4 83)],nz:=[1031262027789]}
def lB:fB:={aB:=[(0,.row 1031262027789 7),(1,.int .i64),(8,.own (.os 290283901153613415744614435)),(10,.int .i64),(57,.int .i64),(58,.int .i64),(112,.own (.op 61450 0)),(114,.int .i64),(254,.own (.op 61444 0)),(260,.own (.op 61450 0))],cd:=[(1031262027789,.nest 8 59),(290283901153613415744614435,.arr 5 64),(61450,.box [.own (.os 1031262027783),.own (.os 1031262027786),.own (.os 1031262027789),.own (.os 1031262027792),.own (.os 1031262027795),.own (.os 1031262027821),.int .i64,.int .i64,.int .i64]),(61444,.box [.own .ba,.own .ba,.own .ba,.own .ba,.own .ba,.own .ba,.int .i64,.int .i64,.int .i64]),(1031262027783,.arr 4 77),(1031262027786,.arr 3 79),(1031262027792,.arr 5 81),(1031262027795,.arr 4 83),(1031262027821,.arr 6 110)]}
def ir:fB:={aB:=[(0,.own (.os 1031262027792)),(1,.own (.fn 85 [.op 17302268812963602437 0])),(7,.int .i64),(8,.int .i64),(19,.own (.os 1031262027792)),(20,.own (.fn 85 [.op 17302268812963602437 0])),(94,.own (.op 61450 0)),(209,.own (.op 61444 0)),(215,.own (.op 61450 0))],cd:=[(1031262027792,.arr 5 81),(17302268812963602437,.box [.int .i64]),(61450,.box [.own (.os 1031262027783),.own (.os 1031262027786),.own (.os 1031262027789),.own (.os 1031262027792),.own (.os 1031262027795),.own (.os 1031262027821),.int .i64,.int .i64,.int .i64]),(61444,.box [.own .ba,.own .ba,.own .ba,.own .ba,.own .ba,.own .ba,.int .i64,.int .i64,.int .i64]),(1031262027783,.arr 4 77),(1031262027786,.arr 3 79),(1031262027789,.nest 8 59),(1031262027795,.arr 4 83),(1031262027821,.arr 6 110)]}
def lD:fB:={aB:=[(0,.own (.os 1031262027792)),(1,.own (.fn 85 [.op 17302268812963602437 0])),(5,.int .i64),(6,.int .i64),(75,.own (.op 61450 0)),(190,.own (.op 61444 0)),(196,.own (.op 61450 0))],cd:=[(1031262027792,.arr 5 81),(17302268812963602437,.box [.int .i64]),(61450,.box [.own (.os 1031262027783),.own (.os 1031262027786),.own (.os 1031262027789),.own (.os 1031262027792),.own (.os 1031262027795),.own (.os 1031262027821),.int .i64,.int .i64,.int .i64]),(61444,.box [.own .ba,.own .ba,.own .ba,.own .ba,.own .ba,.own .ba,.int .i64,.int .i64,.int .i64]),(1031262027783,.arr 4 77),(1031262027786,.arr 3 79),(1031262027789,.nest 8 59),(1031262027795,.arr 4 83),(1031262027821,.arr 6 110)]}
def K0:fB:={aB:=[(0,.rs 5),(1,.rs 5),(12,.int .i64),(13,.int .i64)],cd:=[]}
def K1:fB:={aB:=[(2,.own (.op 90114 0)),(3,.own (.op 90115 0)),(5,.own (.os 90117)),(13,.int .i64),(14,.int .i64)],cd:=[(90114,.box [.rs 4,.rs 3,.rs 8,.rs 5,.rs 4,.rs 6,.int .i64,.int .i64,.int .i64]),(90115,.box [.rs 4,.rs 3,.rs 8,.rs 5,.rs 4,.rs 6,.int .i64,.int .i64,.int .i64]),(90117,.arr 1 3)]}
def K2:fB:={aB:=[(0,.str),(3,.int .i64)],cd:=[]}
def K3:fB:={aB:=[(1,.own (.op 303105 0)),(4,.int .i64)],cd:=[(303105,.box [.rs 6,.int .i64,.int .i64,.int .i64])]}
def Hx:fB:={aB:=[(1,.own (.op 303105 0)),(4,.int .i64),(5,.own (.op 303109 0)),(6,.int .i64)],cd:=[(303105,.box [.rs 6,.int .i64,.int .i64,.int .i64]),(303109,.box [.raw,.raw,.raw,.raw,.raw,.raw])]}
def K4:fB:={aB:=[(1,.int .i64),(2,.int .i64),(3,.int .i64),(4,.own (.op 360452 0)),(9,.int .i64)],cd:=[(360452,.box [.rs 4,.rs 3,.rs 8,.rs 5,.rs 4,.rs 6,.int .i64,.int .i64,.int .i64])]}
def K5:fB:={aB:=[(1,.int .i64),(2,.int .i64),(3,.int .i64),(4,.own (.op 360452 0)),(9,.int .i64),(10,.int .i64),(11,.int .i64)],cd:=[(360452,.box [.rs 4,.rs 3,.rs 8,.rs 5,.rs 4,.rs 6,.int .i64,.int .i64,.int .i64])]}
def Hy:fB:={aB:=[(1,.int .i64),(2,.own (.op 294914 0)),(5,.own (.op 294917 0)),(8,.int .i64)],cd:=[(294914,.box [.rs 4,.rs 3,.rs 8,.rs 5,.rs 4,.rs 6,.int .i64,.int .i64,.int .i64]),(294917,.box [.raw,.raw,.raw,.raw,.raw])]}
def Hz:fB:={aB:=[(1,.int .i64),(2,.own (.op 294914 0)),(5,.own (.op 294917 0)),(10,.int .i64)],cd:=[(294914,.box [.rs 4,.rs 3,.rs 8,.rs 5,.rs 4,.rs 6,.int .i64,.int .i64,.int .i64]),(294917,.box [.raw,.raw,.raw,.raw,.raw])]}
def K6:fB:={aB:=[(0,.rs 4),(1,.int .i64),(2,.bool),(7,.own (.os 393232)),(8,.int .i64)],cd:=[(393232,.nest 1 52)],nz:=[393232]}
def K7:fB:={aB:=[(0,.rs 4),(1,.int .i64),(2,.bool),(7,.own (.os 393232)),(8,.int .i64),(9,.own (.os 393238)),(10,.int .i64)],cd:=[(393232,.nest 1 52),(393238,.arr 1 3)],nz:=[393232]}
def HA:fB:={aB:=[(0,.rs 4),(1,.int .i64),(2,.bool),(7,.own (.os 393232)),(11,.int .i64)],cd:=[(393232,.nest 1 52)],nz:=[393232]}
def HB:fB:={aB:=[(1,.int .i64),(7,.own (.os 393232)),(13,.int .i64)],cd:=[(393232,.nest 1 52)],nz:=[393232]}
def HC:fB:={aB:=[(1,.int .i64),(7,.own (.os 393232)),(13,.int .i64),(14,.int .i64)],cd:=[(393232,.nest 1 52)],nz:=[393232]}
def HD:fB:={aB:=[(1,.int .i64),(7,.own (.os 393232)),(13,.int .i64),(14,.int .i64),(15,.int .i64)],cd:=[(393232,.nest 1 52)],nz:=[393232]}
def K8:fB:={aB:=[(1,.int .i64),(5,.rs 1),(6,.rs 1),(7,.own (.os 364560)),(8,.int .i64)],cd:=[(364560,.arr 4 83)]}
def K9:fB:={aB:=[(1,.int .i64),(5,.rs 1),(6,.rs 1),(7,.own (.os 364560)),(8,.int .i64),(9,.int .i64)],cd:=[(364560,.arr 4 83)]}
def La:fB:={aB:=[(1,.own (.op 299009 0)),(4,.int .i64)],cd:=[(299009,.box [.rs 4,.rs 3,.rs 8,.rs 5,.rs 4,.rs 6,.int .i64,.int .i64,.int .i64])]}
def HE:fB:={aB:=[(1,.own (.op 299009 0)),(4,.int .i64),(5,.own (.op 299013 0)),(6,.int .i64)],cd:=[(299009,.box [.rs 4,.rs 3,.rs 8,.rs 5,.rs 4,.rs 6,.int .i64,.int .i64,.int .i64]),(299013,.box [.raw,.raw,.raw,.raw])]}
def HF:fB:={aB:=[(1,.own (.op 299009 0)),(8,.rs 4),(9,.int .i64)],cd:=[(299009,.box [.rs 4,.rs 3,.rs 8,.rs 5,.rs 4,.rs 6,.int .i64,.int .i64,.int .i64])]}
def Lb:fB:={aB:=[(0,.rs 3),(4,.int .i64)],cd:=[]}
def Lc:fB:={aB:=[(0,.rs 3),(4,.int .i64),(5,.int .i64)],cd:=[]}
def Ld:fB:={aB:=[(0,.rs 5),(1,.int .i64),(2,.int .i64),(3,.int .i64),(9,.int .i64)],cd:=[]}
def HG:fB:={aB:=[(1,.int .i64),(2,.own (.op 290818 0)),(5,.own (.op 290821 0)),(7,.int .i64)],cd:=[(290818,.box [.rs 4,.rs 3,.rs 8,.rs 5,.rs 4,.rs 6,.int .i64,.int .i64,.int .i64]),(290821,.box [.raw,.raw,.raw,.raw,.raw,.raw,.raw,.raw])]}
def Le:fB:={aB:=[(0,.rs 4),(4,.int .i64)],cd:=[]}
def Lf:fB:={aB:=[(0,.rs 4),(4,.int .i64),(5,.int .i64)],cd:=[]}
def HH:fB:={aB:=[(1,.own (.op 155649 0)),(7,.int .i64)],cd:=[(155649,.box [.rs 4,.rs 3,.rs 8,.rs 5,.rs 4,.rs 6,.int .i64,.int .i64,.int .i64])]}
def HI:fB:={aB:=[(1,.own (.op 155649 0)),(8,.int .i64)],cd:=[(155649,.box [.rs 4,.rs 3,.rs 8,.rs 5,.rs 4,.rs 6,.int .i64,.int .i64,.int .i64])]}
def Lg:fB:={aB:=[(1,.own (.op 40961 0)),(3,.int .i64)],cd:=[(40961,.box [.rs 4,.rs 3,.rs 8,.rs 5,.rs 4,.rs 6,.int .i64,.int .i64,.int .i64])]}
def Lh:fB:={aB:=[(2,.own (.op 53250 0)),(3,.own (.op 53251 0)),(5,.int .i64)],cd:=[(53250,.box [.rs 4,.rs 3,.rs 8,.rs 5,.rs 4,.rs 6,.int .i64,.int .i64,.int .i64]),(53251,.box [.int .i64,.int .i64,.int .i64,.int .i64,.int .i64,.str,.int .i64,.int .i64,.int .i64,.int .i64,.int .i64,.bool,.rs 5])]}
def Li:fB:={aB:=[(0,.rs 8),(3,.own (.os 131075)),(4,.int .i64)],cd:=[(131075,.arr 8 59)]}
def xd:fB:={aB:=[(0,.rs 8),(3,.own (.os 1100166070275)),(4,.int .i64),(32,.own (.op 65538 0)),(33,.own (.op 65539 0)),(34,.own (.op 65540 0)),(37,.int .i64),(38,.own (.op 65544 0))],cd:=[(1100166070275,.nest 8 59),(65538,.box [.rs 4,.rs 3,.rs 8,.rs 5,.rs 4,.rs 6,.int .i64,.int .i64,.int .i64]),(65539,.box [.int .i64,.int .i64,.int .i64,.int .i64,.int .i64,.str,.int .i64,.int .i64,.int .i64,.int .i64,.int .i64,.bool,.rs 5]),(65540,.box [.own .ba,.own .ba,.own .ba,.own .ba,.own .ba,.own .ba,.int .i64,.int .i64,.int .i64]),(65544,.box [.rs 4,.rs 3,.rs 8,.rs 5,.rs 4,.rs 6,.int .i64,.int .i64,.int .i64])],nz:=[1100166070275]}
def hints(f k:Nat):List fB:=
 bif Nat.beq f 101 then(bif Nat.beq k 3 then[Hn]else[])else
 bif Nat.beq f 77 then(bif Nat.beq k 4 then[KI]else[])else
 bif Nat.beq f 93 then(bif Nat.beq k 3 then[KJ]else[])else
 bif Nat.beq f 49 then(bif Nat.beq k 2 then[KK]else[])else
 bif Nat.beq f 79 then(bif Nat.beq k 2 then[KL]else[])else
 bif Nat.beq f 45 then(bif Nat.beq k 6 then[KM]else[])else
 bif Nat.beq f 107 then(bif Nat.beq k 7 then[Ho]else bif Nat.beq k 15 then[Fa]else[])else
 bif Nat.beq f 110 then(bif Nat.beq k 3 then[Hq]else bif Nat.beq k 9 then[Hr]else bif Nat.beq k 15 then[Fb,Fc]else[])else
 bif Nat.beq f 1845620860 then(bif Nat.beq k 5 then[vQ]else[])else
 bif Nat.beq f 30964585997672582 then(bif Nat.beq k 1 then[pf]else[])else
 bif Nat.beq f 1845821564 then(bif Nat.beq k 5 then[vR]else[])else
 bif Nat.beq f 109 then(bif Nat.beq k 3 then[Hs]else[])else
 bif Nat.beq f 108 then(bif Nat.beq k 3 then[Ht]else[])else
 bif Nat.beq f 103 then(bif Nat.beq k 7 then[Hu]else[])else
 bif Nat.beq f 97 then(bif Nat.beq k 3 then[KN]else bif Nat.beq k 13 then[Hv]else[])else
 bif Nat.beq f 92 then(bif Nat.beq k 5 then[KO]else bif Nat.beq k 8 then[KP]else[])else
 bif Nat.beq f 91 then(bif Nat.beq k 3 then[KQ]else[])else
 bif Nat.beq f 81 then(bif Nat.beq k 10 then[Hw]else[])else
 bif Nat.beq f 47 then(bif Nat.beq k 3 then[KS]else[])else
 bif Nat.beq f 44 then(bif Nat.beq k 5 then[KT]else[])else
 bif Nat.beq f 42 then(bif Nat.beq k 2 then[KU]else[])else
 bif Nat.beq f 46 then(bif Nat.beq k 7 then[KV]else[])else
 bif Nat.beq f 41 then(bif Nat.beq k 5 then[KW]else[])else
 bif Nat.beq f 40 then(bif Nat.beq k 5 then[KX]else[])else
 bif Nat.beq f 12 then(bif Nat.beq k 2 then[KY]else[])else
 bif Nat.beq f 335601692 then(bif Nat.beq k 3 then[xb]else[])else
 bif Nat.beq f 20 then(bif Nat.beq k 5 then[KZ]else[])else
 bif Nat.beq f 94492301762971088019539 then(bif Nat.beq k 14 then[lA]else[])else
 bif Nat.beq f 1585317757061816809790923382879 then(bif Nat.beq k 2 then[iq]else[])else
 bif Nat.beq f 94492301765788603412564 then(bif Nat.beq k 5 then[lC]else[])else
 bif Nat.beq f 251772956 then(bif Nat.beq k 3 then[xc]else[])else
 bif Nat.beq f 70870093055081400328275 then(bif Nat.beq k 14 then[lB]else[])else
 bif Nat.beq f 1189002859172470615222045941855 then(bif Nat.beq k 2 then[ir]else[])else
 bif Nat.beq f 70870093057898915721300 then(bif Nat.beq k 5 then[lD]else[])else
 bif Nat.beq f 75 then(bif Nat.beq k 4 then[K0]else[])else
 bif Nat.beq f 22 then(bif Nat.beq k 3 then[K1]else[])else
 bif Nat.beq f 86 then(bif Nat.beq k 4 then[K2]else[])else
 bif Nat.beq f 74 then(bif Nat.beq k 6 then[K3]else bif Nat.beq k 12 then[Hx]else[])else
 bif Nat.beq f 88 then(bif Nat.beq k 2 then[K4]else bif Nat.beq k 6 then[K5]else[])else
 bif Nat.beq f 72 then(bif Nat.beq k 12 then[Hy]else bif Nat.beq k 20 then[Hz]else[])else
 bif Nat.beq f 96 then(bif Nat.beq k 3 then[K6]else bif Nat.beq k 7 then[K7]else bif Nat.beq k 12 then[HA]else bif Nat.beq k 18 then[HB]else bif Nat.beq k 21 then[HC]else bif Nat.beq k 24 then[HD]else[])else
 bif Nat.beq f 89 then(bif Nat.beq k 4 then[K8]else bif Nat.beq k 7 then[K9]else[])else
 bif Nat.beq f 73 then(bif Nat.beq k 2 then[La]else bif Nat.beq k 10 then[HE]else bif Nat.beq k 19 then[HF]else[])else
 bif Nat.beq f 70 then(bif Nat.beq k 4 then[Lb]else bif Nat.beq k 9 then[Lc]else[])else
 bif Nat.beq f 34 then(bif Nat.beq k 4 then[Ld]else[])else
 bif Nat.beq f 71 then(bif Nat.beq k 14 then[HG]else[])else
 bif Nat.beq f 69 then(bif Nat.beq k 4 then[Le]else bif Nat.beq k 9 then[Lf]else[])else
 bif Nat.beq f 38 then(bif Nat.beq k 10 then[HH]else bif Nat.beq k 18 then[HI]else[])else
 bif Nat.beq f 10 then(bif Nat.beq k 4 then[Lg]else[])else
 bif Nat.beq f 13 then(bif Nat.beq k 2 then[Lh]else[])else
 bif Nat.beq f 32 then(bif Nat.beq k 3 then[Li]else[])else
 bif Nat.beq f 268595232 then(bif Nat.beq k 3 then[xd]else[])else
 []
noncomputable def S0:oZ:={P:=Tryz.prog,aD:=fun _=>none,hint:=hints,yq:=fun s=>Nat.beq s 65641||Nat.beq s 65651||Nat.beq s 69631||Nat.beq s 393249||Nat.beq s 393250||Nat.beq s 393271||Nat.beq s 393278||Nat.beq s 393305||Nat.beq s 393310||Nat.beq s 393317||Nat.beq s 393324||Nat.beq s 397311||Nat.beq s 442376||Nat.beq s 442396||Nat.beq s 446463||Nat.beq s 1031262031871||Nat.beq s 1031295586352||Nat.beq s 1031295586383||Nat.beq s 1031295586395||Nat.beq s 1031295590399||Nat.beq s 1100166070299||Nat.beq s 1100166070300||Nat.beq s 1374624534527||Nat.beq s 1375043964976||Nat.beq s 1375043965007||Nat.beq s 1375043965019||Nat.beq s 1375043969023||Nat.beq s 17302268811638194237||Nat.beq s 17302268811638194238||Nat.beq s 17302268811638194239||Nat.beq s 17302268812275732497||Nat.beq s 17302268812275736575||Nat.beq s 17302268812963606527||Nat.beq s 23069409609462825021||Nat.beq s 23069409609462825022||Nat.beq s 23069409609462825023||Nat.beq s 23069409610100363281||Nat.beq s 23069409610100367359||Nat.beq s 23069409610788237311||Nat.beq s 1000000000000000000000000127036}
noncomputable def Tq(g:Nat):Option (List PV→Option PV):=bif Nat.beq g 100 then some bm else none
noncomputable def S:oZ:={P:=Tryz.prog,aD:=fun _=>none,hint:=hints,IJ:=fun g=>bif Nat.beq g 99 then some (uq 4 Tq)else none,yq:=fun s=>Nat.beq s 65641||Nat.beq s 65651||Nat.beq s 69631||Nat.beq s 393249||Nat.beq s 393250||Nat.beq s 393271||Nat.beq s 393278||Nat.beq s 393305||Nat.beq s 393310||Nat.beq s 393317||Nat.beq s 393324||Nat.beq s 397311||Nat.beq s 442376||Nat.beq s 442396||Nat.beq s 446463||Nat.beq s 1031262031871||Nat.beq s 1031295586352||Nat.beq s 1031295586383||Nat.beq s 1031295586395||Nat.beq s 1031295590399||Nat.beq s 1100166070299||Nat.beq s 1100166070300||Nat.beq s 1374624534527||Nat.beq s 1375043964976||Nat.beq s 1375043965007||Nat.beq s 1375043965019||Nat.beq s 1375043969023||Nat.beq s 17302268811638194237||Nat.beq s 17302268811638194238||Nat.beq s 17302268811638194239||Nat.beq s 17302268812275732497||Nat.beq s 17302268812275736575||Nat.beq s 17302268812963606527||Nat.beq s 23069409609462825021||Nat.beq s 23069409609462825022||Nat.beq s 23069409609462825023||Nat.beq s 23069409610100363281||Nat.beq s 23069409610100367359||Nat.beq s 23069409610788237311||Nat.beq s 1000000000000000000000000127036}
noncomputable def QH:fR:=[]
noncomputable def bR:fR:=[]
noncomputable def QK:fR:=(102,cT)::QH
noncomputable def QN:fR:=(101,gz)::QK
noncomputable def L5:fR:=(100,bm)::QN
noncomputable def QI:fR:=(24,gO)::L5
noncomputable def QL:fR:=(25,fP)::QI
noncomputable def QO:fR:=(23,fE)::QL
noncomputable def QP:fR:=(90,jT)::QO
noncomputable def QJ:fR:=(77,dw)::QP
noncomputable def QM:fR:=(94,e8)::QJ
noncomputable def Ji:fR:=(93,dY)::QM
noncomputable def Jx:fR:=(50,gy)::Ji
noncomputable def IL:fR:=(49,du)::Jx
noncomputable def I4:fR:=(48,bG)::IL
noncomputable def Jj:fR:=(51,dS)::I4
noncomputable def Jy:fR:=(52,fl)::Jj
noncomputable def IM:fR:=(27,cL)::Jy
noncomputable def I5:fR:=(79,eT)::IM
noncomputable def Jk:fR:=(43,aP)::I5
noncomputable def Jz:fR:=(78,bT)::Jk
noncomputable def IP:fR:=(45,cv)::Jz
noncomputable def I6:fR:=(121,cA)::IP
noncomputable def Jl:fR:=(107,ez)::I6
noncomputable def JA:fR:=(123,dX)::Jl
noncomputable def IQ:fR:=(131,ay)::JA
noncomputable def I7:fR:=(110,dr)::IQ
noncomputable def Jm:fR:=(109,dA)::I7
noncomputable def JB:fR:=(108,c7)::Jm
noncomputable def IU:fR:=(103,dO)::JB
noncomputable def I8:fR:=(97,cu)::IU
noncomputable def Jn:fR:=(92,cZ)::I8
noncomputable def JC:fR:=(91,ey)::Jn
noncomputable def IV:fR:=(81,dq)::JC
noncomputable def I9:fR:=(47,bE)::IV
noncomputable def Jo:fR:=(44,dp)::I9
noncomputable def JD:fR:=(42,cK)::Jo
noncomputable def IW:fR:=(80,bq)::JD
noncomputable def Ja:fR:=(46,db)::IW
noncomputable def Jp:fR:=(76,gN)::Ja
noncomputable def JE:fR:=(41,fO)::Jp
noncomputable def IX:fR:=(40,gx)::JE
noncomputable def pX:fR:=(26,dW)::IX
noncomputable def Jq:fR:=(58,cz)::bR
noncomputable def JF:fR:=(57,bF)::Jq
noncomputable def IY:fR:=(56,cy)::JF
noncomputable def Jb:fR:=(59,bM)::IY
noncomputable def Jr:fR:=(54,cg)::Jb
noncomputable def JG:fR:=(55,cP)::Jr
noncomputable def Ee:fR:=(53,cw)::JG
noncomputable def Eg:fR:=(12,br)::pX
noncomputable def eL:fR:=(82,dc)::Ee
noncomputable def JH:fR:=(85,bO)::Eg
noncomputable def IZ:fR:=(20,e9)::JH
noncomputable def Jc:fR:=(15,aY)::IZ
noncomputable def Js:fR:=(75,ca)::Jc
noncomputable def JI:fR:=(39,fk)::Js
noncomputable def Ef:fR:=(22,bV)::JI
noncomputable def Jd:fR:=(11,c9)::Ef
noncomputable def Jt:fR:=(86,dZ)::Jd
noncomputable def JJ:fR:=(87,bC)::Jt
noncomputable def I0:fR:=(74,js)::JJ
noncomputable def Je:fR:=(88,jx)::I0
noncomputable def Ju:fR:=(72,lf)::Je
noncomputable def JK:fR:=(96,fe)::Ju
noncomputable def I1:fR:=(89,fo)::JK
noncomputable def Jf:fR:=(73,ju)::I1
noncomputable def Jv:fR:=(70,iH)::Jf
noncomputable def JL:fR:=(34,jt)::Jv
noncomputable def I2:fR:=(71,mz)::JL
noncomputable def Jg:fR:=(69,jr)::I2
noncomputable def Jw:fR:=(38,jy)::Jg
noncomputable def JM:fR:=(19,jz)::Jw
noncomputable def I3:fR:=(10,jA)::JM
noncomputable def Jh:fR:=(13,iK)::I3
noncomputable def Rk:fR:=(3,dR)::Jh
end Go.Proofs.YtcmhmlnkhmefbaaGreat
