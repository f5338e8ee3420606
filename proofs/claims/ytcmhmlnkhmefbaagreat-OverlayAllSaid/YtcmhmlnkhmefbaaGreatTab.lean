import Derived.Test.YtcmhmlnkhmefbaaGreatProg
import Derived.Test.YtcmhmlnkhmefbaaGreatAbSeat
import Derived.Test.YtcmhmlnkhmefbaaGreatSh3
import Derived.KernelRfl
namespace Go.Proofs.YtcmhmlnkhmefbaaGreat
open Go.Ab
set_option maxRecDepth 100000
def I6:eO:={ay:=[(3,.int .i64),(6,.rs 1),(7,.int .i64),(8,.int .i64)],bB:=[]}
def MT:eO:={ay:=[(0,.rs 5),(1,.int .i64),(2,.int .i64),(3,.int .i64),(21,.int .i64),(22,.int .i64)],bB:=[]}
def MU:eO:={ay:=[(3,.int .i64),(6,.rs 5),(7,.int .i64),(8,.int .i64)],bB:=[]}
def MV:eO:={ay:=[(0,.str),(3,.int .i64)],bB:=[]}
def MW:eO:={ay:=[(0,.raw),(2,.int .i64),(7,.int .i64),(8,.bool)],bB:=[]}
def MX:eO:={ay:=[(1,.own (.op 184321 0)),(2,.own (.op 184322 0)),(3,.own (.om 184338)),(4,.own (.om 184339)),(5,.own (.om 184340)),(22,.rs 5),(23,.int .i64),(24,.int .i64)],bB:=[(184321,.box [.rs 4,.rs 3,.rs 8,.rs 5,.rs 4,.rs 6,.int .i64,.int .i64,.int .i64]),(184322,.box [.int .i64,.int .i64,.int .i64]),(184338,.map 3),(184339,.map 3),(184340,.map 131)]}
def I7:eO:={ay:=[(2,.rs 1),(7,.own (.fn 121 [.op 438275 0])),(22,.rs 3),(23,.int .i64),(24,.int .i64)],bB:=[(438275,.box [.int .i64])]}
def GH:eO:={ay:=[(7,.own (.fn 121 [.op 438275 0])),(47,.rs 1),(48,.int .i64),(49,.int .i64)],bB:=[(438275,.box [.int .i64])]}
def I8:eO:={ay:=[(1,.raw),(2,.int .i64),(7,.own (.os 450575)),(17,.int .i64),(18,.int .i64)],bB:=[(450575,.arr 3 181)]}
def xd:eO:={ay:=[(0,.own (.op 7559595925511 0)),(4,.int .i64),(55,.raw),(61,.own (.os 450575)),(63,.own (.op 7559595925511 0))],bB:=[(7559595925511,.box [.own (.fn 123 []),.own (.os 3213876088517980551083924184682325205044405987573145266528263),.int .i64]),(450575,.arr 3 181),(3213876088517980551083924184682325205044405987573145266528263,.arr 4 198)]}
def I9:eO:={ay:=[(1,.raw),(7,.own (.os 450575)),(9,.own (.op 7559595925511 0))],bB:=[(450575,.arr 3 181),(7559595925511,.box [.own (.fn 123 []),.own (.os 3213876088517980551083924184682325205044405987573145266528263),.int .i64]),(3213876088517980551083924184682325205044405987573145266528263,.arr 4 198)]}
def qp:eO:={ay:=[(0,.own (.op 7559595925511 0)),(2,.int .i64),(43,.own (.op 7559713378306 0)),(45,.own (.op 7559713378308 0)),(78,.raw),(84,.own (.os 450575)),(86,.own (.op 7559595925511 0))],bB:=[(7559595925511,.box [.own (.fn 123 []),.own (.os 3213876088517980551083924184682325205044405987573145266528263),.int .i64]),(7559713378306,.box [.int .i64,.int .i64,.int .i64]),(7559713378308,.box [.raw,.raw,.raw]),(450575,.arr 3 181),(3213876088517980551083924184682325205044405987573145266528263,.arr 4 198)],ct:=[(7559595925511,1)]}
def GI:eO:={ay:=[(1,.raw),(7,.own (.os 450575)),(9,.own (.op 7559595925511 0)),(10,.own (.op 450570 0)),(55,.rs 0),(56,.int .i64),(57,.int .i64)],bB:=[(450575,.arr 3 181),(7559595925511,.box [.own (.fn 123 []),.own (.os 3213876088517980551083924184682325205044405987573145266528263),.int .i64]),(450570,.box [.raw,.raw,.raw]),(3213876088517980551083924184682325205044405987573145266528263,.arr 4 198)]}
def GJ:eO:={ay:=[(1,.raw),(7,.own (.os 450575)),(9,.own (.op 7559595925511 0)),(10,.own (.op 450570 0)),(55,.rs 3),(56,.int .i64),(57,.int .i64)],bB:=[(450575,.arr 3 181),(7559595925511,.box [.own (.fn 123 []),.own (.os 3213876088517980551083924184682325205044405987573145266528263),.int .i64]),(450570,.box [.raw,.raw,.raw]),(3213876088517980551083924184682325205044405987573145266528263,.arr 4 198)]}
def xe:eO:={ay:=[(0,.own (.op 7559595925511 0)),(4,.int .i64),(55,.raw),(61,.own (.os 450575)),(63,.own (.op 7559595925511 0)),(64,.own (.op 450570 0)),(109,.rs 3),(110,.int .i64),(111,.int .i64)],bB:=[(7559595925511,.box [.own (.fn 123 []),.own (.os 3213876088517980551083924184682325205044405987573145266528263),.int .i64]),(450575,.arr 3 181),(450570,.box [.raw,.raw,.raw]),(3213876088517980551083924184682325205044405987573145266528263,.arr 4 198)]}
def Ja:eO:={ay:=[(3,.own (.os 446472)),(9,.rs 3),(10,.int .i64),(11,.int .i64)],bB:=[(446472,.arr 1 3)]}
def Jb:eO:={ay:=[(1,.bool),(5,.own (.om 442376)),(9,.rs 3),(10,.int .i64),(11,.int .i64)],bB:=[(442376,.e8 3 157)]}
def Jc:eO:={ay:=[(0,.int .i64),(7,.raw),(8,.own (.os 421907)),(21,.int .i64),(22,.int .i64)],bB:=[(421907,.arr 1 52)]}
def MY:eO:={ay:=[(1,.int .i64),(2,.bool),(7,.own (.om 397330)),(19,.rs 4),(20,.int .i64),(21,.int .i64)],bB:=[(397330,.map 148)]}
def Jd:eO:={ay:=[(1,.int .i64),(13,.own (.os 397369)),(59,.own (.it 397371))],bB:=[(397369,.arr 3 157),(397371,.iter 154)]}
def MZ:eO:={ay:=[(5,.rs 1),(6,.rs 1),(7,.own (.op 376839 0)),(8,.own (.fn 98 [.op 376839 0])),(21,.int .i64),(22,.int .i64)],bB:=[(376839,.box [.own (.os 1606938044258990275541962092341162602522202993782792835678215)]),(1606938044258990275541962092341162602522202993782792835678215,.arr 4 83)]}
def M0:eO:={ay:=[(5,.rs 1),(6,.rs 1),(7,.own (.op 376839 0)),(8,.own (.fn 98 [.op 376839 0])),(9,.int .i64),(21,.int .i64),(22,.int .i64),(28,.rs 1),(29,.int .i64),(30,.int .i64)],bB:=[(376839,.box [.own (.os 1606938044258990275541962092341162602522202993782792835678215)]),(1606938044258990275541962092341162602522202993782792835678215,.arr 4 83)]}
def M1:eO:={ay:=[(1,.int .i64),(6,.own (.om 372746)),(11,.rs 4),(12,.int .i64),(13,.int .i64)],bB:=[(372746,.map 148)]}
def Je:eO:={ay:=[(0,.rs 4),(7,.rs 4),(29,.int .i64),(30,.int .i64)],bB:=[]}
def M3:eO:={ay:=[(1,.own (.op 192513 0)),(2,.own (.op 192514 0)),(3,.own (.om 192519)),(9,.rs 4),(10,.int .i64),(11,.int .i64)],bB:=[(192513,.box [.rs 4,.rs 3,.rs 8,.rs 5,.rs 4,.rs 6,.int .i64,.int .i64,.int .i64]),(192514,.box [.int .i64,.int .i64,.int .i64]),(192519,.map 83)]}
def M4:eO:={ay:=[(1,.own (.op 180225 0)),(2,.own (.op 180226 0)),(3,.own (.om 180238)),(16,.rs 8),(17,.int .i64),(18,.int .i64)],bB:=[(180225,.box [.rs 4,.rs 3,.rs 8,.rs 5,.rs 4,.rs 6,.int .i64,.int .i64,.int .i64]),(180226,.box [.int .i64,.int .i64,.int .i64]),(180238,.map 126)]}
def M5:eO:={ay:=[(2,.own (.op 172034 0)),(5,.rs 3),(6,.int .i64),(7,.int .i64)],bB:=[(172034,.box [.int .i64,.int .i64,.int .i64])]}
def M6:eO:={ay:=[(4,.own (.om 188443)),(29,.rs 6),(30,.int .i64),(31,.int .i64)],bB:=[(188443,.map 9)]}
def M7:eO:={ay:=[(4,.own (.om 167946)),(11,.rs 3),(12,.int .i64),(13,.int .i64)],bB:=[(167946,.map 9)]}
def M8:eO:={ay:=[(4,.own (.om 163850)),(11,.rs 4),(12,.int .i64),(13,.int .i64)],bB:=[(163850,.map 9)]}
def M9:eO:={ay:=[(3,.own (.op 49155 0)),(9,.rs 8),(10,.int .i64),(11,.int .i64)],bB:=[(49155,.box [.int .i64,.int .i64,.int .i64,.int .i64,.int .i64,.str,.int .i64,.int .i64,.int .i64,.int .i64,.int .i64,.bool,.rs 5])]}
def yw:eO:={ay:=[(1,.own (.op 1374624530433 0)),(2,.own (.op 1374624530434 0)),(3,.own (.op 1374624530435 0)),(25,.int .i64),(26,.int .i64),(50,.rs 13),(51,.own (.op 81922 0)),(53,.own (.op 81924 0))],bB:=[(1374624530433,.box [.rs 4,.rs 3,.rs 8,.rs 5,.rs 4,.rs 6,.int .i64,.int .i64,.int .i64]),(1374624530434,.box [.own .bf,.own .bf,.own .bf,.own .bf,.own .bf,.own .bf,.int .i64,.int .i64,.int .i64]),(1374624530435,.box [.own (.os 1374624530439),.own (.os 1374624530442),.own (.os 1374624530445),.own (.os 1374624530448),.own (.os 1374624530451),.rs 6,.int .i64,.int .i64,.int .i64]),(81922,.box [.rs 4,.rs 3,.rs 8,.rs 5,.rs 4,.rs 6,.int .i64,.int .i64,.int .i64]),(81924,.box [.own .bf,.own .bf,.own .bf,.own .bf,.own .bf,.own .bf,.int .i64,.int .i64,.int .i64]),(1374624530439,.arr 4 77),(1374624530442,.arr 3 79),(1374624530445,.nest 8 59),(1374624530448,.arr 5 81),(1374624530451,.arr 4 83)],nz:=[1374624530445]}
def Na:eO:={ay:=[(1,.rs 13),(4,.own (.op 81924 0)),(6,.own (.op 81926 0)),(9,.int .i64),(10,.own (.os 81930)),(22,.int .i64),(23,.int .i64)],bB:=[(81924,.box [.own .bf,.own .bf,.own .bf,.own .bf,.own .bf,.own .bf,.int .i64,.int .i64,.int .i64]),(81926,.box [.own (.os 1374624530439),.own (.os 1374624530442),.own (.os 1374624530445),.own (.os 1374624530448),.own (.os 1374624530451),.own (.os 1374624530477),.int .i64,.int .i64,.int .i64]),(81930,.arr 1 42),(1374624530439,.arr 4 77),(1374624530442,.arr 3 79),(1374624530445,.nest 8 59),(1374624530448,.arr 5 81),(1374624530451,.arr 4 83),(1374624530477,.arr 6 110)],ct:=[(81926,3)]}
def mb:eO:={ay:=[(0,.row 1374624530445 7),(1,.int .i64),(8,.own (.os 387040468021129576528031779)),(10,.int .i64),(57,.int .i64),(58,.int .i64),(112,.own (.op 81926 0)),(114,.int .i64),(251,.rs 13),(254,.own (.op 81924 0)),(256,.own (.op 81926 0)),(259,.int .i64),(260,.own (.os 81930)),(272,.int .i64),(273,.int .i64)],bB:=[(1374624530445,.nest 8 59),(387040468021129576528031779,.arr 5 64),(81926,.box [.own (.os 1374624530439),.own (.os 1374624530442),.own (.os 1374624530445),.own (.os 1374624530448),.own (.os 1374624530451),.own (.os 1374624530477),.int .i64,.int .i64,.int .i64]),(81924,.box [.own .bf,.own .bf,.own .bf,.own .bf,.own .bf,.own .bf,.int .i64,.int .i64,.int .i64]),(81930,.arr 1 42),(1374624530439,.arr 4 77),(1374624530442,.arr 3 79),(1374624530448,.arr 5 81),(1374624530451,.arr 4 83),(1374624530477,.arr 6 110)]}
def iN:eO:={ay:=[(0,.own (.os 1374624530448)),(1,.own (.fn 85 [.op 23069409610788233221 0])),(7,.int .i64),(8,.int .i64),(19,.own (.os 1374624530448)),(20,.own (.fn 85 [.op 23069409610788233221 0])),(94,.own (.op 81926 0)),(206,.rs 13),(209,.own (.op 81924 0)),(211,.own (.op 81926 0)),(214,.int .i64),(215,.own (.os 81930)),(227,.int .i64),(228,.int .i64)],bB:=[(1374624530448,.arr 5 81),(23069409610788233221,.box [.int .i64]),(81926,.box [.own (.os 1374624530439),.own (.os 1374624530442),.own (.os 1374624530445),.own (.os 1374624530448),.own (.os 1374624530451),.own (.os 1374624530477),.int .i64,.int .i64,.int .i64]),(81924,.box [.own .bf,.own .bf,.own .bf,.own .bf,.own .bf,.own .bf,.int .i64,.int .i64,.int .i64]),(81930,.arr 1 42),(1374624530439,.arr 4 77),(1374624530442,.arr 3 79),(1374624530445,.nest 8 59),(1374624530451,.arr 4 83),(1374624530477,.arr 6 110)]}
def me:eO:={ay:=[(0,.own (.os 1374624530448)),(1,.own (.fn 85 [.op 23069409610788233221 0])),(5,.int .i64),(6,.int .i64),(75,.own (.op 81926 0)),(187,.rs 13),(190,.own (.op 81924 0)),(192,.own (.op 81926 0)),(195,.int .i64),(196,.own (.os 81930)),(208,.int .i64),(209,.int .i64)],bB:=[(1374624530448,.arr 5 81),(23069409610788233221,.box [.int .i64]),(81926,.box [.own (.os 1374624530439),.own (.os 1374624530442),.own (.os 1374624530445),.own (.os 1374624530448),.own (.os 1374624530451),.own (.os 1374624530477),.int .i64,.int .i64,.int .i64]),(81924,.box [.own .bf,.own .bf,.own .bf,.own .bf,.own .bf,.own .bf,.int .i64,.int .i64,.int .i64]),(81930,.arr 1 42),(1374624530439,.arr 4 77),(1374624530442,.arr 3 79),(1374624530445,.nest 8 59),(1374624530451,.arr 4 83),(1374624530477,.arr 6 110)]}
def yy:eO:={ay:=[(1,.own (.op 1031262027777 0)),(2,.own (.op 1031262027778 0)),(3,.own (.op 1031262027779 0)),(25,.int .i64),(26,.int .i64),(52,.own (.op 61443 0)),(53,.own (.op 61444 0))],bB:=[(1031262027777,.box [.rs 4,.rs 3,.rs 8,.rs 5,.rs 4,.rs 6,.int .i64,.int .i64,.int .i64]),(1031262027778,.box [.own .bf,.own .bf,.own .bf,.own .bf,.own .bf,.own .bf,.int .i64,.int .i64,.int .i64]),(1031262027779,.box [.own (.os 1031262027783),.own (.os 1031262027786),.own (.os 1031262027789),.own (.os 1031262027792),.own (.os 1031262027795),.rs 6,.int .i64,.int .i64,.int .i64]),(61443,.box [.int .i64,.int .i64,.int .i64,.int .i64,.int .i64,.str,.int .i64,.int .i64,.int .i64,.int .i64,.int .i64,.bool,.rs 5]),(61444,.box [.own .bf,.own .bf,.own .bf,.own .bf,.own .bf,.own .bf,.int .i64,.int .i64,.int .i64]),(1031262027783,.arr 4 77),(1031262027786,.arr 3 79),(1031262027789,.nest 8 59),(1031262027792,.arr 5 81),(1031262027795,.arr 4 83)],nz:=[1031262027789]}
def mc:eO:={ay:=[(0,.row 1031262027789 7),(1,.int .i64),(8,.own (.os 290283901153613415744614435)),(10,.int .i64),(57,.int .i64),(58,.int .i64),(112,.own (.op 61450 0)),(114,.int .i64),(254,.own (.op 61444 0)),(260,.own (.op 61450 0))],bB:=[(1031262027789,.nest 8 59),(290283901153613415744614435,.arr 5 64),(61450,.box [.own (.os 1031262027783),.own (.os 1031262027786),.own (.os 1031262027789),.own (.os 1031262027792),.own (.os 1031262027795),.own (.os 1031262027821),.int .i64,.int .i64,.int .i64]),(61444,.box [.own .bf,.own .bf,.own .bf,.own .bf,.own .bf,.own .bf,.int .i64,.int .i64,.int .i64]),(1031262027783,.arr 4 77),(1031262027786,.arr 3 79),(1031262027792,.arr 5 81),(1031262027795,.arr 4 83),(1031262027821,.arr 6 110)]}
def iO:eO:={ay:=[(0,.own (.os 1031262027792)),(1,.own (.fn 85 [.op 17302268812963602437 0])),(7,.int .i64),(8,.int .i64),(19,.own (.os 1031262027792)),(20,.own (.fn 85 [.op 17302268812963602437 0])),(94,.own (.op 61450 0)),(209,.own (.op 61444 0)),(215,.own (.op 61450 0))],bB:=[(1031262027792,.arr 5 81),(17302268812963602437,.box [.int .i64]),(61450,.box [.own (.os 1031262027783),.own (.os 1031262027786),.own (.os 1031262027789),.own (.os 1031262027792),.own (.os 1031262027795),.own (.os 1031262027821),.int .i64,.int .i64,.int .i64]),(61444,.box [.own .bf,.own .bf,.own .bf,.own .bf,.own .bf,.own .bf,.int .i64,.int .i64,.int .i64]),(1031262027783,.arr 4 77),(1031262027786,.arr 3 79),(1031262027789,.nest 8 59),(1031262027795,.arr 4 83),(1031262027821,.arr 6 110)]}
def mf:eO:={ay:=[(0,.own (.os 1031262027792)),(1,.own (.fn 85 [.op 17302268812963602437 0])),(5,.int .i64),(6,.int .i64),(75,.own (.op 61450 0)),(190,.own (.op 61444 0)),(196,.own (.op 61450 0))],bB:=[(1031262027792,.arr 5 81),(17302268812963602437,.box [.int .i64]),(61450,.box [.own (.os 1031262027783),.own (.os 1031262027786),.own (.os 1031262027789),.own (.os 1031262027792),.own (.os 1031262027795),.own (.os 1031262027821),.int .i64,.int .i64,.int .i64]),(61444,.box [.own .bf,.own .bf,.own .bf,.own .bf,.own .bf,.own .bf,.int .i64,.int .i64,.int .i64]),(1031262027783,.arr 4 77),(1031262027786,.arr 3 79),(1031262027789,.nest 8 59),(1031262027795,.arr 4 83),(1031262027821,.arr 6 110)]}
def Nb:eO:={ay:=[(0,.rs 5),(1,.rs 5),(12,.int .i64),(13,.int .i64)],bB:=[]}
def Nc:eO:={ay:=[(2,.own (.op 90114 0)),(3,.own (.op 90115 0)),(5,.own (.os 90117)),(13,.int .i64),(14,.int .i64)],bB:=[(90114,.box [.rs 4,.rs 3,.rs 8,.rs 5,.rs 4,.rs 6,.int .i64,.int .i64,.int .i64]),(90115,.box [.rs 4,.rs 3,.rs 8,.rs 5,.rs 4,.rs 6,.int .i64,.int .i64,.int .i64]),(90117,.arr 1 3)]}
def Nf:eO:={ay:=[(0,.str),(3,.int .i64)],bB:=[]}
def Ng:eO:={ay:=[(1,.own (.op 303105 0)),(4,.int .i64)],bB:=[(303105,.box [.rs 6,.int .i64,.int .i64,.int .i64])]}
def Jf:eO:={ay:=[(1,.own (.op 303105 0)),(4,.int .i64),(5,.own (.op 303109 0)),(6,.int .i64)],bB:=[(303105,.box [.rs 6,.int .i64,.int .i64,.int .i64]),(303109,.box [.raw,.raw,.raw,.raw,.raw,.raw])]}
def Nh:eO:={ay:=[(1,.int .i64),(2,.int .i64),(3,.int .i64),(4,.own (.op 360452 0)),(9,.int .i64)],bB:=[(360452,.box [.rs 4,.rs 3,.rs 8,.rs 5,.rs 4,.rs 6,.int .i64,.int .i64,.int .i64])]}
def Ni:eO:={ay:=[(1,.int .i64),(2,.int .i64),(3,.int .i64),(4,.own (.op 360452 0)),(9,.int .i64),(10,.int .i64),(11,.int .i64)],bB:=[(360452,.box [.rs 4,.rs 3,.rs 8,.rs 5,.rs 4,.rs 6,.int .i64,.int .i64,.int .i64])]}
def Jg:eO:={ay:=[(1,.int .i64),(2,.own (.op 294914 0)),(5,.own (.op 294917 0)),(8,.int .i64)],bB:=[(294914,.box [.rs 4,.rs 3,.rs 8,.rs 5,.rs 4,.rs 6,.int .i64,.int .i64,.int .i64]),(294917,.box [.raw,.raw,.raw,.raw,.raw])]}
def Jh:eO:={ay:=[(1,.int .i64),(2,.own (.op 294914 0)),(5,.own (.op 294917 0)),(10,.int .i64)],bB:=[(294914,.box [.rs 4,.rs 3,.rs 8,.rs 5,.rs 4,.rs 6,.int .i64,.int .i64,.int .i64]),(294917,.box [.raw,.raw,.raw,.raw,.raw])]}
def Nj:eO:={ay:=[(0,.rs 4),(1,.int .i64),(2,.bool),(7,.own (.os 393232)),(8,.int .i64)],bB:=[(393232,.nest 1 52)],nz:=[393232]}
def Nk:eO:={ay:=[(0,.rs 4),(1,.int .i64),(2,.bool),(7,.own (.os 393232)),(8,.int .i64),(9,.own (.os 393238)),(10,.int .i64)],bB:=[(393232,.nest 1 52),(393238,.arr 1 3)],nz:=[393232]}
def Ji:eO:={ay:=[(0,.rs 4),(1,.int .i64),(2,.bool),(7,.own (.os 393232)),(11,.int .i64)],bB:=[(393232,.nest 1 52)],nz:=[393232]}
def Jj:eO:={ay:=[(1,.int .i64),(7,.own (.os 393232)),(13,.int .i64)],bB:=[(393232,.nest 1 52)],nz:=[393232]}
def Jk:eO:={ay:=[(1,.int .i64),(7,.own (.os 393232)),(13,.int .i64),(14,.int .i64)],bB:=[(393232,.nest 1 52)],nz:=[393232]}
def Jl:eO:={ay:=[(1,.int .i64),(7,.own (.os 393232)),(13,.int .i64),(14,.int .i64),(15,.int .i64)],bB:=[(393232,.nest 1 52)],nz:=[393232]}
def Nl:eO:={ay:=[(1,.int .i64),(5,.rs 1),(6,.rs 1),(7,.own (.os 364560)),(8,.int .i64)],bB:=[(364560,.arr 4 83)]}
def Nn:eO:={ay:=[(1,.int .i64),(5,.rs 1),(6,.rs 1),(7,.own (.os 364560)),(8,.int .i64),(9,.int .i64)],bB:=[(364560,.arr 4 83)]}
def Np:eO:={ay:=[(1,.own (.op 299009 0)),(4,.int .i64)],bB:=[(299009,.box [.rs 4,.rs 3,.rs 8,.rs 5,.rs 4,.rs 6,.int .i64,.int .i64,.int .i64])]}
def Jm:eO:={ay:=[(1,.own (.op 299009 0)),(4,.int .i64),(5,.own (.op 299013 0)),(6,.int .i64)],bB:=[(299009,.box [.rs 4,.rs 3,.rs 8,.rs 5,.rs 4,.rs 6,.int .i64,.int .i64,.int .i64]),(299013,.box [.raw,.raw,.raw,.raw])]}
def Jn:eO:={ay:=[(1,.own (.op 299009 0)),(8,.rs 4),(9,.int .i64)],bB:=[(299009,.box [.rs 4,.rs 3,.rs 8,.rs 5,.rs 4,.rs 6,.int .i64,.int .i64,.int .i64])]}
def Nq:eO:={ay:=[(0,.rs 3),(4,.int .i64)],bB:=[]}
def Nr:eO:={ay:=[(0,.rs 3),(4,.int .i64),(5,.int .i64)],bB:=[]}
def Ns:eO:={ay:=[(0,.rs 5),(1,.int .i64),(2,.int .i64),(3,.int .i64),(9,.int .i64)],bB:=[]}
def Jo:eO:={ay:=[(1,.int .i64),(2,.own (.op 290818 0)),(5,.own (.op 290821 0)),(7,.int .i64)],bB:=[(290818,.box [.rs 4,.rs 3,.rs 8,.rs 5,.rs 4,.rs 6,.int .i64,.int .i64,.int .i64]),(290821,.box [.raw,.raw,.raw,.raw,.raw,.raw,.raw,.raw])]}
def Nt:eO:={ay:=[(0,.rs 4),(4,.int .i64)],bB:=[]}
def Nu:eO:={ay:=[(0,.rs 4),(4,.int .i64),(5,.int .i64)],bB:=[]}
def Jp:eO:={ay:=[(1,.own (.op 155649 0)),(7,.int .i64)],bB:=[(155649,.box [.rs 4,.rs 3,.rs 8,.rs 5,.rs 4,.rs 6,.int .i64,.int .i64,.int .i64])]}
def Jq:eO:={ay:=[(1,.own (.op 155649 0)),(8,.int .i64)],bB:=[(155649,.box [.rs 4,.rs 3,.rs 8,.rs 5,.rs 4,.rs 6,.int .i64,.int .i64,.int .i64])]}
def Nv:eO:={ay:=[(1,.own (.op 40961 0)),(3,.int .i64)],bB:=[(40961,.box [.rs 4,.rs 3,.rs 8,.rs 5,.rs 4,.rs 6,.int .i64,.int .i64,.int .i64])]}
def Nx:eO:={ay:=[(2,.own (.op 53250 0)),(3,.own (.op 53251 0)),(5,.int .i64)],bB:=[(53250,.box [.rs 4,.rs 3,.rs 8,.rs 5,.rs 4,.rs 6,.int .i64,.int .i64,.int .i64]),(53251,.box [.int .i64,.int .i64,.int .i64,.int .i64,.int .i64,.str,.int .i64,.int .i64,.int .i64,.int .i64,.int .i64,.bool,.rs 5])]}
def Ny:eO:={ay:=[(2,.own (.op 151554 0)),(3,.own (.op 151555 0)),(5,.int .i64)],bB:=[(151554,.box [.rs 6,.int .i64,.int .i64,.int .i64]),(151555,.box [.rs 6,.int .i64,.int .i64,.int .i64])]}
def Nz:eO:={ay:=[(0,.rs 5),(1,.rs 5),(5,.int .i64)],bB:=[]}
def NA:eO:={ay:=[(0,.rs 8),(1,.rs 8),(5,.int .i64)],bB:=[]}
def NB:eO:={ay:=[(2,.own (.op 69634 0)),(3,.own (.op 69635 0)),(5,.int .i64)],bB:=[(69634,.box [.rs 4,.rs 3,.rs 8,.rs 5,.rs 4,.rs 6,.int .i64,.int .i64,.int .i64]),(69635,.box [.rs 4,.rs 3,.rs 8,.rs 5,.rs 4,.rs 6,.int .i64,.int .i64,.int .i64])]}
def NC:eO:={ay:=[(2,.own (.op 69634 0)),(3,.own (.op 69635 0)),(6,.int .i64)],bB:=[(69634,.box [.rs 4,.rs 3,.rs 8,.rs 5,.rs 4,.rs 6,.int .i64,.int .i64,.int .i64]),(69635,.box [.rs 4,.rs 3,.rs 8,.rs 5,.rs 4,.rs 6,.int .i64,.int .i64,.int .i64])]}
def Jr:eO:={ay:=[(2,.own (.op 69634 0)),(3,.own (.op 69635 0)),(7,.int .i64)],bB:=[(69634,.box [.rs 4,.rs 3,.rs 8,.rs 5,.rs 4,.rs 6,.int .i64,.int .i64,.int .i64]),(69635,.box [.rs 4,.rs 3,.rs 8,.rs 5,.rs 4,.rs 6,.int .i64,.int .i64,.int .i64])]}
def Js:eO:={ay:=[(2,.own (.op 69634 0)),(3,.own (.op 69635 0)),(8,.int .i64)],bB:=[(69634,.box [.rs 4,.rs 3,.rs 8,.rs 5,.rs 4,.rs 6,.int .i64,.int .i64,.int .i64]),(69635,.box [.rs 4,.rs 3,.rs 8,.rs 5,.rs 4,.rs 6,.int .i64,.int .i64,.int .i64])]}
def ND:eO:={ay:=[(0,.rs 5),(3,.int .i64)],bB:=[]}
def Jt:eO:={ay:=[(0,.rs 5),(8,.own (.os 135176)),(9,.int .i64),(10,.int .i64)],bB:=[(135176,.arr 5 64)]}
def NF:eO:={ay:=[(0,.str),(3,.int .i64)],bB:=[]}
def NG:eO:={ay:=[(0,.rs 5),(1,.int .i64),(2,.int .i64),(3,.int .i64),(10,.int .i64)],bB:=[]}
def NH:eO:={ay:=[(0,.rs 8),(3,.own (.os 131075)),(4,.int .i64)],bB:=[(131075,.arr 8 59)]}
def NI:eO:={ay:=[(0,.rs 5),(1,.int .i64),(5,.own (.os 143365)),(6,.int .i64)],bB:=[(143365,.arr 5 81)]}
def yz:eO:={ay:=[(0,.rs 8),(3,.own (.os 1100166070275)),(4,.int .i64),(32,.own (.op 65538 0)),(33,.own (.op 65539 0)),(34,.own (.op 65540 0)),(37,.int .i64),(38,.own (.op 65544 0))],bB:=[(1100166070275,.nest 8 59),(65538,.box [.rs 4,.rs 3,.rs 8,.rs 5,.rs 4,.rs 6,.int .i64,.int .i64,.int .i64]),(65539,.box [.int .i64,.int .i64,.int .i64,.int .i64,.int .i64,.str,.int .i64,.int .i64,.int .i64,.int .i64,.int .i64,.bool,.rs 5]),(65540,.box [.own .bf,.own .bf,.own .bf,.own .bf,.own .bf,.own .bf,.int .i64,.int .i64,.int .i64]),(65544,.box [.rs 4,.rs 3,.rs 8,.rs 5,.rs 4,.rs 6,.int .i64,.int .i64,.int .i64])],nz:=[1100166070275]}
def NJ:eO:={ay:=[(1,.rs 13),(2,.own (.op 86018 0)),(4,.own (.op 86020 0)),(6,.own (.os 86022)),(7,.int .i64)],bB:=[(86018,.box [.raw,.raw,.raw,.raw,.raw,.raw,.raw,.raw,.raw]),(86020,.box [.own .bf,.own .bf,.own .bf,.own .bf,.own .bf,.own .bf,.int .i64,.int .i64,.int .i64]),(86022,.arr 1 3)]}
def Rb:eO:={ay:=[(1,.rs 13),(2,.own (.op 24578 0)),(5,.int .i64)],bB:=[(24578,.box [.rs 4,.rs 3,.rs 8,.rs 5,.rs 4,.rs 6,.int .i64,.int .i64,.int .i64])]}
def NK:eO:={ay:=[(6,.own (.op 24582 0)),(7,.rs 1),(8,.own (.op 24584 0)),(9,.rs 1),(10,.int .i64)],bB:=[(24582,.box [.raw,.raw,.raw,.raw,.raw,.raw,.raw,.raw,.raw]),(24584,.box [.raw,.raw,.raw,.raw,.raw,.raw,.raw,.raw,.raw])]}
def hints(f k:Nat):List eO:=
 bif Nat.beq f 101 then(bif Nat.beq k 3 then[I6]else[])else
 bif Nat.beq f 77 then(bif Nat.beq k 4 then[MT]else[])else
 bif Nat.beq f 93 then(bif Nat.beq k 3 then[MU]else[])else
 bif Nat.beq f 49 then(bif Nat.beq k 2 then[MV]else[])else
 bif Nat.beq f 79 then(bif Nat.beq k 2 then[MW]else[])else
 bif Nat.beq f 45 then(bif Nat.beq k 6 then[MX]else[])else
 bif Nat.beq f 107 then(bif Nat.beq k 7 then[I7]else bif Nat.beq k 15 then[GH]else[])else
 bif Nat.beq f 110 then(bif Nat.beq k 3 then[I8]else bif Nat.beq k 9 then[I9]else bif Nat.beq k 15 then[GI,GJ]else[])else
 bif Nat.beq f 1845620860 then(bif Nat.beq k 5 then[xd]else[])else
 bif Nat.beq f 30964585997672582 then(bif Nat.beq k 1 then[qp]else[])else
 bif Nat.beq f 1845821564 then(bif Nat.beq k 5 then[xe]else[])else
 bif Nat.beq f 109 then(bif Nat.beq k 3 then[Ja]else[])else
 bif Nat.beq f 108 then(bif Nat.beq k 3 then[Jb]else[])else
 bif Nat.beq f 103 then(bif Nat.beq k 7 then[Jc]else[])else
 bif Nat.beq f 97 then(bif Nat.beq k 3 then[MY]else bif Nat.beq k 13 then[Jd]else[])else
 bif Nat.beq f 92 then(bif Nat.beq k 5 then[MZ]else bif Nat.beq k 8 then[M0]else[])else
 bif Nat.beq f 91 then(bif Nat.beq k 3 then[M1]else[])else
 bif Nat.beq f 81 then(bif Nat.beq k 10 then[Je]else[])else
 bif Nat.beq f 47 then(bif Nat.beq k 3 then[M3]else[])else
 bif Nat.beq f 44 then(bif Nat.beq k 5 then[M4]else[])else
 bif Nat.beq f 42 then(bif Nat.beq k 2 then[M5]else[])else
 bif Nat.beq f 46 then(bif Nat.beq k 7 then[M6]else[])else
 bif Nat.beq f 41 then(bif Nat.beq k 5 then[M7]else[])else
 bif Nat.beq f 40 then(bif Nat.beq k 5 then[M8]else[])else
 bif Nat.beq f 12 then(bif Nat.beq k 2 then[M9]else[])else
 bif Nat.beq f 335601692 then(bif Nat.beq k 3 then[yw]else[])else
 bif Nat.beq f 20 then(bif Nat.beq k 5 then[Na]else[])else
 bif Nat.beq f 94492301762971088019539 then(bif Nat.beq k 14 then[mb]else[])else
 bif Nat.beq f 1585317757061816809790923382879 then(bif Nat.beq k 2 then[iN]else[])else
 bif Nat.beq f 94492301765788603412564 then(bif Nat.beq k 5 then[me]else[])else
 bif Nat.beq f 251772956 then(bif Nat.beq k 3 then[yy]else[])else
 bif Nat.beq f 70870093055081400328275 then(bif Nat.beq k 14 then[mc]else[])else
 bif Nat.beq f 1189002859172470615222045941855 then(bif Nat.beq k 2 then[iO]else[])else
 bif Nat.beq f 70870093057898915721300 then(bif Nat.beq k 5 then[mf]else[])else
 bif Nat.beq f 75 then(bif Nat.beq k 4 then[Nb]else[])else
 bif Nat.beq f 22 then(bif Nat.beq k 3 then[Nc]else[])else
 bif Nat.beq f 86 then(bif Nat.beq k 4 then[Nf]else[])else
 bif Nat.beq f 74 then(bif Nat.beq k 6 then[Ng]else bif Nat.beq k 12 then[Jf]else[])else
 bif Nat.beq f 88 then(bif Nat.beq k 2 then[Nh]else bif Nat.beq k 6 then[Ni]else[])else
 bif Nat.beq f 72 then(bif Nat.beq k 12 then[Jg]else bif Nat.beq k 20 then[Jh]else[])else
 bif Nat.beq f 96 then(bif Nat.beq k 3 then[Nj]else bif Nat.beq k 7 then[Nk]else bif Nat.beq k 12 then[Ji]else bif Nat.beq k 18 then[Jj]else bif Nat.beq k 21 then[Jk]else bif Nat.beq k 24 then[Jl]else[])else
 bif Nat.beq f 89 then(bif Nat.beq k 4 then[Nl]else bif Nat.beq k 7 then[Nn]else[])else
 bif Nat.beq f 73 then(bif Nat.beq k 2 then[Np]else bif Nat.beq k 10 then[Jm]else bif Nat.beq k 19 then[Jn]else[])else
 bif Nat.beq f 70 then(bif Nat.beq k 4 then[Nq]else bif Nat.beq k 9 then[Nr]else[])else
 bif Nat.beq f 34 then(bif Nat.beq k 4 then[Ns]else[])else
 bif Nat.beq f 71 then(bif Nat.beq k 14 then[Jo]else[])else
 bif Nat.beq f 69 then(bif Nat.beq k 4 then[Nt]else bif Nat.beq k 9 then[Nu]else[])else
 bif Nat.beq f 38 then(bif Nat.beq k 10 then[Jp]else bif Nat.beq k 18 then[Jq]else[])else
 bif Nat.beq f 10 then(bif Nat.beq k 4 then[Nv]else[])else
 bif Nat.beq f 13 then(bif Nat.beq k 2 then[Nx]else[])else
 bif Nat.beq f 37 then(bif Nat.beq k 4 then[Ny]else[])else
 bif Nat.beq f 68 then(bif Nat.beq k 4 then[Nz]else[])else
 bif Nat.beq f 36 then(bif Nat.beq k 4 then[NA]else[])else
 bif Nat.beq f 17 then(bif Nat.beq k 4 then[NB]else bif Nat.beq k 9 then[NC]else bif Nat.beq k 14 then[Jr]else bif Nat.beq k 19 then[Js]else[])else
 bif Nat.beq f 65 then(bif Nat.beq k 2 then[ND]else[])else
 bif Nat.beq f 33 then(bif Nat.beq k 11 then[Jt]else[])else
 bif Nat.beq f 63 then(bif Nat.beq k 4 then[NF]else[])else
 bif Nat.beq f 64 then(bif Nat.beq k 4 then[NG]else[])else
 bif Nat.beq f 32 then(bif Nat.beq k 3 then[NH]else[])else
 bif Nat.beq f 35 then(bif Nat.beq k 3 then[NI]else[])else
 bif Nat.beq f 268595232 then(bif Nat.beq k 3 then[yz]else[])else
 bif Nat.beq f 21 then(bif Nat.beq k 3 then[NJ]else[])else
 bif Nat.beq f 6 then(bif Nat.beq k 4 then[Rb]else bif Nat.beq k 13 then[NK]else[])else
 []
noncomputable def S0:qj:={P:=Tryz.prog,aH:=fun _=>none,hint:=hints,zy:=fun s=>Nat.beq s 65641||Nat.beq s 65651||Nat.beq s 69631||Nat.beq s 393249||Nat.beq s 393250||Nat.beq s 393271||Nat.beq s 393278||Nat.beq s 393305||Nat.beq s 393310||Nat.beq s 393317||Nat.beq s 393324||Nat.beq s 397311||Nat.beq s 442376||Nat.beq s 442396||Nat.beq s 446463||Nat.beq s 1031262031871||Nat.beq s 1031295586352||Nat.beq s 1031295586383||Nat.beq s 1031295586395||Nat.beq s 1031295590399||Nat.beq s 1100166070299||Nat.beq s 1100166070300||Nat.beq s 1374624534527||Nat.beq s 1375043964976||Nat.beq s 1375043965007||Nat.beq s 1375043965019||Nat.beq s 1375043969023||Nat.beq s 17302268811638194237||Nat.beq s 17302268811638194238||Nat.beq s 17302268811638194239||Nat.beq s 17302268812275732497||Nat.beq s 17302268812275736575||Nat.beq s 17302268812963606527||Nat.beq s 23069409609462825021||Nat.beq s 23069409609462825022||Nat.beq s 23069409609462825023||Nat.beq s 23069409610100363281||Nat.beq s 23069409610100367359||Nat.beq s 23069409610788237311||Nat.beq s 1000000000000000000000000127036}
noncomputable def V5(g:Nat):Option (List PV→Option PV):=bif Nat.beq g 100 then some bt else none
noncomputable def S:qj:={P:=Tryz.prog,aH:=fun _=>none,hint:=hints,Kr:=fun g=>bif Nat.beq g 99 then some (vE 4 V5)else none,zy:=fun s=>Nat.beq s 65641||Nat.beq s 65651||Nat.beq s 69631||Nat.beq s 393249||Nat.beq s 393250||Nat.beq s 393271||Nat.beq s 393278||Nat.beq s 393305||Nat.beq s 393310||Nat.beq s 393317||Nat.beq s 393324||Nat.beq s 397311||Nat.beq s 442376||Nat.beq s 442396||Nat.beq s 446463||Nat.beq s 1031262031871||Nat.beq s 1031295586352||Nat.beq s 1031295586383||Nat.beq s 1031295586395||Nat.beq s 1031295590399||Nat.beq s 1100166070299||Nat.beq s 1100166070300||Nat.beq s 1374624534527||Nat.beq s 1375043964976||Nat.beq s 1375043965007||Nat.beq s 1375043965019||Nat.beq s 1375043969023||Nat.beq s 17302268811638194237||Nat.beq s 17302268811638194238||Nat.beq s 17302268811638194239||Nat.beq s 17302268812275732497||Nat.beq s 17302268812275736575||Nat.beq s 17302268812963606527||Nat.beq s 23069409609462825021||Nat.beq s 23069409609462825022||Nat.beq s 23069409609462825023||Nat.beq s 23069409610100363281||Nat.beq s 23069409610100367359||Nat.beq s 23069409610788237311||Nat.beq s 1000000000000000000000000127036}
noncomputable def S9:eW:=[]
noncomputable def bR:eW:=[]
noncomputable def Tc:eW:=(102,cS)::S9
noncomputable def Tf:eW:=(101,gN)::Tc
noncomputable def Ow:eW:=(100,bt)::Tf
noncomputable def Ta:eW:=(24,ir)::Ow
noncomputable def Td:eW:=(25,fY)::Ta
noncomputable def Tg:eW:=(23,fK)::Td
noncomputable def Th:eW:=(90,ku)::Tg
noncomputable def Tb:eW:=(77,dw)::Th
noncomputable def Te:eW:=(94,fi)::Tb
noncomputable def K4:eW:=(93,ef)::Te
noncomputable def Lo:eW:=(50,gM)::K4
noncomputable def Kt:eW:=(49,dv)::Lo
noncomputable def KL:eW:=(48,bJ)::Kt
noncomputable def K5:eW:=(51,dW)::KL
noncomputable def Lp:eW:=(52,fy)::K5
noncomputable def Ku:eW:=(27,cJ)::Lp
noncomputable def KM:eW:=(79,eX)::Ku
noncomputable def K6:eW:=(43,aV)::KM
noncomputable def Lq:eW:=(78,bT)::K6
noncomputable def Kv:eW:=(45,cv)::Lq
noncomputable def KN:eW:=(121,cB)::Kv
noncomputable def K7:eW:=(107,eA)::KN
noncomputable def Lr:eW:=(123,ee)::K7
noncomputable def Kw:eW:=(131,aD)::Lr
noncomputable def KO:eW:=(110,dr)::Kw
noncomputable def K8:eW:=(109,dA)::KO
noncomputable def Lt:eW:=(108,c8)::K8
noncomputable def Kx:eW:=(103,dR)::Lt
noncomputable def KP:eW:=(97,cu)::Kx
noncomputable def K9:eW:=(92,c7)::KP
noncomputable def Lu:eW:=(91,ez)::K9
noncomputable def Ky:eW:=(81,dq)::Lu
noncomputable def KQ:eW:=(47,bG)::Ky
noncomputable def La:eW:=(44,dp)::KQ
noncomputable def Lv:eW:=(42,cH)::La
noncomputable def Kz:eW:=(80,bw)::Lv
noncomputable def KS:eW:=(46,db)::Kz
noncomputable def Lb:eW:=(76,iq)::KS
noncomputable def Lw:eW:=(41,fX)::Lb
noncomputable def KA:eW:=(40,gL)::Lw
noncomputable def qX:eW:=(26,ec)::KA
noncomputable def Lc:eW:=(58,cz)::bR
noncomputable def Lx:eW:=(57,bH)::Lc
noncomputable def KB:eW:=(56,cy)::Lx
noncomputable def KT:eW:=(59,bN)::KB
noncomputable def Ld:eW:=(54,ck)::KT
noncomputable def Ly:eW:=(55,cO)::Ld
noncomputable def FN:eW:=(53,cw)::Ly
noncomputable def FP:eW:=(12,bK)::qX
noncomputable def bX:eW:=(82,dc)::FN
noncomputable def Lz:eW:=(85,bP)::FP
noncomputable def KC:eW:=(20,dN)::Lz
noncomputable def KU:eW:=(15,bl)::KC
noncomputable def Le:eW:=(75,cj)::KU
noncomputable def LA:eW:=(39,fx)::Le
noncomputable def FO:eW:=(22,bY)::LA
noncomputable def KV:eW:=(11,da)::FO
noncomputable def Lf:eW:=(86,eg)::KV
noncomputable def LB:eW:=(87,bE)::Lf
noncomputable def KD:eW:=(74,jN)::LB
noncomputable def KW:eW:=(88,jQ)::KD
noncomputable def Lg:eW:=(72,lN)::KW
noncomputable def LC:eW:=(96,fk)::Lg
noncomputable def KE:eW:=(89,fB)::LC
noncomputable def KX:eW:=(73,jO)::KE
noncomputable def Lh:eW:=(70,iZ)::KX
noncomputable def LD:eW:=(34,cq)::Lh
noncomputable def KF:eW:=(71,nj)::LD
noncomputable def KY:eW:=(69,jM)::KF
noncomputable def Li:eW:=(38,jR)::KY
noncomputable def LF:eW:=(19,iv)::Li
noncomputable def KG:eW:=(10,jS)::LF
noncomputable def Lj:eW:=(13,gz)::KG
noncomputable def LG:eW:=(14,hZ)::Lj
noncomputable def KH:eW:=(37,fS)::LG
noncomputable def KZ:eW:=(68,fR)::KH
noncomputable def Lk:eW:=(36,gv)::KZ
noncomputable def LH:eW:=(17,fj)::Lk
noncomputable def KI:eW:=(67,iw)::LH
noncomputable def K0:eW:=(65,ic)::KI
noncomputable def Ll:eW:=(66,jT)::K0
noncomputable def LI:eW:=(33,fT)::Ll
noncomputable def KJ:eW:=(63,lX)::LI
noncomputable def K1:eW:=(64,jU)::KJ
noncomputable def FQ:eW:=(30,jV)::K1
noncomputable def HP:eW:=(32,gT)::bX
noncomputable def KK:eW:=(31,jW)::FQ
noncomputable def K2:eW:=(35,bU)::KK
noncomputable def K3:eW:=(16,jX)::K2
noncomputable def Ln:eW:=(21,nq)::K3
noncomputable def TO:eW:=(6,fD)::Ln
end Go.Proofs.YtcmhmlnkhmefbaaGreat
