import Derived.Test.YtcmhmlnkhmefbaaGreatProg
import Derived.Test.YtcmhmlnkhmefbaaGreatAbSeat
import Derived.Test.YtcmhmlnkhmefbaaGreatSh3
import Derived.KernelRfl
namespace Go.Proofs.YtcmhmlnkhmefbaaGreat
open Go.Ab
set_option maxRecDepth 100000
def IP:eY:={ay:=[(3,.int .i64),(6,.rs 1),(7,.int .i64),(8,.int .i64)],bE:=[]}
def MD:eY:={ay:=[(0,.rs 5),(1,.int .i64),(2,.int .i64),(3,.int .i64),(21,.int .i64),(22,.int .i64)],bE:=[]}
def ME:eY:={ay:=[(3,.int .i64),(6,.rs 5),(7,.int .i64),(8,.int .i64)],bE:=[]}
def MF:eY:={ay:=[(0,.str),(3,.int .i64)],bE:=[]}
def MG:eY:={ay:=[(0,.raw),(2,.int .i64),(7,.int .i64),(8,.bool)],bE:=[]}
def MH:eY:={ay:=[(1,.own (.op 184321 0)),(2,.own (.op 184322 0)),(3,.own (.om 184338)),(4,.own (.om 184339)),(5,.own (.om 184340)),(22,.rs 5),(23,.int .i64),(24,.int .i64)],bE:=[(184321,.box [.rs 4,.rs 3,.rs 8,.rs 5,.rs 4,.rs 6,.int .i64,.int .i64,.int .i64]),(184322,.box [.int .i64,.int .i64,.int .i64]),(184338,.map 3),(184339,.map 3),(184340,.map 131)]}
def IQ:eY:={ay:=[(2,.rs 1),(7,.own (.fn 121 [.op 438275 0])),(22,.rs 3),(23,.int .i64),(24,.int .i64)],bE:=[(438275,.box [.int .i64])]}
def Gs:eY:={ay:=[(7,.own (.fn 121 [.op 438275 0])),(47,.rs 1),(48,.int .i64),(49,.int .i64)],bE:=[(438275,.box [.int .i64])]}
def IU:eY:={ay:=[(1,.raw),(2,.int .i64),(7,.own (.os 450575)),(17,.int .i64),(18,.int .i64)],bE:=[(450575,.arr 3 181)]}
def xd:eY:={ay:=[(0,.own (.op 7559595925511 0)),(4,.int .i64),(55,.raw),(61,.own (.os 450575)),(63,.own (.op 7559595925511 0))],bE:=[(7559595925511,.box [.own (.fn 123 []),.own (.os 3213876088517980551083924184682325205044405987573145266528263),.int .i64]),(450575,.arr 3 181),(3213876088517980551083924184682325205044405987573145266528263,.arr 4 198)]}
def IV:eY:={ay:=[(1,.raw),(7,.own (.os 450575)),(9,.own (.op 7559595925511 0))],bE:=[(450575,.arr 3 181),(7559595925511,.box [.own (.fn 123 []),.own (.os 3213876088517980551083924184682325205044405987573145266528263),.int .i64]),(3213876088517980551083924184682325205044405987573145266528263,.arr 4 198)]}
def qj:eY:={ay:=[(0,.own (.op 7559595925511 0)),(2,.int .i64),(43,.own (.op 7559713378306 0)),(45,.own (.op 7559713378308 0)),(78,.raw),(84,.own (.os 450575)),(86,.own (.op 7559595925511 0))],bE:=[(7559595925511,.box [.own (.fn 123 []),.own (.os 3213876088517980551083924184682325205044405987573145266528263),.int .i64]),(7559713378306,.box [.int .i64,.int .i64,.int .i64]),(7559713378308,.box [.raw,.raw,.raw]),(450575,.arr 3 181),(3213876088517980551083924184682325205044405987573145266528263,.arr 4 198)],ct:=[(7559595925511,1)]}
def Gt:eY:={ay:=[(1,.raw),(7,.own (.os 450575)),(9,.own (.op 7559595925511 0)),(10,.own (.op 450570 0)),(55,.rs 0),(56,.int .i64),(57,.int .i64)],bE:=[(450575,.arr 3 181),(7559595925511,.box [.own (.fn 123 []),.own (.os 3213876088517980551083924184682325205044405987573145266528263),.int .i64]),(450570,.box [.raw,.raw,.raw]),(3213876088517980551083924184682325205044405987573145266528263,.arr 4 198)]}
def Gu:eY:={ay:=[(1,.raw),(7,.own (.os 450575)),(9,.own (.op 7559595925511 0)),(10,.own (.op 450570 0)),(55,.rs 3),(56,.int .i64),(57,.int .i64)],bE:=[(450575,.arr 3 181),(7559595925511,.box [.own (.fn 123 []),.own (.os 3213876088517980551083924184682325205044405987573145266528263),.int .i64]),(450570,.box [.raw,.raw,.raw]),(3213876088517980551083924184682325205044405987573145266528263,.arr 4 198)]}
def xe:eY:={ay:=[(0,.own (.op 7559595925511 0)),(4,.int .i64),(55,.raw),(61,.own (.os 450575)),(63,.own (.op 7559595925511 0)),(64,.own (.op 450570 0)),(109,.rs 3),(110,.int .i64),(111,.int .i64)],bE:=[(7559595925511,.box [.own (.fn 123 []),.own (.os 3213876088517980551083924184682325205044405987573145266528263),.int .i64]),(450575,.arr 3 181),(450570,.box [.raw,.raw,.raw]),(3213876088517980551083924184682325205044405987573145266528263,.arr 4 198)]}
def IW:eY:={ay:=[(3,.own (.os 446472)),(9,.rs 3),(10,.int .i64),(11,.int .i64)],bE:=[(446472,.arr 1 3)]}
def IX:eY:={ay:=[(1,.bool),(5,.own (.om 442376)),(9,.rs 3),(10,.int .i64),(11,.int .i64)],bE:=[(442376,.e8 3 157)]}
def IY:eY:={ay:=[(0,.int .i64),(7,.raw),(8,.own (.os 421907)),(21,.int .i64),(22,.int .i64)],bE:=[(421907,.arr 1 52)]}
def MI:eY:={ay:=[(1,.int .i64),(2,.bool),(7,.own (.om 397330)),(19,.rs 4),(20,.int .i64),(21,.int .i64)],bE:=[(397330,.map 148)]}
def IZ:eY:={ay:=[(1,.int .i64),(13,.own (.os 397369)),(59,.own (.it 397371))],bE:=[(397369,.arr 3 157),(397371,.iter 154)]}
def MJ:eY:={ay:=[(5,.rs 1),(6,.rs 1),(7,.own (.op 376839 0)),(8,.own (.fn 98 [.op 376839 0])),(21,.int .i64),(22,.int .i64)],bE:=[(376839,.box [.own (.os 1606938044258990275541962092341162602522202993782792835678215)]),(1606938044258990275541962092341162602522202993782792835678215,.arr 4 83)]}
def MK:eY:={ay:=[(5,.rs 1),(6,.rs 1),(7,.own (.op 376839 0)),(8,.own (.fn 98 [.op 376839 0])),(9,.int .i64),(21,.int .i64),(22,.int .i64),(28,.rs 1),(29,.int .i64),(30,.int .i64)],bE:=[(376839,.box [.own (.os 1606938044258990275541962092341162602522202993782792835678215)]),(1606938044258990275541962092341162602522202993782792835678215,.arr 4 83)]}
def ML:eY:={ay:=[(1,.int .i64),(6,.own (.om 372746)),(11,.rs 4),(12,.int .i64),(13,.int .i64)],bE:=[(372746,.map 148)]}
def I0:eY:={ay:=[(0,.rs 4),(7,.rs 4),(29,.int .i64),(30,.int .i64)],bE:=[]}
def MM:eY:={ay:=[(1,.own (.op 192513 0)),(2,.own (.op 192514 0)),(3,.own (.om 192519)),(9,.rs 4),(10,.int .i64),(11,.int .i64)],bE:=[(192513,.box [.rs 4,.rs 3,.rs 8,.rs 5,.rs 4,.rs 6,.int .i64,.int .i64,.int .i64]),(192514,.box [.int .i64,.int .i64,.int .i64]),(192519,.map 83)]}
def MN:eY:={ay:=[(1,.own (.op 180225 0)),(2,.own (.op 180226 0)),(3,.own (.om 180238)),(16,.rs 8),(17,.int .i64),(18,.int .i64)],bE:=[(180225,.box [.rs 4,.rs 3,.rs 8,.rs 5,.rs 4,.rs 6,.int .i64,.int .i64,.int .i64]),(180226,.box [.int .i64,.int .i64,.int .i64]),(180238,.map 126)]}
def MO:eY:={ay:=[(2,.own (.op 172034 0)),(5,.rs 3),(6,.int .i64),(7,.int .i64)],bE:=[(172034,.box [.int .i64,.int .i64,.int .i64])]}
def MP:eY:={ay:=[(4,.own (.om 188443)),(29,.rs 6),(30,.int .i64),(31,.int .i64)],bE:=[(188443,.map 9)]}
def MQ:eY:={ay:=[(4,.own (.om 167946)),(11,.rs 3),(12,.int .i64),(13,.int .i64)],bE:=[(167946,.map 9)]}
def MR:eY:={ay:=[(4,.own (.om 163850)),(11,.rs 4),(12,.int .i64),(13,.int .i64)],bE:=[(163850,.map 9)]}
def MS:eY:={ay:=[(3,.own (.op 49155 0)),(9,.rs 8),(10,.int .i64),(11,.int .i64)],bE:=[(49155,.box [.int .i64,.int .i64,.int .i64,.int .i64,.int .i64,.str,.int .i64,.int .i64,.int .i64,.int .i64,.int .i64,.bool,.rs 5])]}
def yt:eY:={ay:=[(1,.own (.op 1374624530433 0)),(2,.own (.op 1374624530434 0)),(3,.own (.op 1374624530435 0)),(25,.int .i64),(26,.int .i64),(50,.rs 13),(51,.own (.op 81922 0)),(53,.own (.op 81924 0))],bE:=[(1374624530433,.box [.rs 4,.rs 3,.rs 8,.rs 5,.rs 4,.rs 6,.int .i64,.int .i64,.int .i64]),(1374624530434,.box [.own .bl,.own .bl,.own .bl,.own .bl,.own .bl,.own .bl,.int .i64,.int .i64,.int .i64]),(1374624530435,.box [.own (.os 1374624530439),.own (.os 1374624530442),.own (.os 1374624530445),.own (.os 1374624530448),.own (.os 1374624530451),.rs 6,.int .i64,.int .i64,.int .i64]),(81922,.box [.rs 4,.rs 3,.rs 8,.rs 5,.rs 4,.rs 6,.int .i64,.int .i64,.int .i64]),(81924,.box [.own .bl,.own .bl,.own .bl,.own .bl,.own .bl,.own .bl,.int .i64,.int .i64,.int .i64]),(1374624530439,.arr 4 77),(1374624530442,.arr 3 79),(1374624530445,.nest 8 59),(1374624530448,.arr 5 81),(1374624530451,.arr 4 83)],nz:=[1374624530445]}
def MT:eY:={ay:=[(1,.rs 13),(4,.own (.op 81924 0)),(6,.own (.op 81926 0)),(9,.int .i64),(10,.own (.os 81930)),(22,.int .i64),(23,.int .i64)],bE:=[(81924,.box [.own .bl,.own .bl,.own .bl,.own .bl,.own .bl,.own .bl,.int .i64,.int .i64,.int .i64]),(81926,.box [.own (.os 1374624530439),.own (.os 1374624530442),.own (.os 1374624530445),.own (.os 1374624530448),.own (.os 1374624530451),.own (.os 1374624530477),.int .i64,.int .i64,.int .i64]),(81930,.arr 1 42),(1374624530439,.arr 4 77),(1374624530442,.arr 3 79),(1374624530445,.nest 8 59),(1374624530448,.arr 5 81),(1374624530451,.arr 4 83),(1374624530477,.arr 6 110)],ct:=[(81926,3)]}
def ma:eY:={ay:=[(0,.row 1374624530445 7),(1,.int .i64),(8,.own (.os 387040468021129576528031779)),(10,.int .i64),(57,.int .i64),(58,.int .i64),(112,.own (.op 81926 0)),(114,.int .i64),(251,.rs 13),(254,.own (.op 81924 0)),(256,.own (.op 81926 0)),(259,.int .i64),(260,.own (.os 81930)),(272,.int .i64),(273,.int .i64)],bE:=[(1374624530445,.nest 8 59),(387040468021129576528031779,.arr 5 64),(81926,.box [.own (.os 1374624530439),.own (.os 1374624530442),.own (.os 1374624530445),.own (.os 1374624530448),.own (.os 1374624530451),.own (.os 1374624530477),.int .i64,.int .i64,.int .i64]),(81924,.box [.own .bl,.own .bl,.own .bl,.own .bl,.own .bl,.own .bl,.int .i64,.int .i64,.int .i64]),(81930,.arr 1 42),(1374624530439,.arr 4 77),(1374624530442,.arr 3 79),(1374624530448,.arr 5 81),(1374624530451,.arr 4 83),(1374624530477,.arr 6 110)]}
def iM:eY:={ay:=[(0,.own (.os 1374624530448)),(1,.own (.fn 85 [.op 23069409610788233221 0])),(7,.int .i64),(8,.int .i64),(19,.own (.os 1374624530448)),(20,.own (.fn 85 [.op 23069409610788233221 0])),(94,.own (.op 81926 0)),(206,.rs 13),(209,.own (.op 81924 0)),(211,.own (.op 81926 0)),(214,.int .i64),(215,.own (.os 81930)),(227,.int .i64),(228,.int .i64)],bE:=[(1374624530448,.arr 5 81),(23069409610788233221,.box [.int .i64]),(81926,.box [.own (.os 1374624530439),.own (.os 1374624530442),.own (.os 1374624530445),.own (.os 1374624530448),.own (.os 1374624530451),.own (.os 1374624530477),.int .i64,.int .i64,.int .i64]),(81924,.box [.own .bl,.own .bl,.own .bl,.own .bl,.own .bl,.own .bl,.int .i64,.int .i64,.int .i64]),(81930,.arr 1 42),(1374624530439,.arr 4 77),(1374624530442,.arr 3 79),(1374624530445,.nest 8 59),(1374624530451,.arr 4 83),(1374624530477,.arr 6 110)]}
def mc:eY:={ay:=[(0,.own (.os 1374624530448)),(1,.own (.fn 85 [.op 23069409610788233221 0])),(5,.int .i64),(6,.int .i64),(75,.own (.op 81926 0)),(187,.rs 13),(190,.own (.op 81924 0)),(192,.own (.op 81926 0)),(195,.int .i64),(196,.own (.os 81930)),(208,.int .i64),(209,.int .i64)],bE:=[(1374624530448,.arr 5 81),(23069409610788233221,.box [.int .i64]),(81926,.box [.own (.os 1374624530439),.own (.os 1374624530442),.own (.os 1374624530445),.own (.os 1374624530448),.own (.os 1374624530451),.own (.os 1374624530477),.int .i64,.int .i64,.int .i64]),(81924,.box [.own .bl,.own .bl,.own .bl,.own .bl,.own .bl,.own .bl,.int .i64,.int .i64,.int .i64]),(81930,.arr 1 42),(1374624530439,.arr 4 77),(1374624530442,.arr 3 79),(1374624530445,.nest 8 59),(1374624530451,.arr 4 83),(1374624530477,.arr 6 110)]}
def yu:eY:={ay:=[(1,.own (.op 1031262027777 0)),(2,.own (.op 1031262027778 0)),(3,.own (.op 1031262027779 0)),(25,.int .i64),(26,.int .i64),(52,.own (.op 61443 0)),(53,.own (.op 61444 0))],bE:=[(1031262027777,.box [.rs 4,.rs 3,.rs 8,.rs 5,.rs 4,.rs 6,.int .i64,.int .i64,.int .i64]),(1031262027778,.box [.own .bl,.own .bl,.own .bl,.own .bl,.own .bl,.own .bl,.int .i64,.int .i64,.int .i64]),(1031262027779,.box [.own (.os 1031262027783),.own (.os 1031262027786),.own (.os 1031262027789),.own (.os 1031262027792),.own (.os 1031262027795),.rs 6,.int .i64,.int .i64,.int .i64]),(61443,.box [.int .i64,.int .i64,.int .i64,.int .i64,.int .i64,.str,.int .i64,.int .i64,.int .i64,.int .i64,.int .i64,.bool,.rs 5]),(61444,.box [.own .bl,.own .bl,.own .bl,.own .bl,.own .bl,.own .bl,.int .i64,.int .i64,.int .i64]),(1031262027783,.arr 4 77),(1031262027786,.arr 3 79),(1031262027789,.nest 8 59),(1031262027792,.arr 5 81),(1031262027795,.arr 4 83)],nz:=[1031262027789]}
def mb:eY:={ay:=[(0,.row 1031262027789 7),(1,.int .i64),(8,.own (.os 290283901153613415744614435)),(10,.int .i64),(57,.int .i64),(58,.int .i64),(112,.own (.op 61450 0)),(114,.int .i64),(254,.own (.op 61444 0)),(260,.own (.op 61450 0))],bE:=[(1031262027789,.nest 8 59),(290283901153613415744614435,.arr 5 64),(61450,.box [.own (.os 1031262027783),.own (.os 1031262027786),.own (.os 1031262027789),.own (.os 1031262027792),.own (.os 1031262027795),.own (.os 1031262027821),.int .i64,.int .i64,.int .i64]),(61444,.box [.own .bl,.own .bl,.own .bl,.own .bl,.own .bl,.own .bl,.int .i64,.int .i64,.int .i64]),(1031262027783,.arr 4 77),(1031262027786,.arr 3 79),(1031262027792,.arr 5 81),(1031262027795,.arr 4 83),(1031262027821,.arr 6 110)]}
def iN:eY:={ay:=[(0,.own (.os 1031262027792)),(1,.own (.fn 85 [.op 17302268812963602437 0])),(7,.int .i64),(8,.int .i64),(19,.own (.os 1031262027792)),(20,.own (.fn 85 [.op 17302268812963602437 0])),(94,.own (.op 61450 0)),(209,.own (.op 61444 0)),(215,.own (.op 61450 0))],bE:=[(1031262027792,.arr 5 81),(17302268812963602437,.box [.int .i64]),(61450,.box [.own (.os 1031262027783),.own (.os 1031262027786),.own (.os 1031262027789),.own (.os 1031262027792),.own (.os 1031262027795),.own (.os 1031262027821),.int .i64,.int .i64,.int .i64]),(61444,.box [.own .bl,.own .bl,.own .bl,.own .bl,.own .bl,.own .bl,.int .i64,.int .i64,.int .i64]),(1031262027783,.arr 4 77),(1031262027786,.arr 3 79),(1031262027789,.nest 8 59),(1031262027795,.arr 4 83),(1031262027821,.arr 6 110)]}
def me:eY:={ay:=[(0,.own (.os 1031262027792)),(1,.own (.fn 85 [.op 17302268812963602437 0])),(5,.int .i64),(6,.int .i64),(75,.own (.op 61450 0)),(190,.own (.op 61444 0)),(196,.own (.op 61450 0))],bE:=[(1031262027792,.arr 5 81),(17302268812963602437,.box [.int .i64]),(61450,.box [.own (.os 1031262027783),.own (.os 1031262027786),.own (.os 1031262027789),.own (.os 1031262027792),.own (.os 1031262027795),.own (.os 1031262027821),.int .i64,.int .i64,.int .i64]),(61444,.box [.own .bl,.own .bl,.own .bl,.own .bl,.own .bl,.own .bl,.int .i64,.int .i64,.int .i64]),(1031262027783,.arr 4 77),(1031262027786,.arr 3 79),(1031262027789,.nest 8 59),(1031262027795,.arr 4 83),(1031262027821,.arr 6 110)]}
def MU:eY:={ay:=[(0,.rs 5),(1,.rs 5),(12,.int .i64),(13,.int .i64)],bE:=[]}
def MV:eY:={ay:=[(2,.own (.op 90114 0)),(3,.own (.op 90115 0)),(5,.own (.os 90117)),(13,.int .i64),(14,.int .i64)],bE:=[(90114,.box [.rs 4,.rs 3,.rs 8,.rs 5,.rs 4,.rs 6,.int .i64,.int .i64,.int .i64]),(90115,.box [.rs 4,.rs 3,.rs 8,.rs 5,.rs 4,.rs 6,.int .i64,.int .i64,.int .i64]),(90117,.arr 1 3)]}
def MW:eY:={ay:=[(0,.str),(3,.int .i64)],bE:=[]}
def MX:eY:={ay:=[(1,.own (.op 303105 0)),(4,.int .i64)],bE:=[(303105,.box [.rs 6,.int .i64,.int .i64,.int .i64])]}
def I1:eY:={ay:=[(1,.own (.op 303105 0)),(4,.int .i64),(5,.own (.op 303109 0)),(6,.int .i64)],bE:=[(303105,.box [.rs 6,.int .i64,.int .i64,.int .i64]),(303109,.box [.raw,.raw,.raw,.raw,.raw,.raw])]}
def MY:eY:={ay:=[(1,.int .i64),(2,.int .i64),(3,.int .i64),(4,.own (.op 360452 0)),(9,.int .i64)],bE:=[(360452,.box [.rs 4,.rs 3,.rs 8,.rs 5,.rs 4,.rs 6,.int .i64,.int .i64,.int .i64])]}
def MZ:eY:={ay:=[(1,.int .i64),(2,.int .i64),(3,.int .i64),(4,.own (.op 360452 0)),(9,.int .i64),(10,.int .i64),(11,.int .i64)],bE:=[(360452,.box [.rs 4,.rs 3,.rs 8,.rs 5,.rs 4,.rs 6,.int .i64,.int .i64,.int .i64])]}
def I2:eY:={ay:=[(1,.int .i64),(2,.own (.op 294914 0)),(5,.own (.op 294917 0)),(8,.int .i64)],bE:=[(294914,.box [.rs 4,.rs 3,.rs 8,.rs 5,.rs 4,.rs 6,.int .i64,.int .i64,.int .i64]),(294917,.box [.raw,.raw,.raw,.raw,.raw])]}
def I3:eY:={ay:=[(1,.int .i64),(2,.own (.op 294914 0)),(5,.own (.op 294917 0)),(10,.int .i64)],bE:=[(294914,.box [.rs 4,.rs 3,.rs 8,.rs 5,.rs 4,.rs 6,.int .i64,.int .i64,.int .i64]),(294917,.box [.raw,.raw,.raw,.raw,.raw])]}
def M0:eY:={ay:=[(0,.rs 4),(1,.int .i64),(2,.bool),(7,.own (.os 393232)),(8,.int .i64)],bE:=[(393232,.nest 1 52)],nz:=[393232]}
def M1:eY:={ay:=[(0,.rs 4),(1,.int .i64),(2,.bool),(7,.own (.os 393232)),(8,.int .i64),(9,.own (.os 393238)),(10,.int .i64)],bE:=[(393232,.nest 1 52),(393238,.arr 1 3)],nz:=[393232]}
def I4:eY:={ay:=[(0,.rs 4),(1,.int .i64),(2,.bool),(7,.own (.os 393232)),(11,.int .i64)],bE:=[(393232,.nest 1 52)],nz:=[393232]}
def I5:eY:={ay:=[(1,.int .i64),(7,.own (.os 393232)),(13,.int .i64)],bE:=[(393232,.nest 1 52)],nz:=[393232]}
def I6:eY:={ay:=[(1,.int .i64),(7,.own (.os 393232)),(13,.int .i64),(14,.int .i64)],bE:=[(393232,.nest 1 52)],nz:=[393232]}
def I7:eY:={ay:=[(1,.int .i64),(7,.own (.os 393232)),(13,.int .i64),(14,.int .i64),(15,.int .i64)],bE:=[(393232,.nest 1 52)],nz:=[393232]}
def M3:eY:={ay:=[(1,.int .i64),(5,.rs 1),(6,.rs 1),(7,.own (.os 364560)),(8,.int .i64)],bE:=[(364560,.arr 4 83)]}
def M4:eY:={ay:=[(1,.int .i64),(5,.rs 1),(6,.rs 1),(7,.own (.os 364560)),(8,.int .i64),(9,.int .i64)],bE:=[(364560,.arr 4 83)]}
def M5:eY:={ay:=[(1,.own (.op 299009 0)),(4,.int .i64)],bE:=[(299009,.box [.rs 4,.rs 3,.rs 8,.rs 5,.rs 4,.rs 6,.int .i64,.int .i64,.int .i64])]}
def I8:eY:={ay:=[(1,.own (.op 299009 0)),(4,.int .i64),(5,.own (.op 299013 0)),(6,.int .i64)],bE:=[(299009,.box [.rs 4,.rs 3,.rs 8,.rs 5,.rs 4,.rs 6,.int .i64,.int .i64,.int .i64]),(299013,.box [.raw,.raw,.raw,.raw])]}
def I9:eY:={ay:=[(1,.own (.op 299009 0)),(8,.rs 4),(9,.int .i64)],bE:=[(299009,.box [.rs 4,.rs 3,.rs 8,.rs 5,.rs 4,.rs 6,.int .i64,.int .i64,.int .i64])]}
def M6:eY:={ay:=[(0,.rs 3),(4,.int .i64)],bE:=[]}
def M7:eY:={ay:=[(0,.rs 3),(4,.int .i64),(5,.int .i64)],bE:=[]}
def M8:eY:={ay:=[(0,.rs 5),(1,.int .i64),(2,.int .i64),(3,.int .i64),(9,.int .i64)],bE:=[]}
def Ja:eY:={ay:=[(1,.int .i64),(2,.own (.op 290818 0)),(5,.own (.op 290821 0)),(7,.int .i64)],bE:=[(290818,.box [.rs 4,.rs 3,.rs 8,.rs 5,.rs 4,.rs 6,.int .i64,.int .i64,.int .i64]),(290821,.box [.raw,.raw,.raw,.raw,.raw,.raw,.raw,.raw])]}
def M9:eY:={ay:=[(0,.rs 4),(4,.int .i64)],bE:=[]}
def Na:eY:={ay:=[(0,.rs 4),(4,.int .i64),(5,.int .i64)],bE:=[]}
def Jb:eY:={ay:=[(1,.own (.op 155649 0)),(7,.int .i64)],bE:=[(155649,.box [.rs 4,.rs 3,.rs 8,.rs 5,.rs 4,.rs 6,.int .i64,.int .i64,.int .i64])]}
def Jc:eY:={ay:=[(1,.own (.op 155649 0)),(8,.int .i64)],bE:=[(155649,.box [.rs 4,.rs 3,.rs 8,.rs 5,.rs 4,.rs 6,.int .i64,.int .i64,.int .i64])]}
def Nb:eY:={ay:=[(1,.own (.op 40961 0)),(3,.int .i64)],bE:=[(40961,.box [.rs 4,.rs 3,.rs 8,.rs 5,.rs 4,.rs 6,.int .i64,.int .i64,.int .i64])]}
def Nc:eY:={ay:=[(2,.own (.op 53250 0)),(3,.own (.op 53251 0)),(5,.int .i64)],bE:=[(53250,.box [.rs 4,.rs 3,.rs 8,.rs 5,.rs 4,.rs 6,.int .i64,.int .i64,.int .i64]),(53251,.box [.int .i64,.int .i64,.int .i64,.int .i64,.int .i64,.str,.int .i64,.int .i64,.int .i64,.int .i64,.int .i64,.bool,.rs 5])]}
def Nf:eY:={ay:=[(2,.own (.op 151554 0)),(3,.own (.op 151555 0)),(5,.int .i64)],bE:=[(151554,.box [.rs 6,.int .i64,.int .i64,.int .i64]),(151555,.box [.rs 6,.int .i64,.int .i64,.int .i64])]}
def Ng:eY:={ay:=[(0,.rs 5),(1,.rs 5),(5,.int .i64)],bE:=[]}
def Nh:eY:={ay:=[(0,.rs 8),(1,.rs 8),(5,.int .i64)],bE:=[]}
def Ni:eY:={ay:=[(2,.own (.op 69634 0)),(3,.own (.op 69635 0)),(5,.int .i64)],bE:=[(69634,.box [.rs 4,.rs 3,.rs 8,.rs 5,.rs 4,.rs 6,.int .i64,.int .i64,.int .i64]),(69635,.box [.rs 4,.rs 3,.rs 8,.rs 5,.rs 4,.rs 6,.int .i64,.int .i64,.int .i64])]}
def Nj:eY:={ay:=[(2,.own (.op 69634 0)),(3,.own (.op 69635 0)),(6,.int .i64)],bE:=[(69634,.box [.rs 4,.rs 3,.rs 8,.rs 5,.rs 4,.rs 6,.int .i64,.int .i64,.int .i64]),(69635,.box [.rs 4,.rs 3,.rs 8,.rs 5,.rs 4,.rs 6,.int .i64,.int .i64,.int .i64])]}
def Jd:eY:={ay:=[(2,.own (.op 69634 0)),(3,.own (.op 69635 0)),(7,.int .i64)],bE:=[(69634,.box [.rs 4,.rs 3,.rs 8,.rs 5,.rs 4,.rs 6,.int .i64,.int .i64,.int .i64]),(69635,.box [.rs 4,.rs 3,.rs 8,.rs 5,.rs 4,.rs 6,.int .i64,.int .i64,.int .i64])]}
def Je:eY:={ay:=[(2,.own (.op 69634 0)),(3,.own (.op 69635 0)),(8,.int .i64)],bE:=[(69634,.box [.rs 4,.rs 3,.rs 8,.rs 5,.rs 4,.rs 6,.int .i64,.int .i64,.int .i64]),(69635,.box [.rs 4,.rs 3,.rs 8,.rs 5,.rs 4,.rs 6,.int .i64,.int .i64,.int .i64])]}
def Nk:eY:={ay:=[(0,.rs 5),(3,.int .i64)],bE:=[]}
def Jf:eY:={ay:=[(0,.rs 5),(8,.own (.os 135176)),(9,.int .i64),(10,.int .i64)],bE:=[(135176,.arr 5 64)]}
def Nl:eY:={ay:=[(0,.str),(3,.int .i64)],bE:=[]}
def Nn:eY:={ay:=[(0,.rs 5),(1,.int .i64),(2,.int .i64),(3,.int .i64),(10,.int .i64)],bE:=[]}
def Np:eY:={ay:=[(0,.rs 8),(3,.own (.os 131075)),(4,.int .i64)],bE:=[(131075,.arr 8 59)]}
def Nq:eY:={ay:=[(0,.rs 5),(1,.int .i64),(5,.own (.os 143365)),(6,.int .i64)],bE:=[(143365,.arr 5 81)]}
def yw:eY:={ay:=[(0,.rs 8),(3,.own (.os 1100166070275)),(4,.int .i64),(32,.own (.op 65538 0)),(33,.own (.op 65539 0)),(34,.own (.op 65540 0)),(37,.int .i64),(38,.own (.op 65544 0))],bE:=[(1100166070275,.nest 8 59),(65538,.box [.rs 4,.rs 3,.rs 8,.rs 5,.rs 4,.rs 6,.int .i64,.int .i64,.int .i64]),(65539,.box [.int .i64,.int .i64,.int .i64,.int .i64,.int .i64,.str,.int .i64,.int .i64,.int .i64,.int .i64,.int .i64,.bool,.rs 5]),(65540,.box [.own .bl,.own .bl,.own .bl,.own .bl,.own .bl,.own .bl,.int .i64,.int .i64,.int .i64]),(65544,.box [.rs 4,.rs 3,.rs 8,.rs 5,.rs 4,.rs 6,.int .i64,.int .i64,.int .i64])],nz:=[1100166070275]}
def hints(f k:Nat):List eY:=
 bif Nat.beq f 101 then(bif Nat.beq k 3 then[IP]else[])else
 bif Nat.beq f 77 then(bif Nat.beq k 4 then[MD]else[])else
 bif Nat.beq f 93 then(bif Nat.beq k 3 then[ME]else[])else
 bif Nat.beq f 49 then(bif Nat.beq k 2 then[MF]else[])else
 bif Nat.beq f 79 then(bif Nat.beq k 2 then[MG]else[])else
 bif Nat.beq f 45 then(bif Nat.beq k 6 then[MH]else[])else
 bif Nat.beq f 107 then(bif Nat.beq k 7 then[IQ]else bif Nat.beq k 15 then[Gs]else[])else
 bif Nat.beq f 110 then(bif Nat.beq k 3 then[IU]else bif Nat.beq k 9 then[IV]else bif Nat.beq k 15 then[Gt,Gu]else[])else
 bif Nat.beq f 1845620860 then(bif Nat.beq k 5 then[xd]else[])else
 bif Nat.beq f 30964585997672582 then(bif Nat.beq k 1 then[qj]else[])else
 bif Nat.beq f 1845821564 then(bif Nat.beq k 5 then[xe]else[])else
 bif Nat.beq f 109 then(bif Nat.beq k 3 then[IW]else[])else
 bif Nat.beq f 108 then(bif Nat.beq k 3 then[IX]else[])else
 bif Nat.beq f 103 then(bif Nat.beq k 7 then[IY]else[])else
 bif Nat.beq f 97 then(bif Nat.beq k 3 then[MI]else bif Nat.beq k 13 then[IZ]else[])else
 bif Nat.beq f 92 then(bif Nat.beq k 5 then[MJ]else bif Nat.beq k 8 then[MK]else[])else
 bif Nat.beq f 91 then(bif Nat.beq k 3 then[ML]else[])else
 bif Nat.beq f 81 then(bif Nat.beq k 10 then[I0]else[])else
 bif Nat.beq f 47 then(bif Nat.beq k 3 then[MM]else[])else
 bif Nat.beq f 44 then(bif Nat.beq k 5 then[MN]else[])else
 bif Nat.beq f 42 then(bif Nat.beq k 2 then[MO]else[])else
 bif Nat.beq f 46 then(bif Nat.beq k 7 then[MP]else[])else
 bif Nat.beq f 41 then(bif Nat.beq k 5 then[MQ]else[])else
 bif Nat.beq f 40 then(bif Nat.beq k 5 then[MR]else[])else
 bif Nat.beq f 12 then(bif Nat.beq k 2 then[MS]else[])else
 bif Nat.beq f 335601692 then(bif Nat.beq k 3 then[yt]else[])else
 bif Nat.beq f 20 then(bif Nat.beq k 5 then[MT]else[])else
 bif Nat.beq f 94492301762971088019539 then(bif Nat.beq k 14 then[ma]else[])else
 bif Nat.beq f 1585317757061816809790923382879 then(bif Nat.beq k 2 then[iM]else[])else
 bif Nat.beq f 94492301765788603412564 then(bif Nat.beq k 5 then[mc]else[])else
 bif Nat.beq f 251772956 then(bif Nat.beq k 3 then[yu]else[])else
 bif Nat.beq f 70870093055081400328275 then(bif Nat.beq k 14 then[mb]else[])else
 bif Nat.beq f 1189002859172470615222045941855 then(bif Nat.beq k 2 then[iN]else[])else
 bif Nat.beq f 70870093057898915721300 then(bif Nat.beq k 5 then[me]else[])else
 bif Nat.beq f 75 then(bif Nat.beq k 4 then[MU]else[])else
 bif Nat.beq f 22 then(bif Nat.beq k 3 then[MV]else[])else
 bif Nat.beq f 86 then(bif Nat.beq k 4 then[MW]else[])else
 bif Nat.beq f 74 then(bif Nat.beq k 6 then[MX]else bif Nat.beq k 12 then[I1]else[])else
 bif Nat.beq f 88 then(bif Nat.beq k 2 then[MY]else bif Nat.beq k 6 then[MZ]else[])else
 bif Nat.beq f 72 then(bif Nat.beq k 12 then[I2]else bif Nat.beq k 20 then[I3]else[])else
 bif Nat.beq f 96 then(bif Nat.beq k 3 then[M0]else bif Nat.beq k 7 then[M1]else bif Nat.beq k 12 then[I4]else bif Nat.beq k 18 then[I5]else bif Nat.beq k 21 then[I6]else bif Nat.beq k 24 then[I7]else[])else
 bif Nat.beq f 89 then(bif Nat.beq k 4 then[M3]else bif Nat.beq k 7 then[M4]else[])else
 bif Nat.beq f 73 then(bif Nat.beq k 2 then[M5]else bif Nat.beq k 10 then[I8]else bif Nat.beq k 19 then[I9]else[])else
 bif Nat.beq f 70 then(bif Nat.beq k 4 then[M6]else bif Nat.beq k 9 then[M7]else[])else
 bif Nat.beq f 34 then(bif Nat.beq k 4 then[M8]else[])else
 bif Nat.beq f 71 then(bif Nat.beq k 14 then[Ja]else[])else
 bif Nat.beq f 69 then(bif Nat.beq k 4 then[M9]else bif Nat.beq k 9 then[Na]else[])else
 bif Nat.beq f 38 then(bif Nat.beq k 10 then[Jb]else bif Nat.beq k 18 then[Jc]else[])else
 bif Nat.beq f 10 then(bif Nat.beq k 4 then[Nb]else[])else
 bif Nat.beq f 13 then(bif Nat.beq k 2 then[Nc]else[])else
 bif Nat.beq f 37 then(bif Nat.beq k 4 then[Nf]else[])else
 bif Nat.beq f 68 then(bif Nat.beq k 4 then[Ng]else[])else
 bif Nat.beq f 36 then(bif Nat.beq k 4 then[Nh]else[])else
 bif Nat.beq f 17 then(bif Nat.beq k 4 then[Ni]else bif Nat.beq k 9 then[Nj]else bif Nat.beq k 14 then[Jd]else bif Nat.beq k 19 then[Je]else[])else
 bif Nat.beq f 65 then(bif Nat.beq k 2 then[Nk]else[])else
 bif Nat.beq f 33 then(bif Nat.beq k 11 then[Jf]else[])else
 bif Nat.beq f 63 then(bif Nat.beq k 4 then[Nl]else[])else
 bif Nat.beq f 64 then(bif Nat.beq k 4 then[Nn]else[])else
 bif Nat.beq f 32 then(bif Nat.beq k 3 then[Np]else[])else
 bif Nat.beq f 35 then(bif Nat.beq k 3 then[Nq]else[])else
 bif Nat.beq f 268595232 then(bif Nat.beq k 3 then[yw]else[])else
 []
noncomputable def S0:qd:={P:=Tryz.prog,aH:=fun _=>none,hint:=hints,zF:=fun s=>Nat.beq s 65641||Nat.beq s 65651||Nat.beq s 69631||Nat.beq s 393249||Nat.beq s 393250||Nat.beq s 393271||Nat.beq s 393278||Nat.beq s 393305||Nat.beq s 393310||Nat.beq s 393317||Nat.beq s 393324||Nat.beq s 397311||Nat.beq s 442376||Nat.beq s 442396||Nat.beq s 446463||Nat.beq s 1031262031871||Nat.beq s 1031295586352||Nat.beq s 1031295586383||Nat.beq s 1031295586395||Nat.beq s 1031295590399||Nat.beq s 1100166070299||Nat.beq s 1100166070300||Nat.beq s 1374624534527||Nat.beq s 1375043964976||Nat.beq s 1375043965007||Nat.beq s 1375043965019||Nat.beq s 1375043969023||Nat.beq s 17302268811638194237||Nat.beq s 17302268811638194238||Nat.beq s 17302268811638194239||Nat.beq s 17302268812275732497||Nat.beq s 17302268812275736575||Nat.beq s 17302268812963606527||Nat.beq s 23069409609462825021||Nat.beq s 23069409609462825022||Nat.beq s 23069409609462825023||Nat.beq s 23069409610100363281||Nat.beq s 23069409610100367359||Nat.beq s 23069409610788237311||Nat.beq s 1000000000000000000000000127036}
noncomputable def VI(g:Nat):Option (List PV→Option PV):=bif Nat.beq g 100 then some bt else none
noncomputable def S:qd:={P:=Tryz.prog,aH:=fun _=>none,hint:=hints,Kc:=fun g=>bif Nat.beq g 99 then some (vA 4 VI)else none,zF:=fun s=>Nat.beq s 65641||Nat.beq s 65651||Nat.beq s 69631||Nat.beq s 393249||Nat.beq s 393250||Nat.beq s 393271||Nat.beq s 393278||Nat.beq s 393305||Nat.beq s 393310||Nat.beq s 393317||Nat.beq s 393324||Nat.beq s 397311||Nat.beq s 442376||Nat.beq s 442396||Nat.beq s 446463||Nat.beq s 1031262031871||Nat.beq s 1031295586352||Nat.beq s 1031295586383||Nat.beq s 1031295586395||Nat.beq s 1031295590399||Nat.beq s 1100166070299||Nat.beq s 1100166070300||Nat.beq s 1374624534527||Nat.beq s 1375043964976||Nat.beq s 1375043965007||Nat.beq s 1375043965019||Nat.beq s 1375043969023||Nat.beq s 17302268811638194237||Nat.beq s 17302268811638194238||Nat.beq s 17302268811638194239||Nat.beq s 17302268812275732497||Nat.beq s 17302268812275736575||Nat.beq s 17302268812963606527||Nat.beq s 23069409609462825021||Nat.beq s 23069409609462825022||Nat.beq s 23069409609462825023||Nat.beq s 23069409610100363281||Nat.beq s 23069409610100367359||Nat.beq s 23069409610788237311||Nat.beq s 1000000000000000000000000127036}
noncomputable def SM:eZ:=[]
noncomputable def bR:eZ:=[]
noncomputable def SP:eZ:=(102,cS)::SM
noncomputable def SS:eZ:=(101,gN)::SP
noncomputable def Oa:eZ:=(100,bt)::SS
noncomputable def SN:eZ:=(24,iq)::Oa
noncomputable def SQ:eZ:=(25,fZ)::SN
noncomputable def SU:eZ:=(23,fK)::SQ
noncomputable def SV:eZ:=(90,ku)::SU
noncomputable def SO:eZ:=(77,dv)::SV
noncomputable def SR:eZ:=(94,fi)::SO
noncomputable def KP:eZ:=(93,ee)::SR
noncomputable def K9:eZ:=(50,gM)::KP
noncomputable def Kf:eZ:=(49,du)::K9
noncomputable def Ky:eZ:=(48,bH)::Kf
noncomputable def KQ:eZ:=(51,dV)::Ky
noncomputable def La:eZ:=(52,fA)::KQ
noncomputable def Kg:eZ:=(27,cJ)::La
noncomputable def Kz:eZ:=(79,eV)::Kg
noncomputable def KS:eZ:=(43,aV)::Kz
noncomputable def Lb:eZ:=(78,bT)::KS
noncomputable def Kh:eZ:=(45,cv)::Lb
noncomputable def KA:eZ:=(121,cB)::Kh
noncomputable def KT:eZ:=(107,eA)::KA
noncomputable def Lc:eZ:=(123,ec)::KT
noncomputable def Ki:eZ:=(131,aC)::Lc
noncomputable def KB:eZ:=(110,dq)::Ki
noncomputable def KU:eZ:=(109,dz)::KB
noncomputable def Ld:eZ:=(108,c7)::KU
noncomputable def Kj:eZ:=(103,dQ)::Ld
noncomputable def KC:eZ:=(97,cu)::Kj
noncomputable def KV:eZ:=(92,cZ)::KC
noncomputable def Le:eZ:=(91,ez)::KV
noncomputable def Kk:eZ:=(81,dn)::Le
noncomputable def KD:eZ:=(47,bF)::Kk
noncomputable def KW:eZ:=(44,dm)::KD
noncomputable def Lf:eZ:=(42,cH)::KW
noncomputable def Km:eZ:=(80,bw)::Lf
noncomputable def KE:eZ:=(46,da)::Km
noncomputable def KX:eZ:=(76,im)::KE
noncomputable def Lg:eZ:=(41,fY)::KX
noncomputable def Kn:eZ:=(40,gL)::Lg
noncomputable def qT:eZ:=(26,dZ)::Kn
noncomputable def KY:eZ:=(58,cz)::bR
noncomputable def Lh:eZ:=(57,bG)::KY
noncomputable def Ko:eZ:=(56,cy)::Lh
noncomputable def KF:eZ:=(59,bN)::Ko
noncomputable def KZ:eZ:=(54,ck)::KF
noncomputable def Li:eZ:=(55,cO)::KZ
noncomputable def FA:eZ:=(53,cw)::Li
noncomputable def FC:eZ:=(12,bI)::qT
noncomputable def cd:eZ:=(82,db)::FA
noncomputable def Lj:eZ:=(85,bP)::FC
noncomputable def Kp:eZ:=(20,fj)::Lj
noncomputable def KG:eZ:=(15,bf)::Kp
noncomputable def K0:eZ:=(75,cg)::KG
noncomputable def Lk:eZ:=(39,fy)::K0
noncomputable def FB:eZ:=(22,bW)::Lk
noncomputable def KH:eZ:=(11,dD)::FB
noncomputable def K1:eZ:=(86,eg)::KH
noncomputable def Ll:eZ:=(87,bC)::K1
noncomputable def Kq:eZ:=(74,jM)::Ll
noncomputable def KI:eZ:=(88,jP)::Kq
noncomputable def K2:eZ:=(72,lN)::KI
noncomputable def Ln:eZ:=(96,fl)::K2
noncomputable def Kr:eZ:=(89,fC)::Ln
noncomputable def KJ:eZ:=(73,jN)::Kr
noncomputable def K3:eZ:=(70,iZ)::KJ
noncomputable def Lo:eZ:=(34,cq)::K3
noncomputable def Ks:eZ:=(71,nf)::Lo
noncomputable def KK:eZ:=(69,jL)::Ks
noncomputable def K4:eZ:=(38,jQ)::KK
noncomputable def Lp:eZ:=(19,iu)::K4
noncomputable def Kt:eZ:=(10,jR)::Lp
noncomputable def K5:eZ:=(13,gz)::Kt
noncomputable def Lq:eZ:=(14,hZ)::K5
noncomputable def Ku:eZ:=(37,fS)::Lq
noncomputable def KL:eZ:=(68,fR)::Ku
noncomputable def K6:eZ:=(36,gv)::KL
noncomputable def Lr:eZ:=(17,fk)::K6
noncomputable def Kv:eZ:=(67,iv)::Lr
noncomputable def KM:eZ:=(65,ic)::Kv
noncomputable def K7:eZ:=(66,jS)::KM
noncomputable def Lt:eZ:=(33,fT)::K7
noncomputable def Kw:eZ:=(63,lX)::Lt
noncomputable def KN:eZ:=(64,jT)::Kw
noncomputable def FD:eZ:=(30,jU)::KN
noncomputable def HA:eZ:=(32,gT)::cd
noncomputable def Kx:eZ:=(31,jV)::FD
noncomputable def KO:eZ:=(35,bU)::Kx
noncomputable def K8:eZ:=(16,jW)::KO
noncomputable def Tu:eZ:=(4,dU)::K8
end Go.Proofs.YtcmhmlnkhmefbaaGreat
