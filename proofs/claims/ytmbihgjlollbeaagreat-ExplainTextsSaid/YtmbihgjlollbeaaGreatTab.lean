import Derived.Test.YtmbihgjlollbeaaGreatProg
import Derived.Test.YtmbihgjlollbeaaGreatAbSeat
import Derived.Test.YtmbihgjlollbeaaGreatSh6
import Derived.KernelRfl
namespace Go.Proofs.YtmbihgjlollbeaaGreat
noncomputable section
open Go.Ab
set_option maxRecDepth 100000
def Lw:dM:={an:=[(3,.int .i64),(6,.rs 1),(7,.int .i64),(8,.int .i64)],bk:=[]}
def PO:dM:={an:=[(2,.int .i64),(3,.int .i64),(9,.int .i64),(10,.own (.op 319498 0)),(32,.rs 3),(33,.int .i64),(34,.int .i64)],bk:=[(319498,.box [.raw,.raw,.raw,.raw,.raw,.raw,.raw,.raw,.raw,.raw])]}
def PQ:dM:={an:=[(1,.int .i64),(6,.int .i64),(7,.own (.os 315415)),(29,.int .i64),(30,.int .i64)],bk:=[(315415,.arr 5 127)]}
def PR:dM:={an:=[(1,.int .i64),(5,.own (.op 311301 0)),(6,.own (.op 311302 0)),(11,.rs 4),(12,.int .i64),(13,.int .i64)],bk:=[(311301,.box [.own (.os 1606938044258990275541962092341162602522202993782792835612677)]),(311302,.box [.own (.fn 127 [.op 311301 0])]),(1606938044258990275541962092341162602522202993782792835612677,.arr 1 3)]}
def yV:dM:={an:=[(0,.own (.yl 311319)),(1,.own (.op 5223049854977 0)),(3,.int .i64),(22,.int .i64),(26,.own (.op 311301 0)),(27,.own (.op 311302 0)),(32,.rs 4),(33,.int .i64),(34,.int .i64)],bk:=[(311319,.loop),(5223049854977,.box [.raw,.raw,.raw,.raw]),(311301,.box [.own (.os 1606938044258990275541962092341162602522202993782792835612677)]),(311302,.box [.own (.fn 127 [.op 311301 0])]),(1606938044258990275541962092341162602522202993782792835612677,.arr 1 3)]}
def mH:dM:={an:=[(0,.int .i64),(1,.own (.op 311301 0)),(3,.int .i64),(64,.own (.yl 311319)),(65,.own (.op 5223049854977 0)),(67,.int .i64),(86,.int .i64),(90,.own (.op 311301 0)),(91,.own (.op 311302 0)),(96,.rs 4),(97,.int .i64),(98,.int .i64)],bk:=[(311301,.box [.own (.os 1606938044258990275541962092341162602522202993782792835612677)]),(311319,.busy),(5223049854977,.box [.raw,.raw,.raw,.raw]),(311302,.box [.own (.fn 127 [.op 311301 0])]),(1606938044258990275541962092341162602522202993782792835612677,.arr 1 3)]}
def PS:dM:={an:=[(1,.int .i64),(7,.rs 4),(8,.int .i64),(9,.int .i64)],bk:=[]}
def PT:dM:={an:=[(0,.rs 4),(1,.rs 4),(12,.int .i64),(13,.int .i64)],bk:=[]}
def PU:dM:={an:=[(3,.own (.om 106502)),(8,.rs 5),(9,.int .i64),(10,.int .i64)],bk:=[(106502,.map 9)]}
def Lx:dM:={an:=[(3,.bool),(5,.own (.op 536581 0)),(6,.own (.op 536582 0)),(15,.rs 5),(16,.int .i64),(17,.int .i64)],bk:=[(536581,.box [.bool,.int .i64,.int .i64,.int .i64,.int .i64,.int .i64,.int .i64,.int .i64,.bool]),(536582,.box [.bool,.int .i64,.int .i64,.int .i64,.int .i64,.int .i64,.int .i64,.int .i64,.bool])]}
def PW:dM:={an:=[(0,.rp 34),(3,.own (.op 299011 0)),(11,.rs 4),(12,.int .i64),(13,.int .i64)],bk:=[(299011,.box [.bool,.int .i64,.int .i64,.int .i64,.int .i64,.int .i64,.int .i64,.int .i64,.bool])]}
def Ly:dM:={an:=[(0,.raw),(2,.int .i64),(7,.int .i64),(8,.bool)],bk:=[]}
def PX:dM:={an:=[(1,.own (.op 405505 0)),(2,.own (.op 405506 0)),(3,.own (.om 405522)),(4,.own (.om 405523)),(5,.own (.om 405524)),(22,.rs 5),(23,.int .i64),(24,.int .i64)],bk:=[(405505,.box [.rs 4,.rs 3,.rs 8,.rs 5,.rs 4,.rs 6,.int .i64,.int .i64,.int .i64]),(405506,.box [.int .i64,.int .i64,.int .i64]),(405522,.map 3),(405523,.map 3),(405524,.map 245)]}
def Lz:dM:={an:=[(2,.rs 1),(7,.own (.fn 260 [.op 1007619 0])),(22,.rs 3),(23,.int .i64),(24,.int .i64)],bk:=[(1007619,.box [.int .i64])]}
def I2:dM:={an:=[(7,.own (.fn 260 [.op 1007619 0])),(47,.rs 1),(48,.int .i64),(49,.int .i64)],bk:=[(1007619,.box [.int .i64])]}
def LA:dM:={an:=[(1,.raw),(2,.int .i64),(7,.own (.os 1019919)),(17,.int .i64),(18,.int .i64)],bk:=[(1019919,.arr 3 316)]}
def yW:dM:={an:=[(0,.own (.op 17111603761159 0)),(4,.int .i64),(55,.raw),(61,.own (.os 1019919)),(63,.own (.op 17111603761159 0))],bk:=[(17111603761159,.box [.own (.fn 262 []),.own (.os 3213876088517980551083924184682325205044405987582697274363911),.int .i64]),(1019919,.arr 3 316),(3213876088517980551083924184682325205044405987582697274363911,.arr 4 333)]}
def LB:dM:={an:=[(1,.raw),(7,.own (.os 1019919)),(9,.own (.op 17111603761159 0))],bk:=[(1019919,.arr 3 316),(17111603761159,.box [.own (.fn 262 []),.own (.os 3213876088517980551083924184682325205044405987582697274363911),.int .i64]),(3213876088517980551083924184682325205044405987582697274363911,.arr 4 333)]}
def q8:dM:={an:=[(0,.own (.op 17111603761159 0)),(2,.int .i64),(43,.own (.op 17111721213954 0)),(45,.own (.op 17111721213956 0)),(78,.raw),(84,.own (.os 1019919)),(86,.own (.op 17111603761159 0))],bk:=[(17111603761159,.box [.own (.fn 262 []),.own (.os 3213876088517980551083924184682325205044405987582697274363911),.int .i64]),(17111721213954,.box [.int .i64,.int .i64,.int .i64]),(17111721213956,.box [.raw,.raw,.raw]),(1019919,.arr 3 316),(3213876088517980551083924184682325205044405987582697274363911,.arr 4 333)],ct:=[(17111603761159,1)]}
def I3:dM:={an:=[(1,.raw),(7,.own (.os 1019919)),(9,.own (.op 17111603761159 0)),(10,.own (.op 1019914 0)),(55,.rs 0),(56,.int .i64),(57,.int .i64)],bk:=[(1019919,.arr 3 316),(17111603761159,.box [.own (.fn 262 []),.own (.os 3213876088517980551083924184682325205044405987582697274363911),.int .i64]),(1019914,.box [.raw,.raw,.raw]),(3213876088517980551083924184682325205044405987582697274363911,.arr 4 333)]}
def I4:dM:={an:=[(1,.raw),(7,.own (.os 1019919)),(9,.own (.op 17111603761159 0)),(10,.own (.op 1019914 0)),(55,.rs 3),(56,.int .i64),(57,.int .i64)],bk:=[(1019919,.arr 3 316),(17111603761159,.box [.own (.fn 262 []),.own (.os 3213876088517980551083924184682325205044405987582697274363911),.int .i64]),(1019914,.box [.raw,.raw,.raw]),(3213876088517980551083924184682325205044405987582697274363911,.arr 4 333)]}
def yX:dM:={an:=[(0,.own (.op 17111603761159 0)),(4,.int .i64),(55,.raw),(61,.own (.os 1019919)),(63,.own (.op 17111603761159 0)),(64,.own (.op 1019914 0)),(109,.rs 3),(110,.int .i64),(111,.int .i64)],bk:=[(17111603761159,.box [.own (.fn 262 []),.own (.os 3213876088517980551083924184682325205044405987582697274363911),.int .i64]),(1019919,.arr 3 316),(1019914,.box [.raw,.raw,.raw]),(3213876088517980551083924184682325205044405987582697274363911,.arr 4 333)]}
def LC:dM:={an:=[(3,.own (.os 1015816)),(9,.rs 3),(10,.int .i64),(11,.int .i64)],bk:=[(1015816,.arr 1 3)]}
def LD:dM:={an:=[(1,.bool),(5,.own (.om 1011720)),(9,.rs 3),(10,.int .i64),(11,.int .i64)],bk:=[(1011720,.eV 3 294)]}
def LF:dM:={an:=[(0,.int .i64),(7,.raw),(8,.own (.os 991251)),(21,.int .i64),(22,.int .i64)],bk:=[(991251,.arr 1 94)]}
def LG:dM:={an:=[(1,.int .i64),(2,.bool),(7,.own (.om 954386)),(19,.rs 4),(20,.int .i64),(21,.int .i64)],bk:=[(954386,.map 257)]}
def I5:dM:={an:=[(1,.int .i64),(13,.own (.os 954425)),(59,.own (.it 954427))],bk:=[(954425,.arr 3 294),(954427,.iter 291)]}
def LH:dM:={an:=[(5,.rs 1),(6,.rs 1),(7,.own (.op 835591 0)),(8,.own (.fn 234 [.op 835591 0])),(21,.int .i64),(22,.int .i64)],bk:=[(835591,.box [.own (.os 1606938044258990275541962092341162602522202993782792836136967)]),(1606938044258990275541962092341162602522202993782792836136967,.arr 4 150)]}
def LI:dM:={an:=[(5,.rs 1),(6,.rs 1),(7,.own (.op 835591 0)),(8,.own (.fn 234 [.op 835591 0])),(9,.int .i64),(21,.int .i64),(22,.int .i64),(28,.rs 1),(29,.int .i64),(30,.int .i64)],bk:=[(835591,.box [.own (.os 1606938044258990275541962092341162602522202993782792836136967)]),(1606938044258990275541962092341162602522202993782792836136967,.arr 4 150)]}
def LJ:dM:={an:=[(1,.int .i64),(6,.own (.om 475146)),(11,.rs 4),(12,.int .i64),(13,.int .i64)],bk:=[(475146,.map 257)]}
def I6:dM:={an:=[(0,.rs 4),(7,.rs 4),(29,.int .i64),(30,.int .i64)],bk:=[]}
def LK:dM:={an:=[(1,.own (.op 409601 0)),(2,.own (.op 409602 0)),(3,.own (.om 409607)),(9,.rs 4),(10,.int .i64),(11,.int .i64)],bk:=[(409601,.box [.rs 4,.rs 3,.rs 8,.rs 5,.rs 4,.rs 6,.int .i64,.int .i64,.int .i64]),(409602,.box [.int .i64,.int .i64,.int .i64]),(409607,.map 150)]}
def LL:dM:={an:=[(0,.rs 5),(1,.int .i64),(2,.int .i64),(3,.int .i64),(21,.int .i64),(22,.int .i64)],bk:=[]}
def LM:dM:={an:=[(0,.str),(3,.int .i64)],bk:=[]}
def PY:dM:={an:=[(1,.own (.op 401409 0)),(2,.own (.op 401410 0)),(3,.own (.om 401422)),(16,.rs 8),(17,.int .i64),(18,.int .i64)],bk:=[(401409,.box [.rs 4,.rs 3,.rs 8,.rs 5,.rs 4,.rs 6,.int .i64,.int .i64,.int .i64]),(401410,.box [.int .i64,.int .i64,.int .i64]),(401422,.map 241)]}
def PZ:dM:={an:=[(2,.own (.op 393218 0)),(5,.rs 3),(6,.int .i64),(7,.int .i64)],bk:=[(393218,.box [.int .i64,.int .i64,.int .i64])]}
def P0:dM:={an:=[(4,.own (.om 270363)),(29,.rs 6),(30,.int .i64),(31,.int .i64)],bk:=[(270363,.map 9)]}
def P1:dM:={an:=[(4,.own (.om 204810)),(11,.rs 3),(12,.int .i64),(13,.int .i64)],bk:=[(204810,.map 9)]}
def P2:dM:={an:=[(4,.own (.om 196618)),(11,.rs 4),(12,.int .i64),(13,.int .i64)],bk:=[(196618,.map 9)]}
def LN:dM:={an:=[(2,.own (.op 733186 0)),(6,.own (.op 733190 0)),(7,.own (.op 733191 0)),(8,.own (.fn 221 [.op 733190 0,.op 733191 0])),(37,.rs 4),(38,.int .i64),(39,.int .i64)],bk:=[(733186,.box [.str,.int .i64,.int .i64,.int .i64,.int .i64,.int .i64]),(733190,.box [.int IntKind.u64]),(733191,.box [.int IntKind.u64])]}
def LO:dM:={an:=[(2,.own (.op 512002 0)),(4,.own (.oe 512004 0 0)),(5,.own (.oe 512005 0 0)),(6,.int .i64),(7,.own (.fn 178 [.op 512002 0,.op 512003 0,.oe 512005 0 0])),(8,.int .i64)],bk:=[(512002,.box [.rs 6,.int .i64,.int .i64,.int .i64]),(512004,.arr 7 209),(512005,.arr 7 209),(512003,.box [.rs 4])]}
def LP:dM:={an:=[(2,.own (.op 512002 0)),(4,.own (.oe 512004 0 0)),(5,.own (.oe 512005 0 0)),(6,.int .i64),(7,.own (.fn 178 [.op 512002 0,.op 512003 0,.oe 512005 0 0])),(8,.int .i64),(9,.int .i64)],bk:=[(512002,.box [.rs 6,.int .i64,.int .i64,.int .i64]),(512004,.arr 7 209),(512005,.arr 7 209),(512003,.box [.rs 4])]}
def I7:dM:={an:=[(2,.own (.op 512002 0)),(4,.own (.oe 512004 0 0)),(5,.own (.oe 512005 0 0)),(6,.int .i64),(7,.own (.fn 178 [.op 512002 0,.op 512003 0,.oe 512005 0 0])),(8,.int .i64),(9,.int .i64),(31,.int .i64),(32,.int .i64)],bk:=[(512002,.box [.rs 6,.int .i64,.int .i64,.int .i64]),(512004,.arr 7 209),(512005,.arr 7 209),(512003,.box [.rs 4])]}
def P3:dM:={an:=[(1,.rs 4),(2,.own (.op 290818 0)),(8,.own (.oe 290824 0 0)),(9,.own (.os 290825)),(10,.int .i64)],bk:=[(290818,.box [.rs 6,.int .i64,.int .i64,.int .i64]),(290824,.arr 7 209),(290825,.arr 4 72)]}
def LQ:dM:={an:=[(3,.int IntKind.u64),(6,.rs 1),(7,.int .i64),(8,.int .i64)],bk:=[]}
def LR:dM:={an:=[(2,.own (.op 495618 0)),(5,.int IntKind.u64),(20,.rs 5),(21,.int .i64),(22,.int .i64)],bk:=[(495618,.box [.rs 4,.rs 3,.rs 8,.rs 5,.rs 4,.rs 6,.int .i64,.int .i64,.int .i64])]}
def P4:dM:={an:=[(2,.own (.op 286722 0)),(9,.own (.op 286729 0)),(10,.own (.fn 120 [.op 286722 0,.op 286729 0])),(11,.bool),(24,.rs 9),(25,.int .i64),(26,.int .i64)],bk:=[(286722,.box [.rs 4,.rs 3,.rs 8,.rs 5,.rs 4,.rs 6,.int .i64,.int .i64,.int .i64]),(286729,.box [.own (.os 1606938044258990275541962092341162602522202993782792835588105)]),(1606938044258990275541962092341162602522202993782792835588105,.arr 4 203)]}
def P5:dM:={an:=[(3,.int .i64),(7,.rs 9),(8,.int .i64),(9,.int .i64)],bk:=[]}
def P6:dM:={an:=[(3,.own (.op 282627 0)),(4,.own (.op 282628 0)),(5,.own (.op 282629 0)),(7,.own (.op 282631 0)),(8,.int .i64),(23,.rs 9),(24,.int .i64),(25,.int .i64)],bk:=[(282627,.box [.rs 4,.rs 3,.rs 8,.rs 5,.rs 4,.rs 6,.int .i64,.int .i64,.int .i64]),(282628,.box [.int .i64,.int .i64,.int .i64,.bool,.int .i64,.int .i64,.bool,.bool,.int .i64,.bool]),(282629,.box [.rs 9]),(282631,.box [.raw,.raw,.raw,.raw,.raw,.raw,.raw,.raw,.raw])]}
def LS:dM:={an:=[(1,.bool),(5,.own (.op 888837 0)),(6,.own (.op 888838 0)),(15,.rs 5),(16,.int .i64),(17,.int .i64)],bk:=[(888837,.box [.raw,.raw,.raw,.raw,.raw,.raw,.raw,.raw,.raw]),(888838,.box [.raw,.raw,.raw,.raw,.raw,.raw,.raw,.raw,.raw])]}
def LU:dM:={an:=[(1,.own (.op 872449 0)),(3,.own (.op 872451 0)),(4,.int .i64),(13,.rs 4),(14,.int .i64),(15,.int .i64)],bk:=[(872449,.box [.rs 4,.rs 3,.rs 8,.rs 5,.rs 4,.rs 6,.int .i64,.int .i64,.int .i64,.int .i64,.int .i64,.int .i64,.bool,.int .i64,.int .i64,.bool,.bool,.int .i64,.bool,.rs 9,.int .i64]),(872451,.box [.raw,.raw,.raw,.raw,.raw,.raw,.raw,.raw,.raw])]}
def P7:dM:={an:=[(5,.own (.op 278533 0)),(8,.own (.op 278536 0))],bk:=[(278533,.box [.rs 9]),(278536,.box [.rs 4,.rs 3,.rs 8,.rs 5,.rs 4,.rs 6,.int .i64,.int .i64,.int .i64,.int .i64,.int .i64,.int .i64,.bool,.int .i64,.int .i64,.bool,.bool,.int .i64,.bool,.rs 9,.int .i64])]}
def P8:dM:={an:=[(4,.own (.om 213002)),(11,.rs 10),(12,.int .i64),(13,.int .i64)],bk:=[(213002,.map 9)]}
def P9:dM:={an:=[(1,.int .i64),(6,.own (.om 221197)),(14,.rs 3),(15,.int .i64),(16,.int .i64)],bk:=[(221197,.map 180)]}
def Qa:dM:={an:=[(1,.int .i64),(2,.int .i64),(3,.int .i64),(10,.own (.om 229394)),(19,.rs 5),(20,.int .i64),(21,.int .i64)],bk:=[(229394,.map 9)]}
def Qb:dM:={an:=[(0,.rs 4),(1,.rs 5),(15,.rs 4),(16,.int .i64),(17,.int .i64)],bk:=[]}
def LV:dM:={an:=[(0,.rs 4),(1,.rs 5),(6,.int .i64),(7,.own (.op 237575 0)),(8,.int .i64),(9,.bool),(15,.rs 4),(16,.int .i64),(17,.int .i64),(51,.rs 4),(52,.int .i64),(53,.int .i64)],bk:=[(237575,.box [.raw,.raw,.raw,.raw])]}
def LW:dM:={an:=[(1,.int .i64),(8,.rs 2),(9,.int .i64),(10,.int .i64)],bk:=[]}
def LX:dM:={an:=[(0,.rs 2),(5,.own (.os 684042)),(6,.own (.om 684043))],bk:=[(684042,.arr 1 3),(684043,.map 3)]}
def LY:dM:={an:=[(2,.int .i64),(11,.rs 1),(12,.int .i64),(13,.int .i64)],bk:=[]}
def Qc:dM:={an:=[(0,.rs 2),(1,.rs 5),(2,.rs 4),(8,.own (.om 245778)),(9,.own (.om 245779)),(20,.rs 2),(21,.int .i64),(22,.int .i64)],bk:=[(245778,.map 3),(245779,.map 3)]}
def LZ:dM:={an:=[(1,.int .i64),(7,.rs 5),(8,.int .i64),(9,.int .i64)],bk:=[]}
def L2:dM:={an:=[(0,.rs 5),(1,.int .i64),(7,.rs 5),(8,.int .i64),(9,.int .i64)],bk:=[]}
def Qd:dM:={an:=[(1,.rs 5),(2,.rs 4),(3,.int .i64),(10,.own (.om 253973)),(22,.rs 3),(23,.int .i64),(24,.int .i64)],bk:=[(253973,.map 192)]}
def L3:dM:={an:=[(14,.rs 4),(15,.own (.op 40975 0)),(17,.own (.op 40977 0)),(18,.own (.fn 27 [.op 40975 0,.op 40977 0,.op 40964 0,.op 40976 0,.op 40965 0])),(81,.rs 9),(82,.int .i64),(83,.int .i64)],bk:=[(40975,.box [.own (.op 41034 0)]),(40977,.box [.own (.os 1606938044258990275541962092341162602522202993782792835342353)]),(40964,.box [.rs 4,.rs 3,.rs 10,.rs 3,.rs 5,.rs 4,.rs 2,.rs 3,.rs 4,.rs 6,.int .i64,.int .i64,.int .i64]),(40976,.box [.raw]),(40965,.box [.rs 4,.rs 3,.rs 8,.rs 5,.rs 4,.rs 6,.int .i64,.int .i64,.int .i64]),(41034,.box [.rs 4,.rs 3,.rs 10,.rs 3,.rs 5,.rs 4,.rs 2,.rs 3,.rs 4,.rs 6,.int .i64,.int .i64,.int .i64,.rs 4,.rs 3,.rs 8,.rs 5,.rs 4,.rs 6,.int .i64,.int .i64,.int .i64,.int .i64,.int .i64,.int .i64,.bool,.int .i64,.int .i64,.bool,.bool,.int .i64,.bool,.rs 9,.own (.os 54635893504805669368426711139599528485754901788614956400287818)]),(1606938044258990275541962092341162602522202993782792835342353,.arr 1 3),(54635893504805669368426711139599528485754901788614956400287818,.arr 5 63)]}
def L4:dM:={an:=[(15,.own (.op 40975 0)),(17,.own (.op 40977 0)),(94,.rs 4),(95,.int .i64),(96,.int .i64)],bk:=[(40975,.box [.own (.op 41034 0)]),(40977,.box [.own (.os 1606938044258990275541962092341162602522202993782792835342353)]),(41034,.box [.rs 4,.rs 3,.rs 10,.rs 3,.rs 5,.rs 4,.rs 2,.rs 3,.rs 4,.rs 6,.int .i64,.int .i64,.int .i64,.rs 4,.rs 3,.rs 8,.rs 5,.rs 4,.rs 6,.int .i64,.int .i64,.int .i64,.int .i64,.int .i64,.int .i64,.bool,.int .i64,.int .i64,.bool,.bool,.int .i64,.bool,.rs 9,.own (.os 54635893504805669368426711139599528485754901788614956400287818)]),(1606938044258990275541962092341162602522202993782792835342353,.arr 1 3),(54635893504805669368426711139599528485754901788614956400287818,.arr 5 63)]}
def L5:dM:={an:=[(0,.int IntKind.u64),(3,.str)],bk:=[]}
def Qe:dM:={an:=[(4,.rs 5),(11,.rs 5),(13,.bool),(33,.int .i64),(34,.int .i64)],bk:=[]}
def Qf:dM:={an:=[(0,.rs 5),(1,.rs 5),(5,.int .i64)],bk:=[]}
def L6:dM:={an:=[(0,.str),(3,.int .i64)],bk:=[]}
def L7:dM:={an:=[(1,.own (.op 667649 0)),(4,.int .i64)],bk:=[(667649,.box [.rs 6,.int .i64,.int .i64,.int .i64])]}
def I8:dM:={an:=[(1,.own (.op 667649 0)),(4,.int .i64),(5,.own (.op 667653 0)),(6,.int .i64)],bk:=[(667649,.box [.rs 6,.int .i64,.int .i64,.int .i64]),(667653,.box [.raw,.raw,.raw,.raw,.raw,.raw])]}
def L8:dM:={an:=[(1,.int .i64),(2,.int .i64),(3,.int .i64),(4,.own (.op 851972 0)),(9,.int .i64)],bk:=[(851972,.box [.rs 4,.rs 3,.rs 8,.rs 5,.rs 4,.rs 6,.int .i64,.int .i64,.int .i64])]}
def L9:dM:={an:=[(1,.int .i64),(2,.int .i64),(3,.int .i64),(4,.own (.op 851972 0)),(9,.int .i64),(10,.int .i64),(11,.int .i64)],bk:=[(851972,.box [.rs 4,.rs 3,.rs 8,.rs 5,.rs 4,.rs 6,.int .i64,.int .i64,.int .i64])]}
def I9:dM:={an:=[(1,.int .i64),(2,.own (.op 659458 0)),(5,.own (.op 659461 0)),(8,.int .i64)],bk:=[(659458,.box [.rs 4,.rs 3,.rs 8,.rs 5,.rs 4,.rs 6,.int .i64,.int .i64,.int .i64]),(659461,.box [.raw,.raw,.raw,.raw,.raw])]}
def Ja:dM:={an:=[(1,.int .i64),(2,.own (.op 659458 0)),(5,.own (.op 659461 0)),(10,.int .i64)],bk:=[(659458,.box [.rs 4,.rs 3,.rs 8,.rs 5,.rs 4,.rs 6,.int .i64,.int .i64,.int .i64]),(659461,.box [.raw,.raw,.raw,.raw,.raw])]}
def Ma:dM:={an:=[(0,.rs 4),(1,.int .i64),(2,.bool),(7,.own (.os 978960)),(8,.int .i64)],bk:=[(978960,.nest 1 94)],nz:=[978960]}
def Mb:dM:={an:=[(0,.rs 4),(1,.int .i64),(2,.bool),(7,.own (.os 978960)),(8,.int .i64),(9,.own (.os 978966)),(10,.int .i64)],bk:=[(978960,.nest 1 94),(978966,.arr 1 3)],nz:=[978960]}
def Jb:dM:={an:=[(0,.rs 4),(1,.int .i64),(2,.bool),(7,.own (.os 978960)),(11,.int .i64)],bk:=[(978960,.nest 1 94)],nz:=[978960]}
def Jc:dM:={an:=[(1,.int .i64),(7,.own (.os 978960)),(13,.int .i64)],bk:=[(978960,.nest 1 94)],nz:=[978960]}
def Jd:dM:={an:=[(1,.int .i64),(7,.own (.os 978960)),(13,.int .i64),(14,.int .i64)],bk:=[(978960,.nest 1 94)],nz:=[978960]}
def Je:dM:={an:=[(1,.int .i64),(7,.own (.os 978960)),(13,.int .i64),(14,.int .i64),(15,.int .i64)],bk:=[(978960,.nest 1 94)],nz:=[978960]}
def Mc:dM:={an:=[(1,.int .i64),(5,.rs 1),(6,.rs 1),(7,.own (.os 856080)),(8,.int .i64)],bk:=[(856080,.arr 4 150)]}
def Md:dM:={an:=[(1,.int .i64),(5,.rs 1),(6,.rs 1),(7,.own (.os 856080)),(8,.int .i64),(9,.int .i64)],bk:=[(856080,.arr 4 150)]}
def Me:dM:={an:=[(1,.own (.op 663553 0)),(4,.int .i64)],bk:=[(663553,.box [.rs 4,.rs 3,.rs 8,.rs 5,.rs 4,.rs 6,.int .i64,.int .i64,.int .i64])]}
def Jf:dM:={an:=[(1,.own (.op 663553 0)),(4,.int .i64),(5,.own (.op 663557 0)),(6,.int .i64)],bk:=[(663553,.box [.rs 4,.rs 3,.rs 8,.rs 5,.rs 4,.rs 6,.int .i64,.int .i64,.int .i64]),(663557,.box [.raw,.raw,.raw,.raw])]}
def Jg:dM:={an:=[(1,.own (.op 663553 0)),(8,.rs 4),(9,.int .i64)],bk:=[(663553,.box [.rs 4,.rs 3,.rs 8,.rs 5,.rs 4,.rs 6,.int .i64,.int .i64,.int .i64])]}
def Mf:dM:={an:=[(0,.rs 3),(4,.int .i64)],bk:=[]}
def Mg:dM:={an:=[(0,.rs 3),(4,.int .i64),(5,.int .i64)],bk:=[]}
def Mh:dM:={an:=[(0,.rs 5),(1,.int .i64),(2,.int .i64),(3,.int .i64),(9,.int .i64)],bk:=[]}
def Jh:dM:={an:=[(1,.int .i64),(2,.own (.op 655362 0)),(5,.own (.op 655365 0)),(7,.int .i64)],bk:=[(655362,.box [.rs 4,.rs 3,.rs 8,.rs 5,.rs 4,.rs 6,.int .i64,.int .i64,.int .i64]),(655365,.box [.raw,.raw,.raw,.raw,.raw,.raw,.raw,.raw])]}
def Mi:dM:={an:=[(0,.rs 4),(4,.int .i64)],bk:=[]}
def Mj:dM:={an:=[(0,.rs 4),(4,.int .i64),(5,.int .i64)],bk:=[]}
def Ji:dM:={an:=[(1,.own (.op 421889 0)),(7,.int .i64)],bk:=[(421889,.box [.rs 4,.rs 3,.rs 8,.rs 5,.rs 4,.rs 6,.int .i64,.int .i64,.int .i64])]}
def Jj:dM:={an:=[(1,.own (.op 421889 0)),(8,.int .i64)],bk:=[(421889,.box [.rs 4,.rs 3,.rs 8,.rs 5,.rs 4,.rs 6,.int .i64,.int .i64,.int .i64])]}
def Qg:dM:={an:=[(0,.rs 4),(1,.int .i64),(5,.int .i64),(6,.int .i64)],bk:=[]}
def Ts:dM:={an:=[(3,.own (.op 32771 0)),(4,.own (.op 32772 0)),(5,.own (.op 32773 0)),(7,.int .i64)],bk:=[(32771,.box [.rs 4,.rs 3,.rs 10,.rs 3,.rs 5,.rs 4,.rs 2,.rs 3,.rs 4,.rs 6,.int .i64,.int .i64,.int .i64]),(32772,.box [.rs 4,.rs 3,.rs 8,.rs 5,.rs 4,.rs 6,.int .i64,.int .i64,.int .i64]),(32773,.box [.rs 9,.int .i64,.int .i64,.int .i64,.int .i64,.int .i64,.rs 4])]}
def Qh:dM:={an:=[(4,.own (.op 32772 0)),(8,.int .i64)],bk:=[(32772,.box [.rs 4,.rs 3,.rs 8,.rs 5,.rs 4,.rs 6,.int .i64,.int .i64,.int .i64])]}
def Qi:dM:={an:=[(0,.int .i64),(3,.str)],bk:=[]}
def Qj:dM:={an:=[(0,.int .i64),(4,.str)],bk:=[]}
def hints(f k:Nat):List dM:=
 bif Nat.beq f 237 then(bif Nat.beq k 3 then[Lw]else[])else
 bif Nat.beq f 78 then(bif Nat.beq k 6 then[PO]else[])else
 bif Nat.beq f 77 then(bif Nat.beq k 7 then[PQ]else[])else
 bif Nat.beq f 76 then(bif Nat.beq k 4 then[PR]else[])else
 bif Nat.beq f 1275162806 then(bif Nat.beq k 2 then[yV]else[])else
 bif Nat.beq f 358926421122451700293759 then(bif Nat.beq k 2 then[mH]else[])else
 bif Nat.beq f 75 then(bif Nat.beq k 2 then[PS]else[])else
 bif Nat.beq f 25 then(bif Nat.beq k 4 then[PT]else[])else
 bif Nat.beq f 26 then(bif Nat.beq k 3 then[PU]else[])else
 bif Nat.beq f 131 then(bif Nat.beq k 2 then[Lx]else[])else
 bif Nat.beq f 73 then(bif Nat.beq k 2 then[PW]else[])else
 bif Nat.beq f 156 then(bif Nat.beq k 2 then[Ly]else[])else
 bif Nat.beq f 99 then(bif Nat.beq k 6 then[PX]else[])else
 bif Nat.beq f 246 then(bif Nat.beq k 7 then[Lz]else bif Nat.beq k 15 then[I2]else[])else
 bif Nat.beq f 249 then(bif Nat.beq k 3 then[LA]else bif Nat.beq k 9 then[LB]else bif Nat.beq k 15 then[I3,I4]else[])else
 bif Nat.beq f 4177654023 then(bif Nat.beq k 5 then[yW]else[])else
 bif Nat.beq f 70089610092486929 then(bif Nat.beq k 1 then[q8]else[])else
 bif Nat.beq f 4177854727 then(bif Nat.beq k 5 then[yX]else[])else
 bif Nat.beq f 248 then(bif Nat.beq k 3 then[LC]else[])else
 bif Nat.beq f 247 then(bif Nat.beq k 3 then[LD]else[])else
 bif Nat.beq f 242 then(bif Nat.beq k 7 then[LF]else[])else
 bif Nat.beq f 233 then(bif Nat.beq k 3 then[LG]else bif Nat.beq k 13 then[I5]else[])else
 bif Nat.beq f 204 then(bif Nat.beq k 5 then[LH]else bif Nat.beq k 8 then[LI]else[])else
 bif Nat.beq f 116 then(bif Nat.beq k 3 then[LJ]else[])else
 bif Nat.beq f 157 then(bif Nat.beq k 10 then[I6]else[])else
 bif Nat.beq f 100 then(bif Nat.beq k 3 then[LK]else[])else
 bif Nat.beq f 108 then(bif Nat.beq k 4 then[LL]else[])else
 bif Nat.beq f 105 then(bif Nat.beq k 2 then[LM]else[])else
 bif Nat.beq f 98 then(bif Nat.beq k 5 then[PY]else[])else
 bif Nat.beq f 96 then(bif Nat.beq k 2 then[PZ]else[])else
 bif Nat.beq f 66 then(bif Nat.beq k 7 then[P0]else[])else
 bif Nat.beq f 50 then(bif Nat.beq k 5 then[P1]else[])else
 bif Nat.beq f 48 then(bif Nat.beq k 5 then[P2]else[])else
 bif Nat.beq f 179 then(bif Nat.beq k 7 then[LN]else[])else
 bif Nat.beq f 125 then(bif Nat.beq k 6 then[LO]else bif Nat.beq k 9 then[LP]else bif Nat.beq k 12 then[I7]else[])else
 bif Nat.beq f 71 then(bif Nat.beq k 9 then[P3]else[])else
 bif Nat.beq f 122 then(bif Nat.beq k 3 then[LQ]else[])else
 bif Nat.beq f 121 then(bif Nat.beq k 3 then[LR]else[])else
 bif Nat.beq f 70 then(bif Nat.beq k 8 then[P4]else[])else
 bif Nat.beq f 72 then(bif Nat.beq k 3 then[P5]else[])else
 bif Nat.beq f 69 then(bif Nat.beq k 4 then[P6]else[])else
 bif Nat.beq f 217 then(bif Nat.beq k 3 then[LS]else[])else
 bif Nat.beq f 213 then(bif Nat.beq k 6 then[LU]else[])else
 bif Nat.beq f 68 then(bif Nat.beq k 3 then[P7]else[])else
 bif Nat.beq f 52 then(bif Nat.beq k 5 then[P8]else[])else
 bif Nat.beq f 54 then(bif Nat.beq k 5 then[P9]else[])else
 bif Nat.beq f 56 then(bif Nat.beq k 5 then[Qa]else[])else
 bif Nat.beq f 58 then(bif Nat.beq k 4 then[Qb]else bif Nat.beq k 12 then[LV]else[])else
 bif Nat.beq f 210 then(bif Nat.beq k 2 then[LW]else[])else
 bif Nat.beq f 167 then(bif Nat.beq k 3 then[LX]else[])else
 bif Nat.beq f 114 then(bif Nat.beq k 2 then[LY]else[])else
 bif Nat.beq f 60 then(bif Nat.beq k 5 then[Qc]else[])else
 bif Nat.beq f 168 then(bif Nat.beq k 2 then[LZ]else[])else
 bif Nat.beq f 169 then(bif Nat.beq k 2 then[L2]else[])else
 bif Nat.beq f 62 then(bif Nat.beq k 5 then[Qd]else[])else
 bif Nat.beq f 10 then(bif Nat.beq k 15 then[L3]else bif Nat.beq k 21 then[L4]else[])else
 bif Nat.beq f 101 then(bif Nat.beq k 2 then[L5]else[])else
 bif Nat.beq f 13 then(bif Nat.beq k 4 then[Qe]else[])else
 bif Nat.beq f 12 then(bif Nat.beq k 4 then[Qf]else[])else
 bif Nat.beq f 205 then(bif Nat.beq k 4 then[L6]else[])else
 bif Nat.beq f 163 then(bif Nat.beq k 6 then[L7]else bif Nat.beq k 12 then[I8]else[])else
 bif Nat.beq f 208 then(bif Nat.beq k 2 then[L8]else bif Nat.beq k 6 then[L9]else[])else
 bif Nat.beq f 161 then(bif Nat.beq k 12 then[I9]else bif Nat.beq k 20 then[Ja]else[])else
 bif Nat.beq f 239 then(bif Nat.beq k 3 then[Ma]else bif Nat.beq k 7 then[Mb]else bif Nat.beq k 12 then[Jb]else bif Nat.beq k 18 then[Jc]else bif Nat.beq k 21 then[Jd]else bif Nat.beq k 24 then[Je]else[])else
 bif Nat.beq f 209 then(bif Nat.beq k 4 then[Mc]else bif Nat.beq k 7 then[Md]else[])else
 bif Nat.beq f 162 then(bif Nat.beq k 2 then[Me]else bif Nat.beq k 10 then[Jf]else bif Nat.beq k 19 then[Jg]else[])else
 bif Nat.beq f 159 then(bif Nat.beq k 4 then[Mf]else bif Nat.beq k 9 then[Mg]else[])else
 bif Nat.beq f 207 then(bif Nat.beq k 4 then[Mh]else[])else
 bif Nat.beq f 160 then(bif Nat.beq k 14 then[Jh]else[])else
 bif Nat.beq f 158 then(bif Nat.beq k 4 then[Mi]else bif Nat.beq k 9 then[Mj]else[])else
 bif Nat.beq f 103 then(bif Nat.beq k 10 then[Ji]else bif Nat.beq k 18 then[Jj]else[])else
 bif Nat.beq f 18 then(bif Nat.beq k 5 then[Qg]else[])else
 bif Nat.beq f 8 then(bif Nat.beq k 4 then[Ts]else bif Nat.beq k 11 then[Qh]else[])else
 bif Nat.beq f 43 then(bif Nat.beq k 3 then[Qi]else bif Nat.beq k 8 then[Qj]else[])else
 []
def S0:qZ:={P:=Tryz.prog,aF:=fun _=>none,hint:=hints,Ay:=fun s=>Nat.beq s 290824||Nat.beq s 512004||Nat.beq s 512005||Nat.beq s 978977||Nat.beq s 978978||Nat.beq s 978999||Nat.beq s 979006||Nat.beq s 979033||Nat.beq s 979038||Nat.beq s 979045||Nat.beq s 979052||Nat.beq s 983039||Nat.beq s 1011720||Nat.beq s 1011740||Nat.beq s 1015807}
def XN(g:Nat):Option (List PV→Option PV):=bif Nat.beq g 236 then some bP else none
def S:qZ:={P:=Tryz.prog,aF:=fun _=>none,hint:=hints,Nk:=fun g=>bif Nat.beq g 235 then some (wY 4 XN)else none,Ay:=fun s=>Nat.beq s 290824||Nat.beq s 512004||Nat.beq s 512005||Nat.beq s 978977||Nat.beq s 978978||Nat.beq s 978999||Nat.beq s 979006||Nat.beq s 979033||Nat.beq s 979038||Nat.beq s 979045||Nat.beq s 979052||Nat.beq s 983039||Nat.beq s 1011720||Nat.beq s 1011740||Nat.beq s 1015807}
def ZE:bX:=[]
def ae:bX:=[]
def Vv:bX:=(223,QS)::ZE
def Vy:bX:=(238,dK)::Vv
def VA:bX:=(237,mA)::Vy
def Q7:bX:=(236,bP)::VA
def Vw:bX:=(107,il)::Q7
def Vz:bX:=(130,qP)::Vw
def VB:bX:=(78,iW)::Vz
def VC:bX:=(74,mB)::VB
def Vx:bX:=(183,eZ)::VC
def N0:bX:=(184,nf)::Vx
def Oo:bX:=(129,iX)::N0
def OP:bX:=(77,gb)::Oo
def ND:bX:=(109,iY)::OP
def N1:bX:=(76,iH)::ND
def Oq:bX:=(75,eG)::N1
def OQ:bX:=(29,mC)::Oq
def NF:bX:=(25,iI)::OQ
def N2:bX:=(79,iJ)::NF
def Ot:bX:=(26,oC)::N2
def OR:bX:=(131,iK)::Ot
def NG:bX:=(73,iL)::OR
def N3:bX:=(118,bt)::NG
def Ou:bX:=(156,iy)::N3
def OS:bX:=(97,aY)::Ou
def NH:bX:=(155,cy)::OS
def N4:bX:=(99,dA)::NH
def Ov:bX:=(260,dv)::N4
def OT:bX:=(246,gI)::Ov
def NI:bX:=(262,fR)::OT
def N5:bX:=(270,aN)::NI
def Ow:bX:=(249,eQ)::N5
def OU:bX:=(248,fE)::Ow
def NJ:bX:=(247,eF)::OU
def N6:bX:=(242,fG)::NJ
def Ox:bX:=(233,dC)::N6
def OV:bX:=(204,eg)::Ox
def NK:bX:=(116,fl)::OV
def N7:bX:=(157,eX)::NK
def Oy:bX:=(100,cg)::N7
def OW:bX:=(164,qH)::Oy
def NL:bX:=(108,jH)::OW
def N8:bX:=(105,dG)::NL
def Oz:bX:=(98,eY)::N8
def OX:bX:=(96,dt)::Oz
def NM:bX:=(117,bM)::OX
def N9:bX:=(66,cS)::NM
def OA:bX:=(106,nE)::N9
def OY:bX:=(50,iD)::OA
def NN:bX:=(48,jF)::OY
def Oa:bX:=(38,dP)::NN
def OB:bX:=(67,dZ)::Oa
def OZ:bX:=(126,sm)::OB
def NO:bX:=(181,kY)::OZ
def Ob:bX:=(225,sn)::NO
def OC:bX:=(180,kZ)::Ob
def O0:bX:=(222,im)::OC
def NP:bX:=(224,jZ)::O0
def Oc:bX:=(220,oD)::NP
def OD:bX:=(179,ng)::Oc
def O1:bX:=(125,so)::OD
def NQ:bX:=(124,tZ)::O1
def Od:bX:=(71,ua)::NQ
def OE:bX:=(177,pk)::Od
def O2:bX:=(122,wC)::OE
def NR:bX:=(123,nh)::O2
def Oe:bX:=(176,mD)::NR
def OG:bX:=(121,oE)::Oe
def O3:bX:=(70,iv)::OG
def NS:bX:=(72,jq)::O3
def Of:bX:=(24,gF)::NS
def OH:bX:=(69,jo)::Of
def O4:bX:=(215,aK)::OH
def NT:bX:=(216,cE)::O4
def Og:bX:=(217,dW)::NT
def OI:bX:=(174,fL)::Og
def O5:bX:=(172,gh)::OI
def NU:bX:=(173,gJ)::O5
def Oh:bX:=(218,dX)::NU
def OJ:bX:=(219,eS)::Oh
def O6:bX:=(175,gi)::OJ
def NV:bX:=(212,fH)::O6
def Oi:bX:=(211,eH)::NV
def OK:bX:=(240,gj)::Oi
def O7:bX:=(214,gK)::OK
def NW:bX:=(213,gL)::O7
def Oj:bX:=(171,iq)::NW
def OL:bX:=(119,gk)::Oj
def O8:bX:=(68,oF)::OL
def NX:bX:=(23,gG)::O8
def Ol:bX:=(47,j1)::NX
def OM:bX:=(65,ju)::Ol
def O9:bX:=(49,j2)::OM
def NY:bX:=(52,ni)::O9
def Om:bX:=(51,j3)::NY
def ON:bX:=(54,fI)::Om
def Pa:bX:=(53,j4)::ON
def NZ:bX:=(56,ub)::Pa
def On:bX:=(55,j5)::NZ
def OO:bX:=(111,gd)::On
def Ic:bX:=(165,nj)::OO
def Hv:bX:=(110,nk)::Ic
def HJ:bX:=(58,mE)::Hv
def HY:bX:=(57,j6)::HJ
def Ie:bX:=(113,mF)::HY
def Hw:bX:=(210,qQ)::Ie
def HK:bX:=(167,oG)::Hw
def HZ:bX:=(114,oH)::HK
def Ig:bX:=(166,jJ)::HZ
def Hx:bX:=(112,mG)::Ig
def HL:bX:=(60,oI)::Hx
def H0:bX:=(59,j7)::HL
def Ih:bX:=(168,j8)::H0
def Hy:bX:=(169,k8)::Ih
def HM:bX:=(115,oJ)::Hy
def H2:bX:=(62,fM)::HM
def Ii:bX:=(61,j9)::H2
def Hz:bX:=(64,nm)::Ii
def HN:bX:=(63,kc)::Hz
def H3:bX:=(22,iR)::HN
def Ij:bX:=(10,fQ)::H3
def HA:bX:=(101,cV)::Ij
def HO:bX:=(40,aX)::HA
def H4:bX:=(39,gD)::HO
def Ik:bX:=(102,fY)::H4
def HB:bX:=(41,fA)::Ik
def HP:bX:=(15,cq)::HB
def H5:bX:=(13,ef)::HP
def Il:bX:=(19,iZ)::H5
def HC:bX:=(20,oK)::Il
def HQ:bX:=(21,qR)::HC
def H6:bX:=(12,uc)::HQ
def HR:bX:=(9,bN)::H6
def H7:bX:=(45,sq)::HR
def Im:bX:=(46,sr)::H7
def HD:bX:=(205,dQ)::Im
def HS:bX:=(206,bD)::HD
def H8:bX:=(163,ku)::HS
def Io:bX:=(208,ky)::H8
def HE:bX:=(161,ml)::Io
def HT:bX:=(239,fm)::HE
def H9:bX:=(209,fB)::HT
def Ip:bX:=(162,kx)::H9
def HF:bX:=(159,jr)::Ip
def HU:bX:=(207,kv)::HF
def Ia:bX:=(160,nW)::HU
def Iq:bX:=(158,kr)::Ia
def HG:bX:=(103,kz)::Iq
def HH:bX:=(42,kq)::HG
def HV:bX:=(18,ud)::HH
def HW:bX:=(8,iC)::HV
def Ib:bX:=(104,iB)::HW
def Ir:bX:=(43,aZ)::Ib
def HI:bX:=(44,hU)::Ir
def HX:bX:=(16,ep)::HI
def Rx:bX:=(5,dz)::HX
end
end Go.Proofs.YtmbihgjlollbeaaGreat
