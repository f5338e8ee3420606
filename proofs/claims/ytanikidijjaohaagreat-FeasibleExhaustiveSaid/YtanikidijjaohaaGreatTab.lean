import Derived.Test.YtanikidijjaohaaGreatProg
import Derived.Test.YtanikidijjaohaaGreatAbSeat
import Derived.Test.YtanikidijjaohaaGreatSh3
import Derived.KernelRfl
namespace Go.Proofs.YtanikidijjaohaaGreat
noncomputable section
open Go.Ab
set_option maxRecDepth 100000
def Nh:eA:={ax:=[(3,.int .i64),(6,.rs 1),(7,.int .i64),(8,.int .i64)],bD:=[]}
def Ru:eA:={ax:=[(0,.raw),(2,.int .i64),(7,.int .i64),(8,.bool)],bD:=[]}
def Rv:eA:={ax:=[(1,.own (.op 176129 0)),(2,.own (.op 176130 0)),(3,.own (.om 176146)),(4,.own (.om 176147)),(5,.own (.om 176148)),(22,.rs 5),(23,.int .i64),(24,.int .i64)],bD:=[(176129,.box [.rs 4,.rs 3,.rs 8,.rs 5,.rs 4,.rs 6,.int .i64,.int .i64,.int .i64]),(176130,.box [.int .i64,.int .i64,.int .i64]),(176146,.map 3),(176147,.map 3),(176148,.map 113)]}
def Ni:eA:={ax:=[(2,.rs 1),(7,.own (.fn 154 [.op 573443 0])),(22,.rs 3),(23,.int .i64),(24,.int .i64)],bD:=[(573443,.box [.int .i64])]}
def KL:eA:={ax:=[(7,.own (.fn 154 [.op 573443 0])),(47,.rs 1),(48,.int .i64),(49,.int .i64)],bD:=[(573443,.box [.int .i64])]}
def Nj:eA:={ax:=[(1,.raw),(2,.int .i64),(7,.own (.os 585743)),(17,.int .i64),(18,.int .i64)],bD:=[(585743,.arr 3 204)]}
def AJ:eA:={ax:=[(0,.own (.op 9827338792967 0)),(4,.int .i64),(55,.raw),(61,.own (.os 585743)),(63,.own (.op 9827338792967 0))],bD:=[(9827338792967,.box [.own (.fn 156 []),.own (.os 3213876088517980551083924184682325205044405987575413009395719),.int .i64]),(585743,.arr 3 204),(3213876088517980551083924184682325205044405987575413009395719,.arr 4 221)]}
def Nk:eA:={ax:=[(1,.raw),(7,.own (.os 585743)),(9,.own (.op 9827338792967 0))],bD:=[(585743,.arr 3 204),(9827338792967,.box [.own (.fn 156 []),.own (.os 3213876088517980551083924184682325205044405987575413009395719),.int .i64]),(3213876088517980551083924184682325205044405987575413009395719,.arr 4 221)]}
def te:eA:={ax:=[(0,.own (.op 9827338792967 0)),(2,.int .i64),(43,.own (.op 9827456245762 0)),(45,.own (.op 9827456245764 0)),(78,.raw),(84,.own (.os 585743)),(86,.own (.op 9827338792967 0))],bD:=[(9827338792967,.box [.own (.fn 156 []),.own (.os 3213876088517980551083924184682325205044405987575413009395719),.int .i64]),(9827456245762,.box [.int .i64,.int .i64,.int .i64]),(9827456245764,.box [.raw,.raw,.raw]),(585743,.arr 3 204),(3213876088517980551083924184682325205044405987575413009395719,.arr 4 221)],ct:=[(9827338792967,1)]}
def KM:eA:={ax:=[(1,.raw),(7,.own (.os 585743)),(9,.own (.op 9827338792967 0)),(10,.own (.op 585738 0)),(55,.rs 0),(56,.int .i64),(57,.int .i64)],bD:=[(585743,.arr 3 204),(9827338792967,.box [.own (.fn 156 []),.own (.os 3213876088517980551083924184682325205044405987575413009395719),.int .i64]),(585738,.box [.raw,.raw,.raw]),(3213876088517980551083924184682325205044405987575413009395719,.arr 4 221)]}
def KN:eA:={ax:=[(1,.raw),(7,.own (.os 585743)),(9,.own (.op 9827338792967 0)),(10,.own (.op 585738 0)),(55,.rs 3),(56,.int .i64),(57,.int .i64)],bD:=[(585743,.arr 3 204),(9827338792967,.box [.own (.fn 156 []),.own (.os 3213876088517980551083924184682325205044405987575413009395719),.int .i64]),(585738,.box [.raw,.raw,.raw]),(3213876088517980551083924184682325205044405987575413009395719,.arr 4 221)]}
def AK:eA:={ax:=[(0,.own (.op 9827338792967 0)),(4,.int .i64),(55,.raw),(61,.own (.os 585743)),(63,.own (.op 9827338792967 0)),(64,.own (.op 585738 0)),(109,.rs 3),(110,.int .i64),(111,.int .i64)],bD:=[(9827338792967,.box [.own (.fn 156 []),.own (.os 3213876088517980551083924184682325205044405987575413009395719),.int .i64]),(585743,.arr 3 204),(585738,.box [.raw,.raw,.raw]),(3213876088517980551083924184682325205044405987575413009395719,.arr 4 221)]}
def Nl:eA:={ax:=[(3,.own (.os 581640)),(9,.rs 3),(10,.int .i64),(11,.int .i64)],bD:=[(581640,.arr 1 3)]}
def Nn:eA:={ax:=[(1,.bool),(5,.own (.om 577544)),(9,.rs 3),(10,.int .i64),(11,.int .i64)],bD:=[(577544,.fv 3 177)]}
def Np:eA:={ax:=[(0,.int .i64),(7,.raw),(8,.own (.os 532499)),(21,.int .i64),(22,.int .i64)],bD:=[(532499,.arr 1 165)]}
def Nq:eA:={ax:=[(1,.int .i64),(2,.bool),(7,.own (.om 471058)),(19,.rs 4),(20,.int .i64),(21,.int .i64)],bD:=[(471058,.map 161)]}
def KO:eA:={ax:=[(1,.int .i64),(13,.own (.os 471097)),(59,.own (.it 471099))],bD:=[(471097,.arr 3 177),(471099,.iter 174)]}
def Rw:eA:={ax:=[(5,.rs 1),(6,.rs 1),(7,.own (.op 397319 0)),(8,.own (.fn 116 [.op 397319 0])),(21,.int .i64),(22,.int .i64)],bD:=[(397319,.box [.own (.os 1606938044258990275541962092341162602522202993782792835698695)]),(1606938044258990275541962092341162602522202993782792835698695,.arr 4 98)]}
def Rx:eA:={ax:=[(5,.rs 1),(6,.rs 1),(7,.own (.op 397319 0)),(8,.own (.fn 116 [.op 397319 0])),(9,.int .i64),(21,.int .i64),(22,.int .i64),(28,.rs 1),(29,.int .i64),(30,.int .i64)],bD:=[(397319,.box [.own (.os 1606938044258990275541962092341162602522202993782792835698695)]),(1606938044258990275541962092341162602522202993782792835698695,.arr 4 98)]}
def Ry:eA:={ax:=[(1,.int .i64),(6,.own (.om 393226)),(11,.rs 4),(12,.int .i64),(13,.int .i64)],bD:=[(393226,.map 161)]}
def Nr:eA:={ax:=[(0,.rs 4),(7,.rs 4),(29,.int .i64),(30,.int .i64)],bD:=[]}
def Rz:eA:={ax:=[(1,.own (.op 184321 0)),(2,.own (.op 184322 0)),(3,.own (.om 184327)),(9,.rs 4),(10,.int .i64),(11,.int .i64)],bD:=[(184321,.box [.rs 4,.rs 3,.rs 8,.rs 5,.rs 4,.rs 6,.int .i64,.int .i64,.int .i64]),(184322,.box [.int .i64,.int .i64,.int .i64]),(184327,.map 98)]}
def RA:eA:={ax:=[(0,.rs 5),(1,.int .i64),(2,.int .i64),(3,.int .i64),(21,.int .i64),(22,.int .i64)],bD:=[]}
def RB:eA:={ax:=[(0,.str),(3,.int .i64)],bD:=[]}
def RC:eA:={ax:=[(1,.own (.op 172033 0)),(2,.own (.op 172034 0)),(3,.own (.om 172046)),(16,.rs 8),(17,.int .i64),(18,.int .i64)],bD:=[(172033,.box [.rs 4,.rs 3,.rs 8,.rs 5,.rs 4,.rs 6,.int .i64,.int .i64,.int .i64]),(172034,.box [.int .i64,.int .i64,.int .i64]),(172046,.map 108)]}
def RD:eA:={ax:=[(2,.own (.op 163842 0)),(5,.rs 3),(6,.int .i64),(7,.int .i64)],bD:=[(163842,.box [.int .i64,.int .i64,.int .i64])]}
def RE:eA:={ax:=[(4,.own (.om 180251)),(29,.rs 6),(30,.int .i64),(31,.int .i64)],bD:=[(180251,.map 9)]}
def RF:eA:={ax:=[(4,.own (.om 159754)),(11,.rs 3),(12,.int .i64),(13,.int .i64)],bD:=[(159754,.map 9)]}
def RG:eA:={ax:=[(4,.own (.om 155658)),(11,.rs 4),(12,.int .i64),(13,.int .i64)],bD:=[(155658,.map 9)]}
def Ns:eA:={ax:=[(2,.own (.op 512002 0)),(6,.own (.op 512006 0)),(7,.own (.op 512007 0)),(8,.own (.fn 135 [.op 512006 0,.op 512007 0])),(37,.rs 4),(38,.int .i64),(39,.int .i64)],bD:=[(512002,.box [.str,.int .i64,.int .i64,.int .i64,.int .i64,.int .i64]),(512006,.box [.int IntKind.u64]),(512007,.box [.int IntKind.u64])]}
def Nt:eA:={ax:=[(2,.own (.op 450562 0)),(4,.own (.oe 450564 0 0)),(5,.own (.oe 450565 0 0)),(6,.int .i64),(7,.own (.fn 124 [.op 450562 0,.op 450563 0,.oe 450565 0 0])),(8,.int .i64)],bD:=[(450562,.box [.rs 6,.int .i64,.int .i64,.int .i64]),(450564,.arr 7 150),(450565,.arr 7 150),(450563,.box [.rs 4])]}
def Nu:eA:={ax:=[(2,.own (.op 450562 0)),(4,.own (.oe 450564 0 0)),(5,.own (.oe 450565 0 0)),(6,.int .i64),(7,.own (.fn 124 [.op 450562 0,.op 450563 0,.oe 450565 0 0])),(8,.int .i64),(9,.int .i64)],bD:=[(450562,.box [.rs 6,.int .i64,.int .i64,.int .i64]),(450564,.arr 7 150),(450565,.arr 7 150),(450563,.box [.rs 4])]}
def KP:eA:={ax:=[(2,.own (.op 450562 0)),(4,.own (.oe 450564 0 0)),(5,.own (.oe 450565 0 0)),(6,.int .i64),(7,.own (.fn 124 [.op 450562 0,.op 450563 0,.oe 450565 0 0])),(8,.int .i64),(9,.int .i64),(31,.int .i64),(32,.int .i64)],bD:=[(450562,.box [.rs 6,.int .i64,.int .i64,.int .i64]),(450564,.arr 7 150),(450565,.arr 7 150),(450563,.box [.rs 4])]}
def RH:eA:={ax:=[(1,.rs 4),(2,.own (.op 352258 0)),(8,.own (.oe 352264 0 0)),(9,.own (.os 352265)),(10,.int .i64)],bD:=[(352258,.box [.rs 6,.int .i64,.int .i64,.int .i64]),(352264,.arr 7 150),(352265,.arr 4 148)]}
def Nv:eA:={ax:=[(3,.int IntKind.u64),(6,.rs 1),(7,.int .i64),(8,.int .i64)],bD:=[]}
def Ny:eA:={ax:=[(2,.own (.op 434178 0)),(5,.int IntKind.u64),(20,.rs 5),(21,.int .i64),(22,.int .i64)],bD:=[(434178,.box [.rs 4,.rs 3,.rs 8,.rs 5,.rs 4,.rs 6,.int .i64,.int .i64,.int .i64])]}
def RI:eA:={ax:=[(2,.own (.op 348162 0)),(9,.own (.op 348169 0)),(10,.own (.fn 105 [.op 348162 0,.op 348169 0])),(11,.bool),(24,.rs 9),(25,.int .i64),(26,.int .i64)],bD:=[(348162,.box [.rs 4,.rs 3,.rs 8,.rs 5,.rs 4,.rs 6,.int .i64,.int .i64,.int .i64]),(348169,.box [.own (.os 1606938044258990275541962092341162602522202993782792835649545)]),(1606938044258990275541962092341162602522202993782792835649545,.arr 4 143)]}
def RJ:eA:={ax:=[(3,.int .i64),(7,.rs 9),(8,.int .i64),(9,.int .i64)],bD:=[]}
def RK:eA:={ax:=[(3,.own (.op 114691 0)),(4,.own (.op 114692 0)),(5,.own (.op 114693 0)),(7,.own (.op 114695 0)),(8,.int .i64),(23,.rs 9),(24,.int .i64),(25,.int .i64)],bD:=[(114691,.box [.rs 4,.rs 3,.rs 8,.rs 5,.rs 4,.rs 6,.int .i64,.int .i64,.int .i64]),(114692,.box [.int .i64,.int .i64,.int .i64,.bool,.int .i64,.int .i64,.bool,.bool,.int .i64,.bool]),(114693,.box [.rs 9]),(114695,.box [.raw,.raw,.raw,.raw,.raw,.raw,.raw,.raw,.raw])]}
def Nz:eA:={ax:=[(1,.bool),(5,.own (.op 425989 0)),(6,.own (.op 425990 0)),(15,.rs 5),(16,.int .i64),(17,.int .i64)],bD:=[(425989,.box [.raw,.raw,.raw,.raw,.raw,.raw,.raw,.raw,.raw]),(425990,.box [.raw,.raw,.raw,.raw,.raw,.raw,.raw,.raw,.raw])]}
def RL:eA:={ax:=[(1,.own (.op 241665 0)),(3,.own (.op 241667 0)),(4,.int .i64),(13,.rs 4),(14,.int .i64),(15,.int .i64)],bD:=[(241665,.box [.rs 4,.rs 3,.rs 8,.rs 5,.rs 4,.rs 6,.int .i64,.int .i64,.int .i64,.int .i64,.int .i64,.int .i64,.bool,.int .i64,.int .i64,.bool,.bool,.int .i64,.bool,.rs 9,.int .i64]),(241667,.box [.raw,.raw,.raw,.raw,.raw,.raw,.raw,.raw,.raw])]}
def RM:eA:={ax:=[(5,.own (.op 110597 0)),(8,.own (.op 110600 0))],bD:=[(110597,.box [.rs 9]),(110600,.box [.rs 4,.rs 3,.rs 8,.rs 5,.rs 4,.rs 6,.int .i64,.int .i64,.int .i64,.int .i64,.int .i64,.int .i64,.bool,.int .i64,.int .i64,.bool,.bool,.int .i64,.bool,.rs 9,.int .i64])]}
def RN:eA:={ax:=[(0,.str),(3,.int .i64)],bD:=[]}
def RO:eA:={ax:=[(1,.own (.op 327681 0)),(4,.int .i64)],bD:=[(327681,.box [.rs 6,.int .i64,.int .i64,.int .i64])]}
def NA:eA:={ax:=[(1,.own (.op 327681 0)),(4,.int .i64),(5,.own (.op 327685 0)),(6,.int .i64)],bD:=[(327681,.box [.rs 6,.int .i64,.int .i64,.int .i64]),(327685,.box [.raw,.raw,.raw,.raw,.raw,.raw])]}
def NB:eA:={ax:=[(1,.int .i64),(2,.int .i64),(3,.int .i64),(4,.own (.op 413700 0)),(9,.int .i64)],bD:=[(413700,.box [.rs 4,.rs 3,.rs 8,.rs 5,.rs 4,.rs 6,.int .i64,.int .i64,.int .i64])]}
def NC:eA:={ax:=[(1,.int .i64),(2,.int .i64),(3,.int .i64),(4,.own (.op 413700 0)),(9,.int .i64),(10,.int .i64),(11,.int .i64)],bD:=[(413700,.box [.rs 4,.rs 3,.rs 8,.rs 5,.rs 4,.rs 6,.int .i64,.int .i64,.int .i64])]}
def ND:eA:={ax:=[(1,.int .i64),(2,.own (.op 319490 0)),(5,.own (.op 319493 0)),(8,.int .i64)],bD:=[(319490,.box [.rs 4,.rs 3,.rs 8,.rs 5,.rs 4,.rs 6,.int .i64,.int .i64,.int .i64]),(319493,.box [.raw,.raw,.raw,.raw,.raw])]}
def NF:eA:={ax:=[(1,.int .i64),(2,.own (.op 319490 0)),(5,.own (.op 319493 0)),(10,.int .i64)],bD:=[(319490,.box [.rs 4,.rs 3,.rs 8,.rs 5,.rs 4,.rs 6,.int .i64,.int .i64,.int .i64]),(319493,.box [.raw,.raw,.raw,.raw,.raw])]}
def NG:eA:={ax:=[(0,.rs 4),(1,.int .i64),(2,.bool),(7,.own (.os 495632)),(8,.int .i64)],bD:=[(495632,.nest 1 165)],nz:=[495632]}
def NH:eA:={ax:=[(0,.rs 4),(1,.int .i64),(2,.bool),(7,.own (.os 495632)),(8,.int .i64),(9,.own (.os 495638)),(10,.int .i64)],bD:=[(495632,.nest 1 165),(495638,.arr 1 3)],nz:=[495632]}
def KQ:eA:={ax:=[(0,.rs 4),(1,.int .i64),(2,.bool),(7,.own (.os 495632)),(11,.int .i64)],bD:=[(495632,.nest 1 165)],nz:=[495632]}
def KS:eA:={ax:=[(1,.int .i64),(7,.own (.os 495632)),(13,.int .i64)],bD:=[(495632,.nest 1 165)],nz:=[495632]}
def KT:eA:={ax:=[(1,.int .i64),(7,.own (.os 495632)),(13,.int .i64),(14,.int .i64)],bD:=[(495632,.nest 1 165)],nz:=[495632]}
def KU:eA:={ax:=[(1,.int .i64),(7,.own (.os 495632)),(13,.int .i64),(14,.int .i64),(15,.int .i64)],bD:=[(495632,.nest 1 165)],nz:=[495632]}
def NI:eA:={ax:=[(1,.int .i64),(5,.rs 1),(6,.rs 1),(7,.own (.os 417808)),(8,.int .i64)],bD:=[(417808,.arr 4 98)]}
def NJ:eA:={ax:=[(1,.int .i64),(5,.rs 1),(6,.rs 1),(7,.own (.os 417808)),(8,.int .i64),(9,.int .i64)],bD:=[(417808,.arr 4 98)]}
def RP:eA:={ax:=[(1,.own (.op 323585 0)),(4,.int .i64)],bD:=[(323585,.box [.rs 4,.rs 3,.rs 8,.rs 5,.rs 4,.rs 6,.int .i64,.int .i64,.int .i64])]}
def NK:eA:={ax:=[(1,.own (.op 323585 0)),(4,.int .i64),(5,.own (.op 323589 0)),(6,.int .i64)],bD:=[(323585,.box [.rs 4,.rs 3,.rs 8,.rs 5,.rs 4,.rs 6,.int .i64,.int .i64,.int .i64]),(323589,.box [.raw,.raw,.raw,.raw])]}
def NL:eA:={ax:=[(1,.own (.op 323585 0)),(8,.rs 4),(9,.int .i64)],bD:=[(323585,.box [.rs 4,.rs 3,.rs 8,.rs 5,.rs 4,.rs 6,.int .i64,.int .i64,.int .i64])]}
def RQ:eA:={ax:=[(0,.rs 3),(4,.int .i64)],bD:=[]}
def RR:eA:={ax:=[(0,.rs 3),(4,.int .i64),(5,.int .i64)],bD:=[]}
def NM:eA:={ax:=[(0,.rs 5),(1,.int .i64),(2,.int .i64),(3,.int .i64),(9,.int .i64)],bD:=[]}
def NN:eA:={ax:=[(1,.int .i64),(2,.own (.op 315394 0)),(5,.own (.op 315397 0)),(7,.int .i64)],bD:=[(315394,.box [.rs 4,.rs 3,.rs 8,.rs 5,.rs 4,.rs 6,.int .i64,.int .i64,.int .i64]),(315397,.box [.raw,.raw,.raw,.raw,.raw,.raw,.raw,.raw])]}
def RS:eA:={ax:=[(0,.rs 4),(4,.int .i64)],bD:=[]}
def RT:eA:={ax:=[(0,.rs 4),(4,.int .i64),(5,.int .i64)],bD:=[]}
def NO:eA:={ax:=[(1,.own (.op 188417 0)),(7,.int .i64)],bD:=[(188417,.box [.rs 4,.rs 3,.rs 8,.rs 5,.rs 4,.rs 6,.int .i64,.int .i64,.int .i64])]}
def NP:eA:={ax:=[(1,.own (.op 188417 0)),(8,.int .i64)],bD:=[(188417,.box [.rs 4,.rs 3,.rs 8,.rs 5,.rs 4,.rs 6,.int .i64,.int .i64,.int .i64])]}
def RU:eA:={ax:=[(3,.bool),(4,.own (.op 356356 0)),(5,.own (.op 356357 0)),(6,.own (.op 356358 0)),(9,.int .i64)],bD:=[(356356,.box [.rs 4,.rs 3,.rs 8,.rs 5,.rs 4,.rs 6,.int .i64,.int .i64,.int .i64]),(356357,.box [.bool,.int .i64,.int .i64,.int .i64,.int .i64,.int .i64,.int .i64,.int .i64,.bool]),(356358,.box [.bool,.int .i64,.int .i64,.int .i64,.int .i64,.int .i64,.int .i64,.int .i64,.bool])]}
def RV:eA:={ax:=[(3,.own (.op 258051 0)),(4,.own (.op 258052 0)),(5,.own (.op 258053 0)),(7,.int .i64),(8,.int .i64)],bD:=[(258051,.box [.rs 4,.rs 3,.rs 8,.rs 5,.rs 4,.rs 6,.int .i64,.int .i64,.int .i64]),(258052,.box [.int .i64,.int .i64,.int .i64,.bool,.int .i64,.int .i64,.bool,.bool,.int .i64,.bool]),(258053,.box [.bool,.int .i64,.int .i64,.int .i64,.int .i64,.int .i64,.int .i64,.int .i64,.bool])]}
def NQ:eA:={ax:=[(0,.int .i64),(3,.int .i64),(4,.int .i64)],bD:=[]}
def NR:eA:={ax:=[(1,.rs 4),(2,.int .i64),(3,.int .i64),(4,.own (.op 462852 0)),(9,.int .i64),(10,.int .i64),(11,.int .i64)],bD:=[(462852,.box [.str,.int .i64,.int .i64,.int .i64,.int .i64,.int .i64])]}
def RW:eA:={ax:=[(1,.rs 4),(2,.own (.op 364546 0)),(7,.own (.os 364561)),(8,.int .i64)],bD:=[(364546,.box [.rs 6,.int .i64,.int .i64,.int .i64]),(364561,.arr 3 156)]}
def RX:eA:={ax:=[(1,.rs 4),(2,.own (.op 364546 0)),(7,.own (.os 364561)),(8,.int .i64),(9,.int .i64)],bD:=[(364546,.box [.rs 6,.int .i64,.int .i64,.int .i64]),(364561,.arr 3 156)]}
def NS:eA:={ax:=[(1,.rs 4),(2,.own (.op 364546 0)),(7,.own (.os 364561)),(8,.int .i64),(9,.int .i64),(10,.int .i64)],bD:=[(364546,.box [.rs 6,.int .i64,.int .i64,.int .i64]),(364561,.arr 3 156)]}
def NT:eA:={ax:=[(2,.own (.op 458754 0)),(3,.own (.op 458755 0)),(5,.int .i64),(6,.rs 5),(7,.int .i64)],bD:=[(458754,.box [.rs 4,.rs 3,.rs 8,.rs 5,.rs 4,.rs 6,.int .i64,.int .i64,.int .i64]),(458755,.box [.bool,.int .i64,.int .i64,.int .i64,.int .i64,.int .i64,.int .i64,.int .i64,.bool])]}
def RY:eA:={ax:=[(2,.own (.op 360450 0)),(3,.own (.op 360451 0)),(6,.own (.os 360462)),(7,.int .i64)],bD:=[(360450,.box [.rs 4,.rs 3,.rs 8,.rs 5,.rs 4,.rs 6,.int .i64,.int .i64,.int .i64]),(360451,.box [.rs 9]),(360462,.arr 4 143)]}
def RZ:eA:={ax:=[(1,.own (.op 221185 0)),(3,.int .i64),(4,.int .i64)],bD:=[(221185,.box [.rs 9])]}
def R0:eA:={ax:=[(3,.own (.op 122883 0)),(4,.own (.op 122884 0)),(5,.own (.op 122885 0)),(8,.int .i64),(9,.int .i64)],bD:=[(122883,.box [.rs 4,.rs 3,.rs 8,.rs 5,.rs 4,.rs 6,.int .i64,.int .i64,.int .i64]),(122884,.box [.int .i64,.int .i64,.int .i64,.bool,.int .i64,.int .i64,.bool,.bool,.int .i64,.bool]),(122885,.box [.rs 9])]}
def R1:eA:={ax:=[(3,.own (.op 61443 0)),(4,.own (.op 61444 0)),(5,.own (.op 61445 0)),(9,.int .i64)],bD:=[(61443,.box [.rs 4,.rs 3,.rs 8,.rs 5,.rs 4,.rs 6,.int .i64,.int .i64,.int .i64]),(61444,.box [.int .i64,.int .i64,.int .i64,.bool,.int .i64,.int .i64,.bool,.bool,.int .i64,.bool]),(61445,.box [.rs 9])]}
def R2:eA:={ax:=[(1,.own (.op 81921 0)),(3,.int .i64)],bD:=[(81921,.box [.rs 4,.rs 3,.rs 8,.rs 5,.rs 4,.rs 6,.int .i64,.int .i64,.int .i64])]}
def R3:eA:={ax:=[(2,.own (.op 274434 0)),(3,.own (.op 274435 0)),(5,.int .i64)],bD:=[(274434,.box [.rs 9]),(274435,.box [.bool,.int .i64,.int .i64,.int .i64,.int .i64,.int .i64,.int .i64,.int .i64,.bool])]}
def R4:eA:={ax:=[(1,.int .i64),(2,.int .i64),(3,.own (.op 262147 0)),(7,.own (.os 262156)),(8,.int .i64)],bD:=[(262147,.box [.rs 4,.rs 3,.rs 8,.rs 5,.rs 4,.rs 6,.int .i64,.int .i64,.int .i64]),(262156,.arr 9 46)]}
def R5:eA:={ax:=[(1,.int .i64),(2,.int .i64),(3,.own (.op 262147 0)),(7,.own (.os 262156)),(8,.int .i64),(9,.rs 5),(10,.int .i64)],bD:=[(262147,.box [.rs 4,.rs 3,.rs 8,.rs 5,.rs 4,.rs 6,.int .i64,.int .i64,.int .i64]),(262156,.arr 9 46)]}
def NU:eA:={ax:=[(1,.int .i64),(2,.int .i64),(3,.own (.op 262147 0)),(7,.own (.os 262156)),(8,.int .i64),(9,.rs 5),(10,.int .i64),(11,.int .i64)],bD:=[(262147,.box [.rs 4,.rs 3,.rs 8,.rs 5,.rs 4,.rs 6,.int .i64,.int .i64,.int .i64]),(262156,.arr 9 46)]}
def R6:eA:={ax:=[(1,.int .i64),(2,.int .i64),(3,.own (.op 135171 0)),(7,.own (.os 135178)),(8,.int .i64)],bD:=[(135171,.box [.rs 4,.rs 3,.rs 8,.rs 5,.rs 4,.rs 6,.int .i64,.int .i64,.int .i64]),(135178,.arr 9 46)]}
def R7:eA:={ax:=[(3,.own (.op 151555 0)),(4,.own (.op 151556 0)),(5,.own (.op 151557 0)),(7,.own (.os 151564)),(8,.own (.op 151560 0)),(9,.own (.os 151578)),(10,.int .i64)],bD:=[(151555,.box [.rs 4,.rs 3,.rs 8,.rs 5,.rs 4,.rs 6,.int .i64,.int .i64,.int .i64]),(151556,.box [.int .i64,.int .i64,.int .i64,.bool,.int .i64,.int .i64,.bool,.bool,.int .i64,.bool]),(151557,.box [.rs 9]),(151564,.arr 1 37),(151560,.box [.raw,.raw,.raw,.raw,.raw,.raw,.raw,.raw,.raw]),(151578,.arr 9 46)]}
def R8:eA:={ax:=[(1,.own (.op 266241 0)),(3,.int .i64),(4,.int .i64)],bD:=[(266241,.box [.rs 9])]}
def R9:eA:={ax:=[(3,.own (.op 147459 0)),(4,.own (.op 147460 0)),(5,.own (.op 147461 0)),(7,.int .i64)],bD:=[(147459,.box [.rs 4,.rs 3,.rs 8,.rs 5,.rs 4,.rs 6,.int .i64,.int .i64,.int .i64]),(147460,.box [.int .i64,.int .i64,.int .i64,.bool,.int .i64,.int .i64,.bool,.bool,.int .i64,.bool]),(147461,.box [.rs 9])]}
def Sa:eA:={ax:=[(2,.own (.op 143362 0)),(3,.own (.op 143363 0)),(5,.own (.os 143373)),(6,.int .i64),(7,.own (.os 143382)),(8,.int .i64)],bD:=[(143362,.box [.rs 4,.rs 3,.rs 8,.rs 5,.rs 4,.rs 6,.int .i64,.int .i64,.int .i64]),(143363,.box [.int .i64,.int .i64,.int .i64,.bool,.int .i64,.int .i64,.bool,.bool,.int .i64,.bool]),(143373,.arr 1 37),(143382,.arr 9 46)]}
def NV:eA:={ax:=[(2,.own (.op 143362 0)),(5,.own (.os 143373)),(6,.int .i64),(9,.rs 9),(10,.int .i64)],bD:=[(143362,.box [.rs 4,.rs 3,.rs 8,.rs 5,.rs 4,.rs 6,.int .i64,.int .i64,.int .i64]),(143373,.arr 1 37)]}
def NW:eA:={ax:=[(2,.own (.op 143362 0)),(5,.own (.os 143373)),(6,.int .i64),(7,.own (.os 143415)),(9,.rs 9),(10,.int .i64),(11,.int .i64)],bD:=[(143362,.box [.rs 4,.rs 3,.rs 8,.rs 5,.rs 4,.rs 6,.int .i64,.int .i64,.int .i64]),(143373,.arr 1 37),(143415,.arr 9 46)]}
def Sb:eA:={ax:=[(2,.own (.op 86018 0)),(3,.own (.op 86019 0)),(5,.own (.os 86029)),(6,.rs 9),(7,.int .i64)],bD:=[(86018,.box [.rs 4,.rs 3,.rs 8,.rs 5,.rs 4,.rs 6,.int .i64,.int .i64,.int .i64]),(86019,.box [.int .i64,.int .i64,.int .i64,.bool,.int .i64,.int .i64,.bool,.bool,.int .i64,.bool]),(86029,.arr 1 37)]}
def NX:eA:={ax:=[(2,.own (.op 86018 0)),(3,.own (.op 86019 0)),(5,.own (.os 86029)),(10,.rs 1)],bD:=[(86018,.box [.rs 4,.rs 3,.rs 8,.rs 5,.rs 4,.rs 6,.int .i64,.int .i64,.int .i64]),(86019,.box [.int .i64,.int .i64,.int .i64,.bool,.int .i64,.int .i64,.bool,.bool,.int .i64,.bool]),(86029,.arr 1 37)],fz:=[(10,1)]}
def NY:eA:={ax:=[(2,.own (.op 86018 0)),(3,.own (.op 86019 0)),(5,.own (.os 86029)),(10,.rs 1),(11,.own (.os 86086)),(12,.int .i64)],bD:=[(86018,.box [.rs 4,.rs 3,.rs 8,.rs 5,.rs 4,.rs 6,.int .i64,.int .i64,.int .i64]),(86019,.box [.int .i64,.int .i64,.int .i64,.bool,.int .i64,.int .i64,.bool,.bool,.int .i64,.bool]),(86029,.arr 1 37),(86086,.arr 1 37)]}
def VF:eA:={ax:=[(2,.own (.op 36866 0)),(3,.own (.op 36867 0)),(5,.rs 1),(28,.int .i64),(29,.int .i64)],bD:=[(36866,.box [.rs 4,.rs 3,.rs 8,.rs 5,.rs 4,.rs 6,.int .i64,.int .i64,.int .i64]),(36867,.box [.int .i64,.int .i64,.int .i64,.bool,.int .i64,.int .i64,.bool,.bool,.int .i64,.bool])]}
def hints(f k:Nat):List eA:=
 bif Nat.beq f 119 then(bif Nat.beq k 3 then[Nh]else[])else
 bif Nat.beq f 72 then(bif Nat.beq k 2 then[Ru]else[])else
 bif Nat.beq f 43 then(bif Nat.beq k 6 then[Rv]else[])else
 bif Nat.beq f 140 then(bif Nat.beq k 7 then[Ni]else bif Nat.beq k 15 then[KL]else[])else
 bif Nat.beq f 143 then(bif Nat.beq k 3 then[Nj]else bif Nat.beq k 9 then[Nk]else bif Nat.beq k 15 then[KM,KN]else[])else
 bif Nat.beq f 2399269021 then(bif Nat.beq k 5 then[AJ]else[])else
 bif Nat.beq f 40253260782772391 then(bif Nat.beq k 1 then[te]else[])else
 bif Nat.beq f 2399469725 then(bif Nat.beq k 5 then[AK]else[])else
 bif Nat.beq f 142 then(bif Nat.beq k 3 then[Nl]else[])else
 bif Nat.beq f 141 then(bif Nat.beq k 3 then[Nn]else[])else
 bif Nat.beq f 130 then(bif Nat.beq k 7 then[Np]else[])else
 bif Nat.beq f 115 then(bif Nat.beq k 3 then[Nq]else bif Nat.beq k 13 then[KO]else[])else
 bif Nat.beq f 97 then(bif Nat.beq k 5 then[Rw]else bif Nat.beq k 8 then[Rx]else[])else
 bif Nat.beq f 96 then(bif Nat.beq k 3 then[Ry]else[])else
 bif Nat.beq f 74 then(bif Nat.beq k 10 then[Nr]else[])else
 bif Nat.beq f 45 then(bif Nat.beq k 3 then[Rz]else[])else
 bif Nat.beq f 70 then(bif Nat.beq k 4 then[RA]else[])else
 bif Nat.beq f 68 then(bif Nat.beq k 2 then[RB]else[])else
 bif Nat.beq f 42 then(bif Nat.beq k 5 then[RC]else[])else
 bif Nat.beq f 40 then(bif Nat.beq k 2 then[RD]else[])else
 bif Nat.beq f 44 then(bif Nat.beq k 7 then[RE]else[])else
 bif Nat.beq f 39 then(bif Nat.beq k 5 then[RF]else[])else
 bif Nat.beq f 38 then(bif Nat.beq k 5 then[RG]else[])else
 bif Nat.beq f 125 then(bif Nat.beq k 7 then[Ns]else[])else
 bif Nat.beq f 110 then(bif Nat.beq k 6 then[Nt]else bif Nat.beq k 9 then[Nu]else bif Nat.beq k 12 then[KP]else[])else
 bif Nat.beq f 86 then(bif Nat.beq k 9 then[RH]else[])else
 bif Nat.beq f 107 then(bif Nat.beq k 3 then[Nv]else[])else
 bif Nat.beq f 106 then(bif Nat.beq k 3 then[Ny]else[])else
 bif Nat.beq f 85 then(bif Nat.beq k 8 then[RI]else[])else
 bif Nat.beq f 49 then(bif Nat.beq k 3 then[RJ]else[])else
 bif Nat.beq f 28 then(bif Nat.beq k 4 then[RK]else[])else
 bif Nat.beq f 104 then(bif Nat.beq k 3 then[Nz]else[])else
 bif Nat.beq f 59 then(bif Nat.beq k 6 then[RL]else[])else
 bif Nat.beq f 27 then(bif Nat.beq k 3 then[RM]else[])else
 bif Nat.beq f 98 then(bif Nat.beq k 4 then[RN]else[])else
 bif Nat.beq f 80 then(bif Nat.beq k 6 then[RO]else bif Nat.beq k 12 then[NA]else[])else
 bif Nat.beq f 101 then(bif Nat.beq k 2 then[NB]else bif Nat.beq k 6 then[NC]else[])else
 bif Nat.beq f 78 then(bif Nat.beq k 12 then[ND]else bif Nat.beq k 20 then[NF]else[])else
 bif Nat.beq f 121 then(bif Nat.beq k 3 then[NG]else bif Nat.beq k 7 then[NH]else bif Nat.beq k 12 then[KQ]else bif Nat.beq k 18 then[KS]else bif Nat.beq k 21 then[KT]else bif Nat.beq k 24 then[KU]else[])else
 bif Nat.beq f 102 then(bif Nat.beq k 4 then[NI]else bif Nat.beq k 7 then[NJ]else[])else
 bif Nat.beq f 79 then(bif Nat.beq k 2 then[RP]else bif Nat.beq k 10 then[NK]else bif Nat.beq k 19 then[NL]else[])else
 bif Nat.beq f 76 then(bif Nat.beq k 4 then[RQ]else bif Nat.beq k 9 then[RR]else[])else
 bif Nat.beq f 100 then(bif Nat.beq k 4 then[NM]else[])else
 bif Nat.beq f 77 then(bif Nat.beq k 14 then[NN]else[])else
 bif Nat.beq f 75 then(bif Nat.beq k 4 then[RS]else bif Nat.beq k 9 then[RT]else[])else
 bif Nat.beq f 46 then(bif Nat.beq k 10 then[NO]else bif Nat.beq k 18 then[NP]else[])else
 bif Nat.beq f 87 then(bif Nat.beq k 2 then[RU]else[])else
 bif Nat.beq f 63 then(bif Nat.beq k 3 then[RV]else[])else
 bif Nat.beq f 128 then(bif Nat.beq k 3 then[NQ]else[])else
 bif Nat.beq f 113 then(bif Nat.beq k 3 then[NR]else[])else
 bif Nat.beq f 89 then(bif Nat.beq k 4 then[RW]else bif Nat.beq k 7 then[RX]else bif Nat.beq k 11 then[NS]else[])else
 bif Nat.beq f 112 then(bif Nat.beq k 4 then[NT]else[])else
 bif Nat.beq f 88 then(bif Nat.beq k 5 then[RY]else[])else
 bif Nat.beq f 54 then(bif Nat.beq k 3 then[RZ]else[])else
 bif Nat.beq f 30 then(bif Nat.beq k 8 then[R0]else[])else
 bif Nat.beq f 15 then(bif Nat.beq k 9 then[R1]else[])else
 bif Nat.beq f 20 then(bif Nat.beq k 4 then[R2]else[])else
 bif Nat.beq f 67 then(bif Nat.beq k 2 then[R3]else[])else
 bif Nat.beq f 64 then(bif Nat.beq k 3 then[R4]else bif Nat.beq k 7 then[R5]else bif Nat.beq k 11 then[NU]else[])else
 bif Nat.beq f 33 then(bif Nat.beq k 3 then[R6]else[])else
 bif Nat.beq f 37 then(bif Nat.beq k 7 then[R7]else[])else
 bif Nat.beq f 65 then(bif Nat.beq k 3 then[R8]else[])else
 bif Nat.beq f 36 then(bif Nat.beq k 2 then[R9]else[])else
 bif Nat.beq f 35 then(bif Nat.beq k 7 then[Sa]else bif Nat.beq k 12 then[NV]else bif Nat.beq k 16 then[NW]else[])else
 bif Nat.beq f 21 then(bif Nat.beq k 6 then[Sb]else bif Nat.beq k 16 then[NX]else bif Nat.beq k 19 then[NY]else[])else
 bif Nat.beq f 9 then(bif Nat.beq k 5 then[VF]else[])else
 []
def S0:tc:={P:=Tryz.prog,aM:=fun _=>none,hint:=hints,BU:=fun s=>Nat.beq s 352264||Nat.beq s 450564||Nat.beq s 450565||Nat.beq s 495649||Nat.beq s 495650||Nat.beq s 495671||Nat.beq s 495678||Nat.beq s 495705||Nat.beq s 495710||Nat.beq s 495717||Nat.beq s 495724||Nat.beq s 499711||Nat.beq s 577544||Nat.beq s 577564||Nat.beq s 581631||Nat.beq s 1000000000000000000000000143450||Nat.beq s 1000000000000000000000000143452}
def clo(g:Nat):Option (List PV→Option PV):=bif Nat.beq g 118 then some ca else none
def S:tc:={P:=Tryz.prog,aM:=fun _=>none,hint:=hints,O4:=fun g=>bif Nat.beq g 117 then some (yS 4 clo)else none,BU:=fun s=>Nat.beq s 352264||Nat.beq s 450564||Nat.beq s 450565||Nat.beq s 495649||Nat.beq s 495650||Nat.beq s 495671||Nat.beq s 495678||Nat.beq s 495705||Nat.beq s 495710||Nat.beq s 495717||Nat.beq s 495724||Nat.beq s 499711||Nat.beq s 577544||Nat.beq s 577564||Nat.beq s 581631||Nat.beq s 1000000000000000000000000143450||Nat.beq s 1000000000000000000000000143452}
def abE:dn:=[]
def ar:dn:=[]
def Xp:dn:=(137,Ii)::abE
def Xs:dn:=(120,eh)::Xp
def Xu:dn:=(119,og)::Xs
def SU:dn:=(118,ca)::Xu
def Xq:dn:=(24,bm)::SU
def Xt:dn:=(72,jS)::Xq
def Xv:dn:=(41,bh)::Xt
def Xw:dn:=(71,cQ)::Xv
def Xr:dn:=(43,dP)::Xw
def Pt:dn:=(154,dF)::Xr
def PQ:dn:=(140,jf)::Pt
def Qe:dn:=(156,gN)::PQ
def O6:dn:=(164,aR)::Qe
def Pu:dn:=(143,fl)::O6
def PR:dn:=(142,gp)::Pu
def Qf:dn:=(141,ff)::PR
def O7:dn:=(130,gq)::Qf
def Pv:dn:=(115,dR)::O7
def PS:dn:=(97,eP)::Pv
def Qg:dn:=(96,jd)::PS
def O8:dn:=(74,fD)::Qg
def Pw:dn:=(45,cF)::O8
def PT:dn:=(95,sO)::Pw
def Qh:dn:=(70,nQ)::PT
def O9:dn:=(68,fQ)::Qh
def Px:dn:=(42,fE)::O9
def PU:dn:=(40,dD)::Px
def Qi:dn:=(73,bZ)::PU
def Pa:dn:=(44,dC)::Qi
def Py:dn:=(69,pq)::Pa
def PW:dn:=(39,l6)::Py
def Qj:dn:=(38,nN)::PW
def Pb:dn:=(23,gM)::Qj
def Pz:dn:=(12,dx)::Pb
def PX:dn:=(111,lU)::Pz
def Qk:dn:=(127,eL)::PX
def Pc:dn:=(139,lS)::Qk
def PA:dn:=(126,eK)::Pc
def PY:dn:=(136,eI)::PA
def Ql:dn:=(138,fy)::PY
def Pd:dn:=(134,jO)::Ql
def PB:dn:=(125,fT)::Pd
def PZ:dn:=(110,lT)::PB
def Qm:dn:=(109,jC)::PZ
def Pe:dn:=(86,fI)::Qm
def PC:dn:=(123,k9)::Pe
def P0:dn:=(107,pL)::PC
def Qn:dn:=(108,iY)::P0
def Pf:dn:=(122,gX)::Qn
def PD:dn:=(106,jM)::Pf
def P1:dn:=(85,jN)::PD
def Qo:dn:=(49,iX)::P1
def Pg:dn:=(50,kN)::Qo
def PE:dn:=(28,kO)::Pg
def P2:dn:=(91,aG)::PE
def Qp:dn:=(103,bN)::P2
def Ph:dn:=(104,cH)::Qp
def PF:dn:=(83,bW)::Ph
def P3:dn:=(81,cm)::PF
def Qq:dn:=(82,cz)::P3
def Pj:dn:=(93,cG)::Qq
def PG:dn:=(94,c7)::Pj
def P4:dn:=(84,dA)::PG
def Qr:dn:=(58,db)::P4
def Pk:dn:=(57,cE)::Qr
def PH:dn:=(92,dz)::Pk
def P5:dn:=(60,cy)::PH
def Qs:dn:=(59,dK)::P5
def Pl:dn:=(31,eg)::Qs
def PI:dn:=(48,dB)::Pl
def P6:dn:=(27,gL)::PI
def Qt:dn:=(14,bB)::P6
def Pm:dn:=(22,jb)::Qt
def P7:dn:=(11,dM)::Pm
def Qu:dn:=(98,eu)::P7
def Pn:dn:=(99,bO)::Qu
def PJ:dn:=(80,l7)::Pn
def P8:dn:=(101,mb)::PJ
def Qv:dn:=(78,nW)::P8
def Po:dn:=(121,fU)::Qv
def PK:dn:=(102,gk)::Po
def P9:dn:=(79,ma)::PK
def Qw:dn:=(76,kR)::P9
def Pp:dn:=(100,l8)::Qw
def PL:dn:=(77,pU)::Pp
def Qa:dn:=(75,l5)::PL
def Qx:dn:=(46,mc)::Qa
def Pq:dn:=(25,il)::Qx
def PM:dn:=(47,ef)::Pq
def Qb:dn:=(26,gd)::PM
def Pr:dn:=(13,eH)::Qb
def PN:dn:=(53,gW)::Pr
def Qc:dn:=(51,lQ)::PN
def Qy:dn:=(87,iW)::Qc
def Ps:dn:=(52,fb)::Qy
def PO:dn:=(61,iU)::Ps
def Qd:dn:=(62,ny)::PO
def JW:dn:=(63,nv)::Qd
def JF:dn:=(32,iV)::JW
def JM:dn:=(29,iq)::JF
def JR:dn:=(90,kM)::JM
def JX:dn:=(128,nB)::JR
def JG:dn:=(129,fe)::JX
def JN:dn:=(113,kK)::JG
def JS:dn:=(114,fA)::JN
def JY:dn:=(89,lV)::JS
def JH:dn:=(112,jV)::JY
def JO:dn:=(88,lR)::JH
def JT:dn:=(54,jB)::JO
def JZ:dn:=(55,nE)::JT
def JI:dn:=(30,pM)::JZ
def J0:dn:=(15,lW)::JI
def JU:dn:=(19,cC)::J0
def J1:dn:=(20,lZ)::JU
def JJ:dn:=(34,eN)::J1
def Eo:dn:=(67,jX)::JJ
def vK:dn:=(64,dN)::ar
def J2:dn:=(33,dO)::Eo
def JK:dn:=(66,jD)::J2
def JP:dn:=(37,jc)::JK
def JV:dn:=(65,lY)::JP
def J3:dn:=(36,fq)::JV
def JL:dn:=(35,lX)::J3
def JQ:dn:=(21,pR)::JL
def TH:dn:=(9,dc)::JQ
end
end Go.Proofs.YtanikidijjaohaaGreat
