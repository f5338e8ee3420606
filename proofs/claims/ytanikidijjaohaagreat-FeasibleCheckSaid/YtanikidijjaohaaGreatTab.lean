import Derived.Test.YtanikidijjaohaaGreatProg
import Derived.Test.YtanikidijjaohaaGreatAbSeat
import Derived.Test.YtanikidijjaohaaGreatSh3
import Derived.KernelRfl
namespace Go.Proofs.YtanikidijjaohaaGreat
noncomputable section
open Go.Ab
set_option maxRecDepth 100000
def Kf:eW:={ax:=[(3,.int .i64),(6,.rs 1),(7,.int .i64),(8,.int .i64)],bE:=[]}
def Ow:eW:={ax:=[(0,.raw),(2,.int .i64),(7,.int .i64),(8,.bool)],bE:=[]}
def Ox:eW:={ax:=[(1,.own (.op 176129 0)),(2,.own (.op 176130 0)),(3,.own (.om 176146)),(4,.own (.om 176147)),(5,.own (.om 176148)),(22,.rs 5),(23,.int .i64),(24,.int .i64)],bE:=[(176129,.box [.rs 4,.rs 3,.rs 8,.rs 5,.rs 4,.rs 6,.int .i64,.int .i64,.int .i64]),(176130,.box [.int .i64,.int .i64,.int .i64]),(176146,.map 3),(176147,.map 3),(176148,.map 113)]}
def Kg:eW:={ax:=[(2,.rs 1),(7,.own (.fn 154 [.op 573443 0])),(22,.rs 3),(23,.int .i64),(24,.int .i64)],bE:=[(573443,.box [.int .i64])]}
def HU:eW:={ax:=[(7,.own (.fn 154 [.op 573443 0])),(47,.rs 1),(48,.int .i64),(49,.int .i64)],bE:=[(573443,.box [.int .i64])]}
def Kh:eW:={ax:=[(1,.raw),(2,.int .i64),(7,.own (.os 585743)),(17,.int .i64),(18,.int .i64)],bE:=[(585743,.arr 3 204)]}
def yI:eW:={ax:=[(0,.own (.op 9827338792967 0)),(4,.int .i64),(55,.raw),(61,.own (.os 585743)),(63,.own (.op 9827338792967 0))],bE:=[(9827338792967,.box [.own (.fn 156 []),.own (.os 3213876088517980551083924184682325205044405987575413009395719),.int .i64]),(585743,.arr 3 204),(3213876088517980551083924184682325205044405987575413009395719,.arr 4 221)]}
def Ki:eW:={ax:=[(1,.raw),(7,.own (.os 585743)),(9,.own (.op 9827338792967 0))],bE:=[(585743,.arr 3 204),(9827338792967,.box [.own (.fn 156 []),.own (.os 3213876088517980551083924184682325205044405987575413009395719),.int .i64]),(3213876088517980551083924184682325205044405987575413009395719,.arr 4 221)]}
def rf:eW:={ax:=[(0,.own (.op 9827338792967 0)),(2,.int .i64),(43,.own (.op 9827456245762 0)),(45,.own (.op 9827456245764 0)),(78,.raw),(84,.own (.os 585743)),(86,.own (.op 9827338792967 0))],bE:=[(9827338792967,.box [.own (.fn 156 []),.own (.os 3213876088517980551083924184682325205044405987575413009395719),.int .i64]),(9827456245762,.box [.int .i64,.int .i64,.int .i64]),(9827456245764,.box [.raw,.raw,.raw]),(585743,.arr 3 204),(3213876088517980551083924184682325205044405987575413009395719,.arr 4 221)],ct:=[(9827338792967,1)]}
def HV:eW:={ax:=[(1,.raw),(7,.own (.os 585743)),(9,.own (.op 9827338792967 0)),(10,.own (.op 585738 0)),(55,.rs 0),(56,.int .i64),(57,.int .i64)],bE:=[(585743,.arr 3 204),(9827338792967,.box [.own (.fn 156 []),.own (.os 3213876088517980551083924184682325205044405987575413009395719),.int .i64]),(585738,.box [.raw,.raw,.raw]),(3213876088517980551083924184682325205044405987575413009395719,.arr 4 221)]}
def HW:eW:={ax:=[(1,.raw),(7,.own (.os 585743)),(9,.own (.op 9827338792967 0)),(10,.own (.op 585738 0)),(55,.rs 3),(56,.int .i64),(57,.int .i64)],bE:=[(585743,.arr 3 204),(9827338792967,.box [.own (.fn 156 []),.own (.os 3213876088517980551083924184682325205044405987575413009395719),.int .i64]),(585738,.box [.raw,.raw,.raw]),(3213876088517980551083924184682325205044405987575413009395719,.arr 4 221)]}
def yJ:eW:={ax:=[(0,.own (.op 9827338792967 0)),(4,.int .i64),(55,.raw),(61,.own (.os 585743)),(63,.own (.op 9827338792967 0)),(64,.own (.op 585738 0)),(109,.rs 3),(110,.int .i64),(111,.int .i64)],bE:=[(9827338792967,.box [.own (.fn 156 []),.own (.os 3213876088517980551083924184682325205044405987575413009395719),.int .i64]),(585743,.arr 3 204),(585738,.box [.raw,.raw,.raw]),(3213876088517980551083924184682325205044405987575413009395719,.arr 4 221)]}
def Kj:eW:={ax:=[(3,.own (.os 581640)),(9,.rs 3),(10,.int .i64),(11,.int .i64)],bE:=[(581640,.arr 1 3)]}
def Kk:eW:={ax:=[(1,.bool),(5,.own (.om 577544)),(9,.rs 3),(10,.int .i64),(11,.int .i64)],bE:=[(577544,.eY 3 177)]}
def Km:eW:={ax:=[(0,.int .i64),(7,.raw),(8,.own (.os 532499)),(21,.int .i64),(22,.int .i64)],bE:=[(532499,.arr 1 165)]}
def Kn:eW:={ax:=[(1,.int .i64),(2,.bool),(7,.own (.om 471058)),(19,.rs 4),(20,.int .i64),(21,.int .i64)],bE:=[(471058,.map 161)]}
def HX:eW:={ax:=[(1,.int .i64),(13,.own (.os 471097)),(59,.own (.it 471099))],bE:=[(471097,.arr 3 177),(471099,.iter 174)]}
def Oy:eW:={ax:=[(5,.rs 1),(6,.rs 1),(7,.own (.op 397319 0)),(8,.own (.fn 116 [.op 397319 0])),(21,.int .i64),(22,.int .i64)],bE:=[(397319,.box [.own (.os 1606938044258990275541962092341162602522202993782792835698695)]),(1606938044258990275541962092341162602522202993782792835698695,.arr 4 98)]}
def Oz:eW:={ax:=[(5,.rs 1),(6,.rs 1),(7,.own (.op 397319 0)),(8,.own (.fn 116 [.op 397319 0])),(9,.int .i64),(21,.int .i64),(22,.int .i64),(28,.rs 1),(29,.int .i64),(30,.int .i64)],bE:=[(397319,.box [.own (.os 1606938044258990275541962092341162602522202993782792835698695)]),(1606938044258990275541962092341162602522202993782792835698695,.arr 4 98)]}
def OA:eW:={ax:=[(1,.int .i64),(6,.own (.om 393226)),(11,.rs 4),(12,.int .i64),(13,.int .i64)],bE:=[(393226,.map 161)]}
def Ko:eW:={ax:=[(0,.rs 4),(7,.rs 4),(29,.int .i64),(30,.int .i64)],bE:=[]}
def OB:eW:={ax:=[(1,.own (.op 184321 0)),(2,.own (.op 184322 0)),(3,.own (.om 184327)),(9,.rs 4),(10,.int .i64),(11,.int .i64)],bE:=[(184321,.box [.rs 4,.rs 3,.rs 8,.rs 5,.rs 4,.rs 6,.int .i64,.int .i64,.int .i64]),(184322,.box [.int .i64,.int .i64,.int .i64]),(184327,.map 98)]}
def OC:eW:={ax:=[(0,.rs 5),(1,.int .i64),(2,.int .i64),(3,.int .i64),(21,.int .i64),(22,.int .i64)],bE:=[]}
def OD:eW:={ax:=[(0,.str),(3,.int .i64)],bE:=[]}
def OE:eW:={ax:=[(1,.own (.op 172033 0)),(2,.own (.op 172034 0)),(3,.own (.om 172046)),(16,.rs 8),(17,.int .i64),(18,.int .i64)],bE:=[(172033,.box [.rs 4,.rs 3,.rs 8,.rs 5,.rs 4,.rs 6,.int .i64,.int .i64,.int .i64]),(172034,.box [.int .i64,.int .i64,.int .i64]),(172046,.map 108)]}
def OG:eW:={ax:=[(2,.own (.op 163842 0)),(5,.rs 3),(6,.int .i64),(7,.int .i64)],bE:=[(163842,.box [.int .i64,.int .i64,.int .i64])]}
def OH:eW:={ax:=[(4,.own (.om 180251)),(29,.rs 6),(30,.int .i64),(31,.int .i64)],bE:=[(180251,.map 9)]}
def OI:eW:={ax:=[(4,.own (.om 159754)),(11,.rs 3),(12,.int .i64),(13,.int .i64)],bE:=[(159754,.map 9)]}
def OJ:eW:={ax:=[(4,.own (.om 155658)),(11,.rs 4),(12,.int .i64),(13,.int .i64)],bE:=[(155658,.map 9)]}
def Kp:eW:={ax:=[(2,.own (.op 512002 0)),(6,.own (.op 512006 0)),(7,.own (.op 512007 0)),(8,.own (.fn 135 [.op 512006 0,.op 512007 0])),(37,.rs 4),(38,.int .i64),(39,.int .i64)],bE:=[(512002,.box [.str,.int .i64,.int .i64,.int .i64,.int .i64,.int .i64]),(512006,.box [.int IntKind.u64]),(512007,.box [.int IntKind.u64])]}
def Kq:eW:={ax:=[(2,.own (.op 450562 0)),(4,.own (.oe 450564 0 0)),(5,.own (.oe 450565 0 0)),(6,.int .i64),(7,.own (.fn 124 [.op 450562 0,.op 450563 0,.oe 450565 0 0])),(8,.int .i64)],bE:=[(450562,.box [.rs 6,.int .i64,.int .i64,.int .i64]),(450564,.arr 7 150),(450565,.arr 7 150),(450563,.box [.rs 4])]}
def Kr:eW:={ax:=[(2,.own (.op 450562 0)),(4,.own (.oe 450564 0 0)),(5,.own (.oe 450565 0 0)),(6,.int .i64),(7,.own (.fn 124 [.op 450562 0,.op 450563 0,.oe 450565 0 0])),(8,.int .i64),(9,.int .i64)],bE:=[(450562,.box [.rs 6,.int .i64,.int .i64,.int .i64]),(450564,.arr 7 150),(450565,.arr 7 150),(450563,.box [.rs 4])]}
def HY:eW:={ax:=[(2,.own (.op 450562 0)),(4,.own (.oe 450564 0 0)),(5,.own (.oe 450565 0 0)),(6,.int .i64),(7,.own (.fn 124 [.op 450562 0,.op 450563 0,.oe 450565 0 0])),(8,.int .i64),(9,.int .i64),(31,.int .i64),(32,.int .i64)],bE:=[(450562,.box [.rs 6,.int .i64,.int .i64,.int .i64]),(450564,.arr 7 150),(450565,.arr 7 150),(450563,.box [.rs 4])]}
def OK:eW:={ax:=[(1,.rs 4),(2,.own (.op 352258 0)),(8,.own (.oe 352264 0 0)),(9,.own (.os 352265)),(10,.int .i64)],bE:=[(352258,.box [.rs 6,.int .i64,.int .i64,.int .i64]),(352264,.arr 7 150),(352265,.arr 4 148)]}
def Ks:eW:={ax:=[(3,.int IntKind.u64),(6,.rs 1),(7,.int .i64),(8,.int .i64)],bE:=[]}
def Kt:eW:={ax:=[(2,.own (.op 434178 0)),(5,.int IntKind.u64),(20,.rs 5),(21,.int .i64),(22,.int .i64)],bE:=[(434178,.box [.rs 4,.rs 3,.rs 8,.rs 5,.rs 4,.rs 6,.int .i64,.int .i64,.int .i64])]}
def OL:eW:={ax:=[(2,.own (.op 348162 0)),(9,.own (.op 348169 0)),(10,.own (.fn 105 [.op 348162 0,.op 348169 0])),(11,.bool),(24,.rs 9),(25,.int .i64),(26,.int .i64)],bE:=[(348162,.box [.rs 4,.rs 3,.rs 8,.rs 5,.rs 4,.rs 6,.int .i64,.int .i64,.int .i64]),(348169,.box [.own (.os 1606938044258990275541962092341162602522202993782792835649545)]),(1606938044258990275541962092341162602522202993782792835649545,.arr 4 143)]}
def OM:eW:={ax:=[(3,.int .i64),(7,.rs 9),(8,.int .i64),(9,.int .i64)],bE:=[]}
def ON:eW:={ax:=[(3,.own (.op 114691 0)),(4,.own (.op 114692 0)),(5,.own (.op 114693 0)),(7,.own (.op 114695 0)),(8,.int .i64),(23,.rs 9),(24,.int .i64),(25,.int .i64)],bE:=[(114691,.box [.rs 4,.rs 3,.rs 8,.rs 5,.rs 4,.rs 6,.int .i64,.int .i64,.int .i64]),(114692,.box [.int .i64,.int .i64,.int .i64,.bool,.int .i64,.int .i64,.bool,.bool,.int .i64,.bool]),(114693,.box [.rs 9]),(114695,.box [.raw,.raw,.raw,.raw,.raw,.raw,.raw,.raw,.raw])]}
def Ku:eW:={ax:=[(1,.bool),(5,.own (.op 425989 0)),(6,.own (.op 425990 0)),(15,.rs 5),(16,.int .i64),(17,.int .i64)],bE:=[(425989,.box [.raw,.raw,.raw,.raw,.raw,.raw,.raw,.raw,.raw]),(425990,.box [.raw,.raw,.raw,.raw,.raw,.raw,.raw,.raw,.raw])]}
def OO:eW:={ax:=[(1,.own (.op 241665 0)),(3,.own (.op 241667 0)),(4,.int .i64),(13,.rs 4),(14,.int .i64),(15,.int .i64)],bE:=[(241665,.box [.rs 4,.rs 3,.rs 8,.rs 5,.rs 4,.rs 6,.int .i64,.int .i64,.int .i64,.int .i64,.int .i64,.int .i64,.bool,.int .i64,.int .i64,.bool,.bool,.int .i64,.bool,.rs 9,.int .i64]),(241667,.box [.raw,.raw,.raw,.raw,.raw,.raw,.raw,.raw,.raw])]}
def OP:eW:={ax:=[(5,.own (.op 110597 0)),(8,.own (.op 110600 0))],bE:=[(110597,.box [.rs 9]),(110600,.box [.rs 4,.rs 3,.rs 8,.rs 5,.rs 4,.rs 6,.int .i64,.int .i64,.int .i64,.int .i64,.int .i64,.int .i64,.bool,.int .i64,.int .i64,.bool,.bool,.int .i64,.bool,.rs 9,.int .i64])]}
def OQ:eW:={ax:=[(2,.own (.op 40962 0)),(49,.int .i64),(50,.int .i64)],bE:=[(40962,.box [.rs 4,.rs 3,.rs 8,.rs 5,.rs 4,.rs 6,.int .i64,.int .i64,.int .i64])]}
def OR:eW:={ax:=[(0,.str),(3,.int .i64)],bE:=[]}
def OS:eW:={ax:=[(1,.own (.op 327681 0)),(4,.int .i64)],bE:=[(327681,.box [.rs 6,.int .i64,.int .i64,.int .i64])]}
def Kv:eW:={ax:=[(1,.own (.op 327681 0)),(4,.int .i64),(5,.own (.op 327685 0)),(6,.int .i64)],bE:=[(327681,.box [.rs 6,.int .i64,.int .i64,.int .i64]),(327685,.box [.raw,.raw,.raw,.raw,.raw,.raw])]}
def Kw:eW:={ax:=[(1,.int .i64),(2,.int .i64),(3,.int .i64),(4,.own (.op 413700 0)),(9,.int .i64)],bE:=[(413700,.box [.rs 4,.rs 3,.rs 8,.rs 5,.rs 4,.rs 6,.int .i64,.int .i64,.int .i64])]}
def Kx:eW:={ax:=[(1,.int .i64),(2,.int .i64),(3,.int .i64),(4,.own (.op 413700 0)),(9,.int .i64),(10,.int .i64),(11,.int .i64)],bE:=[(413700,.box [.rs 4,.rs 3,.rs 8,.rs 5,.rs 4,.rs 6,.int .i64,.int .i64,.int .i64])]}
def Ky:eW:={ax:=[(1,.int .i64),(2,.own (.op 319490 0)),(5,.own (.op 319493 0)),(8,.int .i64)],bE:=[(319490,.box [.rs 4,.rs 3,.rs 8,.rs 5,.rs 4,.rs 6,.int .i64,.int .i64,.int .i64]),(319493,.box [.raw,.raw,.raw,.raw,.raw])]}
def Kz:eW:={ax:=[(1,.int .i64),(2,.own (.op 319490 0)),(5,.own (.op 319493 0)),(10,.int .i64)],bE:=[(319490,.box [.rs 4,.rs 3,.rs 8,.rs 5,.rs 4,.rs 6,.int .i64,.int .i64,.int .i64]),(319493,.box [.raw,.raw,.raw,.raw,.raw])]}
def KA:eW:={ax:=[(0,.rs 4),(1,.int .i64),(2,.bool),(7,.own (.os 495632)),(8,.int .i64)],bE:=[(495632,.nest 1 165)],nz:=[495632]}
def KB:eW:={ax:=[(0,.rs 4),(1,.int .i64),(2,.bool),(7,.own (.os 495632)),(8,.int .i64),(9,.own (.os 495638)),(10,.int .i64)],bE:=[(495632,.nest 1 165),(495638,.arr 1 3)],nz:=[495632]}
def HZ:eW:={ax:=[(0,.rs 4),(1,.int .i64),(2,.bool),(7,.own (.os 495632)),(11,.int .i64)],bE:=[(495632,.nest 1 165)],nz:=[495632]}
def H0:eW:={ax:=[(1,.int .i64),(7,.own (.os 495632)),(13,.int .i64)],bE:=[(495632,.nest 1 165)],nz:=[495632]}
def H2:eW:={ax:=[(1,.int .i64),(7,.own (.os 495632)),(13,.int .i64),(14,.int .i64)],bE:=[(495632,.nest 1 165)],nz:=[495632]}
def H3:eW:={ax:=[(1,.int .i64),(7,.own (.os 495632)),(13,.int .i64),(14,.int .i64),(15,.int .i64)],bE:=[(495632,.nest 1 165)],nz:=[495632]}
def KC:eW:={ax:=[(1,.int .i64),(5,.rs 1),(6,.rs 1),(7,.own (.os 417808)),(8,.int .i64)],bE:=[(417808,.arr 4 98)]}
def KD:eW:={ax:=[(1,.int .i64),(5,.rs 1),(6,.rs 1),(7,.own (.os 417808)),(8,.int .i64),(9,.int .i64)],bE:=[(417808,.arr 4 98)]}
def OT:eW:={ax:=[(1,.own (.op 323585 0)),(4,.int .i64)],bE:=[(323585,.box [.rs 4,.rs 3,.rs 8,.rs 5,.rs 4,.rs 6,.int .i64,.int .i64,.int .i64])]}
def KE:eW:={ax:=[(1,.own (.op 323585 0)),(4,.int .i64),(5,.own (.op 323589 0)),(6,.int .i64)],bE:=[(323585,.box [.rs 4,.rs 3,.rs 8,.rs 5,.rs 4,.rs 6,.int .i64,.int .i64,.int .i64]),(323589,.box [.raw,.raw,.raw,.raw])]}
def KF:eW:={ax:=[(1,.own (.op 323585 0)),(8,.rs 4),(9,.int .i64)],bE:=[(323585,.box [.rs 4,.rs 3,.rs 8,.rs 5,.rs 4,.rs 6,.int .i64,.int .i64,.int .i64])]}
def OU:eW:={ax:=[(0,.rs 3),(4,.int .i64)],bE:=[]}
def OV:eW:={ax:=[(0,.rs 3),(4,.int .i64),(5,.int .i64)],bE:=[]}
def KG:eW:={ax:=[(0,.rs 5),(1,.int .i64),(2,.int .i64),(3,.int .i64),(9,.int .i64)],bE:=[]}
def KH:eW:={ax:=[(1,.int .i64),(2,.own (.op 315394 0)),(5,.own (.op 315397 0)),(7,.int .i64)],bE:=[(315394,.box [.rs 4,.rs 3,.rs 8,.rs 5,.rs 4,.rs 6,.int .i64,.int .i64,.int .i64]),(315397,.box [.raw,.raw,.raw,.raw,.raw,.raw,.raw,.raw])]}
def OW:eW:={ax:=[(0,.rs 4),(4,.int .i64)],bE:=[]}
def OX:eW:={ax:=[(0,.rs 4),(4,.int .i64),(5,.int .i64)],bE:=[]}
def KI:eW:={ax:=[(1,.own (.op 188417 0)),(7,.int .i64)],bE:=[(188417,.box [.rs 4,.rs 3,.rs 8,.rs 5,.rs 4,.rs 6,.int .i64,.int .i64,.int .i64])]}
def KJ:eW:={ax:=[(1,.own (.op 188417 0)),(8,.int .i64)],bE:=[(188417,.box [.rs 4,.rs 3,.rs 8,.rs 5,.rs 4,.rs 6,.int .i64,.int .i64,.int .i64])]}
def OY:eW:={ax:=[(3,.bool),(4,.own (.op 356356 0)),(5,.own (.op 356357 0)),(6,.own (.op 356358 0)),(9,.int .i64)],bE:=[(356356,.box [.rs 4,.rs 3,.rs 8,.rs 5,.rs 4,.rs 6,.int .i64,.int .i64,.int .i64]),(356357,.box [.bool,.int .i64,.int .i64,.int .i64,.int .i64,.int .i64,.int .i64,.int .i64,.bool]),(356358,.box [.bool,.int .i64,.int .i64,.int .i64,.int .i64,.int .i64,.int .i64,.int .i64,.bool])]}
def OZ:eW:={ax:=[(3,.own (.op 258051 0)),(4,.own (.op 258052 0)),(5,.own (.op 258053 0)),(7,.int .i64),(8,.int .i64)],bE:=[(258051,.box [.rs 4,.rs 3,.rs 8,.rs 5,.rs 4,.rs 6,.int .i64,.int .i64,.int .i64]),(258052,.box [.int .i64,.int .i64,.int .i64,.bool,.int .i64,.int .i64,.bool,.bool,.int .i64,.bool]),(258053,.box [.bool,.int .i64,.int .i64,.int .i64,.int .i64,.int .i64,.int .i64,.int .i64,.bool])]}
def KK:eW:={ax:=[(0,.int .i64),(3,.int .i64),(4,.int .i64)],bE:=[]}
def KL:eW:={ax:=[(1,.rs 4),(2,.int .i64),(3,.int .i64),(4,.own (.op 462852 0)),(9,.int .i64),(10,.int .i64),(11,.int .i64)],bE:=[(462852,.box [.str,.int .i64,.int .i64,.int .i64,.int .i64,.int .i64])]}
def O0:eW:={ax:=[(1,.rs 4),(2,.own (.op 364546 0)),(7,.own (.os 364561)),(8,.int .i64)],bE:=[(364546,.box [.rs 6,.int .i64,.int .i64,.int .i64]),(364561,.arr 3 156)]}
def O1:eW:={ax:=[(1,.rs 4),(2,.own (.op 364546 0)),(7,.own (.os 364561)),(8,.int .i64),(9,.int .i64)],bE:=[(364546,.box [.rs 6,.int .i64,.int .i64,.int .i64]),(364561,.arr 3 156)]}
def KM:eW:={ax:=[(1,.rs 4),(2,.own (.op 364546 0)),(7,.own (.os 364561)),(8,.int .i64),(9,.int .i64),(10,.int .i64)],bE:=[(364546,.box [.rs 6,.int .i64,.int .i64,.int .i64]),(364561,.arr 3 156)]}
def KN:eW:={ax:=[(2,.own (.op 458754 0)),(3,.own (.op 458755 0)),(5,.int .i64),(6,.rs 5),(7,.int .i64)],bE:=[(458754,.box [.rs 4,.rs 3,.rs 8,.rs 5,.rs 4,.rs 6,.int .i64,.int .i64,.int .i64]),(458755,.box [.bool,.int .i64,.int .i64,.int .i64,.int .i64,.int .i64,.int .i64,.int .i64,.bool])]}
def O2:eW:={ax:=[(2,.own (.op 360450 0)),(3,.own (.op 360451 0)),(6,.own (.os 360462)),(7,.int .i64)],bE:=[(360450,.box [.rs 4,.rs 3,.rs 8,.rs 5,.rs 4,.rs 6,.int .i64,.int .i64,.int .i64]),(360451,.box [.rs 9]),(360462,.arr 4 143)]}
def O3:eW:={ax:=[(1,.own (.op 221185 0)),(3,.int .i64),(4,.int .i64)],bE:=[(221185,.box [.rs 9])]}
def O4:eW:={ax:=[(3,.own (.op 122883 0)),(4,.own (.op 122884 0)),(5,.own (.op 122885 0)),(8,.int .i64),(9,.int .i64)],bE:=[(122883,.box [.rs 4,.rs 3,.rs 8,.rs 5,.rs 4,.rs 6,.int .i64,.int .i64,.int .i64]),(122884,.box [.int .i64,.int .i64,.int .i64,.bool,.int .i64,.int .i64,.bool,.bool,.int .i64,.bool]),(122885,.box [.rs 9])]}
def O5:eW:={ax:=[(3,.own (.op 61443 0)),(4,.own (.op 61444 0)),(5,.own (.op 61445 0)),(9,.int .i64)],bE:=[(61443,.box [.rs 4,.rs 3,.rs 8,.rs 5,.rs 4,.rs 6,.int .i64,.int .i64,.int .i64]),(61444,.box [.int .i64,.int .i64,.int .i64,.bool,.int .i64,.int .i64,.bool,.bool,.int .i64,.bool]),(61445,.box [.rs 9])]}
def O6:eW:={ax:=[(1,.int .i64),(2,.int .i64),(3,.own (.op 262147 0)),(7,.own (.os 262156)),(8,.int .i64)],bE:=[(262147,.box [.rs 4,.rs 3,.rs 8,.rs 5,.rs 4,.rs 6,.int .i64,.int .i64,.int .i64]),(262156,.arr 9 46)]}
def O7:eW:={ax:=[(1,.int .i64),(2,.int .i64),(3,.own (.op 262147 0)),(7,.own (.os 262156)),(8,.int .i64),(9,.rs 5),(10,.int .i64)],bE:=[(262147,.box [.rs 4,.rs 3,.rs 8,.rs 5,.rs 4,.rs 6,.int .i64,.int .i64,.int .i64]),(262156,.arr 9 46)]}
def KO:eW:={ax:=[(1,.int .i64),(2,.int .i64),(3,.own (.op 262147 0)),(7,.own (.os 262156)),(8,.int .i64),(9,.rs 5),(10,.int .i64),(11,.int .i64)],bE:=[(262147,.box [.rs 4,.rs 3,.rs 8,.rs 5,.rs 4,.rs 6,.int .i64,.int .i64,.int .i64]),(262156,.arr 9 46)]}
def hints(f k:Nat):List eW:=
 bif Nat.beq f 119 then(bif Nat.beq k 3 then[Kf]else[])else
 bif Nat.beq f 72 then(bif Nat.beq k 2 then[Ow]else[])else
 bif Nat.beq f 43 then(bif Nat.beq k 6 then[Ox]else[])else
 bif Nat.beq f 140 then(bif Nat.beq k 7 then[Kg]else bif Nat.beq k 15 then[HU]else[])else
 bif Nat.beq f 143 then(bif Nat.beq k 3 then[Kh]else bif Nat.beq k 9 then[Ki]else bif Nat.beq k 15 then[HV,HW]else[])else
 bif Nat.beq f 2399269021 then(bif Nat.beq k 5 then[yI]else[])else
 bif Nat.beq f 40253260782772391 then(bif Nat.beq k 1 then[rf]else[])else
 bif Nat.beq f 2399469725 then(bif Nat.beq k 5 then[yJ]else[])else
 bif Nat.beq f 142 then(bif Nat.beq k 3 then[Kj]else[])else
 bif Nat.beq f 141 then(bif Nat.beq k 3 then[Kk]else[])else
 bif Nat.beq f 130 then(bif Nat.beq k 7 then[Km]else[])else
 bif Nat.beq f 115 then(bif Nat.beq k 3 then[Kn]else bif Nat.beq k 13 then[HX]else[])else
 bif Nat.beq f 97 then(bif Nat.beq k 5 then[Oy]else bif Nat.beq k 8 then[Oz]else[])else
 bif Nat.beq f 96 then(bif Nat.beq k 3 then[OA]else[])else
 bif Nat.beq f 74 then(bif Nat.beq k 10 then[Ko]else[])else
 bif Nat.beq f 45 then(bif Nat.beq k 3 then[OB]else[])else
 bif Nat.beq f 70 then(bif Nat.beq k 4 then[OC]else[])else
 bif Nat.beq f 68 then(bif Nat.beq k 2 then[OD]else[])else
 bif Nat.beq f 42 then(bif Nat.beq k 5 then[OE]else[])else
 bif Nat.beq f 40 then(bif Nat.beq k 2 then[OG]else[])else
 bif Nat.beq f 44 then(bif Nat.beq k 7 then[OH]else[])else
 bif Nat.beq f 39 then(bif Nat.beq k 5 then[OI]else[])else
 bif Nat.beq f 38 then(bif Nat.beq k 5 then[OJ]else[])else
 bif Nat.beq f 125 then(bif Nat.beq k 7 then[Kp]else[])else
 bif Nat.beq f 110 then(bif Nat.beq k 6 then[Kq]else bif Nat.beq k 9 then[Kr]else bif Nat.beq k 12 then[HY]else[])else
 bif Nat.beq f 86 then(bif Nat.beq k 9 then[OK]else[])else
 bif Nat.beq f 107 then(bif Nat.beq k 3 then[Ks]else[])else
 bif Nat.beq f 106 then(bif Nat.beq k 3 then[Kt]else[])else
 bif Nat.beq f 85 then(bif Nat.beq k 8 then[OL]else[])else
 bif Nat.beq f 49 then(bif Nat.beq k 3 then[OM]else[])else
 bif Nat.beq f 28 then(bif Nat.beq k 4 then[ON]else[])else
 bif Nat.beq f 104 then(bif Nat.beq k 3 then[Ku]else[])else
 bif Nat.beq f 59 then(bif Nat.beq k 6 then[OO]else[])else
 bif Nat.beq f 27 then(bif Nat.beq k 3 then[OP]else[])else
 bif Nat.beq f 10 then(bif Nat.beq k 4 then[OQ]else[])else
 bif Nat.beq f 98 then(bif Nat.beq k 4 then[OR]else[])else
 bif Nat.beq f 80 then(bif Nat.beq k 6 then[OS]else bif Nat.beq k 12 then[Kv]else[])else
 bif Nat.beq f 101 then(bif Nat.beq k 2 then[Kw]else bif Nat.beq k 6 then[Kx]else[])else
 bif Nat.beq f 78 then(bif Nat.beq k 12 then[Ky]else bif Nat.beq k 20 then[Kz]else[])else
 bif Nat.beq f 121 then(bif Nat.beq k 3 then[KA]else bif Nat.beq k 7 then[KB]else bif Nat.beq k 12 then[HZ]else bif Nat.beq k 18 then[H0]else bif Nat.beq k 21 then[H2]else bif Nat.beq k 24 then[H3]else[])else
 bif Nat.beq f 102 then(bif Nat.beq k 4 then[KC]else bif Nat.beq k 7 then[KD]else[])else
 bif Nat.beq f 79 then(bif Nat.beq k 2 then[OT]else bif Nat.beq k 10 then[KE]else bif Nat.beq k 19 then[KF]else[])else
 bif Nat.beq f 76 then(bif Nat.beq k 4 then[OU]else bif Nat.beq k 9 then[OV]else[])else
 bif Nat.beq f 100 then(bif Nat.beq k 4 then[KG]else[])else
 bif Nat.beq f 77 then(bif Nat.beq k 14 then[KH]else[])else
 bif Nat.beq f 75 then(bif Nat.beq k 4 then[OW]else bif Nat.beq k 9 then[OX]else[])else
 bif Nat.beq f 46 then(bif Nat.beq k 10 then[KI]else bif Nat.beq k 18 then[KJ]else[])else
 bif Nat.beq f 87 then(bif Nat.beq k 2 then[OY]else[])else
 bif Nat.beq f 63 then(bif Nat.beq k 3 then[OZ]else[])else
 bif Nat.beq f 128 then(bif Nat.beq k 3 then[KK]else[])else
 bif Nat.beq f 113 then(bif Nat.beq k 3 then[KL]else[])else
 bif Nat.beq f 89 then(bif Nat.beq k 4 then[O0]else bif Nat.beq k 7 then[O1]else bif Nat.beq k 11 then[KM]else[])else
 bif Nat.beq f 112 then(bif Nat.beq k 4 then[KN]else[])else
 bif Nat.beq f 88 then(bif Nat.beq k 5 then[O2]else[])else
 bif Nat.beq f 54 then(bif Nat.beq k 3 then[O3]else[])else
 bif Nat.beq f 30 then(bif Nat.beq k 8 then[O4]else[])else
 bif Nat.beq f 15 then(bif Nat.beq k 9 then[O5]else[])else
 bif Nat.beq f 64 then(bif Nat.beq k 3 then[O6]else bif Nat.beq k 7 then[O7]else bif Nat.beq k 11 then[KO]else[])else
 []
def S0:q7:={P:=Tryz.prog,aH:=fun _=>none,hint:=hints,zO:=fun s=>Nat.beq s 352264||Nat.beq s 450564||Nat.beq s 450565||Nat.beq s 495649||Nat.beq s 495650||Nat.beq s 495671||Nat.beq s 495678||Nat.beq s 495705||Nat.beq s 495710||Nat.beq s 495717||Nat.beq s 495724||Nat.beq s 499711||Nat.beq s 577544||Nat.beq s 577564||Nat.beq s 581631||Nat.beq s 1000000000000000000000000143450||Nat.beq s 1000000000000000000000000143452}
def WA(g:Nat):Option (List PV→Option PV):=bif Nat.beq g 118 then some bQ else none
def S:q7:={P:=Tryz.prog,aH:=fun _=>none,hint:=hints,LX:=fun g=>bif Nat.beq g 117 then some (wM 4 WA)else none,zO:=fun s=>Nat.beq s 352264||Nat.beq s 450564||Nat.beq s 450565||Nat.beq s 495649||Nat.beq s 495650||Nat.beq s 495671||Nat.beq s 495678||Nat.beq s 495705||Nat.beq s 495710||Nat.beq s 495717||Nat.beq s 495724||Nat.beq s 499711||Nat.beq s 577544||Nat.beq s 577564||Nat.beq s 581631||Nat.beq s 1000000000000000000000000143450||Nat.beq s 1000000000000000000000000143452}
def YF:dv:=[]
def ar:dv:=[]
def TV:dv:=(137,FI)::YF
def TY:dv:=(120,dN)::TV
def T3:dv:=(119,mO)::TY
def PM:dv:=(118,bQ)::T3
def TW:dv:=(24,bj)::PM
def TZ:dv:=(72,iT)::TW
def T5:dv:=(41,ba)::TZ
def T6:dv:=(71,cz)::T5
def TX:dv:=(43,dA)::T6
def Mn:dv:=(154,dt)::TX
def ML:dv:=(140,gW)::Mn
def M9:dv:=(156,fX)::ML
def LZ:dv:=(164,aN)::M9
def Mo:dv:=(143,eO)::LZ
def MM:dv:=(142,fL)::Mo
def Na:dv:=(141,eF)::MM
def L2:dv:=(130,fM)::Na
def Mp:dv:=(115,dC)::L2
def MN:dv:=(97,ek)::Mp
def Nb:dv:=(96,gU)::MN
def L3:dv:=(74,fa)::Nb
def Mq:dv:=(45,cn)::L3
def MO:dv:=(95,qK)::Mq
def Nc:dv:=(70,mA)::MO
def L4:dv:=(68,fm)::Nc
def Mr:dv:=(42,fb)::L4
def MP:dv:=(40,dp)::Mr
def Nf:dv:=(73,bO)::MP
def L5:dv:=(44,dn)::Nf
def Ms:dv:=(69,nM)::L5
def MQ:dv:=(39,kU)::Ms
def Ng:dv:=(38,mw)::MQ
def L6:dv:=(23,fW)::Ng
def Mt:dv:=(12,dY)::L6
def MR:dv:=(111,kP)::Mt
def Nh:dv:=(127,ei)::MR
def L7:dv:=(139,kN)::Nh
def Mu:dv:=(126,eh)::L7
def MS:dv:=(136,eg)::Mu
def Ni:dv:=(138,e8)::MS
def L8:dv:=(134,iR)::Ni
def Mv:dv:=(125,fu)::L8
def MT:dv:=(110,kO)::Mv
def Nj:dv:=(109,iB)::MT
def L9:dv:=(86,fi)::Nj
def Mw:dv:=(123,kh)::L9
def MU:dv:=(107,oa)::Mw
def Nk:dv:=(108,gQ)::MU
def Ma:dv:=(122,gh)::Nk
def My:dv:=(106,iP)::Ma
def MV:dv:=(85,iQ)::My
def Nl:dv:=(49,gP)::MV
def Mb:dv:=(50,jW)::Nl
def Mz:dv:=(28,jX)::Mb
def MW:dv:=(91,az)::Mz
def Nn:dv:=(103,bC)::MW
def Mc:dv:=(104,cq)::Nn
def MA:dv:=(83,bK)::Mc
def MX:dv:=(81,bV)::MA
def Np:dv:=(82,ca)::MX
def Md:dv:=(93,cp)::Np
def MB:dv:=(94,cJ)::Md
def MY:dv:=(84,dh)::MB
def Nq:dv:=(58,cS)::MY
def Me:dv:=(57,cm)::Nq
def MC:dv:=(92,dg)::Me
def MZ:dv:=(60,bZ)::MC
def Nr:dv:=(59,dy)::MZ
def Mf:dv:=(31,dM)::Nr
def MD:dv:=(48,dm)::Mf
def M0:dv:=(27,iO)::MD
def Ns:dv:=(14,cy)::M0
def Mg:dv:=(22,gT)::Ns
def ME:dv:=(11,dz)::Mg
def M1:dv:=(10,kS)::ME
def Nt:dv:=(98,dS)::M1
def Mh:dv:=(99,bD)::Nt
def MF:dv:=(80,kV)::Mh
def M3:dv:=(101,kY)::MF
def Nu:dv:=(78,mG)::M3
def Mi:dv:=(121,fv)::Nu
def MG:dv:=(102,fI)::Mi
def M4:dv:=(79,kX)::MG
def Nv:dv:=(76,jZ)::M4
def Mj:dv:=(100,kW)::Nv
def MH:dv:=(77,og)::Mj
def M5:dv:=(75,kT)::MH
def Ny:dv:=(46,kZ)::M5
def Mk:dv:=(25,iV)::Ny
def MI:dv:=(47,dL)::Mk
def M6:dv:=(26,fD)::MI
def Ml:dv:=(13,fE)::M6
def MJ:dv:=(53,gg)::Ml
def M7:dv:=(51,kK)::MJ
def Nz:dv:=(87,gO)::M7
def Mm:dv:=(52,jS)::Nz
def MK:dv:=(61,gM)::Mm
def M8:dv:=(62,mh)::MK
def Hg:dv:=(63,mf)::M8
def G5:dv:=(32,gN)::Hg
def G9:dv:=(29,qA)::G5
def Hd:dv:=(90,jV)::G9
def Hh:dv:=(128,ml)::Hd
def G6:dv:=(129,eE)::Hh
def Ha:dv:=(113,jT)::G6
def He:dv:=(114,e9)::Ha
def Hi:dv:=(89,kQ)::He
def G7:dv:=(112,iW)::Hi
def Hb:dv:=(88,kM)::G7
def Hf:dv:=(54,kg)::Hb
def Hj:dv:=(55,mq)::Hf
def G8:dv:=(30,ob)::Hj
def Hc:dv:=(15,kR)::G8
def Qq:dv:=(4,ec)::Hc
end
end Go.Proofs.YtanikidijjaohaaGreat
