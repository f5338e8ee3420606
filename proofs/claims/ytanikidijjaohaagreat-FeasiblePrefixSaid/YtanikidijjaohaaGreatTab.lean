import Derived.Test.YtanikidijjaohaaGreatProg
import Derived.Test.YtanikidijjaohaaGreatAbSeat
import Derived.Test.YtanikidijjaohaaGreatSh2
import Derived.KernelRfl
namespace Go.Proofs.YtanikidijjaohaaGreat
noncomputable section
open Go.Ab
set_option maxRecDepth 100000
def K6:gi:={az:=[(3,.int .i64),(6,.rs 1),(7,.int .i64),(8,.int .i64)],bX:=[]}
def Pg:gi:={az:=[(0,.raw),(2,.int .i64),(7,.int .i64),(8,.bool)],bX:=[]}
def Ph:gi:={az:=[(1,.own (.op 176129 0)),(2,.own (.op 176130 0)),(3,.own (.om 176146)),(4,.own (.om 176147)),(5,.own (.om 176148)),(22,.rs 5),(23,.int .i64),(24,.int .i64)],bX:=[(176129,.box [.rs 4,.rs 3,.rs 8,.rs 5,.rs 4,.rs 6,.int .i64,.int .i64,.int .i64]),(176130,.box [.int .i64,.int .i64,.int .i64]),(176146,.map 3),(176147,.map 3),(176148,.map 113)]}
def K7:gi:={az:=[(2,.rs 1),(7,.own (.fn 154 [.op 573443 0])),(22,.rs 3),(23,.int .i64),(24,.int .i64)],bX:=[(573443,.box [.int .i64])]}
def IM:gi:={az:=[(7,.own (.fn 154 [.op 573443 0])),(47,.rs 1),(48,.int .i64),(49,.int .i64)],bX:=[(573443,.box [.int .i64])]}
def K8:gi:={az:=[(1,.raw),(2,.int .i64),(7,.own (.os 585743)),(17,.int .i64),(18,.int .i64)],bX:=[(585743,.arr 3 204)]}
def y5:gi:={az:=[(0,.own (.op 9827338792967 0)),(4,.int .i64),(55,.raw),(61,.own (.os 585743)),(63,.own (.op 9827338792967 0))],bX:=[(9827338792967,.box [.own (.fn 156 []),.own (.os 3213876088517980551083924184682325205044405987575413009395719),.int .i64]),(585743,.arr 3 204),(3213876088517980551083924184682325205044405987575413009395719,.arr 4 221)]}
def K9:gi:={az:=[(1,.raw),(7,.own (.os 585743)),(9,.own (.op 9827338792967 0))],bX:=[(585743,.arr 3 204),(9827338792967,.box [.own (.fn 156 []),.own (.os 3213876088517980551083924184682325205044405987575413009395719),.int .i64]),(3213876088517980551083924184682325205044405987575413009395719,.arr 4 221)]}
def rP:gi:={az:=[(0,.own (.op 9827338792967 0)),(2,.int .i64),(43,.own (.op 9827456245762 0)),(45,.own (.op 9827456245764 0)),(78,.raw),(84,.own (.os 585743)),(86,.own (.op 9827338792967 0))],bX:=[(9827338792967,.box [.own (.fn 156 []),.own (.os 3213876088517980551083924184682325205044405987575413009395719),.int .i64]),(9827456245762,.box [.int .i64,.int .i64,.int .i64]),(9827456245764,.box [.raw,.raw,.raw]),(585743,.arr 3 204),(3213876088517980551083924184682325205044405987575413009395719,.arr 4 221)],ct:=[(9827338792967,1)]}
def IP:gi:={az:=[(1,.raw),(7,.own (.os 585743)),(9,.own (.op 9827338792967 0)),(10,.own (.op 585738 0)),(55,.rs 0),(56,.int .i64),(57,.int .i64)],bX:=[(585743,.arr 3 204),(9827338792967,.box [.own (.fn 156 []),.own (.os 3213876088517980551083924184682325205044405987575413009395719),.int .i64]),(585738,.box [.raw,.raw,.raw]),(3213876088517980551083924184682325205044405987575413009395719,.arr 4 221)]}
def IQ:gi:={az:=[(1,.raw),(7,.own (.os 585743)),(9,.own (.op 9827338792967 0)),(10,.own (.op 585738 0)),(55,.rs 3),(56,.int .i64),(57,.int .i64)],bX:=[(585743,.arr 3 204),(9827338792967,.box [.own (.fn 156 []),.own (.os 3213876088517980551083924184682325205044405987575413009395719),.int .i64]),(585738,.box [.raw,.raw,.raw]),(3213876088517980551083924184682325205044405987575413009395719,.arr 4 221)]}
def y6:gi:={az:=[(0,.own (.op 9827338792967 0)),(4,.int .i64),(55,.raw),(61,.own (.os 585743)),(63,.own (.op 9827338792967 0)),(64,.own (.op 585738 0)),(109,.rs 3),(110,.int .i64),(111,.int .i64)],bX:=[(9827338792967,.box [.own (.fn 156 []),.own (.os 3213876088517980551083924184682325205044405987575413009395719),.int .i64]),(585743,.arr 3 204),(585738,.box [.raw,.raw,.raw]),(3213876088517980551083924184682325205044405987575413009395719,.arr 4 221)]}
def La:gi:={az:=[(3,.own (.os 581640)),(9,.rs 3),(10,.int .i64),(11,.int .i64)],bX:=[(581640,.arr 1 3)]}
def Lb:gi:={az:=[(1,.bool),(5,.own (.om 577544)),(9,.rs 3),(10,.int .i64),(11,.int .i64)],bX:=[(577544,.fe 3 177)]}
def Lc:gi:={az:=[(0,.int .i64),(7,.raw),(8,.own (.os 532499)),(21,.int .i64),(22,.int .i64)],bX:=[(532499,.arr 1 165)]}
def Ld:gi:={az:=[(1,.int .i64),(2,.bool),(7,.own (.om 471058)),(19,.rs 4),(20,.int .i64),(21,.int .i64)],bX:=[(471058,.map 161)]}
def IU:gi:={az:=[(1,.int .i64),(13,.own (.os 471097)),(59,.own (.it 471099))],bX:=[(471097,.arr 3 177),(471099,.iter 174)]}
def Pj:gi:={az:=[(5,.rs 1),(6,.rs 1),(7,.own (.op 397319 0)),(8,.own (.fn 116 [.op 397319 0])),(21,.int .i64),(22,.int .i64)],bX:=[(397319,.box [.own (.os 1606938044258990275541962092341162602522202993782792835698695)]),(1606938044258990275541962092341162602522202993782792835698695,.arr 4 98)]}
def Pk:gi:={az:=[(5,.rs 1),(6,.rs 1),(7,.own (.op 397319 0)),(8,.own (.fn 116 [.op 397319 0])),(9,.int .i64),(21,.int .i64),(22,.int .i64),(28,.rs 1),(29,.int .i64),(30,.int .i64)],bX:=[(397319,.box [.own (.os 1606938044258990275541962092341162602522202993782792835698695)]),(1606938044258990275541962092341162602522202993782792835698695,.arr 4 98)]}
def Pl:gi:={az:=[(1,.int .i64),(6,.own (.om 393226)),(11,.rs 4),(12,.int .i64),(13,.int .i64)],bX:=[(393226,.map 161)]}
def Le:gi:={az:=[(0,.rs 4),(7,.rs 4),(29,.int .i64),(30,.int .i64)],bX:=[]}
def Pm:gi:={az:=[(1,.own (.op 184321 0)),(2,.own (.op 184322 0)),(3,.own (.om 184327)),(9,.rs 4),(10,.int .i64),(11,.int .i64)],bX:=[(184321,.box [.rs 4,.rs 3,.rs 8,.rs 5,.rs 4,.rs 6,.int .i64,.int .i64,.int .i64]),(184322,.box [.int .i64,.int .i64,.int .i64]),(184327,.map 98)]}
def Pn:gi:={az:=[(0,.rs 5),(1,.int .i64),(2,.int .i64),(3,.int .i64),(21,.int .i64),(22,.int .i64)],bX:=[]}
def Po:gi:={az:=[(0,.str),(3,.int .i64)],bX:=[]}
def Pp:gi:={az:=[(1,.own (.op 172033 0)),(2,.own (.op 172034 0)),(3,.own (.om 172046)),(16,.rs 8),(17,.int .i64),(18,.int .i64)],bX:=[(172033,.box [.rs 4,.rs 3,.rs 8,.rs 5,.rs 4,.rs 6,.int .i64,.int .i64,.int .i64]),(172034,.box [.int .i64,.int .i64,.int .i64]),(172046,.map 108)]}
def Pq:gi:={az:=[(2,.own (.op 163842 0)),(5,.rs 3),(6,.int .i64),(7,.int .i64)],bX:=[(163842,.box [.int .i64,.int .i64,.int .i64])]}
def Pr:gi:={az:=[(4,.own (.om 180251)),(29,.rs 6),(30,.int .i64),(31,.int .i64)],bX:=[(180251,.map 9)]}
def Ps:gi:={az:=[(4,.own (.om 159754)),(11,.rs 3),(12,.int .i64),(13,.int .i64)],bX:=[(159754,.map 9)]}
def Pt:gi:={az:=[(4,.own (.om 155658)),(11,.rs 4),(12,.int .i64),(13,.int .i64)],bX:=[(155658,.map 9)]}
def Lf:gi:={az:=[(2,.own (.op 512002 0)),(6,.own (.op 512006 0)),(7,.own (.op 512007 0)),(8,.own (.fn 135 [.op 512006 0,.op 512007 0])),(37,.rs 4),(38,.int .i64),(39,.int .i64)],bX:=[(512002,.box [.str,.int .i64,.int .i64,.int .i64,.int .i64,.int .i64]),(512006,.box [.int IntKind.u64]),(512007,.box [.int IntKind.u64])]}
def Lg:gi:={az:=[(2,.own (.op 450562 0)),(4,.own (.oe 450564 0 0)),(5,.own (.oe 450565 0 0)),(6,.int .i64),(7,.own (.fn 124 [.op 450562 0,.op 450563 0,.oe 450565 0 0])),(8,.int .i64)],bX:=[(450562,.box [.rs 6,.int .i64,.int .i64,.int .i64]),(450564,.arr 7 150),(450565,.arr 7 150),(450563,.box [.rs 4])]}
def Lh:gi:={az:=[(2,.own (.op 450562 0)),(4,.own (.oe 450564 0 0)),(5,.own (.oe 450565 0 0)),(6,.int .i64),(7,.own (.fn 124 [.op 450562 0,.op 450563 0,.oe 450565 0 0])),(8,.int .i64),(9,.int .i64)],bX:=[(450562,.box [.rs 6,.int .i64,.int .i64,.int .i64]),(450564,.arr 7 150),(450565,.arr 7 150),(450563,.box [.rs 4])]}
def IV:gi:={az:=[(2,.own (.op 450562 0)),(4,.own (.oe 450564 0 0)),(5,.own (.oe 450565 0 0)),(6,.int .i64),(7,.own (.fn 124 [.op 450562 0,.op 450563 0,.oe 450565 0 0])),(8,.int .i64),(9,.int .i64),(31,.int .i64),(32,.int .i64)],bX:=[(450562,.box [.rs 6,.int .i64,.int .i64,.int .i64]),(450564,.arr 7 150),(450565,.arr 7 150),(450563,.box [.rs 4])]}
def Pu:gi:={az:=[(1,.rs 4),(2,.own (.op 352258 0)),(8,.own (.oe 352264 0 0)),(9,.own (.os 352265)),(10,.int .i64)],bX:=[(352258,.box [.rs 6,.int .i64,.int .i64,.int .i64]),(352264,.arr 7 150),(352265,.arr 4 148)]}
def Li:gi:={az:=[(3,.int IntKind.u64),(6,.rs 1),(7,.int .i64),(8,.int .i64)],bX:=[]}
def Lj:gi:={az:=[(2,.own (.op 434178 0)),(5,.int IntKind.u64),(20,.rs 5),(21,.int .i64),(22,.int .i64)],bX:=[(434178,.box [.rs 4,.rs 3,.rs 8,.rs 5,.rs 4,.rs 6,.int .i64,.int .i64,.int .i64])]}
def Pv:gi:={az:=[(2,.own (.op 348162 0)),(9,.own (.op 348169 0)),(10,.own (.fn 105 [.op 348162 0,.op 348169 0])),(11,.bool),(24,.rs 9),(25,.int .i64),(26,.int .i64)],bX:=[(348162,.box [.rs 4,.rs 3,.rs 8,.rs 5,.rs 4,.rs 6,.int .i64,.int .i64,.int .i64]),(348169,.box [.own (.os 1606938044258990275541962092341162602522202993782792835649545)]),(1606938044258990275541962092341162602522202993782792835649545,.arr 4 143)]}
def Pw:gi:={az:=[(3,.int .i64),(7,.rs 9),(8,.int .i64),(9,.int .i64)],bX:=[]}
def Px:gi:={az:=[(3,.own (.op 114691 0)),(4,.own (.op 114692 0)),(5,.own (.op 114693 0)),(7,.own (.op 114695 0)),(8,.int .i64),(23,.rs 9),(24,.int .i64),(25,.int .i64)],bX:=[(114691,.box [.rs 4,.rs 3,.rs 8,.rs 5,.rs 4,.rs 6,.int .i64,.int .i64,.int .i64]),(114692,.box [.int .i64,.int .i64,.int .i64,.bool,.int .i64,.int .i64,.bool,.bool,.int .i64,.bool]),(114693,.box [.rs 9]),(114695,.box [.raw,.raw,.raw,.raw,.raw,.raw,.raw,.raw,.raw])]}
def Lk:gi:={az:=[(1,.bool),(5,.own (.op 425989 0)),(6,.own (.op 425990 0)),(15,.rs 5),(16,.int .i64),(17,.int .i64)],bX:=[(425989,.box [.raw,.raw,.raw,.raw,.raw,.raw,.raw,.raw,.raw]),(425990,.box [.raw,.raw,.raw,.raw,.raw,.raw,.raw,.raw,.raw])]}
def Py:gi:={az:=[(1,.own (.op 241665 0)),(3,.own (.op 241667 0)),(4,.int .i64),(13,.rs 4),(14,.int .i64),(15,.int .i64)],bX:=[(241665,.box [.rs 4,.rs 3,.rs 8,.rs 5,.rs 4,.rs 6,.int .i64,.int .i64,.int .i64,.int .i64,.int .i64,.int .i64,.bool,.int .i64,.int .i64,.bool,.bool,.int .i64,.bool,.rs 9,.int .i64]),(241667,.box [.raw,.raw,.raw,.raw,.raw,.raw,.raw,.raw,.raw])]}
def Pz:gi:={az:=[(5,.own (.op 110597 0)),(8,.own (.op 110600 0))],bX:=[(110597,.box [.rs 9]),(110600,.box [.rs 4,.rs 3,.rs 8,.rs 5,.rs 4,.rs 6,.int .i64,.int .i64,.int .i64,.int .i64,.int .i64,.int .i64,.bool,.int .i64,.int .i64,.bool,.bool,.int .i64,.bool,.rs 9,.int .i64])]}
def PA:gi:={az:=[(2,.own (.op 40962 0)),(49,.int .i64),(50,.int .i64)],bX:=[(40962,.box [.rs 4,.rs 3,.rs 8,.rs 5,.rs 4,.rs 6,.int .i64,.int .i64,.int .i64])]}
def PB:gi:={az:=[(0,.str),(3,.int .i64)],bX:=[]}
def PC:gi:={az:=[(1,.own (.op 327681 0)),(4,.int .i64)],bX:=[(327681,.box [.rs 6,.int .i64,.int .i64,.int .i64])]}
def Ll:gi:={az:=[(1,.own (.op 327681 0)),(4,.int .i64),(5,.own (.op 327685 0)),(6,.int .i64)],bX:=[(327681,.box [.rs 6,.int .i64,.int .i64,.int .i64]),(327685,.box [.raw,.raw,.raw,.raw,.raw,.raw])]}
def Ln:gi:={az:=[(1,.int .i64),(2,.int .i64),(3,.int .i64),(4,.own (.op 413700 0)),(9,.int .i64)],bX:=[(413700,.box [.rs 4,.rs 3,.rs 8,.rs 5,.rs 4,.rs 6,.int .i64,.int .i64,.int .i64])]}
def Lo:gi:={az:=[(1,.int .i64),(2,.int .i64),(3,.int .i64),(4,.own (.op 413700 0)),(9,.int .i64),(10,.int .i64),(11,.int .i64)],bX:=[(413700,.box [.rs 4,.rs 3,.rs 8,.rs 5,.rs 4,.rs 6,.int .i64,.int .i64,.int .i64])]}
def Lp:gi:={az:=[(1,.int .i64),(2,.own (.op 319490 0)),(5,.own (.op 319493 0)),(8,.int .i64)],bX:=[(319490,.box [.rs 4,.rs 3,.rs 8,.rs 5,.rs 4,.rs 6,.int .i64,.int .i64,.int .i64]),(319493,.box [.raw,.raw,.raw,.raw,.raw])]}
def Lq:gi:={az:=[(1,.int .i64),(2,.own (.op 319490 0)),(5,.own (.op 319493 0)),(10,.int .i64)],bX:=[(319490,.box [.rs 4,.rs 3,.rs 8,.rs 5,.rs 4,.rs 6,.int .i64,.int .i64,.int .i64]),(319493,.box [.raw,.raw,.raw,.raw,.raw])]}
def Lr:gi:={az:=[(0,.rs 4),(1,.int .i64),(2,.bool),(7,.own (.os 495632)),(8,.int .i64)],bX:=[(495632,.nest 1 165)],nz:=[495632]}
def Lt:gi:={az:=[(0,.rs 4),(1,.int .i64),(2,.bool),(7,.own (.os 495632)),(8,.int .i64),(9,.own (.os 495638)),(10,.int .i64)],bX:=[(495632,.nest 1 165),(495638,.arr 1 3)],nz:=[495632]}
def IW:gi:={az:=[(0,.rs 4),(1,.int .i64),(2,.bool),(7,.own (.os 495632)),(11,.int .i64)],bX:=[(495632,.nest 1 165)],nz:=[495632]}
def IX:gi:={az:=[(1,.int .i64),(7,.own (.os 495632)),(13,.int .i64)],bX:=[(495632,.nest 1 165)],nz:=[495632]}
def IY:gi:={az:=[(1,.int .i64),(7,.own (.os 495632)),(13,.int .i64),(14,.int .i64)],bX:=[(495632,.nest 1 165)],nz:=[495632]}
def IZ:gi:={az:=[(1,.int .i64),(7,.own (.os 495632)),(13,.int .i64),(14,.int .i64),(15,.int .i64)],bX:=[(495632,.nest 1 165)],nz:=[495632]}
def Lu:gi:={az:=[(1,.int .i64),(5,.rs 1),(6,.rs 1),(7,.own (.os 417808)),(8,.int .i64)],bX:=[(417808,.arr 4 98)]}
def Lv:gi:={az:=[(1,.int .i64),(5,.rs 1),(6,.rs 1),(7,.own (.os 417808)),(8,.int .i64),(9,.int .i64)],bX:=[(417808,.arr 4 98)]}
def PD:gi:={az:=[(1,.own (.op 323585 0)),(4,.int .i64)],bX:=[(323585,.box [.rs 4,.rs 3,.rs 8,.rs 5,.rs 4,.rs 6,.int .i64,.int .i64,.int .i64])]}
def Lw:gi:={az:=[(1,.own (.op 323585 0)),(4,.int .i64),(5,.own (.op 323589 0)),(6,.int .i64)],bX:=[(323585,.box [.rs 4,.rs 3,.rs 8,.rs 5,.rs 4,.rs 6,.int .i64,.int .i64,.int .i64]),(323589,.box [.raw,.raw,.raw,.raw])]}
def Lx:gi:={az:=[(1,.own (.op 323585 0)),(8,.rs 4),(9,.int .i64)],bX:=[(323585,.box [.rs 4,.rs 3,.rs 8,.rs 5,.rs 4,.rs 6,.int .i64,.int .i64,.int .i64])]}
def PE:gi:={az:=[(0,.rs 3),(4,.int .i64)],bX:=[]}
def PF:gi:={az:=[(0,.rs 3),(4,.int .i64),(5,.int .i64)],bX:=[]}
def Ly:gi:={az:=[(0,.rs 5),(1,.int .i64),(2,.int .i64),(3,.int .i64),(9,.int .i64)],bX:=[]}
def Lz:gi:={az:=[(1,.int .i64),(2,.own (.op 315394 0)),(5,.own (.op 315397 0)),(7,.int .i64)],bX:=[(315394,.box [.rs 4,.rs 3,.rs 8,.rs 5,.rs 4,.rs 6,.int .i64,.int .i64,.int .i64]),(315397,.box [.raw,.raw,.raw,.raw,.raw,.raw,.raw,.raw])]}
def PG:gi:={az:=[(0,.rs 4),(4,.int .i64)],bX:=[]}
def PH:gi:={az:=[(0,.rs 4),(4,.int .i64),(5,.int .i64)],bX:=[]}
def LA:gi:={az:=[(1,.own (.op 188417 0)),(7,.int .i64)],bX:=[(188417,.box [.rs 4,.rs 3,.rs 8,.rs 5,.rs 4,.rs 6,.int .i64,.int .i64,.int .i64])]}
def LB:gi:={az:=[(1,.own (.op 188417 0)),(8,.int .i64)],bX:=[(188417,.box [.rs 4,.rs 3,.rs 8,.rs 5,.rs 4,.rs 6,.int .i64,.int .i64,.int .i64])]}
def PI:gi:={az:=[(3,.bool),(4,.own (.op 356356 0)),(5,.own (.op 356357 0)),(6,.own (.op 356358 0)),(9,.int .i64)],bX:=[(356356,.box [.rs 4,.rs 3,.rs 8,.rs 5,.rs 4,.rs 6,.int .i64,.int .i64,.int .i64]),(356357,.box [.bool,.int .i64,.int .i64,.int .i64,.int .i64,.int .i64,.int .i64,.int .i64,.bool]),(356358,.box [.bool,.int .i64,.int .i64,.int .i64,.int .i64,.int .i64,.int .i64,.int .i64,.bool])]}
def PJ:gi:={az:=[(3,.own (.op 258051 0)),(4,.own (.op 258052 0)),(5,.own (.op 258053 0)),(7,.int .i64),(8,.int .i64)],bX:=[(258051,.box [.rs 4,.rs 3,.rs 8,.rs 5,.rs 4,.rs 6,.int .i64,.int .i64,.int .i64]),(258052,.box [.int .i64,.int .i64,.int .i64,.bool,.int .i64,.int .i64,.bool,.bool,.int .i64,.bool]),(258053,.box [.bool,.int .i64,.int .i64,.int .i64,.int .i64,.int .i64,.int .i64,.int .i64,.bool])]}
def PK:gi:={az:=[(3,.own (.op 73731 0)),(4,.own (.op 73732 0)),(5,.own (.op 73733 0)),(7,.int .i64)],bX:=[(73731,.box [.rs 4,.rs 3,.rs 8,.rs 5,.rs 4,.rs 6,.int .i64,.int .i64,.int .i64]),(73732,.box [.int .i64,.int .i64,.int .i64,.bool,.int .i64,.int .i64,.bool,.bool,.int .i64,.bool]),(73733,.box [.rs 9])]}
def hints(f k:Nat):List gi:=
 bif Nat.beq f 119 then(bif Nat.beq k 3 then[K6]else[])else
 bif Nat.beq f 72 then(bif Nat.beq k 2 then[Pg]else[])else
 bif Nat.beq f 43 then(bif Nat.beq k 6 then[Ph]else[])else
 bif Nat.beq f 140 then(bif Nat.beq k 7 then[K7]else bif Nat.beq k 15 then[IM]else[])else
 bif Nat.beq f 143 then(bif Nat.beq k 3 then[K8]else bif Nat.beq k 9 then[K9]else bif Nat.beq k 15 then[IP,IQ]else[])else
 bif Nat.beq f 2399269021 then(bif Nat.beq k 5 then[y5]else[])else
 bif Nat.beq f 40253260782772391 then(bif Nat.beq k 1 then[rP]else[])else
 bif Nat.beq f 2399469725 then(bif Nat.beq k 5 then[y6]else[])else
 bif Nat.beq f 142 then(bif Nat.beq k 3 then[La]else[])else
 bif Nat.beq f 141 then(bif Nat.beq k 3 then[Lb]else[])else
 bif Nat.beq f 130 then(bif Nat.beq k 7 then[Lc]else[])else
 bif Nat.beq f 115 then(bif Nat.beq k 3 then[Ld]else bif Nat.beq k 13 then[IU]else[])else
 bif Nat.beq f 97 then(bif Nat.beq k 5 then[Pj]else bif Nat.beq k 8 then[Pk]else[])else
 bif Nat.beq f 96 then(bif Nat.beq k 3 then[Pl]else[])else
 bif Nat.beq f 74 then(bif Nat.beq k 10 then[Le]else[])else
 bif Nat.beq f 45 then(bif Nat.beq k 3 then[Pm]else[])else
 bif Nat.beq f 70 then(bif Nat.beq k 4 then[Pn]else[])else
 bif Nat.beq f 68 then(bif Nat.beq k 2 then[Po]else[])else
 bif Nat.beq f 42 then(bif Nat.beq k 5 then[Pp]else[])else
 bif Nat.beq f 40 then(bif Nat.beq k 2 then[Pq]else[])else
 bif Nat.beq f 44 then(bif Nat.beq k 7 then[Pr]else[])else
 bif Nat.beq f 39 then(bif Nat.beq k 5 then[Ps]else[])else
 bif Nat.beq f 38 then(bif Nat.beq k 5 then[Pt]else[])else
 bif Nat.beq f 125 then(bif Nat.beq k 7 then[Lf]else[])else
 bif Nat.beq f 110 then(bif Nat.beq k 6 then[Lg]else bif Nat.beq k 9 then[Lh]else bif Nat.beq k 12 then[IV]else[])else
 bif Nat.beq f 86 then(bif Nat.beq k 9 then[Pu]else[])else
 bif Nat.beq f 107 then(bif Nat.beq k 3 then[Li]else[])else
 bif Nat.beq f 106 then(bif Nat.beq k 3 then[Lj]else[])else
 bif Nat.beq f 85 then(bif Nat.beq k 8 then[Pv]else[])else
 bif Nat.beq f 49 then(bif Nat.beq k 3 then[Pw]else[])else
 bif Nat.beq f 28 then(bif Nat.beq k 4 then[Px]else[])else
 bif Nat.beq f 104 then(bif Nat.beq k 3 then[Lk]else[])else
 bif Nat.beq f 59 then(bif Nat.beq k 6 then[Py]else[])else
 bif Nat.beq f 27 then(bif Nat.beq k 3 then[Pz]else[])else
 bif Nat.beq f 10 then(bif Nat.beq k 4 then[PA]else[])else
 bif Nat.beq f 98 then(bif Nat.beq k 4 then[PB]else[])else
 bif Nat.beq f 80 then(bif Nat.beq k 6 then[PC]else bif Nat.beq k 12 then[Ll]else[])else
 bif Nat.beq f 101 then(bif Nat.beq k 2 then[Ln]else bif Nat.beq k 6 then[Lo]else[])else
 bif Nat.beq f 78 then(bif Nat.beq k 12 then[Lp]else bif Nat.beq k 20 then[Lq]else[])else
 bif Nat.beq f 121 then(bif Nat.beq k 3 then[Lr]else bif Nat.beq k 7 then[Lt]else bif Nat.beq k 12 then[IW]else bif Nat.beq k 18 then[IX]else bif Nat.beq k 21 then[IY]else bif Nat.beq k 24 then[IZ]else[])else
 bif Nat.beq f 102 then(bif Nat.beq k 4 then[Lu]else bif Nat.beq k 7 then[Lv]else[])else
 bif Nat.beq f 79 then(bif Nat.beq k 2 then[PD]else bif Nat.beq k 10 then[Lw]else bif Nat.beq k 19 then[Lx]else[])else
 bif Nat.beq f 76 then(bif Nat.beq k 4 then[PE]else bif Nat.beq k 9 then[PF]else[])else
 bif Nat.beq f 100 then(bif Nat.beq k 4 then[Ly]else[])else
 bif Nat.beq f 77 then(bif Nat.beq k 14 then[Lz]else[])else
 bif Nat.beq f 75 then(bif Nat.beq k 4 then[PG]else bif Nat.beq k 9 then[PH]else[])else
 bif Nat.beq f 46 then(bif Nat.beq k 10 then[LA]else bif Nat.beq k 18 then[LB]else[])else
 bif Nat.beq f 87 then(bif Nat.beq k 2 then[PI]else[])else
 bif Nat.beq f 63 then(bif Nat.beq k 3 then[PJ]else[])else
 bif Nat.beq f 18 then(bif Nat.beq k 2 then[PK]else[])else
 []
def S0:rN:={P:=Tryz.prog,aD:=fun _=>none,hint:=hints,Ak:=fun s=>Nat.beq s 352264||Nat.beq s 450564||Nat.beq s 450565||Nat.beq s 495649||Nat.beq s 495650||Nat.beq s 495671||Nat.beq s 495678||Nat.beq s 495705||Nat.beq s 495710||Nat.beq s 495717||Nat.beq s 495724||Nat.beq s 499711||Nat.beq s 577544||Nat.beq s 577564||Nat.beq s 581631}
def XH(g:Nat):Option (List PV→Option PV):=bif Nat.beq g 118 then some bR else none
def S:rN:={P:=Tryz.prog,aD:=fun _=>none,hint:=hints,MH:=fun g=>bif Nat.beq g 117 then some (wZ 4 XH)else none,Ak:=fun s=>Nat.beq s 352264||Nat.beq s 450564||Nat.beq s 450565||Nat.beq s 495649||Nat.beq s 495650||Nat.beq s 495671||Nat.beq s 495678||Nat.beq s 495705||Nat.beq s 495710||Nat.beq s 495717||Nat.beq s 495724||Nat.beq s 499711||Nat.beq s 577544||Nat.beq s 577564||Nat.beq s 581631}
def ZL:dI:=[]
def ar:dI:=[]
def U4:dI:=(137,Gv)::ZL
def U7:dI:=(120,dW)::U4
def U9:dI:=(119,nc)::U7
def Qw:dI:=(118,bR)::U9
def U5:dI:=(24,bj)::Qw
def U8:dI:=(72,jn)::U5
def Va:dI:=(41,aX)::U8
def Vb:dI:=(71,cH)::Va
def U6:dI:=(43,dE)::Vb
def M6:dI:=(154,dx)::U6
def Nz:dI:=(140,iD)::M6
def NX:dI:=(156,gp)::Nz
def MJ:dI:=(164,aM)::NX
def M7:dI:=(143,eY)::MJ
def NA:dI:=(142,fT)::M7
def NY:dI:=(141,eR)::NA
def MK:dI:=(130,fU)::NY
def M8:dI:=(115,dG)::MK
def NB:dI:=(97,eA)::M8
def NZ:dI:=(96,iB)::NB
def ML:dI:=(74,fi)::NZ
def M9:dI:=(45,cu)::ML
def NC:dI:=(95,ru)::M9
def N0:dI:=(70,mO)::NC
def MM:dI:=(68,fy)::N0
def Na:dI:=(42,fj)::MM
def ND:dI:=(40,du)::Na
def N1:dI:=(73,bO)::ND
def MN:dI:=(44,dt)::N1
def Nb:dI:=(69,og)::MN
def NF:dI:=(39,la)::Nb
def N2:dI:=(38,mL)::NF
def MO:dI:=(23,gn)::N2
def Nc:dI:=(12,bY)::MO
def NG:dI:=(111,kZ)::Nc
def N3:dI:=(127,ez)::NG
def MP:dI:=(139,kW)::N3
def Nf:dI:=(126,ey)::MP
def NH:dI:=(136,ev)::Nf
def N4:dI:=(138,fg)::NH
def MQ:dI:=(134,jl)::N4
def Ng:dI:=(125,fC)::MQ
def NI:dI:=(110,kY)::Ng
def N5:dI:=(109,iZ)::NI
def MR:dI:=(86,fp)::N5
def Nh:dI:=(123,kB)::MR
def NJ:dI:=(107,oH)::Nh
def N6:dI:=(108,iw)::NJ
def MS:dI:=(122,gy)::N6
def Ni:dI:=(106,jh)::MS
def NK:dI:=(85,jj)::Ni
def N7:dI:=(49,iv)::NK
def MT:dI:=(50,kg)::N7
def Nj:dI:=(28,kh)::MT
def NL:dI:=(91,ay)::Nj
def N8:dI:=(103,bA)::NL
def MU:dI:=(104,cz)::N8
def Nk:dI:=(83,bK)::MU
def NM:dI:=(81,bV)::Nk
def N9:dI:=(82,cg)::NM
def MV:dI:=(93,cy)::N9
def Nl:dI:=(94,cQ)::MV
def NN:dI:=(84,dp)::Nl
def Oa:dI:=(58,cU)::NN
def MW:dI:=(57,cr)::Oa
def Nn:dI:=(92,dn)::MW
def NO:dI:=(60,cd)::Nn
def Ob:dI:=(59,dC)::NO
def MX:dI:=(31,cY)::Ob
def Np:dI:=(48,dq)::MX
def NP:dI:=(27,gm)::Np
def Oc:dI:=(14,bp)::NP
def MY:dI:=(22,iA)::Oc
def Nq:dI:=(11,aL)::MY
def NQ:dI:=(10,eG)::Nq
def Od:dI:=(98,ee)::NQ
def MZ:dI:=(99,bB)::Od
def Nr:dI:=(80,lb)::MZ
def NR:dI:=(101,lj)::Nr
def Oe:dI:=(78,mU)::NR
def M0:dI:=(121,fE)::Oe
def Ns:dI:=(102,fQ)::M0
def NS:dI:=(79,lh)::Ns
def Of:dI:=(76,kn)::NS
def M1:dI:=(100,lf)::Of
def Nt:dI:=(77,oK)::M1
def NT:dI:=(75,k9)::Nt
def Og:dI:=(46,lk)::NT
def M3:dI:=(25,kU)::Og
def Nu:dI:=(47,dU)::M3
def NU:dI:=(26,fO)::Nu
def Oh:dI:=(13,dw)::NU
def M4:dI:=(3,ek)::Oh
def Nv:dI:=(53,gx)::M4
def NV:dI:=(51,kV)::Nv
def Oi:dI:=(87,iu)::NV
def M5:dI:=(52,j6)::Oi
def Ny:dI:=(61,j4)::M5
def NW:dI:=(62,mF)::Ny
def HU:dI:=(63,mE)::NW
def HN:dI:=(32,fB)::HU
def HS:dI:=(29,q9)::HN
def HV:dI:=(5,eQ)::HS
def HO:dI:=(6,cM)::HV
def HQ:dI:=(16,j8)::HO
def HT:dI:=(17,oG)::HQ
def HW:dI:=(7,fh)::HT
def HP:dI:=(19,eX)::HW
def HR:dI:=(18,j7)::HP
def xd:dI:=(8,dV)::HR
end
end Go.Proofs.YtanikidijjaohaaGreat
