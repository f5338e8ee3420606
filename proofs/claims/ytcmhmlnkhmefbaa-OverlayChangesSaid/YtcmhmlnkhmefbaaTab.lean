import Derived.Test.YtcmhmlnkhmefbaaProg
import Derived.Test.YtcmhmlnkhmefbaaAbSeat
import Derived.Test.YtcmhmlnkhmefbaaSh2
import Derived.KernelRfl
namespace Go.Proofs.Ytcmhmlnkhmefbaa
open Go.Ab
set_option maxRecDepth 100000
def Ib:iL:={aG:=[(3,.int .i64),(6,.rs 1),(7,.int .i64),(8,.int .i64)],dz:=[]}
def Ic:iL:={aG:=[(0,.rs 5),(1,.int .i64),(2,.int .i64),(3,.int .i64),(21,.int .i64),(22,.int .i64)],dz:=[]}
def Ie:iL:={aG:=[(3,.int .i64),(6,.rs 5),(7,.int .i64),(8,.int .i64)],dz:=[]}
def Ig:iL:={aG:=[(0,.str),(3,.int .i64)],dz:=[]}
def Ih:iL:={aG:=[(0,.raw),(2,.int .i64),(7,.int .i64),(8,.bool)],dz:=[]}
def Ii:iL:={aG:=[(1,.own (.op 110593 0)),(2,.own (.op 110594 0)),(3,.own (.om 110610)),(4,.own (.om 110611)),(5,.own (.om 110612)),(22,.rs 5),(23,.int .i64),(24,.int .i64)],dz:=[(110593,.box [.rs 4,.rs 3,.rs 8,.rs 5,.rs 4,.rs 6,.int .i64,.int .i64,.int .i64]),(110594,.box [.int .i64,.int .i64,.int .i64]),(110610,.map 3),(110611,.map 3),(110612,.map 110)]}
def Ij:iL:={aG:=[(2,.rs 1),(7,.own (.fn 85 [.op 290819 0])),(22,.rs 3),(23,.int .i64),(24,.int .i64)],dz:=[(290819,.box [.int .i64])]}
def Ff:iL:={aG:=[(7,.own (.fn 85 [.op 290819 0])),(47,.rs 1),(48,.int .i64),(49,.int .i64)],dz:=[(290819,.box [.int .i64])]}
def Ik:iL:={aG:=[(1,.raw),(2,.int .i64),(7,.own (.os 303119)),(17,.int .i64),(18,.int .i64)],dz:=[(303119,.arr 3 161)]}
def tM:iL:={aG:=[(0,.own (.op 5085694615559 0)),(4,.int .i64),(55,.raw),(61,.own (.os 303119)),(63,.own (.op 5085694615559 0))],dz:=[(5085694615559,.box [.own (.fn 87 []),.own (.os 3213876088517980551083924184682325205044405987570671365218311),.int .i64]),(303119,.arr 3 161),(3213876088517980551083924184682325205044405987570671365218311,.arr 4 178)]}
def Il:iL:={aG:=[(1,.raw),(7,.own (.os 303119)),(9,.own (.op 5085694615559 0))],dz:=[(303119,.arr 3 161),(5085694615559,.box [.own (.fn 87 []),.own (.os 3213876088517980551083924184682325205044405987570671365218311),.int .i64]),(3213876088517980551083924184682325205044405987570671365218311,.arr 4 178)]}
def ny:iL:={aG:=[(0,.own (.op 5085694615559 0)),(2,.int .i64),(43,.own (.op 5085812068354 0)),(45,.own (.op 5085812068356 0)),(78,.raw),(84,.own (.os 303119)),(86,.own (.op 5085694615559 0))],dz:=[(5085694615559,.box [.own (.fn 87 []),.own (.os 3213876088517980551083924184682325205044405987570671365218311),.int .i64]),(5085812068354,.box [.int .i64,.int .i64,.int .i64]),(5085812068356,.box [.raw,.raw,.raw]),(303119,.arr 3 161),(3213876088517980551083924184682325205044405987570671365218311,.arr 4 178)],ct:=[(5085694615559,1)]}
def Fg:iL:={aG:=[(1,.raw),(7,.own (.os 303119)),(9,.own (.op 5085694615559 0)),(10,.own (.op 303114 0)),(55,.rs 0),(56,.int .i64),(57,.int .i64)],dz:=[(303119,.arr 3 161),(5085694615559,.box [.own (.fn 87 []),.own (.os 3213876088517980551083924184682325205044405987570671365218311),.int .i64]),(303114,.box [.raw,.raw,.raw]),(3213876088517980551083924184682325205044405987570671365218311,.arr 4 178)]}
def Fh:iL:={aG:=[(1,.raw),(7,.own (.os 303119)),(9,.own (.op 5085694615559 0)),(10,.own (.op 303114 0)),(55,.rs 3),(56,.int .i64),(57,.int .i64)],dz:=[(303119,.arr 3 161),(5085694615559,.box [.own (.fn 87 []),.own (.os 3213876088517980551083924184682325205044405987570671365218311),.int .i64]),(303114,.box [.raw,.raw,.raw]),(3213876088517980551083924184682325205044405987570671365218311,.arr 4 178)]}
def tN:iL:={aG:=[(0,.own (.op 5085694615559 0)),(4,.int .i64),(55,.raw),(61,.own (.os 303119)),(63,.own (.op 5085694615559 0)),(64,.own (.op 303114 0)),(109,.rs 3),(110,.int .i64),(111,.int .i64)],dz:=[(5085694615559,.box [.own (.fn 87 []),.own (.os 3213876088517980551083924184682325205044405987570671365218311),.int .i64]),(303119,.arr 3 161),(303114,.box [.raw,.raw,.raw]),(3213876088517980551083924184682325205044405987570671365218311,.arr 4 178)]}
def Im:iL:={aG:=[(3,.own (.os 299016)),(9,.rs 3),(10,.int .i64),(11,.int .i64)],dz:=[(299016,.arr 1 3)]}
def Io:iL:={aG:=[(1,.bool),(5,.own (.om 294920)),(9,.rs 3),(10,.int .i64),(11,.int .i64)],dz:=[(294920,.eG 3 137)]}
def Ip:iL:={aG:=[(0,.int .i64),(7,.raw),(8,.own (.os 274451)),(21,.int .i64),(22,.int .i64)],dz:=[(274451,.arr 1 34)]}
def Iq:iL:={aG:=[(1,.int .i64),(2,.bool),(7,.own (.om 249874)),(19,.rs 4),(20,.int .i64),(21,.int .i64)],dz:=[(249874,.map 126)]}
def Fi:iL:={aG:=[(1,.int .i64),(13,.own (.os 249913)),(59,.own (.it 249915))],dz:=[(249913,.arr 3 137),(249915,.iter 134)]}
def Ir:iL:={aG:=[(5,.rs 1),(6,.rs 1),(7,.own (.op 233479 0)),(8,.own (.fn 62 [.op 233479 0])),(21,.int .i64),(22,.int .i64)],dz:=[(233479,.box [.own (.os 1606938044258990275541962092341162602522202993782792835534855)]),(1606938044258990275541962092341162602522202993782792835534855,.arr 4 93)]}
def Is:iL:={aG:=[(5,.rs 1),(6,.rs 1),(7,.own (.op 233479 0)),(8,.own (.fn 62 [.op 233479 0])),(9,.int .i64),(21,.int .i64),(22,.int .i64),(28,.rs 1),(29,.int .i64),(30,.int .i64)],dz:=[(233479,.box [.own (.os 1606938044258990275541962092341162602522202993782792835534855)]),(1606938044258990275541962092341162602522202993782792835534855,.arr 4 93)]}
def It:iL:={aG:=[(1,.int .i64),(6,.own (.om 229386)),(11,.rs 4),(12,.int .i64),(13,.int .i64)],dz:=[(229386,.map 126)]}
def Fj:iL:={aG:=[(0,.rs 4),(7,.rs 4),(29,.int .i64),(30,.int .i64)],dz:=[]}
def Iu:iL:={aG:=[(1,.own (.op 118785 0)),(2,.own (.op 118786 0)),(3,.own (.om 118791)),(9,.rs 4),(10,.int .i64),(11,.int .i64)],dz:=[(118785,.box [.rs 4,.rs 3,.rs 8,.rs 5,.rs 4,.rs 6,.int .i64,.int .i64,.int .i64]),(118786,.box [.int .i64,.int .i64,.int .i64]),(118791,.map 93)]}
def Iv:iL:={aG:=[(1,.own (.op 106497 0)),(2,.own (.op 106498 0)),(3,.own (.om 106510)),(16,.rs 8),(17,.int .i64),(18,.int .i64)],dz:=[(106497,.box [.rs 4,.rs 3,.rs 8,.rs 5,.rs 4,.rs 6,.int .i64,.int .i64,.int .i64]),(106498,.box [.int .i64,.int .i64,.int .i64]),(106510,.map 105)]}
def Iw:iL:={aG:=[(2,.own (.op 98306 0)),(5,.rs 3),(6,.int .i64),(7,.int .i64)],dz:=[(98306,.box [.int .i64,.int .i64,.int .i64])]}
def Ix:iL:={aG:=[(4,.own (.om 114715)),(29,.rs 6),(30,.int .i64),(31,.int .i64)],dz:=[(114715,.map 9)]}
def Iy:iL:={aG:=[(4,.own (.om 94218)),(11,.rs 3),(12,.int .i64),(13,.int .i64)],dz:=[(94218,.map 9)]}
def Iz:iL:={aG:=[(4,.own (.om 90122)),(11,.rs 4),(12,.int .i64),(13,.int .i64)],dz:=[(90122,.map 9)]}
def IA:iL:={aG:=[(3,.own (.op 49155 0)),(9,.rs 8),(10,.int .i64),(11,.int .i64)],dz:=[(49155,.box [.int .i64,.int .i64,.int .i64,.int .i64,.int .i64,.str,.int .i64,.int .i64,.int .i64,.int .i64,.int .i64,.bool,.rs 5])]}
def uX:iL:={aG:=[(1,.own (.op 893588152321 0)),(2,.own (.op 893588152322 0)),(3,.own (.op 893588152323 0)),(25,.int .i64),(26,.int .i64),(50,.rs 13),(51,.own (.op 53250 0)),(53,.own (.op 53252 0))],dz:=[(893588152321,.box [.rs 4,.rs 3,.rs 8,.rs 5,.rs 4,.rs 6,.int .i64,.int .i64,.int .i64]),(893588152322,.box [.own .aX,.own .aX,.own .aX,.own .aX,.own .aX,.own .aX,.int .i64,.int .i64,.int .i64]),(893588152323,.box [.own (.os 893588152327),.own (.os 893588152330),.own (.os 893588152333),.own (.os 893588152336),.own (.os 893588152339),.rs 6,.int .i64,.int .i64,.int .i64]),(53250,.box [.rs 4,.rs 3,.rs 8,.rs 5,.rs 4,.rs 6,.int .i64,.int .i64,.int .i64]),(53252,.box [.own .aX,.own .aX,.own .aX,.own .aX,.own .aX,.own .aX,.int .i64,.int .i64,.int .i64]),(893588152327,.arr 4 59),(893588152330,.arr 3 61),(893588152333,.nest 8 39),(893588152336,.arr 5 90),(893588152339,.arr 4 93)],nz:=[893588152333]}
def IB:iL:={aG:=[(1,.rs 13),(4,.own (.op 53252 0)),(6,.own (.op 53254 0)),(9,.int .i64),(10,.own (.os 53258)),(22,.int .i64),(23,.int .i64)],dz:=[(53252,.box [.own .aX,.own .aX,.own .aX,.own .aX,.own .aX,.own .aX,.int .i64,.int .i64,.int .i64]),(53254,.box [.own (.os 893588152327),.own (.os 893588152330),.own (.os 893588152333),.own (.os 893588152336),.own (.os 893588152339),.own (.os 893588152365),.int .i64,.int .i64,.int .i64]),(53258,.arr 1 45),(893588152327,.arr 4 59),(893588152330,.arr 3 61),(893588152333,.nest 8 39),(893588152336,.arr 5 90),(893588152339,.arr 4 93),(893588152365,.arr 6 97)],ct:=[(53254,3)]}
def ku:iL:={aG:=[(0,.row 893588152333 7),(1,.int .i64),(8,.own (.os 251640764695074825941762083)),(10,.int .i64),(57,.int .i64),(58,.int .i64),(112,.own (.op 53254 0)),(114,.int .i64),(251,.rs 13),(254,.own (.op 53252 0)),(256,.own (.op 53254 0)),(259,.int .i64),(260,.own (.os 53258)),(272,.int .i64),(273,.int .i64)],dz:=[(893588152333,.nest 8 39),(251640764695074825941762083,.arr 5 55),(53254,.box [.own (.os 893588152327),.own (.os 893588152330),.own (.os 893588152333),.own (.os 893588152336),.own (.os 893588152339),.own (.os 893588152365),.int .i64,.int .i64,.int .i64]),(53252,.box [.own .aX,.own .aX,.own .aX,.own .aX,.own .aX,.own .aX,.int .i64,.int .i64,.int .i64]),(53258,.arr 1 45),(893588152327,.arr 4 59),(893588152330,.arr 3 61),(893588152336,.arr 5 90),(893588152339,.arr 4 93),(893588152365,.arr 6 97)]}
def gN:iL:={aG:=[(0,.own (.os 893588152336)),(1,.own (.fn 54 [.op 14998958391345463301 0])),(7,.int .i64),(8,.int .i64),(19,.own (.os 893588152336)),(20,.own (.fn 54 [.op 14998958391345463301 0])),(94,.own (.op 53254 0)),(206,.rs 13),(209,.own (.op 53252 0)),(211,.own (.op 53254 0)),(214,.int .i64),(215,.own (.os 53258)),(227,.int .i64),(228,.int .i64)],dz:=[(893588152336,.arr 5 90),(14998958391345463301,.box [.int .i64]),(53254,.box [.own (.os 893588152327),.own (.os 893588152330),.own (.os 893588152333),.own (.os 893588152336),.own (.os 893588152339),.own (.os 893588152365),.int .i64,.int .i64,.int .i64]),(53252,.box [.own .aX,.own .aX,.own .aX,.own .aX,.own .aX,.own .aX,.int .i64,.int .i64,.int .i64]),(53258,.arr 1 45),(893588152327,.arr 4 59),(893588152330,.arr 3 61),(893588152333,.nest 8 39),(893588152339,.arr 4 93),(893588152365,.arr 6 97)]}
def kz:iL:={aG:=[(0,.own (.os 893588152336)),(1,.own (.fn 54 [.op 14998958391345463301 0])),(5,.int .i64),(6,.int .i64),(75,.own (.op 53254 0)),(187,.rs 13),(190,.own (.op 53252 0)),(192,.own (.op 53254 0)),(195,.int .i64),(196,.own (.os 53258)),(208,.int .i64),(209,.int .i64)],dz:=[(893588152336,.arr 5 90),(14998958391345463301,.box [.int .i64]),(53254,.box [.own (.os 893588152327),.own (.os 893588152330),.own (.os 893588152333),.own (.os 893588152336),.own (.os 893588152339),.own (.os 893588152365),.int .i64,.int .i64,.int .i64]),(53252,.box [.own .aX,.own .aX,.own .aX,.own .aX,.own .aX,.own .aX,.int .i64,.int .i64,.int .i64]),(53258,.arr 1 45),(893588152327,.arr 4 59),(893588152330,.arr 3 61),(893588152333,.nest 8 39),(893588152339,.arr 4 93),(893588152365,.arr 6 97)]}
def uY:iL:={aG:=[(1,.own (.op 756384079873 0)),(2,.own (.op 756384079874 0)),(3,.own (.op 756384079875 0)),(25,.int .i64),(26,.int .i64),(52,.own (.op 45059 0)),(53,.own (.op 45060 0))],dz:=[(756384079873,.box [.rs 4,.rs 3,.rs 8,.rs 5,.rs 4,.rs 6,.int .i64,.int .i64,.int .i64]),(756384079874,.box [.own .aX,.own .aX,.own .aX,.own .aX,.own .aX,.own .aX,.int .i64,.int .i64,.int .i64]),(756384079875,.box [.own (.os 756384079879),.own (.os 756384079882),.own (.os 756384079885),.own (.os 756384079888),.own (.os 756384079891),.rs 6,.int .i64,.int .i64,.int .i64]),(45059,.box [.int .i64,.int .i64,.int .i64,.int .i64,.int .i64,.str,.int .i64,.int .i64,.int .i64,.int .i64,.int .i64,.bool,.rs 5]),(45060,.box [.own .aX,.own .aX,.own .aX,.own .aX,.own .aX,.own .aX,.int .i64,.int .i64,.int .i64]),(756384079879,.arr 4 59),(756384079882,.arr 3 61),(756384079885,.nest 8 39),(756384079888,.arr 5 90),(756384079891,.arr 4 93)],nz:=[756384079885]}
def kv:iL:={aG:=[(0,.row 756384079885 7),(1,.int .i64),(8,.own (.os 212912637169060865544241187)),(10,.int .i64),(57,.int .i64),(58,.int .i64),(112,.own (.op 45066 0)),(114,.int .i64),(254,.own (.op 45060 0)),(260,.own (.op 45066 0))],dz:=[(756384079885,.nest 8 39),(212912637169060865544241187,.arr 5 55),(45066,.box [.own (.os 756384079879),.own (.os 756384079882),.own (.os 756384079885),.own (.os 756384079888),.own (.os 756384079891),.own (.os 756384079917),.int .i64,.int .i64,.int .i64]),(45060,.box [.own .aX,.own .aX,.own .aX,.own .aX,.own .aX,.own .aX,.int .i64,.int .i64,.int .i64]),(756384079879,.arr 4 59),(756384079882,.arr 3 61),(756384079888,.arr 5 90),(756384079891,.arr 4 93),(756384079917,.arr 6 97)]}
def hU:iL:={aG:=[(0,.own (.os 756384079888)),(1,.own (.fn 54 [.op 12690582107341373445 0])),(7,.int .i64),(8,.int .i64),(19,.own (.os 756384079888)),(20,.own (.fn 54 [.op 12690582107341373445 0])),(94,.own (.op 45066 0)),(209,.own (.op 45060 0)),(215,.own (.op 45066 0))],dz:=[(756384079888,.arr 5 90),(12690582107341373445,.box [.int .i64]),(45066,.box [.own (.os 756384079879),.own (.os 756384079882),.own (.os 756384079885),.own (.os 756384079888),.own (.os 756384079891),.own (.os 756384079917),.int .i64,.int .i64,.int .i64]),(45060,.box [.own .aX,.own .aX,.own .aX,.own .aX,.own .aX,.own .aX,.int .i64,.int .i64,.int .i64]),(756384079879,.arr 4 59),(756384079882,.arr 3 61),(756384079885,.nest 8 39),(756384079891,.arr 4 93),(756384079917,.arr 6 97)]}
def kA:iL:={aG:=[(0,.own (.os 756384079888)),(1,.own (.fn 54 [.op 12690582107341373445 0])),(5,.int .i64),(6,.int .i64),(75,.own (.op 45066 0)),(190,.own (.op 45060 0)),(196,.own (.op 45066 0))],dz:=[(756384079888,.arr 5 90),(12690582107341373445,.box [.int .i64]),(45066,.box [.own (.os 756384079879),.own (.os 756384079882),.own (.os 756384079885),.own (.os 756384079888),.own (.os 756384079891),.own (.os 756384079917),.int .i64,.int .i64,.int .i64]),(45060,.box [.own .aX,.own .aX,.own .aX,.own .aX,.own .aX,.own .aX,.int .i64,.int .i64,.int .i64]),(756384079879,.arr 4 59),(756384079882,.arr 3 61),(756384079885,.nest 8 39),(756384079891,.arr 4 93),(756384079917,.arr 6 97)]}
def IC:iL:={aG:=[(0,.rs 5),(1,.rs 5),(12,.int .i64),(13,.int .i64)],dz:=[]}
def LM:iL:={aG:=[(2,.own (.op 24578 0)),(3,.own (.op 24579 0)),(5,.own (.os 24581)),(13,.int .i64),(14,.int .i64)],dz:=[(24578,.box [.rs 4,.rs 3,.rs 8,.rs 5,.rs 4,.rs 6,.int .i64,.int .i64,.int .i64]),(24579,.box [.rs 4,.rs 3,.rs 8,.rs 5,.rs 4,.rs 6,.int .i64,.int .i64,.int .i64]),(24581,.arr 1 3)]}
def LN:iL:={aG:=[(1,.own (.op 16385 0)),(3,.int .i64)],dz:=[(16385,.box [.rs 4,.rs 3,.rs 8,.rs 5,.rs 4,.rs 6,.int .i64,.int .i64,.int .i64])]}
def ID:iL:={aG:=[(0,.rs 5),(1,.rs 5),(5,.int .i64)],dz:=[]}
def IE:iL:={aG:=[(0,.rs 8),(1,.rs 8),(5,.int .i64)],dz:=[]}
def LO:iL:={aG:=[(2,.own (.op 28674 0)),(3,.own (.op 28675 0)),(5,.own (.os 28677)),(6,.int .i64)],dz:=[(28674,.box [.rs 4,.rs 3,.rs 8,.rs 5,.rs 4,.rs 6,.int .i64,.int .i64,.int .i64]),(28675,.box [.rs 4,.rs 3,.rs 8,.rs 5,.rs 4,.rs 6,.int .i64,.int .i64,.int .i64]),(28677,.arr 1 3)]}
def LP:iL:={aG:=[(5,.rs 1),(6,.rs 1),(7,.int .i64)],dz:=[]}
def hints(f k:Nat):List iL:=
 bif Nat.beq f 65 then(bif Nat.beq k 3 then[Ib]else[])else
 bif Nat.beq f 46 then(bif Nat.beq k 4 then[Ic]else[])else
 bif Nat.beq f 58 then(bif Nat.beq k 3 then[Ie]else[])else
 bif Nat.beq f 31 then(bif Nat.beq k 2 then[Ig]else[])else
 bif Nat.beq f 48 then(bif Nat.beq k 2 then[Ih]else[])else
 bif Nat.beq f 27 then(bif Nat.beq k 6 then[Ii]else[])else
 bif Nat.beq f 71 then(bif Nat.beq k 7 then[Ij]else bif Nat.beq k 15 then[Ff]else[])else
 bif Nat.beq f 74 then(bif Nat.beq k 3 then[Ik]else bif Nat.beq k 9 then[Il]else bif Nat.beq k 15 then[Fg,Fh]else[])else
 bif Nat.beq f 1241641048 then(bif Nat.beq k 5 then[tM]else[])else
 bif Nat.beq f 20831486232109154 then(bif Nat.beq k 1 then[ny]else[])else
 bif Nat.beq f 1241841752 then(bif Nat.beq k 5 then[tN]else[])else
 bif Nat.beq f 73 then(bif Nat.beq k 3 then[Im]else[])else
 bif Nat.beq f 72 then(bif Nat.beq k 3 then[Io]else[])else
 bif Nat.beq f 67 then(bif Nat.beq k 7 then[Ip]else[])else
 bif Nat.beq f 61 then(bif Nat.beq k 3 then[Iq]else bif Nat.beq k 13 then[Fi]else[])else
 bif Nat.beq f 57 then(bif Nat.beq k 5 then[Ir]else bif Nat.beq k 8 then[Is]else[])else
 bif Nat.beq f 56 then(bif Nat.beq k 3 then[It]else[])else
 bif Nat.beq f 50 then(bif Nat.beq k 10 then[Fj]else[])else
 bif Nat.beq f 29 then(bif Nat.beq k 3 then[Iu]else[])else
 bif Nat.beq f 26 then(bif Nat.beq k 5 then[Iv]else[])else
 bif Nat.beq f 24 then(bif Nat.beq k 2 then[Iw]else[])else
 bif Nat.beq f 28 then(bif Nat.beq k 7 then[Ix]else[])else
 bif Nat.beq f 23 then(bif Nat.beq k 5 then[Iy]else[])else
 bif Nat.beq f 22 then(bif Nat.beq k 5 then[Iz]else[])else
 bif Nat.beq f 12 then(bif Nat.beq k 2 then[IA]else[])else
 bif Nat.beq f 218161170 then(bif Nat.beq k 3 then[uX]else[])else
 bif Nat.beq f 13 then(bif Nat.beq k 5 then[IB]else[])else
 bif Nat.beq f 61435733568133502427188 then(bif Nat.beq k 14 then[ku]else[])else
 bif Nat.beq f 1030720572238296551389562708028 then(bif Nat.beq k 2 then[gN]else[])else
 bif Nat.beq f 61435733570951017820213 then(bif Nat.beq k 5 then[kz]else[])else
 bif Nat.beq f 184664082 then(bif Nat.beq k 3 then[uY]else[])else
 bif Nat.beq f 51980624308852750377012 then(bif Nat.beq k 14 then[kv]else[])else
 bif Nat.beq f 872090161891743369601317118012 then(bif Nat.beq k 2 then[hU]else[])else
 bif Nat.beq f 51980624311670265770037 then(bif Nat.beq k 5 then[kA]else[])else
 bif Nat.beq f 20 then(bif Nat.beq k 4 then[IC]else[])else
 bif Nat.beq f 6 then(bif Nat.beq k 3 then[LM]else[])else
 bif Nat.beq f 4 then(bif Nat.beq k 4 then[LN]else[])else
 bif Nat.beq f 21 then(bif Nat.beq k 4 then[ID]else[])else
 bif Nat.beq f 15 then(bif Nat.beq k 4 then[IE]else[])else
 bif Nat.beq f 7 then(bif Nat.beq k 3 then[LO]else[])else
 bif Nat.beq f 3 then(bif Nat.beq k 7 then[LP]else[])else
 []
noncomputable def S0:nr:={P:=Try.prog,ax:=fun _=>none,hint:=hints,u7:=fun s=>Nat.beq s 294920||Nat.beq s 294940||Nat.beq s 299007||Nat.beq s 756384083967||Nat.beq s 756417638448||Nat.beq s 756417638479||Nat.beq s 756417638491||Nat.beq s 756417642495||Nat.beq s 893588156415||Nat.beq s 894007586864||Nat.beq s 894007586895||Nat.beq s 894007586907||Nat.beq s 894007590911||Nat.beq s 12690582106015965245||Nat.beq s 12690582106015965246||Nat.beq s 12690582106015965247||Nat.beq s 12690582106653503505||Nat.beq s 12690582106653507583||Nat.beq s 12690582107341377535||Nat.beq s 14998958390020055101||Nat.beq s 14998958390020055102||Nat.beq s 14998958390020055103||Nat.beq s 14998958390657593361||Nat.beq s 14998958390657597439||Nat.beq s 14998958391345467391}
noncomputable def Qy(g:Nat):Option (List PV→Option PV):=bif Nat.beq g 64 then some aZ else none
noncomputable def S:nr:={P:=Try.prog,ax:=fun _=>none,hint:=hints,Gj:=fun g=>bif Nat.beq g 63 then some (si 4 Qy)else none,u7:=fun s=>Nat.beq s 294920||Nat.beq s 294940||Nat.beq s 299007||Nat.beq s 756384083967||Nat.beq s 756417638448||Nat.beq s 756417638479||Nat.beq s 756417638491||Nat.beq s 756417642495||Nat.beq s 893588156415||Nat.beq s 894007586864||Nat.beq s 894007586895||Nat.beq s 894007586907||Nat.beq s 894007590911||Nat.beq s 12690582106015965245||Nat.beq s 12690582106015965246||Nat.beq s 12690582106015965247||Nat.beq s 12690582106653503505||Nat.beq s 12690582106653507583||Nat.beq s 12690582107341377535||Nat.beq s 14998958390020055101||Nat.beq s 14998958390020055102||Nat.beq s 14998958390020055103||Nat.beq s 14998958390657593361||Nat.beq s 14998958390657597439||Nat.beq s 14998958391345467391}
noncomputable def NP:gJ:=[]
noncomputable def bD:gJ:=[]
noncomputable def NS:gJ:=(66,cy)::NP
noncomputable def NV:gJ:=(65,gb)::NS
noncomputable def Js:gJ:=(64,aZ)::NV
noncomputable def NQ:gJ:=(9,gv)::Js
noncomputable def NT:gJ:=(10,fq)::NQ
noncomputable def NW:gJ:=(8,fe)::NT
noncomputable def NX:gJ:=(55,ji)::NW
noncomputable def NR:gJ:=(46,df)::NX
noncomputable def NU:gJ:=(59,eN)::NR
noncomputable def GK:gJ:=(58,dU)::NU
noncomputable def GX:gJ:=(32,ga)::GK
noncomputable def Gl:gJ:=(31,dd)::GX
noncomputable def Gy:gJ:=(30,bp)::Gl
noncomputable def GL:gJ:=(33,dN)::Gy
noncomputable def GY:gJ:=(34,eX)::GL
noncomputable def Gm:gJ:=(17,cm)::GY
noncomputable def Gz:gJ:=(48,eF)::Gm
noncomputable def GM:gJ:=(25,aK)::Gz
noncomputable def GZ:gJ:=(47,bE)::GM
noncomputable def Gn:gJ:=(27,bT)::GZ
noncomputable def GA:gJ:=(85,bZ)::Gn
noncomputable def GN:gJ:=(71,eg)::GA
noncomputable def G0:gJ:=(87,dS)::GN
noncomputable def Gp:gJ:=(95,au)::G0
noncomputable def GB:gJ:=(74,cZ)::Gp
noncomputable def GO:gJ:=(73,dn)::GB
noncomputable def G1:gJ:=(72,cF)::GO
noncomputable def Gq:gJ:=(67,dH)::G1
noncomputable def GC:gJ:=(61,bS)::Gq
noncomputable def GP:gJ:=(57,cE)::GC
noncomputable def G2:gJ:=(56,ef)::GP
noncomputable def Gs:gJ:=(50,cY)::G2
noncomputable def GD:gJ:=(29,bl)::Gs
noncomputable def GQ:gJ:=(26,cX)::GD
noncomputable def G3:gJ:=(24,ck)::GQ
noncomputable def Gt:gJ:=(49,bf)::G3
noncomputable def GF:gJ:=(28,cK)::Gt
noncomputable def GR:gJ:=(45,gu)::GF
noncomputable def G4:gJ:=(23,fp)::GR
noncomputable def Gu:gJ:=(22,fZ)::G4
noncomputable def ot:gJ:=(16,dR)::Gu
noncomputable def GS:gJ:=(40,bW)::bD
noncomputable def G5:gJ:=(39,bm)::GS
noncomputable def Gv:gJ:=(38,bV)::G5
noncomputable def GG:gJ:=(41,bB)::Gv
noncomputable def GU:gJ:=(36,bI)::GG
noncomputable def G6:gJ:=(37,cr)::GU
noncomputable def CH:gJ:=(35,bU)::G6
noncomputable def CJ:gJ:=(12,bq)::ot
noncomputable def jX:gJ:=(51,cL)::CH
noncomputable def G7:gJ:=(54,bC)::CJ
noncomputable def Gw:gJ:=(13,eO)::G7
noncomputable def GH:gJ:=(11,aT)::Gw
noncomputable def GV:gJ:=(20,bH)::GH
noncomputable def G8:gJ:=(14,eW)::GV
noncomputable def CI:gJ:=(6,bt)::G8
noncomputable def GI:gJ:=(5,dw)::CI
noncomputable def GW:gJ:=(4,gw)::GI
noncomputable def G9:gJ:=(21,fk)::GW
noncomputable def Gx:gJ:=(15,fM)::G9
noncomputable def GJ:gJ:=(7,gn)::Gx
noncomputable def OA:gJ:=(3,dK)::GJ
end Go.Proofs.Ytcmhmlnkhmefbaa
