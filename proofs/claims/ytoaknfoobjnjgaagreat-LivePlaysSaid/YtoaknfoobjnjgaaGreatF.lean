import Derived.Test.YtoaknfoobjnjgaaGreatE
set_option linter.all false
open Option renaming some→U,none→Z
open Bool renaming true→Y,false→J
open Decidable renaming decide→O
open List renaming range→I
open Go.IntKind renaming wrap→C
namespace Go.Ab.Tt
set_option maxRecDepth 100000
def ZO(s:Bytes)(hs:s.length<=maxLen):qk [.str s]=U (.bool (dq s)):=by
 have hm:=ax;simp only[qk,HE,bU,ab,aG];refine D3 s hs (λk hk rec=>?_) (λrec=>?_) ?_
 .have h1:(k:Int)<(s.length:Int):=aa
  simp only[Bp,tb,h1,By,D2,ta hk,ab,bh,aG,ag (aa:k<9223372036854775807),dQ];grind [lq,ge_iff_le,decide]
 .simp[Bp,tb,awV,OF]
 grind
def acr(s:Bytes)(hs:s.length<=maxLen):mj [.str s]=U (.bool (dq s)):=by
 have hm:=ax;simp only[mj,vH,bU,ab,aG];refine D3 s hs (λk hk rec=>?_) (λrec=>?_) ?_
 .have h1:(k:Int)<(s.length:Int):=aa
  simp only[pK,tb,h1,By,D2,ta hk,ab,bh,aG,ag (aa:k<9223372036854775807),bW];grind [lq,ge_iff_le,decide]
 .simp[pK,tb,awV,OF]
 grind
def LY(s:Bytes)(hs:s.length<=maxLen):jY [.str s]=U (.bool (dq s)):=by
 have hm:=ax;simp only[jY,Fg,bU,ab,aG];refine D3 s hs (λk hk rec=>?_) (λrec=>?_) ?_
 .have h1:(k:Int)<(s.length:Int):=aa
  simp only[pX,tb,h1,By,D2,ta hk,ab,bh,aG,ag (aa:k<9223372036854775807),bW];grind [lq,ge_iff_le,decide]
 .simp[pX,tb,awV,OF]
 grind
def agw(l:List Stop)(hl:l.length<=maxLen)(s:Bytes):zB [.rs 4 (l.map Stop.pv),.str s]=U (.int .i64 (LX (l.map Stop.id) s)):=by
 have hm:=ax;simp only[zB,Kf,aJ,bU,By,ab];refine(aC (λk=>(l.map Stop.pv,s,(k:Int),())) l.length (λk=>if O ((l.map Stop.id)[k]?=U s)=Y then U (U (.int .i64 k))else Z) (fin:=U (.int .i64 (-1))) (λk hk rec=>?_) (λrec=>?_) ?_ rfl).trans ?_
 .have h1:(k:Int)<(l.length:Int):=aa
  simp only[Dm,tb,te,h1,By,af,AT,ta hk,IN,ab,Stop.pv,cell,PV.cells,Uz,bU,ag (aa:k<9223372036854775807),bW,tc];grind [bN]
 .simp[Dm,tb,te,awV,OF]
 .have:=aP;omega
 .rw[fD];unfold LX;simp only[te];cases(I l.length).find? λk=>O ((l.map Stop.id)[k]?=U s)<;>rfl
def akg(l:List Stop)(hl:l.length<=maxLen/\∀y∈l,y.Ok):wK [.rs 4 (l.map Stop.pv)]=U (res (gk l).1 (gk l).2):=by
 have hm:=ax;simp only[wK,HD,aJ,By,ab,te];unfold gk;by_cases kh:l.length>64
 .rw[BY ah,BY kh];rfl
 .rw[IT ah,IT kh,<-dr];refine aC (λk=>(l.map Stop.pv,(k:Int),())) l.length _ (λk hk rec=>?_) (λrec=>?_) ?_ rfl
  .have h1:(k:Int)<(l.length:Int):=aa
   have hid:=acr l[k].id (hl.2 _ (alx hk)).id;have R0:=agw l hl.1 l[k].id;have bX:=amv (l.map Stop.id) k (by simpa using hk);simp only[List.getElem_map]at bX;simp only[Bo,tb,te,h1,By,af,AT,ta hk,IN,ab,Stop.pv,cell,PV.cells,Uz,WK,bU,asInt,asBool,hid,R0,aG,ag (aa:k<9223372036854775807)];unfold O6;rw[ta hk];simp only;generalize (O (l[k].Gd<0)||decide (l[k].Gd>=16)||decide (l[k].change<0)||decide (l[k].change>3600))=c;cases dq l[k].id with
   |false=>rfl
   |true=>
    by_cases bt:l[k].id∈(l.map Stop.id).take k
    .simp only[bX.2 bt,bt,By,aq3,AI,ax7,OF];rfl
    .have hn:¬LX (l.map Stop.id) l[k].id<(k:Int):=λh=>bt (bX.1 h);simp only[hn,bt,By,aq3,AI,ax7,OF];cases c<;>rfl
  .simp only[Bo,tb,te,awV,OF];rfl
  .have:=aP;omega
def ZP(l:List aD)(hl:l.length<=maxLen)(i:Nat)(hi:i<l.length)(iO:List PV×Int×Unit->Option PV):cD.run (uN iO) (l.map aD.pv,(i:Int),0,())=if l[i].id∈(l.map aD.id).take i then U (res i 6)else if(O (l[i].mode>=0)&&O (l[i].mode<8))=J then U (res i 2)else iO (l.map aD.pv,C .i64 ((i:Int)+1),()):=by
 have hm:=ax;refine(aC (λk=>(l.map aD.pv,(i:Int),(k:Int),())) i (λk=>if O ((l.map aD.id)[k]?=U l[i].id)=Y then U (U (res i 6))else Z) (fin:=if(O (l[i].mode>=0)&&O (l[i].mode<8))=J then U (res i 2)else iO (l.map aD.pv,C .i64 ((i:Int)+1),())) (λk hk rec=>?_) (λrec=>?_) ?_ rfl).trans ?_
 .have h1:(k:Int)<(i:Int):=aa
  have mq:k<l.length:=aa
  simp only[uN,tb,h1,By,af,AT,ta mq,ta hi,IN,ab,aD.pv,cell,PV.cells,Uz,bU,ag (aa:k<9223372036854775807),bW,tc];grind [bN,res]
 .simp only[uN,tb,awV,OF,af,AT,ta hi,IN,ab,aD.pv,cell,PV.cells,Uz,WK,asInt,asBool,By,FJ,Kg,bh];generalize (O (l[i].mode>=0)&&O (l[i].mode<8))=c;cases c<;>rfl
 .have:=aP;omega
 .rw[fD];cases hf:(I i).find? λk=>O ((l.map aD.id)[k]?=U l[i].id)with
  |none=>
   have hn:l[i].id∉(l.map aD.id).take i:=λbt=>by have⟨j,hj⟩:=ayc.1 bt;grind
   rw[IT hn];rfl
  |some j=>rw[azU]at hf;obtain⟨h1,h2,_⟩:=hf;have bt:l[i].id∈(l.map aD.id).take i:=ayc.2 ⟨j,av⟩;rw[BY bt];rfl
def agx(l:List aD)(hl:l.length<=maxLen/\∀y∈l,y.Ok):wM [.rs 3 (l.map aD.pv)]=U (res (eC l).1 (eC l).2):=by
 have hm:=ax;simp only[wM,HG,aJ,By,ab,te];unfold eC;by_cases kh:l.length>64
 .rw[BY ah,BY kh];rfl
 .rw[IT ah,IT kh,<-dr];refine aC (λk=>(l.map aD.pv,(k:Int),())) l.length _ (λk hk rec=>?_) (λrec=>?_) ?_ rfl
  .have h1:(k:Int)<(l.length:Int):=aa
   have hid:=LY l[k].id (hl.2 _ (alx hk)).id;have nJ:=ZP l hl.1 k hk rec;have sD:cell (l[k].pv) 0=.str l[k].id:=rfl;simp only[Br,tb,te,h1,By,af,AT,ta hk,IN,ab,sD,bU,asBool,hid,nJ,ag (aa:k<9223372036854775807)];unfold Ln;rw[ta hk];simp only;generalize (O (l[k].mode>=0)&&O (l[k].mode<8))=c;cases dq l[k].id with
   |false=>rfl
   |true=>
    by_cases bt:l[k].id∈(l.map aD.id).take k
    .simp only[bt,By,aq3,AI,ax7,OF];rfl
    .simp only[bt,By,aq3,AI,ax7,OF];cases c<;>rfl
  .simp only[Br,tb,te,awV,OF];rfl
  .have:=aP;omega
def dv(n:Int):Bool:=O (0<=n)&&O (n<=36524)
def aek(n:Int):dh [.int .i64 n]=U (.bool (dv n)):=by simp only[dh,AX,asInt,By,ab,bh];rfl
def ZQ(n:Int):eX [.int .i64 n]=U (.bool (dv n)):=by simp only[eX,B5,asInt,By,ab,bh];rfl
def acs(l:List sE)(k:Nat):Int:=match l[k]? with
 |none=>0
 |some x=>if dq x.id=J then 12 else if x.id∈(l.map sE.id).take k then 6 else if(!dv x.Ge|| !dv x.Gf||decide (x.Ge>x.Gf))=Y then 11 else 0
def Ic(l:List sE):Int×Int:=if l.length>64 then(0,5)else cg (acs l) l.length
def art(x:sE):cell x.pv 0=.str x.id:=rfl
def af3(x:sE):cell x.pv 8=.int .i64 x.Ge:=rfl
def af4(x:sE):cell x.pv 9=.int .i64 x.Gf:=rfl
def akh(l:List sE)(hl:l.length<=maxLen/\∀y∈l,y.Ok):oZ [.rs 10 (l.map sE.pv)]=U (res (Ic l).1 (Ic l).2):=by
 have hm:=ax;simp only[oZ,A2,aJ,By,ab,te];unfold Ic;by_cases kh:l.length>64
 .rw[BY ah,BY kh];rfl
 .rw[IT ah,IT kh,<-dr];refine aC (λk=>(l.map sE.pv,(l.length:Int),(k:Int),seen PV.str ((l.map sE.id).take k),())) l.length _ (λk hk rec=>?_) (λrec=>?_) ?_ rfl
  .have h1:(k:Int)<(l.length:Int):=aa
   have hid:=AD l[k].id (hl.2 _ (alx hk)).id;have qX:=hZ wa l[k].id ((l.map sE.id).take k);have nh:=fT wa l[k].id ((l.map sE.id).take k);simp only[uJ,tb,h1,By,af,AT,ta hk,IN,ab,art,af3,af4,bU,asInt,asBool,hid,qX,nh,aek,ag (aa:k<9223372036854775807),my sE.id l k hk];unfold acs;rw[ta hk];simp only;cases dq l[k].id with
   |false=>rfl
   |true=>
    by_cases bt:l[k].id∈(l.map sE.id).take k
    .simp only[bt,By,aq3,AI,ax7,OF];rfl
    .simp only[bt,By,aq3,AI,ax7,OF];by_cases hgt:l[k].Ge>l[k].Gf
     .simp only[hgt,ayk,aBq,By];cases dv l[k].Ge<;>cases dv l[k].Gf<;>rfl
     .simp only[hgt,ayf,ayT,OF];cases dv l[k].Ge<;>cases dv l[k].Gf<;>rfl
  .simp only[uJ,tb,awV,OF];rfl
  .have:=aP;omega
def agy(l:List sE)(hl:l.length<=maxLen)(i:Nat)(hi:i<l.length)(iO:List PV×Int×Unit->Option PV):cD.run (uM iO) (l.map sE.pv,(i:Int),0,())=if l[i].id∈(l.map sE.id).take i then U (res i 6)else if(!dv l[i].Ge|| !dv l[i].Gf||decide (l[i].Ge>l[i].Gf))=Y then U (res i 11)else iO (l.map sE.pv,C .i64 ((i:Int)+1),()):=by
 have hm:=ax;refine(dG (λk=>(l.map sE.pv,(i:Int),(k:Int),())) i (λk=>O ((l.map sE.id)[k]?=U l[i].id)) (no:=U (res i 6)) (fin:=if(!dv l[i].Ge|| !dv l[i].Gf||decide (l[i].Ge>l[i].Gf))=Y then U (res i 11)else iO (l.map sE.pv,C .i64 ((i:Int)+1),())) (λk hk rec=>?_) (λrec=>?_) ?_ rfl).trans ?_
 .have h1:(k:Int)<(i:Int):=aa
  have mq:k<l.length:=aa
  simp only[uM,tb,h1,By,af,AT,ta mq,ta hi,IN,ab,art,bU,ag (aa:k<9223372036854775807),bW,tc];rfl
 .simp only[uM,tb,awV,OF,af,AT,ta hi,IN,ab,af3,af4,asInt,asBool,By,ZQ,aG];rfl
 .have:=aP;omega
 .rw[jR _ _ ah];simp_all
def amx(l:List sE)(hl:l.length<=maxLen/\∀y∈l,y.Ok):wL [.rs 10 (l.map sE.pv)]=U (res (Ic l).1 (Ic l).2):=by
 have hm:=ax;simp only[wL,HF,aJ,By,ab,te];unfold Ic;by_cases kh:l.length>64
 .rw[BY ah,BY kh];rfl
 .rw[IT ah,IT kh,<-dr];refine aC (λk=>(l.map sE.pv,(k:Int),())) l.length _ (λk hk rec=>?_) (λrec=>?_) ?_ rfl
  .have h1:(k:Int)<(l.length:Int):=aa
   have hid:=ZO l[k].id (hl.2 _ (alx hk)).id;have nJ:=agy l hl.1 k hk rec;simp only[Bq,tb,te,h1,By,af,AT,ta hk,IN,ab,art,bU,asBool,hid,nJ,ag (aa:k<9223372036854775807)];unfold acs;rw[ta hk];simp only;generalize (!dv l[k].Ge|| !dv l[k].Gf||decide (l[k].Ge>l[k].Gf))=c;cases dq l[k].id with
   |false=>rfl
   |true=>
    by_cases bt:l[k].id∈(l.map sE.id).take k
    .simp only[bt,By,aq3,AI,ax7,OF];rfl
    .simp only[bt,By,aq3,AI,ax7,OF];cases c<;>rfl
  .simp only[Bq,tb,te,awV,OF];rfl
  .have:=aP;omega
def ml(x:xW):Int×Int:=(x.Dd,x.day)
def acu(l:List xW)(n:Int)(k:Nat):Int:=match l[k]? with
 |none=>0
 |some x=>if(O (x.Dd<0)||decide (x.Dd>=n))=Y then 9 else if dv x.day=J then 11 else if ml x∈(l.map ml).take k then 6 else 0
def Ie(l:List xW)(n:Int):Int×Int:=if l.length>256 then(0,5)else cg (acu l n) l.length
def Nt(x:Int×Int):PV:=.agg [.int .i64 x.1,.int .i64 x.2]
def ZR(a b:Int×Int):cz (Nt a).cells (Nt b).cells=O (a=b):=by obtain⟨a1,a2⟩:=a;obtain⟨b1,b2⟩:=b;rw[ayo];simp[Nt,PV.cells,cz,peq]
def ajz(x:xW):cell x.pv 0=.int .i64 x.Dd:=rfl
def ajA(x:xW):cell x.pv 1=.int .i64 x.day:=rfl
def aki(l:List xW)(n:Int)(hl:l.length<=maxLen/\∀y∈l,y.Ok):fk [.rs 3 (l.map xW.pv),.int .i64 n]=U (res (Ie l n).1 (Ie l n).2):=by
 have hm:=ax;simp only[fk,kq,aJ,asInt,By,ab,te];unfold Ie;by_cases kh:l.length>256
 .rw[BY ah,BY kh];rfl
 .rw[IT ah,IT kh,<-dr];refine aC (λk=>(n,l.map xW.pv,(l.length:Int),(k:Int),seen Nt ((l.map ml).take k),())) l.length _ (λk hk rec=>?_) (λrec=>?_) ?_ rfl
  .have h1:(k:Int)<(l.length:Int):=aa
   have qX:eu (.agg [.int .i64 l[k].Dd,.int .i64 l[k].day]) (.bool Y) (seen Nt ((l.map ml).take k))=_:=hZ ZR (ml l[k]) ((l.map ml).take k);have nh:eY (.agg [.int .i64 l[k].Dd,.int .i64 l[k].day]) (.bool J) (seen Nt ((l.map ml).take k))=_:=fT ZR (ml l[k]) ((l.map ml).take k);simp only[iy,tb,h1,By,af,AT,ta hk,IN,ab,ajz,ajA,asInt,asBool,qX,nh,aek,aG,ag (aa:k<9223372036854775807),my ml l k hk];unfold acu;rw[ta hk];simp only;generalize (O (l[k].Dd<0)||decide (l[k].Dd>=n))=c;by_cases bt:ml l[k]∈(l.map ml).take k
   .simp only[bt,By];cases c<;>cases dv l[k].day<;>rfl
   .simp only[bt,OF];cases c<;>cases dv l[k].day<;>rfl
  .simp only[iy,tb,awV,OF];rfl
  .have:=aP;omega
def agz(l:List xW)(n:Int)(hl:l.length<=maxLen)(i:Nat)(hi:i<l.length)(yH:List PV×Int×Int×Unit->Option PV):cD.run (gn yH) (l.map xW.pv,n,(i:Int),0,())=if ml l[i]∈(l.map ml).take i then U (res i 6)else yH (l.map xW.pv,n,C .i64 ((i:Int)+1),()):=by
 have hm:=ax;refine(dG (λk=>(l.map xW.pv,n,(i:Int),(k:Int),())) i (λk=>O ((l.map ml)[k]?=U (ml l[i]))) (no:=U (res i 6)) (fin:=yH (l.map xW.pv,n,C .i64 ((i:Int)+1),())) (λk hk rec=>?_) (λrec=>?_) ?_ rfl).trans ?_
 .have h1:(k:Int)<(i:Int):=aa
  have mq:k<l.length:=aa
  simp only[gn,tb,h1,By,af,AT,ta mq,ta hi,IN,ab,ajz,ajA,asInt,ag (aa:k<9223372036854775807),bW,bh,tc,ml,aq4,T1];rfl
 .simp[gn,tb,awV,OF]
 .have:=aP;omega
 .rw[jR _ _ ah];simp_all
def amy(l:List xW)(n:Int)(hl:l.length<=maxLen/\∀y∈l,y.Ok):gP [.rs 3 (l.map xW.pv),.int .i64 n]=U (res (Ie l n).1 (Ie l n).2):=by
 have hm:=ax;simp only[gP,mV,aJ,asInt,By,ab,te];unfold Ie;by_cases kh:l.length>256
 .rw[BY ah,BY kh];rfl
 .rw[IT ah,IT kh,<-dr];refine aC (λk=>(l.map xW.pv,n,(k:Int),())) l.length _ (λk hk rec=>?_) (λrec=>?_) ?_ rfl
  .have h1:(k:Int)<(l.length:Int):=aa
   have nJ:=agz l n hl.1 k hk rec;simp only[kv,tb,te,h1,By,af,AT,ta hk,IN,ab,ajz,ajA,asInt,asBool,nJ,ZQ,aG,ag (aa:k<9223372036854775807)];unfold acu;rw[ta hk];simp only;generalize (O (l[k].Dd<0)||decide (l[k].Dd>=n))=c;by_cases bt:ml l[k]∈(l.map ml).take k
   .simp only[bt,By];cases c<;>cases dv l[k].day<;>rfl
   .simp only[bt,OF];cases c<;>cases dv l[k].day<;>rfl
  .simp only[kv,tb,te,awV,OF];rfl
  .have:=aP;omega
def acv(l:List ar)(stops:Int)(hl:l.length<=maxLen):wN [.rs 5 (l.map ar.pv),.int .i64 stops]=U (.int .i64 (bP l stops 0 172800).2):=by
 have hm:=ax;simp only[wN,HH,aJ,asInt,By,ab,te,aG];unfold bP;split
 .rfl
 .rw[<-Q6];refine aC (λk=>(l.map ar.pv,stops,(k:Int),())) l.length _ (λk hk rec=>?_) (λrec=>?_) ?_ rfl
  .have h1:(k:Int)<(l.length:Int):=aa
   simp only[Bs,tb,te,h1,By,af,AT,ta hk,IN,ab,nY,ni,jm,asInt,aG,ag (aa:k<9223372036854775807)];unfold ng lN;rw[ta hk];simp only;cases k with
   |zero=>
    have h0:O (((0:Nat):Int)>0)=false:=bm
    simp only[h0,cond_false,ab,aG,ayT,gB];generalize (O (l[0].stop<0)||decide (l[0].stop>=stops))=A;generalize (O (l[0].arr<0)||decide (l[0].arr>l[0].dep)||decide (l[0].dep>172800))=B;cases A<;>cases B<;>rfl
   |succ j=>
    have h0:O (((j+1:Nat):Int)>0)=true:=ae
    have hj:j<l.length:=aa
    have hc:O (l[j+1].stop=l[j].stop)=O (l[j].stop=l[j+1].stop):=ao
    simp only[h0,cond_true,ab,sl j aa,af,AT,ta hj,IN,nY,jm,asInt,By,gB,bW,aG,hc];generalize (O (l[j+1].stop<0)||decide (l[j+1].stop>=stops))=A;generalize (O (l[j+1].arr<0)||decide (l[j+1].arr>l[j+1].dep)||decide (l[j+1].dep>172800))=B;generalize O (l[j].stop=l[j+1].stop)=C10;generalize O (l[j+1].arr<l[j].dep)=D;cases A<;>cases B<;>cases C10<;>cases D<;>rfl
  .simp[Bs,tb,te,awV,OF]
  .have:=aP;omega
def vf(x:bC):cell x.pv 0=.str x.id:=rfl
def xw(x:bC):cell x.pv 1=.int .i64 x.bn:=rfl
def vg(x:bC):cell x.pv 2=.int .i64 x.Dd:=rfl
def qf(x:bC):cell x.pv 4=.rs 5 (x.calls.map ar.pv):=rfl
def E5(l:List bC)(stops ak eN:Int)(k:Nat):Int:=match l[k]? with
 |none=>0
 |some x=>if dq x.id=J then 12 else if x.id∈(l.map bC.id).take k then 6 else if(O (x.bn<0)||decide (x.bn>=ak)||decide (x.Dd<0)||decide (x.Dd>=eN))=Y then 9 else(bP x.calls stops 0 172800).2
def qC(l:List bC)(stops ak eN:Int):Int×Int:=if l.length>256 then(0,5)else cg (E5 l stops ak eN) l.length
def agA(l:List bC)(stops ak eN:Int)(hl:l.length<=maxLen/\∀y∈l,y.Ok):zA [.rs 5 (l.map bC.pv),.int .i64 stops,.int .i64 ak,.int .i64 eN]=U (res (qC l stops ak eN).1 (qC l stops ak eN).2):=by
 have hm:=ax;simp only[zA,Kc,aJ,asInt,By,ab,te];unfold qC;by_cases kh:l.length>256
 .rw[BY ah,BY kh];rfl
 .rw[IT ah,IT kh,<-dr];refine aC (λk=>(stops,ak,eN,l.map bC.pv,(l.length:Int),(k:Int),seen PV.str ((l.map bC.id).take k),())) l.length _ (λk hk rec=>?_) (λrec=>?_) ?_ rfl
  .have h1:(k:Int)<(l.length:Int):=aa
   have hid:=AD l[k].id (hl.2 _ (alx hk)).id;have qX:=hZ wa l[k].id ((l.map bC.id).take k);have nh:=fT wa l[k].id ((l.map bC.id).take k);have fO:=D4 l[k].calls stops 0 172800 (hl.2 _ (alx hk)).calls.1;simp only[res]at fO;simp only[Dl,tb,h1,By,af,AT,ta hk,IN,ab,vf,xw,vg,qf,bU,asInt,asBool,aJ,hid,qX,nh,fO,bY,al6,are,Nat.reduceAdd,Uz,WK,aG,ag (aa:k<9223372036854775807),my bC.id l k hk,dQ];unfold E5;rw[ta hk];simp only;generalize (bP l[k].calls stops 0 172800).2=e;cases dq l[k].id with
   |false=>rfl
   |true=>
    by_cases bt:l[k].id∈(l.map bC.id).take k
    .simp only[bt,By,aq3,AI,ax7,OF];rfl
    .simp only[bt,By,aq3,AI,ax7,OF];cases O (l[k].bn<0)<;>cases O (l[k].bn>=ak)<;>cases O (l[k].Dd<0)<;>cases O (l[k].Dd>=eN)<;>(try rfl);grind [Hc,bN,res]
  .simp only[Dl,tb,awV,OF];rfl
  .have:=aP;omega
def agB(l:List bC)(hl:l.length<=maxLen)(s:Bytes):zC [.rs 5 (l.map bC.pv),.str s]=U (.int .i64 (LX (l.map bC.id) s)):=by
 have hm:=ax;simp only[zC,Kh,aJ,bU,By,ab];refine(aC (λk=>(l.map bC.pv,s,(k:Int),())) l.length (λk=>if O ((l.map bC.id)[k]?=U s)=Y then U (U (.int .i64 k))else Z) (fin:=U (.int .i64 (-1))) (λk hk rec=>?_) (λrec=>?_) ?_ rfl).trans ?_
 .have h1:(k:Int)<(l.length:Int):=aa
  simp only[Dn,tb,te,h1,By,af,AT,ta hk,IN,ab,vf,bU,ag (aa:k<9223372036854775807),bW,tc];grind [bN]
 .simp[Dn,tb,te,awV,OF]
 .have:=aP;omega
 .rw[fD];unfold LX;simp only[te];cases(I l.length).find? λk=>O ((l.map bC.id)[k]?=U s)<;>rfl
def akj(l:List bC)(stops ak eN:Int)(hl:l.length<=maxLen/\∀y∈l,y.Ok)(k:Nat)(hk:k<l.length):Cm [.rs 5 (l.map bC.pv),.int .i64 k,.int .i64 stops,.int .i64 ak,.int .i64 eN]=U (.int .i64 (E5 l stops ak eN k)):=by
 have hm:=ax;have hid:=ZO l[k].id (hl.2 _ (alx hk)).id;have fO:=acv l[k].calls stops (hl.2 _ (alx hk)).calls.1;have R0:=agB (l.take k) ah l[k].id;have L4:=amw ((l.take k).map bC.id) l[k].id;have htk:(l.take k).map bC.id=(l.map bC.id).take k:=ae
 have htp:(l.take k).map bC.pv=(l.map bC.pv).take k:=ae
 rw[htk]at L4 R0;rw[htp]at R0;have hc:(0:Int)<=0/\(0:Int)<=(k:Int)/\(k:Int)<=((l.map bC.pv).length:Int)/\True/\5≠0:=⟨aa,aa,ah,trivial,aa⟩;simp only[Cm,M5,aJ,asInt,By,ab,af,AT,ta hk,IN,vf,xw,vg,qf,bU,asBool,hid,fO,anj,aAM,aAn,R0,aG,tb];unfold E5;grind
def akk(l:List bC)(stops ak eN:Int)(hl:l.length<=maxLen/\∀y∈l,y.Ok):wO [.rs 5 (l.map bC.pv),.int .i64 stops,.int .i64 ak,.int .i64 eN]=U (res (qC l stops ak eN).1 (qC l stops ak eN).2):=by
 have hm:=ax;simp only[wO,HI,aJ,asInt,By,ab,te];unfold qC;by_cases kh:l.length>256
 .rw[BY ah,BY kh];rfl
 .rw[IT ah,IT kh,<-dr];refine aC (λk=>(l.map bC.pv,stops,ak,eN,(k:Int),())) l.length _ (λk hk rec=>?_) (λrec=>?_) ?_ rfl
  .have h1:(k:Int)<(l.length:Int):=aa
   simp only[Bt,tb,te,h1,By,akj l stops ak eN hl k hk,ab,asInt,ag (aa:k<9223372036854775807),dQ];grind [E5,Hc,bN,res]
  .simp only[Bt,tb,te,awV,OF];rfl
  .have:=aP;omega
def R1(n a b:Int):dU [.int .i64 n,.int .i64 a,.int .i64 b]=U (.bool (wi n a b)):=by simp only[dU,Fl,asInt,By,ab,bh];rfl
def akl(x:bd):wU [.agg [cell x.pv 0,cell x.pv 1,cell x.pv 2,cell x.pv 3,cell x.pv 4,cell x.pv 5]]=U (.bool (!tJ x)):=by simp only[aft,aor,aos,aot,aou,aov];simp only[wU,HP,asAgg,cell,PV.cells,Uz,WK,al6,are,Nat.reduceAdd,bU,asInt,asBool,By,ab,R1,bh];unfold tJ;simp
def acw(l:List bd)(hl:l.length<=maxLen)(i:Nat)(hi:i<l.length)(iO:List PV×Int×Unit->Option PV):cD.run (uU iO) (l.map bd.pv,(i:Int),0,())=if l[i].id∈(l.map bd.id).take i then U (res i 6)else if tJ l[i]=Y then U (res i 2)else iO (l.map bd.pv,C .i64 ((i:Int)+1),()):=by
 have hm:=ax;refine(dG (λk=>(l.map bd.pv,(i:Int),(k:Int),())) i (λk=>O ((l.map bd.id)[k]?=U l[i].id)) (no:=U (res i 6)) (fin:=if tJ l[i]=Y then U (res i 2)else iO (l.map bd.pv,C .i64 ((i:Int)+1),())) (λk hk rec=>?_) (λrec=>?_) ?_ rfl).trans ?_
 .have h1:(k:Int)<(i:Int):=aa
  have mq:k<l.length:=aa
  simp only[uU,tb,h1,By,af,AT,ta mq,ta hi,IN,ab,aft,bU,ag (aa:k<9223372036854775807),bW,tc];rfl
 .simp only[uU,tb,awV,OF,af,AT,ta hi,IN,ab,akl,asBool,aAF];rfl
 .have:=aP;omega
 .rw[jR _ _ ah];simp_all
def acx(l:List bd)(aZ within cap:Int)(hl:l.length<=maxLen/\∀y∈l,y.Ok):wV [zi l aZ within cap]=U (res (du l aZ within cap).1 (du l aZ within cap).2):=by
 have hm:=ax;simp only[wV,HQ,zi,asAgg,cell,PV.cells,Uz,WK,al6,are,Nat.reduceAdd,aJ,asInt,asBool,By,ab,te,R1,aG];unfold du;generalize (!wi aZ 0 1000000|| !wi within 0 86400|| !wi cap 0 1000000)=c;cases c with
 |true=>rfl
 |false=>
  simp only[AI,OF];by_cases kh:l.length>16
  .rw[BY ah,BY kh];rfl
  .rw[IT ah,IT kh,<-dr];refine aC (λk=>(l.map bd.pv,(k:Int),())) l.length _ (λk hk rec=>?_) (λrec=>?_) ?_ rfl
   .have h1:(k:Int)<(l.length:Int):=aa
    have hid:=LY l[k].id (hl.2 _ (alx hk)).id;have nJ:=acw l hl.1 k hk rec;simp only[Bz,tb,te,h1,By,af,AT,ta hk,IN,ab,aft,bU,asBool,hid,nJ,ag (aa:k<9223372036854775807)];unfold O7;rw[ta hk];simp only;generalize tJ l[k]=c;cases dq l[k].id with
    |false=>rfl
    |true=>
     by_cases bt:l[k].id∈(l.map bd.id).take k
     .simp only[bt,By,aq3,AI,ax7,OF];rfl
     .simp only[bt,By,aq3,AI,ax7,OF];cases c<;>rfl
   .simp only[Bz,tb,te,awV,OF];rfl
   .have:=aP;omega
def oI(l:List Path)(n:Int):Int×Int:=if l.length>512 then(0,5)else cg (dw l n) l.length
def T2(l:List Path)(n:Int)(hl:l.length<=maxLen):lG [.rs 4 (l.map Path.pv),.int .i64 n]=U (res (oI l n).1 (oI l n).2):=by
 have h:=Rb l n hl;simp only[res]at h;simp only[lG,A0,aJ,asInt,By,ab,te,h,bY,al6,are,Nat.reduceAdd,Uz,WK,tb];unfold oI;by_cases kh:l.length>512
 .rw[BY aa,BY kh];rfl
 .rw[IT aa,IT kh];rfl
def acy(l:List Path)(n:Int)(hl:l.length<=maxLen)(i:Nat)(hi:i<l.length)(yH:List PV×Int×Int×Unit->Option PV):cD.run (uK yH) (l.map Path.pv,n,(i:Int),0,.int .i64 l[i].a,.int .i64 l[i].b,.int .i64 l[i].ck,.bool l[i].free,())=if bH l[i]∈(l.map bH).take i then U (res i 6)else yH (l.map Path.pv,n,C .i64 ((i:Int)+1),()):=by
 have hm:=ax;refine(dG (λk=>(l.map Path.pv,n,(i:Int),(k:Int),PV.int .i64 l[i].a,PV.int .i64 l[i].b,PV.int .i64 l[i].ck,PV.bool l[i].free,())) i (λk=>O ((l.map bH)[k]?=U (bH l[i]))) (no:=U (res i 6)) (fin:=yH (l.map Path.pv,n,C .i64 ((i:Int)+1),())) (λk hk rec=>?_) (λrec=>?_) ?_ rfl).trans ?_
 .have h1:(k:Int)<(i:Int):=aa
  have mq:k<l.length:=aa
  have hd:O ((l.map bH)[k]?=U (bH l[i]))=(O (l[k].a=l[i].a)&&O (l[k].b=l[i].b)&&O (l[k].free=l[i].free)):=by rw[ayo];simp[ta mq,bH,aAr]
  simp only[uK,tb,h1,By,af,AT,ta mq,IN,ab,Q8,Q9,Ra,asInt,asBool,ag (aa:k<9223372036854775807),bW,bh];grind [bH,res]
 .simp[uK,tb,awV,OF]
 .have:=aP;omega
 .rw[jR _ _ ah];simp_all
def agC(l:List Path)(n:Int)(hl:l.length<=maxLen):wJ [.rs 4 (l.map Path.pv),.int .i64 n]=U (res (cg (dw l n) l.length).1 (cg (dw l n) l.length).2):=by
 have hm:=ax;simp only[wJ,HB,aJ,asInt,By,ab];rw[<-dr];refine aC (λk=>(l.map Path.pv,n,(k:Int),())) l.length _ (λk hk rec=>?_) (λrec=>?_) ?_ rfl
 .have h1:(k:Int)<(l.length:Int):=aa
  have nJ:=acy l n hl k hk rec;simp only[Bn,tb,te,h1,By,af,AT,ta hk,IN,ab,Q8,Q9,YB,Ra,asInt,nJ,bW,aG,ag (aa:k<9223372036854775807)];unfold dw;rw[ta hk];simp only;generalize (O (l[k].a<0)||decide (l[k].a>=n)||decide (l[k].b<0)||decide (l[k].b>=n)||decide (l[k].a=l[k].b))=A;generalize (O (l[k].ck<1)||decide (l[k].ck>14400))=B;by_cases bt:bH l[k]∈(l.map bH).take k
  .simp only[bt,By];cases A<;>cases B<;>rfl
  .simp only[bt,OF];cases A<;>cases B<;>rfl
 .simp only[Bn,tb,te,awV,OF];rfl
 .have:=aP;omega
def Ym(l:List Path)(n:Int)(hl:l.length<=maxLen):qj [.rs 4 (l.map Path.pv),.int .i64 n]=U (res (oI l n).1 (oI l n).2):=by
 have h:=agC l n hl;simp only[res]at h;simp only[qj,HC,aJ,asInt,By,ab,te,h,bY,al6,are,Nat.reduceAdd,Uz,WK,tb];unfold oI;by_cases kh:l.length>512
 .rw[BY aa,BY kh];rfl
 .rw[IT aa,IT kh];rfl
def xx(t first start:Int):Bool:=O (0<=t-first+start)&&O (t-first+start<=172800)
def acz(n:Int):((BitVec.ofInt 64 n&&&BitVec.ofInt 64 4294967295).toNat:Int)=n%4294967296:=by
 have h:(BitVec.ofInt 64 4294967295).toNat=2^32-1:=bm
 rw[BitVec.toNat_and,h,Nat.and_two_pow_sub_one_eq_mod,BitVec.toNat_ofInt];omega
def akm(n:Int):((BitVec.ofInt IntKind.i64.bits n&&&BitVec.ofInt IntKind.i64.bits 4294967295).toNat:Int)=n%4294967296:=acz n
def agD(n:Int):fB [.int .i64 n]=U (.bool (O (n< -2305843009213693952)||decide (n>2305843009213693952))):=by simp[fB,uc,asInt,By,ab,aG]
def fe(a:Int):po a↔-9223372036854775808<=a/\a<=9223372036854775807:=by
 have h1:IntKind.i64.min= -9223372036854775808:=bm
 have h2:IntKind.i64.max=9223372036854775807:=bm
 unfold po Lit.wf;simp[h1,h2]
def two32:((2:Int)^min (Int.toNat 32) IntKind.i64.bits)=4294967296:=bm
def axq(a:Int):a.fdiv 4294967296=a/4294967296:=aAE _ aa
def amz(a b c:Int)(ha:po a)(hb:po b)(hc:po c):∃n,oY [.int .i64 a,.int .i64 b,.int .i64 c]=U (.b8 [.int .i64 n,.bool (xx a b c)])/\(xx a b c=Y->n=a-b+c):=by
 obtain⟨Z7,ha2⟩:=(fe _).1 ha;obtain⟨WZ,yO⟩:=(fe _).1 hb;obtain⟨hc1,Tc⟩:=(fe _).1 hc;simp only[oY,A1,asInt,By,ab,two32,axq,akm];have w0:∀x:Int,C .i64 (x%4294967296)=x%4294967296:=λx=>bJ aa aa;have w1:C .i64 (a/4294967296-b/4294967296)=a/4294967296-b/4294967296:=bJ aa aa;have w2:C .i64 (a/4294967296-b/4294967296+c/4294967296)=a/4294967296-b/4294967296+c/4294967296:=bJ aa aa;have w3:C .i64 (a%4294967296-b%4294967296)=a%4294967296-b%4294967296:=bJ aa aa;have w4:C .i64 (a%4294967296-b%4294967296+c%4294967296)=a%4294967296-b%4294967296+c%4294967296:=bJ aa aa;have w5:C .i64 (a/4294967296-b/4294967296+c/4294967296+(a%4294967296-b%4294967296+c%4294967296)/4294967296)=a/4294967296-b/4294967296+c/4294967296+(a%4294967296-b%4294967296+c%4294967296)/4294967296:=bJ aa aa;simp only[w0,w1,w2,w3,w4,w5];generalize hH:a/4294967296-b/4294967296+c/4294967296+(a%4294967296-b%4294967296+c%4294967296)/4294967296=H;generalize hL:(a%4294967296-b%4294967296+c%4294967296)%4294967296=Lo;have hs:a-b+c=H*4294967296+Lo:=aa
 have hLo:0<=Lo/\Lo<4294967296:=aa
 unfold xx;by_cases h0:H=0
 .have e0:(BitVec.ofInt 64 (C .i64 (H*4294967296))|||BitVec.ofInt 64 Lo).toNat=Lo.toNat:=ao
  have e1:C .i64 ((BitVec.ofInt IntKind.i64.bits (C .i64 (H*4294967296))|||BitVec.ofInt IntKind.i64.bits Lo).toNat:Int)=Lo:=by have e2:(BitVec.ofInt IntKind.i64.bits (C .i64 (H*4294967296))|||BitVec.ofInt IntKind.i64.bits Lo).toNat=Lo.toNat:=e0;rw[e2];rw[bJ aa aa];omega
  simp_all
 .have hb:(H==0)=false:=by simp[h0]
  simp only[hb,cond_false,ab];have h1:(O (0<=a-b+c)&&O (a-b+c<=172800))=false:=ao
  rw[h1];simp
def LH(a b c:Int)(ha:po a)(hb:po b)(hc:po c):∃n,j7 [.int .i64 a,.int .i64 b,.int .i64 c]=U (.b8 [.int .i64 n,.bool (xx a b c)])/\(xx a b c=Y->n=a-b+c):=by
 have⟨n,hn,hnn⟩:=amz a b c ha hb hc;simp only[j7,yu,asInt,By,ab,agD,asBool,aG,hn,bY,al6,are,Nat.reduceAdd,Uz,WK,bh];split
 .exact⟨n,rfl,hnn⟩
 next h=>simp only[ayj,tb,aAI]at h;have w1:C .i64 (a-b)=a-b:=bJ aa aa;have w2:C .i64 (a-b+c)=a-b+c:=bJ aa aa;simp only[w1,w2];exact⟨_,rfl,λ_=>rfl⟩
def LI(a b c:Int)(ha:po a)(hb:po b)(hc:0<=c/\c<=172800):∃n,qm [.int .i64 a,.int .i64 c,.int .i64 b]=U (.b8 [.int .i64 n,.bool (xx a b c)])/\(xx a b c=Y->n=a-b+c):=by
 obtain⟨Z7,ha2⟩:=(fe _).1 ha;obtain⟨WZ,yO⟩:=(fe _).1 hb;have u:∀x y:Int,x>=y→-9223372036854775808<=y->x<=9223372036854775807->IntKind.u64.wrap (IntKind.u64.wrap x-IntKind.u64.wrap y)=x-y:=by intro x y h1 h2 h3;simp only[IntKind.wrap,IntKind.signed,IntKind.bits,azL,OF,AI];omega
 simp only[qm,HK,asInt,By,ab,aG,bh];have h0:(O (c<0)||decide (c>172800))=false:=av
 simp only[h0,AI,OF,tb];unfold xx;have JN:∀d:Int,(d=a-b\/d=b-a)->d>172800->(O (0<=a-b+c)&&O (a-b+c<=172800))=false:=ao
 have avx:a-b<=172800->b-a<=172800->C .i64 (c+C .i64 (a-b))=a-b+c:=sH
 by_cases xH:a>=b
 .rw[BY xH,u a b xH WZ ha2];split
  next h=>rw[JN _ (.inl rfl) h];simp
  next h=>rw[avx aa aa];simp
 .rw[IT xH,u b a aa Z7 yO];split
  next h=>rw[JN _ (.inr rfl) h];simp
  next h=>rw[avx aa aa];simp
def mL{S R:Type}{body:S->(S->Option R)->Option R}(st:Nat->S)(n:Nat)(bad:Nat->Option (Option R)){fin:Option R}(h:∀k,k<n->(∀j,j<k->bad j=Z)->∀rec,body (st k) rec=bN (bad k) (rec (st (k+1))))(sx:(∀j,j<n->bad j=Z)->∀rec,body (st n) rec=fin)(hn:n<rounds){s0:S}(h0:st 0=s0):cD.run body s0=bN ((I n).findSome? bad) fin:=by
 have key:∀(m j N:Nat),j+m=n->m<N->(∀i,i<j->bad i=Z)->bT body N (st j)=bN ((List.range' j m).findSome? bad) fin:=by
  intro m;induction m with
  |zero=>
   intro j N hj hN hq;cases N with
   |zero=>omega
   |succ N=>
    have:j=n:=aa
    subst this;simp only[bT,List.range'_zero,aAK];exact sx hq _
  |succ m ih=>
   intro j N hj hN hq;cases N with
   |zero=>omega
   |succ N=>
    simp only[bT,aAc,ay5];rw[h j aa hq];cases hb:bad j with
    |some r=>rfl
    |none=>refine ih (j+1) N aa aa λi hi=>?_;grind
 grind [kC,rounds,List.range_eq_range']
def Ov(x:ar):cell x.pv 3=.bool x.D9:=rfl
def Ow(x:ar):cell x.pv 4=.bool x.vI:=rfl
def Bd(x:bC):cell x.pv 3=.bool x.free:=rfl
def RD(x:bC):asAgg 5 x.pv=U ():=rfl
def Zk(cs:List PV)(k:Nat):cell (.agg cs) k=cs.getD k .bad:=rfl
def ML(x:ar)(first start:Int):ar:={x with arr:=x.arr-first+start,dep:=x.dep-first+start}
def kOk(x:ar)(first start:Int):Bool:=xx x.arr first start&&xx x.dep first start
def jo(l:List ar)(first start:Int)(k:Nat):Bool:=match l[k]? with|some x=>kOk x first start|none=>Y
def pI(l:List ar)(start:Int):Int:=match l with
 |[]=>16
 |c::_=>if(I l.length).all (jo l c.dep start)=Y then 0 else 10
def ux{B:Type}(p:Nat->Bool)(r:B):∀l:List Nat,l.findSome? (λk=>if p k=Y then Z else U r)=if l.all p=Y then Z else U r:=by
 intro l;induction l with
 |nil=>rfl
 |cons a l ih=>grind
def Kt(l:List ar)(f:ar->ar)(k:Nat):List PV:=((l.take k).map λx=>(f x).pv)++(l.drop k).map ar.pv
def Zh(l:List ar)(f:ar->ar)(k:Nat)(h:k<=l.length):(Kt l f k).length=l.length:=by simp[Kt];omega
def Zi(l:List ar)(f:ar->ar)(k:Nat)(h:k<l.length):(Kt l f k)[k]?=U l[k].pv:=by grind [Kt,List.getElem?_append_right,Nat.min_eq_left,Nat.le_of_lt]
def Zj(l:List ar)(f:ar->ar)(k:Nat)(h:k<l.length):(Kt l f k).set k (f l[k]).pv=Kt l f (k+1):=by unfold Kt;rw[aA8 _ _ ah];have h1:l.drop k=l[k]::l.drop (k+1):=(ayA h);have h2:l.take (k+1)=l.take k++[l[k]]:=(azc h).symm;rw[h1,h2];simp only[te,ayz,ay2 (aAq h),Nat.sub_self,ayb,List.set_cons_zero,aya,ay6,ayt,List.singleton_append]
def gF(k n:Nat)(h:k<n):aU (k:Int) n:=by unfold aU;omega
def UG(x:bC)(hx:x.Ok)(start:Int)(hs:po start)(F1:x.calls.length<=40):∃es,cZ [x.pv,.int .i64 start]=U (.b8 [.rs 5 es,.int .i64 (pI x.calls start)]):=by
 have hm:=ax;have uw:∀y∈x.calls,y.Ok:=hx.calls.2;simp only[cZ,qJ,RD,vf,xw,vg,Bd,qf,bU,aJ,asInt,asBool,By,ab,te];generalize x.calls=l at F1 uw⊢;cases l with
 |nil=>exact⟨[],rfl⟩
 |cons c l=>
  generalize hl:c::l=cs at F1 uw⊢;have hc0:cs[0]?=U c:=by rw[<-hl];rfl
  have fa:0<cs.length:=by rw[<-hl];simp
  have hcE:pI cs start=if(I cs.length).all (jo cs c.dep start)=Y then 0 else 10:=by rw[<-hl];rfl
  have RE:c.Ok:=uw c (by rw[<-hl];simp);have cO:((cs.length:Int)==0)=false:=ao
  have hix:uW (cs.map ar.pv) 0=U c.pv:=by have:=af (cs.map ar.pv) 0;simp_all
  have bG:0<=(cs.length:Int)/\(cs.length:Int)<=(cs.length:Int)/\(cs.length:Int).toNat*32<=au/\0<32/\0<5:=by grind [decide,au]
  rw[cO,hix];simp only[AI,OF,ab,jm,asInt,By,BY bG,ayD,anj,ayu (aBs (te _)),te];rw[aA2 ae,ayF,te];have ab2:0<=(cs.length:Int)/\(cs.length:Int)<=(cs.length:Int)/\cs.length*32<=au/\0<32/\0<5:=bG;have RF:cD.run eK (start,c.dep,(cs.length:Int),0,cs.map ar.pv,())=bN ((I cs.length).findSome? λk=>if jo cs c.dep start k=Y then Z else U (U (.b8 [.rs 5 [],.int .i64 10]))) (U (.b8 [.rs 5 (Kt cs (λx=>ML x c.dep start) cs.length),.int .i64 0])):=by
   refine aC (λk=>(start,c.dep,(cs.length:Int),(k:Int),Kt cs (λx=>ML x c.dep start) k,())) cs.length _ (λk hk rec=>?_) (λrec=>?_) ?_ ?_
   .have h1:(k:Int)<(cs.length:Int):=aa
    have Aa:cs[k].Ok:=uw _ (alx hk);have⟨n1,e1,q1⟩:=LH cs[k].arr c.dep start Aa.arr RE.dep hs;have⟨n2,e2,q2⟩:=LH cs[k].dep c.dep start Aa.dep RE.dep hs;have hlen:=Zh cs (λx=>ML x c.dep start) k aa;have fG:=Zi cs (λx=>ML x c.dep start) k hk;have xP:=Zj cs (λx=>ML x c.dep start) k hk;have hr:aU (k:Int) cs.length:=gF k _ hk;have ajD:jo cs c.dep start k=(xx cs[k].arr c.dep start&&xx cs[k].dep c.dep start):=by unfold jo;rw[ta hk];rfl
    have U6:∀X,((Kt cs (λx=>ML x c.dep start) k).set k X)[k]?=U X:=λX=>av
    simp only[eK,tb,h1,By,hlen,BY hr,anj,fG,ab,nY,ni,jm,Ov,Ow,asInt,e1,e2,bY,asBool,al6,are,Nat.reduceAdd,Uz,WK,azm,U6,Zk,over,azl,ag (aa:k<9223372036854775807)];grind [xx,start,bN,ML,ar.pv]
   .simp[eK,tb,awV,OF]
   .grind [rounds,decide]
   rfl
  rw[BY ab2,RF,ux,hcE];by_cases uX:(I cs.length).all (jo cs c.dep start)=Y
  .rw[BY uX,BY uX];exact⟨_,rfl⟩
  .rw[IT uX,IT uX];exact⟨_,rfl⟩
def UH(x:bC)(hx:x.Ok)(start:Int)(hs:0<=start/\start<=172800)(F1:x.calls.length<=40):∃es,iE [x.pv,.int .i64 start]=U (.b8 [.rs 5 es,.int .i64 (pI x.calls start)]):=by
 have hm:=ax;have uw:∀y∈x.calls,y.Ok:=hx.calls.2;simp only[iE,B6,RD,vf,xw,vg,Bd,qf,bU,aJ,asInt,asBool,By,ab,te];generalize x.calls=l at F1 uw⊢;cases l with
 |nil=>exact⟨[],rfl⟩
 |cons c l=>
  generalize hl:c::l=cs at F1 uw⊢;have hc0:cs[0]?=U c:=by rw[<-hl];rfl
  have fa:0<cs.length:=by rw[<-hl];simp
  have hcE:pI cs start=if(I cs.length).all (jo cs c.dep start)=Y then 0 else 10:=by rw[<-hl];rfl
  have RE:c.Ok:=uw c (by rw[<-hl];simp);have cO:((cs.length:Int)==0)=false:=ao
  have hix:uW (cs.map ar.pv) 0=U c.pv:=by rw[show(0:Int)=((0:Nat):Int)from rfl,af,AT,hc0];rfl
  rw[cO,hix];simp only[AI,OF,ab,jm,asInt,By];have RF:cD.run (iT cD) (start,c.dep,0,x.id,x.bn,x.Dd,x.free,cs.map ar.pv,[],())=bN ((I cs.length).findSome? λk=>if jo cs c.dep start k=Y then Z else U (U (.b8 [.rs 5 [],.int .i64 10]))) (U (.b8 [.rs 5 (cs.map λx=>(ML x c.dep start).pv),.int .i64 0])):=by
   refine aC (λk=>(start,c.dep,(k:Int),x.id,x.bn,x.Dd,x.free,cs.map ar.pv,(cs.take k).map (λx=>(ML x c.dep start).pv),())) cs.length _ (λk hk rec=>?_) (λrec=>?_) ?_ rfl
   .have h1:(k:Int)<(cs.length:Int):=aa
    have Aa:cs[k].Ok:=uw _ (alx hk);have⟨n1,e1,q1⟩:=LI cs[k].arr c.dep start Aa.arr RE.dep hs;have⟨n2,e2,q2⟩:=LI cs[k].dep c.dep start Aa.dep RE.dep hs;have ajD:jo cs c.dep start k=(xx cs[k].arr c.dep start&&xx cs[k].dep c.dep start):=by unfold jo;rw[ta hk];rfl
    have bG:∀X:PV,(((cs.take k).map (λx=>(ML x c.dep start).pv))++[X]).length*32<=au/\0<32:=λX=>by refine⟨?_,aa⟩;grind [List.length_append,List.length_map,List.length_take,List.length_cons,List.length_nil,au]
    simp only[iT,tb,te,h1,By,af,AT,ta hk,IN,ab,nY,ni,jm,Ov,Ow,asInt,e1,e2,bY,asBool,al6,are,Nat.reduceAdd,Uz,WK,BY (bG _),ag (aa:k<9223372036854775807)];rw[ajD];cases hA:xx cs[k].arr c.dep start with
    |false=>rfl
    |true=>
     cases hB:xx cs[k].dep c.dep start with
     |false=>rfl
     |true=>have ht:cs.take (k+1)=cs.take k++[cs[k]]:=(azc hk).symm;rw[ht,q1 hA,q2 hB];simp only[aq3,cond_false,ab,AI,OF,azw,By,bN,aya,ayb,ay6,ML,ar.pv]
   .simp[iT,tb,te,awV,OF,ays]
   grind [rounds,decide]
  rw[RF,ux,hcE];by_cases uX:(I cs.length).all (jo cs c.dep start)=Y
  .rw[BY uX,BY uX];exact⟨_,rfl⟩
  .rw[IT uX,IT uX];exact⟨_,rfl⟩
def uv(x:bu):cell x.pv 0=.int .i64 x.bg:=rfl
def yR(x:bu):cell x.pv 1=.int .i64 x.t0:=rfl
def yS(x:bu):cell x.pv 2=.int .i64 x.t1:=rfl
def yT(x:bu):cell x.pv 3=.int .i64 x.every:=rfl
def LJ(x:bu):asAgg 4 x.pv=U ():=rfl
def F0(x:bu):PV.agg [.int .i64 x.bg,.int .i64 x.t0,.int .i64 x.t1,.int .i64 x.every]=x.pv:=rfl
def Uw(x:bC):PV.agg [.str x.id,.int .i64 x.bn,.int .i64 x.Dd,.bool x.free,.rs 5 (x.calls.map ar.pv)]=x.pv:=rfl
def eD(x:bu):Bool:=O (x.t0>=0)&&O (x.t0<x.t1)&&O (x.t1<=172800)&&O (x.every>=1)&&O (x.every<=86400)
theorem gM(x:bu):eD x=Y↔0<=x.t0/\x.t0<x.t1/\x.t1<=172800/\1<=x.every/\x.every<=86400:=by simp[eD,aAr]
def Ou(x:bu):j8 [x.pv]=U (.bool (eD x)):=by simp only[j8,yw,LJ,uv,yR,yS,yT,asInt,By,ab,bh];rfl
def Fy(x:bu):mP [x.pv]=U (.bool (eD x)):=by
 simp only[mP,Hz,LJ,uv,yR,yS,yT,asInt,By,ab,bh];have:∀a b:Bool,a=b->U (PV.bool a)=U (PV.bool b):=λa b h=>by rw[h]
 apply this;rw[ayo,gM];grind
def dV(x:bu):Int:=(x.t1-x.t0-1)/x.every+1
def uu(x:bu)(h:eD x=Y):1<=dV x/\dV x<=172800:=by have⟨h1,h2,h3,h4,h5⟩:=(gM x).1 h;unfold dV;have a:=aA6 (aa:0<=x.t1-x.t0-1) (aa:0<=x.every);have b:=Int.ediv_le_self (b:=x.every) (aa:0<=x.t1-x.t0-1);omega
def R2(x:bu)(h:eD x=Y):gO [x.pv]=U (.int .i64 (dV x)):=by
 have hc:=uu x h;have⟨h1,h2,h3,h4,h5⟩:=(gM x).1 h;have w1:C .i64 (x.t1-x.t0)=x.t1-x.t0:=bJ aa aa;have w2:C .i64 (x.t1-x.t0+x.every)=x.t1-x.t0+x.every:=bJ aa aa;have w3:C .i64 (x.t1-x.t0+x.every-1)=x.t1-x.t0+x.every-1:=bJ aa aa;have e:(x.t1-x.t0+x.every-1).tdiv x.every=dV x:=by
  rw[Int.tdiv_eq_ediv_of_nonneg aa];unfold dV;have:x.t1-x.t0+x.every-1=(x.t1-x.t0-1)+1*x.every:=aa
  rw[this,Int.add_mul_ediv_right _ _ aa]
 simp only[gO,yy,LJ,uv,yR,yS,yT,asInt,By,ab,w1,w2,w3,e,IT (show¬x.every=0 by omega)];rw[bJ aa aa]
def amA(x:bu)(h:eD x=Y):wP [x.pv]=U (.int .i64 (dV x)):=by
 have hc:=uu x h;have⟨h1,h2,h3,h4,h5⟩:=(gM x).1 h;have w1:C .i64 (x.t1-x.t0)=x.t1-x.t0:=bJ aa aa;have w2:C .i64 (x.t1-x.t0-1)=x.t1-x.t0-1:=bJ aa aa;have e:(x.t1-x.t0-1).tdiv x.every=dV x-1:=by grind [Int.tdiv_eq_ediv_of_nonneg,dV]
 simp only[wP,HJ,LJ,uv,yR,yS,yT,asInt,By,ab,w1,w2,e,IT (show¬x.every=0 by omega)];rw[bJ (x:=dV x-1) aa aa,bJ aa aa];simp
def F2(x:bu):Int:=x.t0+(dV x-1)*x.every
def RC(x:bu)(h:eD x=Y):0<=(dV x-1)*x.every/\(dV x-1)*x.every<=x.t1-x.t0-1/\x.t1-x.t0<=dV x*x.every:=by
 have⟨h1,h2,h3,h4,h5⟩:=(gM x).1 h;have e:dV x-1=(x.t1-x.t0-1)/x.every:=by unfold dV;omega
 have e2:dV x*x.every=(dV x-1)*x.every+x.every:=by rw[Int.sub_mul];omega
 rw[e2,e];have a:=Int.mul_ediv_add_emod (x.t1-x.t0-1) x.every;have b:=Int.emod_lt_of_pos (x.t1-x.t0-1) (aa:0<x.every);have c:=Int.emod_nonneg (x.t1-x.t0-1) (aa:x.every≠0);have d:=aAo (aA6 (aa:0<=x.t1-x.t0-1) (aa:0<=x.every)) (aa:0<=x.every);grind
def agE(x:bu)(h:eD x=Y):pc [x.pv]=U (.int .i64 (F2 x)):=by have hc:=uu x h;have Sw:=RC x h;have⟨h1,h2,h3,h4,h5⟩:=(gM x).1 h;have w1:C .i64 (dV x-1)=dV x-1:=bJ aa aa;have w2:C .i64 ((dV x-1)*x.every)=(dV x-1)*x.every:=bJ aa aa;have w3:C .i64 (x.t0+(dV x-1)*x.every)=F2 x:=bJ aa aa;simp only[pc,A3,LJ,uv,yR,yS,yT,asInt,By,ab,F0,R2 x h,w1,w2,w3]
def oT(x:bu)(n:Nat):List PV:=(I n).map λ(j:Nat)=>PV.int .i64 (x.t0+(j:Int)*x.every)
def RG(x:bu)(h:eD x=Y):iU [x.pv]=U (.rs 1 (oT x (dV x).toNat)):=by
 have hc:=uu x h;have Sw:=RC x h;have⟨h1,h2,h3,h4,h5⟩:=(gM x).1 h;simp only[iU,zn,LJ,uv,yR,yS,yT,asInt,asBool,By,ab,F0,Fy,h,aq3,AI,OF];refine aM (λk=>(x.t0+(k:Int)*x.every,x.bg,x.t0,x.t1,x.every,oT x k,())) (dV x).toNat (λk hk rec=>?_) (λrec=>?_) ?_ ?_
 .have Sc:(k:Int)<=dV x-1:=aa
  have Ad:(k:Int)*x.every<=(dV x-1)*x.every:=azn Sc aa;have L4:0<=(k:Int)*x.every:=aAo aa aa;have bX:x.t0+(k:Int)*x.every<x.t1:=aa
  have bG:(oT x k++[PV.int .i64 (x.t0+(k:Int)*x.every)]).length*8<=au/\0<8:=by refine⟨?_,aa⟩;simp only[oT,ax9,te,List.length_range,al6,are];unfold au;omega
  have awO:((k+1:Nat):Int)*x.every=(k:Int)*x.every+x.every:=ao
  have hw:C .i64 (x.t0+(k:Int)*x.every+x.every)=x.t0+((k+1:Nat):Int)*x.every:=sH
  simp_all[oT,ayP,yM,tb,By,BY]
 .have he:(((dV x).toNat:Nat):Int)*x.every=dV x*x.every:=ao
  have bX:¬x.t0+(((dV x).toNat:Nat):Int)*x.every<x.t1:=aa
  simp_all[yM,tb,IT]
 .grind [rounds,decide]
 .simp[oT]
def H3(x:bC)(f:bu):Bool:=O (pI x.calls f.t0≠10)&&O (pI x.calls (F2 f)≠10)
theorem FF(c:ar)(l:List ar)(s:Int):pI (c::l) s=0\/pI (c::l) s=10:=by show(if(I (c::l).length).all (jo (c::l) c.dep s)=Y then(0:Int)else 10)=0\/(if(I (c::l).length).all (jo (c::l) c.dep s)=Y then(0:Int)else 10)=10;omega
def ael(x:bu)(h:eD x=Y):0<=F2 x/\F2 x<=172800:=by have Sw:=RC x h;grind [gM,F2]
def agF(x:bC)(hx:x.Ok)(F1:x.calls.length<=40)(f:bu)(hf:eD f=Y):pd [x.pv,f.pv]=U (.bool (H3 x f)):=by
 have⟨h1,h2,h3,h4,h5⟩:=(gM f).1 hf;have hl:=ael f hf;obtain⟨es1,e1⟩:=UG x hx f.t0 ((fe _).2 aa) F1;obtain⟨es2,e2⟩:=UG x hx (F2 f) ((fe _).2 aa) F1;simp only[pd,A4,RD,vf,xw,vg,Bd,qf,LJ,uv,yR,yS,yT,bU,aJ,asInt,asBool,By,ab,te,F0,Uw,agE f hf,e1,e2,bY,al6,are,Nat.reduceAdd,Uz,WK,bh];unfold H3;cases St:x.calls with
 |nil=>rfl
 |cons c l=>
  have cO:(((c::l).length:Int)==0)=false:=bm
  rw[cO];simp only[AI,OF];rcases FF c l f.t0 with h|h<;>rcases FF c l (F2 f)with h'|h'<;>rw[h,h']<;>rfl
def akn(x:bC)(hx:x.Ok)(F1:x.calls.length<=40)(f:bu)(hf:eD f=Y):zD [x.pv,f.pv]=U (.bool (H3 x f)):=by
 have hc:=uu f hf;have⟨h1,h2,h3,h4,h5⟩:=(gM f).1 hf;have hl:=ael f hf;have⟨es1,e1⟩:=UH x hx f.t0 aa F1;have⟨es2,e2⟩:=UH x hx (F2 f) hl F1;have hlen:(oT f (dV f).toNat).length=(dV f).toNat:=by simp[oT]
 have hi0:uW (oT f (dV f).toNat) 0=U (.int .i64 f.t0):=by rw[show(0:Int)=((0:Nat):Int)from rfl,af];grind [oT,List.getElem?_range,dV]
 have hw:C .i64 (((dV f).toNat:Int)-1)=(((dV f).toNat-1:Nat):Int):=sH
 have hi1:uW (oT f (dV f).toNat) (((dV f).toNat-1:Nat):Int)=U (.int .i64 (F2 f)):=by
  rw[af];simp only[oT,AT,azz (show(dV f).toNat-1<(dV f).toNat by omega),IN];have:(((dV f).toNat-1:Nat):Int)=dV f-1:=aa
  rw[this];rfl
 have hci:∀n:Int,cell (.int .i64 n) 0=.int .i64 n:=λ_=>rfl;simp only[zD,Ki,RD,vf,xw,vg,Bd,qf,LJ,uv,yR,yS,yT,bU,aJ,asInt,asBool,By,ab,te,F0,Uw,RG f hf,hlen,hi0,hw,hi1,hci,e1,e2,bY,al6,are,Nat.reduceAdd,Uz,WK,bh,dQ];unfold H3;simp
def fitsAt(ai:List bC)(f:bu):Bool:=match ai[f.bg.toNat]? with|some x=>H3 x f|none=>Y
def Gg(l:List bu)(f:bu)(k:Nat):Int:=((l.take k).map λg=>if g.bg=f.bg then dV g else 0).sum
def R3(f g:bu):Bool:=O (g.bg=f.bg)&&(O (g.t0<f.t1)&&O (f.t0<g.t1))
def anyM(l:List bu)(f:bu)(k:Nat):Bool:=(l.take k).any (R3 f)
def Ci(l:List bu)(ai:List bC)(k:Nat):Int:=match l[k]? with
 |none=>0
 |some f=>if(O (f.bg<0)||decide (f.bg>=(ai.length:Int)))=Y then 9 else if(!eD f|| !fitsAt ai f)=Y then 10 else if dV f+Gg l f k>256 then 17 else if anyM l f k=Y then 8 else 0
def wG(l:List bu)(ai:List bC):Int×Int:=if l.length>64 then(0,5)else cg (Ci l ai) l.length
def IQ(l:List bu)(f:bu)(k:Nat)(h:k<l.length):Gg l f (k+1)=Gg l f k+if l[k].bg=f.bg then dV l[k]else 0:=by unfold Gg;have h2:l.take (k+1)=l.take k++[l[k]]:=(azc h).symm;grind
theorem UI(l:List bu)(f:bu)(k:Nat)(h:k<l.length):anyM l f (k+1)=(anyM l f k||R3 f l[k]):=by unfold anyM;have h2:l.take (k+1)=l.take k++[l[k]]:=(azc h).symm;grind
def R4(l:List bu)(f:bu):∀k,k<=l.length->(∀j(h:j<l.length),j<k->eD l[j]=Y)->0<=Gg l f k/\Gg l f k<=172800*(k:Int):=by
 intro k;induction k with
 |zero=>intro _ _;simp[Gg]
 |succ k ih=>intro hk hq;have:=ih aa λj h hj=>hq j h aa;rw[IQ l f k aa];have hc:=uu l[k] (hq k aa aa);omega
def Jv(l:List bu)(ai:List bC)(k:Nat)(h:k<l.length)(he:Ci l ai k=0):eD l[k]=true:=by unfold Ci at he;grind
def agG(l:List bu)(ai:List bC)(ht:ai.length<=maxLen/\∀y∈ai,y.Ok)(F1:∀y∈ai,y.calls.length<=40)(hl:l.length<=maxLen):nD [.rs 4 (l.map bu.pv),.rs 5 (ai.map bC.pv)]=U (res (wG l ai).1 (wG l ai).2):=by
 have hm:=ax;simp only[nD,yz,aJ,By,ab,te];unfold wG;by_cases kh:l.length>64
 .rw[BY ah,BY kh];rfl
 .rw[IT ah,IT kh,<-dr];refine mL (λk=>(l.map bu.pv,ai.map bC.pv,l.map bu.pv,(l.length:Int),(k:Int),())) l.length _ (λk hk hq rec=>?_) (λ_ rec=>?_) ?_ rfl
  .have h1:(k:Int)<(l.length:Int):=aa
   have amB:∀j(h:j<l.length),j<k->eD l[j]=true:=λj h hj=>by have hqj:=hq j hj;refine Jv l ai j h ?_;simp_all[Hc,Ci,IT]
   simp only[rQ,tb,h1,By,af,AT,ta hk,IN,ab,uv,yR,yS,yT,asInt,asBool,F0,te,aG,Ou];unfold Ci;rw[ta hk];simp only;generalize hf:l[k]=f;by_cases hr:f.bg<0\/f.bg>=(ai.length:Int)
   .have:(O (f.bg<0)||decide (f.bg>=(ai.length:Int)))=true:=by simpa using hr
    rw[this];rfl
   .have Tv:(O (f.bg<0)||decide (f.bg>=(ai.length:Int)))=false:=by simpa using hr
    simp only[Tv,AI,OF];have⟨t,htt⟩:=azX (aa:0<=f.bg);have htl:t<ai.length:=aa
    cases hs:eD f with
    |false=>rfl
    |true=>
     have hfa:fitsAt ai f=H3 ai[t] f:=by simp_all[fitsAt,anj,ta]
     have hfp:=agF ai[t] (ht.2 _ (alx htl)) (F1 _ (alx htl)) f hs;have abW:uW (ai.map bC.pv) f.bg=U ai[t].pv:=by rw[htt,af,AT,ta htl];rfl
     simp only[abW,aq3,cond_false,ab,vf,xw,vg,Bd,qf,Uw,hfp,asBool,hfa,azY];cases hfb:H3 ai[t] f with
     |false=>rfl
     |true=>
      have hc:(0:Int)<=0/\(0:Int)<=(k:Int)/\(k:Int)<=(l.length:Int)/\True/\4≠0:=⟨aa,aa,aa,trivial,aa⟩;have hcf:=uu f hs;have bX:(List.map bu.pv l).take k=(l.take k).map bu.pv:=ae
      simp only[aq3,AI,OF,R2 f hs,ab,asInt,By,anj,aAM,aAn,bX,te,ayz,ay2 (aAq hk)];rw[BY hc];refine aM (λj=>(l.map bu.pv,ai.map bC.pv,(k:Int),dV f+Gg l f j,anyM l f j,l.map bu.pv,(l.length:Int),(k:Int),(l.take k).map bu.pv,(k:Int),(j:Int),PV.int .i64 f.bg,PV.int .i64 f.t0,PV.int .i64 f.t1,PV.int .i64 f.every,())) k (λj hj rc=>?_) (λrc=>?_) ?_ ?_
      .have hj1:(j:Int)<(k:Int):=aa
       have xQ:j<l.length:=aa
       have hgl:(l.take k)[j]?=U l[j]:=av
       have hsj:=amB j xQ hj;have hcj:=uu l[j] hsj;have hb:=R4 l f j aa λi h hi=>amB i h aa;simp only[rP,tb,hj1,By,af,AT,hgl,IN,ab,uv,yR,yS,yT,asInt,F0,bW,ag (aa:j<9223372036854775807),bh,aG];rw[IQ l f j xQ,UI l f j xQ];by_cases he:l[j].bg=f.bg
       .rw[BY he,BY he,R2 l[j] hsj];have hw:C .i64 (dV f+Gg l f j+dV l[j])=dV f+(Gg l f j+dV l[j]):=sH
        simp_all[ab,R3,ayk,ayS,asInt,By]
       simp_all[IT,R3,ayf,azL,ayT,Int.add_zero]
      .simp only[rP,tb,awV,OF,ag (aa:k<9223372036854775807)];by_cases WS:dV f+Gg l f k>256
       .rw[BY WS,BY WS];rfl
       .rw[IT WS,IT WS];cases anyM l f k<;>rfl
      .grind [rounds,decide]
      .simp[Gg,anyM]
  .simp only[rQ,tb,awV,OF];rfl
  .have:=aP;omega
def ako(l:List bu)(ai:List bC)(ht:ai.length<=maxLen/\∀y∈ai,y.Ok)(F1:∀y∈ai,y.calls.length<=40)(hl:l.length<=maxLen):wQ [.rs 4 (l.map bu.pv),.rs 5 (ai.map bC.pv)]=U (res (wG l ai).1 (wG l ai).2):=by
 have hm:=ax;simp only[wQ,HL,aJ,By,ab,te];unfold wG;by_cases kh:l.length>64
 .rw[BY ah,BY kh];rfl
 .rw[IT ah,IT kh,<-dr];refine mL (λk=>(l.map bu.pv,ai.map bC.pv,(k:Int),())) l.length _ (λk hk hq rec=>?_) (λ_ rec=>?_) ?_ rfl
  .have h1:(k:Int)<(l.length:Int):=aa
   have amB:∀j(h:j<l.length),j<k->eD l[j]=true:=λj h hj=>by have hqj:=hq j hj;refine Jv l ai j h ?_;simp_all[Hc,Ci,IT]
   simp only[Bv,tb,h1,By,af,AT,ta hk,IN,ab,uv,yR,yS,yT,asInt,asBool,F0,te,aG,Fy];unfold Ci;rw[ta hk];simp only;generalize hf:l[k]=f;by_cases hr:f.bg<0\/f.bg>=(ai.length:Int)
   .have:(O (f.bg<0)||decide (f.bg>=(ai.length:Int)))=true:=by simpa using hr
    rw[this];rfl
   .have Tv:(O (f.bg<0)||decide (f.bg>=(ai.length:Int)))=false:=by simpa using hr
    simp only[Tv,AI,OF];have⟨t,htt⟩:=azX (aa:0<=f.bg);have htl:t<ai.length:=aa
    cases hs:eD f with
    |false=>rfl
    |true=>
     have hfa:fitsAt ai f=H3 ai[t] f:=by simp_all[fitsAt,anj,ta]
     have hfp:=akn ai[t] (ht.2 _ (alx htl)) (F1 _ (alx htl)) f hs;have abW:uW (ai.map bC.pv) f.bg=U ai[t].pv:=by rw[htt,af,AT,ta htl];rfl
     simp only[abW,aq3,cond_false,ab,vf,xw,vg,Bd,qf,Uw,hfp,asBool,hfa,azY];cases hfb:H3 ai[t] f with
     |false=>rfl
     |true=>
      have hcf:=uu f hs;simp only[aq3,AI,OF];refine aM (λj=>(l.map bu.pv,ai.map bC.pv,(k:Int),Gg l f j,anyM l f (min j k),(j:Int),PV.int .i64 f.bg,PV.int .i64 f.t0,PV.int .i64 f.t1,PV.int .i64 f.every,())) (k+1) (λj hj rc=>?_) (λrc=>?_) ?_ ?_
      .have hj1:(j:Int)<=(k:Int):=aa
       have xQ:j<l.length:=aa
       have hsj:eD l[j]=true:=ao
       have hcj:=uu l[j] hsj;have hb:=R4 l f j aa λi h hi=>amB i h aa;simp only[Bu,tb,hj1,By,af,AT,ta xQ,IN,ab,uv,yR,yS,yT,asInt,F0,dQ,ag (aa:j<9223372036854775807)];rw[IQ l f j xQ];have akQ:anyM l f (min (j+1) k)=(anyM l f (min j k)||(O (j<k)&&R3 f l[j])):=by grind [Nat.min_eq_left,UI,Nat.min_eq_right]
       rw[akQ];by_cases he:l[j].bg=f.bg
       .have hw:C .i64 (Gg l f j+dV l[j])=Gg l f j+dV l[j]:=bJ aa aa;simp only[he,ayk,aq3,AI,OF,amA l[j] hsj,ab,asInt,By,hw,R3,ayS,bh];grind
       .simp only[he,ayf,ayi,By,OF,R3,azL,Bool.and_false,ayT,Int.add_zero]
      .have bX:¬((k+1:Nat):Int)<=(k:Int):=aa
       have axr:Gg l f (k+1)=dV f+Gg l f k:=by rw[IQ l f k hk,hf,BY rfl];omega
       simp only[Bu,tb,IT bX,ag (aa:k<9223372036854775807),axr,Nat.min_eq_right (Nat.le_succ k)];by_cases WS:dV f+Gg l f k>256
       .rw[BY WS,BY WS];rfl
       .rw[IT WS,IT WS];cases anyM l f k<;>rfl
      .grind [rounds,decide]
      rfl
  .simp only[Bv,tb,te,awV,OF];rfl
  .have:=aP;omega
def akp(x:jt):cell x.pv 0=.int .i64 x.a:=rfl
def akq(x:jt):cell x.pv 1=.int .i64 x.b:=rfl
def acA(n:Int):cell (.int .i64 n) 0=.int .i64 n:=rfl
def iv(n:Int):PV:=.int .i64 n
def eW(l:List jt)(t:Int):Option Int:=(l.find? λx=>O (x.a=t)).map jt.b
def rO(o:Option Int):PV:=match o with|some b=>.b8 [.int .i64 b,.bool Y]|none=>.b8 [.int .i64 0,.bool J]
def Ng{A B:Type}(p:A->Bool)(g:A->B)(l:List A):(I l.length).findSome? (λk=>(l[k]?).bind λx=>if p x=Y then U (g x)else Z)=(l.find? p).map g:=by
 rw[Pz];induction l with
 |nil=>rfl
 |cons x l ih=>grind
def Np(l:List jt)(hl:l.length<=maxLen)(t:Int):lH [.rs 2 (l.map jt.pv),.int .i64 t]=U (rO (eW l t)):=by
 have hm:=ax;simp only[lH,Fj,aJ,asInt,By,ab,te];refine(aC (λk=>(t,l.map jt.pv,(l.length:Int),(k:Int),())) l.length (λk=>(l[k]?).bind λx=>if O (x.a=t)=Y then U (U (rO (U x.b)))else Z) (fin:=U (rO Z)) (λk hk rec=>?_) (λrec=>?_) ?_ rfl).trans ?_
 .have h1:(k:Int)<(l.length:Int):=aa
  simp only[yL,tb,h1,By,af,AT,ta hk,IN,ab,ayg,akp,akq,asInt,ag (aa:k<9223372036854775807),bW];by_cases he:l[k].a=t
  .simp only[he,By];rfl
  .simp only[he,OF];rfl
 .simp only[yL,tb,awV,OF];rfl
 .have:=aP;omega
 .rw[Ng (λx:jt=>O (x.a=t)) (λx=>U (rO (U x.b))) l];unfold eW;cases l.find? λx=>O (x.a=t)<;>rfl
def ZB(l:List jt)(hl:l.length<=maxLen)(t:Int):uO [.rs 2 (l.map jt.pv),.int .i64 t]=U (rO (eW l t)):=by
 have hm:=ax;simp only[uO,Kj,aJ,asInt,By,ab,te];refine(aC (λk=>(l.map jt.pv,t,(k:Int),())) l.length (λk=>(l[k]?).bind λx=>if O (x.a=t)=Y then U (U (rO (U x.b)))else Z) (fin:=U (rO Z)) (λk hk rec=>?_) (λrec=>?_) ?_ rfl).trans ?_
 .have h1:(k:Int)<(l.length:Int):=aa
  simp only[Dp,tb,te,h1,By,af,AT,ta hk,IN,ab,ayg,akp,akq,asInt,ag (aa:k<9223372036854775807),bW];by_cases he:l[k].a=t
  .simp only[he,By];rfl
  .simp only[he,OF];rfl
 .simp only[Dp,tb,te,awV,OF];rfl
 .have:=aP;omega
 .rw[Ng (λx:jt=>O (x.a=t)) (λx=>U (rO (U x.b))) l];unfold eW;cases l.find? λx=>O (x.a=t)<;>rfl
def aem(l:List Int)(hl:l.length<=maxLen)(t:Int):xG [.rs 1 (l.map iv),.int .i64 t]=U (.bool (O (t∈l))):=by
 have hm:=ax;simp only[xG,M6,aJ,asInt,By,ab,te];refine(dG (λk=>(l.map iv,t,(k:Int),())) l.length (λk=>O (l[k]?=U t)) (no:=U (.bool Y)) (fin:=U (.bool J)) (λk hk rec=>?_) (λrec=>?_) ?_ rfl).trans ?_
 .have h1:(k:Int)<(l.length:Int):=aa
  simp only[FK,tb,te,h1,By,af,AT,ta hk,IN,ab,iv,acA,asInt,ag (aa:k<9223372036854775807),bW,tc]
 .simp[FK,tb,te,awV,OF]
 .have:=aP;omega
 .rw[jR l l.length (ayd _) t,ays];grind
def acB(l:List Int)(hl:l.length<=maxLen)(t:Int):cD.run pf (t,l.map iv,(l.length:Int),0,())=U (.bool (O (t∈l))):=by
 have hm:=ax;refine(dG (λk=>(t,l.map iv,(l.length:Int),(k:Int),())) l.length (λk=>O (l[k]?=U t)) (no:=U (.bool Y)) (fin:=U (.bool J)) (λk hk rec=>?_) (λrec=>?_) ?_ rfl).trans ?_
 .have h1:(k:Int)<(l.length:Int):=aa
  simp only[pf,tb,h1,By,af,AT,ta hk,IN,ab,iv,acA,asInt,ag (aa:k<9223372036854775807),bW,tc]
 .simp[pf,tb,awV,OF]
 .have:=aP;omega
 .rw[jR l l.length (ayd _) t,ays];grind
def grow(l:List jt):Nat->List Int->Int->List Int
 |0,pre,last=>pre++[last]
 |n+1,pre,last=>match eW l last with
  |none=>pre++[last]
  |some m=>if m∈pre++[last]then pre++[last]else grow l n (pre++[last]) m
def ZS(l:List jt):∀n pre last,(grow l n pre last).length<=pre.length+1+n:=by
 intro n;induction n with
 |zero=>intro pre last;simp[grow]
 |succ n ih=>grind [grow,Nat.le_trans]
def amC:∀(a b:List Int),a.Nodup->(∀x∈a,x∈b)->a.length<=b.length:=by
 intro a;induction a with
 |nil=>simp
 |cons x a ih=>
  intro b hn hs;rw[azA]at hn;have hx:x∈b:=hs x ae;have:=ih (b.erase x) hn.2 λy hy=>ao
  grind
def ZT(l:List jt)(t m:Int)(h:eW l t=U m):t∈l.map jt.a:=by
 unfold eW at h;cases hf:l.find? (λx=>O (x.a=t))with
 |none=>rw[hf]at h;cases h
 |some x=>grind
def R5(pre:List Int)(last:Int)(hl:pre.length<maxLen):(pre++[last]).map iv=pre.map iv++[iv last]/\aU (C .i64 ((((pre++[last]).map iv).length:Int)-1)) ((pre++[last]).map iv).length/\((pre++[last]).map iv)[(C .i64 ((((pre++[last]).map iv).length:Int)-1)).toNat]?=U (iv last):=by
 have hm:=ax;have h1:(((pre++[last]).map iv).length:Int)=((pre.length+1:Nat):Int):=ae
 have h2:C .i64 (((pre.length+1:Nat):Int)-1)=(pre.length:Int):=sl _ aa;simp_all[iv,gF,anj]
def BA(a b:Int):cz (iv a).cells (iv b).cells=O (a=b):=II a b
def acC(l:List jt)(hl:l.length<=1000)(t:Int):qP [.rs 2 (l.map jt.pv),.int .i64 t]=U (.rs 1 ((grow l l.length [] t).map iv)):=by
 have Sw:(2000:Nat)<=maxLen:=bj
 have h0:eu (PV.int .i64 t) (.bool Y) []=seen iv ([]++[t]):=hZ BA t [];simp only[qP,C5,aJ,asInt,By,ab,h0];have key:∀(n N:Nat)(pre:List Int)(last:Int),pre.length+n=l.length->n<N->(pre++[last]).Nodup->(∀x∈pre,x∈l.map jt.a)->bT (pe cD) N (l.map jt.pv,(pre++[last]).map iv,seen iv (pre++[last]),())=U (.rs 1 ((grow l n pre last).map iv)):=by
  intro n;induction n with
  |zero=>
   intro N pre last hp hN Z2 aaC;cases N with
   |zero=>omega
   |succ N=>
    have⟨g1,g2,g3⟩:=R5 pre last aa;have Jl:eW l last=none:=by
     cases hx:eW l last with
     |none=>rfl
     |some m=>
      have h1:=ZT l last m hx;have:=amC (pre++[last]) (l.map jt.a) Z2 λy hy=>by
       rw[ayq]at hy;rcases hy with hy|hy
       .exact aaC y hy
       simp_all
      simp at this;omega
    simp only[bT,pe,BY g2,g3,ab,iv,acA,asInt,By,Np l aa,Jl,rO,bY,al6,are,Nat.reduceAdd,Uz,WK,asBool,ayi,cond_true];rfl
  |succ n ih=>
   intro N pre last hp hN Z2 aaC;cases N with
   |zero=>omega
   |succ N=>
    have⟨g1,g2,g3⟩:=R5 pre last aa;have hb:∀X:PV,((pre++[last]).map iv++[X]).length*8<=au/\0<8:=λX=>by refine⟨?_,aa⟩;simp only[ax9,te,al6,are];unfold au;omega
    simp only[bT,pe,BY g2,g3,ab,acA,asInt,By];simp only[iv,acA,asInt,By,ab,Np l aa];unfold grow;cases hx:eW l last with
    |none=>rfl
    |some m=>
     have nh:eY (PV.int .i64 m) (.bool J) (seen iv (pre++[last]))=.bool (O (m∈pre++[last])):=fT BA m _;have qX:eu (PV.int .i64 m) (.bool Y) (seen iv (pre++[last]))=seen iv (pre++[last]++[m]):=hZ BA m _;simp only[rO,bY,al6,are,Nat.reduceAdd,By,Uz,WK,asBool,asInt,ab,aq3,cond_false];simp only[nh,asBool,ab];by_cases bt:m∈pre++[last]
     .simp_all
     .simp only[bt,ayf,AI,OF];rw[BY (hb _),qX];have fL:(pre++[last]).map iv++[PV.int .i64 m]=(pre++[last]++[m]).map iv:=by simp[iv]
      rw[fL];refine ih N (pre++[last]) m ah aa ?_ ?_
      .rw[List.nodup_append];refine⟨Z2,ae,λa ha b hb=>?_⟩;simp at hb;grind
      .intro x U0;rw[ayq]at U0;rcases U0 with h|h
       .exact aaC x h
       simp_all[ZT]
 exact key l.length rounds [] t ae (by grind [rounds,decide]) ae ae
def agH(l:List jt)(hl:l.length<=1000)(t:Int):wR [.rs 2 (l.map jt.pv),.int .i64 t]=U (.rs 1 ((grow l l.length [] t).map iv)):=by
 have Sw:(2000:Nat)<=maxLen:=bj
 have hm:=ax;simp only[wR,HM,aJ,asInt,By,ab,te];have key:∀(n N:Nat)(pre:List Int)(last:Int),pre.length+n=l.length->n<N->bT (uP cD) N (l.map jt.pv,(l.length:Int),(pre.length:Int),(pre++[last]).map iv,())=U (.rs 1 ((grow l n pre last).map iv)):=by
  intro n;induction n with
  |zero=>
   intro N pre last hp hN;cases N with
   |zero=>omega
   |succ N=>
    have bX:¬(pre.length:Int)<(l.length:Int):=aa
    simp only[bT,uP,tb,IT bX];rfl
  |succ n ih=>
   intro N pre last hp hN;cases N with
   |zero=>omega
   |succ N=>
    have⟨g1,g2,g3⟩:=R5 pre last aa;have bX:(pre.length:Int)<(l.length:Int):=aa
    have hb:∀X:PV,((pre++[last]).map iv++[X]).length*8<=au/\0<8:=λX=>by refine⟨?_,aa⟩;simp only[ax9,te,al6,are];unfold au;omega
    simp only[bT,uP,tb,BY bX,BY g2,g3,ab,acA,asInt,By];simp only[iv,acA,asInt,By,ab,ZB l aa];unfold grow;cases hx:eW l last with
    |none=>rfl
    |some m=>
     have aru:=aem (pre++[last]) ah m;simp only[rO,bY,al6,are,Nat.reduceAdd,By,Uz,WK,asBool,asInt,ab,aq3,cond_false,aru];by_cases bt:m∈pre++[last]
     .simp_all
     .simp only[bt,ayf,AI,OF];rw[BY (hb _)];have fL:(pre++[last]).map iv++[PV.int .i64 m]=(pre++[last]++[m]).map iv:=by simp[iv]
      have hk:C .i64 ((pre.length:Int)+1)=((pre++[last]).length:Int):=by rw[ag aa];simp
      rw[fL,hk];exact ih N (pre++[last]) m ah aa
 exact key l.length rounds [] t ae (by grind [rounds,decide])
def ZU(l:List jt)(hl:l.length<=1000)(a b:Int):qQ [.rs 2 (l.map jt.pv),.int .i64 a,.int .i64 b]=U (.bool (O (b∈grow l l.length [] a))):=by
 have Sw:(2000:Nat)<=maxLen:=bj
 have hg:=ZS l l.length [] a;simp only[are]at hg;simp only[qQ,C6,aJ,asInt,By,ab,acC l hl,te];exact acB _ aa b
def xo(fs:List bu)(t:Int):Bool:=O (t∈fs.map bu.bg)
def RI(fs:List bu)(hl:fs.length<=maxLen)(t:Int):dS [.rs 4 (fs.map bu.pv),.int .i64 t]=U (.bool (xo fs t)):=by
 have hm:=ax;simp only[dS,rK,aJ,asInt,By,ab,te];refine(dG (λk=>(t,fs.map bu.pv,(fs.length:Int),(k:Int),())) fs.length (λk=>O ((fs.map bu.bg)[k]?=U t)) (no:=U (.bool Y)) (fin:=U (.bool J)) (λk hk rec=>?_) (λrec=>?_) ?_ rfl).trans ?_
 .have h1:(k:Int)<(fs.length:Int):=aa
  simp only[mY,tb,h1,By,af,AT,ta hk,IN,ab,uv,asInt,ag (aa:k<9223372036854775807),bW,tc]
 .simp[mY,tb,awV,OF]
 .have:=aP;omega
 .have h:=jR (fs.map bu.bg) fs.length ae t;rw[h,ayu ae];unfold xo;grind
def aen(fs:List bu)(hl:fs.length<=maxLen)(t:Int):fY [.rs 4 (fs.map bu.pv),.int .i64 t]=U (.bool (xo fs t)):=by
 have hm:=ax;simp only[fY,A5,aJ,asInt,By,ab,te];refine(dG (λk=>(fs.map bu.pv,t,(k:Int),())) fs.length (λk=>O ((fs.map bu.bg)[k]?=U t)) (no:=U (.bool Y)) (fin:=U (.bool J)) (λk hk rec=>?_) (λrec=>?_) ?_ rfl).trans ?_
 .have h1:(k:Int)<(fs.length:Int):=aa
  simp only[uQ,tb,te,h1,By,af,AT,ta hk,IN,ab,uv,asInt,ag (aa:k<9223372036854775807),bW,tc]
 .simp[uQ,tb,te,awV,OF]
 .have:=aP;omega
 .have h:=jR (fs.map bu.bg) fs.length ae t;rw[h,ayu ae];unfold xo;grind
def I2(n m:Int):Bool:=O (n>=0)&&O (n<m)
def akr(n m:Int):oj [.int .i64 n,.int .i64 m]=U (.bool (I2 n m)):=by simp only[oj,Rl,asInt,By,ab,bh];rfl
def amD(n:Int)(ts:List PV):iH [.int .i64 n,.rp [.rs 5 ts]]=U (.bool (I2 n ts.length)):=by simp only[iH,Ao,asInt,aJ,By,ab,bh];rfl
def sk(a b:Int)(n:Nat):Bool:= !I2 a n|| !I2 b n||decide (a=b)
def jQ(fs:List bu)(a b:Int):Bool:=xo fs a||xo fs b
def UJ(a b:Int)(ai:List bC)(fs:List bu)(hl:fs.length<=maxLen):oh [.int .i64 a,.int .i64 b,.rs 5 (ai.map bC.pv),.rs 4 (fs.map bu.pv)]=U (.b8 [.int .i64 (if sk a b ai.length=Y then 9 else 0),.int .i64 (if(!sk a b ai.length&&jQ fs a b)=Y then 17 else 0)]):=by simp only[oh,Fk,asInt,aJ,asBool,By,ab,amD,RI fs hl,te,aG,bW];unfold sk jQ;grind
def xC(a b:bC):Int:=if(!decide (a.Dd=b.Dd))=Y then 15 else match a.calls[a.calls.length-1]?,b.calls[0]? with
 |some p,U q=>if(!decide (p.stop=q.stop))=Y then 13 else if q.dep<p.arr then 10 else 0
 |_,_=>13
def ZV(l:List ar)(h:0<l.length)(hl:l.length<=maxLen):C .i64 ((l.length:Int)-1)=((l.length-1:Nat):Int):=by grind [ax,bJ]
def avy(l:List ar)(h:0<l.length):uW (l.map ar.pv) 0=U l[0].pv:=by rw[show(0:Int)=((0:Nat):Int)from rfl,af,AT,ta h];rfl
def WT(a b:bC)(ha:a.Ok)(hb:b.Ok):nE [a.pv,b.pv]=U (.int .i64 (xC a b)):=by
 have hm:=ax;have Z7:=ha.calls.1;simp only[nE,yA,RD,vf,xw,vg,Bd,qf,bU,aJ,asInt,asBool,By,ab,te,aG,dQ];unfold xC;cases O (a.Dd=b.Dd)with
 |false=>rfl
 |true=>
  simp only[aq3,AI,OF];by_cases h1:a.calls.length=0
  .simp_all
  .by_cases h2:b.calls.length=0
   .simp_all
   .have n1:((a.calls.length:Int)==0)=false:=av
    have n2:((b.calls.length:Int)==0)=false:=av
    have hk:a.calls.length-1<a.calls.length:=aa
    have h0:0<b.calls.length:=aa
    rw[n1,n2,ZV a.calls aa Z7,avy b.calls h0];simp only[ayT,AI,OF,af,AT,ta hk,ta h0,IN,ab,nY,ni,jm,asInt,By];grind
def G1(l:List jt)(ai:List bC)(fs:List bu)(k:Nat):Int:=match l[k]? with
 |none=>0
 |some x=>if sk x.a x.b ai.length=Y then 9 else if jQ fs x.a x.b=Y then 17 else match ai[x.a.toNat]?,ai[x.b.toNat]? with
  |some p,U q=>if xC p q=0 then(if(O (x.a∈(l.map jt.a).take k)||decide (x.b∈(l.map jt.b).take k))=Y then 6 else if x.a∈grow (l.take k) k [] x.b then 19 else 0)else xC p q
  |_,_=>0
def tB(l:List jt)(ai:List bC)(fs:List bu):Int×Int:=if l.length>128 then(0,5)else cg (G1 l ai fs) l.length
def E6(a b:Int)(ai:List bC)(h:sk a b ai.length=J):∃(i j:Nat),a=i/\b=j/\i<ai.length/\j<ai.length:=by unfold sk I2 at h;simp only[ayp,aza,T1,tb]at h;exact⟨a.toNat,b.toNat,aa,aa,aa,aa⟩
def aks(l:List jt)(ai:List bC)(fs:List bu)(ht:ai.length<=maxLen/\∀y∈ai,y.Ok)(hf:fs.length<=maxLen):qR [.rs 2 (l.map jt.pv),.rs 5 (ai.map bC.pv),.rs 4 (fs.map bu.pv)]=U (res (tB l ai fs).1 (tB l ai fs).2):=by
 have hm:=ax;simp only[qR,C7,aJ,By,ab,te];unfold tB;by_cases kh:l.length>128
 .rw[BY ah,BY kh];rfl
 .rw[IT ah,IT kh,<-dr];refine aC (λk=>(l.map jt.pv,ai.map bC.pv,fs.map bu.pv,l.map jt.pv,(l.length:Int),(k:Int),seen iv ((l.map jt.a).take k),seen iv ((l.map jt.b).take k),())) l.length _ (λk hk rec=>?_) (λrec=>?_) ?_ rfl
  .have h1:(k:Int)<(l.length:Int):=aa
   simp only[vN,tb,h1,By,af,AT,ta hk,IN,ab,akp,akq,asInt,UJ _ _ ai fs hf,bY,al6,are,Nat.reduceAdd,Uz,WK,dQ,ag (aa:k<9223372036854775807),my jt.a l k hk,my jt.b l k hk,te];unfold G1;rw[ta hk];simp only;generalize l[k]=x;cases hp:sk x.a x.b ai.length with
   |true=>rfl
   |false=>
    cases hr:jQ fs x.a x.b with
    |true=>rfl
    |false=>
     have⟨i,j,hi,hj,NS,xQ⟩:=E6 x.a x.b ai hp;have xi:uW (ai.map bC.pv) x.a=U ai[i].pv:=by rw[hi,af,AT,ta NS];rfl
     have xj:uW (ai.map bC.pv) x.b=U ai[j].pv:=by rw[hj,af,AT,ta xQ];rfl
     have ti:ai[x.a.toNat]?=U ai[i]:=av
     have tj:ai[x.b.toNat]?=U ai[j]:=av
     have hfo:=WT ai[i] ai[j] (ht.2 _ (alx NS)) (ht.2 _ (alx xQ));have la:eY (PV.int .i64 x.a) (.bool J) (seen iv ((l.map jt.a).take k))=.bool (O (x.a∈(l.map jt.a).take k)):=fT BA x.a _;have lb:eY (PV.int .i64 x.b) (.bool J) (seen iv ((l.map jt.b).take k))=.bool (O (x.b∈(l.map jt.b).take k)):=fT BA x.b _;have pa:eu (PV.int .i64 x.a) (.bool Y) (seen iv ((l.map jt.a).take k))=seen iv ((l.map jt.a).take k++[x.a]):=hZ BA x.a _;have pb:eu (PV.int .i64 x.b) (.bool Y) (seen iv ((l.map jt.b).take k))=seen iv ((l.map jt.b).take k++[x.b]):=hZ BA x.b _;have hc:(0:Int)<=0/\(0:Int)<=(k:Int)/\(k:Int)<=(l.length:Int)/\True/\2≠0:=⟨aa,aa,aa,trivial,aa⟩;have htk:(l.map jt.pv).take k=(l.take k).map jt.pv:=ae
     have hle:=ZU (l.take k) ah x.b x.a;have Tx:(l.take k).length=k:=ah
     rw[Tx]at hle;simp only[ayi,ayS,AI,OF,ayk,aq3,xi,xj,ti,tj,ab,vf,xw,vg,Bd,qf,Uw,hfo,asInt,By,la,lb,asBool,aG,pa,pb,htk,anj,aAM,aAn,hle,BY hc];by_cases hfe:xC ai[i] ai[j]=0
     .simp only[hfe,ayk,aq3,AI,OF,By];cases(O (x.a∈(l.map jt.a).take k)||decide (x.b∈(l.map jt.b).take k))with
      |true=>rfl
      |false=>
       by_cases bt:x.a∈grow (l.take k) k [] x.b
       .simp only[bt,ayk,By];rfl
       .simp only[bt,ayf,AI,OF];rfl
     .simp only[hfe,ayf,ayi,By,OF,Hc,bN];rfl
  .simp only[vN,tb,awV,OF];rfl
  grind [rounds,decide]
def arv{A:Type}(l:List A)(p q:A->Bool):(l.any λx=>p x||q x)=(l.any p||l.any q):=ao
def amE(l:List jt)(hl:l.length<=1000)(ai:List bC)(fs:List bu)(ht:ai.length<=maxLen/\∀y∈ai,y.Ok)(hf:fs.length<=maxLen)(k:Nat)(hk:k<l.length):Cn [.rs 2 (l.map jt.pv),.int .i64 k,.rs 5 (ai.map bC.pv),.rs 4 (fs.map bu.pv)]=U (.int .i64 (G1 l ai fs k)):=by
 have hm:=ax;simp only[Cn,M7,aJ,asInt,asBool,By,ab,af,AT,ta hk,IN,akp,akq,akr,aen fs hf,te,aG,bW,dQ];unfold G1;rw[ta hk];simp only;generalize hx:l[k]=x;have hpb:(!I2 x.a (ai.length:Int)|| !I2 x.b (ai.length:Int)||decide (x.a=x.b))=sk x.a x.b ai.length:=rfl;have hpr:(xo fs x.a||xo fs x.b)=jQ fs x.a x.b:=rfl;rw[hpb,hpr];cases hp:sk x.a x.b ai.length with
 |true=>rfl
 |false=>
  cases hr:jQ fs x.a x.b with
  |true=>rfl
  |false=>
   have⟨i,j,hi,hj,NS,xQ⟩:=E6 x.a x.b ai hp;have xi:uW (ai.map bC.pv) x.a=U ai[i].pv:=by rw[hi,af,AT,ta NS];rfl
   have xj:uW (ai.map bC.pv) x.b=U ai[j].pv:=by rw[hj,af,AT,ta xQ];rfl
   have ti:ai[x.a.toNat]?=U ai[i]:=av
   have tj:ai[x.b.toNat]?=U ai[j]:=av
   have hai:=(ht.2 _ (alx NS)).calls.1;simp only[AI,OF,xi,xj,ti,tj,ab,vg,qf,asInt,aJ,By,te];unfold xC;cases O (ai[i].Dd=ai[j].Dd)with
   |false=>rfl
   |true=>
    simp only[aq3,AI,OF];by_cases z1:ai[i].calls.length=0
    .have e1:ai[i].calls=[]:=ayh z1;have w:C .i64 (((([]:List ar).length:Nat):Int)-1)= -1:=bm
     simp_all
    .rw[ZV _ aa hai];have afA:O (((ai[i].calls.length-1:Nat):Int)<0)=false:=ae
     simp only[afA,cond_false,ab];by_cases z2:ai[j].calls.length=0
     .simp_all
     .have n2:O ((ai[j].calls.length:Int)=0)=false:=aAy aa;have mq:ai[i].calls.length-1<ai[i].calls.length:=aa
      have h0:0<ai[j].calls.length:=aa
      rw[n2,avy _ h0];simp only[AI,cond_false,OF,af,AT,ta mq,ta h0,IN,ab,nY,ni,jm,asInt,By];cases O (ai[i].calls[ai[i].calls.length-1].stop=ai[j].calls[0].stop)with
      |false=>rfl
      |true=>
       simp only[aq3,AI,OF,tb];by_cases bX:ai[j].calls[0].dep<ai[i].calls[ai[i].calls.length-1].arr
       .simp_all
       .rw[IT bX,IT bX];simp only[By];have hc:(0:Int)<=0/\(0:Int)<=(k:Int)/\(k:Int)<=((l.map jt.pv).length:Int)/\True/\2≠0:=⟨aa,aa,ah,trivial,aa⟩;have htk:(l.map jt.pv).take k=(l.take k).map jt.pv:=ae
        have Tx:(l.take k).length=k:=ah
        have hch:=agH (l.take k) aa x.b;rw[Tx]at hch;have hg:=ZS (l.take k) k [] x.b;simp only[are]at hg;have aru:=aem (grow (l.take k) k [] x.b) (by grind [maxLen,decide]) x.a;refine(dG (λj=>(l.map jt.pv,(k:Int),(j:Int),PV.int .i64 x.a,PV.int .i64 x.b,())) k (λj=>O ((l.map jt.a)[j]?=U x.a)||decide ((l.map jt.b)[j]?=U x.b)) (no:=U (.int .i64 6)) (fin:=U (.int .i64 (if x.a∈grow (l.take k) k [] x.b then 19 else 0))) (λj hj rec=>?_) (λrec=>?_) ?_ rfl).trans ?_
        .have h1:(j:Int)<(k:Int):=aa
         have xQ:j<l.length:=aa
         simp only[FL,tb,h1,By,af,AT,ta xQ,IN,ab,akp,akq,asInt,ag (aa:j<9223372036854775807),bW,aG,tc]
        .simp only[FL,tb,awV,OF,BY hc,htk,anj,aAM,aAn,asInt,By,ab,hch,aJ,aru,asBool];split<;>rfl
        .grind [rounds,decide]
        .rw[arv,jR _ k ah,jR _ k ah];split<;>rfl
def amF(l:List jt)(ai:List bC)(fs:List bu)(ht:ai.length<=maxLen/\∀y∈ai,y.Ok)(hf:fs.length<=maxLen):wS [.rs 2 (l.map jt.pv),.rs 5 (ai.map bC.pv),.rs 4 (fs.map bu.pv)]=U (res (tB l ai fs).1 (tB l ai fs).2):=by
 have hm:=ax;simp only[wS,HN,aJ,By,ab,te];unfold tB;by_cases kh:l.length>128
 .rw[BY ah,BY kh];rfl
 .rw[IT ah,IT kh,<-dr];refine aC (λk=>(l.map jt.pv,ai.map bC.pv,fs.map bu.pv,(k:Int),())) l.length _ (λk hk rec=>?_) (λrec=>?_) ?_ rfl
  .have h1:(k:Int)<(l.length:Int):=aa
   simp only[Bw,tb,te,h1,By,amE l aa ai fs ht hf k hk,ab,asInt,ag (aa:k<9223372036854775807),dQ];grind [G1,Hc,bN,res]
  .simp only[Bw,tb,te,awV,OF];rfl
  grind [rounds,decide]
def Bg(l:List ar)(s:Int)(k:Nat):Bool:=O (0<k)&&(match l[k]? with|some x=>O (x.stop=s)&&x.vI|none=>J)
def yI(l:List ar)(s:Int)(k:Nat):Bool:=O (k+1<l.length)&&(match l[k]? with|some x=>O (x.stop=s)&&x.D9|none=>J)
def F4(o:Option Nat):Int:=match o with|some k=>k|none=> -1
def ZW(i:Nat):O (F4 (U i)<0)=false:=bm
def akt(l:List ar)(hl:l.length<=maxLen)(s:Int):kU [.rs 5 (l.map ar.pv),.int .i64 s]=U (.int .i64 (F4 ((I l.length).find? (Bg l s)))):=by
 have hm:=ax;simp only[kU,ud,aJ,asInt,By,ab,te];refine(aC (λk=>(s,l.map ar.pv,(l.length:Int),(k:Int),())) l.length (λk=>if Bg l s k=Y then U (U (.int .i64 (k:Int)))else Z) (fin:=U (.int .i64 (-1))) (λk hk rec=>?_) (λrec=>?_) ?_ rfl).trans ?_
 .have h1:(k:Int)<(l.length:Int):=aa
  have h2:O ((k:Int)>0)=O (0<k):=ae
  simp only[og,tb,h1,By,af,AT,ta hk,IN,ab,nY,Ow,asInt,asBool,ag (aa:k<9223372036854775807),bW,bh,Bg,h2];cases O (0<k)<;>cases O (l[k].stop=s)<;>cases l[k].vI<;>rfl
 .simp[og,tb,awV,OF]
 .have:=aP;omega
 .rw[fD];cases(I l.length).find? (Bg l s)<;>rfl
def aku(l:List ar)(hl:l.length<maxLen)(s:Int):mi [.rs 5 (l.map ar.pv),.int .i64 s]=U (.int .i64 (F4 ((I l.length).find? (yI l s)))):=by
 have hm:=ax;simp only[mi,vG,aJ,asInt,By,ab,te];refine(aC (λk=>(l.map ar.pv,s,l.map ar.pv,(l.length:Int),(k:Int),())) l.length (λk=>if yI l s k=Y then U (U (.int .i64 (k:Int)))else Z) (fin:=U (.int .i64 (-1))) (λk hk rec=>?_) (λrec=>?_) ?_ rfl).trans ?_
 .have h1:(k:Int)<(l.length:Int):=aa
  have h2:O (((k+1:Nat):Int)<(l.length:Int))=O (k+1<l.length):=ao
  simp only[pJ,tb,h1,By,af,AT,ta hk,IN,ab,nY,Ov,asInt,asBool,ag (aa:k<9223372036854775807),bW,bh,yI,te,h2];cases O (k+1<l.length)<;>cases O (l[k].stop=s)<;>cases l[k].D9<;>rfl
 .simp[pJ,tb,awV,OF]
 .have:=aP;omega
 .rw[fD];cases(I l.length).find? (yI l s)<;>rfl
def mtB(a b:List ar)(i k:Nat):Bool:=match a[i]?,b[k]? with|some p,U q=> !decide (q.dep<p.arr)|_,_=>J
def Zt(i k:Nat)(m:Bool):PV:=if m=Y then .b8 [.int .i64 i,.int .i64 k,.bool Y]else .b8 [.int .i64 0,.int .i64 0,.bool J]
def agI:PV:=.b8 [.int .i64 0,.int .i64 0,.bool J]
def Ck(a b:List ar)(s:Int):PV:=match(I a.length).find? (Bg a s)with
 |none=>agI
 |some i=>match(I b.length).find? (yI b s)with
  |none=>agI
  |some k=>Zt i k (mtB a b i k)
def mX(a b:List ar)(s:Int):Bool:=match(I a.length).find? (Bg a s)with
 |none=>J
 |some i=>match(I b.length).find? (yI b s)with
  |none=>J
  |some k=>mtB a b i k
def UK(a b:List ar)(s:Int):∃n m,Ck a b s=.b8 [.int .i64 n,.int .i64 m,.bool (mX a b s)]:=by
 unfold Ck mX;cases(I a.length).find? (Bg a s)with
 |none=>exact⟨0,0,rfl⟩
 |some i=>
  cases(I b.length).find? (yI b s)with
  |none=>exact⟨0,0,rfl⟩
  |some k=>
   simp only[Zt];cases mtB a b i k
   .simp
   simp
def aeo(p:Nat->Bool)(n i:Nat)(h:(I n).find? p=U i):i<n:=av
def RQ(a b:List ar)(ha:a.length<=maxLen)(hb:b.length<maxLen)(s:Int):mF [.rs 5 (a.map ar.pv),.rs 5 (b.map ar.pv),.int .i64 s]=U (Ck a b s):=by
 simp only[mF,C4,aJ,asInt,By,ab,akt a ha s,aku b hb s,aG];unfold Ck;cases hi:(I a.length).find? (Bg a s)with
 |none=>rfl
 |some i=>
  have NS:=aeo _ _ _ hi;cases hk:(I b.length).find? (yI b s)with
  |none=>rfl
  |some k=>have jK:=aeo _ _ _ hk;have h1:O (F4 (U i)<0)=false:=ZW i;have h2:O (F4 (U k)<0)=false:=ZW k;rw[h1,h2];simp only[F4,ayT,cond_false,af,AT,ta NS,ta jK,IN,ab,ni,jm,asInt,By,tb,Zt,mtB];grind
def akv(a b:List ar)(hb:b.length<maxLen)(s:Int)(i:Nat)(hi:i<a.length):cD.run uT (a.map ar.pv,b.map ar.pv,s,(i:Int),0,())=U (match(I b.length).find? (yI b s)with
 |none=>agI
 |some k=>Zt i k (mtB a b i k)):=by
 have hm:=ax
 refine(aC (λk=>(a.map ar.pv,b.map ar.pv,s,(i:Int),(k:Int),())) (b.length-1) (λk=>if yI b s k=Y then U (U (Zt i k (mtB a b i k)))else Z) (fin:=U agI) (λk hk rec=>?_) (λrec=>?_) ?_ rfl).trans ?_
 .have jK:k<b.length:=aa
  have h1:((k+1:Nat):Int)<(b.length:Int):=aa
  have h2:O (k+1<b.length)=true:=ao
  simp only[uT,tb,ag (aa:k<9223372036854775807),te,h1,By,af,AT,ta jK,ta hi,IN,ab,nY,ni,jm,Ov,asInt,asBool,bW,bh,yI,h2,Zt,mtB,ayS];cases(O (b[k].stop=s)&&b[k].D9)with
  |false=>rfl
  |true=>
   by_cases h:b[k].dep<a[i].arr
   .simp only[h,By,ayk,aq3,AI,OF];rfl
   .simp only[h,By,ayf,ayi,OF];rfl
 .have hw:C .i64 (((b.length-1:Nat):Int)+1)=((b.length-1+1:Nat):Int):=ag aa;have h1:¬((b.length-1+1:Nat):Int)<(b.length:Int):=aa
  simp only[uT,tb,hw,te,IT h1];rfl
 .have:=aP;omega
 .rw[fD];have R0:(I b.length).find? (yI b s)=(I (b.length-1)).find? (yI b s):=by
   cases Z3:b.length with
   |zero=>rfl
   |succ n=>
    have Og:yI b s n=false:=by unfold yI;rw[Z3];simp
    simp_all[ayP,List.find?_append,aBb,List.find?_nil,Option.or_none,azs]
  rw[R0];cases(I (b.length-1)).find? (yI b s)<;>rfl
def Uy(a b:List ar)(ha:a.length<maxLen)(hb:b.length<maxLen)(s:Int):qn [.rs 5 (a.map ar.pv),.rs 5 (b.map ar.pv),.int .i64 s]=U (Ck a b s):=by
 have hm:=ax;simp only[qn,HO,aJ,asInt,By,ab];refine(aC (λk=>(a.map ar.pv,b.map ar.pv,s,((k+1:Nat):Int),())) (a.length-1) (λk=>if Bg a s (k+1)=Y then U (U (match(I b.length).find? (yI b s)with|none=>agI|some j=>Zt (k+1) j (mtB a b (k+1) j)))else Z) (fin:=U agI) (λk hk rec=>?_) (λrec=>?_) ?_ rfl).trans ?_
 .have jK:k+1<a.length:=aa
  have h1:((k+1:Nat):Int)<(a.length:Int):=aa
  have h2:O (0<k+1)=true:=ae
  simp only[Bx,tb,te,h1,By,af,AT,ta jK,IN,ab,nY,Ow,asInt,asBool,dQ,aG,Bg,h2,ayS,ag (aa:k+1<9223372036854775807),akv a b hb s (k+1) jK];cases O (a[k+1].stop=s)<;>cases a[k+1].vI<;>rfl
 .have h1:¬((a.length-1+1:Nat):Int)<(a.length:Int):=aa
  simp only[Bx,tb,te,IT h1];rfl
 .have:=aP;omega
 .rw[fD (λk=>Bg a s (k+1))];unfold Ck;cases OY:a.length with
  |zero=>rfl
  |succ n=>
   have h0:Bg a s 0=false:=bm
   rw[azB,aBb,h0,azs,List.find?_map];cases hf:(I n).find? (λk=>Bg a s (k+1))with
   |none=>have:(I n).find? (Bg a s∘Nat.succ)=none:=hf;rw[this];rfl
   |some i=>have:(I n).find? (Bg a s∘Nat.succ)=U i:=hf;rw[this];rfl
def Zv(x:ju):cell x.pv 0=.int .i64 x.a:=rfl
def Zw(x:ju):cell x.pv 1=.int .i64 x.b:=rfl
def Zx(x:ju):cell x.pv 2=.int .i64 x.stop:=rfl
def avz(x:ju):PV.agg [.int .i64 x.a,.int .i64 x.b,.int .i64 x.stop]=x.pv:=rfl
def ZX(a b c:Int):rS (Kd.int .i64::[].append (Kd.int .i64::[].append (Kd.int .i64::[].append []))) [.int .i64 a,.int .i64 b,.int .i64 c]=true:=rfl
def R6(x y:ju):cz x.pv.cells y.pv.cells=O (x=y):=by show cz [.int .i64 x.a,.int .i64 x.b,.int .i64 x.stop] [.int .i64 y.a,.int .i64 y.b,.int .i64 y.stop]=_;simp only[cz,peq,azw,bW];rw[ayo];simp only[T1,tb];cases x;cases y;simp
def Cj(l:List ju)(ai:List bC)(fs:List bu)(stops:Int)(k:Nat):Int:=match l[k]? with
 |none=>0
 |some x=>if(sk x.a x.b ai.length|| !I2 x.stop stops)=Y then 9 else if jQ fs x.a x.b=Y then 17 else match ai[x.a.toNat]?,ai[x.b.toNat]? with
  |some p,U q=>if mX p.calls q.calls x.stop=J then 19 else if x∈l.take k then 6 else 0
  |_,_=>0
def nC(l:List ju)(ai:List bC)(fs:List bu)(stops:Int):Int×Int:=if l.length>128 then(0,5)else cg (Cj l ai fs stops) l.length
def agJ(l:List ju)(ai:List bC)(fs:List bu)(stops:Int)(ht:ai.length<=maxLen/\∀y∈ai,y.Ok)(F1:∀y∈ai,y.calls.length<=40)(hf:fs.length<=maxLen):fN [.rs 3 (l.map ju.pv),.rs 5 (ai.map bC.pv),.rs 4 (fs.map bu.pv),.int .i64 stops]=U (res (nC l ai fs stops).1 (nC l ai fs stops).2):=by
 have hm:=ax;have dC:1000<=maxLen:=bj
 simp only[fN,lC,aJ,asInt,By,ab,te];unfold nC;by_cases kh:l.length>128
 .rw[BY ah,BY kh];rfl
 .rw[IT ah,IT kh,<-dr];refine aC (λk=>(ai.map bC.pv,fs.map bu.pv,stops,l.map ju.pv,(l.length:Int),(k:Int),seen ju.pv (l.take k),())) l.length _ (λk hk rec=>?_) (λrec=>?_) ?_ rfl
  .have h1:(k:Int)<(l.length:Int):=aa
   have fL:l.take (k+1)=l.take k++[l[k]]:=(azc hk).symm;simp only[jc,tb,h1,By,af,AT,ta hk,IN,ab,Zv,Zw,Zx,asInt,UJ _ _ ai fs hf,bY,al6,are,Nat.reduceAdd,Uz,WK,dQ,aG,ag (aa:k<9223372036854775807),fL,te];unfold Cj;rw[ta hk];simp only;generalize l[k]=x;have nJ:(!I2 x.stop stops)=(O (x.stop<0)||decide (x.stop>=stops)):=by unfold I2;grind
   rw[nJ];cases hp:sk x.a x.b ai.length with
   |true=>rfl
   |false=>
    simp only[ayi,ayS,azY,AI,OF,ayk,aq3];cases(O (x.stop<0)||decide (x.stop>=stops))with
    |true=>rfl
    |false=>
     cases hr:jQ fs x.a x.b with
     |true=>rfl
     |false=>
      have⟨i,j,hi,hj,NS,xQ⟩:=E6 x.a x.b ai hp;have xi:uW (ai.map bC.pv) x.a=U ai[i].pv:=by rw[hi,af,AT,ta NS];rfl
      have xj:uW (ai.map bC.pv) x.b=U ai[j].pv:=by rw[hj,af,AT,ta xQ];rfl
      have ti:ai[x.a.toNat]?=U ai[i]:=av
      have tj:ai[x.b.toNat]?=U ai[j]:=av
      have hci:=F1 _ (alx NS);have hcj:=F1 _ (alx xQ);have hmt:=RQ ai[i].calls ai[j].calls aa aa x.stop;have⟨n1,n2,hmp⟩:=UK ai[i].calls ai[j].calls x.stop;have nh:eY x.pv (.bool J) (seen ju.pv (l.take k))=.bool (O (x∈l.take k)):=fT R6 x _;have qX:eu x.pv (.bool Y) (seen ju.pv (l.take k))=seen ju.pv (l.take k++[x]):=hZ R6 x _;simp only[AI,OF,ayk,aq3,xi,xj,ti,tj,ab,qf,aJ,asInt,asBool,By,hmt,hmp,bY,al6,are,Nat.reduceAdd,Uz,WK,ZX,avz,nh,qX];cases mX ai[i].calls ai[j].calls x.stop with
      |false=>rfl
      |true=>
       by_cases bt:x∈l.take k
       .simp only[bt,ayk,By,aq3,AI,ax7,OF];rfl
       .simp only[bt,ayf,aq3,AI,ax7,OF];rfl
  .simp only[jc,tb,awV,OF];rfl
  grind [rounds,decide]
def akw(l:List ju)(hl:l.length<=1000)(ai:List bC)(fs:List bu)(stops:Int)(F1:∀y∈ai,y.calls.length<=40)(hf:fs.length<=maxLen)(k:Nat)(hk:k<l.length):nF [.rs 3 (l.map ju.pv),.int .i64 k,.rs 5 (ai.map bC.pv),.rs 4 (fs.map bu.pv),.int .i64 stops]=U (.int .i64 (Cj l ai fs stops k)):=by
 have hm:=ax;have dC:1000<=maxLen:=bj
 simp only[nF,yC,aJ,asInt,asBool,By,ab,af,AT,ta hk,IN,Zv,Zw,Zx,akr,aen fs hf,te,aG,bW,dQ];unfold Cj;rw[ta hk];simp only;generalize hx:l[k]=x;have hpb:(!I2 x.a (ai.length:Int)|| !I2 x.b (ai.length:Int)||decide (x.a=x.b))=sk x.a x.b ai.length:=rfl;have hpr:(xo fs x.a||xo fs x.b)=jQ fs x.a x.b:=rfl;rw[hpb,hpr];cases hp:sk x.a x.b ai.length with
 |true=>rfl
 |false=>
  cases hs:I2 x.stop stops with
  |false=>rfl
  |true=>
   cases hr:jQ fs x.a x.b with
   |true=>rfl
   |false=>
    have⟨i,j,hi,hj,NS,xQ⟩:=E6 x.a x.b ai hp;have xi:uW (ai.map bC.pv) x.a=U ai[i].pv:=by rw[hi,af,AT,ta NS];rfl
    have xj:uW (ai.map bC.pv) x.b=U ai[j].pv:=by rw[hj,af,AT,ta xQ];rfl
    have ti:ai[x.a.toNat]?=U ai[i]:=av
    have tj:ai[x.b.toNat]?=U ai[j]:=av
    have hci:=F1 _ (alx NS);have hcj:=F1 _ (alx xQ);have hmt:=Uy ai[i].calls ai[j].calls aa aa x.stop;have⟨n1,n2,hmp⟩:=UK ai[i].calls ai[j].calls x.stop;simp only[aq3,ayT,AI,OF,xi,xj,ti,tj,ab,qf,aJ,asInt,asBool,By,hmt,hmp,bY,al6,are,Nat.reduceAdd,Uz,WK];cases mX ai[i].calls ai[j].calls x.stop with
    |false=>rfl
    |true=>
     simp only[aq3,AI,ax7,OF];refine(dG (λj=>(l.map ju.pv,(k:Int),(j:Int),PV.int .i64 x.a,PV.int .i64 x.b,PV.int .i64 x.stop,())) k (λj=>O (l[j]?=U x)) (no:=U (.int .i64 6)) (fin:=U (.int .i64 0)) (λj hj rec=>?_) (λrec=>?_) ?_ rfl).trans ?_
     .have h1:(j:Int)<(k:Int):=aa
      have xQ:j<l.length:=aa
      have xS:cz [PV.int .i64 l[j].a,.int .i64 l[j].b,.int .i64 l[j].stop] [.int .i64 x.a,.int .i64 x.b,.int .i64 x.stop]=O (l[j]=x):=R6 l[j] x;simp only[rR,tb,h1,By,af,AT,ta xQ,IN,ab,Zv,Zw,Zx,ZX,aBt,xS,ag (aa:j<9223372036854775807),tc]
     .simp[rR,tb,awV,OF]
     .grind [rounds,decide]
     .rw[jR l k aa];grind
def akx(l:List ju)(ai:List bC)(fs:List bu)(stops:Int)(F1:∀y∈ai,y.calls.length<=40)(hf:fs.length<=maxLen):gQ [.rs 3 (l.map ju.pv),.rs 5 (ai.map bC.pv),.rs 4 (fs.map bu.pv),.int .i64 stops]=U (res (nC l ai fs stops).1 (nC l ai fs stops).2):=by
 have hm:=ax;simp only[gQ,mW,aJ,asInt,By,ab,te];unfold nC;by_cases kh:l.length>128
 .rw[BY ah,BY kh];rfl
 .rw[IT ah,IT kh,<-dr];refine aC (λk=>(l.map ju.pv,ai.map bC.pv,fs.map bu.pv,stops,(k:Int),())) l.length _ (λk hk rec=>?_) (λrec=>?_) ?_ rfl
  .have h1:(k:Int)<(l.length:Int):=aa
   simp only[kx,tb,te,h1,By,akw l aa ai fs stops F1 hf k hk,ab,asInt,ag (aa:k<9223372036854775807),dQ];grind [Cj,Hc,bN,res]
  .simp only[kx,tb,te,awV,OF];rfl
  grind [rounds,decide]
def Cg(T:aw):Nat->Int×Int
 |0=>gk T.stops
 |1=>eC T.ak
 |2=>Ic T.eN
 |3=>Ie T.pC T.eN.length
 |4=>qC T.ai T.stops.length T.ak.length T.eN.length
 |5=>wG T.br T.ai
 |6=>tB T.df T.ai T.br
 |7=>nC T.cm T.ai T.br T.stops.length
 |8=>oI T.paths T.stops.length
 |_=>du T.aF T.aZ T.within T.cap
def tx(p i e:Int):PV:=.b8 [.int .i64 p,.int .i64 i,.int .i64 e]
def Ch(T:aw)(p:Nat):Option (Option PV):=if(Cg T p).2=0 then Z else U (U (tx p (Cg T p).1 (Cg T p).2))
def VM(T:aw):asAgg 13 T.pv=U ():=rfl
def VN(T:aw):cell T.pv 0=.rs 4 (T.stops.map Stop.pv):=rfl
def VO(T:aw):cell T.pv 1=.rs 3 (T.ak.map aD.pv):=rfl
def VP(T:aw):cell T.pv 2=.rs 10 (T.eN.map sE.pv):=rfl
def VQ(T:aw):cell T.pv 3=.rs 3 (T.pC.map xW.pv):=rfl
def VR(T:aw):cell T.pv 4=.rs 5 (T.ai.map bC.pv):=rfl
def VS(T:aw):cell T.pv 5=.rs 4 (T.br.map bu.pv):=rfl
def VT(T:aw):cell T.pv 6=.rs 2 (T.df.map jt.pv):=rfl
def VU(T:aw):cell T.pv 7=.rs 3 (T.cm.map ju.pv):=rfl
def VV(T:aw):cell T.pv 8=.rs 4 (T.paths.map Path.pv):=rfl
def VW(T:aw):cell T.pv 9=.rs 6 (T.aF.map bd.pv):=rfl
def E0(T:aw):cell T.pv 10=.int .i64 T.aZ:=rfl
def E1(T:aw):cell T.pv 11=.int .i64 T.within:=rfl
def E2(T:aw):cell T.pv 12=.int .i64 T.cap:=rfl
def ttF(l:List bd)(a b c:Int):PV.agg [.rs 6 (l.map bd.pv),.int .i64 a,.int .i64 b,.int .i64 c]=zi l a b c:=rfl
def Z8(T:aw):PV.agg [.rs 4 (T.stops.map Stop.pv),.rs 3 (T.ak.map aD.pv),.rs 10 (T.eN.map sE.pv),.rs 3 (T.pC.map xW.pv),.rs 5 (T.ai.map bC.pv),.rs 4 (T.br.map bu.pv),.rs 2 (T.df.map jt.pv),.rs 3 (T.cm.map ju.pv),.rs 4 (T.paths.map Path.pv),.rs 6 (T.aF.map bd.pv),.int .i64 T.aZ,.int .i64 T.within,.int .i64 T.cap]=T.pv:=rfl
def Small(T:aw):Prop:=∀y∈T.ai,y.calls.length<=40
def aky(T:aw)(hT:T.Ok)(hs:Small T)(p:Nat)(hp:p<10):zF [T.pv,.int .i64 p]=U (res (Cg T p).1 (Cg T p).2):=by
 have h0:=akg T.stops hT.stops;have h1:=agx T.ak hT.ak;have h2:=amx T.eN hT.eN;have h3:=amy T.pC T.eN.length hT.pC;have h4:=akk T.ai T.stops.length T.ak.length T.eN.length hT.ai;have h5:=ako T.br T.ai hT.ai hs hT.br.1;have h6:=amF T.df T.ai T.br hT.ai hT.br.1;have h7:=akx T.cm T.ai T.br T.stops.length hs hT.br.1;have h8:=Ym T.paths T.stops.length hT.paths.1;have h9:=acx T.aF T.aZ T.within T.cap hT.aF;simp only[res]at h0 h1 h2 h3 h4 h5 h6 h7 h8 h9;simp only[zF,Kk,VM,VN,VO,VP,VQ,VR,VS,VT,VU,VV,VW,E0,E1,E2,aJ,asInt,By,ab,te,ttF,h0,h1,h2,h3,h4,h5,h6,h7,h8,h9,bY,al6,are,Nat.reduceAdd,Uz,WK];match p,hp with
 |0,_=>rfl
 |1,_=>rfl
 |2,_=>rfl
 |3,_=>rfl
 |4,_=>rfl
 |5,_=>rfl
 |6,_=>rfl
 |7,_=>rfl
 |8,_=>rfl
 |9,_=>rfl
def T3(T:aw)(hT:T.Ok)(hs:Small T):mN [T.pv]=bN ((I 10).findSome? (Ch T)) (U (tx 0 0 0)):=by
 simp only[mN,HR,VM,VN,VO,VP,VQ,VR,VS,VT,VU,VV,VW,E0,E1,E2,aJ,asInt,By,ab];refine aC (λk=>((k:Int),T.stops.map Stop.pv,T.ak.map aD.pv,T.eN.map sE.pv,T.pC.map xW.pv,T.ai.map bC.pv,T.br.map bu.pv,T.df.map jt.pv,T.cm.map ju.pv,T.paths.map Path.pv,T.aF.map bd.pv,T.aZ,T.within,T.cap,())) 10 _ (λk hk rec=>?_) (λrec=>?_) ?_ rfl
 .have h1:(k:Int)<10:=aa
  have hp:=aky T hT hs k hk;simp only[res]at hp;simp only[Ib,tb,h1,By,Z8,hp,ab,bY,asInt,al6,are,Nat.reduceAdd,Uz,WK,dQ,ag (aa:k<9223372036854775807),Ch];grind [Cg,bN,tx]
 .rfl
 decide
def QS(T:aw)(hT:T.Ok)(hs:Small T):fg [T.pv]=bN ((I 10).findSome? (Ch T)) (U (tx 0 0 0)):=by
 have h0:=Ua T.stops hT.stops;have h1:=Q3 T.ak hT.ak;have h2:=akh T.eN hT.eN;have h3:=aki T.pC T.eN.length hT.pC;have h4:=agA T.ai T.stops.length T.ak.length T.eN.length hT.ai;have h5:=agG T.br T.ai hT.ai hs hT.br.1;have h6:=aks T.df T.ai T.br hT.ai hT.br.1;have h7:=agJ T.cm T.ai T.br T.stops.length hT.ai hs hT.br.1;have h8:=T2 T.paths T.stops.length hT.paths.1;have h9:=Q4 T.aF T.aZ T.within T.cap hT.aF;simp only[res]at h0 h1 h2 h3 h4 h5 h6 h7 h8 h9;have w1:C .i64 (0+1)=1:=bm
 have w2:C .i64 (1+1)=2:=bm
 have w3:C .i64 (2+1)=3:=bm
 have w4:C .i64 (3+1)=4:=bm
 have w5:C .i64 (4+1)=5:=bm
 have w6:C .i64 (5+1)=6:=bm
 have w7:C .i64 (6+1)=7:=bm
 have w8:C .i64 (7+1)=8:=bm
 have w9:C .i64 (8+1)=9:=bm
 simp only[fg,yB,kL,sU,kM,sZ,kN,sV,kO,s7,kP,sW,kQ,sY,kR,sX,kS,s8,kT,sR,jX,re,VM,VN,VO,VP,VQ,VR,VS,VT,VU,VV,VW,E0,E1,E2,aJ,asInt,By,ab,te,ttF,h0,h1,h2,h3,h4,h5,h6,h7,h8,h9,bY,al6,are,Nat.reduceAdd,Uz,WK,w1,w2,w3,w4,w5,w6,w7,w8,w9,dQ];have hr:I 10=[0,1,2,3,4,5,6,7,8,9]:=bm
 rw[hr];simp only[ay5,aAK,Ch,Cg,tx];generalize gk T.stops=r0;generalize eC T.ak=r1;generalize Ic T.eN=r2;generalize Ie T.pC T.eN.length=r3;generalize qC T.ai T.stops.length T.ak.length T.eN.length=r4;generalize wG T.br T.ai=r5;generalize tB T.df T.ai T.br=r6;generalize nC T.cm T.ai T.br T.stops.length=r7;generalize oI T.paths T.stops.length=r8;generalize du T.aF T.aZ T.within T.cap=r9;by_cases e0:r0.2=0;rotate_left
 .simp[e0,bN]
 by_cases e1:r1.2=0;rotate_left
 .simp[e0,e1,bN]
 by_cases e2:r2.2=0;rotate_left
 .simp[e0,e1,e2,bN]
 by_cases e3:r3.2=0;rotate_left
 .simp[e0,e1,e2,e3,bN]
 by_cases e4:r4.2=0;rotate_left
 .simp[e0,e1,e2,e3,e4,bN]
 by_cases e5:r5.2=0;rotate_left
 .simp[e0,e1,e2,e3,e4,e5,bN]
 by_cases e6:r6.2=0;rotate_left
 .simp_all[bN]
 by_cases e7:r7.2=0;rotate_left
 .simp_all[bN]
 by_cases e8:r8.2=0;rotate_left
 .simp_all[bN]
 by_cases e9:r9.2=0;rotate_left
 .simp_all[bN]
 simp_all[bN]
end Go.Ab.Tt
namespace Go.Ab.Tt
def oJ(d:Int):Bool:=O (0<=d)&&O (d<=36524)
def B8(d:Int):dh [.int .i64 d]=U (.bool (oJ d)):=by simp only[dh,AX,asInt,By,ab,bh,oJ]
def Zd(d:Int):lE [.int .i64 d]=U (.bool (oJ d)):=by simp only[lE,A7,asInt,By,ab,bh,oJ,ge_iff_le]
theorem xn(d:Int):oJ d=Y↔0<=d/\d<=36524:=by simp[oJ]
set_option maxRecDepth 100000
def auu(x:xW):cell x.pv 2=.bool x.added:=rfl
def wkT(c:sE)(w:Int):Bool:=if w=0 then c.w0 else if w=1 then c.w1 else if w=2 then c.w2 else if w=3 then c.w3 else if w=4 then c.w4 else if w=5 then c.w5 else c.w6
def Kr(i d:Int)(e:xW):Bool:=O (e.Dd=i)&&O (e.day=d)
def Ry(c:sE)(xs:List xW)(i d:Int):Int:=match xs.find? (Kr i d)with
 |some e=>if e.added=Y then 2 else 3
 |none=>if(O (d<c.Ge)||decide (d>c.Gf))=Y then 5 else if wkT c ((d+5).tmod 7)=Y then 1 else 4
def IL(cs:List sE)(xs:List xW)(i d:Int):Int:=if oJ d=J then 0 else if i<0 then 0 else match cs[i.toNat]? with
 |some c=>Ry c xs i d
 |none=>0
def Rz(d:Int):eX [.int .i64 d]=U (.bool (oJ d)):=by simp only[eX,B5,asInt,By,ab,bh,oJ,ge_iff_le]
def Pb(d:Int)(h:oJ d=Y):C .i64 (d+5)=d+5/\0<=(d+5).tmod 7/\(d+5).tmod 7<7:=by unfold oJ at h;simp only[T1,tb]at h;grind [bJ,Int.tmod_eq_emod_of_nonneg]
def WB(d:Int)(h:oJ d=Y):uo [.int .i64 d]=U (.b8 [.int .i64 ((d+5).tmod 7),.bool Y]):=by have⟨h1,_⟩:=Pb d h;simp only[uo,Fi,asInt,By,ab,B8,asBool,h,aq3,AI,OF,h1]
def Ze(d:Int)(h:oJ d=Y):qM [.int .i64 d]=U (.b8 [.int .i64 ((d+5).tmod 7),.bool Y]):=by have⟨h1,_⟩:=Pb d h;simp only[qM,C8,asInt,By,ab,Rz,asBool,h,aq3,AI,OF,h1]
def alX(c:sE)(w:Int)(h0:0<=w)(h7:w<7)(k:Bool->Option PV):(if aU w 7/\0<1 then[cell c.pv 0,cell c.pv 1,cell c.pv 2,cell c.pv 3,cell c.pv 4,cell c.pv 5,cell c.pv 6,cell c.pv 7,cell c.pv 8,cell c.pv 9][1+w.toNat*1]?.bind λp=>(asBool p).bind k else Z)=k (wkT c w):=by
 rw[BY ⟨⟨h0,h7⟩,aa⟩];have:w=0\/w=1\/w=2\/w=3\/w=4\/w=5\/w=6:=aa
 rcases this with rfl|rfl|rfl|rfl|rfl|rfl|rfl<;>rfl
def aqV(c:sE)(w:Int)(h0:0<=w)(h7:w<7)(k:Bool->Option PV):(if aU w 7/\0<1 then(List.drop (w.toNat*1) [cell c.pv 1,cell c.pv 2,cell c.pv 3,cell c.pv 4,cell c.pv 5,cell c.pv 6,cell c.pv 7,cell c.pv 8,cell c.pv 9]).head?.bind λp=>(asBool p).bind k else Z)=k (wkT c w):=by
 rw[BY ⟨⟨h0,h7⟩,aa⟩];have:w=0\/w=1\/w=2\/w=3\/w=4\/w=5\/w=6:=aa
 rcases this with rfl|rfl|rfl|rfl|rfl|rfl|rfl<;>rfl
def RA{A:Type}(p:A->Bool)(g:A->Option PV)(l:List A)(fin:Option PV):bN ((I l.length).findSome? λk=>(l[k]?).bind λx=>if p x=Y then U (g x)else Z) fin=match l.find? p with|some x=>g x|none=>fin:=by rw[Ng];cases l.find? p<;>rfl
def Zf(cs:List sE)(hc:cs.length<=maxLen)(xs:List xW)(hx:xs.length<=maxLen)(i d:Int):ny [.rs 10 (cs.map sE.pv),.rs 3 (xs.map xW.pv),.int .i64 i,.int .i64 d]=U (.int .i64 (IL cs xs i d)):=by
 have hm:=ax;simp only[ny,yr,aJ,asInt,By,ab,aG,B8,asBool,te];unfold IL;by_cases hi:i<0
 .simp_all
 by_cases hn:i>=(cs.length:Int)
 .simp_all
 simp only[hi,hn,ayf,ayT,cond_false,ab];cases hd:oJ d with
 |false=>rfl
 |true=>
  obtain⟨n,rfl⟩:∃n:Nat,i=n:=⟨i.toNat,aa⟩;have bX:n<cs.length:=aa
  have⟨w1,w2,w3⟩:=Pb d hd;simp only[Bool.or_self,aq3,AI,OF,af,AT,ta bX,IN,ab,ax7,anj];generalize cs[n]=c;refine(aC (λk=>((n:Int),d,5,xs.map xW.pv,(xs.length:Int),(k:Int),cell c.pv 0,cell c.pv 1,cell c.pv 2,cell c.pv 3,cell c.pv 4,cell c.pv 5,cell c.pv 6,cell c.pv 7,cell c.pv 8,cell c.pv 9,())) xs.length (λk=>(xs[k]?).bind λx=>if Kr n d x=Y then U (U (.int .i64 (if x.added=Y then 2 else 3)))else Z) (fin:=U (.int .i64 (if(O (d<c.Ge)||decide (d>c.Gf))=Y then 5 else if wkT c ((d+5).tmod 7)=Y then 1 else 4))) (λk hk rec=>?_) (λrec=>?_) ?_ rfl).trans ?_
  .have h1:(k:Int)<(xs.length:Int):=aa
   simp only[rL,tb,h1,By,af,AT,ta hk,IN,ab,ajz,ajA,auu,asInt,asBool,aG,ag (aa:k<9223372036854775807),dQ];unfold Kr;generalize xs[k]=x;by_cases e1:x.Dd=n<;>by_cases e2:x.day=d<;>simp[e1,e2,bN];cases x.added<;>rfl
  .have hw:=alX c ((d+5).tmod 7) w2 w3 (λb=>if b=Y then U (PV.int .i64 1)else U (PV.int .i64 4));simp only[rL,tb,awV,OF,af3,af4,asInt,By,ab,WB d hd,bY,al6,are,Nat.reduceAdd,Uz,WK,asBool,show((5:Int)==3)=J from rfl,cond_false,aG];simp only[af3,af4,asBool]at hw;grind
  .have:=aP;omega
  .rw[RA (Kr n d) (λx=>U (.int .i64 (if x.added=Y then 2 else 3)))];unfold Ry;grind
def abZ(cs:List sE)(hc:cs.length<=maxLen)(xs:List xW)(hx:xs.length<=maxLen)(i d:Int):uq [.rs 10 (cs.map sE.pv),.rs 3 (xs.map xW.pv),.int .i64 i,.int .i64 d]=U (.int .i64 (IL cs xs i d)):=by
 have hm:=ax;simp only[uq,Fm,aJ,asInt,By,ab,aG,Rz,asBool,te];unfold IL;by_cases hi:i<0
 .simp_all
 by_cases hn:i>=(cs.length:Int)
 .simp_all
 simp only[hi,hn,ayf,ayT,cond_false,ab];cases hd:oJ d with
 |false=>rfl
 |true=>
  obtain⟨n,rfl⟩:∃n:Nat,i=n:=⟨i.toNat,aa⟩;have bX:n<cs.length:=aa
  have⟨w1,w2,w3⟩:=Pb d hd;simp only[Bool.or_self,aq3,AI,OF,ta bX,ax7,anj];refine(aC (λk=>(cs.map sE.pv,xs.map xW.pv,(n:Int),d,(k:Int),())) xs.length (λk=>(xs[k]?).bind λx=>if Kr n d x=Y then U (U (.int .i64 (if x.added=Y then 2 else 3)))else Z) (fin:=U (.int .i64 (if(O (d<cs[n].Ge)||decide (d>cs[n].Gf))=Y then 5 else if wkT cs[n] ((d+5).tmod 7)=Y then 1 else 4))) (λk hk rec=>?_) (λrec=>?_) ?_ rfl).trans ?_
  .have h1:(k:Int)<(xs.length:Int):=aa
   simp only[yG,tb,te,h1,By,af,AT,ta hk,IN,ab,ajz,ajA,auu,asInt,asBool,bh,ag (aa:k<9223372036854775807),bW];unfold Kr;generalize xs[k]=x;by_cases e1:x.Dd=n<;>by_cases e2:x.day=d<;>simp[e1,e2,bN];cases x.added<;>rfl
  .have hw:=aqV cs[n] ((d+5).tmod 7) w2 w3 (λb=>if b=Y then U (PV.int .i64 1)else U (PV.int .i64 4));simp only[yG,tb,te,awV,OF,af,AT,ta bX,IN,af3,af4,asInt,By,ab,Ze d hd,bY,al6,are,Nat.reduceAdd,Uz,WK,asBool,aG];simp only[af3,af4,asBool]at hw;grind
  .have:=aP;omega
  .rw[RA (Kr n d) (λx=>U (.int .i64 (if x.added=Y then 2 else 3)))];unfold Ry;grind
def B9(cs:List sE)(xs:List xW)(i d:Int):Bool:=O (IL cs xs i d=1)||decide (IL cs xs i d=2)
def Oq(cs:List sE)(hc:cs.length<=maxLen)(xs:List xW)(hx:xs.length<=maxLen)(i d:Int):jZ [.rs 10 (cs.map sE.pv),.rs 3 (xs.map xW.pv),.int .i64 i,.int .i64 d]=U (.bool (B9 cs xs i d)):=by simp only[jZ,yt,aJ,asInt,By,ab,Zf cs hc xs hx,aG,bW,B9]
def ab0(cs:List sE)(hc:cs.length<=maxLen)(xs:List xW)(hx:xs.length<=maxLen)(i d:Int):ur [.rs 10 (cs.map sE.pv),.rs 3 (xs.map xW.pv),.int .i64 i,.int .i64 d]=U (.bool (B9 cs xs i d)):=by simp only[ur,Fo,aJ,asInt,By,ab,abZ cs hc xs hx,aG,bW,B9]
def Bb(t:Int)(l:List Int):Nat->Nat
 |0=>0
 |k+1=>if l.getD k 0>t then Bb t l k else k+1
def zp(t:Int)(l:List Int):List Int:=l.take (Bb t l l.length)++t::l.drop (Bb t l l.length)
theorem Pc(t:Int)(l:List Int):∀k,Bb t l k<=k
 |0=>ayd _
 |k+1=>by
  unfold Bb;split
  .simp[Nat.le_succ_of_le,Pc]
  omega
theorem ajB(t:Int)(l:List Int):(zp t l).length=l.length+1:=by grind [Pc,zp]
theorem ajC(t x:Int)(l:List Int):x∈zp t l↔x=t\/x∈l:=by grind [zp,Bb,List.take_append_drop]
def EY(by':Int)(k:ar):ar:={k with arr:=C .i64 (k.arr+by'),dep:=C .i64 (k.dep+by')}
def jw(day:Int):Int:=C .i64 (day*86400)
def cK(x:bC)(i day k:Int)(cs:List ar):aW:=⟨i,day,k,x.id,x.bn,x.free,J,cs.map (EY (jw day))⟩
def fM(f:bu):List Int:=if eD f=Y then(I (dV f).toNat).map λ(j:Nat)=>f.t0+(j:Int)*f.every else[]
def instF(l:List Int)(f:bu):List Int:=(fM f).foldl (λl t=>zp t l) l
def instI(fs:List bu)(i:Int):List Int:=(fs.filter λf=>O (f.bg=i)).foldl instF []
def bF(l:List ar)(s:Int):List ar:=if pI l s=0 then l.map λk=>ML k ((l.map ar.dep).headD 0) s else[]
def eO(T:aw)(i:Nat)(x:bC)(day:Int):List aW:=
 if B9 T.eN T.pC x.Dd day=J then[]else
 if xo T.br i=J then[cK x i day 0 x.calls]else
 (I (instI T.br i).length).map λ(k:Nat)=>cK x i day k (bF x.calls ((instI T.br i).getD k 0))
def dR(T:aw)(day:Int)(i:Nat):List aW:=match T.ai[i]? with
 |some x=>eO T i x day
 |none=>[]
def eo(T:aw)(day:Int):List aW:=(I T.ai.length).flatMap (dR T day)
def bQ(T:aw)(day:Int)(n:Nat):List aW:=(I n).flatMap λ(d:Nat)=>eo T (day+d)
variable{T:aw}{day:Int}{r:aW}
theorem WC{i:Nat}{x:bC}(h:r∈eO T i x day):∃(k:Nat)(cs:List ar),r=cK x i day k cs:=by
 unfold eO at h;split at h
 .cases h
 .split at h
  .exact⟨0,_,by simpa using h⟩
  grind
def at_mem{i:Nat}(h:r∈dR T day i):∃(x:bC)(k:Nat)(cs:List ar),T.ai[i]?=U x/\r=cK x i day k cs:=by grind [dR,WC]
def aW.key(r:aW):Int×Int×Int:=(r.bg,r.day,r.inst)
def SF(T:aw)(i:Nat)(x:bC)(day:Int):(eO T i x day).Pairwise λr s=>r.inst≠s.inst:=by
 unfold eO;split
 .simp
 grind [List.Pairwise.imp_of_mem,List.nodup_range,cK]
def alY(T:aw)(day:Int)(i:Nat):(dR T day i).Pairwise λr s=>r.inst≠s.inst:=by
 unfold dR;split
 .exact SF ..
 simp
def WD(T:aw)(day:Int):(eo T day).Pairwise λr s=>r.key≠s.key:=by unfold eo;rw[aze];refine⟨λi _=>(alY T day i).imp λh e=>h (congrArg (λk=>k.2.2) e),?_⟩;refine ayY (R:=λa b=>a≠b) (λ{a b}_ _ h r hr s hs e=>?_) aAe;obtain⟨x,k,cs,_,rfl⟩:=at_mem hr;obtain⟨y,k',R9,_,rfl⟩:=at_mem hs;grind [aW.key,cK,Prod.mk.injEq]
def HX(h:r∈eo T day):r.day=day:=by have⟨i,_,hr⟩:=ayG.1 h;obtain⟨x,k,cs,_,rfl⟩:=at_mem hr;rfl
def Jp(T:aw)(day:Int)(n:Nat):(bQ T day n).Pairwise λr s=>r.key≠s.key:=by unfold bQ;rw[aze];refine⟨λd _=>WD T _,?_⟩;refine ayY (R:=λa b=>a≠b) (λ{a b}_ _ h r hr s hs e=>?_) aAe;have h1:=HX hr;have h2:=HX hs;have:r.day=s.day:=congrArg (λk=>k.2.1) e;omega
theorem O4:r∈eo T day↔∃(i:Nat)(x:bC),T.ai[i]?=U x/\r.bg=i/\r∈eO T i x day:=by
 unfold eo;rw[ayG];constructor
 .rintro⟨i,hi,hr⟩;obtain⟨x,k,cs,hx,e⟩:=at_mem hr;unfold dR at hr;rw[hx]at hr;exact⟨i,x,hx,by rw[e];rfl,hr⟩
 .rintro⟨i,x,hx,_,hr⟩;refine⟨i,ayB.2 (No.1 hx).1,?_⟩;simp_all[dR]
def dy(l:List Int)(d:Int)(k:Nat):List Int:=l.take k++d::l.drop k
def xv(l:List Int)(d:Int)(k:Nat)(h:k<=l.length):(dy l d k).length=l.length+1:=by simp[dy];omega
def Ca(l:List Int)(d:Int)(k j:Nat)(h:k<=l.length)(hj:j<k):(dy l d k)[j]?=l[j]?:=by simp_all[dy,azb,azr]
def Bc(l:List Int)(d:Int)(k:Nat)(h:k<=l.length):(dy l d k)[k]?=U d:=by simp_all[dy,ay7,ay2]
def Cb(l:List Int)(d x:Int)(k:Nat)(h:k<=l.length):(dy l d k).set k x=dy l x k:=by simp_all[dy,List.set_append,ay2]
def LF(l:List Int)(k:Nat)(h:k<l.length):dy l l[k] (k+1)=dy l l[k] k:=by unfold dy;rw[awT h,ayA h,ayt];rfl
def WE(t:Int)(l:List Int):∀n k,Bb t l n<=k->k<n->l.getD k 0>t
 |0,k,_,h=>absurd h aa
 |n+1,k,h1,h2=>by
  unfold Bb at h1;split at h1
  .rename_i hg;by_cases e:k=n
   .subst e;omega
   .exact WE t l n k h1 aa
  omega
def Nh(t:Int)(l:List Int):∀n,Bb t l n=0\/∃k,Bb t l n=k+1/\¬l.getD k 0>t
 |0=>.inl rfl
 |n+1=>by
  unfold Bb;split
  .exact Nh t l n
  simp_all
def shD(t:Int)(l:List Int)(k:Nat):Int:=if k=l.length then t else l.getD k 0
def zq(l:List Int)(k:Nat):(l.map iv)[k]?=l[k]?.map iv:=AT ..
theorem Pd(l:List Int)(k:Nat)(x:Int):(l.map iv).set k (.int .i64 x)=(l.set k x).map iv:=by rw[azx];rfl
def Eb(k:Nat)(h:k+1<=9223372036854775807):C .i64 (((k+1:Nat):Int)-1)=(k:Int):=sH
def HY(l:List Int)(k:Nat)(h:k<l.length):l.getD k 0=l[k]:=av
def ab1(LG)(t tr len i:Int)(es:List PV)(c0 c1 c2:PV)(ev:Int)(l:List Int)(hl:l.length<4611686018427387904):cD.run (ff LG) (t,(l.length:Int),t,tr,es,len,i,c0,c1,c2,.int .i64 ev,(l++[t]).map iv,())=LG (C .i64 (t+ev),tr,es,len,i,c0,c1,c2,.int .i64 ev,(zp t l).map iv,()):=by
 have hp:=Pc t l l.length;refine aM (λj=>(t,((l.length-j:Nat):Int),t,tr,es,len,i,c0,c1,c2,.int .i64 ev,(dy l (shD t l (l.length-j)) (l.length-j)).map iv,())) (l.length-Bb t l l.length) (λj hj rec=>?_) (λrec=>?_) ?_ ?_
 .obtain⟨k,hk⟩:∃k,l.length-j=k+1:=⟨l.length-j-1,aa⟩;have jK:k<l.length:=aa
  have hgt:l[k]>t:=by have:=WE t l l.length k aa jK;simp_all
  have hlen:=xv l (shD t l (k+1)) (k+1) aa;have abL:=Ca l (shD t l (k+1)) (k+1) k aa aa;have O1:=Bc l (shD t l (k+1)) (k+1) aa;have hd:shD t l k=l[k]:=by unfold shD;grind
  have xP:=Cb l (shD t l (k+1)) l[k] (k+1) aa;rw[LF l k jK]at xP;have e2:l.length-(j+1)=k:=aa
  have r1:aU (k:Int) (l.length+1):=gF _ _ aa;have r2:aU ((k+1:Nat):Int) (l.length+1):=gF _ _ aa;simp only[hk,e2];simp only[ff,show O (((k+1:Nat):Int)>0)=Y by simp,cond_true,Eb k aa,te,hlen,BY r1,BY r2,anj,zq,abL,ta jK,IN,ab,iv,cell,PV.cells,Uz,asInt,By,show O (l[k]>t)=Y by simpa using hgt,O1];rw[Pd,xP,hd]
 .have e0:l.length-(l.length-Bb t l l.length)=Bb t l l.length:=aa
  simp only[e0];generalize hpp:Bb t l l.length=p at*;have hlen:=xv l (shD t l p) p hp;have O1:=Bc l (shD t l p) p hp;have xP:=Cb l (shD t l p) t p hp;have r1:aU (p:Int) (l.length+1):=gF _ _ aa;have JS:(zp t l).map iv=((dy l (shD t l p) p).map iv).set p (.int .i64 t):=by grind [Pd,zp,dy]
  rw[JS];have stop:Bb t l l.length=0\/∃k,Bb t l l.length=k+1/\¬l.getD k 0>t:=Nh t l l.length;rw[hpp]at stop;rcases stop with h0|⟨k,hk,hng⟩
  .subst h0;have r1':aU (0:Int) (l.length+1):=r1;have awN:(List.map iv (dy l (shD t l 0) 0))[(0:Int).toNat]?=U (iv (shD t l 0)):=bm
   simp only[ff,Int.natCast_zero,show O ((0:Int)>0)=J from rfl,cond_false,ab,AI,OF,te,hlen,BY r1',awN,asInt,By];rfl
  .subst hk;have jK:k<l.length:=aa
   rw[HY l k jK]at hng;have abL:=Ca l (shD t l (k+1)) (k+1) k aa aa;have r0:aU (k:Int) (l.length+1):=gF _ _ aa;simp only[ff,show O (((k+1:Nat):Int)>0)=Y by simp,cond_true,Eb k aa,te,hlen,BY r0,BY r1,anj,zq,abL,ta jK,IN,ab,iv,cell,PV.cells,Uz,asInt,By,show O (l[k]>t)=J by simpa using hng,AI,OF,O1]
 .grind [aP,maxLen,decide]
 .simp[dy,shD]
def mK(x:bu)(h:eD x=Y):fM x=(I (dV x).toNat).map λ(j:Nat)=>x.t0+(j:Int)*x.every:=by unfold fM;rw[BY h]
def Ks(x:bu)(h:eD x=J):fM x=[]:=by simp_all[fM,IT]
def Ot(x:bu):(fM x).length<=172800:=by
 unfold fM;split
 .simp_all[uu]
 simp
def RB(s:List Int):∀l:List Int,(s.foldl (λl t=>zp t l) l).length=l.length+s.length:=by
 induction s with
 |nil=>simp
 |cons t s ih=>grind [ajB,List.length_cons]
theorem instF_len(l:List Int)(f:bu):(instF l f).length<=l.length+172800:=by simp[instF,RB,Ot]
theorem af5(fs:List bu):∀l:List Int,(fs.foldl instF l).length<=l.length+172800*fs.length:=by
 induction fs with
 |nil=>simp
 |cons f fs ih=>grind [instF,instF_len,List.length_cons]
theorem Zg(yH)(x:bu)(h:eD x=Y)(tr len i:Int)(es:List PV)(l:List Int)(hl:l.length<=1000000000):cD.run (iu cD yH) (x.t0,tr,es,len,i,.int .i64 x.bg,.int .i64 x.t0,.int .i64 x.t1,.int .i64 x.every,l.map iv,())=yH (tr,es,len,C .i64 (i+1),(instF l x).map iv,()):=by
 have hc:=uu x h;have Sw:=RC x h;have⟨h1,h2,h3,h4,h5⟩:=(gM x).1 h;have fL:∀k,k<=(dV x).toNat->((fM x).take k).length=k:=λk hk=>by rw[mK x h];simp;omega
 refine aM (λk=>(x.t0+(k:Int)*x.every,tr,es,len,i,.int .i64 x.bg,.int .i64 x.t0,.int .i64 x.t1,.int .i64 x.every,(((fM x).take k).foldl (λl t=>zp t l) l).map iv,())) (dV x).toNat (λk hk rec=>?_) (λrec=>?_) ?_ ?_
 .have Sc:(k:Int)<=dV x-1:=aa
  have Ad:(k:Int)*x.every<=(dV x-1)*x.every:=azn Sc aa;have L4:0<=(k:Int)*x.every:=aAo aa aa;have bX:x.t0+(k:Int)*x.every<x.t1:=aa
  have awO:((k+1:Nat):Int)*x.every=(k:Int)*x.every+x.every:=ao
  have hw:C .i64 (x.t0+(k:Int)*x.every+x.every)=x.t0+((k+1:Nat):Int)*x.every:=sH
  have Tx:=RB ((fM x).take k) l;rw[fL k aa]at Tx;have hs:(fM x).take (k+1)=(fM x).take k++[x.t0+(k:Int)*x.every]:=by rw[mK x h,<-azW,<-azW,List.take_range,List.take_range,ay2 aa,ay2 aa,ayP,aya];rfl
  have ve:((fM x).take (k+1)).foldl (λl t=>zp t l) l=zp (x.t0+(k:Int)*x.every) (((fM x).take k).foldl (λl t=>zp t l) l):=av
  generalize ((fM x).take k).foldl (λl t=>zp t l) l=lk at Tx ve;have bG:(lk.map iv++[PV.int .i64 (x.t0+(k:Int)*x.every)]).length*8<=au/\0<8:=(by grind [decide,List.length_append,List.length_map,List.length_cons,List.length_nil,au])
  simp only[iu,asInt,By,ab,tb,bX,BY bG,te];rw[show lk.map iv++[PV.int .i64 (x.t0+(k:Int)*x.every)]=(lk++[x.t0+(k:Int)*x.every]).map iv by simp[iv],ab1 _ _ _ _ _ _ _ _ _ _ lk aa,hw,ve]
 .have he:(((dV x).toNat:Nat):Int)*x.every=dV x*x.every:=ao
  have bX:¬x.t0+(((dV x).toNat:Nat):Int)*x.every<x.t1:=aa
  have uX:(fM x).take (dV x).toNat=fM x:=ayu (by rw[mK x h];simp);simp only[iu,asInt,By,ab,tb,IT bX,uX];rfl
 .grind [rounds,decide]
 simp
theorem Ni{A:Type}(p:A->Bool)(l:List A)(k:Nat)(h:k<l.length):(l.take (k+1)).filter p=(l.take k).filter p++if p l[k]=Y then[l[k]]else[]:=by rw[awT h,azJ];grind
def instK(fs:List bu)(i:Int)(k:Nat):List Int:=((fs.take k).filter λf=>O (f.bg=i)).foldl instF []
def instK_len(fs:List bu)(i:Int)(k:Nat)(hf:fs.length<=1000):(instK fs i k).length<=172800000:=by grind [instK,af5,decide,Nat.le_trans,List.length_filter_le,List.length_nil]
def instK_succ(fs:List bu)(i:Int)(k:Nat)(h:k<fs.length):instK fs i (k+1)=if fs[k].bg=i then instF (instK fs i k) fs[k]else instK fs i k:=by grind [instK,Ni]
def instF_un(l:List Int)(f:bu)(h:eD f=J):instF l f=l:=by unfold instF;rw[Ks f h];rfl
def instI_K(fs:List bu)(i:Int):instI fs i=instK fs i fs.length:=by unfold instI instK;simp
def Uu(fs:List bu)(hf:fs.length<=1000)(i:Int):fQ [.rs 4 (fs.map bu.pv),.int .i64 i]=U (.rs 1 ((instI fs i).map iv)):=by
 simp only[fQ,pG,aJ,asInt,By,ab,te];rw[instI_K];refine aM (λk=>(i,fs.map bu.pv,(fs.length:Int),(k:Int),(instK fs i k).map iv,())) fs.length (λk hk rec=>?_) (λrec=>?_) ?_ ?_
 .have h1:(k:Int)<(fs.length:Int):=aa
  have hl:=instK_len fs i k hf;rw[instK_succ fs i k hk];simp only[me,tb,h1,By,af,AT,ta hk,IN,ab,uv,yR,yS,yT,asInt,dQ,F0,Ou,asBool,ag (aa:k<9223372036854775807)];by_cases e:fs[k].bg=i
  .simp only[e,ayk,aq3,AI,OF,By];cases hs:eD fs[k]with
   |false=>simp_all[ayi,By,instF_un]
   |true=>simp only[aq3,AI,OF];grind [Zg,bu.pv,instK,ag]
  simp_all
 .simp[me,tb,awV,OF]
 .grind [rounds,decide]
 rfl
def Uv(x:bC)(hx:x.Ok)(start:Int)(hs:po start)(F1:x.calls.length<=40):cZ [x.pv,.int .i64 start]=U (.b8 [.rs 5 ((bF x.calls start).map ar.pv),.int .i64 (pI x.calls start)]):=by
 have hm:=ax;have uw:∀y∈x.calls,y.Ok:=hx.calls.2;simp only[cZ,qJ,RD,vf,xw,vg,Bd,qf,bU,aJ,asInt,asBool,By,ab,te];generalize x.calls=l at F1 uw⊢;cases l with
 |nil=>rfl
 |cons c l=>
  generalize hl:c::l=cs at F1 uw⊢;have hc0:cs[0]?=U c:=by rw[<-hl];rfl
  have fa:0<cs.length:=by rw[<-hl];simp
  have hcE:pI cs start=if(I cs.length).all (jo cs c.dep start)=Y then 0 else 10:=by rw[<-hl];rfl
  have RE:c.Ok:=uw c (by rw[<-hl];simp);have cO:((cs.length:Int)==0)=false:=ao
  have hix:uW (cs.map ar.pv) 0=U c.pv:=by have:=af (cs.map ar.pv) 0;simp_all
  have bG:0<=(cs.length:Int)/\(cs.length:Int)<=(cs.length:Int)/\(cs.length:Int).toNat*32<=au/\0<32/\0<5:=by grind [decide,au]
  rw[cO,hix];simp only[AI,OF,ab,jm,asInt,By,BY bG,ayD,anj,ayu (aBs (te _)),te];rw[aA2 ae,ayF,te];have ab2:0<=(cs.length:Int)/\(cs.length:Int)<=(cs.length:Int)/\cs.length*32<=au/\0<32/\0<5:=bG;have RF:cD.run eK (start,c.dep,(cs.length:Int),0,cs.map ar.pv,())=bN ((I cs.length).findSome? λk=>if jo cs c.dep start k=Y then Z else U (U (.b8 [.rs 5 [],.int .i64 10]))) (U (.b8 [.rs 5 (Kt cs (λx=>ML x c.dep start) cs.length),.int .i64 0])):=by
   refine aC (λk=>(start,c.dep,(cs.length:Int),(k:Int),Kt cs (λx=>ML x c.dep start) k,())) cs.length _ (λk hk rec=>?_) (λrec=>?_) ?_ ?_
   .have h1:(k:Int)<(cs.length:Int):=aa
    have Aa:cs[k].Ok:=uw _ (alx hk);have⟨n1,e1,q1⟩:=LH cs[k].arr c.dep start Aa.arr RE.dep hs;have⟨n2,e2,q2⟩:=LH cs[k].dep c.dep start Aa.dep RE.dep hs;have hlen:=Zh cs (λx=>ML x c.dep start) k aa;have fG:=Zi cs (λx=>ML x c.dep start) k hk;have xP:=Zj cs (λx=>ML x c.dep start) k hk;have hr:aU (k:Int) cs.length:=gF k _ hk;have ajD:jo cs c.dep start k=(xx cs[k].arr c.dep start&&xx cs[k].dep c.dep start):=by unfold jo;rw[ta hk];rfl
    have U6:∀X,((Kt cs (λx=>ML x c.dep start) k).set k X)[k]?=U X:=λX=>av
    simp only[eK,tb,h1,By,hlen,BY hr,anj,fG,ab,nY,ni,jm,Ov,Ow,asInt,e1,e2,bY,asBool,al6,are,Nat.reduceAdd,Uz,WK,azm,U6,Zk,over,azl,ag (aa:k<9223372036854775807)];grind [xx,start,bN,ML,ar.pv]
   .simp[eK,tb,awV,OF]
   .grind [rounds,decide]
   rfl
  have hF:bF cs start=if(I cs.length).all (jo cs c.dep start)=Y then cs.map (λx=>ML x c.dep start)else[]:=by unfold bF;rw[hcE,show(cs.map ar.dep).headD 0=c.dep by rw[<-hl];rfl];simp
  rw[BY ab2,RF,ux,hcE,hF];by_cases uX:(I cs.length).all (jo cs c.dep start)=Y
  .simp_all[BY,bN,Kt,azI,azS]
  simp_all[IT,bN]
def af6(x:bC)(hx:x.Ok)(start:Int)(hs:0<=start/\start<=172800)(F1:x.calls.length<=40):iE [x.pv,.int .i64 start]=U (.b8 [.rs 5 ((bF x.calls start).map ar.pv),.int .i64 (pI x.calls start)]):=by
 have hm:=ax;have uw:∀y∈x.calls,y.Ok:=hx.calls.2;simp only[iE,B6,RD,vf,xw,vg,Bd,qf,bU,aJ,asInt,asBool,By,ab,te];generalize x.calls=l at F1 uw⊢;cases l with
 |nil=>rfl
 |cons c l=>
  generalize hl:c::l=cs at F1 uw⊢;have hc0:cs[0]?=U c:=by rw[<-hl];rfl
  have fa:0<cs.length:=by rw[<-hl];simp
  have hcE:pI cs start=if(I cs.length).all (jo cs c.dep start)=Y then 0 else 10:=by rw[<-hl];rfl
  have RE:c.Ok:=uw c (by rw[<-hl];simp);have cO:((cs.length:Int)==0)=false:=ao
  have hix:uW (cs.map ar.pv) 0=U c.pv:=by rw[show(0:Int)=((0:Nat):Int)from rfl,af,AT,hc0];rfl
  rw[cO,hix];simp only[AI,OF,ab,jm,asInt,By];have RF:cD.run (iT cD) (start,c.dep,0,x.id,x.bn,x.Dd,x.free,cs.map ar.pv,[],())=bN ((I cs.length).findSome? λk=>if jo cs c.dep start k=Y then Z else U (U (.b8 [.rs 5 [],.int .i64 10]))) (U (.b8 [.rs 5 (cs.map λx=>(ML x c.dep start).pv),.int .i64 0])):=by
   refine aC (λk=>(start,c.dep,(k:Int),x.id,x.bn,x.Dd,x.free,cs.map ar.pv,(cs.take k).map (λx=>(ML x c.dep start).pv),())) cs.length _ (λk hk rec=>?_) (λrec=>?_) ?_ rfl
   .have h1:(k:Int)<(cs.length:Int):=aa
    have Aa:cs[k].Ok:=uw _ (alx hk);have⟨n1,e1,q1⟩:=LI cs[k].arr c.dep start Aa.arr RE.dep hs;have⟨n2,e2,q2⟩:=LI cs[k].dep c.dep start Aa.dep RE.dep hs;have ajD:jo cs c.dep start k=(xx cs[k].arr c.dep start&&xx cs[k].dep c.dep start):=by unfold jo;rw[ta hk];rfl
    have bG:∀X:PV,(((cs.take k).map (λx=>(ML x c.dep start).pv))++[X]).length*32<=au/\0<32:=λX=>by refine⟨?_,aa⟩;grind [List.length_append,List.length_map,List.length_take,List.length_cons,List.length_nil,au]
    simp only[iT,tb,te,h1,By,af,AT,ta hk,IN,ab,nY,ni,jm,Ov,Ow,asInt,e1,e2,bY,asBool,al6,are,Nat.reduceAdd,Uz,WK,BY (bG _),ag (aa:k<9223372036854775807)];rw[ajD];cases hA:xx cs[k].arr c.dep start with
    |false=>rfl
    |true=>
     cases hB:xx cs[k].dep c.dep start with
     |false=>rfl
     |true=>have ht:cs.take (k+1)=cs.take k++[cs[k]]:=(azc hk).symm;rw[ht,q1 hA,q2 hB];simp only[aq3,cond_false,ab,AI,OF,azw,By,bN,aya,ayb,ay6,ML,ar.pv]
   .simp[iT,tb,te,awV,OF,ays]
   grind [rounds,decide]
  have hF:bF cs start=if(I cs.length).all (jo cs c.dep start)=Y then cs.map (λx=>ML x c.dep start)else[]:=by unfold bF;grind
  rw[RF,ux,hcE,hF];by_cases uX:(I cs.length).all (jo cs c.dep start)=Y
  .simp_all[BY,bN,Kt,azI,azS]
  simp_all[IT,bN]
theorem af7(LG)(tr i k:Int)(es s:List PV)(t:Int)(l:List Int)(hl:l.length<4611686018427387904):cD.run (mf LG) (es,tr,i,s,k,(l.length:Int),(l++[t]).map iv,())=LG (es,tr,i,s,C .i64 (k+1),(zp t l).map iv,()):=by
 have hp:=Pc t l l.length;refine aM (λj=>(es,tr,i,s,k,((l.length-j:Nat):Int),(dy l t (l.length-j)).map iv,())) (l.length-Bb t l l.length) (λj hj rec=>?_) (λrec=>?_) ?_ ?_
 .obtain⟨q,hk⟩:∃q,l.length-j=q+1:=⟨l.length-j-1,aa⟩;have jK:q<l.length:=aa
  have hgt:l[q]>t:=by have:=WE t l l.length q aa jK;simp_all
  have hlen:=xv l t (q+1) aa;have abL:=Ca l t (q+1) q aa aa;have O1:=Bc l t (q+1) aa;have xP:=Cb l t l[q] (q+1) aa;rw[LF l q jK]at xP;have ahi:=Cb l l[q] t q aa;have awP:=Bc l l[q] q aa;have auv:=xv l l[q] q aa;have e2:l.length-(j+1)=q:=aa
  have r1:aU (q:Int) (l.length+1):=gF _ _ aa;have r2:aU ((q+1:Nat):Int) (l.length+1):=gF _ _ aa;simp only[hk,e2];have hs1:((dy l t (q+1)).map iv).set (q+1) (.int .i64 l[q])=(dy l l[q] q).map iv:=by rw[Pd,xP]
  have hs2:((dy l l[q] q).map iv).set q (.int .i64 t)=(dy l t q).map iv:=by rw[Pd,ahi]
  have g1:((dy l t (q+1)).map iv)[q]?=U (iv l[q]):=av
  have g2:((dy l t (q+1)).map iv)[q+1]?=U (iv t):=by rw[zq,O1];rfl
  have g3:((dy l l[q] q).map iv)[q]?=U (iv l[q]):=by rw[zq,awP];rfl
  have ci:∀n:Int,cell (iv n) 0=.int .i64 n:=λ_=>rfl;simp only[mf,show O (((q+1:Nat):Int)>0)=Y by simp,cond_true,Eb q aa,te,hlen,BY r1,BY r2,anj,g1,g2,ab,ci,asInt,By,show O (l[q]>t)=Y by simpa using hgt,hs1,auv,g3,hs2]
 .have e0:l.length-(l.length-Bb t l l.length)=Bb t l l.length:=aa
  simp only[e0];generalize hpp:Bb t l l.length=p at*;have hlen:=xv l t p hp;have O1:=Bc l t p hp;have r1:aU (p:Int) (l.length+1):=gF _ _ aa;have JS:(zp t l).map iv=(dy l t p).map iv:=by unfold zp dy;rw[hpp]
  rw[JS];have ci:∀n:Int,cell (iv n) 0=.int .i64 n:=λ_=>rfl;have stop:Bb t l l.length=0\/∃k,Bb t l l.length=k+1/\¬l.getD k 0>t:=Nh t l l.length;rw[hpp]at stop;rcases stop with h0|⟨q,hk,hng⟩
  .subst h0;rfl
  .subst hk;have jK:q<l.length:=aa
   rw[HY l q jK]at hng;have abL:=Ca l t (q+1) q aa aa;have r0:aU (q:Int) (l.length+1):=gF _ _ aa;have g1:((dy l t (q+1)).map iv)[q]?=U (iv l[q]):=av
   have g2:((dy l t (q+1)).map iv)[q+1]?=U (iv t):=by rw[zq,O1];rfl
   simp only[mf,show O (((q+1:Nat):Int)>0)=Y by simp,cond_true,Eb q aa,te,hlen,BY r0,BY r1,anj,g1,g2,ab,ci,asInt,By,show O (l[q]>t)=J by simpa using hng,AI,OF]
 .grind [aP,maxLen,decide]
 .simp[dy]
def Zl(x:bu):iU [x.pv]=U (.rs 1 ((fM x).map iv)):=by
 cases h:eD x with
 |true=>simp_all[RG,mK,oT,iv,azS]
 |false=>rw[Ks x h];simp only[iU,zn,LJ,uv,yR,yS,yT,asInt,asBool,By,ab,F0,Fy,h,ayi,ay6]
def af8(yH)(tr i:Int)(es:List PV)(s l:List Int)(hs:s.length<=172800)(hl:l.length<=1000000000):cD.run (mh cD yH) (es,tr,i,s.map iv,0,l.map iv,())=yH (es,tr,C .i64 (i+1),(s.foldl (λl t=>zp t l) l).map iv,()):=by
 refine aM (λk=>(es,tr,i,s.map iv,(k:Int),((s.take k).foldl (λl t=>zp t l) l).map iv,())) s.length (λk hk rec=>?_) (λrec=>?_) ?_ ?_
 .have h1:(k:Int)<(s.length:Int):=aa
  have Tx:=RB (s.take k) l;rw[ayz,ay2 aa]at Tx;have ve:(s.take (k+1)).foldl (λl t=>zp t l) l=zp s[k] ((s.take k).foldl (λl t=>zp t l) l):=by rw[awT hk,aAl];rfl
  generalize (s.take k).foldl (λl t=>zp t l) l=lk at Tx ve;have ci:∀n:Int,cell (iv n) 0=.int .i64 n:=λ_=>rfl;have bG:(lk.map iv++[PV.int .i64 s[k]]).length*8<=au/\0<8:=(by grind [decide,List.length_append,List.length_map,List.length_cons,List.length_nil,au])
  simp only[mh,tb,te,h1,By,af,zq,ta hk,IN,ab,ci,asInt,BY bG];have ha:lk.map iv++[PV.int .i64 s[k]]=(lk++[s[k]]).map iv:=by simp[iv]
  have hw:C .i64 ((((lk++[s[k]]).map iv).length:Int)-1)=(lk.length:Int):=by rw[te,ax9,al6,are];exact Eb _ aa
  grind [af7,ag]
 .simp[mh,tb,te,awV,OF,ays]
 .grind [rounds,decide]
 rfl
def ajE(fs:List bu)(hf:fs.length<=1000)(i:Int):nA [.rs 4 (fs.map bu.pv),.int .i64 i]=U (.rs 1 ((instI fs i).map iv)):=by
 simp only[nA,yD,aJ,asInt,By,ab];rw[instI_K];refine aM (λk=>(fs.map bu.pv,i,(k:Int),(instK fs i k).map iv,())) fs.length (λk hk rec=>?_) (λrec=>?_) ?_ ?_
 .have h1:(k:Int)<(fs.length:Int):=aa
  have hl:=instK_len fs i k hf;rw[instK_succ fs i k hk];simp only[rM,tb,te,h1,By,af,AT,ta hk,IN,ab,uv,yR,yS,yT,asInt,dQ,F0,Zl,aJ,ag (aa:k<9223372036854775807)];by_cases e:fs[k].bg=i
  .simp only[e,ayk,aq3,AI,OF,By];have:=af8 rec i k (fs.map bu.pv) (fM fs[k]) (instK fs i k) (Ot _) aa;rw[ag (aa:k<9223372036854775807)]at this;exact this
  simp_all
 .simp[rM,tb,te,awV,OF]
 .grind [rounds,decide]
 rfl
def af9(fs:List bu)(hl:fs.length<=maxLen)(t:Int):oU [.rs 4 (fs.map bu.pv),.int .i64 t]=U (.bool (xo fs t)):=by
 have hm:=ax;simp only[oU,A6,aJ,asInt,By,ab,te];refine(dG (λk=>(fs.map bu.pv,t,(k:Int),())) fs.length (λk=>O ((fs.map bu.bg)[k]?=U t)) (no:=U (.bool Y)) (fin:=U (.bool J)) (λk hk rec=>?_) (λrec=>?_) ?_ rfl).trans ?_
 .have h1:(k:Int)<(fs.length:Int):=aa
  simp only[uy,tb,te,h1,By,af,AT,ta hk,IN,ab,uv,asInt,ag (aa:k<9223372036854775807),bW,tc]
 .simp[uy,tb,te,awV,OF]
 .have:=aP;omega
 .have h:=jR (fs.map bu.bg) fs.length ae t;grind [List.take_of_length_le,xo]
def xy{X:Type}(T:aw)(x:X):=(T.stops.map Stop.pv,T.ak.map aD.pv,T.eN.map sE.pv,T.pC.map xW.pv,T.ai.map bC.pv,T.br.map bu.pv,T.df.map jt.pv,T.cm.map ju.pv,T.paths.map Path.pv,T.aF.map bd.pv,T.aZ,T.within,T.cap,x)
structure ru(T:aw):Prop where
 ai:T.ai.length<=40
 br:T.br.length<=70
 eN:T.eN.length<=70
 pC:T.pC.length<=70
 df:T.df.length<=140
 cm:T.cm.length<=140
 small:Small T
def Fz(l:List ar)(n:Int)(hl:l.length<=1000):j3 [.rs 5 (l.map ar.pv),.int .i64 n]=U (.rs 5 ((l.map (EY n)).map ar.pv)):=by
 simp only[j3,J9,aJ,asInt,By,ab,te];refine aM (λk=>(n,l.map ar.pv,(l.length:Int),(k:Int),((l.take k).map (EY n)).map ar.pv,())) l.length (λk hk rec=>?_) (λrec=>?_) ?_ rfl
 .have h1:(k:Int)<(l.length:Int):=aa
  have bG:∀X:PV,((((l.take k).map (EY n)).map ar.pv)++[X]).length*32<=au/\0<32:=λX=>by refine⟨?_,aa⟩;grind [List.length_append,List.length_map,List.length_take,List.length_cons,List.length_nil,au]
  simp only[De,tb,h1,By,af,AT,ta hk,IN,ab,nY,ni,jm,Ov,Ow,asInt,BY (bG _),ag (aa:k<9223372036854775807)];rw[awT hk,aya,aya];rfl
 .simp[De,tb,awV,OF,ays]
 grind [rounds,decide]
def ad7(T:aw)(i:Nat)(x:bC)(hx:T.ai[i]?=U x)(day k:Int)(cs:List ar)(hc:cs.length<=1000):xz [T.pv,.int .i64 i,.int .i64 day,.int .i64 k,.rs 5 (cs.map ar.pv)]=U (cK x i day k cs).pv:=by
 simp only[xz,M8,VM,VN,VO,VP,VQ,VR,VS,VT,VU,VV,VW,E0,E1,E2,aJ,asInt,By,ab,af,AT,hx,IN,vf,xw,Bd,bU,asBool];refine aM (λj=>(day,cs.map ar.pv,(j:Int),0,0,0,[],0,J,J,(i:Int),day,k,x.id,x.bn,x.free,J,((cs.take j).map (EY (jw day))).map ar.pv,())) cs.length (λj hj rec=>?_) (λrec=>?_) ?_ rfl
 .have h1:(j:Int)<(cs.length:Int):=aa
  have bG:∀X:PV,((((cs.take j).map (EY (jw day))).map ar.pv)++[X]).length*32<=au/\0<32:=λX=>by refine⟨?_,aa⟩;grind [List.length_append,List.length_map,List.length_take,List.length_cons,List.length_nil,au]
  simp only[FA,tb,te,h1,By,af,AT,ta hj,IN,ab,nY,ni,jm,Ov,Ow,asInt,BY (bG _),ag (aa:j<9223372036854775807)];rw[awT hj,aya,aya];rfl
 .simp only[FA,tb,te,awV,OF,ays];rfl
 grind [rounds,decide]
def SG(x:bu)(t:Int)(h:t∈fM x):0<=t/\t<=172800:=by
 cases hs:eD x with
 |false=>rw[Ks x hs]at h;cases h
 |true=>
  rw[mK x hs]at h;obtain⟨j,hj,rfl⟩:=ayl.1 h;have hj:=ayB.1 hj;have Sw:=RC x hs;have hc:=uu x hs;have⟨h1,h2,h3,h4,h5⟩:=(gM x).1 hs;have Sc:(j:Int)<=dV x-1:=aa
  have Ad:(j:Int)*x.every<=(dV x-1)*x.every:=azn Sc aa;have L4:0<=(j:Int)*x.every:=aAo aa aa;omega
theorem WG(t:Int)(s:List Int):∀l:List Int,t∈s.foldl (λl t=>zp t l) l↔t∈l\/t∈s:=by
 induction s with
 |nil=>simp
 |cons a s ih=>grind [ajC]
theorem SH(t:Int)(fs:List bu):∀l:List Int,t∈fs.foldl instF l↔t∈l\/∃f∈fs,t∈fM f:=by
 induction fs with
 |nil=>simp
 |cons f fs ih=>grind [instF,WG]
def instI_mem(fs:List bu)(i t:Int):t∈instI fs i↔∃f∈fs,f.bg=i/\t∈fM f:=by grind [instI,SH]
def instI_range(fs:List bu)(i t:Int)(h:t∈instI fs i):0<=t/\t<=172800:=by obtain⟨f,_,_,h3⟩:=(instI_mem fs i t).1 h;exact SG f t h3
theorem instI_len(fs:List bu)(hf:fs.length<=1000)(i:Int):(instI fs i).length<=172800000:=by simp_all[instI_K,instK_len]
theorem Cc(l:List ar)(s:Int):(bF l s).length<=l.length:=by unfold bF;split<;>simp
def WH(T:aw)(hf:T.br.length<=1000)(day:Int)(i:Nat):(dR T day i).length<=172800000:=by grind [dR,eO,List.length_map,List.length_range,instI_len]
def bR(T:aw)(day:Int)(k:Nat):List aW:=(I k).flatMap (dR T day)
def wA(T:aw)(day:Int)(k:Nat):bR T day (k+1)=bR T day k++dR T day k:=by simp[bR,ayP,az0]
def FB(T:aw)(hf:T.br.length<=1000)(day:Int):∀k,(bR T day k).length<=172800000*k
 |0=>by simp[bR]
 |k+1=>by rw[wA,ax9];have:=FB T hf day k;have:=WH T hf day k;omega
def Nj(T:aw)(day:Int):eo T day=bR T day T.ai.length:=rfl
def HZ(T:aw)(hT:ru T)(day:Int):(eo T day).length<=6912000000:=by rw[Nj];have:=FB T (by have:=hT.br;omega) day T.ai.length;have:=hT.ai;omega
def wB(T:aw)(day:Int)(n:Nat):bQ T day (n+1)=bQ T day n++eo T (day+n):=by simp[bQ,ayP,az0]
def LK(T:aw)(hT:ru T)(day:Int):∀n,(bQ T day n).length<=6912000000*n
 |0=>by simp[bQ]
 |n+1=>by rw[wB,ax9];have:=LK T hT day n;have:=HZ T hT (day+n);omega
def RH(l:List PV)(h:l.length<=1000000000000):l.length*80<=au/\0<80:=⟨NF,aa⟩
set_option maxHeartbeats 1000000 in
def aga(T:aw)(hT:ru T)(gW:T.Ok)(day:Int)(i:Nat)(x:bC)(hx:T.ai[i]?=U x)(ad8)(s:List Int)(hs:∀t∈s,0<=t/\t<=172800)(OM:s.length<=172800000)(o:List aW)(ho:o.length<=100000000000):cD.run (zr cD ad8) (day,(i:Int),s.map iv,0,xy T (o.map aW.pv,()))=ad8 (day,C .i64 ((i:Int)+1),xy T ((o++(I s.length).map λ(k:Nat)=>cK x i day k (bF x.calls (s.getD k 0))).map aW.pv,())):=by
 have L6:x∈T.ai:=awU hx;have abc:=gW.ai.2 x L6;have F1:=hT.small x L6;refine aM (λk=>(day,(i:Int),s.map iv,(k:Int),xy T ((o++(I k).map λ(k:Nat)=>cK x i day k (bF x.calls (s.getD k 0))).map aW.pv,()))) s.length (λk hk rec=>?_) (λrec=>?_) ?_ ?_
 .have h1:(k:Int)<(s.length:Int):=aa
  have ci:∀n:Int,cell (iv n) 0=.int .i64 n:=λ_=>rfl;have hr:=hs s[k] (alx hk);have vR:=Cc x.calls s[k];have hgd:s.getD k 0=s[k]:=HY s k hk;have ve:(o++(I (k+1)).map λ(k:Nat)=>cK x i day k (bF x.calls (s.getD k 0))).map aW.pv=(o++(I k).map λ(k:Nat)=>cK x i day k (bF x.calls (s.getD k 0))).map aW.pv++[(cK x i day k (bF x.calls s[k])).pv]:=(by simp_all[ayP,aya,ayb,ay6,ayt])
  have bG:=RH ((o++(I k).map λ(k:Nat)=>cK x i day k (bF x.calls (s.getD k 0))).map aW.pv++[.agg [cell (cK x i day k (bF x.calls s[k])).pv 0,cell (cK x i day k (bF x.calls s[k])).pv 1,cell (cK x i day k (bF x.calls s[k])).pv 2,cell (cK x i day k (bF x.calls s[k])).pv 3,cell (cK x i day k (bF x.calls s[k])).pv 4,cell (cK x i day k (bF x.calls s[k])).pv 5,cell (cK x i day k (bF x.calls s[k])).pv 6,cell (cK x i day k (bF x.calls s[k])).pv 7]]) ah;simp only[zr,xy,tb,te,h1,By,af,zq,AT,ta hk,hx,IN,ab,ci,asInt,vf,xw,vg,Bd,qf,Uw,af6 x abc s[k] hr F1,bY,aJ,al6,are,Nat.reduceAdd,Uz,WK,Z8,ad7 T i x hx day k _ (show(bF x.calls s[k]).length<=1000 by omega),aa4,BY bG,ag (aa:k<9223372036854775807)];rw[ve];rfl
 .simp[zr,xy,tb,te,awV,OF]
 .grind [rounds,decide]
 simp
set_option maxHeartbeats 1000000 in
def ad9(T:aw)(hT:ru T)(gW:T.Ok)(day:Int):xA [T.pv,.int .i64 day]=U (.rs 8 ((eo T day).map aW.pv)):=by
 have hcm:T.eN.length<=maxLen:=ayn hT.eN bj;have hem:T.pC.length<=maxLen:=ayn hT.pC bj;have hfm:T.br.length<=maxLen:=ayn hT.br bj;have W4:T.br.length<=1000:=by have:=hT.br;omega
 simp only[xA,M9,VM,VN,VO,VP,VQ,VR,VS,VT,VU,VV,VW,E0,E1,E2,aJ,asInt,By,ab];rw[Nj];refine aM (λi=>(day,(i:Int),xy T ((bR T day i).map aW.pv,()))) T.ai.length (λi hi rec=>?_) (λrec=>?_) ?_ rfl
 .have h1:(i:Int)<(T.ai.length:Int):=aa
  have hx:T.ai[i]?=U T.ai[i]:=ta hi;have L6:T.ai[i]∈T.ai:=alx hi;have F1:=hT.small _ L6;have hlen:=FB T W4 day i;have ht:=hT.ai;generalize hxx:T.ai[i]=x at*;have O1:dR T day i=eO T i x day:=by unfold dR;rw[hx]
  rw[wA,O1];simp only[FC,xy,tb,te,h1,By,af,AT,hx,IN,ab,vg,qf,asInt,aJ,ab0 T.eN hcm T.pC hem,asBool];unfold eO;cases hA:B9 T.eN T.pC x.Dd day with
  |false=>simp only[ayi,By,ayF,ag (aa:i<9223372036854775807)]
  |true=>
   simp only[aq3,AI,OF,ax7,af9 T.br hfm,ab,asBool];cases hR:xo T.br i with
   |false=>have bG:=RH ((bR T day i).map aW.pv++[.agg [cell (cK x i day 0 x.calls).pv 0,cell (cK x i day 0 x.calls).pv 1,cell (cK x i day 0 x.calls).pv 2,cell (cK x i day 0 x.calls).pv 3,cell (cK x i day 0 x.calls).pv 4,cell (cK x i day 0 x.calls).pv 5,cell (cK x i day 0 x.calls).pv 6,cell (cK x i day 0 x.calls).pv 7]]) ah;simp only[ayi,By,Z8,ad7 T i x hx day 0 _ (aa:x.calls.length<=1000),ab,aa4,BY bG,ag (aa:i<9223372036854775807),aya,ayb,ay6];rfl
   |true=>simp only[aq3,AI,OF,ax7,ajE T.br W4,ab];have:=aga T hT gW day i x hx rec (instI T.br i) (λt ht=>instI_range _ _ t ht) (instI_len _ W4 _) (bR T day i) aa;rw[ag (aa:i<9223372036854775807)]at this;exact this
 .simp[FC,xy,tb,te,awV,OF]
 .have:=hT.ai;grind [rounds,decide]
def Ec{R:Type}(g:Nat->Nat)(hg:∀k,g k<=g (k+1))(h0:g 0<=1024)(r:R):∀n,(I n).findSome? (λk=>if g (k+1)>1024 then U r else Z)=if g n>1024 then U r else Z
 |0=>ah
 |n+1=>by rw[ayP,aBc,Ec g hg h0 r n];grind
def LL(g:Nat->Nat)(hg:∀k,g k<=g (k+1))(h0:g 0<=1024){R:Type}(r:R)(n:Nat)(h:∀j,j<n->(if g (j+1)>1024 then U r else Z)=Z):g n<=1024:=by
 cases n with
 |zero=>omega
 |succ n=>simp_all
def wC:PV:=.b8 [.rs 8 [],.int .i64 5]
def Zm:Nat->Int
 |0=>0
 |k+1=>k
def LM(x:bC)(day:Int)(s:List Int):Nat->List PV
 |0=>[]
 |k+1=>((bF x.calls (s.getD k 0)).map (EY (jw day))).map ar.pv
def aqW(Cd iD)(day n to agb nt i:Int)(es:List PV)(c0 c1 c2 c3 c4:PV)(a b c:Int)(id:Bytes)(r:Int)(f cn:Bool)(cs:List PV)(z0 z1 z2 z3 z4 z5 z6 z7 z8 z9:List PV)(y0 y1 y2:Int)(ov:List PV):oV cD Cd (day,es,n,n,to,agb,nt,i,c0,c1,c2,c3,c4,a,b,c,id,r,f,cn,cs,z0,z1,z2,z3,z4,z5,z6,z7,z8,z9,y0,y1,y2,ov,()) iD=if O ((ov.length:Int)>1024)=Y then U (.b8 [.rs 8 [],.int .i64 5])else Cd (to,agb,nt,C .i64 (i+1),z0,z1,z2,z3,z4,z5,z6,z7,z8,z9,y0,y1,y2,ov,()):=by
 have hn:¬O (n<n)=true:=ae
 simp[oV,IT]
def ajF(Cd iD)(day n k to agb nt i:Int)(es:List PV)(c0 c1 c2 c3 c4:PV)(a b c:Int)(id:Bytes)(r:Int)(f cn:Bool)(cs:List PV)(z0 z1 z2 z3 z4 z5 z6 z7 z8 z9:List PV)(y0 y1 y2:Int)(ov:List PV)(hk:k<n)(p:PV)(hp:uW es k=U p)(t:Int)(ht:cell p 0=.int .i64 t)(fc sc:List PV)(e:Int)(hf:cZ [.agg [c0,c1,c2,c3,c4],.int .i64 t]=U (.b8 [.rs 5 fc,.int .i64 e]))(hs:j3 [.rs 5 fc,.int .i64 (C .i64 (day*86400))]=U (.rs 5 sc))(bG:(ov++[PV.agg [.int .i64 a,.int .i64 b,.int .i64 k,.str id,.int .i64 r,.bool f,.bool cn,.rs 5 sc]]).length*80<=au/\0<80):oV cD Cd (day,es,n,k,to,agb,nt,i,c0,c1,c2,c3,c4,a,b,c,id,r,f,cn,cs,z0,z1,z2,z3,z4,z5,z6,z7,z8,z9,y0,y1,y2,ov,()) iD=if(!decide (((ov++[PV.agg [.int .i64 a,.int .i64 b,.int .i64 k,.str id,.int .i64 r,.bool f,.bool cn,.rs 5 sc]]).length:Int)<=1024))=Y then(if O (((ov++[PV.agg [.int .i64 a,.int .i64 b,.int .i64 k,.str id,.int .i64 r,.bool f,.bool cn,.rs 5 sc]]).length:Int)>1024)=Y then U (.b8 [.rs 8 [],.int .i64 5])else Cd (to,agb,nt,C .i64 (i+1),z0,z1,z2,z3,z4,z5,z6,z7,z8,z9,y0,y1,y2,ov++[PV.agg [.int .i64 a,.int .i64 b,.int .i64 k,.str id,.int .i64 r,.bool f,.bool cn,.rs 5 sc]],()))else iD (day,es,n,C .i64 (k+1),to,agb,nt,i,c0,c1,c2,c3,c4,a,b,k,id,r,f,cn,sc,z0,z1,z2,z3,z4,z5,z6,z7,z8,z9,y0,y1,y2,ov++[PV.agg [.int .i64 a,.int .i64 b,.int .i64 k,.str id,.int .i64 r,.bool f,.bool cn,.rs 5 sc]],()):=by have hkd:O (k<n)=true:=az1 hk;simp only[oV,hkd,By,hp,ab,ht,hf,hs,bY,aJ,asInt,al6,are,Nat.reduceAdd,Uz,WK,BY bG]
set_option maxHeartbeats 1000000 in
def ab3(T:aw)(hT:ru T)(gW:T.Ok)(to day:Int)(i:Nat)(x:bC)(hx:T.ai[i]?=U x)(Cd)(s:List Int)(hs:∀t∈s,0<=t/\t<=172800)(OM:s.length<=172800000)(o:List aW)(ho:o.length<=1024):cD.run (oV cD Cd) (day,s.map iv,(s.length:Int),0,to,day,(T.ai.length:Int),(i:Int),cell x.pv 0,cell x.pv 1,cell x.pv 2,cell x.pv 3,cell x.pv 4,(i:Int),day,0,x.id,x.bn,x.free,J,[],xy T (o.map aW.pv,()))=if o.length+s.length>1024 then U wC else Cd (to,day,(T.ai.length:Int),C .i64 ((i:Int)+1),xy T ((o++(I s.length).map λ(k:Nat)=>cK x i day k (bF x.calls (s.getD k 0))).map aW.pv,())):=by
 have L6:x∈T.ai:=awU hx;have abc:=gW.ai.2 x L6;have F1:=hT.small x L6;refine(mL (λk=>(day,s.map iv,(s.length:Int),(k:Int),to,day,(T.ai.length:Int),(i:Int),cell x.pv 0,cell x.pv 1,cell x.pv 2,cell x.pv 3,cell x.pv 4,(i:Int),day,Zm k,x.id,x.bn,x.free,J,LM x day s k,xy T ((o++(I k).map λ(k:Nat)=>cK x i day k (bF x.calls (s.getD k 0))).map aW.pv,()))) s.length (λk=>if(λj=>o.length+j) (k+1)>1024 then U (U wC)else Z) (fin:=Cd (to,day,(T.ai.length:Int),C .i64 ((i:Int)+1),xy T ((o++(I s.length).map λ(k:Nat)=>cK x i day k (bF x.calls (s.getD k 0))).map aW.pv,()))) (λk hk SI rec=>?_) (λSI rec=>?_) ?_ ?_).trans ?_
 .have hle:o.length+k<=1024:=LL (λj=>o.length+j) (λk=>ae) ho (U wC) k SI;have h1:(k:Int)<(s.length:Int):=aa
  have ci:∀n:Int,cell (iv n) 0=.int .i64 n:=λ_=>rfl;have hr:=hs s[k] (alx hk);have vR:=Cc x.calls s[k];have hgd:s.getD k 0=s[k]:=HY s k hk;have aqX:po s[k]:=(fe _).2 aa;have ve:(o++(I (k+1)).map λ(k:Nat)=>cK x i day k (bF x.calls (s.getD k 0))).map aW.pv=(o++(I k).map λ(k:Nat)=>cK x i day k (bF x.calls (s.getD k 0))).map aW.pv++[(cK x i day k (bF x.calls s[k])).pv]:=(by simp_all[ayP,aya,ayb,ay6,ayt])
  have hlC:LM x day s (k+1)=((bF x.calls s[k]).map (EY (jw day))).map ar.pv:=by simp only[LM,hgd]
  have hlen:((o++(I k).map λ(k:Nat)=>cK x i day k (bF x.calls (s.getD k 0))).map aW.pv++[PV.agg [.int .i64 (i:Int),.int .i64 day,.int .i64 (k:Int),.str x.id,.int .i64 x.bn,.bool x.free,.bool J,.rs 5 (((bF x.calls s[k]).map (EY (C .i64 (day*86400)))).map ar.pv)]]).length=o.length+(k+1):=ae
  have bG:=RH ((o++(I k).map λ(k:Nat)=>cK x i day k (bF x.calls (s.getD k 0))).map aW.pv++[PV.agg [.int .i64 (i:Int),.int .i64 day,.int .i64 (k:Int),.str x.id,.int .i64 x.bn,.bool x.free,.bool J,.rs 5 (((bF x.calls s[k]).map (EY (C .i64 (day*86400)))).map ar.pv)]]) aa;rw[ve,hlC];generalize (o++(I k).map λ(k:Nat)=>cK x i day k (bF x.calls (s.getD k 0))).map aW.pv=ov at hlen bG;refine(ajF Cd rec day s.length k to day T.ai.length i (s.map iv) (cell x.pv 0) (cell x.pv 1) (cell x.pv 2) (cell x.pv 3) (cell x.pv 4) i day (Zm k) x.id x.bn x.free J (LM x day s k) (T.stops.map Stop.pv) (T.ak.map aD.pv) (T.eN.map sE.pv) (T.pC.map xW.pv) (T.ai.map bC.pv) (T.br.map bu.pv) (T.df.map jt.pv) (T.cm.map ju.pv) (T.paths.map Path.pv) (T.aF.map bd.pv) T.aZ T.within T.cap ov h1 (iv s[k]) (by rw[af,zq,ta hk];rfl) s[k] rfl _ _ _ (Uv x abc s[k] aqX F1) (Fz _ _ (show(bF x.calls s[k]).length<=1000 by omega)) bG).trans ?_;rw[ag (aa:k<9223372036854775807)];simp only[hlen];by_cases hb:o.length+(k+1)>1024
  .rw[BY (show(!decide (((o.length+(k+1):Nat):Int)<=1024))=Y by simp;omega),BY (show O (((o.length+(k+1):Nat):Int)>1024)=Y from az1 aa),BY hb];rfl
  .rw[IT (show¬(!decide (((o.length+(k+1):Nat):Int)<=1024))=Y by simp;omega),IT hb];rfl
 .have hle:o.length+s.length<=1024:=LL (λj=>o.length+j) (λk=>ae) ho (U wC) s.length SI;have hlen:((o++(I s.length).map λ(k:Nat)=>cK x i day k (bF x.calls (s.getD k 0))).map aW.pv).length=o.length+s.length:=ae
  refine(aqW Cd rec day s.length to day T.ai.length i (s.map iv) (cell x.pv 0) (cell x.pv 1) (cell x.pv 2) (cell x.pv 3) (cell x.pv 4) i day (Zm s.length) x.id x.bn x.free J (LM x day s s.length) (T.stops.map Stop.pv) (T.ak.map aD.pv) (T.eN.map sE.pv) (T.pC.map xW.pv) (T.ai.map bC.pv) (T.br.map bu.pv) (T.df.map jt.pv) (T.cm.map ju.pv) (T.paths.map Path.pv) (T.aF.map bd.pv) T.aZ T.within T.cap _).trans ?_;rw[hlen,IT (show¬O (((o.length+s.length:Nat):Int)>1024)=Y by grind)];rfl
 .grind [rounds,decide]
 .simp[List.range_zero,ay6,ayF,Zm,LM,Int.natCast_zero]
 .rw[Ec (λj=>o.length+j) (λk=>ae) ho];by_cases hb:o.length+s.length>1024
  .rw[BY hb,BY hb];rfl
  .rw[IT hb,IT hb];rfl
set_option maxHeartbeats 1000000 in
def ajG(T:aw)(hT:ru T)(gW:T.Ok)(to day:Int)(Zn)(o:List aW)(ho:o.length<=1024):cD.run (zs cD Zn) (to,day,(T.ai.length:Int),0,xy T (o.map aW.pv,()))=if o.length+(eo T day).length>1024 then U wC else Zn (to,C .i64 (day+1),xy T ((o++eo T day).map aW.pv,())):=by
 have hcm:T.eN.length<=maxLen:=ayn hT.eN bj;have hem:T.pC.length<=maxLen:=ayn hT.pC bj;have hfm:T.br.length<=maxLen:=ayn hT.br bj;have W4:T.br.length<=1000:=by have:=hT.br;omega
 have Ad:∀k,(λj=>o.length+(bR T day j).length) k<=(λj=>o.length+(bR T day j).length) (k+1):=λk=>by simp[wA,ax9]
 have h00:(λj=>o.length+(bR T day j).length) 0<=1024:=by simpa[bR]using ho
 rw[Nj];refine(mL (λi=>(to,day,(T.ai.length:Int),(i:Int),xy T ((o++bR T day i).map aW.pv,()))) T.ai.length (λk=>if(λj=>o.length+(bR T day j).length) (k+1)>1024 then U (U wC)else Z) (fin:=Zn (to,C .i64 (day+1),xy T ((o++bR T day T.ai.length).map aW.pv,()))) (λi hi SI rec=>?_) (λSI rec=>?_) ?_ ?_).trans ?_
 .have hle:o.length+(bR T day i).length<=1024:=LL _ Ad h00 (U wC) i SI;have h1:(i:Int)<(T.ai.length:Int):=aa
  have hx:T.ai[i]?=U T.ai[i]:=ta hi;have L6:T.ai[i]∈T.ai:=alx hi;have F1:=hT.small _ L6;have ht:=hT.ai;generalize hxx:T.ai[i]=x at*;have O1:dR T day i=eO T i x day:=by unfold dR;rw[hx]
  have W0:((o++bR T day i).map aW.pv).length=o.length+(bR T day i).length:=ae
  simp only[wA,O1];simp only[zs,xy,tb,h1,By,af,AT,hx,IN,ab,vf,xw,vg,Bd,qf,asInt,aJ,bU,Oq T.eN hcm T.pC hem,asBool,W0];unfold eO;cases hA:B9 T.eN T.pC x.Dd day with
  |false=>simp only[ayi,By,ayF,are,az4,ag (aa:i<9223372036854775807)];rw[IT (show¬((o.length+(bR T day i).length:Nat):Int)>1024 by omega),IT aa];rfl
  |true=>
   simp only[aq3,AI,OF,ax7,RI T.br hfm,ab,asBool];cases hR:xo T.br i with
   |false=>
    have hl1:((o++bR T day i).map aW.pv++[PV.agg [.int .i64 (i:Int),.int .i64 day,.int .i64 0,.str x.id,.int .i64 x.bn,.bool x.free,.bool J,.rs 5 ((x.calls.map (EY (C .i64 (day*86400)))).map ar.pv)]]).length=o.length+(bR T day i).length+1:=ao
    have bG:=RH ((o++bR T day i).map aW.pv++[PV.agg [.int .i64 (i:Int),.int .i64 day,.int .i64 0,.str x.id,.int .i64 x.bn,.bool x.free,.bool J,.rs 5 ((x.calls.map (EY (C .i64 (day*86400)))).map ar.pv)]]) aa;have ve:(o++(bR T day i++[cK x i day 0 x.calls])).map aW.pv=(o++bR T day i).map aW.pv++[(cK x i day 0 x.calls).pv]:=ae
    simp only[ayi,By,Fz _ _ (aa:x.calls.length<=1000),ab,BY bG,ag (aa:i<9223372036854775807),ve];simp only[hl1,ax9,al6,are,azf];by_cases hb:o.length+(bR T day i).length+1>1024
    .rw[BY (show O (((o.length+(bR T day i).length+1:Nat):Int)>1024)=Y from az1 aa),BY (aa:o.length+((bR T day i).length+1)>1024)];rfl
    .rw[IT (show¬O (((o.length+(bR T day i).length+1:Nat):Int)>1024)=Y by grind),IT (show¬o.length+((bR T day i).length+1)>1024 by omega)];rfl
   |true=>
    simp only[aq3,AI,OF,By,ax7,Uu T.br W4,aJ,ab,te,ax9,List.length_range];have hl2:(o++bR T day i).length<=1024:=ah
    have:=ab3 T hT gW to day i x hx rec (instI T.br i) (λt ht=>instI_range _ _ t ht) (instI_len _ W4 _) (o++bR T day i) hl2;simp only[xy,vf,xw,vg,Bd,qf,ax9]at this;rw[this,ag (aa:i<9223372036854775807),ayt];by_cases hb:o.length+(bR T day i).length+(instI T.br i).length>1024
    .rw[BY hb,BY (aa:o.length+((bR T day i).length+(instI T.br i).length)>1024)];rfl
    .rw[IT hb,IT (show¬o.length+((bR T day i).length+(instI T.br i).length)>1024 by omega)];rfl
 .simp[zs,xy,tb,awV,OF]
 .have:=hT.ai;grind [rounds,decide]
 .simp[bR]
 .rw[Ec _ Ad h00];by_cases hb:o.length+(bR T day T.ai.length).length>1024
  .rw[BY hb,BY hb];rfl
  .rw[IT hb,IT hb];rfl
def Nk(l:List aW):PV:=if l.length>1024 then wC else .b8 [.rs 8 (l.map aW.pv),.int .i64 0]
def agc(T:aw)(hT:ru T)(gW:T.Ok)(day:Int)(n:Nat)(h0:0<=day)(h1:day+n<=100000)(to:Int)(hto:to=day+n-1):Ce [T.pv,.int .i64 day,.int .i64 to]=U (Nk (bQ T day n)):=by
 simp only[Ce,M3,VM,VN,VO,VP,VQ,VR,VS,VT,VU,VV,VW,E0,E1,E2,aJ,asInt,By,ab];have Ad:∀k,(λj=>(bQ T day j).length) k<=(λj=>(bQ T day j).length) (k+1):=λk=>by simp[wB,ax9]
 have h00:(λj=>(bQ T day j).length) 0<=1024:=by simp[bQ]
 refine(mL (λ(k:Nat)=>(to,day+(k:Int),xy T ((bQ T day k).map aW.pv,()))) n (λk=>if(λj=>(bQ T day j).length) (k+1)>1024 then U (U wC)else Z) (fin:=U (.b8 [.rs 8 ((bQ T day n).map aW.pv),.int .i64 0])) (λk hk SI rec=>?_) (λSI rec=>?_) ?_ ?_).trans ?_
 .have hle:(bQ T day k).length<=1024:=LL _ Ad h00 (U wC) k SI;have hc:day+(k:Int)<=to:=aa
  have:=ajG T hT gW to (day+k) rec (bQ T day k) hle;simp only[xy]at this;simp only[FD,xy,tb,hc,By,te,this,wB,ax9];rw[bJ (show-9223372036854775808<=day+(k:Int)+1 by omega) aa,show day+(k:Int)+1=day+((k+1:Nat):Int) by omega];by_cases hb:(bQ T day k).length+(eo T (day+k)).length>1024
  .rw[BY hb,BY hb];rfl
  .rw[IT hb,IT hb];rfl
 .have hc:¬day+(n:Int)<=to:=aa
  simp only[FD,xy,tb,hc,OF]
 .grind [rounds,decide]
 .simp[bQ,xy]
 .rw[Ec _ Ad h00];unfold Nk;by_cases hb:(bQ T day n).length>1024
  .rw[BY hb,BY hb];rfl
  .rw[IT hb,IT hb];rfl
def aea(T:aw)(k:Nat):Bool:=match T.ai[k]? with|some x=>O ((x.calls.length:Int)>40)|none=>J
def aqY(T:aw):∃b,Cf [T.pv]=U (.bool b)/\(b=Y->ru T):=by
 simp only[Cf,M4,VM,VN,VO,VP,VQ,VR,VS,VT,VU,VV,VW,E0,E1,E2,aJ,asInt,By,ab,aG,te];split
 .simp
 .rename_i h;simp only[ayj,tb,aAI]at h;obtain⟨⟨⟨⟨⟨⟨⟨⟨⟨h0,h1⟩,h2⟩,h3⟩,h4⟩,h5⟩,h6⟩,h7⟩,h8⟩,h9⟩:=h;refine⟨!(I T.ai.length).any (aea T),?_,λhb=>⟨aa,aa,aa,aa,aa,aa,λy hy=>?_⟩⟩
  .refine(dG (λk=>((k:Int),T.stops.map Stop.pv,T.ak.map aD.pv,T.eN.map sE.pv,T.pC.map xW.pv,T.ai.map bC.pv,T.br.map bu.pv,T.df.map jt.pv,T.cm.map ju.pv,T.paths.map Path.pv,T.aF.map bd.pv,T.aZ,T.within,T.cap,())) T.ai.length (aea T) (no:=U (.bool J)) (fin:=U (.bool Y)) (λk hk rec=>?_) (λrec=>?_) ?_ rfl).trans ?_
   .have h1:(k:Int)<(T.ai.length:Int):=aa
    simp only[FE,tb,te,h1,By,af,AT,ta hk,IN,ab,qf,aJ,ag (aa:k<9223372036854775807),aea]
   .simp[FE,tb,te,awV,OF]
   .grind [rounds,decide]
   grind
  .simp only[ayx,azj,ayB]at hb;obtain⟨k,hk,rfl⟩:=az7.1 hy;grind [aea,List.getElem?_eq_getElem]
def ab4(T:aw)(k:Nat):Bool:=match T.br[k]? with|some f=>eD f&&O (C .i64 ((C .i64 (f.t1-f.t0)).tdiv f.every)>40)|none=>J
def aie(T:aw):∃b,wE [T.pv]=U (.bool b)/\(b=Y->ru T):=by
 have⟨b,hb,hB⟩:=aqY T;simp only[wE,HA,VM,VN,VO,VP,VQ,VR,VS,VT,VU,VV,VW,E0,E1,E2,aJ,asInt,asBool,By,ab,Z8,hb];cases b with
 |false=>simp
 |true=>
  have hF:=hB rfl;simp only[aq3,AI,OF];refine⟨!(I T.br.length).any (ab4 T),?_,λ_=>hF⟩;refine(dG (λk=>((k:Int),T.stops.map Stop.pv,T.ak.map aD.pv,T.eN.map sE.pv,T.pC.map xW.pv,T.ai.map bC.pv,T.br.map bu.pv,T.df.map jt.pv,T.cm.map ju.pv,T.paths.map Path.pv,T.aF.map bd.pv,T.aZ,T.within,T.cap,())) T.br.length (ab4 T) (no:=U (.bool J)) (fin:=U (.bool Y)) (λk hk rec=>?_) (λrec=>?_) ?_ rfl).trans ?_
  .have h1:(k:Int)<(T.br.length:Int):=aa
   have hl:=hF.br;simp only[Be,tb,te,h1,By,af,AT,ta hk,IN,ab,uv,yR,yS,yT,F0,Fy,asInt,asBool,ag (aa:k<9223372036854775807),ab4];generalize T.br[k]=f;cases hs:eD f with
   |false=>rfl
   |true=>have⟨g1,g2,g3,g4,g5⟩:=(gM f).1 hs;grind
  .simp[Be,tb,te,awV,OF]
  .have:=hF.br;grind [rounds,decide]
  grind
def dn(T:aw):Prop:=∀q,q<10->(Cg T q).2=0
def N8(T:aw):∃p i e,bN ((I 10).findSome? (Ch T)) (U (tx 0 0 0))=U (tx p i e)/\(e=0->dn T):=by
 cases h:(I 10).findSome? (Ch T)with
 |none=>refine⟨0,0,0,rfl,λ_ q hq=>?_⟩;simp_all[Ch]
 |some r=>
  have⟨q,hq,hr⟩:=ayC h;unfold Ch at hr;split at hr
  .cases hr
  next cO=>simp only[tc]at hr;exact⟨_,_,_,hr.symm,λe=>absurd e cO⟩
def MK(l:List aW)(e:Int):PV:=.b8 [.rs 8 (l.map aW.pv),.int .i64 e]
def agd(l:List aW):∃m e,Nk l=MK m e/\(e=0->m=l/\l.length<=1024)/\(e≠0->m=[]):=by
 unfold Nk;by_cases h:l.length>1024
 .exact⟨[],5,by rw[BY h];rfl,(λe=>aa),λ_=>rfl⟩
 .exact⟨l,0,by rw[IT h];rfl,(λ_=>⟨rfl,aa⟩),λh=>absurd rfl h⟩
def ajH(T:aw)(hT:ru T)(gW:T.Ok)(day to:Int)(n:Nat)(h0:0<=day)(h1:day+n<=100000)(h8:n<=8)(hto:to=day+n-1):cD.run (qN cD) (to,day,xy T ([],()))=U (Nk (bQ T day n)):=by
 refine aM (λ(k:Nat)=>(to,day+(k:Int),xy T ((bQ T day k).map aW.pv,()))) n (λk hk rec=>?_) (λrec=>?_) ?_ ?_
 .have hc:day+(k:Int)<=to:=aa
  have hl1:=LK T hT day k;have hl2:=HZ T hT (day+k);have bG:=RH ((bQ T day k).map aW.pv++(eo T (day+k)).map aW.pv) ao;simp only[xy];simp only[qN,tb,hc,By,Z8,ad9 T hT gW,ab,aJ,wB,aya];rw[BY bG,bJ (show-9223372036854775808<=day+(k:Int)+1 by omega) aa,show day+(k:Int)+1=day+((k+1:Nat):Int) by omega]
 .have hc:¬day+(n:Int)<=to:=aa
  simp only[qN,xy,tb,hc,OF,te];unfold Nk;by_cases h:(bQ T day n).length>1024
  .rw[BY h,BY aa];rfl
  grind
 .grind [rounds,decide]
 .simp[bQ,xy]
def Yn(T:aw)(hT:ru T)(gW:T.Ok)(a b:Int):∃l e,pR [T.pv,.int .i64 a,.int .i64 b]=U (MK l e)/\uz [T.pv,.int .i64 a,.int .i64 b]=U (MK l e)/\(e=0->dn T/\oJ a=Y/\oJ b=Y/\a<=b/\b-a<8/\l=bQ T a (b-a+1).toNat/\l.length<=1024)/\(e≠0->l=[]):=by
 have⟨p,i,e,hw,hv⟩:=N8 T;have hp:=QS T gW hT.small;have hr:=T3 T gW hT.small;rw[hw]at hp hr;simp only[pR,BZ,uz,Fq,VM,VN,VO,VP,VQ,VR,VS,VT,VU,VV,VW,E0,E1,E2,aJ,asInt,By,ab,Z8,hp,hr,tx,bY,al6,are,Nat.reduceAdd,Uz,WK,dQ,Zd,B8,asBool,aG];by_cases he:e=0
 .subst he;simp only[ayk,aq3,AI,OF];by_cases hd:(!oJ a|| !oJ b||decide (b<a))=Y
  .simp only[hd,By];exact⟨[],11,rfl,rfl,(λh=>aa),λ_=>rfl⟩
  .simp only[hd,OF];simp only[ayj,ayx,tb,aAI,Bool.not_eq_false]at hd;obtain⟨⟨ha,hb⟩,xH⟩:=hd;have hda:=(xn a).1 ha;have hdb:=(xn b).1 hb;rw[bJ (show-9223372036854775808<=b-a by omega) aa];by_cases h8:b-a>=8
   .simp only[h8,ayk,By];exact⟨[],5,rfl,rfl,(λh=>aa),λ_=>rfl⟩
   .obtain⟨n,hn⟩:∃n:Nat,(b-a+1).toNat=n:=⟨_,rfl⟩;have hdp:=agc T hT gW a n hda.1 aa b aa;have Gk:=ajH T hT gW a b n hda.1 aa aa aa;simp only[xy]at Gk;simp only[h8,ayf,AI,OF,hdp,Gk,ab];have⟨m,e,hme,hm,hm0⟩:=agd (bQ T a n);rw[hme];refine⟨m,e,?_,rfl,λh=>?_,hm0⟩
    .rfl
    simp_all
 .simp only[he,ayf,ayi,By];exact⟨[],e,rfl,rfl,(λh=>absurd h he),λ_=>rfl⟩
def Zo(x y:ar):cz [cell x.pv 0,cell x.pv 1,cell x.pv 2,cell x.pv 3,cell x.pv 4] [cell y.pv 0,cell y.pv 1,cell y.pv 2,cell y.pv 3,cell y.pv 4]=O (x=y):=by obtain⟨a1,a2,a3,a4,a5⟩:=x;obtain⟨b1,b2,b3,b4,b5⟩:=y;simp[cell,ar.pv,PV.cells,cz,Ab.peq];rfl
def RJ{a b:List ar}(hl:a.length=b.length):(if(I a.length).any (λk=> !decide (a[k]?=b[k]?))=Y then U (PV.bool J)else U (PV.bool Y))=U (PV.bool (O (a=b))):=by
 by_cases h:a=b
 .subst h;simp
 .rw[BY]
  .simp[h]
  .rw[azE];refine az9 λhn=>h (ayI λk=>?_);grind
def ab5(a b:List ar)(ha:a.length<=maxLen):nB [.rs 5 (a.map ar.pv),.rs 5 (b.map ar.pv)]=U (.bool (O (a=b))):=by
 have hm:=ax;simp only[nB,yE,aJ,By,ab,te,dQ];by_cases hl:a.length=b.length
 .rw[IT (by simp[hl])];refine(dG (λk=>(a.map ar.pv,b.map ar.pv,(k:Int),())) a.length (λk=> !decide (a[k]?=b[k]?)) (no:=U (.bool J)) (fin:=U (.bool Y)) (λk hk rec=>?_) (λrec=>?_) ?_ rfl).trans (RJ hl)
  .have h1:(k:Int)<(a.length:Int):=aa
   have hkb:k<b.length:=aa
   simp only[rN,tb,te,h1,By,af,AT,ta hk,ta hkb,IN,ab,ag (aa:k<9223372036854775807),tc];rw[BY ⟨rfl,rfl⟩,Zo]
  .simp[rN,tb,te,awV,OF]
  .have:=aP;omega
 .rw[BY ah];have:¬a=b:=λe=>hl (by rw[e]);simp[this]
def alZ(x y:aW):x=y↔x.bg=y.bg/\x.day=y.day/\x.inst=y.inst/\x.id=y.id/\x.bn=y.bn/\x.free=y.free/\x.xr=y.xr/\x.calls=y.calls:=by cases x;cases y;simp
def Zp(x y:aW):(O (x.bg=y.bg)&&O (x.day=y.day)&&O (x.inst=y.inst)&&O (x.id=y.id)&&O (x.bn=y.bn)&&O (x.free=y.free)&&O (x.xr=y.xr)&&O (x.calls=y.calls))=O (x=y):=by rw[ayo];simp[T1,tb,alZ,aAr]
def ajI(x y:aW)(hx:x.calls.length<=maxLen):qO [x.pv,y.pv]=U (.bool (O (x=y))):=by simp only[qO,C9,aa4,JV,F9,MG,QG,X7,aa5,aa6,DN,asInt,bU,asBool,aJ,By,ab,ab5 x.calls y.calls hx,bh,bW];rw[Zp]
variable{T:aw}{day:Int}
def RL(hT:ru T){i:Nat}{r:aW}(h:r∈dR T day i):r.calls.length<=40:=by
 unfold dR at h;split at h
 .rename_i x hx;have F1:=hT.small x (awU hx);unfold eO at h;split at h
  .cases h
  .split at h
   .simp_all[ayZ,cK]
   .obtain⟨k,_,rfl⟩:=ayl.1 h;grind [cK,List.length_map,Nat.le_trans,Cc]
 .cases h
def Js(hT:ru T){r:aW}(h:r∈eo T day):r.calls.length<=40:=by have⟨i,_,hi⟩:=ayG.1 h;exact RL hT hi
theorem Av(hT:ru T){n:Nat}{r:aW}(h:r∈bQ T day n):r.calls.length<=40:=by have⟨i,_,hi⟩:=ayG.1 h;exact Js hT hi
def auw(x:bC):PV.agg [cell x.pv 0,cell x.pv 1,cell x.pv 2,cell x.pv 3,cell x.pv 4]=x.pv:=rfl
def O3{d:Int}(h:oJ d=Y):jw d=d*86400/\0<=jw d/\jw d<=3155673600:=by grind [xn,jw,bJ]
theorem mJ(f:Nat->Int)(n:Nat)(h:(cg f n).2=0)(k:Nat)(hk:k<n):f k=0:=by
 unfold cg at h;cases hf:(I n).findSome? (λk=>if f k=0 then Z else U ((k:Int),f k))with
 |none=>simp_all
 |some x=>rw[hf]at h;have⟨j,_,hj⟩:=ayC hf;grind
def Ox{c:ar}{p:Option ar}{stops low high:Int}(h:lN c p stops low high=0):0<=c.stop/\c.stop<stops/\low<=c.arr/\c.arr<=c.dep/\c.dep<=high/\∀q,p=U q->q.dep<=c.arr/\q.stop≠c.stop:=by unfold lN at h;grind
structure aqZ(T:aw)(i:Nat)(x:bC):Prop where
 id:x.id∉(T.ai.map bC.id).take i
 two:2<=x.calls.length
 most:x.calls.length<=32
 call:∀(k:Nat)(c:ar),x.calls[k]?=U c->0<=c.stop/\c.stop<(T.stops.length:Int)/\0<=c.arr/\c.arr<=c.dep/\c.dep<=172800
 step:∀(k:Nat)(c d:ar),x.calls[k]?=U c->x.calls[k+1]?=U d->c.dep<=d.arr/\c.stop≠d.stop
variable{T:aw}{x:bC}
def nW(hV:dn T){i:Nat}(hx:T.ai[i]?=U x):aqZ T i x:=by
 have h4:(qC T.ai T.stops.length T.ak.length T.eN.length).2=0:=hV 4 aa;unfold qC at h4;split at h4
 .omega
 .have hi:i<T.ai.length:=(No.1 hx).1;have he:=mJ _ _ h4 i hi;unfold E5 at he;rw[hx]at he;simp only at he;split at he
  .omega
  .split at he
   .omega
   .rename_i hid;split at he
    .omega
    .unfold bP at he;split at he
     .omega
     .rename_i hlen;simp only[ayj,tb,aAI]at hlen;have hc:∀(k:Nat)(c:ar),x.calls[k]?=U c->lN c (gB x.calls k) T.stops.length 0 172800=0:=λk c hc=>by grind [mJ,ng]
      refine⟨hid,aa,aa,λk c h=>?_,λk c d h h'=>?_⟩
      .have:=Ox (hc k c h);omega
      .have:=(Ox (hc (k+1) d h')).2.2.2.2.2 c h;omega
def alr(hV:dn T){i j:Nat}{y:bC}(hx:T.ai[i]?=U x)(hy:T.ai[j]?=U y)(h:x.id=y.id):i=j:=by
 have key:∀{i j:Nat}{x y:bC},T.ai[i]?=U x->T.ai[j]?=U y->x.id=y.id->¬i<j:=λ{i j x y}hx hy h hij=>by refine(nW hV hy).id ?_;rw[ayc];refine⟨i,?_⟩;simp_all
 grind
def ab6(hV:dn T){k:Nat}{f:bu}(hf:T.br[k]?=U f):0<=f.bg/\f.bg<(T.ai.length:Int)/\eD f=Y/\fitsAt T.ai f=true:=by
 have h5:(wG T.br T.ai).2=0:=hV 5 aa;unfold wG at h5;split at h5
 .omega
 .have hk:k<T.br.length:=(No.1 hf).1;have he:=mJ _ _ h5 k hk;unfold Ci at he;grind
theorem QU(c:ar)(l:List ar)(s:Int):pI (c::l) s=0↔∀(k:Nat)(x:ar),(c::l)[k]?=U x->0<=x.arr-c.dep+s/\x.arr-c.dep+s<=172800/\0<=x.dep-c.dep+s/\x.dep-c.dep+s<=172800:=by
 show(if(I (c::l).length).all (jo (c::l) c.dep s)=Y then(0:Int)else 10)=0↔_;have e:(if(I (c::l).length).all (jo (c::l) c.dep s)=Y then(0:Int)else 10)=0↔(I (c::l).length).all (jo (c::l) c.dep s)=true:=ae
 rw[e,ayK];constructor
 .intro h k x hx;have:=h k (ayB.2 (No.1 hx).1);simp_all[jo,kOk,xx,T1,tb]
 .intro h k hk;unfold jo;cases hx:(c::l)[k]? with
  |none=>rfl
  |some x=>have:=h k x hx;simp_all[kOk,xx,T1,tb]
def abi(hV:dn T){i:Nat}(hx:T.ai[i]?=U x){s:Int}(hs:s∈instI T.br i):pI x.calls s=0:=by
 obtain⟨f,hf,hfi,hsf⟩:=(instI_mem _ _ _).1 hs;have⟨k,hk⟩:=ayc.1 hf;have⟨_,_,hso,sN⟩:=ab6 hV hk;have U0:T.ai[f.bg.toNat]?=U x:=av
 unfold fitsAt at sN;rw[U0]at sN;have ht:=nW hV hx;rw[mK f hso]at hsf;obtain⟨j,hj,rfl⟩:=ayl.1 hsf;have W3:=ayB.1 hj;have hsb:=(gM f).1 hso;have hc:=uu f hso;have hle:(j:Int)<=dV f-1:=aa
 have hm:(j:Int)*f.every<=(dV f-1)*f.every:=azn hle aa;have hm0:0<=(j:Int)*f.every:=aAo aa aa;have Og:F2 f=f.t0+(dV f-1)*f.every:=rfl;cases hl:x.calls with
 |nil=>have:=ht.two;simp_all
 |cons c l=>replace sN:H3 x f=true:=sN;unfold H3 at sN;rw[hl]at sN;simp only[T1,tb]at sN;grind [pI,FF,F2,QU]
end Go.Ab.Tt
namespace Go.Ab.Tt
set_option maxRecDepth 100000
theorem Zq(a b:List ar)(ha:a.length<=maxLen):zt [.rs 5 (a.map ar.pv),.rs 5 (b.map ar.pv)]=U (.bool (O (a=b))):=by
 have hm:=ax;simp only[zt,Ka,aJ,By,ab,te,dQ];by_cases hl:a.length=b.length
 .rw[IT (by simp[hl])];refine(dG (λk=>(b.map ar.pv,a.map ar.pv,(a.length:Int),(k:Int),())) a.length (λk=> !decide (a[k]?=b[k]?)) (no:=U (.bool J)) (fin:=U (.bool Y)) (λk hk rec=>?_) (λrec=>?_) ?_ rfl).trans (RJ hl)
  .have h1:(k:Int)<(a.length:Int):=aa
   have hkb:k<b.length:=aa
   simp only[Df,tb,h1,By,af,AT,ta hk,ta hkb,IN,ab,ag (aa:k<9223372036854775807),tc];rw[BY ⟨rfl,rfl⟩,Zo]
  .simp[Df,tb,awV,OF]
  .have:=aP;omega
 .rw[BY ah];have:¬a=b:=λe=>hl (by rw[e]);simp[this]
theorem Ux(x y:aW)(hx:x.calls.length<=maxLen):xB [x.pv,y.pv]=U (.bool (O (x=y))):=by simp only[xB,M1,aa4,JV,F9,MG,QG,X7,aa5,aa6,DN,asInt,bU,asBool,aJ,By,ab,Zq x.calls y.calls hx,bh,bW];rw[Zp]
theorem al0(l:List aW)(r:aW):(I l.length).any (λk=>O (l[k]?=U r))=O (r∈l):=by simp[jR,ayd,ays]
def dJ(T:aw)(r:aW):Bool:=oJ r.day&&O (r∈eo T r.day)
theorem age(T:aw)(hT:ru T)(gW:T.Ok)(r:aW):wH [T.pv,r.pv]=U (.bool (dJ T r)):=by
 simp only[wH,HS,VM,VN,VO,VP,VQ,VR,VS,VT,VU,VV,VW,E0,E1,E2,aa4,JV,F9,MG,QG,X7,aa5,aa6,DN,aJ,asInt,bU,asBool,By,ab,Z8,Zd];unfold dJ;cases hd:oJ r.day with
 |false=>rfl
 |true=>
  have hl:=HZ T hT r.day;simp only[aq3,AI,OF,ad9 T hT gW r.day,ab,aJ,By,ayS];refine(dG (λk=>((eo T r.day).map aW.pv,(k:Int),r.bg,r.day,r.inst,r.id,r.bn,r.free,r.xr,r.calls.map ar.pv,())) (eo T r.day).length (λk=>O ((eo T r.day)[k]?=U r)) (no:=U (.bool Y)) (fin:=U (.bool J)) (λk hk rec=>?_) (λrec=>?_) ?_ rfl).trans ?_
  .have h1:(k:Int)<((eo T r.day).length:Int):=aa
   have hs:=ajI (eo T r.day)[k] r (ayn (Js hT (alx hk)) bj);rw[show r.pv=.agg [.int .i64 r.bg,.int .i64 r.day,.int .i64 r.inst,.str r.id,.int .i64 r.bn,.bool r.free,.bool r.xr,.rs 5 (r.calls.map ar.pv)]from rfl]at hs;simp only[Bf,tb,te,h1,By,af,AT,ta hk,IN,ab,ah9,hs,asBool,tc,ag (aa:k<9223372036854775807)]
  .simp[Bf,tb,te,awV,OF]
  .grind [rounds,decide]
  .rw[al0];grind
theorem ajJ(x:bC)(abc:x.Ok)(F1:x.calls.length<=40)(i day:Int)(r:aW)(s:List Int)(hs:∀t∈s,0<=t/\t<=172800)(OM:s.length<=172800000):cD.run oW (day,s.map iv,(s.length:Int),0,r.bg,r.day,r.inst,r.id,r.bn,r.free,r.xr,r.calls.map ar.pv,J,cell x.pv 0,cell x.pv 1,cell x.pv 2,cell x.pv 3,cell x.pv 4,i,day,0,x.id,x.bn,x.free,J,[],())=U (.bool (O (r∈(I s.length).map λ(k:Nat)=>cK x i day k (bF x.calls (s.getD k 0))))):=by
 refine(dG (λk=>(day,s.map iv,(s.length:Int),(k:Int),r.bg,r.day,r.inst,r.id,r.bn,r.free,r.xr,r.calls.map ar.pv,J,cell x.pv 0,cell x.pv 1,cell x.pv 2,cell x.pv 3,cell x.pv 4,i,day,Zm k,x.id,x.bn,x.free,J,LM x day s k,())) s.length (λk=>O (cK x i day k (bF x.calls (s.getD k 0))=r)) (no:=U (.bool Y)) (fin:=U (.bool J)) (λk hk rec=>?_) (λrec=>?_) ?_ rfl).trans ?_
 .have h1:(k:Int)<(s.length:Int):=aa
  have ci:∀n:Int,cell (iv n) 0=.int .i64 n:=λ_=>rfl;have hr:=hs s[k] (alx hk);have vR:=Cc x.calls s[k];have hgd:s.getD k 0=s[k]:=HY s k hk;have aqX:po s[k]:=(fe _).2 aa;have hlC:LM x day s (k+1)=((bF x.calls s[k]).map (EY (jw day))).map ar.pv:=by simp only[LM,hgd]
  have hfc:=Uv x abc s[k] aqX F1;rw[<-auw x]at hfc;have hsh:=Fz (bF x.calls s[k]) (jw day) aa;have hsm:=Ux (cK x i day k (bF x.calls s[k])) r (ayn (show _<=40 by grind [cK,List.length_map]) bj);rw[show r.pv=.agg [.int .i64 r.bg,.int .i64 r.day,.int .i64 r.inst,.str r.id,.int .i64 r.bn,.bool r.free,.bool r.xr,.rs 5 (r.calls.map ar.pv)]from rfl,show(cK x i day k (bF x.calls s[k])).pv=.agg [.int .i64 i,.int .i64 day,.int .i64 k,.str x.id,.int .i64 x.bn,.bool x.free,.bool J,.rs 5 (((bF x.calls s[k]).map (EY (jw day))).map ar.pv)]from rfl]at hsm;rw[hlC,hgd];unfold jw at hsh hsm;simp only[oW,tb,h1,By,af,zq,ta hk,IN,ab,ci,asInt,hfc,bY,aJ,al6,are,Nat.reduceAdd,Uz,WK,hsh,hsm,asBool,aAF,ag (aa:k<9223372036854775807)];by_cases he:cK x i day k (bF x.calls s[k])=r
  .rw[BY he,he];simp
  .rw[IT he];simp only[he,ayf];rfl
 .simp[oW,tb,awV,OF]
 .grind [rounds,decide]
 grind
theorem SJ(T:aw)(hT:ru T)(gW:T.Ok)(r:aW):mD [T.pv,r.pv]=U (.bool (dJ T r)):=by
 have hkn:dJ T r=(oJ r.day&&O (r∈eo T r.day)):=rfl;simp only[mD,C3,VM,VN,VO,VP,VQ,VR,VS,VT,VU,VV,VW,E0,E1,E2,aa4,JV,F9,MG,QG,X7,aa5,aa6,DN,aJ,asInt,bU,asBool,By,ab,te,aG,B8];rw[hkn];by_cases hr:(O (r.bg<0)||decide (r.bg>=(T.ai.length:Int)))=Y
 .have JN:¬r∈eo T r.day:=λhm=>by have⟨i,x,hx,hi,_⟩:=O4.1 hm;grind
  simp_all
 .simp only[ay1]at hr;simp only[hr,azY];cases hd:oJ r.day with
  |false=>rfl
  |true=>
   simp only[ayp,ayv]at hr;obtain⟨i,hi⟩:∃i:Nat,r.bg=i:=⟨r.bg.toNat,aa⟩;have NS:i<T.ai.length:=aa
   obtain⟨x,hxx⟩:∃x,T.ai[i]=x:=⟨_,rfl⟩;have hx:T.ai[i]?=U x:=av
   have L6:x∈T.ai:=awU hx;have bt:(r∈eo T r.day)↔r∈eO T i x r.day:=by grind [O4]
   have awQ:=Oq T.eN gW.eN.1 T.pC gW.pC.1 x.Dd r.day;have nI:=RI T.br gW.br.1 (i:Int);have ahI:=Uu T.br (ayn hT.br aa) (i:Int);simp only[aq3,ab,cond_false,AI,OF,hi,af,AT,hx,IN,vf,xw,vg,Bd,qf,asInt,bU,asBool,aJ,By,awQ,nI,ahI,ayS];cases ha:B9 T.eN T.pC x.Dd r.day with
   |false=>simp_all[eO,BY]
   |true=>
    simp only[aq3,AI,OF];cases hrp:xo T.br i with
    |false=>
     have ht:eO T i x r.day=[cK x i r.day 0 x.calls]:=by simp_all[eO,IT,BY]
     have hm':O (r∈eo T r.day)=O (cK x i r.day 0 x.calls=r):=aAv.2 ao;rw[hm'];have hsh:=Fz x.calls (jw r.day) (ayn (hT.small x L6) aa);have hsm:=Ux (cK x i r.day 0 x.calls) r (ayn (show _<=40 by simp only[cK,te];exact hT.small x L6) bj);rw[show r.pv=.agg [.int .i64 r.bg,.int .i64 r.day,.int .i64 r.inst,.str r.id,.int .i64 r.bn,.bool r.free,.bool r.xr,.rs 5 (r.calls.map ar.pv)]from rfl,show(cK x i r.day 0 x.calls).pv=.agg [.int .i64 i,.int .i64 r.day,.int .i64 0,.str x.id,.int .i64 x.bn,.bool x.free,.bool J,.rs 5 ((x.calls.map (EY (jw r.day))).map ar.pv)]from rfl,hi]at hsm;simp_all[jw,ayi,By,ab,aJ,asBool]
    |true=>
     have ht:eO T i x r.day=(I (instI T.br i).length).map λ(k:Nat)=>cK x i r.day k (bF x.calls ((instI T.br i).getD k 0)):=by simp_all[eO,IT]
     have hm':O (r∈eo T r.day)=O (r∈(I (instI T.br i).length).map λ(k:Nat)=>cK x i r.day k (bF x.calls ((instI T.br i).getD k 0))):=aAv.2 (by rw[bt,ht]);rw[hm'];simp only[aq3,AI,OF];have:=ajJ x (gW.ai.2 x L6) (hT.small x L6) i r.day r (instI T.br i) (λt ht=>instI_range _ _ _ ht) (instI_len _ (ayn hT.br aa) _);rw[hi]at this;simp only[te];exact this
def k3(k:Int×Int×Int):PV:=.agg [.int .i64 k.1,.int .i64 k.2.1,.int .i64 k.2.2]
theorem ajK(a b:Int×Int×Int):cz (k3 a).cells (k3 b).cells=O (a=b):=by obtain⟨a1,a2,a3⟩:=a;obtain⟨b1,b2,b3⟩:=b;rw[ayo];simp[k3,PV.cells,cz,peq]
def kat(l:List aW)(k:Int×Int×Int)(i:Nat):Bool:=match l[i]? with|some r=>O (r.key=k)|none=>J
def jq(l:List aW)(k:Int×Int×Int)(n:Nat):Option Nat:=(I n).find? (kat l k)
def SK(l:List aW)(n:Nat):List (PV×PV):=(I n).filterMap λ(i:Nat)=>(l[i]?).map λ(r:aW)=>(k3 r.key,PV.int .i64 (i:Int))
theorem Nl(l:List aW)(n:Nat)(h:n<l.length):SK l (n+1)=SK l n++[(k3 l[n].key,.int .i64 (n:Int))]:=by simp_all[SK,ayP,List.filterMap_append,ta]
theorem RM(l:List aW)(k)(n:Nat):jq l k (n+1)=(jq l k n).or (if kat l k n=Y then U n else Z):=by grind [jq,List.range_succ]
theorem ajL(k:PV)(a:List (PV×PV))(b:List (PV×PV)):pL k (a++b)=(pL k a||pL k b):=by
 induction a with
 |nil=>rfl
 |cons x a ih=>simp_all[azu,pL,Bool.or_assoc]
theorem agf(k z:PV)(a:List (PV×PV))(b:List (PV×PV)):eY k z (a++b)=if pL k a=Y then eY k z a else eY k z b:=by
 induction a with
 |nil=>rfl
 |cons x a ih=>grind [eY,pL,cz]
theorem ajM(k v:PV)(a:List (PV×PV))(h:pL k a=J):eu k v a=a++[(k,v)]:=by
 induction a with
 |nil=>rfl
 |cons x a ih=>simp_all[pL,ayp,eu,AI,OF,azu]
theorem Pe{l:List aW}{k}{n:Nat}(h:n<l.length):kat l k n=O (l[n].key=k):=by grind [kat,List.getElem?_eq_getElem]
theorem Ee(l:List aW)(k):∀n,n<=l.length->pL (k3 k) (SK l n)=(jq l k n).isSome
 |0,_=>rfl
 |n+1,h=>by rw[Nl l n h,ajL,Ee l k n aa,RM,Pe h];simp only[pL,ajK,ayT];grind
theorem Nn(l:List aW)(k)(z:PV):∀n,n<=l.length->eY (k3 k) z (SK l n)=match jq l k n with|some i=>.int .i64 (i:Int)|none=>z
 |0,_=>rfl
 |n+1,h=>by rw[Nl l n h,agf,Ee l k n aa,Nn l k z n aa,RM,Pe h];simp only[eY,ajK];have hd:O (k=l[n].key)=O (l[n].key=k):=aAv.2 eq_comm;grind [jq]
theorem ajN(m:List (PV×PV)):(m.map λx=>x.fst).zip (m.map λx=>x.snd)=m:=by
 induction m with
 |nil=>rfl
 |cons x m ih=>simp_all
def I1(T:aw)(l:List aW)(i:Nat):Option Int:=match l[i]? with
 |some r=>if dJ T r=J then U 9 else if(jq l r.key i).isSome=Y then U 6 else Z
 |none=>Z
def RN(T:aw)(l:List aW):Option Int:=(I l.length).findSome? (I1 T l)
def mpv(l:List aW):PV:=.rm 253 ((SK l l.length).map λx=>x.fst) ((SK l l.length).map λx=>x.snd)
theorem ab7(T:aw)(hT:ru T)(gW:T.Ok)(l:List aW)(hl:l.length<=maxLen):zu [T.pv,.rs 8 (l.map aW.pv)]=U (match RN T l with|some e=>.b8 [.sr,.int .i64 e]|none=>.b8 [mpv l,.int .i64 0]):=by
 have hm:=ax;simp only[zu,Kb,VM,VN,VO,VP,VQ,VR,VS,VT,VU,VV,VW,E0,E1,E2,aJ,asInt,By,ab,te];refine(aC (λk=>(l.map aW.pv,(l.length:Int),(k:Int),xy T (SK l k,()))) l.length (λk=>(I1 T l k).map λe=>U (.b8 [.sr,.int .i64 e])) (fin:=U (.b8 [mpv l,.int .i64 0])) (λk hk rec=>?_) (λrec=>?_) ?_ ?_).trans ?_
 .have h1:(k:Int)<(l.length:Int):=aa
  have ho:mD [T.pv,PV.agg [.int .i64 l[k].bg,.int .i64 l[k].day,.int .i64 l[k].inst,cell l[k].pv 3,cell l[k].pv 4,cell l[k].pv 5,cell l[k].pv 6,cell l[k].pv 7]]=_:=SJ T hT gW l[k];have hb:I1 T l k=if dJ T l[k]=J then U 9 else if(jq l l[k].key k).isSome=Y then U 6 else none:=by grind [I1,List.getElem?_eq_getElem]
  have xS:∀r:aW,PV.agg [.int .i64 r.bg,.int .i64 r.day,.int .i64 r.inst]=k3 r.key:=λ_=>rfl;have nh:(asInt .i64 (match jq l l[k].key k with|some i=>.int .i64 (i:Int)|none=>PV.int .i64 0))=U (match jq l l[k].key k with|some i=>(i:Int)|none=>0):=by cases jq l l[k].key k<;>rfl
  simp only[xy];simp only[Dg,tb,h1,By,af,AT,ta hk,IN,ab,Z8,ah9,ho,asBool,JV,F9,MG,asInt,xS,Nn l _ _ k (aAq hk),Ee l _ k (aAq hk),ag (aa:k<9223372036854775807)];rw[hb];cases dJ T l[k]with
  |false=>rfl
  |true=>
   simp only[aq3,AI,OF,ax7];cases hf:jq l l[k].key k with
   |some i=>rfl
   |none=>
    have JN:pL (k3 l[k].key) (SK l k)=false:=by rw[Ee l _ k (aAq hk),hf];rfl
    rw[ajM _ _ _ JN,<-Nl l k hk];rfl
 .simp only[Dg,xy,tb,awV,OF];rfl
 .have:=aP;omega
 .rfl
 .unfold RN;have:∀L:List Nat,(L.findSome? λk=>(I1 T l k).map λe=>U (PV.b8 [.sr,.int .i64 e]))=(L.findSome? (I1 T l)).map λe=>U (PV.b8 [.sr,.int .i64 e]):=λL=>by
   induction L with
   |nil=>rfl
   |cons a L ih=>grind
  rw[this];cases(I l.length).findSome? (I1 T l)<;>rfl
variable{T:aw}
theorem IE(hV:dn T){x:jt}(hx:x∈T.df):sk x.a x.b T.ai.length=J/\jQ T.br x.a x.b=false:=by
 have⟨k,hk⟩:=ayc.1 hx;have h6:(tB T.df T.ai T.br).2=0:=hV 6 aa;unfold tB at h6;by_cases h:T.df.length>128
 .simp_all
 .rw[IT h]at h6;grind [mJ,G1]
theorem Ku(hV:dn T){g:ju}(hg:g∈T.cm):∃(i j:Nat)(p q:bC),g.a=i/\g.b=j/\T.ai[i]?=U p/\T.ai[j]?=U q/\xo T.br g.a=J/\xo T.br g.b=J/\mX p.calls q.calls g.stop=true:=by
 have⟨k,hk⟩:=ayc.1 hg;have h7:(nC T.cm T.ai T.br T.stops.length).2=0:=hV 7 aa;unfold nC at h7;by_cases h:T.cm.length>128
 .simp_all
 .rw[IT h]at h7;have he:=mJ _ _ h7 k (No.1 hk).1;unfold Cj at he;rw[hk]at he;simp only at he;by_cases h1:(sk g.a g.b T.ai.length|| !I2 g.stop T.stops.length)=Y
  .simp_all
  .rw[IT h1]at he;by_cases h2:jQ T.br g.a g.b=Y
   .simp_all
   .rw[IT h2]at he;simp only[ayj,aAI,ay1]at h1;have⟨i,j,hi,hj,NS,xQ⟩:=E6 g.a g.b T.ai h1.1;have hp:T.ai[g.a.toNat]?=U T.ai[i]:=av
    have hq:T.ai[g.b.toNat]?=U T.ai[j]:=av
    grind [xo,jQ]
theorem vA{r:aW}(hk:dJ T r=Y)(hr:xo T.br r.bg=J):oJ r.day=Y/\∃(i:Nat)(x:bC),r.bg=i/\T.ai[i]?=U x/\r=cK x i r.day 0 x.calls:=by unfold dJ at hk;rw[T1,tb]at hk;have⟨i,x,hx,hi,hm⟩:=O4.1 hk.2;grind [eO]
theorem agh(D s:Int)(l:List ar):Bg (l.map (EY D)) s=Bg l s:=by funext k;unfold Bg;rw[AT];cases l[k]? <;>rfl
theorem agi(D s:Int)(l:List ar):yI (l.map (EY D)) s=yI l s:=by funext k;unfold yI;rw[AT,te];cases l[k]? <;>rfl
theorem Zr(hV:dn T){i j:Nat}{p q:bC}(hp:T.ai[i]?=U p)(hq:T.ai[j]?=U q){d:Int}(hd:oJ d=Y)(s:Int):mX (p.calls.map (EY (jw d))) (q.calls.map (EY (jw d))) s=mX p.calls q.calls s:=by
 have⟨_,hD0,hD1⟩:=O3 hd;have tp:=nW hV hp;have tq:=nW hV hq;unfold mX;rw[agh,agi,te,te];cases(I p.calls.length).find? (Bg p.calls s)with
 |none=>rfl
 |some a=>
  cases(I q.calls.length).find? (yI q.calls s)with
  |none=>rfl
  |some b=>
   simp only[mtB,AT];cases ha:p.calls[a]? with
   |none=>rfl
   |some x=>
    cases hb:q.calls[b]? with
    |none=>rfl
    |some y=>have hx:=tp.call a x ha;have hy:=tq.call b y hb;grind [EY,jw,bJ]
def mI(a b:List ar)(s:Int):Int×Int:=match(I a.length).find? (Bg a s)with
 |none=>(0,0)
 |some i=>match(I b.length).find? (yI b s)with
  |none=>(0,0)
  |some k=>if mtB a b i k=Y then((i:Int),(k:Int))else(0,0)
theorem Zs(a b:List ar)(s:Int):Ck a b s=.b8 [.int .i64 (mI a b s).1,.int .i64 (mI a b s).2,.bool (mX a b s)]:=by
 unfold Ck mI mX;cases(I a.length).find? (Bg a s)with
 |none=>rfl
 |some i=>
  cases(I b.length).find? (yI b s)with
  |none=>rfl
  |some k=>grind [Zt,mtB]
def dD(T:aw)(l:List aW)(a:Nat)(r:aW):Option aK:=(eW T.df r.bg).bind λn=>(jq l (n,r.day,0) l.length).map λ(b:Nat)=>(⟨(a:Int),(r.calls.length:Int)-1,(b:Int),0,Y⟩:aK)
def pS(T:aw)(l:List aW)(a:Nat)(r:aW)(g:ju):Option aK:=
 if g.a=r.bg then(jq l (g.b,r.day,0) l.length).bind λb=>(l[b]?).bind λq=>
  if mX r.calls q.calls g.stop=J\/dD T l a r=U ⟨a,(mI r.calls q.calls g.stop).1,b,(mI r.calls q.calls g.stop).2,Y⟩then Z
  else U ⟨a,(mI r.calls q.calls g.stop).1,b,(mI r.calls q.calls g.stop).2,J⟩
 else Z
def ir(T:aw)(l:List aW)(a:Nat)(r:aW):List aK:=(dD T l a r).toList++T.cm.filterMap (pS T l a r)
variable{l:List aW}
theorem Ax{k}{b:Nat}(h:jq l k l.length=U b):b<l.length/\∃r,l[b]?=U r/\r.key=k:=by grind [jq,List.mem_of_find?_eq_some,kat,List.getElem?_eq_getElem]
theorem H4{A B:Type}(f:A->Option B)(l:List A)(k:Nat)(h:k<l.length):(l.take (k+1)).filterMap f=(l.take k).filterMap f++(f l[k]).toList:=by grind [List.take_succ_eq_append_getElem]
theorem al1(s:aK)(a i b k:Int):cz [PV.int .i64 s.a,.int .i64 s.ac,.int .i64 s.b,.int .i64 s.bc,.bool s.stay] [PV.int .i64 a,.int .i64 i,.int .i64 b,.int .i64 k,.bool Y]=O (s=⟨a,i,b,k,Y⟩):=by obtain⟨s0,s1,s2,s3,s4⟩:=s;rw[ayo];simp[cz,peq]
def stf(s:Option aK):aK:=s.getD ⟨-1,0,0,0,J⟩
theorem aq0(s:Option aK)(a:Nat)(i b k:Int):O (stf s=⟨a,i,b,k,Y⟩)=O (s=U ⟨a,i,b,k,Y⟩):=by
 refine aAv.2 ?_;cases s with
 |none=>simp[stf]
 |some x=>simp[stf]
theorem WI(l:List PV)(h:l.length<=1000000):l.length*40<=au/\0<40:=⟨NF,aa⟩
theorem RO(o:Option aK):o.toList.length<=1:=ae
theorem ab8{A B:Type}(f:A->Option B)(l:List A):(l.filterMap f).length<=l.length:=List.length_filterMap_le f l
def lkI(o:Option Nat):Int:=match o with|some i=>(i:Int)|none=>0
theorem RP(l:List aW)(k):eY (k3 k) (.int .i64 0) (SK l l.length)=.int .i64 (lkI (jq l k l.length)):=by rw[Nn l k _ _ (ayd _)];cases jq l k l.length<;>rfl
theorem Zu(i:Nat):lkI (U i)=(i:Int):=rfl
theorem al2(T:aw)(hT:ru T)(l:List aW)(hl:l.length<=1024)(hc:∀r∈l,r.calls.length<=40)(a:Nat)(r:aW)(ha:l[a]?=U r):cD.run (oc cD) (l.map aW.pv,mpv l,(a:Int),T.cm.map ju.pv,(T.cm.length:Int),0,(dD T l a r).toList.map aK.pv,cell r.pv 0,cell r.pv 1,cell r.pv 2,cell r.pv 3,cell r.pv 4,cell r.pv 5,cell r.pv 6,cell r.pv 7,(stf (dD T l a r)).a,(stf (dD T l a r)).ac,(stf (dD T l a r)).b,(stf (dD T l a r)).bc,(stf (dD T l a r)).stay,())=U (.rs 5 ((ir T l a r).map aK.pv)):=by
 have auy:=hT.cm;have Jm:=hc r (awU ha);have hs1:=RO (dD T l a r);obtain⟨st,fL⟩:∃st,dD T l a r=st:=⟨_,rfl⟩;refine aM (λ(k:Nat)=>(l.map aW.pv,mpv l,(a:Int),T.cm.map ju.pv,(T.cm.length:Int),(k:Int),((dD T l a r).toList++(T.cm.take k).filterMap (pS T l a r)).map aK.pv,cell r.pv 0,cell r.pv 1,cell r.pv 2,cell r.pv 3,cell r.pv 4,cell r.pv 5,cell r.pv 6,cell r.pv 7,(stf (dD T l a r)).a,(stf (dD T l a r)).ac,(stf (dD T l a r)).b,(stf (dD T l a r)).bc,(stf (dD T l a r)).stay,())) T.cm.length (λk hk rec=>?_) (λrec=>?_) ?_ ?_
 .have h1:(k:Int)<(T.cm.length:Int):=aa
  obtain⟨g,hg⟩:∃g,T.cm[k]=g:=⟨_,rfl⟩;have xS:PV.agg [.int .i64 g.b,.int .i64 r.day,.int .i64 0]=k3 (g.b,r.day,0):=rfl;have OP:=ab8 (pS T l a r) (T.cm.take k);rw[ayz]at OP;have bG:∀X:PV,(((dD T l a r).toList++(T.cm.take k).filterMap (pS T l a r)).map aK.pv++[X]).length*40<=au/\0<40:=λX=>WI _ ao;have ve:((dD T l a r).toList++(T.cm.take (k+1)).filterMap (pS T l a r)).map aK.pv=((dD T l a r).toList++(T.cm.take k).filterMap (pS T l a r)).map aK.pv++(pS T l a r g).toList.map aK.pv:=by simp_all[H4,ayt,aya]
  rw[ve];generalize ((dD T l a r).toList++(T.cm.take k).filterMap (pS T l a r)).map aK.pv=ov at bG;simp only[oc,tb,h1,By,af,AT,ta hk,hg,IN,ab,Zv,Zw,Zx,JV,F9,DN,asInt,aJ,mpv,dX,ajN,xS,RP,Ee l _ _ (ayd _),dQ];unfold pS;by_cases hga:g.a=r.bg
  .simp only[hga,ayk,aq3,cond_false,ab,By];cases hf:jq l (g.b,r.day,0) l.length with
   |none=>simp only[azp,ayi,By,Option.bind_none,azq,ay6,ayF,ag (aa:k<9223372036854775807)]
   |some b=>
    have⟨Z3,q,hq,hqk⟩:=Ax hf;have hqc:=hc q (awU hq);have hmp:=RQ r.calls q.calls (ayn Jm bj) (aAG hqc bj) g.stop;rw[Zs]at hmp;simp only[aAh,Zu,aq3,AI,OF,af,AT,hq,IN,ab,DN,aJ,By,hmp,bY,asInt,asBool,al6,are,Nat.reduceAdd,Uz,WK,al1,aq0,ayg];cases hm:mX r.calls q.calls g.stop with
    |false=>simp only[ayi,cond_true,ab,By,true_or,azq,ay6,ayF,ag (aa:k<9223372036854775807)]
    |true=>
     simp only[aq3,cond_false,ab,ax7,false_or,tb];by_cases he:dD T l a r=U ⟨a,(mI r.calls q.calls g.stop).1,b,(mI r.calls q.calls g.stop).2,Y⟩
     .rw[BY he,BY he];grind [Option.toList_none,ag]
     .rw[IT he,IT he];have Tn:=bG (PV.agg [.int .i64 (a:Int),.int .i64 (mI r.calls q.calls g.stop).1,.int .i64 (b:Int),.int .i64 (mI r.calls q.calls g.stop).2,.bool J]);refine(BY Tn).trans ?_;rw[ag (aa:k<9223372036854775807)];rfl
  .simp only[hga,ayf,ayi,cond_true,ab,By,OF,azq,ay6,ayF,ag (aa:k<9223372036854775807)]
 .simp[oc,tb,awV,OF,ays,ir]
 .grind [rounds,decide]
 simp
theorem al3(T:aw)(hT:ru T)(gW:T.Ok)(l:List aW)(hl:l.length<=1024)(hc:∀r∈l,r.calls.length<=40)(a:Nat)(r:aW)(ha:l[a]?=U r):IM [T.pv,.rs 8 (l.map aW.pv),mpv l,.int .i64 a]=U (.rs 5 ((ir T l a r).map aK.pv)):=by
 have Jm:=hc r (awU ha);have F3:=al2 T hT l hl hc a r ha;have ve:=Np T.df gW.df.1 r.bg;simp only[IM,Wi,VM,VN,VO,VP,VQ,VR,VS,VT,VU,VV,VW,E0,E1,E2,aJ,asInt,By,ab,mpv,dX,af,AT,ha,IN,JV,F9,DN,ve];unfold dD at F3;cases hn:eW T.df r.bg with
 |none=>rw[hn]at F3;simp only[rO,bY,asInt,asBool,al6,are,Nat.reduceAdd,By,ab,Uz,WK,AI,OF,te];exact F3
 |some n=>
  rw[hn]at F3;have xS:PV.agg [.int .i64 n,.int .i64 r.day,.int .i64 0]=k3 (n,r.day,0):=rfl;simp only[rO,bY,asInt,asBool,al6,are,Nat.reduceAdd,By,ab,Uz,WK,ajN,xS,RP,Ee l _ _ (ayd _)];simp only[ayg]at F3;cases hf:jq l (n,r.day,0) l.length with
  |none=>rw[hf]at F3;simp only[azp,AI,OF,ab,te];exact F3
  |some b=>rw[hf]at F3;have hw:C .i64 ((r.calls.length:Int)-1)=(r.calls.length:Int)-1:=bJ aa aa;simp only[aAh,Zu,By,ab,aJ,te,hw];exact F3
def Zy(l:List aW)(n d:Int)(i:Nat):Bool:=match l[i]? with|some r=>O (r.bg=n)&&O (r.day=d)|none=>J
theorem aq1(l:List aW)(hl:l.length<=maxLen)(n d:Int):oX [.rs 8 (l.map aW.pv),.int .i64 n,.int .i64 d]=U (.int .i64 (F4 ((I l.length).find? (Zy l n d)))):=by
 have hm:=ax;simp only[oX,Km,aJ,asInt,By,ab];refine(aC (λk=>(l.map aW.pv,n,d,(k:Int),())) l.length (λk=>if Zy l n d k=Y then U (U (.int .i64 (k:Int)))else Z) (fin:=U (.int .i64 (-1))) (λk hk rec=>?_) (λrec=>?_) ?_ rfl).trans ?_
 .have h1:(k:Int)<(l.length:Int):=aa
  have ht:Zy l n d k=(O (l[k].bg=n)&&O (l[k].day=d)):=by grind [Zy,List.getElem?_eq_getElem]
  simp only[Dh,tb,te,h1,By,af,AT,ta hk,IN,ab,JV,F9,asInt,bW,bh,ag (aa:k<9223372036854775807),ht];cases(O (l[k].bg=n)&&O (l[k].day=d))<;>rfl
 .simp[Dh,tb,te,awV,OF]
 .have:=aP;omega
 .rw[fD (Zy l n d) (λk=>U (PV.int .i64 (k:Int)))];cases(I l.length).find? (Zy l n d)<;>rfl
variable{n:Int}
theorem aq2(hk:∀r∈l,dJ T r=Y){d:Int}(hn:xo T.br n=J):Zy l n d=kat l (n,d,0):=by
 funext i;unfold Zy kat;cases h:l[i]? with
 |none=>rfl
 |some r=>
  simp only;rw[ayo,T1,tb,tb,tb];unfold aW.key;simp only[aq4];constructor
  .rintro⟨h1,h2⟩;obtain⟨_,j,x,_,_,e⟩:=vA (hk r (awU h)) (by rw[h1];omega);exact⟨h1,h2,by rw[e];rfl⟩
  omega
theorem Zz(hl:l.length<=maxLen)(hk:∀r∈l,dJ T r=Y)(d:Int)(hn:xo T.br n=J):oX [.rs 8 (l.map aW.pv),.int .i64 n,.int .i64 d]=U (.int .i64 (F4 (jq l (n,d,0) l.length))):=by rw[aq1 l hl,aq2 hk hn];rfl
theorem ZA{a:Nat}{r:aW}{b:Nat}{i k:Int}(hb:jq l (n,r.day,0) l.length=U b):dD T l a r=U ⟨a,i,b,k,Y⟩↔eW T.df r.bg=U n/\i=(r.calls.length:Int)-1/\k=0:=by
 unfold dD;constructor
 .intro h;have⟨m,hm,h⟩:=IS.1 h;have⟨b',mH,h⟩:=asI.1 h;simp only[aK.mk.injEq,true_and,aBn]at h;have e:b'=b:=aa
  subst e;have⟨_,q,hq,hk1⟩:=Ax hb;grind [Ax]
 simp_all
theorem ajO(hV:dn T){t:Int}(h:eW T.df t=U n):xo T.br n=false:=by unfold eW at h;obtain⟨x,hx,rfl⟩:=asI.1 h;have:=(IE hV (azk hx)).2;simp_all[jQ,ayp]
theorem agj(T:aw)(hT:ru T)(hV:dn T)(l:List aW)(hl:l.length<=1024)(hk:∀r∈l,dJ T r=Y)(hc:∀r∈l,r.calls.length<=40)(a:Nat)(r:aW)(ha:l[a]?=U r)(nx:Int)(ok:Bool)(hnx:∀x,(ok&&O (nx=x))=O (eW T.df r.bg=U x)):cD.run (mM cD) (l.map aW.pv,(a:Int),nx,ok,0,xy T ((dD T l a r).toList.map aK.pv,cell r.pv 0,cell r.pv 1,cell r.pv 2,cell r.pv 3,cell r.pv 4,cell r.pv 5,cell r.pv 6,cell r.pv 7,()))=U (.rs 5 ((ir T l a r).map aK.pv)):=by
 have auy:=hT.cm;have Tn:=awU ha;have Jm:=hc r Tn;have hs1:=RO (dD T l a r);refine aM (λ(k:Nat)=>(l.map aW.pv,(a:Int),nx,ok,(k:Int),xy T (((dD T l a r).toList++(T.cm.take k).filterMap (pS T l a r)).map aK.pv,cell r.pv 0,cell r.pv 1,cell r.pv 2,cell r.pv 3,cell r.pv 4,cell r.pv 5,cell r.pv 6,cell r.pv 7,()))) T.cm.length (λk Aa rec=>?_) (λrec=>?_) ?_ ?_
 .have h1:(k:Int)<(T.cm.length:Int):=aa
  obtain⟨g,hg⟩:∃g,T.cm[k]=g:=⟨_,rfl⟩;have yQ:g∈T.cm:=hg▸alx Aa;have⟨gi,gj,gp,gq,hgi,hgj,hgp,hgq,hra,hrb,hmt⟩:=Ku hV yQ;have OP:=ab8 (pS T l a r) (T.cm.take k);rw[ayz]at OP;have bG:∀X:PV,(((dD T l a r).toList++(T.cm.take k).filterMap (pS T l a r)).map aK.pv++[X]).length*40<=au/\0<40:=λX=>WI _ ao;have ve:((dD T l a r).toList++(T.cm.take (k+1)).filterMap (pS T l a r)).map aK.pv=((dD T l a r).toList++(T.cm.take k).filterMap (pS T l a r)).map aK.pv++(pS T l a r g).toList.map aK.pv:=by simp_all[H4,ayt,aya]
  rw[ve];generalize ((dD T l a r).toList++(T.cm.take k).filterMap (pS T l a r)).map aK.pv=ov at bG;simp only[xy];simp only[mM,tb,te,h1,By,af,AT,ta Aa,hg,IN,ab,Zv,Zw,Zx,JV,F9,DN,asInt,aJ,dQ];unfold pS;by_cases hga:g.a=r.bg
  .have hfk:=Zz (T:=T) (ayn hl bj) hk r.day hrb;simp only[hga,ayk,aq3,AI,OF,By,hfk,ab];cases hf:jq l (g.b,r.day,0) l.length with
   |none=>
    have afA:(F4 (Z:Option Nat))<0:=bj
    simp only[afA,By,Option.bind_none,azq,ay6,ayF,ag (aa:k<9223372036854775807)]
   |some b=>
    have⟨Z3,q,hq,hqk⟩:=Ax hf;have hqm:=awU hq;have hqc:=hc q hqm;have hmp:=Uy r.calls q.calls (aAG Jm bj) (aAG hqc bj) g.stop;have hqt:q.bg=g.b/\q.day=r.day:=by simp_all[aW.key,aq4]
    have hmB:mX r.calls q.calls g.stop=true:=by
     obtain⟨hd,i1,x1,hi1,hx1,e1⟩:=vA (hk r Tn) (by rw[<-hga];omega);obtain⟨_,i2,x2,hi2,hx2,e2⟩:=vA (hk q hqm) (by rw[hqt.1];omega);have:i1=gi:=aa
     subst this;have:i2=gj:=aa
     subst this;rw[hgp]at hx1;cases hx1;rw[hgq]at hx2;cases hx2;have c1:r.calls=gp.calls.map (EY (jw r.day)):=by rw[e1];rfl
     have c2:q.calls=gq.calls.map (EY (jw r.day)):=by rw[<-hqt.2,e2];rfl
     grind [Zr]
    rw[Zs,hmB]at hmp;have hnn:¬(b:Int)<0:=aa
    have hio:F4 (U b)=(b:Int):=rfl;have hw:C .i64 ((r.calls.length:Int)-1)=(r.calls.length:Int)-1:=bJ aa aa;simp only[hnn,OF,hio,af,AT,hq,IN,ab,DN,aJ,By,hmp,bY,asInt,asBool,al6,are,Nat.reduceAdd,Uz,WK,ayg,bW,bh,hnx,te,hw,hmB,ax7,false_or];by_cases he:dD T l a r=U ⟨a,(mI r.calls q.calls g.stop).1,b,(mI r.calls q.calls g.stop).2,Y⟩
    .have h3:=(ZA hf).1 he;have hye:(O (eW T.df r.bg=U g.b)&&O ((mI r.calls q.calls g.stop).1=(r.calls.length:Int)-1)&&O ((mI r.calls q.calls g.stop).2=0))=true:=av
     rw[BY he,BY hye];grind [Option.toList_none,ag]
    .have cO:¬(O (eW T.df r.bg=U g.b)&&O ((mI r.calls q.calls g.stop).1=(r.calls.length:Int)-1)&&O ((mI r.calls q.calls g.stop).2=0))=true:=by intro h;simp only[T1,tb]at h;grind [ZA]
     rw[IT he,IT cO];have Tn:=bG (PV.agg [.int .i64 (a:Int),.int .i64 (mI r.calls q.calls g.stop).1,.int .i64 (b:Int),.int .i64 (mI r.calls q.calls g.stop).2,.bool J]);refine(BY Tn).trans ?_;rw[ag (aa:k<9223372036854775807)];rfl
  .simp only[hga,ayf,ayi,By,OF,azq,ay6,ayF,ag (aa:k<9223372036854775807)]
 .simp only[mM,xy,tb,te,awV,OF,ays,ir]
 .grind [rounds,decide]
 simp
theorem ajP(T:aw)(hT:ru T)(gW:T.Ok)(hV:dn T)(l:List aW)(hl:l.length<=1024)(hk:∀r∈l,dJ T r=Y)(hc:∀r∈l,r.calls.length<=40)(a:Nat)(r:aW)(ha:l[a]?=U r):zw [T.pv,.rs 8 (l.map aW.pv),.int .i64 a]=U (.rs 5 ((ir T l a r).map aK.pv)):=by
 have Jm:=hc r (awU ha);have ve:=ZB T.df gW.df.1 r.bg;have F3:=agj T hT hV l hl hk hc a r ha;simp only[zw,Kn,VM,VN,VO,VP,VQ,VR,VS,VT,VU,VV,VW,E0,E1,E2,aJ,asInt,By,ab,af,AT,ha,IN,JV,F9,DN,ve];cases hn:eW T.df r.bg with
 |none=>
  have:=F3 0 J (λx=>av);have fL:dD T l a r=none:=by unfold dD;rw[hn];rfl
  rw[fL]at this;simp only[rO,bY,asInt,asBool,al6,are,Nat.reduceAdd,By,ab,Uz,WK,AI,OF];exact this
 |some n=>
  have:=F3 n Y (λx=>by rw[hn];simp);have hfk:=Zz (T:=T) (ayn hl bj) hk r.day (ajO hV hn);simp only[rO,bY,asInt,asBool,al6,are,Nat.reduceAdd,By,ab,Uz,WK,hfk];cases hf:jq l (n,r.day,0) l.length with
  |none=>
   have fL:dD T l a r=none:=by unfold dD;simp_all
   rw[fL]at this;have afA:¬F4 (Z:Option Nat)>=0:=bj
   simp only[afA,ayf,AI,OF];exact this
  |some b=>
   have hw:C .i64 ((r.calls.length:Int)-1)=(r.calls.length:Int)-1:=bJ aa aa;have fL:dD T l a r=U ⟨a,(r.calls.length:Int)-1,b,0,Y⟩:=by unfold dD;simp_all
   rw[fL]at this;have fa:F4 (U b)>=0:=by show(b:Int)>=0;omega
   simp only[fa,ayk,By,aJ,ab,te,hw];exact this
def oL(T:aw)(l:List aW)(a:Nat):List aK:=match l[a]? with|some r=>ir T l a r|none=>[]
def bk(T:aw)(l:List aW)(n:Nat):List aK:=(I n).flatMap (oL T l)
theorem kr(T:aw)(l:List aW)(n:Nat):bk T l (n+1)=bk T l n++oL T l n:=by simp[bk,ayP,az0]
theorem ZC(T:aw)(hT:ru T)(l:List aW)(a:Nat):(oL T l a).length<=141:=by
 unfold oL;cases l[a]? with
 |none=>simp
 |some r=>simp only[ir,ax9];have h1:=RO (dD T l a r);have h2:=ab8 (pS T l a r) T.cm;have:=hT.cm;omega
theorem FG(T:aw)(hT:ru T)(l:List aW):∀n,(bk T l n).length<=141*n
 |0=>by simp[bk]
 |n+1=>by rw[kr,ax9];have:=FG T hT l n;have:=ZC T hT l n;omega
def kj(m:List aK)(e:Int):PV:=.b8 [.rs 5 (m.map aK.pv),.int .i64 e]
def MI(T:aw)(l:List aW):PV:=match RN T l with
 |some e=>kj [] e
 |none=>if(bk T l l.length).length>1024 then kj [] 5 else kj (bk T l l.length) 0
theorem ajQ(T:aw)(hT:ru T)(gW:T.Ok)(l:List aW)(hl:l.length<=1024)(hc:∀r∈l,r.calls.length<=40):cD.run (qg cD) (l.map aW.pv,mpv l,(l.length:Int),0,xy T ([],()))=U (if(bk T l l.length).length>1024 then kj [] 5 else kj (bk T l l.length) 0):=by
 refine(aC (λk=>(l.map aW.pv,mpv l,(l.length:Int),(k:Int),xy T ((bk T l k).map aK.pv,()))) l.length (λk=>if(λj=>(bk T l j).length) (k+1)>1024 then U (U (kj [] 5))else Z) (fin:=U (kj (bk T l l.length) 0)) (λk hk rec=>?_) (λrec=>?_) ?_ ?_).trans ?_
 .have h1:(k:Int)<(l.length:Int):=aa
  have hof:=al3 T hT gW l hl hc k l[k] (ta hk);have O1:oL T l k=ir T l k l[k]:=by grind [oL,List.getElem?_eq_getElem]
  have hlen:=FG T hT l (k+1);have bG:=WI ((bk T l k).map aK.pv++(ir T l k l[k]).map aK.pv) (by grind [kr,List.length_append,List.length_map]);have hll:((bk T l k).map aK.pv++(ir T l k l[k]).map aK.pv).length=(bk T l (k+1)).length:=by rw[kr,O1];simp
  simp only[xy];simp only[qg,tb,h1,By,Z8,hof,ab,aJ];have hmp:(bk T l (k+1)).map aK.pv=(bk T l k).map aK.pv++(ir T l k l[k]).map aK.pv:=by rw[kr,O1,aya]
  rw[BY bG,hll,<-hmp];by_cases hb:(bk T l (k+1)).length>1024
  .rw[BY (show(((bk T l (k+1)).length:Nat):Int)>1024 by omega),BY hb];rfl
  .rw[IT (show¬(((bk T l (k+1)).length:Nat):Int)>1024 by omega),IT hb,ag (aa:k<9223372036854775807)];rfl
 .simp only[qg,xy,tb,awV,OF];rfl
 .grind [rounds,decide]
 .rfl
 .rw[Ec (λj=>(bk T l j).length) (λk=>by grind [bk,kr,List.length_append]) (by simp[bk])];by_cases hb:(bk T l l.length).length>1024
  .rw[BY hb,BY hb];rfl
  .rw[IT hb,IT hb];rfl
theorem abf(T:aw)(hT:ru T)(gW:T.Ok)(l:List aW)(hl:l.length<=1024)(hc:∀r∈l,r.calls.length<=40)(p i e:Int)(hw:fg [T.pv]=U (tx p i e)):zx [T.pv,.rs 8 (l.map aW.pv)]=U (if e=0 then MI T l else kj [] e):=by
 have abW:=ab7 T hT gW l (ayn hl bj);have ajy:¬((l.length:Int)>1024):=aa
 simp only[zx,Ke,VM,VN,VO,VP,VQ,VR,VS,VT,VU,VV,VW,E0,E1,E2,aJ,asInt,By,ab,Z8,hw,tx,bY,al6,are,Nat.reduceAdd,Uz,WK,dQ,te,tb,ajy,OF,abW];by_cases he:e=0
 .simp only[he,ayk,aq3,AI,OF,By];unfold MI;cases hx:RN T l with
  |some e'=>
   have cO:e'≠0:=by have⟨k,_,hk⟩:=ayC hx;grind [I1,decide]
   simp only[ab,dX,al6,are,Nat.reduceAdd,By,Uz,WK,cO,ayf,ayi];rfl
  |none=>have ho:=ajQ T hT gW l hl hc;simp only[xy]at ho;simp only[ab,mpv,dX,al6,are,Nat.reduceAdd,By,Uz,WK,ayk,aq3,AI,OF];exact ho
 .simp only[he,ayf,ayi,By,OF];rfl
theorem agk(l:List aW)(k)(n:Nat):(I n).any (kat l k)=(jq l k n).isSome:=by unfold jq;grind
theorem al4(T:aw)(hT:ru T)(gW:T.Ok)(hV:dn T)(l:List aW)(hl:l.length<=1024)(hk:∀r∈l,dJ T r=Y)(hc:∀r∈l,r.calls.length<=40):cD.run (uA cD) (l.map aW.pv,0,xy T ([],()))=U (if(bk T l l.length).length>1024 then kj [] 5 else kj (bk T l l.length) 0):=by
 refine aM (λ(k:Nat)=>(l.map aW.pv,(k:Int),xy T ((bk T l k).map aK.pv,()))) l.length (λk Aa rec=>?_) (λrec=>?_) ?_ ?_
 .have h1:(k:Int)<(l.length:Int):=aa
  have hof:=ajP T hT gW hV l hl hk hc k l[k] (ta Aa);have O1:oL T l k=ir T l k l[k]:=by simp_all[oL,ta]
  have hlen:=FG T hT l (k+1);have bG:=WI ((bk T l k).map aK.pv++(ir T l k l[k]).map aK.pv) (by grind [kr,List.length_append,List.length_map]);simp only[xy];simp only[uA,tb,te,h1,By,Z8,hof,ab,aJ];rw[BY bG,kr,O1,aya,ag (aa:k<9223372036854775807)]
 .simp only[uA,xy,tb,te,awV,OF];by_cases hb:(bk T l l.length).length>1024
  .rw[BY hb,BY aa];rfl
  .rw[IT hb,IT aa];rfl
 .grind [rounds,decide]
 rfl
theorem agl{T:aw}{l:List aW}(h:RN T l=Z):∀r∈l,dJ T r=true:=λr hr=>by have⟨k,hk⟩:=ayc.1 hr;unfold RN at h;have:=azC.1 h k (ayB.2 (No.1 hk).1);unfold I1 at this;grind
theorem afj(T:aw)(hT:ru T)(gW:T.Ok)(l:List aW)(hl:l.length<=1024)(hc:∀r∈l,r.calls.length<=40)(p i e:Int)(hw:mN [T.pv]=U (tx p i e))(hV:e=0->dn T):wI [T.pv,.rs 8 (l.map aW.pv)]=U (if e=0 then MI T l else kj [] e):=by
 have ajy:¬((l.length:Int)>1024):=aa
 simp only[wI,HT,VM,VN,VO,VP,VQ,VR,VS,VT,VU,VV,VW,E0,E1,E2,aJ,asInt,By,ab,Z8,hw,tx,bY,al6,are,Nat.reduceAdd,Uz,WK,dQ,te,tb,ajy,OF];by_cases he:e=0
 .simp only[he,ayk,aq3,AI,OF,By];refine(mL (λk=>(l.map aW.pv,(k:Int),xy T ())) l.length (λk=>(I1 T l k).map λe=>U (kj [] e)) (fin:=U (if(bk T l l.length).length>1024 then kj [] 5 else kj (bk T l l.length) 0)) (λk hk _ rec=>?_) (λSI rec=>?_) ?_ rfl).trans ?_
  .have h1:(k:Int)<(l.length:Int):=aa
   have hb:I1 T l k=if dJ T l[k]=J then U 9 else if(jq l l[k].key k).isSome=Y then U 6 else none:=by grind [I1,List.getElem?_eq_getElem]
   have hkn:=age T hT gW l[k];simp only[xy];simp only[Bh,tb,te,h1,By,af,AT,ta hk,IN,ab,Z8,ah9,hkn,asBool];rw[hb];cases dJ T l[k]with
   |false=>rfl
   |true=>
    simp only[aq3,AI,OF,ax7];refine(dG (λj=>(l.map aW.pv,(k:Int),(j:Int),xy T ())) k (kat l l[k].key) (no:=U (kj [] 6)) (fin:=rec (l.map aW.pv,((k+1:Nat):Int),xy T ())) (λj hj awR=>?_) (λawR=>?_) ?_ rfl).trans ?_
    .have h2:(j:Int)<(k:Int):=aa
     have xQ:j<l.length:=aa
     have awS:kat l l[k].key j=(O (l[j].bg=l[k].bg)&&O (l[j].day=l[k].day)&&O (l[j].inst=l[k].inst)):=by grind [Pe,aW.key]
     simp only[xy];simp only[Bi,tb,h2,By,af,AT,ta hk,ta xQ,IN,ab,JV,F9,MG,asInt,bW,bh,ag (aa:j<9223372036854775807),awS];rfl
    .simp only[Bi,xy,tb,awV,OF,ag (aa:k<9223372036854775807)]
    .grind [rounds,decide]
    .rw[agk];cases(jq l l[k].key k).isSome<;>rfl
  .have hn:RN T l=none:=by simp_all[RN,azC]
   have ho:=al4 T hT gW (hV he) l hl (agl hn) hc;simp_all[xy,Bh,tb,te,awV,OF]
  .grind [rounds,decide]
  .unfold MI RN;have:∀L:List Nat,(L.findSome? λk=>(I1 T l k).map λe=>U (kj [] e))=(L.findSome? (I1 T l)).map λe=>U (kj [] e):=λL=>by
    induction L with
    |nil=>rfl
    |cons a L ih=>grind
   rw[this];cases(I l.length).findSome? (I1 T l)<;>rfl
 .simp only[he,ayf,ayi,By,OF];rfl
structure ab9(l:List aW)(x:aK):Prop where
 ends:∃(a b:Nat)(r q:aW)(i k:Nat)(c d:ar),x.a=a/\x.b=b/\a≠b/\l[a]?=U r/\l[b]?=U q/\r.day=q.day/\x.ac=i/\x.bc=k/\r.calls[i]?=U c/\q.calls[k]?=U d/\c.stop=d.stop/\¬d.dep<c.arr/\(x.stay=Y->i+1=r.calls.length/\k=0)
def aK.key(x:aK):Int×Int×Int×Int:=(x.a,x.ac,x.b,x.bc)
theorem ajR{a b:List ar}{s:Int}(h:mX a b s=Y):∃(i k:Nat)(c d:ar),mI a b s=((i:Int),(k:Int))/\a[i]?=U c/\b[k]?=U d/\c.stop=s/\d.stop=s/\¬d.dep<c.arr:=by
 unfold mX at h;unfold mI;cases hi:(I a.length).find? (Bg a s)with
 |none=>rw[hi]at h;cases h
 |some i=>
  rw[hi]at h;simp only at h⊢;cases hk:(I b.length).find? (yI b s)with
  |none=>rw[hk]at h;cases h
  |some k=>rw[hk]at h;simp only at h⊢;rw[BY h];grind [Bg,yI,mtB]
variable{a:Nat}{T:aw}{l:List aW}{r:aW}{x:aK}
theorem O5(hV:dn T)(hk:∀r∈l,dJ T r=Y)(ha:l[a]?=U r)(hx:dD T l a r=U x):ab9 l x/\x.a=a/\x.stay=true:=by
 unfold dD at hx;have⟨n,hn,hx⟩:=IS.1 hx;have⟨b,hb,hx⟩:=asI.1 hx;have⟨Z3,q,hq,hqk⟩:=Ax hb;have ZZ:=hn;unfold eW at ZZ;have⟨y,hy,hyb⟩:=asI.1 ZZ;have hym:=azk hy;have hya:y.a=r.bg:=ao
 have⟨hp,nI⟩:=IE hV hym;have⟨gi,gj,hgi,hgj,NS,xQ⟩:=E6 y.a y.b T.ai hp;have cO:y.a≠y.b:=by simp_all[sk,ayp,ayv]
 have hra:xo T.br y.a=J/\xo T.br y.b=false:=by simp_all[jQ]
 simp only[aW.key,aq4]at hqk;have⟨hd,i1,x1,hi1,hx1,e1⟩:=vA (hk r (awU ha)) av;have⟨_,i2,x2,hi2,hx2,e2⟩:=vA (hk q (awU hq)) ao;have c1:r.calls=x1.calls.map (EY (jw r.day)):=by rw[e1];rfl
 have c2:q.calls=x2.calls.map (EY (jw r.day)):=by rw[<-hqk.2.1,e2];rfl
 have⟨kk,Aa⟩:=ayc.1 hym;have al5:xC x1 x2=0:=by
  have h6:(tB T.df T.ai T.br).2=0:=hV 6 aa;unfold tB at h6;by_cases h:T.df.length>128
  .grind
  .rw[IT h]at h6;have he:=mJ _ _ h6 kk (No.1 Aa).1;unfold G1 at he;grind
 have tp:=nW hV hx1;have tq:=nW hV hx2;have⟨_,hD0,hD1⟩:=O3 hd;have hl1:x1.calls.length-1<x1.calls.length:=by have:=tp.two;omega
 have hl2:0<x2.calls.length:=by have:=tq.two;omega
 have g1:=ta hl1;have g2:=ta hl2;unfold xC at al5;by_cases Vg:(!decide (x1.Dd=x2.Dd))=Y
 .grind
 .rw[IT Vg,g1,g2]at al5;simp only at al5;by_cases hs:(!decide (x1.calls[x1.calls.length-1].stop=x2.calls[0].stop))=Y
  .grind
  .rw[IT hs]at al5;by_cases ht:x2.calls[0].dep<x1.calls[x1.calls.length-1].arr
   .omega
   .have hy1:=tp.call _ _ g1;have hy2:=tq.call _ _ g2;have w1:(EY (jw r.day) x1.calls[x1.calls.length-1]).arr=x1.calls[x1.calls.length-1].arr+jw r.day:=bJ aa aa;have w2:(EY (jw r.day) x2.calls[0]).dep=x2.calls[0].dep+jw r.day:=bJ aa aa;have Vl:r.calls.length=x1.calls.length:=by rw[c1,te]
    have htw:=tp.two;subst hx;refine⟨⟨a,b,r,q,x1.calls.length-1,0,EY (jw r.day) x1.calls[x1.calls.length-1],EY (jw r.day) x2.calls[0],rfl,rfl,?_,ha,hq,hqk.2.1.symm,?_,rfl,?_,?_,?_,?_,λ_=>⟨aa,rfl⟩⟩,rfl,rfl⟩
    .grind
    .simp only[Vl];omega
    .grind
    .grind
    .have:x1.calls[x1.calls.length-1].stop=x2.calls[0].stop:=by simpa using hs
     exact this
    omega
theorem LN(hV:dn T)(ha:l[a]?=U r){g:ju}(hg:g∈T.cm)(hx:pS T l a r g=U x):ab9 l x/\x.a=a/\g.a=r.bg/\dD T l a r≠U {x with stay:=Y}/\∃(b i:Nat)(q:aW)(c:ar),x.b=b/\l[b]?=U q/\g.b=q.bg/\x.ac=i/\r.calls[i]?=U c/\c.stop=g.stop:=by
 have⟨gi,gj,gp,gq,hgi,hgj,_,_,_,_,_⟩:=Ku hV hg;have cO:g.a≠g.b:=by
  have⟨k,hk⟩:=ayc.1 hg;have h7:(nC T.cm T.ai T.br T.stops.length).2=0:=hV 7 aa;unfold nC at h7;by_cases h:T.cm.length>128
  .simp_all
  .rw[IT h]at h7;have he:=mJ _ _ h7 k (No.1 hk).1;unfold Cj at he;rw[hk]at he;simp only at he;by_cases h1:(sk g.a g.b T.ai.length|| !I2 g.stop T.stops.length)=Y
   .simp_all
   simp_all[ayj,aAI,ay1,sk,ayp,ayv]
 unfold pS at hx;by_cases hga:g.a=r.bg
 .rw[BY hga]at hx;have⟨b,hb,hx⟩:=IS.1 hx;have⟨q,hq,hx⟩:=IS.1 hx;have⟨_,q',Sa,hqk⟩:=Ax hb;rw[hq]at Sa;cases Sa;simp only[aW.key,aq4]at hqk;by_cases hc:mX r.calls q.calls g.stop=J\/dD T l a r=U ⟨a,(mI r.calls q.calls g.stop).1,b,(mI r.calls q.calls g.stop).2,Y⟩
  .simp_all
  .rw[IT hc]at hx;rw[aAI]at hc;obtain⟨i,k,c,d,hm,hci,hdk,St,hds,ht⟩:=ajR (show mX r.calls q.calls g.stop=Y by simpa using hc.1);rw[hm]at hx hc;simp only[tc]at hx;subst hx;refine⟨⟨a,b,r,q,i,k,c,d,rfl,rfl,?_,ha,hq,hqk.2.1.symm,rfl,rfl,hci,hdk,aa,ht,λh=>by cases h⟩,rfl,hga,hc.2,b,i,q,c,rfl,hq,hqk.1.symm,rfl,hci,St⟩;grind
 simp_all
theorem ZD(hV:dn T):T.cm.Pairwise λg h=>g≠h:=by
 rw[ayL];intro i j hi hj hij e;have h7:(nC T.cm T.ai T.br T.stops.length).2=0:=hV 7 aa;unfold nC at h7;by_cases h:T.cm.length>128
 .simp_all
 .rw[IT h]at h7;have he:=mJ _ _ h7 j hj;unfold Cj at he;rw[ta hj]at he;simp only at he;have⟨gi,gj,gp,gq,hgi,hgj,hgp,hgq,hra,hrb,hmt⟩:=Ku hV (alx hj);have t1:T.ai[T.cm[j].a.toNat]?=U gp:=av
  have t2:T.ai[T.cm[j].b.toNat]?=U gq:=av
  by_cases h1:(sk T.cm[j].a T.cm[j].b T.ai.length|| !I2 T.cm[j].stop T.stops.length)=Y
  .simp_all
  .rw[IT h1]at he;by_cases h2:jQ T.br T.cm[j].a T.cm[j].b=Y
   .simp_all
   .rw[IT h2,t1,t2]at he;simp only at he;rw[IT (by simp[hmt])]at he;have bt:T.cm[j]∈T.cm.take j:=by rw[<-e,ayc];exact⟨i,av⟩
    simp_all
theorem WJ(hV:dn T)(hk:∀r∈l,dJ T r=Y)(ha:l[a]?=U r):(ir T l a r).Pairwise λx y=>x.key≠y.key:=by
 unfold ir;rw[ay9];refine⟨?_,?_,?_⟩
 .simp
 .rw[List.pairwise_filterMap];refine ayY (R:=λg h=>g≠h) (λ{g h}hg hh cO x hx y hy e=>?_) (ZD hV);have⟨_,_,hga,_,b,i,q,c,hb,hq,hgb,hi,hc,St⟩:=LN hV ha hg hx;have⟨_,_,ax3,_,b',i',q',c',mH,Sa,ax4,sC,hc',ax5⟩:=LN hV ha hh hy;simp only[aK.key,aq4]at e;have eb:b=b':=aa
  have ei:i=i':=aa
  subst eb;subst ei;rw[hq]at Sa;cases Sa;rw[hc]at hc';cases hc';apply cO;obtain⟨g1,g2,g3⟩:=g;obtain⟨k1,k2,k3⟩:=h;simp_all
 .intro x hx y hy e;have⟨g,hg,hy⟩:=az3.1 hy;have⟨_,hya,_,Sq,_⟩:=LN hV ha hg hy;have PN:dD T l a r=U x:=av
  have⟨_,hxa,ax6⟩:=O5 hV hk ha PN;apply Sq;rw[PN];simp only[aK.key,aq4]at e;obtain⟨x1,x2,x3,x4,x5⟩:=x;simp_all
theorem adz(hV:dn T)(hk:∀r∈l,dJ T r=Y){n:Nat}(hx:x∈bk T l n):ab9 l x:=by
 have⟨a,_,hx⟩:=ayG.1 hx;unfold oL at hx;cases ha:l[a]? with
 |none=>rw[ha]at hx;cases hx
 |some r=>
  rw[ha]at hx;simp only[ir,ayq,az3]at hx;rcases hx with hx|⟨g,hg,hx⟩
  .grind [dD,Option.toList_some,List.mem_singleton,O5]
  .exact(LN hV ha hg hx).1
theorem auz(hV:dn T)(hk:∀r∈l,dJ T r=Y)(hx:x∈oL T l a):x.a=a:=by
 unfold oL at hx;cases ha:l[a]? with
 |none=>rw[ha]at hx;cases hx
 |some r=>
  rw[ha]at hx;simp only[ir,ayq,az3]at hx;rcases hx with hx|⟨g,hg,hx⟩
  .cases hs:dD T l a r with
   |none=>rw[hs]at hx;cases hx
   |some z=>rw[hs]at hx;simp only[aAJ,ayZ]at hx;subst hx;exact(O5 hV hk ha hs).2.1
  .exact(LN hV ha hg hx).2.1
theorem aiy(hV:dn T)(hk:∀r∈l,dJ T r=Y)(n:Nat):(bk T l n).Pairwise λx y=>x.key≠y.key:=by
 unfold bk;rw[aze];refine⟨λa _=>?_,?_⟩
 .unfold oL;cases ha:l[a]? with
  |none=>simp
  |some r=>exact WJ hV hk ha
 .refine ayY (R:=λa b=>a≠b) (λ{a b}_ _ h x hx y hy e=>?_) aAe;have h1:=auz hV hk hx;have h2:=auz hV hk hy;have:x.a=y.a:=congrArg (λk=>k.1) e;omega
theorem JY{a b:Int}(ha:oJ a=Y)(hb:oJ b=Y){n:Nat}(hn:a+n<=b+1)(hr:r∈bQ T a n):dJ T r=true:=by have⟨d,hd,hr⟩:=ayG.1 hr;have aso:=HX hr;have hdl:=ayB.1 hd;have h1:=(xn a).1 ha;have h2:=(xn b).1 hb;unfold dJ;rw[T1,tb,aso];grind [xn]
theorem abd{a b:Int}(ha:oJ a=Y)(hb:oJ b=Y){n:Nat}(hn:a+n<=b+1):RN T (bQ T a n)=none:=by
 unfold RN;rw[azC];intro k hk;have jK:=ayB.1 hk;unfold I1;rw[ta jK];simp only;rw[JY ha hb hn (alx jK)];have JN:jq (bQ T a n) (bQ T a n)[k].key k=none:=by unfold jq;rw[azF];intro j hj;have hjk:=ayB.1 hj;have hp:=ayL.1 (Jp T a n) j k aa jK hjk;grind [Pe]
 rw[JN];simp
end Go.Ab.Tt
namespace Go.Ab.Nw
set_option maxRecDepth 100000
variable{i:Nat}
theorem E3{inf n j:Nat}{E:List Ed}(hE:∀y∈E,y.f<n/\y.t<n)(hi:i<n)(hj:j<n):dk n (start inf E) n i j<=inf/\(dk n (start inf E) n i j<inf->lj (ew E) i j (dk n (start inf E) n i j))/\∀L,lj (ew E) i j L->dk n (start inf E) n i j<=L:=by have hd:=(E4 (n:=n) (inf:=inf) E).rounds n (ayd _);refine⟨hd.fw.top i j hi hj,hd.fw.real i j hi hj,λL hL=>?_⟩;obtain⟨C10,c1,c2⟩:=hL.via (n:=n) (λa b c h=>(hE _ h).1);exact ayn (hd.low i j hi hj C10 c2) c1
theorem aiq{w w':Nat->Nat->Nat->Prop}(h:∀i j c,w i j c->lj w' i j c){j L:Nat}(hw:lj w i j L):lj w' i j L:=by
 induction hw with
 |GL e=>exact h _ _ _ e
 |snoc _ e ih=>exact ih.join (h _ _ _ e)
theorem air{inf n M:Nat}{E E':List Ed}(hM:M<inf)(hE:∀y∈E,y.f<n/\y.t<n)(hE':∀y∈E',y.f<n/\y.t<n)(h1:∀y∈E',lj (ew E) y.f y.t y.c){j:Nat}(hi:i<n)(hj:j<n)(h2:dk n (start inf E) n i j<=M->(⟨i,j,dk n (start inf E) n i j⟩:Ed)∈E'):dk n (start inf E') n i j=dk n (start inf E) n i j\/(M<dk n (start inf E) n i j/\M<dk n (start inf E') n i j):=by
 obtain⟨a1,a2,a3⟩:=E3 (inf:=inf) hE hi hj;obtain⟨b1,b2,b3⟩:=E3 (inf:=inf) hE' hi hj;have hle:dk n (start inf E) n i j<=dk n (start inf E') n i j:=by
  by_cases h:dk n (start inf E') n i j<inf
  .exact a3 _ (aiq (λa b c hc=>h1 _ hc) (b2 h))
  omega
 by_cases h:dk n (start inf E) n i j<=M
 .have:=b3 _ (.GL (h2 h));omega
 omega
theorem aop{w f:Int}{k:Nat}{e:List PV}(h:e∈Yp w f i k):i≠k/\w<=14400/\((e=VX i k w (f==w))\/(e=VX i k f Y/\w<f/\f<=14400)):=by unfold Yp at h;grind
theorem ais{w f w' f':Int}(hw:w'=w\/(14400<w/\14400<w'))(hf:f'=f\/(14400<f/\14400<f'))(i k:Nat):Yp w' f' i k=Yp w f i k:=by
 unfold Yp;by_cases h:i=k\/w>14400
 .grind
 .rw[IT h,IT aa];have hw':w'=w:=aa
  subst hw';rcases hf with rfl|hf
  .rfl
  .rw[IT aa,IT aa];have e1:(f'==w')=false:=ao
   have e2:(f==w')=false:=ao
   rw[e1,e2]
end Go.Ab.Nw
namespace Go.Ab.Tt
theorem G0{A B:Type}[DecidableEq B]{l:List A}{f:A->B}(h:l.Pairwise λa b=>f a≠f b){k:Nat}(hk:k<l.length):f l[k]∉(l.map f).take k:=by
 rw[ayc];rintro⟨j,hj⟩;have hjk:j<k:=ao
 rw[azr hjk,AT,ta aa]at hj;exact ayL.1 h j k aa hk hjk (by simpa using hj)
section
variable {l:List Path} {n:Nat}
variable{W F:Nat->Nat->Int}
theorem QT{p:Path}(h:p∈(Nw.Ga n W F).map zg):∃i k,i<n/\k<n/\i≠k/\W i k<=14400/\(p=⟨i,k,W i k,F i k==W i k⟩\/(p=⟨i,k,F i k,Y⟩/\W i k<F i k/\F i k<=14400)):=by
 obtain⟨e,he,rfl⟩:=ayl.1 h;have⟨i,hi,he⟩:=ayG.1 he;have⟨k,hk,he⟩:=ayG.1 he;have⟨h1,h2,h3⟩:=Nw.aop he;refine⟨i,k,ayB.1 hi,ayB.1 hk,h1,h2,?_⟩;rcases h3 with rfl|⟨rfl,h3⟩
 .exact .inl rfl
 .exact .inr ⟨rfl,h3⟩
variable{i k:Nat}
theorem Yq(hi:i<n)(hk:k<n)(Se:i≠k)(hW:W i k<=14400):(⟨i,k,W i k,F i k==W i k⟩:Path)∈(Nw.Ga n W F).map zg/\(W i k<F i k->F i k<=14400->(⟨i,k,F i k,Y⟩:Path)∈(Nw.Ga n W F).map zg):=by
 have nJ:∀e∈Nw.Yp (W i k) (F i k) i k,e∈Nw.Ga n W F:=λe he=>ayG.2 ⟨i,ayB.2 hi,ayG.2 ⟨k,ayB.2 hk,he⟩⟩;have hit:Nw.Yp (W i k) (F i k) i k=Nw.VX i k (W i k) (F i k==W i k)::(if F i k>W i k/\F i k<=14400 then[Nw.VX i k (F i k) Y]else[]):=by simp_all[Nw.Yp,IT]
 refine⟨ayl.2 ⟨_,nJ (Nw.VX i k (W i k) (F i k==W i k)) (by rw[hit];simp),rfl⟩,λh1 h2=>ayl.2 ⟨_,nJ (Nw.VX i k (F i k) Y) av,rfl⟩⟩
theorem tA{l:List Path}{fr:Bool}{y:Nw.Ed}:y∈Nw.counted fr (l.map toFp)↔∃p∈l,(fr=Y->p.free=Y)/\y=⟨p.a.toNat,p.b.toNat,p.ck.toNat⟩:=by
 unfold Nw.counted;simp only[ayl,ayr];constructor
 .rintro⟨q,⟨⟨p,hp,rfl⟩,hf⟩,rfl⟩;exact⟨p,hp,λh=>by simpa[h,toFp]using hf,rfl⟩
 .rintro⟨p,hp,hf,rfl⟩;refine⟨toFp p,⟨⟨p,hp,rfl⟩,?_⟩,rfl⟩;cases fr with
  |false=>rfl
  |true=>simp[toFp,hf rfl]
theorem Aw(h:Sound l n)(fr:Bool):∀y∈Nw.counted fr (l.map toFp),y.f<n/\y.t<n/\1<=y.c:=by intro y hy;obtain⟨p,hp,_,rfl⟩:=tA.1 hy;have:=h p hp;grind
theorem ait(h:Sound l n)(fr:Bool)(hi:i<n)(hk:k<n):1<=Nw.gA n (l.map toFp) fr i k:=by
 obtain⟨a1,a2,a3⟩:=Nw.E3 (inf:=Nw.rA) (λy hy=>⟨(Aw h fr y hy).1,(Aw h fr y hy).2.1⟩) hi hk;unfold Nw.gA;by_cases bX:Nw.dk n (Nw.start Nw.rA (Nw.counted fr (l.map toFp))) n i k<Nw.rA
 .have:=(a2 bX).pos λa b c hc=>(Aw h fr _ hc).2.2;omega
 grind
theorem alp(h:Sound l n)(hi:i<n)(hk:k<n):Nw.gA n (l.map toFp) J i k<=Nw.gA n (l.map toFp) Y i k:=by
 obtain⟨a1,a2,a3⟩:=Nw.E3 (inf:=Nw.rA) (λy hy=>⟨(Aw h J y hy).1,(Aw h J y hy).2.1⟩) hi hk;obtain⟨b1,b2,b3⟩:=Nw.E3 (inf:=Nw.rA) (λy hy=>⟨(Aw h Y y hy).1,(Aw h Y y hy).2.1⟩) hi hk;unfold Nw.gA;by_cases bX:Nw.dk n (Nw.start Nw.rA (Nw.counted Y (l.map toFp))) n i k<Nw.rA
 .have:=a3 _ ((b2 bX).mono λa b c hc=>by have⟨p,hp,_,e⟩:=tA.1 hc;exact tA.2 ⟨p,hp,(λh=>by cases h),e⟩);omega
 omega
theorem EZ(h:Sound l n):Sound (dK l n) n:=by intro p hp;have⟨i,k,hi,hk,Se,hW,hp⟩:=QT hp;have h1:=ait h J hi hk;grind
theorem abg(h:Sound l n)(fr:Bool)(hi:i<n)(hk:k<n)(Se:i≠k):Nw.gA n ((dK l n).map toFp) fr i k=Nw.gA n (l.map toFp) fr i k\/(14400<Nw.gA n (l.map toFp) fr i k/\14400<Nw.gA n ((dK l n).map toFp) fr i k):=by
 have asm:Nw.rA=1099511627776:=rfl;have hE:∀fr,∀y∈Nw.counted fr (l.map toFp),y.f<n/\y.t<n:=λfr y hy=>⟨(Aw h fr y hy).1,(Aw h fr y hy).2.1⟩;have hE':∀fr,∀y∈Nw.counted fr ((dK l n).map toFp),y.f<n/\y.t<n:=λfr y hy=>⟨(Aw (EZ h) fr y hy).1,(Aw (EZ h) fr y hy).2.1⟩;have wT:∀i k,i<n->k<n->Nw.gA n (l.map toFp) Y i k<=14400->Nw.lj (Nw.ew (Nw.counted Y (l.map toFp))) i k (Nw.gA n (l.map toFp) Y i k).toNat:=λi k hi hk hle=>by obtain⟨b1,b2,b3⟩:=Nw.E3 (inf:=Nw.rA) (hE Y) hi hk;grind [Nw.gA,Int.toNat_natCast]
 have wF:∀i k,i<n->k<n->Nw.gA n (l.map toFp) J i k<=14400->Nw.lj (Nw.ew (Nw.counted J (l.map toFp))) i k (Nw.gA n (l.map toFp) J i k).toNat:=λi k hi hk hle=>by obtain⟨b1,b2,b3⟩:=Nw.E3 (inf:=Nw.rA) (hE J) hi hk;grind [Nw.gA,Int.toNat_natCast]
 have sub:∀a b c,Nw.ew (Nw.counted Y (l.map toFp)) a b c->Nw.ew (Nw.counted J (l.map toFp)) a b c:=λa b c hc=>by have⟨p,hp,_,e⟩:=tA.1 hc;exact tA.2 ⟨p,hp,(λh=>by cases h),e⟩
 have key:=Nw.air (inf:=Nw.rA) (M:=14400) (E:=Nw.counted fr (l.map toFp)) (E':=Nw.counted fr ((dK l n).map toFp)) aa (hE fr) (hE' fr) (λy hy=>by
  obtain⟨p,hp,hf,rfl⟩:=tA.1 hy;have⟨i,k,hi,hk,Se,hW,hp⟩:=QT hp;rcases hp with rfl|⟨rfl,h3,h4⟩
  .cases fr with
   |false=>exact wF i k hi hk hW
   |true=>
    have e:Nw.gA n (l.map toFp) Y i k=Nw.gA n (l.map toFp) J i k:=by simpa using hf rfl
    have:=wT i k hi hk aa;simp_all
  .cases fr with
   |true=>exact wT i k hi hk h4
   |false=>exact(wT i k hi hk h4).mono sub) hi hk (λhle=>by
  have asn:Nw.gA n (l.map toFp) fr i k<=14400:=by unfold Nw.gA;omega
  have e:Nw.dk n (Nw.start Nw.rA (Nw.counted fr (l.map toFp))) n i k=(Nw.gA n (l.map toFp) fr i k).toNat:=bm
  rw[e];have h0:=alp h hi hk;cases fr with
  |false=>exact tA.2 ⟨_,(Yq hi hk Se asn).1,(λh=>by cases h),bm⟩
  |true=>
   have hc:=Yq (W:=Nw.gA n (l.map toFp) J) (F:=Nw.gA n (l.map toFp) Y) hi hk Se aa;by_cases heq:Nw.gA n (l.map toFp) Y i k=Nw.gA n (l.map toFp) J i k
   .exact tA.2 ⟨_,hc.1,λ_=>by simp[heq],av⟩
   .exact tA.2 ⟨_,hc.2 aa asn,λ_=>rfl,bm⟩)
 grind [Nw.gA]
theorem Yr(h:Sound l n):dK (dK l n) n=dK l n:=by
 show(Nw.Ga n (Nw.gA n ((dK l n).map toFp) J) (Nw.gA n ((dK l n).map toFp) Y)).map zg=(Nw.Ga n (Nw.gA n (l.map toFp) J) (Nw.gA n (l.map toFp) Y)).map zg;congr 1;unfold Nw.Ga;rw[azv,azv];congr 1;apply ayE;intro i hi;rw[azv,azv];congr 1;apply ayE;intro k hk;have hi:=ayB.1 hi;have hk:=ayB.1 hk;by_cases Se:i=k
 .simp_all[Nw.Yp,BY]
 grind [Nw.ais,abg]
theorem afl(l:List Path)(n:Nat):(dK l n).Pairwise λa b=>bH a≠bH b:=by
 unfold dK;rw[aAP];have key:∀{i k:Nat}{w f:Int}{e:List PV},e∈Nw.Yp w f i k->∃s b,zg e=⟨i,k,s,b⟩:=λh=>by obtain⟨s,b,rfl⟩:=Nw.ID h;exact⟨s,b,rfl⟩
 unfold Nw.Ga;rw[aze];refine⟨λi _=>?_,List.pairwise_lt_range.imp λ{i i'}hii x hx y hy=>?_⟩
 .rw[aze];refine⟨λk _=>?_,List.pairwise_lt_range.imp λ{k k'}Aa x hx y hy=>?_⟩
  .unfold Nw.Yp;split
   .simp
   .split
    next hf=>simp only[ay4,ayZ,forall_eq,aA0,false_implies,implies_true,List.Pairwise.nil,aBn];grind [Nw.gA,toFp,bH,zg,Nw.VX,Prod.mk.injEq]
    simp
  .obtain⟨s,b,e⟩:=key hx;have⟨s',b',e'⟩:=key hy;rw[e,e'];simp only[bH,aBg,aq4];omega
 .obtain⟨k,_,hx⟩:=ayG.1 hx;have⟨k',_,hy⟩:=ayG.1 hy;have⟨s,b,e⟩:=key hx;have⟨s',b',e'⟩:=key hy;rw[e,e'];simp only[bH,aBg,aq4];omega
theorem alq(l:List Path)(n:Nat):∀p∈dK l n,p.a≠p.b:=by intro p hp;have⟨i,k,hi,hk,Se,hW,hp⟩:=QT hp;grind
theorem aiu(h:Sound l n):(dp (dK l n) n).2=0:=by
 have hz:(cg (dw (dK l n) n) (dK l n).length).2=0:=(kn _ _).2 λk hk=>by unfold dw;rw[ta hk];simp only;have hs:=EZ h _ (alx hk);have cO:=alq l n _ (alx hk);simp_all[IT,ayj,tb,G0,afl]
 simp_all[dp,BY,vZ,Yr]
end
section
variable {T:aw} {l:List aW}
structure VY(n:Nat)(cs:List ar):Prop where
 two:2<=cs.length
 most:cs.length<=32
 call:∀(k:Nat)(c:ar),cs[k]?=U c->0<=c.stop/\c.stop<(n:Int)/\0<=c.arr/\c.arr<=c.dep/\c.dep<=172800
 step:∀(k:Nat)(c d:ar),cs[k]?=U c->cs[k+1]?=U d->c.dep<=d.arr/\c.stop≠d.stop
theorem abh(hV:dn T){i:Nat}{x:bC}(hx:T.ai[i]?=U x){s:Int}(hs:s∈instI T.br i):VY T.stops.length (bF x.calls s):=by
 have ht:=nW hV hx;have he:=abi hV hx hs;have h2:=ht.two;unfold bF;rw[BY he];obtain⟨c0,cs,hc⟩:∃c0 cs,x.calls=c0::cs:=by
  cases hc:x.calls with
  |nil=>simp_all
  |cons c0 cs=>simp
 have ahr:(x.calls.map ar.dep).headD 0=c0.dep:=by rw[hc];rfl
 rw[ahr];have hb:=(QU c0 cs s).1 (by rw[<-hc];omega);rw[<-hc]at hb;refine⟨av,by rw[te];exact ht.most,λk c h=>?_,λk c d h h'=>?_⟩
 .rw[AT]at h;obtain⟨y,hy,rfl⟩:=asI.1 h;have h1:=ht.call k y hy;grind [ML]
 .rw[AT]at h h';obtain⟨y,hy,rfl⟩:=asI.1 h;obtain⟨z,hz,rfl⟩:=asI.1 h';have h1:=ht.step k y z hy hz;simp only[ML];omega
theorem aiv{c:ar}{p:Option ar}{n lo hi:Int}(h1:0<=c.stop)(h2:c.stop<n)(h3:lo<=c.arr)(h4:c.arr<=c.dep)(h5:c.dep<=hi)(h6:∀q,p=U q->q.dep<=c.arr/\q.stop≠c.stop):lN c p n lo hi=0:=by unfold lN;grind
theorem afm{n:Nat}{cs:List ar}(h:VY n cs){d:Int}(hd:oJ d=Y):(bP (cs.map (EY (jw d))) n 0 3155932800).2=0:=by
 have⟨e,h0,h1⟩:=O3 hd;have h2:=h.two;have h3:=h.most;unfold bP;rw[IT ao];refine(kn _ _).2 λk hk=>?_;rw[te]at hk;unfold ng;rw[AT,ta hk];simp only[IN];have hc:=h.call k _ (ta hk);have w0:(EY (jw d) cs[k]).stop=cs[k].stop:=rfl;have w1:(EY (jw d) cs[k]).arr=cs[k].arr+jw d:=bJ aa aa;have w2:(EY (jw d) cs[k]).dep=cs[k].dep+jw d:=bJ aa aa;refine aiv aa aa aa aa aa λq hq=>?_;cases k with
 |zero=>cases hq
 |succ j=>
  have hj:j<cs.length:=aa
  have hs:=h.step j _ _ (ta hj) (ta hk);have hcj:=h.call j _ (ta hj);have w3:(EY (jw d) cs[j]).dep=cs[j].dep+jw d:=bJ aa aa;have w4:(EY (jw d) cs[j]).stop=cs[j].stop:=rfl;simp_all[gB,EY,jw]
theorem TZ(hV:dn T){i:Nat}{x:bC}(hx:T.ai[i]?=U x):dq x.id=Y/\0<=x.bn/\x.bn<(T.ak.length:Int):=by have h4:(qC T.ai T.stops.length T.ak.length T.eN.length).2=0:=hV 4 aa;grind [qC,mJ,E5]
variable{r:aW}
theorem Lg(hV:dn T)(hk:dJ T r=Y):oJ r.day=Y/\∃(i k:Nat)(x:bC)(cs:List ar),T.ai[i]?=U x/\r=cK x i r.day k cs/\VY T.stops.length cs/\k<=(instI T.br i).length:=by
 unfold dJ at hk;rw[T1,tb]at hk;have⟨i,x,hx,hi,hm⟩:=O4.1 hk.2;refine⟨hk.1,?_⟩;have ht:=nW hV hx;unfold eO at hm;split at hm
 .cases hm
 .split at hm
  .simp only[ayZ]at hm;exact⟨i,0,x,x.calls,hx,hm,⟨ht.two,ht.most,ht.call,ht.step⟩,aAk _⟩
  grind [abh,List.getElem?_eq_getElem,List.getElem_mem]
theorem afn(hV:dn T)(hk:∀r∈l,dJ T r=Y)(hp:l.Pairwise λr s=>r.key≠s.key):l.Pairwise λr s=>cr r≠cr s:=by
 refine ayY (R:=λr s=>r.key≠s.key) (λ{r s}hr hs cO e=>cO ?_) hp;have⟨_,i,k,x,cs,hx,er,_⟩:=Lg hV (hk r hr);have⟨_,j,k',y,R9,hy,es,_⟩:=Lg hV (hk s hs);simp only[cr,aq4]at e;obtain⟨e1,e2,e3⟩:=e;have hid:x.id=y.id:=by rw[er,es]at e1;exact e1
 have hij:=alr hV hx hy hid;have t1:r.bg=i:=by rw[er];rfl
 have t2:s.bg=j:=by rw[es];rfl
 grind [aW.key,Prod.mk.injEq]
theorem aiw(hV:dn T)(hk:∀r∈l,dJ T r=Y)(hp:l.Pairwise λr s=>r.key≠s.key)(hl:l.length<=1024):(jP l T.stops.length T.ak.length).2=0:=by
 unfold jP;rw[IT aa];refine(kn _ _).2 λk jK=>?_;unfold nX;rw[ta jK];simp only;obtain⟨hd,i,m,x,cs,hx,er,St,_⟩:=Lg hV (hk _ (alx jK));have⟨m1,m2,m3⟩:=TZ hV hx;have hd':=(xn _).1 hd;have e1:l[k].id=x.id:=by rw[er];rfl
 have e2:l[k].bg=i:=by rw[er];rfl
 have e3:l[k].inst=m:=by rw[er];rfl
 have e4:l[k].bn=x.bn:=by rw[er];rfl
 have e5:l[k].calls=cs.map (EY (jw l[k].day)):=congrArg aW.calls er;have hc:=afm St hd;rw[<-e5]at hc;rw[IT (by rw[e1,m1];simp),IT ao,IT ao,IT ao,BY hc,IT (G0 (afn hV hk hp) jK)]
theorem T4(hV:dn T){k:Nat}(hk:k<T.df.length):T.df[k].a≠T.df[k].b/\T.df[k].a∉(T.df.map jt.a).take k/\T.df[k].b∉(T.df.map jt.b).take k/\T.df[k].a∉grow (T.df.take k) k [] T.df[k].b:=by
 have h6:(tB T.df T.ai T.br).2=0:=hV 6 aa;have⟨hp,nI⟩:=IE hV (alx hk);obtain⟨i,j,hi,hj,NS,xQ⟩:=E6 _ _ T.ai hp;have cO:T.df[k].a≠T.df[k].b:=by simp_all[sk,ayp,ayv]
 unfold tB at h6;grind [mJ,G1]
def abj(x:jt):aK:=⟨x.a,0,x.b,0,Y⟩
theorem afo(p:List jt)(x:jt)(v:Int):eW (p++[x]) v=(eW p v).or (if x.a=v then U x.b else Z):=by unfold eW;grind
theorem Ys(p:List jt):∀n pre last y,y∈pre++[last]->y∈grow p n pre last
 |0,pre,last,y,h=>h
 |n+1,pre,last,y,h=>by
  unfold grow;split
  .exact h
  .split
   .exact h
   .exact Ys p n _ _ y (aBf _ h)
theorem adA(p:List jt)(ρ:Int->Nat)(hρ:∀v w,eW p v=U w->ρ w<ρ v):∀n pre last t a,(∀y∈pre++[last],ρ last<=ρ y)->t<=n->it (eW p) t last=U a->a∈grow p n pre last
 |n,pre,last,0,a,_,_,h=>by simp_all[it,Ys]
 |0,_,_,t+1,_,_,h,_=>aa
 |n+1,pre,last,t+1,a,Mw,ht,h=>by
  have⟨m,hm,h⟩:=IS.1 (show(eW p last).bind (it (eW p) t)=U a from h);have bX:=hρ _ _ hm;have hnm:m∉pre++[last]:=λnJ=>ao
  unfold grow;rw[hm];simp only;rw[IT hnm];refine adA p ρ hρ n (pre++[last]) m t a (λy hy=>?_) aa h;grind
theorem aix(hV:dn T):∀k,k<=T.df.length->(∀v,nx ((T.df.take k).map abj) v=eW (T.df.take k) v)/\G2 (nx ((T.df.take k).map abj))
 |0,_=>⟨λv=>rfl,QV⟩
 |k+1,hk=>by
  have⟨h1,h2⟩:=aix hV k aa;have⟨f1,f2,f3,f4⟩:=T4 hV (aa:k<T.df.length);have Jl:eW (T.df.take k) T.df[k].a=none:=by
   unfold eW;rw[Option.map_eq_none_iff,azF];intro y hy;have:y.a∈(T.df.map jt.a).take k:=by rw[<-azW];grind
   grind
  rw[awT aa,aya];refine⟨λv=>?_,N9 h2 (abj T.df[k]) (.inr ⟨f1,by rw[h1];exact Jl,?_⟩)⟩
  .grind [nx,abj,zh,afo]
  .obtain⟨ρ,hρ⟩:=h2;have hlen:((T.df.take k).map abj).length=k:=ah
   have hf:nx ((T.df.take k).map abj)=eW (T.df.take k):=funext h1;unfold pE;rw[azj];intro t ht;have ht:=ayB.1 ht;simp only[tb];intro hit;have hle:t+1<=k:=by have:=QW ⟨ρ,hρ⟩ ((T.df.take k).map jt.a) (λv w hvw=>by have⟨y,hy,_,hya,_⟩:=QX hvw;obtain⟨z,hz,rfl⟩:=ayl.1 hy;exact ayl.2 ⟨z,hz,hya⟩) (t+1) (abj T.df[k]).b (by rw[hit];simp);simp_all
   rw[hf]at hit hρ;exact f4 (adA _ ρ hρ k [] T.df[k].b (t+1) T.df[k].a (λy hy=>av) hle hit)
theorem abk(hV:dn T):∃ρ:Int->Nat,∀v w,eW T.df v=U w->ρ w<ρ v:=by obtain⟨h1,ρ,hρ⟩:=aix hV T.df.length (ayd _);rw[ays]at h1 hρ;exact⟨ρ,λv w h=>hρ v w (by rw[h1];omega)⟩
theorem als(hV:dn T){s t n:Int}(hs:eW T.df s=U n)(ht:eW T.df t=U n):s=t:=by
 have key:∀{v:Int},eW T.df v=U n->∃i,∃h:i<T.df.length,T.df[i].a=v/\T.df[i].b=n:=λ{v}h=>by unfold eW at h;have⟨y,hy,hb⟩:=asI.1 h;obtain⟨i,hi,rfl⟩:=azZ (azk hy);grind
 have⟨i,hi,ia,ib⟩:=key hs;have⟨j,hj,ja,jb⟩:=key ht;have no:∀{i j:Nat}(hi:i<T.df.length)(hj:j<T.df.length),T.df[i].b=T.df[j].b->¬i<j:=λ{i j}hi hj e h=>(T4 hV hj).2.2.1 (by rw[ayc];exact⟨i,av⟩);grind
variable{x:aK}
theorem MM{a:Nat}(hx:dD T l a r=U x):∃(n:Int)(b:Nat)(q:aW),eW T.df r.bg=U n/\x.b=b/\l[b]?=U q/\q.key=(n,r.day,0):=by unfold dD at hx;have⟨n,hn,hx⟩:=IS.1 hx;have⟨b,hb,hx⟩:=asI.1 hx;have⟨_,q,hq,hqk⟩:=Ax hb;grind
theorem VZ(hV:dn T)(hk:∀r∈l,dJ T r=Y){m:Nat}(hx:x∈bk T l m)(hs:x.stay=Y):∃(a:Nat)(r:aW),l[a]?=U r/\x.a=a/\dD T l a r=U x:=by
 have⟨a,_,hx⟩:=ayG.1 hx;unfold oL at hx;cases ha:l[a]? with
 |none=>rw[ha]at hx;cases hx
 |some r=>
  rw[ha]at hx;simp only[ir,ayq,az3]at hx;rcases hx with hx|⟨g,hg,hx⟩
  .cases fL:dD T l a r with
   |none=>rw[fL]at hx;cases hx
   |some z=>rw[fL]at hx;simp only[aAJ,ayZ]at hx;subst hx;exact⟨a,r,ha,(O5 hV hk ha fL).2.1,fL⟩
  .exfalso;unfold pS at hx;split at hx
   .obtain⟨b,_,hx⟩:=IS.1 hx;grind
   .cases hx
theorem afp(hV:dn T)(hk:dJ T r=Y){n:Int}(hn:eW T.df r.bg=U n):r.inst=0:=by
 unfold eW at hn;have⟨y,hy,hyb⟩:=asI.1 hn;have hya:y.a=r.bg:=ao
 have⟨_,nI⟩:=IE hV (azk hy);have hra:xo T.br y.a=false:=by simp_all[jQ,ayp]
 obtain⟨_,i,x,_,_,e⟩:=vA hk (by rw[<-hya];omega);rw[e];rfl
theorem alu(hp:l.Pairwise λr s=>r.key≠s.key){a b:Nat}{s:aW}(ha:l[a]?=U r)(hb:l[b]?=U s)(h:r.key=s.key):a=b:=by have⟨Z7,ha2⟩:=No.1 ha;have⟨WZ,yO⟩:=No.1 hb;have h1:¬a<b:=λxH=>ayL.1 hp a b Z7 WZ xH (by rw[ha2,yO,h]);have h2:¬b<a:=λxH=>ayL.1 hp b a WZ Z7 xH (by rw[ha2,yO,h]);omega
theorem afq(hV:dn T)(hk:∀r∈l,dJ T r=Y)(hp:l.Pairwise λr s=>r.key≠s.key){m:Nat}{y:aK}(hx:x∈bk T l m)(hy:y∈bk T l m)(PN:x.stay=Y)(hys:y.stay=Y)(h:x.a=y.a\/x.b=y.b):x=y:=by
 have⟨a,r,ha,hxa,fL⟩:=VZ hV hk hx PN;have⟨a',r',ha',hya,awt⟩:=VZ hV hk hy hys;have haa:a=a':=by
  rcases h with h|h
  .omega
  .obtain⟨n,b,q,hn,hb,hq,hqk⟩:=MM fL;have⟨n',b',q',ZZ,mH,Sa,axY⟩:=MM awt;have hbb:b=b':=aa
   grind [Prod.mk.injEq,als,alu,aW.key,afp,List.mem_of_getElem?]
 simp_all
theorem adB{f:Int->Option Int}{ρ:Int->Nat}(hf:∀v w,f v=U w->ρ w<ρ v):∀m v w,it f (m+1) v=U w->ρ w<ρ v
 |0,v,w,h=>by simp_all[it]
 |m+1,v,w,h=>by have⟨u,hu,h⟩:=IS.1 (show(f v).bind (it f (m+1))=U w from h);have:=adB hf m u w h;grind
theorem afr(hV:dn T)(hk:∀r∈l,dJ T r=Y)(hp:l.Pairwise λr s=>r.key≠s.key)(hl:(bk T l l.length).length<=1024):(ll l (bk T l l.length)).2=0:=by
 unfold ll;rw[IT aa];refine(kn _ _).2 λk jK=>?_;have am4:=aiy hV hk l.length;generalize hL:bk T l l.length=L at*;have bt:∀y∈L,y∈bk T l l.length:=λy hy=>by rw[hL];omega
 unfold dM;rw[ta jK];simp only;obtain⟨a,b,r,q,i,j,c,d,xa,xb,xH,la,lb,aso,xi,xj,rc,qd,axB,axC,fL⟩:=(adz hV hk (bt _ (alx jK))).ends;have Z7:=(No.1 la).1;have WZ:=(No.1 lb).1;have hi1:=(No.1 rc).1;have hj1:=(No.1 qd).1;have ca:aV l L[k].a=r.calls:=by unfold aV;simp_all
 have cb:aV l L[k].b=q.calls:=by unfold aV;simp_all
 have sa:gC r.calls L[k].ac=c.stop:=by unfold gC;simp_all
 have sb:gC q.calls L[k].bc=d.stop:=by unfold gC;simp_all
 have h1:G3 L[k] l.length=false:=by unfold G3;grind
 have h2:FV L[k] r.calls.length q.calls.length=false:=by simp_all[FV,ayp,aza,T1,tb]
 have htk:∀y∈L.take k,∃j,∃h:j<k,∃h':j<L.length,y=L[j]:=λy hy=>by obtain⟨j,hj,rfl⟩:=azZ hy;grind
 have JN:L[k].stay=Y->∀y∈L.take k,y.stay=Y->¬(L[k].a=y.a\/L[k].b=y.b):=λhs y hy hys hor=>by obtain⟨j,hj,xQ,rfl⟩:=htk y hy;have e:=afq hV hk hp (bt _ (alx jK)) (bt _ (alx xQ)) hs hys hor;exact ayL.1 am4 j k xQ jK hj (by rw[e])
 have h3:Ay (L.take k) L[k] r.calls.length=false:=by
  unfold Ay;cases hs:L[k].stay with
  |false=>rfl
  |true=>
   have⟨hs1,hs2⟩:=fL hs;have n1:(nx (L.take k) L[k].a).isSome=false:=by grind [T5,List.any_eq_false]
   have n2:O (L[k].b∈pT (L.take k))=false:=by grind [Yt,List.any_eq_false]
   have n3:pE (L.take k) L[k].b L[k].a ((L.take k).length+1)=false:=by
    have⟨ρ,hρ⟩:=abk hV;have tr:∀y∈L,y.stay=Y->ρ (((l[y.b.toNat]?).map aW.bg).getD 0)<ρ (((l[y.a.toNat]?).map aW.bg).getD 0):=λy hy hys=>by have⟨a,r,ha,hya,fL⟩:=VZ hV hk (bt y hy) hys;have⟨n,b,q,hn,hb,hq,hqk⟩:=MM fL;rw[hya,hb,anj,anj,ha,hq];have:q.bg=n:=congrArg (λz=>z.1) hqk;simp_all
    unfold pE;rw[azj];intro t _;simp only[tb];intro hit;have h1:=adB (ρ:=λv=>ρ (((l[v.toNat]?).map aW.bg).getD 0)) (λv w hvw=>by grind [QX,List.mem_of_mem_take]) t _ _ hit;grind
   grind
 rw[h1,ca,cb,h2,sa,sb,h3,IT ae,IT ae,IT aa,IT ae,IT (G0 (f:=dx) (am4.imp λh=>h) jK)]
def CL(T:aw)(l:List aW):aB:=⟨T.stops,T.ak,l,bk T l l.length,dK T.paths T.stops.length,T.aF,T.aZ,T.within,T.cap⟩
theorem afk(hV:dn T)(hk:∀r∈l,dJ T r=Y)(hp:l.Pairwise λr s=>r.key≠s.key)(hl:l.length<=1024)(hn:(bk T l l.length).length<=1024):dZ (CL T l)=(0,0,0):=by
 have h0:(gk T.stops).2=0:=hV 0 aa;have h1:(eC T.ak).2=0:=hV 1 aa;have h8:(oI T.paths T.stops.length).2=0:=hV 8 aa;have h9:(du T.aF T.aZ T.within T.cap).2=0:=hV 9 aa;have hs:Sound T.paths T.stops.length:=by grind [oI,Lf]
 simp_all[dZ,CL,BY,aiw,afr,aiu]
end
end Go.Ab.Tt
namespace Go.Ab.Nw
theorem T6(d:Mx)(i j:Nat):MN d i j (d i j)=d:=by funext a b;unfold MN;simp_all
theorem aiz(DY:Int×Int×Int×List PV×Unit->Option PV)(n k i:Nat)(d:Mx)(hn:n<=64)(hk:k<n)(hi:i<n)(hd:∀j,j<=n->∀a b,a<n->b<n->dj k i d j a b<=1099511627776):cD.run (tC DY) ((n:Int),(k:Int),(i:Int),0,lK n d,())=DY ((n:Int),(k:Int),C .i64 ((i:Int)+1),lK n (dj k i d n),()):=by
 refine aM (λj=>((n:Int),(k:Int),(i:Int),(j:Int),lK n (dj k i d j),())) n (λj hj rec=>?_) (λrec=>?_) fb rfl
 .unfold tC;dsimp only;have hg:O ((j:Int)<(n:Int))=true:=ah
  have ii:aU (i:Int) (lK n (dj k i d j)).length:=JZ abl;have ik:aU (k:Int) (lK n (dj k i d j)).length:=JZ abl;have ji:aU (j:Int) (Gb n (dj k i d j i)).length:=JZ V0;have ki:aU (k:Int) (Gb n (dj k i d j i)).length:=JZ V0;have jk:aU (j:Int) (Gb n (dj k i d j k)).length:=JZ V0;have b1:=hd j aa i k hi hk;have b2:=hd j aa k j hk hj;have hs:C .i64 (((dj k i d j i k:Nat):Int)+((dj k i d j k j:Nat):Int))=((dj k i d j i k+dj k i d j k j:Nat):Int):=bJ aa aa;simp only[hg,By,BY ii,BY ik,anj,tD _ hi,tD _ hk,ab,asR,BY ji,BY ki,BY jk,xp _ hj,xp _ hk,cI,MO,hs,ag (aa:j<9223372036854775807),alv,alw,Li _ _ hi hj];have hd1:dj k i d (j+1)=MN (dj k i d j) i j (min (dj k i d j i j) (dj k i d j i k+dj k i d j k j)):=rfl;by_cases bX:dj k i d j i k+dj k i d j k j<dj k i d j i j
  .grind
  .rw[IT ah,hd1,ay2 aa,T6]
 simp[tC,IT]
theorem aiA(QY:Int×Int×List PV×Unit->Option PV)(n k:Nat)(d:Mx)(hn:n<=64)(hk:k<n)(hd:∀i,i<n->∀j,j<=n->∀a b,a<n->b<n->dj k i (di n k d i) j a b<=1099511627776):cD.run (tE cD QY) ((n:Int),(k:Int),0,lK n d,())=QY ((n:Int),C .i64 ((k:Int)+1),lK n (di n k d n),()):=by
 refine aM (λi=>((n:Int),(k:Int),(i:Int),lK n (di n k d i),())) n (λi hi rec=>?_) (λrec=>?_) fb rfl
 .unfold tE;dsimp only;have hg:O ((i:Int)<(n:Int))=true:=ah
  rw[BY hg,aiz rec n k i _ hn hk hi (hd i hi),ag aa];rfl
 simp[tE,IT]
theorem aiB(n:Nat)(d:Mx)(hn:n<=64)(hd:∀k,k<n->∀i,i<n->∀j,j<=n->∀a b,a<n->b<n->dj k i (di n k (dk n d k) i) j a b<=1099511627776):cD.run (tF cD) ((n:Int),0,lK n d,())=U (.rs 1 ((lK n (dk n d n)).map PV.strip)):=by
 refine aM (λk=>((n:Int),(k:Int),lK n (dk n d k),())) n (λk hk rec=>?_) (λrec=>?_) fb rfl
 .unfold tF;dsimp only;have hg:O ((k:Int)<(n:Int))=true:=ah
  rw[BY hg,aiA rec n k _ hn hk (hd k hk),ag aa];rfl
 simp[tF,IT]
theorem T7(l:List Fp)(n:Nat)(hn:n<=64)(hl:l.length<=4096)(h:∀p∈l,p.a<n/\p.b<n)(fr:Bool):pU [.rs 4 (l.map Fp.pv),.int .i64 n,.bool fr]=U (.rs 1 (ee n λi j=>((dk n (start rA (counted fr l)) n i j:Nat):Int))):=by
 have e0:aJ 4 (.rs 4 (l.map Fp.pv))=U (l.map Fp.pv):=bm
 have hE:∀y∈counted fr l,y.f<n/\y.t<n:=λy hy=>by obtain⟨p,hp,rfl⟩:=xq hy;exact h p hp
 simp only[pU,G4,e0,ab,MO,asBool];refine aM (λi=>(l.map Fp.pv,(n:Int),fr,(i:Int),List.replicate i (PV.lJ 1 (List.replicate n (PV.int .i64 1099511627776))),())) n (λi hi rec=>?_) (λrec=>?_) fb rfl
 .unfold Az;dsimp only;have hg:O ((i:Int)<(n:Int))=true:=ah
  rw[BY hg];refine aM (λj=>(l.map Fp.pv,(n:Int),fr,(i:Int),(j:Int),List.replicate i (PV.lJ 1 (List.replicate n (PV.int .i64 1099511627776))),List.replicate j (PV.int .i64 1099511627776),())) n (λj hj iO=>?_) (λiO=>?_) fb rfl
  .unfold AA;dsimp only;have hg:O ((j:Int)<(n:Int))=true:=ah
   have JI:List.replicate j (PV.int .i64 1099511627776)++[PV.int .i64 1099511627776]=List.replicate (j+1) (PV.int .i64 1099511627776):=(azP ..).symm;rw[BY hg];simp only[JI,ayD];rw[BY NF,ag aa]
  .unfold AA;dsimp only;have JI:List.replicate i (PV.lJ 1 (List.replicate n (PV.int .i64 1099511627776)))++[PV.lJ 1 (List.replicate n (PV.int .i64 1099511627776))]=List.replicate (i+1) (PV.lJ 1 (List.replicate n (PV.int .i64 1099511627776))):=(azP ..).symm;rw[IT ae];simp only[JI,ayD];rw[BY NF,ag aa]
 .unfold Az;dsimp only;rw[IT ae,T8];refine aM (λk=>(l.map Fp.pv,(n:Int),fr,(k:Int),lK n (start rA (counted fr (l.take k))),())) l.length (λk hk iO=>?_) (λiO=>?_) fb rfl
  .unfold AB;dsimp only;have hg:O ((k:Int)<((l.map Fp.pv).length:Int))=true:=ah
   obtain⟨p,hp⟩:∃p,l[k]?=U p:=⟨_,ta hk⟩;have L4:(l.map Fp.pv)[k]?=U p.pv:=av
   have htk:l.take (k+1)=l.take k++[p]:=by rw[aAj,hp];rfl
   have⟨pa,pb⟩:=h p (awU hp);obtain⟨d,hd⟩:∃d,d=start rA (counted fr (l.take k)):=⟨_,rfl⟩;have ia:aU (p.a:Int) (lK n d).length:=JZ abl;have ib:aU (p.b:Int) (Gb n (d p.a)).length:=JZ V0;have fL:lK n (start rA (counted fr (l.take k)++[p.ed]))=lK n (MN d p.a p.b (min (d p.a p.b) p.c)):=by rw[J0,<-hd];rfl
   have hr:(bif p.free then U Y else U !fr)=U (!(fr&& !p.free)):=ao
   rw[BY hg,af,L4,ab,htk,Lj];simp only[fp0,fp1,fp2,fp3,MO,asBool,ab,hr,<-hd,BY ia,anj,tD _ pa,asR,BY ib,xp _ pb,cI,alv,alw,Li _ _ pa pb,ag (aa:k<9223372036854775807)];cases hb:(fr&& !p.free)with
   |true=>simp[<-hd]
   |false=>
    simp only[ayi,cond_true,ab,AI,OF,fL];by_cases bX:p.c<d p.a p.b
    .grind
    simp_all[IT,ay2,T6]
  .unfold AB;dsimp only;rw[IT ae,ays,<-T9];have aiC:=E4 (n:=n) (inf:=rA) (counted fr l);exact aiB n _ hn λk hk i hi j hj a b ha hb=>by have ih:=aiC.rounds k aa;have:=(L7.rows (k:=k) ⟨ih.fw,ih.low,λa b ha hb hd=>aa⟩ hk i aa).row hi hk j hj;exact this.fw.top a b ha hb
theorem abm(Lk:abn->Option PV)(n i:Nat)(W F:Nat->Nat->Int)(hn:n<=64)(hi:i<n)(acc:List PV)(asp:acc.length<=8192):cD.run (oM cD Lk) ((n:Int),ee n W,ee n F,(i:Int),0,acc,())=Lk ((n:Int),ee n W,ee n F,C .i64 ((i:Int)+1),acc++CN n (λi k=>DZ (W i k) (F i k) i k) i,()):=by
 refine aM (λk=>((n:Int),ee n W,ee n F,(i:Int),(k:Int),acc++CN k (λi k=>DZ (W i k) (F i k) i k) i,())) n (λk hk rec=>?_) (λrec=>?_) fb (by simp[CN])
 .unfold oM;dsimp only;have hg:O ((k:Int)<(n:Int))=true:=ah
  rw[IF];have hlen:=G5 (it:=λi k=>DZ (W i k) (F i k) i k) (λi k=>Ll _ _ i k) i k;generalize hA:acc++CN k (λi k=>DZ (W i k) (F i k) i k) i=A;have hAl:A.length<=8192+128:=ao
  rw[<-ayt,hA];simp only[hg,By,af,IG _ hi,ab,aly,MP _ hk,cI,MO,ag (aa:k<9223372036854775807)];generalize W i k=w;generalize F i k=f;by_cases Se:i=k
  .simp_all[DZ,BY,cond_true,ab,By,ayF]
  .have hb:((i:Int)==(k:Int))=false:=ao
   simp only[hb,cond_false,ab];by_cases hw:w>14400
   .simp_all[DZ,BY,ayk,By,ayF]
   .have hr1:(A++[PV.agg [.int .i64 i,.int .i64 k,.int .i64 w,.bool (f==w)]]).length*32<=au/\0<32:=yW ah;simp only[hw,ayf,AI,OF,BY hr1];by_cases hf:f>w
    .by_cases Z5:f<=14400
     .have Tv:(A++[PV.agg [.int .i64 i,.int .i64 k,.int .i64 w,.bool (f==w)]]++[PV.agg [.int .i64 i,.int .i64 k,.int .i64 f,.bool Y]]).length*32<=au/\0<32:=yW ah;have hit:DZ w f i k=[fpI i k w (f==w),fpI i k f Y]:=by simp_all[DZ,IT,BY]
      simp only[hf,Z5,ayk,cond_true,ab,By,BY Tv,hit];rw[ayt];rfl
     .have hit:DZ w f i k=[fpI i k w (f==w)]:=by simp_all[DZ,IT]
      simp only[hf,Z5,ayk,ayf,cond_true,ab,AI,OF,hit];rfl
    .have hit:DZ w f i k=[fpI i k w (f==w)]:=by unfold DZ;grind
     simp only[hf,ayf,cond_false,ab,AI,OF,hit];rfl
 simp[oM,IT]
theorem Yu(n:Nat)(W F:Nat->Nat->Int)(hn:n<=64):cD.run (oN cD) ((n:Int),ee n W,ee n F,0,[],())=U (.rs 4 (Gc n (λi k=>DZ (W i k) (F i k) i k) n)):=by
 refine aM (λi=>((n:Int),ee n W,ee n F,(i:Int),Gc n (λi k=>DZ (W i k) (F i k) i k) i,())) n (λi hi rec=>?_) (λrec=>?_) fb rfl
 .unfold oN;dsimp only;have hg:O ((i:Int)<(n:Int))=true:=ah
  have hlen:=G6 (it:=λi k=>DZ (W i k) (F i k) i k) (λi k=>Ll _ _ i k) n i;have hb:2*n*i<=2*64*64:=azM aa aa;rw[BY hg,abm rec n i W F hn hi _ aa,IH,ag aa]
 simp[oN,IT]
theorem abe(l:List Fp)(n:Nat)(hn:n<=64)(hl:l.length<=4096)(h:∀p∈l,p.a<n/\p.b<n):mw [.rs 4 (l.map Fp.pv),.int .i64 n]=U (.rs 4 (Gc n (λi k=>DZ (gA n l J i k) (gA n l Y i k) i k) n)):=by
 have e0:aJ 4 (.rs 4 (l.map Fp.pv))=U (l.map Fp.pv):=bm
 have e1:∀es,aJ 1 (.rs 1 es)=U es:=λes=>bm
 simp only[mw,CO,e0,ab,MO,T7 l n hn hl h J,T7 l n hn hl h Y,e1];simp_all[Yu,gA]
end Go.Ab.Nw
