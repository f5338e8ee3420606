import Derived.Test.YtoaknfoobjnjgaaGreatNkP2
import Derived.Test.YtoaknfoobjnjgaaGreatSh3
namespace Go.Ab.Tt
set_option maxRecDepth 100000
set_option linter.all false
theorem QZ(s:Bytes)(hs:s.length≤maxLen):mG [.str s]=some (.bool (fR s)):=by
 have hm:=ar;simp only[mG,BL,aZ,U,aT];refine Ge s hs (fun k hk rec=>?_) (fun rec=>?_) ?_
 ·have h1:(k:Int)<(s.length:Int):=by omega
  simp only[vB,tc,h1,BY,E0,ta hk,U,bI,aT,ag (show k<9223372036854775807 by omega),fb];grind [lI,ge_iff_le,decide]
 ·simp[vB,tc,an6,OF]
 grind
theorem TC(s:Bytes)(hs:s.length≤maxLen):jK [.str s]=some (.bool (fR s)):=by
 have hm:=ar;simp only[jK,qT,aZ,U,aT];refine Ge s hs (fun k hk rec=>?_) (fun rec=>?_) ?_
 ·have h1:(k:Int)<(s.length:Int):=by omega
  simp only[mj,tc,h1,BY,E0,ta hk,U,bI,aT,ag (show k<9223372036854775807 by omega),cZ];grind [lI,ge_iff_le,decide]
 ·simp[mj,tc,an6,OF]
 grind
theorem Fo(s:Bytes)(hs:s.length≤maxLen):pV [.str s]=some (.bool (fR s)):=by
 have hm:=ar;simp only[pV,DX,aZ,U,aT];refine Ge s hs (fun k hk rec=>?_) (fun rec=>?_) ?_
 ·have h1:(k:Int)<(s.length:Int):=by omega
  simp only[xR,tc,h1,BY,E0,ta hk,U,bI,aT,ag (show k<9223372036854775807 by omega),cZ];grind [lI,ge_iff_le,decide]
 ·simp[xR,tc,an6,OF]
 grind
theorem Yq(l:List Stop)(hl:l.length≤maxLen)(s:Bytes):tV [.rs 4 (l.map Stop.pv),.str s]=some (.int .i64 (Fm (l.map Stop.id) s)):=by
 have hm:=ar;simp only[tV,DW,ah,aZ,BY,U];refine(aB (fun k=>(l.map Stop.pv,s,(k:Int),())) l.length (fun k=>if decide ((l.map Stop.id)[k]?=some s)=true then some (some (.int .i64 k))else none) (fin:=some (.int .i64 (-1))) (fun k hk rec=>?_) (fun rec=>?_) ?_ rfl).trans ?_
 ·have h1:(k:Int)<(l.length:Int):=by omega
  simp only[xQ,tc,te,h1,BY,af,AT,ta hk,IS,U,Stop.pv,cell,PV.cells,aev,aZ,ag (show k<9223372036854775807 by omega),cZ,tb];grind [bC]
 ·simp[xQ,tc,te,an6,OF]
 ·have:=aF;omega
 ·rw[gZ];unfold Fm;simp only[te];cases(List.range l.length).find? fun k=>decide ((l.map Stop.id)[k]?=some s)<;>rfl
theorem ac0(l:List Stop)(hl:l.length≤maxLen∧∀y∈l,y.Ok):ru [.rs 4 (l.map Stop.pv)]=some (res (jC l).1 (jC l).2):=by
 have hm:=ar;simp only[ru,BK,ah,BY,U,te];unfold jC;by_cases kH:l.length>64
 ·rw[No (by simp;omega),No kH];rfl
 ·rw[QU (by simp;omega),QU kH,←dy];refine aB (fun k=>(l.map Stop.pv,(k:Int),())) l.length _ (fun k hk rec=>?_) (fun rec=>?_) ?_ rfl
  ·have h1:(k:Int)<(l.length:Int):=by omega
   have hid:=TC l[k].id (hl.2 _ (an7 hk)).id;have Kr:=Yq l hl.1 l[k].id;have bF:=aeF (l.map Stop.id) k (by simpa using hk);simp only[List.getElem_map]at bF;simp only[vA,tc,te,h1,BY,af,AT,ta hk,IS,U,Stop.pv,cell,PV.cells,aev,ali,aZ,asInt,asBool,hid,Kr,aT,ag (show k<9223372036854775807 by omega)];unfold NX;rw[ta hk];simp only;generalize (decide (l[k].NY<0)||decide (l[k].NY≥16)||decide (l[k].change<0)||decide (l[k].change>3600))=c;cases fR l[k].id with
   |false=>rfl
   |true=>
    by_cases bk:l[k].id∈(l.map Stop.id).take k
    ·simp only[bF.2 bk,bk,BY,alk,AI,aod,OF];rfl
    ·have hn:¬Fm (l.map Stop.id) l[k].id<(k:Int):=fun h=>bk (bF.1 h);simp only[hn,bk,BY,alk,AI,aod,OF];cases c<;>rfl
  ·simp only[vA,tc,te,an6,OF];rfl
  ·have:=aF;omega
theorem Q0(l:List aQ)(hl:l.length≤maxLen)(i:Nat)(hi:i<l.length)(zF:List PV×Int×Unit→Option PV):aV.run (pW zF) (l.map aQ.pv,(i:Int),0,())=if l[i].id∈(l.map aQ.id).take i then some (res i 6)else if(decide (l[i].mode≥0)&&decide (l[i].mode<8))=false then some (res i 2)else zF (l.map aQ.pv,IntKind.i64.wrap ((i:Int)+1),()):=by
 have hm:=ar;refine(aB (fun k=>(l.map aQ.pv,(i:Int),(k:Int),())) i (fun k=>if decide ((l.map aQ.id)[k]?=some l[i].id)=true then some (some (res i 6))else none) (fin:=if(decide (l[i].mode≥0)&&decide (l[i].mode<8))=false then some (res i 2)else zF (l.map aQ.pv,IntKind.i64.wrap ((i:Int)+1),())) (fun k hk rec=>?_) (fun rec=>?_) ?_ rfl).trans ?_
 ·have h1:(k:Int)<(i:Int):=by omega
  have qo:k<l.length:=by omega
  simp only[pW,tc,h1,BY,af,AT,ta qo,ta hi,IS,U,aQ.pv,cell,PV.cells,aev,aZ,ag (show k<9223372036854775807 by omega),cZ,tb];grind [bC,res]
 ·simp only[pW,tc,an6,OF,af,AT,ta hi,IS,U,aQ.pv,cell,PV.cells,aev,ali,asInt,asBool,BY,Ac,DY,bI];generalize (decide (l[i].mode≥0)&&decide (l[i].mode<8))=c;cases c<;>rfl
 ·have:=aF;omega
 ·rw[gZ];cases hf:(List.range i).find? fun k=>decide ((l.map aQ.id)[k]?=some l[i].id)with
  |none=>
   have hn:l[i].id∉(l.map aQ.id).take i:=fun bk=>by obtain⟨j,hj⟩:=aoh.1 bk;grind
   rw[QU hn];rfl
  |some j=>rw[aqL]at hf;obtain⟨h1,h2,_⟩:=hf;have bk:l[i].id∈(l.map aQ.id).take i:=aoh.2 ⟨j,by simp_all⟩;rw[No bk];rfl
theorem Yr(l:List aQ)(hl:l.length≤maxLen∧∀y∈l,y.Ok):rz [.rs 3 (l.map aQ.pv)]=some (res (gQ l).1 (gQ l).2):=by
 have hm:=ar;simp only[rz,BN,ah,BY,U,te];unfold gQ;by_cases kH:l.length>64
 ·rw[No (by simp;omega),No kH];rfl
 ·rw[QU (by simp;omega),QU kH,←dy];refine aB (fun k=>(l.map aQ.pv,(k:Int),())) l.length _ (fun k hk rec=>?_) (fun rec=>?_) ?_ rfl
  ·have h1:(k:Int)<(l.length:Int):=by omega
   have hid:=Fo l[k].id (hl.2 _ (an7 hk)).id;have k8:=Q0 l hl.1 k hk rec;have ow:cell (l[k].pv) 0=.str l[k].id:=rfl;simp only[vD,tc,te,h1,BY,af,AT,ta hk,IS,U,ow,aZ,asBool,hid,k8,ag (show k<9223372036854775807 by omega)];unfold JS;rw[ta hk];simp only;generalize (decide (l[k].mode≥0)&&decide (l[k].mode<8))=c;cases fR l[k].id with
   |false=>rfl
   |true=>
    by_cases bk:l[k].id∈(l.map aQ.id).take k
    ·simp only[bk,BY,alk,AI,aod,OF];rfl
    ·simp only[bk,BY,alk,AI,aod,OF];cases c<;>rfl
  ·simp only[vD,tc,te,an6,OF];rfl
  ·have:=aF;omega
def dv(n:Int):Bool:=decide (0≤n)&&decide (n≤36524)
theorem Wh(n:Int):cM [.int .i64 n]=some (.bool (dv n)):=by simp only[cM,zK,asInt,BY,U,bI];rfl
theorem Q1(n:Int):dP [.int .i64 n]=some (.bool (dv n)):=by simp only[dP,wu,asInt,BY,U,bI];rfl
def TD(l:List oB)(k:Nat):Int:=match l[k]? with
 |none=>0
 |some x=>if fR x.id=false then 12 else if x.id∈(l.map oB.id).take k then 6 else if(!dv x.Az|| !dv x.AA||decide (x.Az>x.AA))=true then 11 else 0
def Cc(l:List oB):Int×Int:=if l.length>64 then(0,5)else cE (TD l) l.length
theorem aie(x:oB):cell x.pv 0=.str x.id:=rfl
theorem XY(x:oB):cell x.pv 8=.int .i64 x.Az:=rfl
theorem XZ(x:oB):cell x.pv 9=.int .i64 x.AA:=rfl
theorem ac1(l:List oB)(hl:l.length≤maxLen∧∀y∈l,y.Ok):lV [.rs 10 (l.map oB.pv)]=some (res (Cc l).1 (Cc l).2):=by
 have hm:=ar;simp only[lV,vg,ah,BY,U,te];unfold Cc;by_cases kH:l.length>64
 ·rw[No (by simp;omega),No kH];rfl
 ·rw[QU (by simp;omega),QU kH,←dy];refine aB (fun k=>(l.map oB.pv,(l.length:Int),(k:Int),seen PV.str ((l.map oB.id).take k),())) l.length _ (fun k hk rec=>?_) (fun rec=>?_) ?_ rfl
  ·have h1:(k:Int)<(l.length:Int):=by omega
   have hid:=yF l[k].id (hl.2 _ (an7 hk)).id;have nf:=fJ q8 l[k].id ((l.map oB.id).take k);have ko:=eM q8 l[k].id ((l.map oB.id).take k);simp only[pS,tc,h1,BY,af,AT,ta hk,IS,U,aie,XY,XZ,aZ,asInt,asBool,hid,nf,ko,Wh,ag (show k<9223372036854775807 by omega),jR oB.id l k hk];unfold TD;rw[ta hk];simp only;cases fR l[k].id with
   |false=>rfl
   |true=>
    by_cases bk:l[k].id∈(l.map oB.id).take k
    ·simp only[bk,BY,alk,AI,aod,OF];rfl
    ·simp only[bk,BY,alk,AI,aod,OF];by_cases hgt:l[k].Az>l[k].AA
     ·simp only[hgt,aot,ard,BY];cases dv l[k].Az<;>cases dv l[k].AA<;>rfl
     ·simp only[hgt,aoo,ao5,OF];cases dv l[k].Az<;>cases dv l[k].AA<;>rfl
  ·simp only[pS,tc,an6,OF];rfl
  ·have:=aF;omega
theorem Ys(l:List oB)(hl:l.length≤maxLen)(i:Nat)(hi:i<l.length)(zF:List PV×Int×Unit→Option PV):aV.run (pU zF) (l.map oB.pv,(i:Int),0,())=if l[i].id∈(l.map oB.id).take i then some (res i 6)else if(!dv l[i].Az|| !dv l[i].AA||decide (l[i].Az>l[i].AA))=true then some (res i 11)else zF (l.map oB.pv,IntKind.i64.wrap ((i:Int)+1),()):=by
 have hm:=ar;refine(eI (fun k=>(l.map oB.pv,(i:Int),(k:Int),())) i (fun k=>decide ((l.map oB.id)[k]?=some l[i].id)) (no:=some (res i 6)) (fin:=if(!dv l[i].Az|| !dv l[i].AA||decide (l[i].Az>l[i].AA))=true then some (res i 11)else zF (l.map oB.pv,IntKind.i64.wrap ((i:Int)+1),())) (fun k hk rec=>?_) (fun rec=>?_) ?_ rfl).trans ?_
 ·have h1:(k:Int)<(i:Int):=by omega
  have qo:k<l.length:=by omega
  simp only[pU,tc,h1,BY,af,AT,ta qo,ta hi,IS,U,aie,aZ,ag (show k<9223372036854775807 by omega),cZ,tb];rfl
 ·simp only[pU,tc,an6,OF,af,AT,ta hi,IS,U,XY,XZ,asInt,asBool,BY,Q1,aT];rfl
 ·have:=aF;omega
 ·rw[lQ _ _ (by simp;omega)];simp_all
theorem aeH(l:List oB)(hl:l.length≤maxLen∧∀y∈l,y.Ok):ry [.rs 10 (l.map oB.pv)]=some (res (Cc l).1 (Cc l).2):=by
 have hm:=ar;simp only[ry,BM,ah,BY,U,te];unfold Cc;by_cases kH:l.length>64
 ·rw[No (by simp;omega),No kH];rfl
 ·rw[QU (by simp;omega),QU kH,←dy];refine aB (fun k=>(l.map oB.pv,(k:Int),())) l.length _ (fun k hk rec=>?_) (fun rec=>?_) ?_ rfl
  ·have h1:(k:Int)<(l.length:Int):=by omega
   have hid:=QZ l[k].id (hl.2 _ (an7 hk)).id;have k8:=Ys l hl.1 k hk rec;simp only[vC,tc,te,h1,BY,af,AT,ta hk,IS,U,aie,aZ,asBool,hid,k8,ag (show k<9223372036854775807 by omega)];unfold TD;rw[ta hk];simp only;generalize (!dv l[k].Az|| !dv l[k].AA||decide (l[k].Az>l[k].AA))=c;cases fR l[k].id with
   |false=>rfl
   |true=>
    by_cases bk:l[k].id∈(l.map oB.id).take k
    ·simp only[bk,BY,alk,AI,aod,OF];rfl
    ·simp only[bk,BY,alk,AI,aod,OF];cases c<;>rfl
  ·simp only[vC,tc,te,an6,OF];rfl
  ·have:=aF;omega
def jL(x:sE):Int×Int:=(x.xK,x.day)
def TE(l:List sE)(n:Int)(k:Nat):Int:=match l[k]? with
 |none=>0
 |some x=>if(decide (x.xK<0)||decide (x.xK≥n))=true then 9 else if dv x.day=false then 11 else if jL x∈(l.map jL).take k then 6 else 0
def Cd(l:List sE)(n:Int):Int×Int:=if l.length>256 then(0,5)else cE (TE l n) l.length
def GH(x:Int×Int):PV:=.agg [.int .i64 x.1,.int .i64 x.2]
theorem Q2(a b:Int×Int):bO (GH a).cells (GH b).cells=decide (a=b):=by obtain⟨a1,a2⟩:=a;obtain⟨b1,b2⟩:=b;rw[aoy];simp[GH,PV.cells,bO,peq]
theorem acr(x:sE):cell x.pv 0=.int .i64 x.xK:=rfl
theorem acs(x:sE):cell x.pv 1=.int .i64 x.day:=rfl
theorem ac2(l:List sE)(n:Int)(hl:l.length≤maxLen∧∀y∈l,y.Ok):dX [.rs 3 (l.map sE.pv),.int .i64 n]=some (res (Cd l n).1 (Cd l n).2):=by
 have hm:=ar;simp only[dX,iq,ah,asInt,BY,U,te];unfold Cd;by_cases kH:l.length>256
 ·rw[No (by simp;omega),No kH];rfl
 ·rw[QU (by simp;omega),QU kH,←dy];refine aB (fun k=>(n,l.map sE.pv,(l.length:Int),(k:Int),seen GH ((l.map jL).take k),())) l.length _ (fun k hk rec=>?_) (fun rec=>?_) ?_ rfl
  ·have h1:(k:Int)<(l.length:Int):=by omega
   have nf:dd (.agg [.int .i64 l[k].xK,.int .i64 l[k].day]) (.bool true) (seen GH ((l.map jL).take k))=_:=fJ Q2 (jL l[k]) ((l.map jL).take k);have ko:bS (.agg [.int .i64 l[k].xK,.int .i64 l[k].day]) (.bool false) (seen GH ((l.map jL).take k))=_:=eM Q2 (jL l[k]) ((l.map jL).take k);simp only[fU,tc,h1,BY,af,AT,ta hk,IS,U,acr,acs,asInt,asBool,nf,ko,Wh,aT,ag (show k<9223372036854775807 by omega),jR jL l k hk];unfold TE;rw[ta hk];simp only;generalize (decide (l[k].xK<0)||decide (l[k].xK≥n))=c;by_cases bk:jL l[k]∈(l.map jL).take k
   ·simp only[bk,BY];cases c<;>cases dv l[k].day<;>rfl
   ·simp only[bk,OF];cases c<;>cases dv l[k].day<;>rfl
  ·simp only[fU,tc,an6,OF];rfl
  ·have:=aF;omega
theorem Yt(l:List sE)(n:Int)(hl:l.length≤maxLen)(i:Nat)(hi:i<l.length)(sW:List PV×Int×Int×Unit→Option PV):aV.run (eV sW) (l.map sE.pv,n,(i:Int),0,())=if jL l[i]∈(l.map jL).take i then some (res i 6)else sW (l.map sE.pv,n,IntKind.i64.wrap ((i:Int)+1),()):=by
 have hm:=ar;refine(eI (fun k=>(l.map sE.pv,n,(i:Int),(k:Int),())) i (fun k=>decide ((l.map jL)[k]?=some (jL l[i]))) (no:=some (res i 6)) (fin:=sW (l.map sE.pv,n,IntKind.i64.wrap ((i:Int)+1),())) (fun k hk rec=>?_) (fun rec=>?_) ?_ rfl).trans ?_
 ·have h1:(k:Int)<(i:Int):=by omega
  have qo:k<l.length:=by omega
  simp only[eV,tc,h1,BY,af,AT,ta qo,ta hi,IS,U,acr,acs,asInt,ag (show k<9223372036854775807 by omega),cZ,bI,tb,jL,afu,aeu];rfl
 ·simp[eV,tc,an6,OF]
 ·have:=aF;omega
 ·rw[lQ _ _ (by simp;omega)];simp_all
theorem aeI(l:List sE)(n:Int)(hl:l.length≤maxLen∧∀y∈l,y.Ok):fC [.rs 3 (l.map sE.pv),.int .i64 n]=some (res (Cd l n).1 (Cd l n).2):=by
 have hm:=ar;simp only[fC,j8,ah,asInt,BY,U,te];unfold Cd;by_cases kH:l.length>256
 ·rw[No (by simp;omega),No kH];rfl
 ·rw[QU (by simp;omega),QU kH,←dy];refine aB (fun k=>(l.map sE.pv,n,(k:Int),())) l.length _ (fun k hk rec=>?_) (fun rec=>?_) ?_ rfl
  ·have h1:(k:Int)<(l.length:Int):=by omega
   have k8:=Yt l n hl.1 k hk rec;simp only[iu,tc,te,h1,BY,af,AT,ta hk,IS,U,acr,acs,asInt,asBool,k8,Q1,aT,ag (show k<9223372036854775807 by omega)];unfold TE;rw[ta hk];simp only;generalize (decide (l[k].xK<0)||decide (l[k].xK≥n))=c;by_cases bk:jL l[k]∈(l.map jL).take k
   ·simp only[bk,BY];cases c<;>cases dv l[k].day<;>rfl
   ·simp only[bk,OF];cases c<;>cases dv l[k].day<;>rfl
  ·simp only[iu,tc,te,an6,OF];rfl
  ·have:=aF;omega
theorem TF(l:List aJ)(stops:Int)(hl:l.length≤maxLen):rA [.rs 5 (l.map aJ.pv),.int .i64 stops]=some (.int .i64 (lD l stops 0 172800).2):=by
 have hm:=ar;simp only[rA,BO,ah,asInt,BY,U,te,aT];unfold lD;split
 ·rfl
 ·rw[←TB];refine aB (fun k=>(l.map aJ.pv,stops,(k:Int),())) l.length _ (fun k hk rec=>?_) (fun rec=>?_) ?_ rfl
  ·have h1:(k:Int)<(l.length:Int):=by omega
   simp only[vE,tc,te,h1,BY,af,AT,ta hk,IS,U,tn,Am,qv,asInt,aT,ag (show k<9223372036854775807 by omega)];unfold zy Hk;rw[ta hk];simp only;cases k with
   |zero=>
    have h0:decide (((0:Nat):Int)>0)=false:=by rfl
    simp only[h0,cond_false,U,aT,ao5,JN];generalize (decide (l[0].stop<0)||decide (l[0].stop≥stops))=A;generalize (decide (l[0].arr<0)||decide (l[0].arr>l[0].dep)||decide (l[0].dep>172800))=B;cases A<;>cases B<;>rfl
   |succ j=>
    have h0:decide (((j+1:Nat):Int)>0)=true:=by simp
    have hj:j<l.length:=by omega
    have hc:decide (l[j+1].stop=l[j].stop)=decide (l[j].stop=l[j+1].stop):=by grind
    simp only[h0,cond_true,U,Gf j (by omega),af,AT,ta hj,IS,tn,qv,asInt,BY,JN,cZ,aT,hc];generalize (decide (l[j+1].stop<0)||decide (l[j+1].stop≥stops))=A;generalize (decide (l[j+1].arr<0)||decide (l[j+1].arr>l[j+1].dep)||decide (l[j+1].dep>172800))=B;generalize decide (l[j].stop=l[j+1].stop)=C;generalize decide (l[j+1].arr<l[j].dep)=D;cases A<;>cases B<;>cases C<;>cases D<;>rfl
  ·simp[vE,tc,te,an6,OF]
  ·have:=aF;omega
theorem qy(x:bj):cell x.pv 0=.str x.id:=rfl
theorem rY(x:bj):cell x.pv 1=.int .i64 x.bX:=rfl
theorem qz(x:bj):cell x.pv 2=.int .i64 x.xK:=rfl
theorem mC(x:bj):cell x.pv 4=.rs 5 (x.calls.map aJ.pv):=rfl
def zz(l:List bj)(stops ao dK:Int)(k:Nat):Int:=match l[k]? with
 |none=>0
 |some x=>if fR x.id=false then 12 else if x.id∈(l.map bj.id).take k then 6 else if(decide (x.bX<0)||decide (x.bX≥ao)||decide (x.xK<0)||decide (x.xK≥dK))=true then 9 else(lD x.calls stops 0 172800).2
def mO(l:List bj)(stops ao dK:Int):Int×Int:=if l.length>256 then(0,5)else cE (zz l stops ao dK) l.length
theorem Yu(l:List bj)(stops ao dK:Int)(hl:l.length≤maxLen∧∀y∈l,y.Ok):tU [.rs 5 (l.map bj.pv),.int .i64 stops,.int .i64 ao,.int .i64 dK]=some (res (mO l stops ao dK).1 (mO l stops ao dK).2):=by
 have hm:=ar;simp only[tU,DU,ah,asInt,BY,U,te];unfold mO;by_cases kH:l.length>256
 ·rw[No (by simp;omega),No kH];rfl
 ·rw[QU (by simp;omega),QU kH,←dy];refine aB (fun k=>(stops,ao,dK,l.map bj.pv,(l.length:Int),(k:Int),seen PV.str ((l.map bj.id).take k),())) l.length _ (fun k hk rec=>?_) (fun rec=>?_) ?_ rfl
  ·have h1:(k:Int)<(l.length:Int):=by omega
   have hid:=yF l[k].id (hl.2 _ (an7 hk)).id;have nf:=fJ q8 l[k].id ((l.map bj.id).take k);have ko:=eM q8 l[k].id ((l.map bj.id).take k);have qp:=Mn l[k].calls stops 0 172800 (hl.2 _ (an7 hk)).calls.1;simp only[res]at qp;simp only[xP,tc,h1,BY,af,AT,ta hk,IS,U,qy,rY,qz,mC,aZ,asInt,asBool,ah,hid,nf,ko,qp,bN,alx,an5,Nat.reduceAdd,aev,ali,aT,ag (show k<9223372036854775807 by omega),jR bj.id l k hk,fb];unfold zz;rw[ta hk];simp only;generalize (lD l[k].calls stops 0 172800).2=e;cases fR l[k].id with
   |false=>rfl
   |true=>
    by_cases bk:l[k].id∈(l.map bj.id).take k
    ·simp only[bk,BY,alk,AI,aod,OF];rfl
    ·simp only[bk,BY,alk,AI,aod,OF];cases decide (l[k].bX<0)<;>cases decide (l[k].bX≥ao)<;>cases decide (l[k].xK<0)<;>cases decide (l[k].xK≥dK)<;>(try rfl);grind [Bw,bC,res]
  ·simp only[xP,tc,an6,OF];rfl
  ·have:=aF;omega
theorem Yv(l:List bj)(hl:l.length≤maxLen)(s:Bytes):tW [.rs 5 (l.map bj.pv),.str s]=some (.int .i64 (Fm (l.map bj.id) s)):=by
 have hm:=ar;simp only[tW,DZ,ah,aZ,BY,U];refine(aB (fun k=>(l.map bj.pv,s,(k:Int),())) l.length (fun k=>if decide ((l.map bj.id)[k]?=some s)=true then some (some (.int .i64 k))else none) (fin:=some (.int .i64 (-1))) (fun k hk rec=>?_) (fun rec=>?_) ?_ rfl).trans ?_
 ·have h1:(k:Int)<(l.length:Int):=by omega
  simp only[xS,tc,te,h1,BY,af,AT,ta hk,IS,U,qy,aZ,ag (show k<9223372036854775807 by omega),cZ,tb];grind [bC]
 ·simp[xS,tc,te,an6,OF]
 ·have:=aF;omega
 ·rw[gZ];unfold Fm;simp only[te];cases(List.range l.length).find? fun k=>decide ((l.map bj.id)[k]?=some s)<;>rfl
theorem ac3(l:List bj)(stops ao dK:Int)(hl:l.length≤maxLen∧∀y∈l,y.Ok)(k:Nat)(hk:k<l.length):wM [.rs 5 (l.map bj.pv),.int .i64 k,.int .i64 stops,.int .i64 ao,.int .i64 dK]=some (.int .i64 (zz l stops ao dK k)):=by
 have hm:=ar;have hid:=QZ l[k].id (hl.2 _ (an7 hk)).id;have qp:=TF l[k].calls stops (hl.2 _ (an7 hk)).calls.1;have Kr:=Yv (l.take k) (by simp;omega) l[k].id;have G2:=aeG ((l.take k).map bj.id) l[k].id;have YP:(l.take k).map bj.id=(l.map bj.id).take k:=by simp
 have htp:(l.take k).map bj.pv=(l.map bj.pv).take k:=by simp
 rw[YP]at G2 Kr;rw[htp]at Kr;have hc:(0:Int)≤0∧(0:Int)≤(k:Int)∧(k:Int)≤((l.map bj.pv).length:Int)∧True∧5≠0:=⟨by omega,by omega,by simp;omega,trivial,by omega⟩;simp only[wM,Gs,ah,asInt,BY,U,af,AT,ta hk,IS,qy,rY,qz,mC,aZ,asBool,hid,qp,an9,aqE,aqd,Kr,aT,tc];unfold zz;grind
theorem ac4(l:List bj)(stops ao dK:Int)(hl:l.length≤maxLen∧∀y∈l,y.Ok):rB [.rs 5 (l.map bj.pv),.int .i64 stops,.int .i64 ao,.int .i64 dK]=some (res (mO l stops ao dK).1 (mO l stops ao dK).2):=by
 have hm:=ar;simp only[rB,BP,ah,asInt,BY,U,te];unfold mO;by_cases kH:l.length>256
 ·rw[No (by simp;omega),No kH];rfl
 ·rw[QU (by simp;omega),QU kH,←dy];refine aB (fun k=>(l.map bj.pv,stops,ao,dK,(k:Int),())) l.length _ (fun k hk rec=>?_) (fun rec=>?_) ?_ rfl
  ·have h1:(k:Int)<(l.length:Int):=by omega
   simp only[vF,tc,te,h1,BY,ac3 l stops ao dK hl k hk,U,asInt,ag (show k<9223372036854775807 by omega),fb];grind [zz,Bw,bC,res]
  ·simp only[vF,tc,te,an6,OF];rfl
  ·have:=aF;omega
theorem Ks(n a b:Int):cW [.int .i64 n,.int .i64 a,.int .i64 b]=some (.bool (wi n a b)):=by simp only[cW,zO,asInt,BY,U,bI];rfl
theorem ac5(x:bp):rG [.agg [cell x.pv 0,cell x.pv 1,cell x.pv 2,cell x.pv 3,cell x.pv 4,cell x.pv 5]]=some (.bool (!wh x)):=by simp only[ad8,ajf,ajg,ajh,aji,ajj];simp only[rG,BW,asAgg,cell,PV.cells,aev,ali,alx,an5,Nat.reduceAdd,aZ,asInt,asBool,BY,U,Ks,bI];unfold wh;simp
theorem TG(l:List bp)(hl:l.length≤maxLen)(i:Nat)(hi:i<l.length)(zF:List PV×Int×Unit→Option PV):aV.run (qf zF) (l.map bp.pv,(i:Int),0,())=if l[i].id∈(l.map bp.id).take i then some (res i 6)else if wh l[i]=true then some (res i 2)else zF (l.map bp.pv,IntKind.i64.wrap ((i:Int)+1),()):=by
 have hm:=ar;refine(eI (fun k=>(l.map bp.pv,(i:Int),(k:Int),())) i (fun k=>decide ((l.map bp.id)[k]?=some l[i].id)) (no:=some (res i 6)) (fin:=if wh l[i]=true then some (res i 2)else zF (l.map bp.pv,IntKind.i64.wrap ((i:Int)+1),())) (fun k hk rec=>?_) (fun rec=>?_) ?_ rfl).trans ?_
 ·have h1:(k:Int)<(i:Int):=by omega
  have qo:k<l.length:=by omega
  simp only[qf,tc,h1,BY,af,AT,ta qo,ta hi,IS,U,ad8,aZ,ag (show k<9223372036854775807 by omega),cZ,tb];rfl
 ·simp only[qf,tc,an6,OF,af,AT,ta hi,IS,U,ac5,asBool,ari];rfl
 ·have:=aF;omega
 ·rw[lQ _ _ (by simp;omega)];simp_all
theorem TH(l:List bp)(bE within cap:Int)(hl:l.length≤maxLen∧∀y∈l,y.Ok):rH [CB l bE within cap]=some (res (kn l bE within cap).1 (kn l bE within cap).2):=by
 have hm:=ar;simp only[rH,BX,CB,asAgg,cell,PV.cells,aev,ali,alx,an5,Nat.reduceAdd,ah,asInt,asBool,BY,U,te,Ks,aT];unfold kn;generalize (!wi bE 0 1000000|| !wi within 0 86400|| !wi cap 0 1000000)=c;cases c with
 |true=>rfl
 |false=>
  simp only[AI,OF];by_cases kH:l.length>16
  ·rw[No (by simp;omega),No kH];rfl
  ·rw[QU (by simp;omega),QU kH,←dy];refine aB (fun k=>(l.map bp.pv,(k:Int),())) l.length _ (fun k hk rec=>?_) (fun rec=>?_) ?_ rfl
   ·have h1:(k:Int)<(l.length:Int):=by omega
    have hid:=Fo l[k].id (hl.2 _ (an7 hk)).id;have k8:=TG l hl.1 k hk rec;simp only[vK,tc,te,h1,BY,af,AT,ta hk,IS,U,ad8,aZ,asBool,hid,k8,ag (show k<9223372036854775807 by omega)];unfold NZ;rw[ta hk];simp only;generalize wh l[k]=c;cases fR l[k].id with
    |false=>rfl
    |true=>
     by_cases bk:l[k].id∈(l.map bp.id).take k
     ·simp only[bk,BY,alk,AI,aod,OF];rfl
     ·simp only[bk,BY,alk,AI,aod,OF];cases c<;>rfl
   ·simp only[vK,tc,te,an6,OF];rfl
   ·have:=aF;omega
def lA(l:List Path)(n:Int):Int×Int:=if l.length>512 then(0,5)else cE (eB l n) l.length
theorem L6(l:List Path)(n:Int)(hl:l.length≤maxLen):jl [.rs 4 (l.map Path.pv),.int .i64 n]=some (res (lA l n).1 (lA l n).2):=by
 have h:=JW l n hl;simp only[res]at h;simp only[jl,ve,ah,asInt,BY,U,te,h,bN,alx,an5,Nat.reduceAdd,aev,ali,tc];unfold lA;by_cases kH:l.length>512
 ·rw[No (by omega),No kH];rfl
 ·rw[QU (by omega),QU kH];rfl
theorem TI(l:List Path)(n:Int)(hl:l.length≤maxLen)(i:Nat)(hi:i<l.length)(sW:List PV×Int×Int×Unit→Option PV):aV.run (pT sW) (l.map Path.pv,n,(i:Int),0,.int .i64 l[i].a,.int .i64 l[i].b,.int .i64 l[i].qi,.bool l[i].free,())=if bG l[i]∈(l.map bG).take i then some (res i 6)else sW (l.map Path.pv,n,IntKind.i64.wrap ((i:Int)+1),()):=by
 have hm:=ar;refine(eI (fun k=>(l.map Path.pv,n,(i:Int),(k:Int),PV.int .i64 l[i].a,PV.int .i64 l[i].b,PV.int .i64 l[i].qi,PV.bool l[i].free,())) i (fun k=>decide ((l.map bG)[k]?=some (bG l[i]))) (no:=some (res i 6)) (fin:=sW (l.map Path.pv,n,IntKind.i64.wrap ((i:Int)+1),())) (fun k hk rec=>?_) (fun rec=>?_) ?_ rfl).trans ?_
 ·have h1:(k:Int)<(i:Int):=by omega
  have qo:k<l.length:=by omega
  have hd:decide ((l.map bG)[k]?=some (bG l[i]))=(decide (l[k].a=l[i].a)&&decide (l[k].b=l[i].b)&&decide (l[k].free=l[i].free)):=by rw[aoy];simp[ta qo,bG,aq9]
  simp only[pT,tc,h1,BY,af,AT,ta qo,IS,U,P3,P4,P5,asInt,asBool,ag (show k<9223372036854775807 by omega),cZ,bI];grind [bG,res]
 ·simp[pT,tc,an6,OF]
 ·have:=aF;omega
 ·rw[lQ _ _ (by simp;omega)];simp_all
theorem Yw(l:List Path)(n:Int)(hl:l.length≤maxLen):rr [.rs 4 (l.map Path.pv),.int .i64 n]=some (res (cE (eB l n) l.length).1 (cE (eB l n) l.length).2):=by
 have hm:=ar;simp only[rr,BI,ah,asInt,BY,U];rw[←dy];refine aB (fun k=>(l.map Path.pv,n,(k:Int),())) l.length _ (fun k hk rec=>?_) (fun rec=>?_) ?_ rfl
 ·have h1:(k:Int)<(l.length:Int):=by omega
  have k8:=TI l n hl k hk rec;simp only[vz,tc,te,h1,BY,af,AT,ta hk,IS,U,P3,P4,UF,P5,asInt,k8,cZ,aT,ag (show k<9223372036854775807 by omega)];unfold eB;rw[ta hk];simp only;generalize (decide (l[k].a<0)||decide (l[k].a≥n)||decide (l[k].b<0)||decide (l[k].b≥n)||decide (l[k].a=l[k].b))=A;generalize (decide (l[k].qi<1)||decide (l[k].qi>14400))=B;by_cases bk:bG l[k]∈(l.map bG).take k
  ·simp only[bk,BY];cases A<;>cases B<;>rfl
  ·simp only[bk,OF];cases A<;>cases B<;>rfl
 ·simp only[vz,tc,te,an6,OF];rfl
 ·have:=aF;omega
theorem PI(l:List Path)(n:Int)(hl:l.length≤maxLen):mF [.rs 4 (l.map Path.pv),.int .i64 n]=some (res (lA l n).1 (lA l n).2):=by
 have h:=Yw l n hl;simp only[res]at h;simp only[mF,BJ,ah,asInt,BY,U,te,h,bN,alx,an5,Nat.reduceAdd,aev,ali,tc];unfold lA;by_cases kH:l.length>512
 ·rw[No (by omega),No kH];rfl
 ·rw[QU (by omega),QU kH];rfl
def rZ(t first start:Int):Bool:=decide (0≤t-first+start)&&decide (t-first+start≤172800)
theorem TJ(n:Int):((BitVec.ofInt 64 n&&&BitVec.ofInt 64 4294967295).toNat:Int)=n%4294967296:=by
 have h:(BitVec.ofInt 64 4294967295).toNat=2^32-1:=by rfl
 rw[BitVec.toNat_and,h,Nat.and_two_pow_sub_one_eq_mod,BitVec.toNat_ofInt];omega
theorem ac6(n:Int):((BitVec.ofInt IntKind.i64.bits n&&&BitVec.ofInt IntKind.i64.bits 4294967295).toNat:Int)=n%4294967296:=TJ n
theorem Yx(n:Int):eg [.int .i64 n]=some (.bool (decide (n< -2305843009213693952)||decide (n>2305843009213693952))):=by simp[eg,pG,asInt,BY,U,aT]
theorem dU(a:Int):qj a↔-9223372036854775808≤a∧a≤9223372036854775807:=by
 have h1:IntKind.i64.min= -9223372036854775808:=by rfl
 have h2:IntKind.i64.max=9223372036854775807:=by rfl
 unfold qj Lit.wf;simp[h1,h2]
theorem two32:((2:Int)^min (Int.toNat 32) IntKind.i64.bits)=4294967296:=by rfl
theorem anx(a:Int):a.fdiv 4294967296=a/4294967296:=aqz _ (by omega)
theorem aeJ(a b c:Int)(ha:qj a)(hb:qj b)(hc:qj c):∃n,lU [.int .i64 a,.int .i64 b,.int .i64 c]=some (.aI [.int .i64 n,.bool (rZ a b c)])∧(rZ a b c=true→n=a-b+c):=by
 obtain⟨ha1,ha2⟩:=(dU _).1 ha;obtain⟨Rb,td⟩:=(dU _).1 hb;obtain⟨hc1,TW⟩:=(dU _).1 hc;simp only[lU,vf,asInt,BY,U,two32,anx,ac6];have w0:∀x:Int,IntKind.i64.wrap (x%4294967296)=x%4294967296:=fun x=>aY (by omega) (by omega);have w1:IntKind.i64.wrap (a/4294967296-b/4294967296)=a/4294967296-b/4294967296:=aY (by omega) (by omega);have w2:IntKind.i64.wrap (a/4294967296-b/4294967296+c/4294967296)=a/4294967296-b/4294967296+c/4294967296:=aY (by omega) (by omega);have w3:IntKind.i64.wrap (a%4294967296-b%4294967296)=a%4294967296-b%4294967296:=aY (by omega) (by omega);have w4:IntKind.i64.wrap (a%4294967296-b%4294967296+c%4294967296)=a%4294967296-b%4294967296+c%4294967296:=aY (by omega) (by omega);have w5:IntKind.i64.wrap (a/4294967296-b/4294967296+c/4294967296+(a%4294967296-b%4294967296+c%4294967296)/4294967296)=a/4294967296-b/4294967296+c/4294967296+(a%4294967296-b%4294967296+c%4294967296)/4294967296:=aY (by omega) (by omega);simp only[w0,w1,w2,w3,w4,w5];generalize hH:a/4294967296-b/4294967296+c/4294967296+(a%4294967296-b%4294967296+c%4294967296)/4294967296=H;generalize hL:(a%4294967296-b%4294967296+c%4294967296)%4294967296=Lo;have hs:a-b+c=H*4294967296+Lo:=by omega
 have hLo:0≤Lo∧Lo<4294967296:=by omega
 unfold rZ;by_cases h0:H=0
 ·have e0:(BitVec.ofInt 64 (IntKind.i64.wrap (H*4294967296))|||BitVec.ofInt 64 Lo).toNat=Lo.toNat:=by grind
  have e1:IntKind.i64.wrap ((BitVec.ofInt IntKind.i64.bits (IntKind.i64.wrap (H*4294967296))|||BitVec.ofInt IntKind.i64.bits Lo).toNat:Int)=Lo:=by have e2:(BitVec.ofInt IntKind.i64.bits (IntKind.i64.wrap (H*4294967296))|||BitVec.ofInt IntKind.i64.bits Lo).toNat=Lo.toNat:=e0;rw[e2];rw[aY (by omega) (by omega)];omega
  simp_all
 ·have hb:(H==0)=false:=by simp[h0]
  simp only[hb,cond_false,U];have h1:(decide (0≤a-b+c)&&decide (a-b+c≤172800))=false:=by grind
  rw[h1];simp
theorem Fb(a b c:Int)(ha:qj a)(hb:qj b)(hc:qj c):∃n,hU [.int .i64 a,.int .i64 b,.int .i64 c]=some (.aI [.int .i64 n,.bool (rZ a b c)])∧(rZ a b c=true→n=a-b+c):=by
 obtain⟨n,hn,hnn⟩:=aeJ a b c ha hb hc;simp only[hU,sM,asInt,BY,U,Yx,asBool,aT,hn,bN,alx,an5,Nat.reduceAdd,aev,ali,bI];split
 ·exact⟨n,rfl,hnn⟩
 ·rename_i h;simp only[aon,tc,aq5]at h;have w1:IntKind.i64.wrap (a-b)=a-b:=aY (by omega) (by omega);have w2:IntKind.i64.wrap (a-b+c)=a-b+c:=aY (by omega) (by omega);simp only[w1,w2];exact⟨_,rfl,fun _=>rfl⟩
theorem Fc(a b c:Int)(ha:qj a)(hb:qj b)(hc:0≤c∧c≤172800):∃n,mH [.int .i64 a,.int .i64 c,.int .i64 b]=some (.aI [.int .i64 n,.bool (rZ a b c)])∧(rZ a b c=true→n=a-b+c):=by
 obtain⟨ha1,ha2⟩:=(dU _).1 ha;obtain⟨Rb,td⟩:=(dU _).1 hb;have u:∀x y:Int,x≥y→-9223372036854775808≤y→x≤9223372036854775807→IntKind.u64.wrap (IntKind.u64.wrap x-IntKind.u64.wrap y)=x-y:=by intro x y h1 h2 h3;simp only[IntKind.wrap,IntKind.signed,IntKind.bits,apF,OF,AI];omega
 simp only[mH,BR,asInt,BY,U,aT,bI];have h0:(decide (c<0)||decide (c>172800))=false:=by simp_all
 simp only[h0,AI,OF,tc];unfold rZ;have A1:∀d:Int,(d=a-b∨d=b-a)→d>172800→(decide (0≤a-b+c)&&decide (a-b+c≤172800))=false:=by grind
 have alX:a-b≤172800→b-a≤172800→IntKind.i64.wrap (c+IntKind.i64.wrap (a-b))=a-b+c:=by grind [aY]
 by_cases sn:a≥b
 ·rw[No sn,u a b sn Rb ha2];split
  ·rename_i h;rw[A1 _ (.inl rfl) h];simp
  ·rename_i h;rw[alX (by omega) (by omega)];simp
 ·rw[QU sn,u b a (by omega) ha1 td];split
  ·rename_i h;rw[A1 _ (.inr rfl) h];simp
  ·rename_i h;rw[alX (by omega) (by omega)];simp
theorem jZ{S R:Type}{body:S→(S→Option R)→Option R}(st:Nat→S)(n:Nat)(bad:Nat→Option (Option R)){fin:Option R}(h:∀k,k<n→(∀j,j<k→bad j=none)→∀rec,body (st k) rec=bC (bad k) (rec (st (k+1))))(ye:(∀j,j<n→bad j=none)→∀rec,body (st n) rec=fin)(hn:n<rounds){s0:S}(h0:st 0=s0):aV.run body s0=bC ((List.range n).findSome? bad) fin:=by
 have key:∀(m j N:Nat),j+m=n→m<N→(∀i,i<j→bad i=none)→dH body N (st j)=bC ((List.range' j m).findSome? bad) fin:=by
  intro m;induction m with
  |zero=>
   intro j N hj hN hq;cases N with
   |zero=>omega
   |succ N=>
    have:j=n:=by omega
    subst this;simp only[dH,List.range'_zero,aqD];exact ye hq _
  |succ m ih=>
   intro j N hj hN hq;cases N with
   |zero=>omega
   |succ N=>
    simp only[dH,ap6,ao3];rw[h j (by omega) hq];cases hb:bad j with
    |some r=>rfl
    |none=>refine ih (j+1) N (by omega) (by omega) fun i hi=>?_;grind
 grind [vV,rounds,List.range_eq_range']
theorem Hw(x:aJ):cell x.pv 3=.bool x.QY:=rfl
theorem Hx(x:aJ):cell x.pv 4=.bool x.Kq:=rfl
theorem vp(x:bj):cell x.pv 3=.bool x.free:=rfl
theorem Kb(x:bj):asAgg 5 x.pv=some ():=rfl
theorem QA(cs:List PV)(k:Nat):cell (.agg cs) k=cs.getD k .bad:=rfl
def F9(x:aJ)(first start:Int):aJ:={x with arr:=x.arr-first+start,dep:=x.dep-first+start}
def kOk(x:aJ)(first start:Int):Bool:=rZ x.arr first start&&rZ x.dep first start
def gy(l:List aJ)(first start:Int)(k:Nat):Bool:=match l[k]? with|some x=>kOk x first start|none=>true
def mh(l:List aJ)(start:Int):Int:=match l with
 |[]=>16
 |c::_=>if(List.range l.length).all (gy l c.dep start)=true then 0 else 10
theorem pO{B:Type}(p:Nat→Bool)(r:B):∀l:List Nat,l.findSome? (fun k=>if p k=true then none else some r)=if l.all p=true then none else some r:=by
 intro l;induction l with
 |nil=>rfl
 |cons a l ih=>grind
def D9(l:List aJ)(f:aJ→aJ)(k:Nat):List PV:=((l.take k).map fun x=>(f x).pv)++(l.drop k).map aJ.pv
theorem Qx(l:List aJ)(f:aJ→aJ)(k:Nat)(h:k≤l.length):(D9 l f k).length=l.length:=by simp[D9];omega
theorem Qy(l:List aJ)(f:aJ→aJ)(k:Nat)(h:k<l.length):(D9 l f k)[k]?=some l[k].pv:=by grind [D9,List.getElem?_append_right,Nat.min_eq_left,Nat.le_of_lt]
theorem Qz(l:List aJ)(f:aJ→aJ)(k:Nat)(h:k<l.length):(D9 l f k).set k (f l[k]).pv=D9 l f (k+1):=by unfold D9;rw[List.set_append_right _ _ (by simp;omega)];have h1:l.drop k=l[k]::l.drop (k+1):=(apG h);have h2:l.take (k+1)=l.take k++[l[k]]:=(ao8 h).symm;rw[h1,h2];simp only[te,aoz,ao0 (aqj h),Nat.sub_self,aog,List.set_cons_zero,aos,ape,aow,List.singleton_append]
theorem fm(k n:Nat)(h:k<n):ax (k:Int) n:=by unfold ax;omega
theorem MG(x:bj)(hx:x.Ok)(start:Int)(hs:qj start)(Ar:x.calls.length≤40):∃es,cq [x.pv,.int .i64 start]=some (.aI [.rs 5 es,.int .i64 (mh x.calls start)]):=by
 have hm:=ar;have pN:∀y∈x.calls,y.Ok:=hx.calls.2;simp only[cq,mS,Kb,qy,rY,qz,vp,mC,aZ,ah,asInt,asBool,BY,U,te];generalize x.calls=l at Ar pN⊢;cases l with
 |nil=>exact⟨[],rfl⟩
 |cons c l=>
  generalize hl:c::l=cs at Ar pN⊢;have Rc:cs[0]?=some c:=by rw[←hl];rfl
  have eY:0<cs.length:=by rw[←hl];simp
  have hcE:mh cs start=if(List.range cs.length).all (gy cs c.dep start)=true then 0 else 10:=by rw[←hl];rfl
  have Kc:c.Ok:=pN c (by rw[←hl];simp);have bU:((cs.length:Int)==0)=false:=by grind
  have hix:og (cs.map aJ.pv) 0=some c.pv:=by have:=af (cs.map aJ.pv) 0;simp_all
  have bw:0≤(cs.length:Int)∧(cs.length:Int)≤(cs.length:Int)∧(cs.length:Int).toNat*32≤ab∧0<32∧0<5:=by grind [decide,ab]
  rw[bU,hix];simp only[AI,OF,U,qv,asInt,BY,No bw,aoI,an9,aoF (are (te _)),te];rw[aqQ (by simp),aoM,te];have To:0≤(cs.length:Int)∧(cs.length:Int)≤(cs.length:Int)∧cs.length*32≤ab∧0<32∧0<5:=bw;have Ke:aV.run dG (start,c.dep,(cs.length:Int),0,cs.map aJ.pv,())=bC ((List.range cs.length).findSome? fun k=>if gy cs c.dep start k=true then none else some (some (.aI [.rs 5 [],.int .i64 10]))) (some (.aI [.rs 5 (D9 cs (fun x=>F9 x c.dep start) cs.length),.int .i64 0])):=by
   refine aB (fun k=>(start,c.dep,(cs.length:Int),(k:Int),D9 cs (fun x=>F9 x c.dep start) k,())) cs.length _ (fun k hk rec=>?_) (fun rec=>?_) ?_ ?_
   ·have h1:(k:Int)<(cs.length:Int):=by omega
    have xU:cs[k].Ok:=pN _ (an7 hk);obtain⟨n1,e1,q1⟩:=Fb cs[k].arr c.dep start xU.arr Kc.dep hs;obtain⟨n2,e2,q2⟩:=Fb cs[k].dep c.dep start xU.dep Kc.dep hs;have hlen:=Qx cs (fun x=>F9 x c.dep start) k (by omega);have ey:=Qy cs (fun x=>F9 x c.dep start) k hk;have sx:=Qz cs (fun x=>F9 x c.dep start) k hk;have hr:ax (k:Int) cs.length:=fm k _ hk;have acx:gy cs c.dep start k=(rZ cs[k].arr c.dep start&&rZ cs[k].dep c.dep start):=by unfold gy;rw[ta hk];rfl
    have M6:∀X,((D9 cs (fun x=>F9 x c.dep start) k).set k X)[k]?=some X:=fun X=>by simp_all
    simp only[dG,tc,h1,BY,hlen,No hr,an9,ey,U,tn,Am,qv,Hw,Hx,asInt,e1,e2,bN,asBool,alx,an5,Nat.reduceAdd,aev,ali,apW,M6,QA,over,aqZ,ag (show k<9223372036854775807 by omega)];grind [rZ,start,bC,F9,aJ.pv]
   ·simp[dG,tc,an6,OF]
   ·grind [rounds,decide]
   rfl
  rw[No To,Ke,pO,hcE];by_cases mr:(List.range cs.length).all (gy cs c.dep start)=true
  ·rw[No mr,No mr];exact⟨_,rfl⟩
  ·rw[QU mr,QU mr];exact⟨_,rfl⟩
theorem MH(x:bj)(hx:x.Ok)(start:Int)(hs:0≤start∧start≤172800)(Ar:x.calls.length≤40):∃es,fX [x.pv,.int .i64 start]=some (.aI [.rs 5 es,.int .i64 (mh x.calls start)]):=by
 have hm:=ar;have pN:∀y∈x.calls,y.Ok:=hx.calls.2;simp only[fX,wv,Kb,qy,rY,qz,vp,mC,aZ,ah,asInt,asBool,BY,U,te];generalize x.calls=l at Ar pN⊢;cases l with
 |nil=>exact⟨[],rfl⟩
 |cons c l=>
  generalize hl:c::l=cs at Ar pN⊢;have Rc:cs[0]?=some c:=by rw[←hl];rfl
  have eY:0<cs.length:=by rw[←hl];simp
  have hcE:mh cs start=if(List.range cs.length).all (gy cs c.dep start)=true then 0 else 10:=by rw[←hl];rfl
  have Kc:c.Ok:=pN c (by rw[←hl];simp);have bU:((cs.length:Int)==0)=false:=by grind
  have hix:og (cs.map aJ.pv) 0=some c.pv:=by rw[show(0:Int)=((0:Nat):Int)from rfl,af,AT,Rc];rfl
  rw[bU,hix];simp only[AI,OF,U,qv,asInt,BY];have Ke:aV.run (gr aV) (start,c.dep,0,x.id,x.bX,x.xK,x.free,cs.map aJ.pv,[],())=bC ((List.range cs.length).findSome? fun k=>if gy cs c.dep start k=true then none else some (some (.aI [.rs 5 [],.int .i64 10]))) (some (.aI [.rs 5 (cs.map fun x=>(F9 x c.dep start).pv),.int .i64 0])):=by
   refine aB (fun k=>(start,c.dep,(k:Int),x.id,x.bX,x.xK,x.free,cs.map aJ.pv,(cs.take k).map (fun x=>(F9 x c.dep start).pv),())) cs.length _ (fun k hk rec=>?_) (fun rec=>?_) ?_ rfl
   ·have h1:(k:Int)<(cs.length:Int):=by omega
    have xU:cs[k].Ok:=pN _ (an7 hk);obtain⟨n1,e1,q1⟩:=Fc cs[k].arr c.dep start xU.arr Kc.dep hs;obtain⟨n2,e2,q2⟩:=Fc cs[k].dep c.dep start xU.dep Kc.dep hs;have acx:gy cs c.dep start k=(rZ cs[k].arr c.dep start&&rZ cs[k].dep c.dep start):=by unfold gy;rw[ta hk];rfl
    have bw:∀X:PV,(((cs.take k).map (fun x=>(F9 x c.dep start).pv))++[X]).length*32≤ab∧0<32:=fun X=>by refine⟨?_,by omega⟩;grind [List.length_append,List.length_map,List.length_take,List.length_cons,List.length_nil,ab]
    simp only[gr,tc,te,h1,BY,af,AT,ta hk,IS,U,tn,Am,qv,Hw,Hx,asInt,e1,e2,bN,asBool,alx,an5,Nat.reduceAdd,aev,ali,No (bw _),ag (show k<9223372036854775807 by omega)];rw[acx];cases hA:rZ cs[k].arr c.dep start with
    |false=>rfl
    |true=>
     cases hB:rZ cs[k].dep c.dep start with
     |false=>rfl
     |true=>have ht:cs.take (k+1)=cs.take k++[cs[k]]:=(ao8 hk).symm;rw[ht,q1 hA,q2 hB];simp only[alk,cond_false,U,AI,OF,apw,BY,bC,aos,aog,ape,F9,aJ.pv]
   ·simp[gr,tc,te,an6,OF,aoJ]
   grind [rounds,decide]
  rw[Ke,pO,hcE];by_cases mr:(List.range cs.length).all (gy cs c.dep start)=true
  ·rw[No mr,No mr];exact⟨_,rfl⟩
  ·rw[QU mr,QU mr];exact⟨_,rfl⟩
theorem pM(x:ba):cell x.pv 0=.int .i64 x.bn:=rfl
theorem tt(x:ba):cell x.pv 1=.int .i64 x.t0:=rfl
theorem tu(x:ba):cell x.pv 2=.int .i64 x.t1:=rfl
theorem tv(x:ba):cell x.pv 3=.int .i64 x.every:=rfl
theorem Fe(x:ba):asAgg 4 x.pv=some ():=rfl
theorem Aq(x:ba):PV.agg [.int .i64 x.bn,.int .i64 x.t0,.int .i64 x.t1,.int .i64 x.every]=x.pv:=rfl
theorem MB(x:bj):PV.agg [.str x.id,.int .i64 x.bX,.int .i64 x.xK,.bool x.free,.rs 5 (x.calls.map aJ.pv)]=x.pv:=rfl
def dA(x:ba):Bool:=decide (x.t0≥0)&&decide (x.t0<x.t1)&&decide (x.t1≤172800)&&decide (x.every≥1)&&decide (x.every≤86400)
theorem fA(x:ba):dA x=true↔0≤x.t0∧x.t0<x.t1∧x.t1≤172800∧1≤x.every∧x.every≤86400:=by simp[dA,aq9]
theorem Hv(x:ba):hZ [x.pv]=some (.bool (dA x)):=by simp only[hZ,sN,Fe,pM,tt,tu,tv,asInt,BY,U,bI];rfl
theorem zS(x:ba):j3 [x.pv]=some (.bool (dA x)):=by
 simp only[j3,BG,Fe,pM,tt,tu,tv,asInt,BY,U,bI];have:∀a b:Bool,a=b→some (PV.bool a)=some (PV.bool b):=fun a b h=>by rw[h]
 apply this;rw[aoy,fA];grind
def cX(x:ba):Int:=(x.t1-x.t0-1)/x.every+1
theorem pL(x:ba)(h:dA x=true):1≤cX x∧cX x≤172800:=by obtain⟨h1,h2,h3,h4,h5⟩:=(fA x).1 h;unfold cX;have a:=aqV (show 0≤x.t1-x.t0-1 by omega) (show 0≤x.every by omega);have b:=Int.ediv_le_self (b:=x.every) (show 0≤x.t1-x.t0-1 by omega);omega
theorem Kt(x:ba)(h:dA x=true):fB [x.pv]=some (.int .i64 (cX x)):=by
 have hc:=pL x h;obtain⟨h1,h2,h3,h4,h5⟩:=(fA x).1 h;have w1:IntKind.i64.wrap (x.t1-x.t0)=x.t1-x.t0:=aY (by omega) (by omega);have w2:IntKind.i64.wrap (x.t1-x.t0+x.every)=x.t1-x.t0+x.every:=aY (by omega) (by omega);have w3:IntKind.i64.wrap (x.t1-x.t0+x.every-1)=x.t1-x.t0+x.every-1:=aY (by omega) (by omega);have e:(x.t1-x.t0+x.every-1).tdiv x.every=cX x:=by
  rw[Int.tdiv_eq_ediv_of_nonneg (by omega)];unfold cX;have:x.t1-x.t0+x.every-1=(x.t1-x.t0-1)+1*x.every:=by omega
  rw[this,Int.add_mul_ediv_right _ _ (by omega)]
 simp only[fB,sO,Fe,pM,tt,tu,tv,asInt,BY,U,w1,w2,w3,e,QU (show¬x.every=0 by omega)];rw[aY (by omega) (by omega)]
theorem aeK(x:ba)(h:dA x=true):rC [x.pv]=some (.int .i64 (cX x)):=by
 have hc:=pL x h;obtain⟨h1,h2,h3,h4,h5⟩:=(fA x).1 h;have w1:IntKind.i64.wrap (x.t1-x.t0)=x.t1-x.t0:=aY (by omega) (by omega);have w2:IntKind.i64.wrap (x.t1-x.t0-1)=x.t1-x.t0-1:=aY (by omega) (by omega);have e:(x.t1-x.t0-1).tdiv x.every=cX x-1:=by grind [Int.tdiv_eq_ediv_of_nonneg,cX]
 simp only[rC,BQ,Fe,pM,tt,tu,tv,asInt,BY,U,w1,w2,e,QU (show¬x.every=0 by omega)];rw[aY (x:=cX x-1) (by omega) (by omega),aY (by omega) (by omega)];simp
def As(x:ba):Int:=x.t0+(cX x-1)*x.every
theorem Ka(x:ba)(h:dA x=true):0≤(cX x-1)*x.every∧(cX x-1)*x.every≤x.t1-x.t0-1∧x.t1-x.t0≤cX x*x.every:=by
 obtain⟨h1,h2,h3,h4,h5⟩:=(fA x).1 h;have e:cX x-1=(x.t1-x.t0-1)/x.every:=by unfold cX;omega
 have e2:cX x*x.every=(cX x-1)*x.every+x.every:=by rw[Int.sub_mul];omega
 rw[e2,e];have a:=Int.mul_ediv_add_emod (x.t1-x.t0-1) x.every;have b:=Int.emod_lt_of_pos (x.t1-x.t0-1) (show 0<x.every by omega);have c:=Int.emod_nonneg (x.t1-x.t0-1) (show x.every≠0 by omega);have d:=aqe (aqV (show 0≤x.t1-x.t0-1 by omega) (show 0≤x.every by omega)) (show 0≤x.every by omega);grind
theorem Yy(x:ba)(h:dA x=true):lW [x.pv]=some (.int .i64 (As x)):=by have hc:=pL x h;have Pv:=Ka x h;obtain⟨h1,h2,h3,h4,h5⟩:=(fA x).1 h;have w1:IntKind.i64.wrap (cX x-1)=cX x-1:=aY (by omega) (by omega);have w2:IntKind.i64.wrap ((cX x-1)*x.every)=(cX x-1)*x.every:=aY (by omega) (by omega);have w3:IntKind.i64.wrap (x.t0+(cX x-1)*x.every)=As x:=aY (by omega) (by omega);simp only[lW,vh,Fe,pM,tt,tu,tv,asInt,BY,U,Aq,Kt x h,w1,w2,w3]
def lO(x:ba)(n:Nat):List PV:=(List.range n).map fun(j:Nat)=>PV.int .i64 (x.t0+(j:Int)*x.every)
theorem Kf(x:ba)(h:dA x=true):gu [x.pv]=some (.rs 1 (lO x (cX x).toNat)):=by
 have hc:=pL x h;have Pv:=Ka x h;obtain⟨h1,h2,h3,h4,h5⟩:=(fA x).1 h;simp only[gu,tL,Fe,pM,tt,tu,tv,asInt,asBool,BY,U,Aq,zS,h,alk,AI,OF];refine aM (fun k=>(x.t0+(k:Int)*x.every,x.bn,x.t0,x.t1,x.every,lO x k,())) (cX x).toNat (fun k hk rec=>?_) (fun rec=>?_) ?_ ?_
 ·have OC:(k:Int)≤cX x-1:=by omega
  have uz:(k:Int)*x.every≤(cX x-1)*x.every:=apo OC (by omega);have G2:0≤(k:Int)*x.every:=aqe (by omega) (by omega);have bF:x.t0+(k:Int)*x.every<x.t1:=by omega
  have bw:(lO x k++[PV.int .i64 (x.t0+(k:Int)*x.every)]).length*8≤ab∧0<8:=by refine⟨?_,by omega⟩;simp only[lO,aob,te,List.length_range,alx,an5];unfold ab;omega
  have am3:((k+1:Nat):Int)*x.every=(k:Int)*x.every+x.every:=by grind
  have hw:IntKind.i64.wrap (x.t0+(k:Int)*x.every+x.every)=x.t0+((k+1:Nat):Int)*x.every:=by grind [aY]
  simp_all[lO,aoQ,s8,tc,BY,No]
 ·have he:(((cX x).toNat:Nat):Int)*x.every=cX x*x.every:=by grind
  have bF:¬x.t0+(((cX x).toNat:Nat):Int)*x.every<x.t1:=by omega
  simp_all[s8,tc,QU]
 ·grind [rounds,decide]
 ·simp[lO]
def B5(x:bj)(f:ba):Bool:=decide (mh x.calls f.t0≠10)&&decide (mh x.calls (As f)≠10)
theorem zZ(c:aJ)(l:List aJ)(s:Int):mh (c::l) s=0∨mh (c::l) s=10:=by show(if(List.range (c::l).length).all (gy (c::l) c.dep s)=true then(0:Int)else 10)=0∨(if(List.range (c::l).length).all (gy (c::l) c.dep s)=true then(0:Int)else 10)=10;omega
theorem Wi(x:ba)(h:dA x=true):0≤As x∧As x≤172800:=by have Pv:=Ka x h;grind [fA,As]
theorem Yz(x:bj)(hx:x.Ok)(Ar:x.calls.length≤40)(f:ba)(hf:dA f=true):lX [x.pv,f.pv]=some (.bool (B5 x f)):=by
 obtain⟨h1,h2,h3,h4,h5⟩:=(fA f).1 hf;have hl:=Wi f hf;obtain⟨es1,e1⟩:=MG x hx f.t0 ((dU _).2 (by omega)) Ar;obtain⟨es2,e2⟩:=MG x hx (As f) ((dU _).2 (by omega)) Ar;simp only[lX,vi,Kb,qy,rY,qz,vp,mC,Fe,pM,tt,tu,tv,aZ,ah,asInt,asBool,BY,U,te,Aq,MB,Yy f hf,e1,e2,bN,alx,an5,Nat.reduceAdd,aev,ali,bI];unfold B5;cases M7:x.calls with
 |nil=>rfl
 |cons c l=>
  have bU:(((c::l).length:Int)==0)=false:=by rfl
  rw[bU];simp only[AI,OF];rcases zZ c l f.t0 with h|h<;>rcases zZ c l (As f)with h'|h'<;>rw[h,h']<;>rfl
theorem ac7(x:bj)(hx:x.Ok)(Ar:x.calls.length≤40)(f:ba)(hf:dA f=true):tX [x.pv,f.pv]=some (.bool (B5 x f)):=by
 have hc:=pL f hf;obtain⟨h1,h2,h3,h4,h5⟩:=(fA f).1 hf;have hl:=Wi f hf;obtain⟨es1,e1⟩:=MH x hx f.t0 (by omega) Ar;obtain⟨es2,e2⟩:=MH x hx (As f) hl Ar;have hlen:(lO f (cX f).toNat).length=(cX f).toNat:=by simp[lO]
 have hi0:og (lO f (cX f).toNat) 0=some (.int .i64 f.t0):=by rw[show(0:Int)=((0:Nat):Int)from rfl,af];grind [lO,List.getElem?_range,cX]
 have hw:IntKind.i64.wrap (((cX f).toNat:Int)-1)=(((cX f).toNat-1:Nat):Int):=by grind [aY]
 have hi1:og (lO f (cX f).toNat) (((cX f).toNat-1:Nat):Int)=some (.int .i64 (As f)):=by
  rw[af];simp only[lO,AT,apz (show(cX f).toNat-1<(cX f).toNat by omega),IS];have:(((cX f).toNat-1:Nat):Int)=cX f-1:=by omega
  rw[this];rfl
 have hci:∀n:Int,cell (.int .i64 n) 0=.int .i64 n:=fun _=>rfl;simp only[tX,D2,Kb,qy,rY,qz,vp,mC,Fe,pM,tt,tu,tv,aZ,ah,asInt,asBool,BY,U,te,Aq,MB,Kf f hf,hlen,hi0,hw,hi1,hci,e1,e2,bN,alx,an5,Nat.reduceAdd,aev,ali,bI,fb];unfold B5;simp
def fitsAt(ae:List bj)(f:ba):Bool:=match ae[f.bn.toNat]? with|some x=>B5 x f|none=>true
def AF(l:List ba)(f:ba)(k:Nat):Int:=((l.take k).map fun g=>if g.bn=f.bn then cX g else 0).sum
def Ku(f g:ba):Bool:=decide (g.bn=f.bn)&&(decide (g.t0<f.t1)&&decide (f.t0<g.t1))
def anyM(l:List ba)(f:ba)(k:Nat):Bool:=(l.take k).any (Ku f)
def wJ(l:List ba)(ae:List bj)(k:Nat):Int:=match l[k]? with
 |none=>0
 |some f=>if(decide (f.bn<0)||decide (f.bn≥(ae.length:Int)))=true then 9 else if(!dA f|| !fitsAt ae f)=true then 10 else if cX f+AF l f k>256 then 17 else if anyM l f k=true then 8 else 0
def rj(l:List ba)(ae:List bj):Int×Int:=if l.length>64 then(0,5)else cE (wJ l ae) l.length
theorem CI(l:List ba)(f:ba)(k:Nat)(h:k<l.length):AF l f (k+1)=AF l f k+if l[k].bn=f.bn then cX l[k]else 0:=by unfold AF;have h2:l.take (k+1)=l.take k++[l[k]]:=(ao8 h).symm;grind
theorem MI(l:List ba)(f:ba)(k:Nat)(h:k<l.length):anyM l f (k+1)=(anyM l f k||Ku f l[k]):=by unfold anyM;have h2:l.take (k+1)=l.take k++[l[k]]:=(ao8 h).symm;grind
theorem Kv(l:List ba)(f:ba):∀k,k≤l.length→(∀j(h:j<l.length),j<k→dA l[j]=true)→0≤AF l f k∧AF l f k≤172800*(k:Int):=by
 intro k;induction k with
 |zero=>intro _ _;simp[AF]
 |succ k ih=>intro hk hq;have:=ih (by omega) fun j h hj=>hq j h (by omega);rw[CI l f k (by omega)];have hc:=pL l[k] (hq k (by omega) (by omega));omega
theorem Dg(l:List ba)(ae:List bj)(k:Nat)(h:k<l.length)(he:wJ l ae k=0):dA l[k]=true:=by unfold wJ at he;grind
theorem YA(l:List ba)(ae:List bj)(ht:ae.length≤maxLen∧∀y∈ae,y.Ok)(Ar:∀y∈ae,y.calls.length≤40)(hl:l.length≤maxLen):kA [.rs 4 (l.map ba.pv),.rs 5 (ae.map bj.pv)]=some (res (rj l ae).1 (rj l ae).2):=by
 have hm:=ar;simp only[kA,sP,ah,BY,U,te];unfold rj;by_cases kH:l.length>64
 ·rw[No (by simp;omega),No kH];rfl
 ·rw[QU (by simp;omega),QU kH,←dy];refine jZ (fun k=>(l.map ba.pv,ae.map bj.pv,l.map ba.pv,(l.length:Int),(k:Int),())) l.length _ (fun k hk hq rec=>?_) (fun _ rec=>?_) ?_ rfl
  ·have h1:(k:Int)<(l.length:Int):=by omega
   have aeL:∀j(h:j<l.length),j<k→dA l[j]=true:=fun j h hj=>by have hqj:=hq j hj;refine Dg l ae j h ?_;simp_all[Bw,wJ,QU]
   simp only[nP,tc,h1,BY,af,AT,ta hk,IS,U,pM,tt,tu,tv,asInt,asBool,Aq,te,aT,Hv];unfold wJ;rw[ta hk];simp only;generalize hf:l[k]=f;by_cases hr:f.bn<0∨f.bn≥(ae.length:Int)
   ·have:(decide (f.bn<0)||decide (f.bn≥(ae.length:Int)))=true:=by simpa using hr
    rw[this];rfl
   ·have RQ:(decide (f.bn<0)||decide (f.bn≥(ae.length:Int)))=false:=by simpa using hr
    simp only[RQ,AI,OF];obtain⟨t,htt⟩:=apN (show 0≤f.bn by omega);have htl:t<ae.length:=by omega
    cases hs:dA f with
    |false=>rfl
    |true=>
     have hfa:fitsAt ae f=B5 ae[t] f:=by simp_all[fitsAt,an9,ta]
     have hfp:=Yz ae[t] (ht.2 _ (an7 htl)) (Ar _ (an7 htl)) f hs;have acM:og (ae.map bj.pv) f.bn=some ae[t].pv:=by rw[htt,af,AT,ta htl];rfl
     simp only[acM,alk,cond_false,U,qy,rY,qz,vp,mC,MB,hfp,asBool,hfa,apO];cases hfb:B5 ae[t] f with
     |false=>rfl
     |true=>
      have hc:(0:Int)≤0∧(0:Int)≤(k:Int)∧(k:Int)≤(l.length:Int)∧True∧4≠0:=⟨by omega,by omega,by omega,trivial,by omega⟩;have hcf:=pL f hs;have bF:(List.map ba.pv l).take k=(l.take k).map ba.pv:=by simp
      simp only[alk,AI,OF,Kt f hs,U,asInt,BY,an9,aqE,aqd,bF,te,aoz,ao0 (aqj hk)];rw[No hc];refine aM (fun j=>(l.map ba.pv,ae.map bj.pv,(k:Int),cX f+AF l f j,anyM l f j,l.map ba.pv,(l.length:Int),(k:Int),(l.take k).map ba.pv,(k:Int),(j:Int),PV.int .i64 f.bn,PV.int .i64 f.t0,PV.int .i64 f.t1,PV.int .i64 f.every,())) k (fun j hj rc=>?_) (fun rc=>?_) ?_ ?_
      ·have hj1:(j:Int)<(k:Int):=by omega
       have tf:j<l.length:=by omega
       have hgl:(l.take k)[j]?=some l[j]:=by simp_all
       have hsj:=aeL j tf hj;have hcj:=pL l[j] hsj;have hb:=Kv l f j (by omega) fun i h hi=>aeL i h (by omega);simp only[nO,tc,hj1,BY,af,AT,hgl,IS,U,pM,tt,tu,tv,asInt,Aq,cZ,ag (show j<9223372036854775807 by omega),bI,aT];rw[CI l f j tf,MI l f j tf];by_cases he:l[j].bn=f.bn
       ·rw[No he,No he,Kt l[j] hsj];have hw:IntKind.i64.wrap (cX f+AF l f j+cX l[j])=cX f+(AF l f j+cX l[j]):=by grind [aY]
        simp_all[U,Ku,aot,ao4,asInt,BY]
       simp_all[QU,Ku,aoo,apF,ao5,Int.add_zero]
      ·simp only[nO,tc,an6,OF,ag (show k<9223372036854775807 by omega)];by_cases Ot:cX f+AF l f k>256
       ·rw[No Ot,No Ot];rfl
       ·rw[QU Ot,QU Ot];cases anyM l f k<;>rfl
      ·grind [rounds,decide]
      ·simp[AF,anyM]
  ·simp only[nP,tc,an6,OF];rfl
  ·have:=aF;omega
theorem ac8(l:List ba)(ae:List bj)(ht:ae.length≤maxLen∧∀y∈ae,y.Ok)(Ar:∀y∈ae,y.calls.length≤40)(hl:l.length≤maxLen):rD [.rs 4 (l.map ba.pv),.rs 5 (ae.map bj.pv)]=some (res (rj l ae).1 (rj l ae).2):=by
 have hm:=ar;simp only[rD,BS,ah,BY,U,te];unfold rj;by_cases kH:l.length>64
 ·rw[No (by simp;omega),No kH];rfl
 ·rw[QU (by simp;omega),QU kH,←dy];refine jZ (fun k=>(l.map ba.pv,ae.map bj.pv,(k:Int),())) l.length _ (fun k hk hq rec=>?_) (fun _ rec=>?_) ?_ rfl
  ·have h1:(k:Int)<(l.length:Int):=by omega
   have aeL:∀j(h:j<l.length),j<k→dA l[j]=true:=fun j h hj=>by have hqj:=hq j hj;refine Dg l ae j h ?_;simp_all[Bw,wJ,QU]
   simp only[vH,tc,h1,BY,af,AT,ta hk,IS,U,pM,tt,tu,tv,asInt,asBool,Aq,te,aT,zS];unfold wJ;rw[ta hk];simp only;generalize hf:l[k]=f;by_cases hr:f.bn<0∨f.bn≥(ae.length:Int)
   ·have:(decide (f.bn<0)||decide (f.bn≥(ae.length:Int)))=true:=by simpa using hr
    rw[this];rfl
   ·have RQ:(decide (f.bn<0)||decide (f.bn≥(ae.length:Int)))=false:=by simpa using hr
    simp only[RQ,AI,OF];obtain⟨t,htt⟩:=apN (show 0≤f.bn by omega);have htl:t<ae.length:=by omega
    cases hs:dA f with
    |false=>rfl
    |true=>
     have hfa:fitsAt ae f=B5 ae[t] f:=by simp_all[fitsAt,an9,ta]
     have hfp:=ac7 ae[t] (ht.2 _ (an7 htl)) (Ar _ (an7 htl)) f hs;have acM:og (ae.map bj.pv) f.bn=some ae[t].pv:=by rw[htt,af,AT,ta htl];rfl
     simp only[acM,alk,cond_false,U,qy,rY,qz,vp,mC,MB,hfp,asBool,hfa,apO];cases hfb:B5 ae[t] f with
     |false=>rfl
     |true=>
      have hcf:=pL f hs;simp only[alk,AI,OF];refine aM (fun j=>(l.map ba.pv,ae.map bj.pv,(k:Int),AF l f j,anyM l f (min j k),(j:Int),PV.int .i64 f.bn,PV.int .i64 f.t0,PV.int .i64 f.t1,PV.int .i64 f.every,())) (k+1) (fun j hj rc=>?_) (fun rc=>?_) ?_ ?_
      ·have hj1:(j:Int)≤(k:Int):=by omega
       have tf:j<l.length:=by omega
       have hsj:dA l[j]=true:=by grind
       have hcj:=pL l[j] hsj;have hb:=Kv l f j (by omega) fun i h hi=>aeL i h (by omega);simp only[vG,tc,hj1,BY,af,AT,ta tf,IS,U,pM,tt,tu,tv,asInt,Aq,fb,ag (show j<9223372036854775807 by omega)];rw[CI l f j tf];have adB:anyM l f (min (j+1) k)=(anyM l f (min j k)||(decide (j<k)&&Ku f l[j])):=by grind [Nat.min_eq_left,MI,Nat.min_eq_right]
       rw[adB];by_cases he:l[j].bn=f.bn
       ·have hw:IntKind.i64.wrap (AF l f j+cX l[j])=AF l f j+cX l[j]:=aY (by omega) (by omega);simp only[he,aot,alk,AI,OF,aeK l[j] hsj,U,asInt,BY,hw,Ku,ao4,bI];grind
       ·simp only[he,aoo,aoj,BY,OF,Ku,apF,Bool.and_false,ao5,Int.add_zero]
      ·have bF:¬((k+1:Nat):Int)≤(k:Int):=by omega
       have anz:AF l f (k+1)=cX f+AF l f k:=by rw[CI l f k hk,hf,No rfl];omega
       simp only[vG,tc,QU bF,ag (show k<9223372036854775807 by omega),anz,Nat.min_eq_right (Nat.le_succ k)];by_cases Ot:cX f+AF l f k>256
       ·rw[No Ot,No Ot];rfl
       ·rw[QU Ot,QU Ot];cases anyM l f k<;>rfl
      ·grind [rounds,decide]
      rfl
  ·simp only[vH,tc,te,an6,OF];rfl
  ·have:=aF;omega
theorem ac9(x:gC):cell x.pv 0=.int .i64 x.a:=rfl
theorem ada(x:gC):cell x.pv 1=.int .i64 x.b:=rfl
theorem TK(n:Int):cell (.int .i64 n) 0=.int .i64 n:=rfl
def iv(n:Int):PV:=.int .i64 n
def dN(l:List gC)(t:Int):Option Int:=(l.find? fun x=>decide (x.a=t)).map gC.b
def nM(o:Option Int):PV:=match o with|some b=>.aI [.int .i64 b,.bool true]|none=>.aI [.int .i64 0,.bool false]
theorem Gx{A B:Type}(p:A→Bool)(g:A→B)(l:List A):(List.range l.length).findSome? (fun k=>(l[k]?).bind fun x=>if p x=true then some (g x)else none)=(l.find? p).map g:=by
 rw[Ix];induction l with
 |nil=>rfl
 |cons x l ih=>grind
theorem GF(l:List gC)(hl:l.length≤maxLen)(t:Int):jm [.rs 2 (l.map gC.pv),.int .i64 t]=some (nM (dN l t)):=by
 have hm:=ar;simp only[jm,zM,ah,asInt,BY,U,te];refine(aB (fun k=>(t,l.map gC.pv,(l.length:Int),(k:Int),())) l.length (fun k=>(l[k]?).bind fun x=>if decide (x.a=t)=true then some (some (nM (some x.b)))else none) (fin:=some (nM none)) (fun k hk rec=>?_) (fun rec=>?_) ?_ rfl).trans ?_
 ·have h1:(k:Int)<(l.length:Int):=by omega
  simp only[s7,tc,h1,BY,af,AT,ta hk,IS,U,aoe,ac9,ada,asInt,ag (show k<9223372036854775807 by omega),cZ];by_cases he:l[k].a=t
  ·simp only[he,BY];rfl
  ·simp only[he,OF];rfl
 ·simp only[s7,tc,an6,OF];rfl
 ·have:=aF;omega
 ·rw[Gx (fun x:gC=>decide (x.a=t)) (fun x=>some (nM (some x.b))) l];unfold dN;cases l.find? fun x=>decide (x.a=t)<;>rfl
theorem QR(l:List gC)(hl:l.length≤maxLen)(t:Int):pX [.rs 2 (l.map gC.pv),.int .i64 t]=some (nM (dN l t)):=by
 have hm:=ar;simp only[pX,D3,ah,asInt,BY,U,te];refine(aB (fun k=>(l.map gC.pv,t,(k:Int),())) l.length (fun k=>(l[k]?).bind fun x=>if decide (x.a=t)=true then some (some (nM (some x.b)))else none) (fin:=some (nM none)) (fun k hk rec=>?_) (fun rec=>?_) ?_ rfl).trans ?_
 ·have h1:(k:Int)<(l.length:Int):=by omega
  simp only[xT,tc,te,h1,BY,af,AT,ta hk,IS,U,aoe,ac9,ada,asInt,ag (show k<9223372036854775807 by omega),cZ];by_cases he:l[k].a=t
  ·simp only[he,BY];rfl
  ·simp only[he,OF];rfl
 ·simp only[xT,tc,te,an6,OF];rfl
 ·have:=aF;omega
 ·rw[Gx (fun x:gC=>decide (x.a=t)) (fun x=>some (nM (some x.b))) l];unfold dN;cases l.find? fun x=>decide (x.a=t)<;>rfl
theorem Wj(l:List Int)(hl:l.length≤maxLen)(t:Int):sl [.rs 1 (l.map iv),.int .i64 t]=some (.bool (decide (t∈l))):=by
 have hm:=ar;simp only[sl,Gt,ah,asInt,BY,U,te];refine(eI (fun k=>(l.map iv,t,(k:Int),())) l.length (fun k=>decide (l[k]?=some t)) (no:=some (.bool true)) (fin:=some (.bool false)) (fun k hk rec=>?_) (fun rec=>?_) ?_ rfl).trans ?_
 ·have h1:(k:Int)<(l.length:Int):=by omega
  simp only[Ad,tc,te,h1,BY,af,AT,ta hk,IS,U,iv,TK,asInt,ag (show k<9223372036854775807 by omega),cZ,tb]
 ·simp[Ad,tc,te,an6,OF]
 ·have:=aF;omega
 ·rw[lQ l l.length (aoa _) t,aoJ];grind
theorem TL(l:List Int)(hl:l.length≤maxLen)(t:Int):aV.run lZ (t,l.map iv,(l.length:Int),0,())=some (.bool (decide (t∈l))):=by
 have hm:=ar;refine(eI (fun k=>(t,l.map iv,(l.length:Int),(k:Int),())) l.length (fun k=>decide (l[k]?=some t)) (no:=some (.bool true)) (fin:=some (.bool false)) (fun k hk rec=>?_) (fun rec=>?_) ?_ rfl).trans ?_
 ·have h1:(k:Int)<(l.length:Int):=by omega
  simp only[lZ,tc,h1,BY,af,AT,ta hk,IS,U,iv,TK,asInt,ag (show k<9223372036854775807 by omega),cZ,tb]
 ·simp[lZ,tc,an6,OF]
 ·have:=aF;omega
 ·rw[lQ l l.length (aoa _) t,aoJ];grind
def grow(l:List gC):Nat→List Int→Int→List Int
 |0,pre,last=>pre++[last]
 |n+1,pre,last=>match dN l last with
  |none=>pre++[last]
  |some m=>if m∈pre++[last]then pre++[last]else grow l n (pre++[last]) m
theorem Q3(l:List gC):∀n pre last,(grow l n pre last).length≤pre.length+1+n:=by
 intro n;induction n with
 |zero=>intro pre last;simp[grow]
 |succ n ih=>grind [grow,Nat.le_trans]
theorem aeM:∀(a b:List Int),a.Nodup→(∀x∈a,x∈b)→a.length≤b.length:=by
 intro a;induction a with
 |nil=>simp
 |cons x a ih=>
  intro b hn hs;rw[apx]at hn;have hx:x∈b:=hs x (by simp);have:=ih (b.erase x) hn.2 fun y hy=>by grind
  grind
theorem Q4(l:List gC)(t m:Int)(h:dN l t=some m):t∈l.map gC.a:=by
 unfold dN at h;cases hf:l.find? (fun x=>decide (x.a=t))with
 |none=>rw[hf]at h;cases h
 |some x=>grind
theorem Kw(pre:List Int)(last:Int)(hl:pre.length<maxLen):(pre++[last]).map iv=pre.map iv++[iv last]∧ax (IntKind.i64.wrap ((((pre++[last]).map iv).length:Int)-1)) ((pre++[last]).map iv).length∧((pre++[last]).map iv)[(IntKind.i64.wrap ((((pre++[last]).map iv).length:Int)-1)).toNat]?=some (iv last):=by
 have hm:=ar;have h1:(((pre++[last]).map iv).length:Int)=((pre.length+1:Nat):Int):=by simp
 have h2:IntKind.i64.wrap (((pre.length+1:Nat):Int)-1)=(pre.length:Int):=Gf _ (by omega);simp_all[iv,fm,an9]
theorem vL(a b:Int):bO (iv a).cells (iv b).cells=decide (a=b):=CD a b
theorem TM(l:List gC)(hl:l.length≤1000)(t:Int):mW [.rs 2 (l.map gC.pv),.int .i64 t]=some (.rs 1 ((grow l l.length [] t).map iv)):=by
 have Pv:(2000:Nat)≤maxLen:=by decide
 have h0:dd (PV.int .i64 t) (.bool true) []=seen iv ([]++[t]):=fJ vL t [];simp only[mW,xF,ah,asInt,BY,U,h0];have key:∀(n N:Nat)(pre:List Int)(last:Int),pre.length+n=l.length→n<N→(pre++[last]).Nodup→(∀x∈pre,x∈l.map gC.a)→dH (lY aV) N (l.map gC.pv,(pre++[last]).map iv,seen iv (pre++[last]),())=some (.rs 1 ((grow l n pre last).map iv)):=by
  intro n;induction n with
  |zero=>
   intro N pre last hp hN YI Zx;cases N with
   |zero=>omega
   |succ N=>
    obtain⟨g1,g2,g3⟩:=Kw pre last (by omega);have He:dN l last=none:=by
     cases hx:dN l last with
     |none=>rfl
     |some m=>
      have h1:=Q4 l last m hx;have:=aeM (pre++[last]) (l.map gC.a) YI fun y hy=>by
       rw[aol]at hy;rcases hy with hy|hy
       ·exact Zx y hy
       simp_all
      simp at this;omega
    simp only[dH,lY,No g2,g3,U,iv,TK,asInt,BY,GF l (by omega),He,nM,bN,alx,an5,Nat.reduceAdd,aev,ali,asBool,aoj,cond_true];rfl
  |succ n ih=>
   intro N pre last hp hN YI Zx;cases N with
   |zero=>omega
   |succ N=>
    obtain⟨g1,g2,g3⟩:=Kw pre last (by omega);have hb:∀X:PV,((pre++[last]).map iv++[X]).length*8≤ab∧0<8:=fun X=>by refine⟨?_,by omega⟩;simp only[aob,te,alx,an5];unfold ab;omega
    simp only[dH,lY,No g2,g3,U,TK,asInt,BY];simp only[iv,TK,asInt,BY,U,GF l (by omega)];unfold grow;cases hx:dN l last with
    |none=>rfl
    |some m=>
     have ko:bS (PV.int .i64 m) (.bool false) (seen iv (pre++[last]))=.bool (decide (m∈pre++[last])):=eM vL m _;have nf:dd (PV.int .i64 m) (.bool true) (seen iv (pre++[last]))=seen iv (pre++[last]++[m]):=fJ vL m _;simp only[nM,bN,alx,an5,Nat.reduceAdd,BY,aev,ali,asBool,asInt,U,alk,cond_false];simp only[ko,asBool,U];by_cases bk:m∈pre++[last]
     ·simp_all
     ·simp only[bk,aoo,AI,OF];rw[No (hb _),nf];have fo:(pre++[last]).map iv++[PV.int .i64 m]=(pre++[last]++[m]).map iv:=by simp[iv]
      rw[fo];refine ih N (pre++[last]) m (by simp;omega) (by omega) ?_ ?_
      ·rw[List.nodup_append];refine⟨YI,by simp,fun a ha b hb=>?_⟩;simp at hb;grind
      ·intro x MZ;rw[aol]at MZ;rcases MZ with h|h
       ·exact Zx x h
       simp_all[Q4]
 exact key l.length rounds [] t (by simp) (by grind [rounds,decide]) (by simp) (by simp)
theorem YB(l:List gC)(hl:l.length≤1000)(t:Int):rE [.rs 2 (l.map gC.pv),.int .i64 t]=some (.rs 1 ((grow l l.length [] t).map iv)):=by
 have Pv:(2000:Nat)≤maxLen:=by decide
 have hm:=ar;simp only[rE,BT,ah,asInt,BY,U,te];have key:∀(n N:Nat)(pre:List Int)(last:Int),pre.length+n=l.length→n<N→dH (pY aV) N (l.map gC.pv,(l.length:Int),(pre.length:Int),(pre++[last]).map iv,())=some (.rs 1 ((grow l n pre last).map iv)):=by
  intro n;induction n with
  |zero=>
   intro N pre last hp hN;cases N with
   |zero=>omega
   |succ N=>
    have bF:¬(pre.length:Int)<(l.length:Int):=by omega
    simp only[dH,pY,tc,QU bF];rfl
  |succ n ih=>
   intro N pre last hp hN;cases N with
   |zero=>omega
   |succ N=>
    obtain⟨g1,g2,g3⟩:=Kw pre last (by omega);have bF:(pre.length:Int)<(l.length:Int):=by omega
    have hb:∀X:PV,((pre++[last]).map iv++[X]).length*8≤ab∧0<8:=fun X=>by refine⟨?_,by omega⟩;simp only[aob,te,alx,an5];unfold ab;omega
    simp only[dH,pY,tc,No bF,No g2,g3,U,TK,asInt,BY];simp only[iv,TK,asInt,BY,U,QR l (by omega)];unfold grow;cases hx:dN l last with
    |none=>rfl
    |some m=>
     have aif:=Wj (pre++[last]) (by simp;omega) m;simp only[nM,bN,alx,an5,Nat.reduceAdd,BY,aev,ali,asBool,asInt,U,alk,cond_false,aif];by_cases bk:m∈pre++[last]
     ·simp_all
     ·simp only[bk,aoo,AI,OF];rw[No (hb _)];have fo:(pre++[last]).map iv++[PV.int .i64 m]=(pre++[last]++[m]).map iv:=by simp[iv]
      have hk:IntKind.i64.wrap ((pre.length:Int)+1)=((pre++[last]).length:Int):=by rw[ag (by omega)];simp
      rw[fo,hk];exact ih N (pre++[last]) m (by simp;omega) (by omega)
 exact key l.length rounds [] t (by simp) (by grind [rounds,decide])
theorem Q5(l:List gC)(hl:l.length≤1000)(a b:Int):mX [.rs 2 (l.map gC.pv),.int .i64 a,.int .i64 b]=some (.bool (decide (b∈grow l l.length [] a))):=by
 have Pv:(2000:Nat)≤maxLen:=by decide
 have hg:=Q3 l l.length [] a;simp only[an5]at hg;simp only[mX,xG,ah,asInt,BY,U,TM l hl,te];exact TL _ (by omega) b
def qM(fs:List ba)(t:Int):Bool:=decide (t∈fs.map ba.bn)
theorem Kh(fs:List ba)(hl:fs.length≤maxLen)(t:Int):cV [.rs 4 (fs.map ba.pv),.int .i64 t]=some (.bool (qM fs t)):=by
 have hm:=ar;simp only[cV,nI,ah,asInt,BY,U,te];refine(eI (fun k=>(t,fs.map ba.pv,(fs.length:Int),(k:Int),())) fs.length (fun k=>decide ((fs.map ba.bn)[k]?=some t)) (no:=some (.bool true)) (fin:=some (.bool false)) (fun k hk rec=>?_) (fun rec=>?_) ?_ rfl).trans ?_
 ·have h1:(k:Int)<(fs.length:Int):=by omega
  simp only[ke,tc,h1,BY,af,AT,ta hk,IS,U,pM,asInt,ag (show k<9223372036854775807 by omega),cZ,tb]
 ·simp[ke,tc,an6,OF]
 ·have:=aF;omega
 ·have h:=lQ (fs.map ba.bn) fs.length (by simp) t;rw[h,aoF (by simp)];unfold qM;grind
theorem Wk(fs:List ba)(hl:fs.length≤maxLen)(t:Int):eO [.rs 4 (fs.map ba.pv),.int .i64 t]=some (.bool (qM fs t)):=by
 have hm:=ar;simp only[eO,vj,ah,asInt,BY,U,te];refine(eI (fun k=>(fs.map ba.pv,t,(k:Int),())) fs.length (fun k=>decide ((fs.map ba.bn)[k]?=some t)) (no:=some (.bool true)) (fin:=some (.bool false)) (fun k hk rec=>?_) (fun rec=>?_) ?_ rfl).trans ?_
 ·have h1:(k:Int)<(fs.length:Int):=by omega
  simp only[pZ,tc,te,h1,BY,af,AT,ta hk,IS,U,pM,asInt,ag (show k<9223372036854775807 by omega),cZ,tb]
 ·simp[pZ,tc,te,an6,OF]
 ·have:=aF;omega
 ·have h:=lQ (fs.map ba.bn) fs.length (by simp) t;rw[h,aoF (by simp)];unfold qM;grind
def CQ(n m:Int):Bool:=decide (n≥0)&&decide (n<m)
theorem adb(n m:Int):kY [.int .i64 n,.int .i64 m]=some (.bool (CQ n m)):=by simp only[kY,J5,asInt,BY,U,bI];rfl
theorem aeN(n:Int)(ts:List PV):gd [.int .i64 n,.rp [.rs 5 ts]]=some (.bool (CQ n ts.length)):=by simp only[gd,uJ,asInt,ah,BY,U,bI];rfl
def ob(a b:Int)(n:Nat):Bool:= !CQ a n|| !CQ b n||decide (a=b)
def gS(fs:List ba)(a b:Int):Bool:=qM fs a||qM fs b
theorem MJ(a b:Int)(ae:List bj)(fs:List ba)(hl:fs.length≤maxLen):kX [.int .i64 a,.int .i64 b,.rs 5 (ae.map bj.pv),.rs 4 (fs.map ba.pv)]=some (.aI [.int .i64 (if ob a b ae.length=true then 9 else 0),.int .i64 (if(!ob a b ae.length&&gS fs a b)=true then 17 else 0)]):=by simp only[kX,zN,asInt,ah,asBool,BY,U,aeN,Kh fs hl,te,aT,cZ];unfold ob gS;grind
def si(a b:bj):Int:=if(!decide (a.xK=b.xK))=true then 15 else match a.calls[a.calls.length-1]?,b.calls[0]? with
 |some p,some q=>if(!decide (p.stop=q.stop))=true then 13 else if q.dep<p.arr then 10 else 0
 |_,_=>13
theorem Q6(l:List aJ)(h:0<l.length)(hl:l.length≤maxLen):IntKind.i64.wrap ((l.length:Int)-1)=((l.length-1:Nat):Int):=by grind [ar,aY]
theorem alY(l:List aJ)(h:0<l.length):og (l.map aJ.pv) 0=some l[0].pv:=by rw[show(0:Int)=((0:Nat):Int)from rfl,af,AT,ta h];rfl
theorem Ou(a b:bj)(ha:a.Ok)(hb:b.Ok):kB [a.pv,b.pv]=some (.int .i64 (si a b)):=by
 have hm:=ar;have ha1:=ha.calls.1;simp only[kB,sQ,Kb,qy,rY,qz,vp,mC,aZ,ah,asInt,asBool,BY,U,te,aT,fb];unfold si;cases decide (a.xK=b.xK)with
 |false=>rfl
 |true=>
  simp only[alk,AI,OF];by_cases h1:a.calls.length=0
  ·simp_all
  ·by_cases h2:b.calls.length=0
   ·simp_all
   ·have n1:((a.calls.length:Int)==0)=false:=by simp_all
    have n2:((b.calls.length:Int)==0)=false:=by simp_all
    have hk:a.calls.length-1<a.calls.length:=by omega
    have h0:0<b.calls.length:=by omega
    rw[n1,n2,Q6 a.calls (by omega) ha1,alY b.calls h0];simp only[ao5,AI,OF,af,AT,ta hk,ta h0,IS,U,tn,Am,qv,asInt,BY];grind
def Bn(l:List gC)(ae:List bj)(fs:List ba)(k:Nat):Int:=match l[k]? with
 |none=>0
 |some x=>if ob x.a x.b ae.length=true then 9 else if gS fs x.a x.b=true then 17 else match ae[x.a.toNat]?,ae[x.b.toNat]? with
  |some p,some q=>if si p q=0 then(if(decide (x.a∈(l.map gC.a).take k)||decide (x.b∈(l.map gC.b).take k))=true then 6 else if x.a∈grow (l.take k) k [] x.b then 19 else 0)else si p q
  |_,_=>0
def pj(l:List gC)(ae:List bj)(fs:List ba):Int×Int:=if l.length>128 then(0,5)else cE (Bn l ae fs) l.length
theorem zB(a b:Int)(ae:List bj)(h:ob a b ae.length=false):∃(i j:Nat),a=i∧b=j∧i<ae.length∧j<ae.length:=by unfold ob CQ at h;simp only[aoC,apE,aeu,tc]at h;exact⟨a.toNat,b.toNat,by omega,by omega,by omega,by omega⟩
theorem ade(l:List gC)(ae:List bj)(fs:List ba)(ht:ae.length≤maxLen∧∀y∈ae,y.Ok)(hf:fs.length≤maxLen):mY [.rs 2 (l.map gC.pv),.rs 5 (ae.map bj.pv),.rs 4 (fs.map ba.pv)]=some (res (pj l ae fs).1 (pj l ae fs).2):=by
 have hm:=ar;simp only[mY,xH,ah,BY,U,te];unfold pj;by_cases kH:l.length>128
 ·rw[No (by simp;omega),No kH];rfl
 ·rw[QU (by simp;omega),QU kH,←dy];refine aB (fun k=>(l.map gC.pv,ae.map bj.pv,fs.map ba.pv,l.map gC.pv,(l.length:Int),(k:Int),seen iv ((l.map gC.a).take k),seen iv ((l.map gC.b).take k),())) l.length _ (fun k hk rec=>?_) (fun rec=>?_) ?_ rfl
  ·have h1:(k:Int)<(l.length:Int):=by omega
   simp only[qU,tc,h1,BY,af,AT,ta hk,IS,U,ac9,ada,asInt,MJ _ _ ae fs hf,bN,alx,an5,Nat.reduceAdd,aev,ali,fb,ag (show k<9223372036854775807 by omega),jR gC.a l k hk,jR gC.b l k hk,te];unfold Bn;rw[ta hk];simp only;generalize l[k]=x;cases hp:ob x.a x.b ae.length with
   |true=>rfl
   |false=>
    cases hr:gS fs x.a x.b with
    |true=>rfl
    |false=>
     obtain⟨i,j,hi,hj,I0,tf⟩:=zB x.a x.b ae hp;have xi:og (ae.map bj.pv) x.a=some ae[i].pv:=by rw[hi,af,AT,ta I0];rfl
     have xj:og (ae.map bj.pv) x.b=some ae[j].pv:=by rw[hj,af,AT,ta tf];rfl
     have ti:ae[x.a.toNat]?=some ae[i]:=by simp_all
     have tj:ae[x.b.toNat]?=some ae[j]:=by simp_all
     have hfo:=Ou ae[i] ae[j] (ht.2 _ (an7 I0)) (ht.2 _ (an7 tf));have la:bS (PV.int .i64 x.a) (.bool false) (seen iv ((l.map gC.a).take k))=.bool (decide (x.a∈(l.map gC.a).take k)):=eM vL x.a _;have lb:bS (PV.int .i64 x.b) (.bool false) (seen iv ((l.map gC.b).take k))=.bool (decide (x.b∈(l.map gC.b).take k)):=eM vL x.b _;have pa:dd (PV.int .i64 x.a) (.bool true) (seen iv ((l.map gC.a).take k))=seen iv ((l.map gC.a).take k++[x.a]):=fJ vL x.a _;have pb:dd (PV.int .i64 x.b) (.bool true) (seen iv ((l.map gC.b).take k))=seen iv ((l.map gC.b).take k++[x.b]):=fJ vL x.b _;have hc:(0:Int)≤0∧(0:Int)≤(k:Int)∧(k:Int)≤(l.length:Int)∧True∧2≠0:=⟨by omega,by omega,by omega,trivial,by omega⟩;have YP:(l.map gC.pv).take k=(l.take k).map gC.pv:=by simp
     have hle:=Q5 (l.take k) (by simp;omega) x.b x.a;have OD:(l.take k).length=k:=by simp;omega
     rw[OD]at hle;simp only[aoj,ao4,AI,OF,aot,alk,xi,xj,ti,tj,U,qy,rY,qz,vp,mC,MB,hfo,asInt,BY,la,lb,asBool,aT,pa,pb,YP,an9,aqE,aqd,hle,No hc];by_cases hfe:si ae[i] ae[j]=0
     ·simp only[hfe,aot,alk,AI,OF,BY];cases(decide (x.a∈(l.map gC.a).take k)||decide (x.b∈(l.map gC.b).take k))with
      |true=>rfl
      |false=>
       by_cases bk:x.a∈grow (l.take k) k [] x.b
       ·simp only[bk,aot,BY];rfl
       ·simp only[bk,aoo,AI,OF];rfl
     ·simp only[hfe,aoo,aoj,BY,OF,Bw,bC];rfl
  ·simp only[qU,tc,an6,OF];rfl
  grind [rounds,decide]
theorem aih{A:Type}(l:List A)(p q:A→Bool):(l.any fun x=>p x||q x)=(l.any p||l.any q):=by grind
theorem aeO(l:List gC)(hl:l.length≤1000)(ae:List bj)(fs:List ba)(ht:ae.length≤maxLen∧∀y∈ae,y.Ok)(hf:fs.length≤maxLen)(k:Nat)(hk:k<l.length):wN [.rs 2 (l.map gC.pv),.int .i64 k,.rs 5 (ae.map bj.pv),.rs 4 (fs.map ba.pv)]=some (.int .i64 (Bn l ae fs k)):=by
 have hm:=ar;simp only[wN,Gu,ah,asInt,asBool,BY,U,af,AT,ta hk,IS,ac9,ada,adb,Wk fs hf,te,aT,cZ,fb];unfold Bn;rw[ta hk];simp only;generalize hx:l[k]=x;have hpb:(!CQ x.a (ae.length:Int)|| !CQ x.b (ae.length:Int)||decide (x.a=x.b))=ob x.a x.b ae.length:=rfl;have hpr:(qM fs x.a||qM fs x.b)=gS fs x.a x.b:=rfl;rw[hpb,hpr];cases hp:ob x.a x.b ae.length with
 |true=>rfl
 |false=>
  cases hr:gS fs x.a x.b with
  |true=>rfl
  |false=>
   obtain⟨i,j,hi,hj,I0,tf⟩:=zB x.a x.b ae hp;have xi:og (ae.map bj.pv) x.a=some ae[i].pv:=by rw[hi,af,AT,ta I0];rfl
   have xj:og (ae.map bj.pv) x.b=some ae[j].pv:=by rw[hj,af,AT,ta tf];rfl
   have ti:ae[x.a.toNat]?=some ae[i]:=by simp_all
   have tj:ae[x.b.toNat]?=some ae[j]:=by simp_all
   have hai:=(ht.2 _ (an7 I0)).calls.1;simp only[AI,OF,xi,xj,ti,tj,U,qz,mC,asInt,ah,BY,te];unfold si;cases decide (ae[i].xK=ae[j].xK)with
   |false=>rfl
   |true=>
    simp only[alk,AI,OF];by_cases z1:ae[i].calls.length=0
    ·have e1:ae[i].calls=[]:=aof z1;have w:IntKind.i64.wrap (((([]:List aJ).length:Nat):Int)-1)= -1:=by rfl
     simp_all
    ·rw[Q6 _ (by omega) hai];have acJ:decide (((ae[i].calls.length-1:Nat):Int)<0)=false:=by simp
     simp only[acJ,cond_false,U];by_cases z2:ae[j].calls.length=0
     ·simp_all
     ·have n2:decide ((ae[j].calls.length:Int)=0)=false:=aph (by omega);have qo:ae[i].calls.length-1<ae[i].calls.length:=by omega
      have h0:0<ae[j].calls.length:=by omega
      rw[n2,alY _ h0];simp only[AI,cond_false,OF,af,AT,ta qo,ta h0,IS,U,tn,Am,qv,asInt,BY];cases decide (ae[i].calls[ae[i].calls.length-1].stop=ae[j].calls[0].stop)with
      |false=>rfl
      |true=>
       simp only[alk,AI,OF,tc];by_cases bF:ae[j].calls[0].dep<ae[i].calls[ae[i].calls.length-1].arr
       ·simp_all
       ·rw[QU bF,QU bF];simp only[BY];have hc:(0:Int)≤0∧(0:Int)≤(k:Int)∧(k:Int)≤((l.map gC.pv).length:Int)∧True∧2≠0:=⟨by omega,by omega,by simp;omega,trivial,by omega⟩;have YP:(l.map gC.pv).take k=(l.take k).map gC.pv:=by simp
        have OD:(l.take k).length=k:=by simp;omega
        have YJ:=YB (l.take k) (by omega) x.b;rw[OD]at YJ;have hg:=Q3 (l.take k) k [] x.b;simp only[an5]at hg;have aif:=Wj (grow (l.take k) k [] x.b) (by grind [maxLen,decide]) x.a;refine(eI (fun j=>(l.map gC.pv,(k:Int),(j:Int),PV.int .i64 x.a,PV.int .i64 x.b,())) k (fun j=>decide ((l.map gC.a)[j]?=some x.a)||decide ((l.map gC.b)[j]?=some x.b)) (no:=some (.int .i64 6)) (fin:=some (.int .i64 (if x.a∈grow (l.take k) k [] x.b then 19 else 0))) (fun j hj rec=>?_) (fun rec=>?_) ?_ rfl).trans ?_
        ·have h1:(j:Int)<(k:Int):=by omega
         have tf:j<l.length:=by omega
         simp only[Ae,tc,h1,BY,af,AT,ta tf,IS,U,ac9,ada,asInt,ag (show j<9223372036854775807 by omega),cZ,aT,tb]
        ·simp only[Ae,tc,an6,OF,No hc,YP,an9,aqE,aqd,asInt,BY,U,YJ,ah,aif,asBool];split<;>rfl
        ·grind [rounds,decide]
        ·rw[aih,lQ _ k (by simp;omega),lQ _ k (by simp;omega)];split<;>rfl
theorem aeP(l:List gC)(ae:List bj)(fs:List ba)(ht:ae.length≤maxLen∧∀y∈ae,y.Ok)(hf:fs.length≤maxLen):rF [.rs 2 (l.map gC.pv),.rs 5 (ae.map bj.pv),.rs 4 (fs.map ba.pv)]=some (res (pj l ae fs).1 (pj l ae fs).2):=by
 have hm:=ar;simp only[rF,BU,ah,BY,U,te];unfold pj;by_cases kH:l.length>128
 ·rw[No (by simp;omega),No kH];rfl
 ·rw[QU (by simp;omega),QU kH,←dy];refine aB (fun k=>(l.map gC.pv,ae.map bj.pv,fs.map ba.pv,(k:Int),())) l.length _ (fun k hk rec=>?_) (fun rec=>?_) ?_ rfl
  ·have h1:(k:Int)<(l.length:Int):=by omega
   simp only[vI,tc,te,h1,BY,aeO l (by omega) ae fs ht hf k hk,U,asInt,ag (show k<9223372036854775807 by omega),fb];grind [Bn,Bw,bC,res]
  ·simp only[vI,tc,te,an6,OF];rfl
  grind [rounds,decide]
def vt(l:List aJ)(s:Int)(k:Nat):Bool:=decide (0<k)&&(match l[k]? with|some x=>decide (x.stop=s)&&x.Kq|none=>false)
def sX(l:List aJ)(s:Int)(k:Nat):Bool:=decide (k+1<l.length)&&(match l[k]? with|some x=>decide (x.stop=s)&&x.QY|none=>false)
def Av(o:Option Nat):Int:=match o with|some k=>k|none=> -1
theorem Q7(i:Nat):decide (Av (some i)<0)=false:=by rfl
theorem adf(l:List aJ)(hl:l.length≤maxLen)(s:Int):iP [.rs 5 (l.map aJ.pv),.int .i64 s]=some (.int .i64 (Av ((List.range l.length).find? (vt l s)))):=by
 have hm:=ar;simp only[iP,pH,ah,asInt,BY,U,te];refine(aB (fun k=>(s,l.map aJ.pv,(l.length:Int),(k:Int),())) l.length (fun k=>if vt l s k=true then some (some (.int .i64 (k:Int)))else none) (fin:=some (.int .i64 (-1))) (fun k hk rec=>?_) (fun rec=>?_) ?_ rfl).trans ?_
 ·have h1:(k:Int)<(l.length:Int):=by omega
  have h2:decide ((k:Int)>0)=decide (0<k):=by simp
  simp only[kW,tc,h1,BY,af,AT,ta hk,IS,U,tn,Hx,asInt,asBool,ag (show k<9223372036854775807 by omega),cZ,bI,vt,h2];cases decide (0<k)<;>cases decide (l[k].stop=s)<;>cases l[k].Kq<;>rfl
 ·simp[kW,tc,an6,OF]
 ·have:=aF;omega
 ·rw[gZ];cases(List.range l.length).find? (vt l s)<;>rfl
theorem adg(l:List aJ)(hl:l.length<maxLen)(s:Int):jJ [.rs 5 (l.map aJ.pv),.int .i64 s]=some (.int .i64 (Av ((List.range l.length).find? (sX l s)))):=by
 have hm:=ar;simp only[jJ,qS,ah,asInt,BY,U,te];refine(aB (fun k=>(l.map aJ.pv,s,l.map aJ.pv,(l.length:Int),(k:Int),())) l.length (fun k=>if sX l s k=true then some (some (.int .i64 (k:Int)))else none) (fin:=some (.int .i64 (-1))) (fun k hk rec=>?_) (fun rec=>?_) ?_ rfl).trans ?_
 ·have h1:(k:Int)<(l.length:Int):=by omega
  have h2:decide (((k+1:Nat):Int)<(l.length:Int))=decide (k+1<l.length):=by grind
  simp only[mi,tc,h1,BY,af,AT,ta hk,IS,U,tn,Hw,asInt,asBool,ag (show k<9223372036854775807 by omega),cZ,bI,sX,te,h2];cases decide (k+1<l.length)<;>cases decide (l[k].stop=s)<;>cases l[k].QY<;>rfl
 ·simp[mi,tc,an6,OF]
 ·have:=aF;omega
 ·rw[gZ];cases(List.range l.length).find? (sX l s)<;>rfl
def YR(a b:List aJ)(i k:Nat):Bool:=match a[i]?,b[k]? with|some p,some q=> !decide (q.dep<p.arr)|_,_=>false
def QJ(i k:Nat)(m:Bool):PV:=if m=true then .aI [.int .i64 i,.int .i64 k,.bool true]else .aI [.int .i64 0,.int .i64 0,.bool false]
def YC:PV:=.aI [.int .i64 0,.int .i64 0,.bool false]
def wL(a b:List aJ)(s:Int):PV:=match(List.range a.length).find? (vt a s)with
 |none=>YC
 |some i=>match(List.range b.length).find? (sX b s)with
  |none=>YC
  |some k=>QJ i k (YR a b i k)
def kc(a b:List aJ)(s:Int):Bool:=match(List.range a.length).find? (vt a s)with
 |none=>false
 |some i=>match(List.range b.length).find? (sX b s)with
  |none=>false
  |some k=>YR a b i k
theorem MK(a b:List aJ)(s:Int):∃n m,wL a b s=.aI [.int .i64 n,.int .i64 m,.bool (kc a b s)]:=by
 unfold wL kc;cases(List.range a.length).find? (vt a s)with
 |none=>exact⟨0,0,rfl⟩
 |some i=>
  cases(List.range b.length).find? (sX b s)with
  |none=>exact⟨0,0,rfl⟩
  |some k=>
   simp only[QJ];cases YR a b i k
   ·simp
   simp
theorem Wl(p:Nat→Bool)(n i:Nat)(h:(List.range n).find? p=some i):i<n:=by simp_all
theorem Kp(a b:List aJ)(ha:a.length≤maxLen)(hb:b.length<maxLen)(s:Int):gI [.rs 5 (a.map aJ.pv),.rs 5 (b.map aJ.pv),.int .i64 s]=some (wL a b s):=by
 simp only[gI,xE,ah,asInt,BY,U,adf a ha s,adg b hb s,aT];unfold wL;cases hi:(List.range a.length).find? (vt a s)with
 |none=>rfl
 |some i=>
  have I0:=Wl _ _ _ hi;cases hk:(List.range b.length).find? (sX b s)with
  |none=>rfl
  |some k=>have uF:=Wl _ _ _ hk;have h1:decide (Av (some i)<0)=false:=Q7 i;have h2:decide (Av (some k)<0)=false:=Q7 k;rw[h1,h2];simp only[Av,ao5,cond_false,af,AT,ta I0,ta uF,IS,U,Am,qv,asInt,BY,tc,QJ,YR];grind
theorem adh(a b:List aJ)(hb:b.length<maxLen)(s:Int)(i:Nat)(hi:i<a.length):aV.run qe (a.map aJ.pv,b.map aJ.pv,s,(i:Int),0,())=some (match(List.range b.length).find? (sX b s)with
 |none=>YC
 |some k=>QJ i k (YR a b i k)):=by
 have hm:=ar
 refine(aB (fun k=>(a.map aJ.pv,b.map aJ.pv,s,(i:Int),(k:Int),())) (b.length-1) (fun k=>if sX b s k=true then some (some (QJ i k (YR a b i k)))else none) (fin:=some YC) (fun k hk rec=>?_) (fun rec=>?_) ?_ rfl).trans ?_
 ·have uF:k<b.length:=by omega
  have h1:((k+1:Nat):Int)<(b.length:Int):=by omega
  have h2:decide (k+1<b.length)=true:=by grind
  simp only[qe,tc,ag (show k<9223372036854775807 by omega),te,h1,BY,af,AT,ta uF,ta hi,IS,U,tn,Am,qv,Hw,asInt,asBool,cZ,bI,sX,h2,QJ,YR,ao4];cases(decide (b[k].stop=s)&&b[k].QY)with
  |false=>rfl
  |true=>
   by_cases h:b[k].dep<a[i].arr
   ·simp only[h,BY,aot,alk,AI,OF];rfl
   ·simp only[h,BY,aoo,aoj,OF];rfl
 ·have hw:IntKind.i64.wrap (((b.length-1:Nat):Int)+1)=((b.length-1+1:Nat):Int):=ag (by omega);have h1:¬((b.length-1+1:Nat):Int)<(b.length:Int):=by omega
  simp only[qe,tc,hw,te,QU h1];rfl
 ·have:=aF;omega
 ·rw[gZ];have Kr:(List.range b.length).find? (sX b s)=(List.range (b.length-1)).find? (sX b s):=by
   cases Rh:b.length with
   |zero=>rfl
   |succ n=>
    have alf:sX b s n=false:=by unfold sX;rw[Rh];simp
    simp_all[aoQ,List.find?_append,aqs,List.find?_nil,Option.or_none,apq]
  rw[Kr];cases(List.range (b.length-1)).find? (sX b s)<;>rfl
theorem MD(a b:List aJ)(ha:a.length<maxLen)(hb:b.length<maxLen)(s:Int):mJ [.rs 5 (a.map aJ.pv),.rs 5 (b.map aJ.pv),.int .i64 s]=some (wL a b s):=by
 have hm:=ar;simp only[mJ,BV,ah,asInt,BY,U];refine(aB (fun k=>(a.map aJ.pv,b.map aJ.pv,s,((k+1:Nat):Int),())) (a.length-1) (fun k=>if vt a s (k+1)=true then some (some (match(List.range b.length).find? (sX b s)with|none=>YC|some j=>QJ (k+1) j (YR a b (k+1) j)))else none) (fin:=some YC) (fun k hk rec=>?_) (fun rec=>?_) ?_ rfl).trans ?_
 ·have uF:k+1<a.length:=by omega
  have h1:((k+1:Nat):Int)<(a.length:Int):=by omega
  have h2:decide (0<k+1)=true:=by simp
  simp only[vJ,tc,te,h1,BY,af,AT,ta uF,IS,U,tn,Hx,asInt,asBool,fb,aT,vt,h2,ao4,ag (show k+1<9223372036854775807 by omega),adh a b hb s (k+1) uF];cases decide (a[k+1].stop=s)<;>cases a[k+1].Kq<;>rfl
 ·have h1:¬((a.length-1+1:Nat):Int)<(a.length:Int):=by omega
  simp only[vJ,tc,te,QU h1];rfl
 ·have:=aF;omega
 ·rw[gZ (fun k=>vt a s (k+1))];unfold wL;cases G1:a.length with
  |zero=>rfl
  |succ n=>
   have h0:vt a s 0=false:=by rfl
   rw[apB,aqs,h0,apq,List.find?_map];cases hf:(List.range n).find? (fun k=>vt a s (k+1))with
   |none=>have:(List.range n).find? (vt a s∘Nat.succ)=none:=hf;rw[this];rfl
   |some i=>have:(List.range n).find? (vt a s∘Nat.succ)=some i:=hf;rw[this];rfl
theorem QL(x:gD):cell x.pv 0=.int .i64 x.a:=rfl
theorem QM(x:gD):cell x.pv 1=.int .i64 x.b:=rfl
theorem QN(x:gD):cell x.pv 2=.int .i64 x.stop:=rfl
theorem alZ(x:gD):PV.agg [.int .i64 x.a,.int .i64 x.b,.int .i64 x.stop]=x.pv:=rfl
theorem Q8(a b c:Int):jo (Kd.int .i64::[].append (Kd.int .i64::[].append (Kd.int .i64::[].append []))) [.int .i64 a,.int .i64 b,.int .i64 c]=true:=rfl
theorem Kx(x y:gD):bO x.pv.cells y.pv.cells=decide (x=y):=by show bO [.int .i64 x.a,.int .i64 x.b,.int .i64 x.stop] [.int .i64 y.a,.int .i64 y.b,.int .i64 y.stop]=_;simp only[bO,peq,apw,cZ];rw[aoy];simp only[aeu,tc];cases x;cases y;simp
def wK(l:List gD)(ae:List bj)(fs:List ba)(stops:Int)(k:Nat):Int:=match l[k]? with
 |none=>0
 |some x=>if(ob x.a x.b ae.length|| !CQ x.stop stops)=true then 9 else if gS fs x.a x.b=true then 17 else match ae[x.a.toNat]?,ae[x.b.toNat]? with
  |some p,some q=>if kc p.calls q.calls x.stop=false then 19 else if x∈l.take k then 6 else 0
  |_,_=>0
def kz(l:List gD)(ae:List bj)(fs:List ba)(stops:Int):Int×Int:=if l.length>128 then(0,5)else cE (wK l ae fs stops) l.length
theorem YD(l:List gD)(ae:List bj)(fs:List ba)(stops:Int)(ht:ae.length≤maxLen∧∀y∈ae,y.Ok)(Ar:∀y∈ae,y.calls.length≤40)(hf:fs.length≤maxLen):eE [.rs 3 (l.map gD.pv),.rs 5 (ae.map bj.pv),.rs 4 (fs.map ba.pv),.int .i64 stops]=some (res (kz l ae fs stops).1 (kz l ae fs stops).2):=by
 have hm:=ar;have cG:1000≤maxLen:=by decide
 simp only[eE,jj,ah,asInt,BY,U,te];unfold kz;by_cases kH:l.length>128
 ·rw[No (by simp;omega),No kH];rfl
 ·rw[QU (by simp;omega),QU kH,←dy];refine aB (fun k=>(ae.map bj.pv,fs.map ba.pv,stops,l.map gD.pv,(l.length:Int),(k:Int),seen gD.pv (l.take k),())) l.length _ (fun k hk rec=>?_) (fun rec=>?_) ?_ rfl
  ·have h1:(k:Int)<(l.length:Int):=by omega
   have fo:l.take (k+1)=l.take k++[l[k]]:=(ao8 hk).symm;simp only[gw,tc,h1,BY,af,AT,ta hk,IS,U,QL,QM,QN,asInt,MJ _ _ ae fs hf,bN,alx,an5,Nat.reduceAdd,aev,ali,fb,aT,ag (show k<9223372036854775807 by omega),fo,te];unfold wK;rw[ta hk];simp only;generalize l[k]=x;have k8:(!CQ x.stop stops)=(decide (x.stop<0)||decide (x.stop≥stops)):=by unfold CQ;grind
   rw[k8];cases hp:ob x.a x.b ae.length with
   |true=>rfl
   |false=>
    simp only[aoj,ao4,apO,AI,OF,aot,alk];cases(decide (x.stop<0)||decide (x.stop≥stops))with
    |true=>rfl
    |false=>
     cases hr:gS fs x.a x.b with
     |true=>rfl
     |false=>
      obtain⟨i,j,hi,hj,I0,tf⟩:=zB x.a x.b ae hp;have xi:og (ae.map bj.pv) x.a=some ae[i].pv:=by rw[hi,af,AT,ta I0];rfl
      have xj:og (ae.map bj.pv) x.b=some ae[j].pv:=by rw[hj,af,AT,ta tf];rfl
      have ti:ae[x.a.toNat]?=some ae[i]:=by simp_all
      have tj:ae[x.b.toNat]?=some ae[j]:=by simp_all
      have hci:=Ar _ (an7 I0);have hcj:=Ar _ (an7 tf);have hmt:=Kp ae[i].calls ae[j].calls (by omega) (by omega) x.stop;obtain⟨n1,n2,hmp⟩:=MK ae[i].calls ae[j].calls x.stop;have ko:bS x.pv (.bool false) (seen gD.pv (l.take k))=.bool (decide (x∈l.take k)):=eM Kx x _;have nf:dd x.pv (.bool true) (seen gD.pv (l.take k))=seen gD.pv (l.take k++[x]):=fJ Kx x _;simp only[AI,OF,aot,alk,xi,xj,ti,tj,U,mC,ah,asInt,asBool,BY,hmt,hmp,bN,alx,an5,Nat.reduceAdd,aev,ali,Q8,alZ,ko,nf];cases kc ae[i].calls ae[j].calls x.stop with
      |false=>rfl
      |true=>
       by_cases bk:x∈l.take k
       ·simp only[bk,aot,BY,alk,AI,aod,OF];rfl
       ·simp only[bk,aoo,alk,AI,aod,OF];rfl
  ·simp only[gw,tc,an6,OF];rfl
  grind [rounds,decide]
theorem adi(l:List gD)(hl:l.length≤1000)(ae:List bj)(fs:List ba)(stops:Int)(Ar:∀y∈ae,y.calls.length≤40)(hf:fs.length≤maxLen)(k:Nat)(hk:k<l.length):kC [.rs 3 (l.map gD.pv),.int .i64 k,.rs 5 (ae.map bj.pv),.rs 4 (fs.map ba.pv),.int .i64 stops]=some (.int .i64 (wK l ae fs stops k)):=by
 have hm:=ar;have cG:1000≤maxLen:=by decide
 simp only[kC,sS,ah,asInt,asBool,BY,U,af,AT,ta hk,IS,QL,QM,QN,adb,Wk fs hf,te,aT,cZ,fb];unfold wK;rw[ta hk];simp only;generalize hx:l[k]=x;have hpb:(!CQ x.a (ae.length:Int)|| !CQ x.b (ae.length:Int)||decide (x.a=x.b))=ob x.a x.b ae.length:=rfl;have hpr:(qM fs x.a||qM fs x.b)=gS fs x.a x.b:=rfl;rw[hpb,hpr];cases hp:ob x.a x.b ae.length with
 |true=>rfl
 |false=>
  cases hs:CQ x.stop stops with
  |false=>rfl
  |true=>
   cases hr:gS fs x.a x.b with
   |true=>rfl
   |false=>
    obtain⟨i,j,hi,hj,I0,tf⟩:=zB x.a x.b ae hp;have xi:og (ae.map bj.pv) x.a=some ae[i].pv:=by rw[hi,af,AT,ta I0];rfl
    have xj:og (ae.map bj.pv) x.b=some ae[j].pv:=by rw[hj,af,AT,ta tf];rfl
    have ti:ae[x.a.toNat]?=some ae[i]:=by simp_all
    have tj:ae[x.b.toNat]?=some ae[j]:=by simp_all
    have hci:=Ar _ (an7 I0);have hcj:=Ar _ (an7 tf);have hmt:=MD ae[i].calls ae[j].calls (by omega) (by omega) x.stop;obtain⟨n1,n2,hmp⟩:=MK ae[i].calls ae[j].calls x.stop;simp only[alk,ao5,AI,OF,xi,xj,ti,tj,U,mC,ah,asInt,asBool,BY,hmt,hmp,bN,alx,an5,Nat.reduceAdd,aev,ali];cases kc ae[i].calls ae[j].calls x.stop with
    |false=>rfl
    |true=>
     simp only[alk,AI,aod,OF];refine(eI (fun j=>(l.map gD.pv,(k:Int),(j:Int),PV.int .i64 x.a,PV.int .i64 x.b,PV.int .i64 x.stop,())) k (fun j=>decide (l[j]?=some x)) (no:=some (.int .i64 6)) (fin:=some (.int .i64 0)) (fun j hj rec=>?_) (fun rec=>?_) ?_ rfl).trans ?_
     ·have h1:(j:Int)<(k:Int):=by omega
      have tf:j<l.length:=by omega
      have tD:bO [PV.int .i64 l[j].a,.int .i64 l[j].b,.int .i64 l[j].stop] [.int .i64 x.a,.int .i64 x.b,.int .i64 x.stop]=decide (l[j]=x):=Kx l[j] x;simp only[nQ,tc,h1,BY,af,AT,ta tf,IS,U,QL,QM,QN,Q8,and_self,tD,ag (show j<9223372036854775807 by omega),tb]
     ·simp[nQ,tc,an6,OF]
     ·grind [rounds,decide]
     ·rw[lQ l k (by omega)];grind
theorem adj(l:List gD)(ae:List bj)(fs:List ba)(stops:Int)(Ar:∀y∈ae,y.calls.length≤40)(hf:fs.length≤maxLen):fD [.rs 3 (l.map gD.pv),.rs 5 (ae.map bj.pv),.rs 4 (fs.map ba.pv),.int .i64 stops]=some (res (kz l ae fs stops).1 (kz l ae fs stops).2):=by
 have hm:=ar;simp only[fD,j9,ah,asInt,BY,U,te];unfold kz;by_cases kH:l.length>128
 ·rw[No (by simp;omega),No kH];rfl
 ·rw[QU (by simp;omega),QU kH,←dy];refine aB (fun k=>(l.map gD.pv,ae.map bj.pv,fs.map ba.pv,stops,(k:Int),())) l.length _ (fun k hk rec=>?_) (fun rec=>?_) ?_ rfl
  ·have h1:(k:Int)<(l.length:Int):=by omega
   simp only[iw,tc,te,h1,BY,adi l (by omega) ae fs stops Ar hf k hk,U,asInt,ag (show k<9223372036854775807 by omega),fb];grind [wK,Bw,bC,res]
  ·simp only[iw,tc,te,an6,OF];rfl
  grind [rounds,decide]
def wH(T:aj):Nat→Int×Int
 |0=>jC T.stops
 |1=>gQ T.ao
 |2=>Cc T.dK
 |3=>Cd T.mc T.dK.length
 |4=>mO T.ae T.stops.length T.ao.length T.dK.length
 |5=>rj T.aU T.ae
 |6=>pj T.cw T.ae T.aU
 |7=>kz T.bM T.ae T.aU T.stops.length
 |8=>lA T.paths T.stops.length
 |_=>kn T.aP T.bE T.within T.cap
def oX(p i e:Int):PV:=.aI [.int .i64 p,.int .i64 i,.int .i64 e]
def wI(T:aj)(p:Nat):Option (Option PV):=if(wH T p).2=0 then none else some (some (oX p (wH T p).1 (wH T p).2))
theorem NC(T:aj):asAgg 13 T.pv=some ():=rfl
theorem ND(T:aj):cell T.pv 0=.rs 4 (T.stops.map Stop.pv):=rfl
theorem NF(T:aj):cell T.pv 1=.rs 3 (T.ao.map aQ.pv):=rfl
theorem NG(T:aj):cell T.pv 2=.rs 10 (T.dK.map oB.pv):=rfl
theorem NH(T:aj):cell T.pv 3=.rs 3 (T.mc.map sE.pv):=rfl
theorem NI(T:aj):cell T.pv 4=.rs 5 (T.ae.map bj.pv):=rfl
theorem NJ(T:aj):cell T.pv 5=.rs 4 (T.aU.map ba.pv):=rfl
theorem NK(T:aj):cell T.pv 6=.rs 2 (T.cw.map gC.pv):=rfl
theorem NL(T:aj):cell T.pv 7=.rs 3 (T.bM.map gD.pv):=rfl
theorem NM(T:aj):cell T.pv 8=.rs 4 (T.paths.map Path.pv):=rfl
theorem NN(T:aj):cell T.pv 9=.rs 6 (T.aP.map bp.pv):=rfl
theorem zn(T:aj):cell T.pv 10=.int .i64 T.bE:=rfl
theorem zo(T:aj):cell T.pv 11=.int .i64 T.within:=rfl
theorem zp(T:aj):cell T.pv 12=.int .i64 T.cap:=rfl
theorem ttF(l:List bp)(a b c:Int):PV.agg [.rs 6 (l.map bp.pv),.int .i64 a,.int .i64 b,.int .i64 c]=CB l a b c:=rfl
theorem Ri(T:aj):PV.agg [.rs 4 (T.stops.map Stop.pv),.rs 3 (T.ao.map aQ.pv),.rs 10 (T.dK.map oB.pv),.rs 3 (T.mc.map sE.pv),.rs 5 (T.ae.map bj.pv),.rs 4 (T.aU.map ba.pv),.rs 2 (T.cw.map gC.pv),.rs 3 (T.bM.map gD.pv),.rs 4 (T.paths.map Path.pv),.rs 6 (T.aP.map bp.pv),.int .i64 T.bE,.int .i64 T.within,.int .i64 T.cap]=T.pv:=rfl
def Small(T:aj):Prop:=∀y∈T.ae,y.calls.length≤40
theorem adk(T:aj)(hT:T.Ok)(hs:Small T)(p:Nat)(hp:p<10):tY [T.pv,.int .i64 p]=some (res (wH T p).1 (wH T p).2):=by
 have h0:=ac0 T.stops hT.stops;have h1:=Yr T.ao hT.ao;have h2:=aeH T.dK hT.dK;have h3:=aeI T.mc T.dK.length hT.mc;have h4:=ac4 T.ae T.stops.length T.ao.length T.dK.length hT.ae;have h5:=ac8 T.aU T.ae hT.ae hs hT.aU.1;have h6:=aeP T.cw T.ae T.aU hT.ae hT.aU.1;have h7:=adj T.bM T.ae T.aU T.stops.length hs hT.aU.1;have h8:=PI T.paths T.stops.length hT.paths.1;have h9:=TH T.aP T.bE T.within T.cap hT.aP;simp only[res]at h0 h1 h2 h3 h4 h5 h6 h7 h8 h9;simp only[tY,D4,NC,ND,NF,NG,NH,NI,NJ,NK,NL,NM,NN,zn,zo,zp,ah,asInt,BY,U,te,ttF,h0,h1,h2,h3,h4,h5,h6,h7,h8,h9,bN,alx,an5,Nat.reduceAdd,aev,ali];match p,hp with
 |0,_=>rfl
 |1,_=>rfl
 |2,_=>rfl
 |3,_=>rfl
 |4,_=>rfl
 |5,_=>rfl
 |6,_=>rfl
 |7,_=>rfl
 |8,_=>rfl
 |9,_=>rfl
theorem L9(T:aj)(hT:T.Ok)(hs:Small T):j2 [T.pv]=bC ((List.range 10).findSome? (wI T)) (some (oX 0 0 0)):=by
 simp only[j2,BZ,NC,ND,NF,NG,NH,NI,NJ,NK,NL,NM,NN,zn,zo,zp,ah,asInt,BY,U];refine aB (fun k=>((k:Int),T.stops.map Stop.pv,T.ao.map aQ.pv,T.dK.map oB.pv,T.mc.map sE.pv,T.ae.map bj.pv,T.aU.map ba.pv,T.cw.map gC.pv,T.bM.map gD.pv,T.paths.map Path.pv,T.aP.map bp.pv,T.bE,T.within,T.cap,())) 10 _ (fun k hk rec=>?_) (fun rec=>?_) ?_ rfl
 ·have h1:(k:Int)<10:=by omega
  have hp:=adk T hT hs k hk;simp only[res]at hp;simp only[Cb,tc,h1,BY,Ri,hp,U,bN,asInt,alx,an5,Nat.reduceAdd,aev,ali,fb,ag (show k<9223372036854775807 by omega),wI];grind [wH,bC,oX]
 ·rfl
 decide
theorem JH(T:aj)(hT:T.Ok)(hs:Small T):dW [T.pv]=bC ((List.range 10).findSome? (wI T)) (some (oX 0 0 0)):=by
 have h0:=Mi T.stops hT.stops;have h1:=JT T.ao hT.ao;have h2:=ac1 T.dK hT.dK;have h3:=ac2 T.mc T.dK.length hT.mc;have h4:=Yu T.ae T.stops.length T.ao.length T.dK.length hT.ae;have h5:=YA T.aU T.ae hT.ae hs hT.aU.1;have h6:=ade T.cw T.ae T.aU hT.ae hT.aU.1;have h7:=YD T.bM T.ae T.aU T.stops.length hT.ae hs hT.aU.1;have h8:=L6 T.paths T.stops.length hT.paths.1;have h9:=JU T.aP T.bE T.within T.cap hT.aP;simp only[res]at h0 h1 h2 h3 h4 h5 h6 h7 h8 h9;have w1:IntKind.i64.wrap (0+1)=1:=by rfl
 have w2:IntKind.i64.wrap (1+1)=2:=by rfl
 have w3:IntKind.i64.wrap (2+1)=3:=by rfl
 have w4:IntKind.i64.wrap (3+1)=4:=by rfl
 have w5:IntKind.i64.wrap (4+1)=5:=by rfl
 have w6:IntKind.i64.wrap (5+1)=6:=by rfl
 have w7:IntKind.i64.wrap (6+1)=7:=by rfl
 have w8:IntKind.i64.wrap (7+1)=8:=by rfl
 have w9:IntKind.i64.wrap (8+1)=9:=by rfl
 simp only[dW,sR,iG,oS,iH,oN,iI,oT,iJ,oO,iK,oU,iL,oW,iM,oV,iN,oP,iO,oR,gW,np,NC,ND,NF,NG,NH,NI,NJ,NK,NL,NM,NN,zn,zo,zp,ah,asInt,BY,U,te,ttF,h0,h1,h2,h3,h4,h5,h6,h7,h8,h9,bN,alx,an5,Nat.reduceAdd,aev,ali,w1,w2,w3,w4,w5,w6,w7,w8,w9,fb];have hr:List.range 10=[0,1,2,3,4,5,6,7,8,9]:=by rfl
 rw[hr];simp only[ao3,aqD,wI,wH,oX];generalize jC T.stops=r0;generalize gQ T.ao=r1;generalize Cc T.dK=r2;generalize Cd T.mc T.dK.length=r3;generalize mO T.ae T.stops.length T.ao.length T.dK.length=r4;generalize rj T.aU T.ae=r5;generalize pj T.cw T.ae T.aU=r6;generalize kz T.bM T.ae T.aU T.stops.length=r7;generalize lA T.paths T.stops.length=r8;generalize kn T.aP T.bE T.within T.cap=r9;by_cases e0:r0.2=0;rotate_left
 ·simp[e0,bC]
 by_cases e1:r1.2=0;rotate_left
 ·simp[e0,e1,bC]
 by_cases e2:r2.2=0;rotate_left
 ·simp[e0,e1,e2,bC]
 by_cases e3:r3.2=0;rotate_left
 ·simp[e0,e1,e2,e3,bC]
 by_cases e4:r4.2=0;rotate_left
 ·simp[e0,e1,e2,e3,e4,bC]
 by_cases e5:r5.2=0;rotate_left
 ·simp[e0,e1,e2,e3,e4,e5,bC]
 by_cases e6:r6.2=0;rotate_left
 ·simp_all[bC]
 by_cases e7:r7.2=0;rotate_left
 ·simp_all[bC]
 by_cases e8:r8.2=0;rotate_left
 ·simp_all[bC]
 by_cases e9:r9.2=0;rotate_left
 ·simp_all[bC]
 simp_all[bC]
end Go.Ab.Tt
