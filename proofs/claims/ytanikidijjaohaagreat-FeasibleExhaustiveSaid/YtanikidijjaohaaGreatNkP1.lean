import Derived.Test.YtanikidijjaohaaGreatTtChk0
import Derived.Test.YtanikidijjaohaaGreatSh2
namespace Go.Ab.Tt
set_option maxRecDepth 100000
set_option linter.unusedVariables false
theorem Bv(s:Bytes)(hs:s.length≤maxLen):fQ [.str s]=some (.bool (kQ s)):=by
 have hm:=bg;simp only[fQ,xS,dg,U];refine(GF s hs mV (some (.bool false)) (some (.bool (decide ((s.length:Int)>0)&&decide ((s.length:Int)≤32)))) (fun k hk rec=>?_) (fun rec=>?_)).trans ?_
 ·have h1:(k:Int)<(s.length:Int):=by omega
  simp only[sJ,I5,h1,aaV,My,AI hk,U,bf,ag (show k<9223372036854775807 by omega),fa];generalize s[k]=b;unfold mV;generalize (decide (97≤(b.toNat:Int))&&decide ((b.toNat:Int)≤122))=x1;generalize (decide (65≤(b.toNat:Int))&&decide ((b.toNat:Int)≤90))=x2;generalize (decide (48≤(b.toNat:Int))&&decide ((b.toNat:Int)≤57))=x3;by_cases e4:(b.toNat:Int)=45<;>by_cases e5:(b.toNat:Int)=95<;>by_cases e6:(b.toNat:Int)=46<;>cases x1<;>cases x2<;>cases x3<;>simp[e4,e5,e6]
 ·simp only[sJ,I5,ak9,abG,bf,U]
 ·unfold kQ;cases s.all mV with
  |true=>simp only[aaV,akY,AT,PV.bool.injEq];rw[ajO];simp only[T1,I5];omega
  |false=>simp
theorem U5{body:Bytes×Int×Unit→(Bytes×Int×Unit→Option PV)→Option PV}(s:Bytes)(hs:s.length≤maxLen)(h:∀k,(hk:k<s.length)→∀rec,body (s,(k:Int),()) rec=if mV s[k]then rec (s,((k+1:Nat):Int),())else some (.bool false))(oG:∀rec,body (s,(s.length:Int),()) rec=some (.bool true)){c:Bool}(hc:c= !(decide (1≤s.length)&&decide (s.length≤32))):(if c=true then some (.bool false)else bn.run body (s,0,()))=some (.bool (kQ s)):=by rw[GF s hs mV _ _ h oG,hc];unfold kQ;cases s.all mV<;>cases(decide (1≤s.length)&&decide (s.length≤32))<;>rfl
theorem wq(s:Bytes)(hs:s.length≤maxLen):eu [.str s]=some (.bool (kQ s)):=by
 have hm:=bg;simp only[eu,tT,dg,U,aY];refine U5 s hs (fun k hk rec=>?_) (fun rec=>?_) ?_
 ·have h1:(k:Int)<(s.length:Int):=by omega
  simp only[oX,I5,h1,aaV,My,AI hk,U,bf,aY,ag (show k<9223372036854775807 by omega),nJ];generalize s[k]=b;unfold mV;simp only[ge_iff_le];generalize (decide (97≤(b.toNat:Int))&&decide ((b.toNat:Int)≤122))=x1;generalize (decide (65≤(b.toNat:Int))&&decide ((b.toNat:Int)≤90))=x2;generalize (decide (48≤(b.toNat:Int))&&decide ((b.toNat:Int)≤57))=x3;by_cases e4:(b.toNat:Int)=45<;>by_cases e5:(b.toNat:Int)=95<;>by_cases e6:(b.toNat:Int)=46<;>cases x1<;>cases x2<;>cases x3<;>simp[e4,e5,e6]
 ·simp only[oX,I5,ak9,abG]
 ·rw[ajO];simp only[fa,ajA,ajF,akj,I5,ajK];omega
def Ep(l:List Stop)(k:Nat):Int:=match l[k]? with
 |none=>0
 |some x=>if kQ x.id=false then 12 else if x.id∈(l.map Stop.id).take k then 6 else if(decide (x.qD<0)||decide (x.qD≥16)||decide (x.change<0)||decide (x.change>3600))=true then 2 else 0
def iF(l:List Stop):Int×Int:=if l.length>64 then(0,5)else bY (Ep l) l.length
theorem U6(l:List Stop)(hl:l.length≤maxLen∧∀y∈l,y.Ok):nN [.rs 4 (l.map Stop.pv)]=some (res (iF l).1 (iF l).2):=by
 have hm:=bg;simp only[nN,Aj,aP,aaV,U,OF];unfold iF;by_cases y8:l.length>64
 ·rw[BK (by simp;omega),BK y8];rfl
 ·rw[IN (by simp;omega),IN y8,←pS];refine bX (fun k=>(l.map Stop.pv,(l.length:Int),(k:Int),seen PV.str ((l.map Stop.id).take k),())) l.length _ (fun k hk rec=>?_) (fun rec=>?_) ?_ rfl
  ·have h1:(k:Int)<(l.length:Int):=by omega
   have av:=Bv l[k].id (hl.2 _ (ajz hk)).id;have tL:=pT yW l[k].id ((l.map Stop.id).take k);have uW:=mW yW l[k].id ((l.map Stop.id).take k);simp only[uc,I5,h1,aaV,aW,IT,AI hk,ah5,U,Stop.pv,cell,PV.cells,ajE,ajD,dg,asInt,asBool,av,tL,uW,aY,ag (show k<9223372036854775807 by omega),sK Stop.id l k hk];unfold Ep;rw[AI hk];simp only;generalize (decide (l[k].qD<0)||decide (l[k].qD≥16)||decide (l[k].change<0)||decide (l[k].change>3600))=c;cases kQ l[k].id with
   |false=>rfl
   |true=>
    by_cases cg:l[k].id∈(l.map Stop.id).take k
    ·simp only[cg,aaV,ajx,By,aj3,abG];rfl
    ·simp only[cg,aaV,ajx,By,aj3,abG];cases c<;>rfl
  ·simp only[uc,I5,ak9,abG];rfl
  ·have:=bp;omega
set_option linter.unusedSimpArgs false
theorem GG(n a b:Int):bO [.int .i64 n,.int .i64 a,.int .i64 b]=some (.bool (decide (n≥a)&&decide (n≤b))):=by simp only[bO,F3,asInt,aaV,U,bf]
theorem Kj(x:Stop):cell x.pv 0=.str x.id:=rfl
theorem aaH(x:Stop):cell x.pv 1=.int .i64 x.qD:=rfl
theorem aaI(x:Stop):cell x.pv 3=.int .i64 x.change:=rfl
theorem Mz{R:Type}(ids:List Bytes)(i:Nat)(hi:i<ids.length)(no fin:Option R):gG ((List.range i).findSome? fun k=>if decide (ids[k]?=some ids[i])=true then some no else none) fin=if ids[i]∈ids.take i then no else fin:=by
 rw[DM (fun k=>decide (ids[k]?=some ids[i])) (fun _=>no)];cases hf:(List.range i).find? fun k=>decide (ids[k]?=some ids[i])with
 |none=>
  have hn:ids[i]∉ids.take i:=fun cg=>by
   obtain⟨j,hj⟩:=akk.1 cg;have Ui:j<i:=by have:=(IS.1 hj).1;simp at this;omega
   rw[akf Ui]at hj;rw[List.find?_eq_none]at hf;exact hf j (by simpa using Ui) (by simpa using hj)
  rw[IN hn];rfl
 |some j=>rw[List.find?_range_eq_some]at hf;obtain⟨h1,h2,_⟩:=hf;have cg:ids[i]∈ids.take i:=akk.2 ⟨j,by rw[akf (by simpa using h2)];simpa using h1⟩;rw[BK cg];rfl
theorem MA(l:List Stop)(hl:l.length≤maxLen)(i:Nat)(hi:i<l.length)(fu:List PV×Int×Unit→Option PV):bn.run (nO fu) (l.map Stop.pv,(i:Int),0,())=if(l.map Stop.id)[i]'(by simpa using hi)∈(l.map Stop.id).take i then some (res i 6)else if(decide (l[i].qD<0)||decide (l[i].qD≥16)||decide (l[i].change<0)||decide (l[i].change>3600))=true then some (res i 2)else fu (l.map Stop.pv,IntKind.i64.wrap ((i:Int)+1),()):=by
 have hm:=bg;have WT:(l.map Stop.pv)[i]?=some l[i].pv:=by rw[IT,AI hi];rfl
 have VJ:i<(l.map Stop.id).length:=by simpa using hi
 have acB:(l.map Stop.id)[i]=l[i].id:=by simp
 rw[←Mz (l.map Stop.id) i VJ];refine bX (fun k=>(l.map Stop.pv,(i:Int),(k:Int),())) i (fun k=>if decide ((l.map Stop.id)[k]?=some (l.map Stop.id)[i])=true then some (some (res i 6))else none) (fun k hk rec=>?_) (fun rec=>?_) ?_ rfl
 ·have h1:decide ((k:Int)<(i:Int))=true:=by simp;omega
  have qg:k<l.length:=by omega
  have hgk:(l.map Stop.pv)[k]?=some l[k].pv:=by rw[IT,AI qg];rfl
  have hdk:decide ((l.map Stop.id)[k]?=some (l.map Stop.id)[i])=decide (l[k].id=l[i].id):=by rw[IT,AI qg,acB];simp
  unfold nO;dsimp only;rw[BK h1,aW,hgk,U,Kj,aW,WT,ag (by omega),hdk];simp only[dg,U,Kj,fa];cases decide (l[k].id=l[i].id)<;>rfl
 ·unfold nO;dsimp only;rw[IN (by simp),aW,WT];simp only[U,aaH,aaI,asInt,aaV,GG,asBool,aY];have:(!(decide (l[i].qD≥0)&&decide (l[i].qD≤15))|| !(decide (l[i].change≥0)&&decide (l[i].change≤3600)))=(decide (l[i].qD<0)||decide (l[i].qD≥16)||decide (l[i].change<0)||decide (l[i].change>3600)):=by rw[ajO];simp only[ajA,ajF,akj,I5,ajK];omega
  rw[this];cases(decide (l[i].qD<0)||decide (l[i].qD≥16)||decide (l[i].change<0)||decide (l[i].change>3600))<;>rfl
 ·have:=bp;omega
theorem U7(l:List Stop)(hl:l.length≤maxLen∧∀y∈l,y.Ok):l5 [.rs 4 (l.map Stop.pv)]=some (res (iF l).1 (iF l).2):=by
 have hm:=bg;simp only[l5,xI,aP,aaV,U,OF];unfold iF;by_cases y8:l.length>64
 ·rw[BK (by simp;omega),BK y8];rfl
 ·rw[IN (by simp;omega),IN y8,←pS];refine bX (fun k=>(l.map Stop.pv,(k:Int),())) l.length _ (fun k hk rec=>?_) (fun rec=>?_) ?_ rfl
  ·have h1:decide ((k:Int)<((l.map Stop.pv).length:Int))=true:=by simp;omega
   have hgk:(l.map Stop.pv)[k]?=some l[k].pv:=by rw[IT,AI hk];rfl
   have av:=wq l[k].id (hl.2 _ (ajz hk)).id;have acC:(l.map Stop.id)[k]'(by simpa using hk)=l[k].id:=by simp
   unfold sL;dsimp only;rw[BK h1,aW,hgk,U,Kj];simp only[dg,U,av,asBool];rw[MA l hl.1 k hk rec,acC,ag (by omega)];unfold Ep;rw[AI hk];simp only;generalize (decide (l[k].qD<0)||decide (l[k].qD≥16)||decide (l[k].change<0)||decide (l[k].change>3600))=c;cases kQ l[k].id with
   |false=>rfl
   |true=>
    by_cases cg:l[k].id∈(l.map Stop.id).take k
    ·simp only[cg,aaV,ajx,By,aj3,abG];rfl
    ·simp only[cg,aaV,ajx,By,aj3,abG];cases c<;>rfl
  ·unfold sL;dsimp only;rw[IN (by simp)];rfl
  ·have:=bp;omega
theorem GH(x:ay):cell x.pv 0=.str x.id:=rfl
theorem Yo(x:ay):cell x.pv 1=.int .i64 x.mode:=rfl
def Bj(l:List ay)(k:Nat):Int:=match l[k]? with
 |none=>0
 |some x=>if kQ x.id=false then 12 else if x.id∈(l.map ay.id).take k then 6 else if(decide (x.mode≥0)&&decide (x.mode<8))=false then 2 else 0
def gV(l:List ay):Int×Int:=if l.length>64 then(0,5)else bY (Bj l) l.length
theorem QW(l:List ay)(hl:l.length≤maxLen∧∀y∈l,y.Ok):l6 [.rs 3 (l.map ay.pv)]=some (res (gV l).1 (gV l).2):=by
 have hm:=bg;simp only[l6,xD,aP,aaV,U,OF];unfold gV;by_cases y8:l.length>64
 ·rw[BK (by simp;omega),BK y8];rfl
 ·rw[IN (by simp;omega),IN y8,←pS];refine bX (fun k=>(l.map ay.pv,(l.length:Int),(k:Int),seen PV.str ((l.map ay.id).take k),())) l.length _ (fun k hk rec=>?_) (fun rec=>?_) ?_ rfl
  ·have h1:(k:Int)<(l.length:Int):=by omega
   have av:=Bv l[k].id (hl.2 _ (ajz hk)).id;have tL:=pT yW l[k].id ((l.map ay.id).take k);have uW:=mW yW l[k].id ((l.map ay.id).take k);simp only[sM,I5,h1,aaV,aW,IT,AI hk,ah5,U,ay.pv,cell,PV.cells,ajE,ajD,dg,asInt,asBool,av,tL,uW,aY,ag (show k<9223372036854775807 by omega),sK ay.id l k hk,pq,xy,bf];unfold Bj;rw[AI hk];simp only;generalize (decide (l[k].mode≥0)&&decide (l[k].mode<8))=c;cases kQ l[k].id with
   |false=>rfl
   |true=>
    by_cases cg:l[k].id∈(l.map ay.id).take k
    ·simp only[cg,aaV,ajx,By,aj3,abG];rfl
    ·simp only[cg,aaV,ajx,By,aj3,abG];cases c<;>rfl
  ·simp only[sM,I5,ak9,abG];rfl
  ·have:=bp;omega
theorem Kk(l:List ay)(hl:l.length≤maxLen)(i:Nat)(hi:i<l.length)(fu:List PV×Int×Unit→Option PV):bn.run (mr fu) (l.map ay.pv,(i:Int),0,())=if(l.map ay.id)[i]'(by simpa using hi)∈(l.map ay.id).take i then some (res i 6)else if(decide (l[i].mode≥0)&&decide (l[i].mode<8))=false then some (res i 2)else fu (l.map ay.pv,IntKind.i64.wrap ((i:Int)+1),()):=by
 have hm:=bg;have WT:(l.map ay.pv)[i]?=some l[i].pv:=by rw[IT,AI hi];rfl
 have VJ:i<(l.map ay.id).length:=by simpa using hi
 have acB:(l.map ay.id)[i]=l[i].id:=by simp
 rw[←Mz (l.map ay.id) i VJ];refine bX (fun k=>(l.map ay.pv,(i:Int),(k:Int),())) i (fun k=>if decide ((l.map ay.id)[k]?=some (l.map ay.id)[i])=true then some (some (res i 6))else none) (fun k hk rec=>?_) (fun rec=>?_) ?_ rfl
 ·have h1:decide ((k:Int)<(i:Int))=true:=by simp;omega
  have qg:k<l.length:=by omega
  have hgk:(l.map ay.pv)[k]?=some l[k].pv:=by rw[IT,AI qg];rfl
  have hdk:decide ((l.map ay.id)[k]?=some (l.map ay.id)[i])=decide (l[k].id=l[i].id):=by rw[IT,AI qg,acB];simp
  unfold mr;dsimp only;rw[BK h1,aW,hgk,U,GH,aW,WT,ag (by omega),hdk];simp only[dg,U,GH,fa];cases decide (l[k].id=l[i].id)<;>rfl
 ·unfold mr;dsimp only;rw[IN (by simp),aW,WT];simp only[U,Yo,asInt,aaV,GG,asBool];have:(decide (l[i].mode≥0)&&decide (l[i].mode≤7))=(decide (l[i].mode≥0)&&decide (l[i].mode<8)):=by rw[ajO];simp only[T1,I5];omega
  rw[this];cases(decide (l[i].mode≥0)&&decide (l[i].mode<8))<;>rfl
 ·have:=bp;omega
theorem QX(l:List ay)(hl:l.length≤maxLen∧∀y∈l,y.Ok):kR [.rs 3 (l.map ay.pv)]=some (res (gV l).1 (gV l).2):=by
 have hm:=bg;simp only[kR,vP,aP,aaV,U,OF];unfold gV;by_cases y8:l.length>64
 ·rw[BK (by simp;omega),BK y8];rfl
 ·rw[IN (by simp;omega),IN y8,←pS];refine bX (fun k=>(l.map ay.pv,(k:Int),())) l.length _ (fun k hk rec=>?_) (fun rec=>?_) ?_ rfl
  ·have h1:decide ((k:Int)<((l.map ay.pv).length:Int))=true:=by simp;omega
   have hgk:(l.map ay.pv)[k]?=some l[k].pv:=by rw[IT,AI hk];rfl
   have av:=wq l[k].id (hl.2 _ (ajz hk)).id;have acC:(l.map ay.id)[k]'(by simpa using hk)=l[k].id:=by simp
   unfold qK;dsimp only;rw[BK h1,aW,hgk,U,GH];simp only[dg,U,av,asBool];rw[Kk l hl.1 k hk rec,acC,ag (by omega)];unfold Bj;rw[AI hk];simp only;generalize (decide (l[k].mode≥0)&&decide (l[k].mode<8))=c;cases kQ l[k].id with
   |false=>rfl
   |true=>
    by_cases cg:l[k].id∈(l.map ay.id).take k
    ·simp only[cg,aaV,ajx,By,aj3,abG];rfl
    ·simp only[cg,aaV,ajx,By,aj3,abG];cases c<;>rfl
  ·unfold qK;dsimp only;rw[IN (by simp)];rfl
  ·have:=bp;omega
def wi(n a b:Int):Bool:=decide (n≥a)&&decide (n≤b)
theorem DN(n a b:Int):bZ [.int .i64 n,.int .i64 a,.int .i64 b]=some (.bool (wi n a b)):=by simp only[bZ,sl,asInt,aaV,U,bf];rfl
theorem acD(x:aA):cell x.pv 0=.str x.id:=rfl
theorem aeB(x:aA):cell x.pv 1=.int .i64 x.tr:=rfl
theorem aeC(x:aA):cell x.pv 2=.int .i64 x.bQ:=rfl
theorem aeD(x:aA):cell x.pv 3=.int .i64 x.iy:=rfl
theorem aeE(x:aA):cell x.pv 4=.int .i64 x.ez:=rfl
theorem aeF(x:aA):cell x.pv 5=.int .i64 x.bK:=rfl
def wg(x:aA):Bool:= !wi x.tr 0 1000000|| !wi x.bQ 1 8|| !wi x.iy 1 16|| !wi x.ez 0 86400|| !wi x.bK 1 255
def Es(l:List aA)(k:Nat):Int:=match l[k]? with
 |none=>0
 |some x=>if kQ x.id=false then 12 else if x.id∈(l.map aA.id).take k then 6 else if wg x=true then 2 else 0
def dw(l:List aA)(bk within cap:Int):PV:=.agg [.rs 6 (l.map aA.pv),.int .i64 bk,.int .i64 within,.int .i64 cap]
def du(l:List aA)(bk within cap:Int):Int×Int:=if(!wi bk 0 1000000|| !wi within 0 86400|| !wi cap 0 1000000)=true then(-1,2)else if l.length>16 then(0,5)else bY (Es l) l.length
theorem Aw(l:List aA)(bk within cap:Int)(hl:l.length≤maxLen∧∀y∈l,y.Ok):dC [dw l bk within cap]=some (res (du l bk within cap).1 (du l bk within cap).2):=by
 have hm:=bg;simp only[dC,tV,dw,asAgg,cell,PV.cells,ajE,ajD,ajv,ajQ,Nat.reduceAdd,aP,asInt,asBool,aaV,U,OF,DN,aY];unfold du;generalize (!wi bk 0 1000000|| !wi within 0 86400|| !wi cap 0 1000000)=c;cases c with
 |true=>rfl
 |false=>
  simp only[By,abG];by_cases y8:l.length>16
  ·rw[BK (by simp;omega),BK y8];rfl
  ·rw[IN (by simp;omega),IN y8,←pS];refine bX (fun k=>(l.map aA.pv,(l.length:Int),(k:Int),seen PV.str ((l.map aA.id).take k),())) l.length _ (fun k hk rec=>?_) (fun rec=>?_) ?_ rfl
   ·have h1:(k:Int)<(l.length:Int):=by omega
    have av:=Bv l[k].id (hl.2 _ (ajz hk)).id;have tL:=pT yW l[k].id ((l.map aA.id).take k);have uW:=mW yW l[k].id ((l.map aA.id).take k);simp only[oY,I5,h1,aaV,aW,IT,AI hk,ah5,U,acD,aeB,aeC,aeD,aeE,aeF,dg,asInt,asBool,av,tL,uW,DN,aY,ag (show k<9223372036854775807 by omega),sK aA.id l k hk];unfold Es;rw[AI hk];have hb:(!wi l[k].tr 0 1000000|| !wi l[k].bQ 1 8|| !wi l[k].iy 1 16|| !wi l[k].ez 0 86400|| !wi l[k].bK 1 255)=wg l[k]:=rfl;simp only[hb];generalize wg l[k]=c;cases kQ l[k].id with
    |false=>rfl
    |true=>
     by_cases cg:l[k].id∈(l.map aA.id).take k
     ·simp only[cg,aaV,ajx,By,aj3,abG];rfl
     ·simp only[cg,aaV,ajx,By,aj3,abG];cases c<;>rfl
   ·simp only[oY,I5,ak9,abG];rfl
   ·have:=bp;omega
theorem abA(n a b:Int):bO [.int .i64 n,.int .i64 a,.int .i64 b]=some (.bool (wi n a b)):=GG n a b
theorem MB(l:List aA)(hl:l.length≤maxLen)(d w c:Int)(i:Nat)(hi:i<l.length)(fu:Int×List PV×Int×Int×Int×Unit→Option PV):bn.run (nP fu) ((i:Int),0,l.map aA.pv,d,w,c,.str l[i].id,.int .i64 l[i].tr,.int .i64 l[i].bQ,.int .i64 l[i].iy,.int .i64 l[i].ez,.int .i64 l[i].bK,())=if l[i].id∈(l.map aA.id).take i then some (res i 6)else if wg l[i]=true then some (res i 2)else fu (IntKind.i64.wrap ((i:Int)+1),l.map aA.pv,d,w,c,()):=by
 have hm:=bg;refine(uX (fun k=>((i:Int),(k:Int),l.map aA.pv,d,w,c,PV.str l[i].id,PV.int .i64 l[i].tr,PV.int .i64 l[i].bQ,PV.int .i64 l[i].iy,PV.int .i64 l[i].ez,PV.int .i64 l[i].bK,())) i (fun k=>decide ((l.map aA.id)[k]?=some l[i].id)) (no:=some (res i 6)) (fin:=if wg l[i]=true then some (res i 2)else fu (IntKind.i64.wrap ((i:Int)+1),l.map aA.pv,d,w,c,())) (fun k hk rec=>?_) (fun rec=>?_) ?_ rfl).trans ?_
 ·have h1:(k:Int)<(i:Int):=by omega
  have qg:k<l.length:=by omega
  simp only[nP,I5,h1,aaV,aW,IT,AI qg,ah5,U,acD,dg,ag (show k<9223372036854775807 by omega),fa,AT];rfl
 ·simp only[nP,I5,ak9,abG,U,asInt,aaV,abA,asBool,aY];rfl
 ·have:=bp;omega
 ·rw[Et _ _ (by simp;omega)];simp only[I5]
theorem U8(l:List aA)(bk within cap:Int)(hl:l.length≤maxLen∧∀y∈l,y.Ok):l7 [dw l bk within cap]=some (res (du l bk within cap).1 (du l bk within cap).2):=by
 have hm:=bg;simp only[l7,xz,dw,asAgg,cell,PV.cells,ajE,ajD,ajv,ajQ,Nat.reduceAdd,aP,asInt,asBool,aaV,U,OF,abA,aY];unfold du;generalize (!wi bk 0 1000000|| !wi within 0 86400|| !wi cap 0 1000000)=c;cases c with
 |true=>rfl
 |false=>
  simp only[By,abG];by_cases y8:l.length>16
  ·rw[BK (by simp;omega),BK y8];rfl
  ·rw[IN (by simp;omega),IN y8,←pS];refine bX (fun k=>((k:Int),l.map aA.pv,bk,within,cap,())) l.length _ (fun k hk rec=>?_) (fun rec=>?_) ?_ rfl
   ·have h1:(k:Int)<(l.length:Int):=by omega
    have av:=wq l[k].id (hl.2 _ (ajz hk)).id;have oq:=MB l hl.1 bk within cap k hk rec;simp only[sN,I5,OF,h1,aaV,aW,IT,AI hk,ah5,U,acD,aeB,aeC,aeD,aeE,aeF,dg,asBool,av,oq,ag (show k<9223372036854775807 by omega)];unfold Es;rw[AI hk];simp only;generalize wg l[k]=c;cases kQ l[k].id with
    |false=>rfl
    |true=>
     by_cases cg:l[k].id∈(l.map aA.id).take k
     ·simp only[cg,aaV,ajx,By,aj3,abG];rfl
     ·simp only[cg,aaV,ajx,By,aj3,abG];cases c<;>rfl
   ·simp only[sN,I5,OF,ak9,abG];rfl
   ·have:=bp;omega
theorem Tk(x:bV):cell x.pv 0=.int .i64 x.stop:=rfl
theorem abB(x:bV):cell x.pv 1=.int .i64 x.arr:=rfl
theorem Tl(x:bV):cell x.pv 2=.int .i64 x.dep:=rfl
def MC(l:List bV):Nat→Option bV
 |0=>none
 |k+1=>l[k]?
def SX(c:bV)(p:Option bV)(stops low high:Int):Int:=
 if(decide (c.stop<0)||decide (c.stop≥stops))=true then 9
 else if(match p with|some p=>decide (p.stop=c.stop)|none=>false)=true then 13
 else if(decide (c.arr<low)||decide (c.arr>c.dep)||decide (c.dep>high)||(match p with|some p=>decide (c.arr<p.dep)|none=>false))=true then 10 else 0
def vY(l:List bV)(stops low high:Int)(k:Nat):Int:=match l[k]? with
 |none=>0
 |some c=>SX c (MC l k) stops low high
def jG(l:List bV)(stops low high:Int):Int×Int:=if(decide ((l.length:Int)<2)||decide ((l.length:Int)>32))=true then(0,5)else bY (vY l stops low high) l.length
theorem mU(j:Nat)(h:j<9223372036854775807):IntKind.i64.wrap (((j+1:Nat):Int)-1)=(j:Int):=by rw[bE (by omega) (by omega)];omega
theorem MD(l:List bV)(stops low high:Int)(k:Nat)(hk:k<l.length)(hl:l.length≤maxLen):sO [.rs 5 (l.map bV.pv),.int .i64 k,.int .i64 stops,.int .i64 low,.int .i64 high]=some (.int .i64 (vY l stops low high k)):=by
 have hm:=bg;simp only[sO,F2,aP,asInt,aaV,U,aW,IT,AI hk,ah5,Tk,abB,Tl,aY];unfold vY SX;rw[AI hk];simp only;cases k with
 |zero=>
  have h0:decide (((0:Nat):Int)>0)=false:=by decide
  simp only[h0,cond_false,U,aY,aln,MC];generalize (decide (l[0].stop<0)||decide (l[0].stop≥stops))=A;generalize (decide (l[0].arr<low)||decide (l[0].arr>l[0].dep)||decide (l[0].dep>high))=B;cases A<;>cases B<;>rfl
 |succ j=>
  have h0:decide (((j+1:Nat):Int)>0)=true:=by rw[I5];omega
  have hj:j<l.length:=by omega
  simp only[h0,cond_true,U,mU j (by omega),aW,IT,AI hj,ah5,Tk,Tl,asInt,aaV,MC,fa,aY];generalize (decide (l[j+1].stop<0)||decide (l[j+1].stop≥stops))=A;generalize (decide (l[j+1].arr<low)||decide (l[j+1].arr>l[j+1].dep)||decide (l[j+1].dep>high))=B;generalize decide (l[j].stop=l[j+1].stop)=C;generalize decide (l[j+1].arr<l[j].dep)=D;cases A<;>cases B<;>cases C<;>cases D<;>rfl
theorem U9(l:List bV)(stops low high:Int)(hl:l.length≤maxLen):nQ [.rs 5 (l.map bV.pv),.int .i64 stops,.int .i64 low,.int .i64 high]=some (res (jG l stops low high).1 (jG l stops low high).2):=by
 have hm:=bg;simp only[nQ,Ai,aP,asInt,aaV,U,OF,aY];unfold jG;split
 ·rfl
 ·rw[←pS];refine bX (fun k=>(l.map bV.pv,stops,low,high,(l.length:Int),(k:Int),())) l.length _ (fun k hk rec=>?_) (fun rec=>?_) ?_ rfl
  ·have h1:(k:Int)<(l.length:Int):=by omega
   simp only[ud,I5,h1,aaV,MD l stops low high k hk hl,U,asInt,ag (show k<9223372036854775807 by omega),nJ];by_cases he:vY l stops low high k=0
   ·simp[he,ME,gG]
   ·simp[he,ME,gG,res]
  ·simp only[ud,I5,ak9,abG];rfl
  ·have:=bp;omega
theorem Va(l:List bV)(stops low high:Int)(hl:l.length≤maxLen):l8 [.rs 5 (l.map bV.pv),.int .i64 stops,.int .i64 low,.int .i64 high]=some (.int .i64 (jG l stops low high).2):=by
 have hm:=bg;simp only[l8,xU,aP,asInt,aaV,U,OF,aY];unfold jG;split
 ·rfl
 ·rw[←QY];refine bX (fun k=>(l.map bV.pv,stops,low,high,(k:Int),())) l.length _ (fun k hk rec=>?_) (fun rec=>?_) ?_ rfl
  ·have h1:(k:Int)<(l.length:Int):=by omega
   simp only[sP,I5,OF,h1,aaV,aW,IT,AI hk,ah5,U,Tk,abB,Tl,asInt,aY,ag (show k<9223372036854775807 by omega)];unfold vY SX;rw[AI hk];simp only;cases k with
   |zero=>
    have h0:decide (((0:Nat):Int)>0)=false:=by decide
    simp only[h0,cond_false,U,aY,aln,MC];generalize (decide (l[0].stop<0)||decide (l[0].stop≥stops))=A;generalize (decide (l[0].arr<low)||decide (l[0].arr>l[0].dep)||decide (l[0].dep>high))=B;cases A<;>cases B<;>rfl
   |succ j=>
    have h0:decide (((j+1:Nat):Int)>0)=true:=by rw[I5];omega
    have hj:j<l.length:=by omega
    have hc:decide (l[j+1].stop=l[j].stop)=decide (l[j].stop=l[j+1].stop):=by rw[ajO];simp;exact eq_comm
    simp only[h0,cond_true,U,mU j (by omega),aW,IT,AI hj,ah5,Tk,Tl,asInt,aaV,MC,fa,aY,hc];generalize (decide (l[j+1].stop<0)||decide (l[j+1].stop≥stops))=A;generalize (decide (l[j+1].arr<low)||decide (l[j+1].arr>l[j+1].dep)||decide (l[j+1].dep>high))=B;generalize decide (l[j].stop=l[j+1].stop)=C;generalize decide (l[j+1].arr<l[j].dep)=D;cases A<;>cases B<;>cases C<;>cases D<;>rfl
  ·simp only[sP,I5,OF,ak9,abG]
  ·have:=bp;omega
structure da where
 CL:Int
 day:Int
 inst:Int
 id:Bytes
 eR:Int
 free:Bool
 XE:Bool
 calls:List bV
 deriving DecidableEq
def da.pv(x:da):PV:=.agg [.int .i64 x.CL,.int .i64 x.day,.int .i64 x.inst,.str x.id,.int .i64 x.eR,.bool x.free,.bool x.XE,.rs 5 (x.calls.map bV.pv)]
structure da.lu(M:Nat)(x:da):Prop where
 CL:lM x.CL
 day:lM x.day
 inst:lM x.inst
 id:x.id.length≤M
 eR:lM x.eR
 calls:x.calls.length≤M∧∀y∈x.calls,y.lu M
abbrev da.Ok(x:da):Prop:=x.lu maxLen
theorem vZ(x:da):cell x.pv 0=.int .i64 x.CL:=rfl
theorem acE(x:da):cell x.pv 1=.int .i64 x.day:=rfl
theorem acF(x:da):cell x.pv 2=.int .i64 x.inst:=rfl
theorem acG(x:da):cell x.pv 3=.str x.id:=rfl
theorem L3(x:da):cell x.pv 4=.int .i64 x.eR:=rfl
theorem acn(x:da):cell x.pv 5=.bool x.free:=rfl
theorem aco(x:da):cell x.pv 6=.bool x.XE:=rfl
theorem Ar(x:da):cell x.pv 7=.rs 5 (x.calls.map bV.pv):=rfl
structure ba where
 a:Int
 ac:Int
 b:Int
 bc:Int
 stay:Bool
 deriving DecidableEq
def ba.pv(x:ba):PV:=.agg [.int .i64 x.a,.int .i64 x.ac,.int .i64 x.b,.int .i64 x.bc,.bool x.stay]
structure ba.lu(M:Nat)(x:ba):Prop where
 a:lM x.a
 ac:lM x.ac
 b:lM x.b
 bc:lM x.bc
abbrev ba.Ok(x:ba):Prop:=x.lu maxLen
theorem Gd(x:ba):cell x.pv 0=.int .i64 x.a:=rfl
theorem L4(x:ba):cell x.pv 1=.int .i64 x.ac:=rfl
theorem link2(x:ba):cell x.pv 2=.int .i64 x.b:=rfl
theorem L5(x:ba):cell x.pv 3=.int .i64 x.bc:=rfl
theorem IA(x:ba):cell x.pv 4=.bool x.stay:=rfl
theorem DE(x:Path):cell x.pv 0=.int .i64 x.a:=rfl
theorem DF(x:Path):cell x.pv 1=.int .i64 x.b:=rfl
theorem F9(x:Path):cell x.pv 2=.int .i64 x.ez:=rfl
theorem Ga(x:Path):cell x.pv 3=.bool x.free:=rfl
structure ab where
 stops:List Stop
 aj:List ay
 runs:List da
 au:List ba
 paths:List Path
 aL:List aA
 bk:Int
 within:Int
 cap:Int
 deriving DecidableEq
def ab.pv(x:ab):PV:=.agg [.rs 4 (x.stops.map Stop.pv),.rs 3 (x.aj.map ay.pv),.rs 8 (x.runs.map da.pv),.rs 5 (x.au.map ba.pv),.rs 4 (x.paths.map Path.pv),.rs 6 (x.aL.map aA.pv),.int .i64 x.bk,.int .i64 x.within,.int .i64 x.cap]
structure ab.lu(M:Nat)(x:ab):Prop where
 stops:x.stops.length≤M∧∀y∈x.stops,y.lu M
 aj:x.aj.length≤M∧∀y∈x.aj,y.lu M
 runs:x.runs.length≤M∧∀y∈x.runs,y.lu M
 au:x.au.length≤M∧∀y∈x.au,y.lu M
 paths:x.paths.length≤M∧∀y∈x.paths,y.lu M
 aL:x.aL.length≤M∧∀y∈x.aL,y.lu M
 bk:lM x.bk
 within:lM x.within
 cap:lM x.cap
abbrev ab.Ok(x:ab):Prop:=x.lu maxLen
theorem gw(x:ab):asAgg 9 x.pv=some ():=rfl
theorem gx(x:ab):aP 4 (cell x.pv 0)=some (x.stops.map Stop.pv):=rfl
theorem gy(x:ab):aP 3 (cell x.pv 1)=some (x.aj.map ay.pv):=rfl
theorem gz(x:ab):aP 8 (cell x.pv 2)=some (x.runs.map da.pv):=rfl
theorem gA(x:ab):aP 5 (cell x.pv 3)=some (x.au.map ba.pv):=rfl
theorem gB(x:ab):aP 4 (cell x.pv 4)=some (x.paths.map Path.pv):=rfl
theorem gC(x:ab):aP 6 (cell x.pv 5)=some (x.aL.map aA.pv):=rfl
theorem gD(x:ab):asInt .i64 (cell x.pv 6)=some x.bk:=rfl
theorem gE(x:ab):asInt .i64 (cell x.pv 7)=some x.within:=rfl
theorem gF(x:ab):asInt .i64 (cell x.pv 8)=some x.cap:=rfl
theorem jj(x:ab):PV.agg [.rs 4 (x.stops.map Stop.pv),.rs 3 (x.aj.map ay.pv),.rs 8 (x.runs.map da.pv),.rs 5 (x.au.map ba.pv),.rs 4 (x.paths.map Path.pv),.rs 6 (x.aL.map aA.pv),.int .i64 x.bk,.int .i64 x.within,.int .i64 x.cap]=x.pv:=rfl
def r3(p i e:Int):PV:=.agg [.int .i64 p,.int .i64 i,.int .i64 e]
def prt(p:Int)(x:Int×Int):PV:=if x.2=0 then r3 0 0 0 else r3 p x.1 x.2
theorem Tm(p i e:Int):asAgg 3 (r3 p i e)=some ():=rfl
theorem uY(p i e:Int):cell (r3 p i e) 0=.int .i64 p:=rfl
theorem BP(p i e:Int):cell (r3 p i e) 1=.int .i64 i:=rfl
theorem CM(p i e:Int):cell (r3 p i e) 2=.int .i64 e:=rfl
theorem GI(p i e:Int):bh [.int .i64 p,.int .i64 i,.int .i64 e]=some (r3 p i e):=rfl
theorem AA(n m:Int):cQ [.int .i64 n,.int .i64 m]=some (.bool (decide (n≥0)&&decide (n<m))):=by simp only[cQ,sj,asInt,aaV,U,bf]
variable{R:Type}
theorem jY(f:Nat→Int)(n:Nat)(g:Int→Int→R)(fin:Option R):gG ((List.range n).findSome? fun k=>if f k=0 then none else some (some (g k (f k)))) fin=if(bY f n).2=0 then fin else some (g (bY f n).1 (bY f n).2):=by
 unfold bY;have:(List.range n).findSome? (fun k=>if f k=0 then none else some (some (g k (f k))))=((List.range n).findSome? (fun k=>if f k=0 then none else some ((k:Int),f k))).map fun x=>some (g x.1 x.2):=by rw[amg];congr 1;funext k;by_cases h:f k=0<;>simp[h]
 rw[this];cases hf:(List.range n).findSome? (fun k=>if f k=0 then none else some ((k:Int),f k))with
 |none=>rfl
 |some x=>
  obtain⟨k,_,hk⟩:=akw hf;have hx:x.2≠0:=by
   by_cases h0:f k=0
   ·rw[BK h0]at hk;cases hk
   ·rw[IN h0]at hk;simp only[AT]at hk;subst hk;exact h0
  simp only[ah5,gG];rw[IN hx]
theorem kH(f:Nat→Int)(n:Nat):(bY f n).2=0↔∀k,k<n→f k=0:=by
 unfold bY;cases hf:(List.range n).findSome? (fun k=>if f k=0 then none else some ((k:Int),f k))with
 |none=>
  simp only[true_iff];intro k hk;rw[akS]at hf;have:=hf k (by simpa using hk);by_cases h0:f k=0
  ·exact h0
  ·rw[IN h0]at this;cases this
 |some x=>
  obtain⟨k,hk,hx⟩:=akw hf;by_cases h0:f k=0
  ·rw[BK h0]at hx;cases hx
  ·rw[IN h0]at hx;simp only[AT]at hx;subst hx;exact⟨fun h=>absurd h h0,fun h=>absurd (h k (by simpa using hk)) h0⟩
theorem zG{S:Type}{body:S→(S→Option R)→Option R}(st:Nat→S)(n:Nat)(bad:Nat→Option (Option R)){fin:Option R}(h:∀k,k<n→(∀j,j<k→bad j=none)→∀rec,body (st k) rec=gG (bad k) (rec (st (k+1))))(oG:(∀j,j<n→bad j=none)→∀rec,body (st n) rec=fin)(hn:n<rounds){s0:S}(h0:st 0=s0):bn.run body s0=gG ((List.range n).findSome? bad) fin:=by
 by_cases Hh:∀j,j<n→bad j=none
 ·have:(List.range n).findSome? bad=none:=by rw[akS];intro k hk;exact Hh k (by simpa using hk)
  rw[this];refine cj st n (fun k hk rec=>?_) (oG Hh) hn h0;rw[h k hk (fun j hj=>Hh j (by omega)),Hh k hk];rfl
 ·have hex:∃m,m<n∧bad m≠none∧∀j,j<m→bad j=none:=by
   have key:∀m,(∃i,i<m∧i<n∧bad i≠none)→∃m,m<n∧bad m≠none∧∀j,j<m→bad j=none:=by
    intro m;induction m with
    |zero=>rintro⟨i,hi,_⟩;omega
    |succ m ih=>
     intro hi;by_cases hc:∃i,i<m∧i<n∧bad i≠none
     ·exact ih hc
     ·obtain⟨i,h1,h2,h3⟩:=hi;have him:i=m:=by
       by_cases h:i<m
       ·exact absurd ⟨i,h,h2,h3⟩ hc
       ·omega
      subst him;refine⟨i,h2,h3,fun j hj=>?_⟩;cases hb:bad j with
      |none=>rfl
      |some x=>exact absurd ⟨j,hj,by omega,by rw[hb];exact fun h=>nomatch h⟩ hc
   have hc:∃i,i<n∧bad i≠none:=by
    by_cases hc:∃i,i<n∧bad i≠none
    ·exact hc
    ·refine absurd (fun j hj=>?_) Hh;cases hb:bad j with
     |none=>rfl
     |some x=>exact absurd ⟨j,hj,by rw[hb];exact fun h=>nomatch h⟩ hc
   obtain⟨i,h1,h2⟩:=hc;exact key n ⟨i,h1,h1,h2⟩
  obtain⟨m,hm,hb,cd⟩:=hex;cases hbm:bad m with
  |none=>exact absurd hbm hb
  |some x=>
   have hf:(List.range n).findSome? bad=some x:=by
    have hnm:n=m+(n-m):=by omega
    rw[hnm,List.range_add,List.findSome?_append];have h1:(List.range m).findSome? bad=none:=by rw[akS];intro k hk;exact cd k (by simpa using hk)
    rw[h1,Option.none_or];have hd:n-m=(n-m-1)+1:=by omega
    rw[hd,alv,ajy,akV,akB,hbm]
   rw[hf];refine cj st m (fun k hk rec=>?_) (fun rec=>?_) (by omega) h0
   ·rw[h k (by omega) (fun j hj=>cd j (by omega)),cd k hk];rfl
   ·rw[h m hm cd,hbm];rfl
theorem Tn{A:Type}[DecidableEq A](a b:List A)(h:a.length=b.length)(no fin:Option R):gG ((List.range a.length).findSome? fun k=>if a[k]?=b[k]? then none else some no) fin=if a=b then fin else no:=by
 by_cases uh:a=b
 ·rw[BK uh];have:(List.range a.length).findSome? (fun k=>if a[k]?=b[k]? then none else some no)=none:=by rw[akS];intro k _;rw[BK (by rw[uh])]
  rw[this];rfl
 ·rw[IN uh];cases hf:(List.range a.length).findSome? (fun k=>if a[k]?=b[k]? then none else some no)with
  |none=>
   refine absurd (ajY fun k=>?_) uh;rw[akS]at hf;by_cases hk:k<a.length
   ·have:=hf k (by simpa using hk);by_cases h0:a[k]?=b[k]?
    ·exact h0
    ·rw[IN h0]at this;cases this
   ·rw[ajr (by omega),ajr (by omega)]
  |some x=>
   obtain⟨k,hk,hx⟩:=akw hf;by_cases h0:a[k]?=b[k]?
   ·rw[BK h0]at hx;cases hx
   ·rw[IN h0]at hx;simp only[AT]at hx;subst hx;rfl
end Go.Ab.Tt
