import Derived.Test.YtanikidijjaohaaGreatTtChk0
import Derived.Test.YtanikidijjaohaaGreatSh2
namespace Go.Ab.Tt
set_option maxRecDepth 100000
set_option linter.unusedVariables false
theorem zr(s:Bytes)(hs:s.length≤maxLen):fm [.str s]=some (.bool (jY s)):=by
 have hm:=bf;simp only[fm,vC,cV,U];refine(D4 s hs lO (some (.bool false)) (some (.bool (decide ((s.length:Int)>0)&&decide ((s.length:Int)≤32)))) (fun k hk rec=>?_) (fun rec=>?_)).trans ?_
 ·have h1:(k:Int)<(s.length:Int):=by omega
  simp only[qF,No,h1,T1,Jz,AS hk,U,aY,ah (show k<9223372036854775807 by omega),fR];generalize s[k]=b;unfold lO;generalize (decide (97≤(b.toNat:Int))&&decide ((b.toNat:Int)≤122))=x1;generalize (decide (65≤(b.toNat:Int))&&decide ((b.toNat:Int)≤90))=x2;generalize (decide (48≤(b.toNat:Int))&&decide ((b.toNat:Int)≤57))=x3;by_cases e4:(b.toNat:Int)=45<;>by_cases e5:(b.toNat:Int)=95<;>by_cases e6:(b.toNat:Int)=46<;>cases x1<;>cases x2<;>cases x3<;>simp[e4,e5,e6]
 ·simp only[qF,No,ah6,Xq,aY,U]
 ·unfold jY;cases s.all lO with
  |true=>simp only[T1,ahY,AI,PV.bool.injEq];rw[agV];simp only[T2,No];omega
  |false=>simp
theorem RF{body:Bytes×Int×Unit→(Bytes×Int×Unit→Option PV)→Option PV}(s:Bytes)(hs:s.length≤maxLen)(h:∀k,(hk:k<s.length)→∀rec,body (s,(k:Int),()) rec=if lO s[k]then rec (s,((k+1:Nat):Int),())else some (.bool false))(mZ:∀rec,body (s,(s.length:Int),()) rec=some (.bool true)){c:Bool}(hc:c= !(decide (1≤s.length)&&decide (s.length≤32))):(if c=true then some (.bool false)else bx.run body (s,0,()))=some (.bool (jY s)):=by rw[D4 s hs lO _ _ h mZ,hc];unfold jY;cases s.all lO<;>cases(decide (1≤s.length)&&decide (s.length≤32))<;>rfl
theorem uc(s:Bytes)(hs:s.length≤maxLen):dS [.str s]=some (.bool (jY s)):=by
 have hm:=bf;simp only[dS,rY,cV,U,aZ];refine RF s hs (fun k hk rec=>?_) (fun rec=>?_) ?_
 ·have h1:(k:Int)<(s.length:Int):=by omega
  simp only[nA,No,h1,T1,Jz,AS hk,U,aY,aZ,ah (show k<9223372036854775807 by omega),oZ];generalize s[k]=b;unfold lO;simp only[ge_iff_le];generalize (decide (97≤(b.toNat:Int))&&decide ((b.toNat:Int)≤122))=x1;generalize (decide (65≤(b.toNat:Int))&&decide ((b.toNat:Int)≤90))=x2;generalize (decide (48≤(b.toNat:Int))&&decide ((b.toNat:Int)≤57))=x3;by_cases e4:(b.toNat:Int)=45<;>by_cases e5:(b.toNat:Int)=95<;>by_cases e6:(b.toNat:Int)=46<;>cases x1<;>cases x2<;>cases x3<;>simp[e4,e5,e6]
 ·simp only[nA,No,ah6,Xq]
 ·rw[agV];simp only[fR,afk,agS,ahv,No,agW];omega
def B9(l:List Stop)(k:Nat):Int:=match l[k]? with
 |none=>0
 |some x=>if jY x.id=false then 12 else if x.id∈(l.map Stop.id).take k then 6 else if(decide (x.oK<0)||decide (x.oK≥16)||decide (x.change<0)||decide (x.change>3600))=true then 2 else 0
def gA(l:List Stop):Int×Int:=if l.length>64 then(0,5)else bN (B9 l) l.length
theorem RG(l:List Stop)(hl:l.length≤maxLen∧∀y∈l,y.Ok):mw [.rs 4 (l.map Stop.pv)]=some (res (gA l).1 (gA l).2):=by
 have hm:=bf;simp only[mw,yj,aQ,T1,U,T0];unfold gA;by_cases wW:l.length>64
 ·rw[BY (by simp;omega),BY wW];rfl
 ·rw[IN (by simp;omega),IN wW,←oc];refine bL (fun k=>(l.map Stop.pv,(l.length:Int),(k:Int),seen PV.str ((l.map Stop.id).take k),())) l.length _ (fun k hk rec=>?_) (fun rec=>?_) ?_ rfl
  ·have h1:(k:Int)<(l.length:Int):=by omega
   have an:=zr l[k].id (hl.2 _ (agQ hk)).id;have rQ:=od wP l[k].id ((l.map Stop.id).take k);have sY:=lP wP l[k].id ((l.map Stop.id).take k);simp only[sf,No,h1,T1,aV,IS,AS hk,adN,U,Stop.pv,cell,PV.cells,agL,agH,cV,asInt,asBool,an,rQ,sY,aZ,ah (show k<9223372036854775807 by omega),qG Stop.id l k hk];unfold B9;rw[AS hk];simp only;generalize (decide (l[k].oK<0)||decide (l[k].oK≥16)||decide (l[k].change<0)||decide (l[k].change>3600))=c;cases jY l[k].id with
   |false=>rfl
   |true=>
    by_cases bR:l[k].id∈(l.map Stop.id).take k
    ·simp only[bR,T1,afj,AT,aha,Xq];rfl
    ·simp only[bR,T1,afj,AT,aha,Xq];cases c<;>rfl
  ·simp only[sf,No,ah6,Xq];rfl
  ·have:=bk;omega
set_option linter.unusedSimpArgs false
theorem D5(n a b:Int):bD [.int .i64 n,.int .i64 a,.int .i64 b]=some (.bool (decide (n≥a)&&decide (n≤b))):=by simp only[bD,DE,asInt,T1,U,aY]
theorem Hu(x:Stop):cell x.pv 0=.str x.id:=rfl
theorem W7(x:Stop):cell x.pv 1=.int .i64 x.oK:=rfl
theorem W8(x:Stop):cell x.pv 3=.int .i64 x.change:=rfl
theorem JA{R:Type}(ids:List Bytes)(i:Nat)(hi:i<ids.length)(no fin:Option R):fS ((List.range i).findSome? fun k=>if decide (ids[k]?=some ids[i])=true then some no else none) fin=if ids[i]∈ids.take i then no else fin:=by
 rw[BA (fun k=>decide (ids[k]?=some ids[i])) (fun _=>no)];cases hf:(List.range i).find? fun k=>decide (ids[k]?=some ids[i])with
 |none=>
  have hn:ids[i]∉ids.take i:=fun bR=>by
   obtain⟨j,hj⟩:=ahn.1 bR;have QY:j<i:=by have:=(HO.1 hj).1;simp at this;omega
   rw[ahh QY]at hj;rw[List.find?_eq_none]at hf;exact hf j (by simpa using QY) (by simpa using hj)
  rw[IN hn];rfl
 |some j=>rw[List.find?_range_eq_some]at hf;obtain⟨h1,h2,_⟩:=hf;have bR:ids[i]∈ids.take i:=ahn.2 ⟨j,by rw[ahh (by simpa using h2)];simpa using h1⟩;rw[BY bR];rfl
theorem JB(l:List Stop)(hl:l.length≤maxLen)(i:Nat)(hi:i<l.length)(eU:List PV×Int×Unit→Option PV):bx.run (my eU) (l.map Stop.pv,(i:Int),0,())=if(l.map Stop.id)[i]'(by simpa using hi)∈(l.map Stop.id).take i then some (res i 6)else if(decide (l[i].oK<0)||decide (l[i].oK≥16)||decide (l[i].change<0)||decide (l[i].change>3600))=true then some (res i 2)else eU (l.map Stop.pv,IntKind.i64.wrap ((i:Int)+1),()):=by
 have hm:=bf;have Tn:(l.map Stop.pv)[i]?=some l[i].pv:=by rw[IS,AS hi];rfl
 have Sd:i<(l.map Stop.id).length:=by simpa using hi
 have aad:(l.map Stop.id)[i]=l[i].id:=by simp
 rw[←JA (l.map Stop.id) i Sd];refine bL (fun k=>(l.map Stop.pv,(i:Int),(k:Int),())) i (fun k=>if decide ((l.map Stop.id)[k]?=some (l.map Stop.id)[i])=true then some (some (res i 6))else none) (fun k hk rec=>?_) (fun rec=>?_) ?_ rfl
 ·have h1:decide ((k:Int)<(i:Int))=true:=by simp;omega
  have qd:k<l.length:=by omega
  have hgk:(l.map Stop.pv)[k]?=some l[k].pv:=by rw[IS,AS qd];rfl
  have hdk:decide ((l.map Stop.id)[k]?=some (l.map Stop.id)[i])=decide (l[k].id=l[i].id):=by rw[IS,AS qd,aad];simp
  unfold my;dsimp only;rw[BY h1,aV,hgk,U,Hu,aV,Tn,ah (by omega),hdk];simp only[cV,U,Hu,fR];cases decide (l[k].id=l[i].id)<;>rfl
 ·unfold my;dsimp only;rw[IN (by simp),aV,Tn];simp only[U,W7,W8,asInt,T1,D5,asBool,aZ];have:(!(decide (l[i].oK≥0)&&decide (l[i].oK≤15))|| !(decide (l[i].change≥0)&&decide (l[i].change≤3600)))=(decide (l[i].oK<0)||decide (l[i].oK≥16)||decide (l[i].change<0)||decide (l[i].change>3600)):=by rw[agV];simp only[afk,agS,ahv,No,agW];omega
  rw[this];cases(decide (l[i].oK<0)||decide (l[i].oK≥16)||decide (l[i].change<0)||decide (l[i].change>3600))<;>rfl
 ·have:=bk;omega
theorem RH(l:List Stop)(hl:l.length≤maxLen∧∀y∈l,y.Ok):kT [.rs 4 (l.map Stop.pv)]=some (res (gA l).1 (gA l).2):=by
 have hm:=bf;simp only[kT,vw,aQ,T1,U,T0];unfold gA;by_cases wW:l.length>64
 ·rw[BY (by simp;omega),BY wW];rfl
 ·rw[IN (by simp;omega),IN wW,←oc];refine bL (fun k=>(l.map Stop.pv,(k:Int),())) l.length _ (fun k hk rec=>?_) (fun rec=>?_) ?_ rfl
  ·have h1:decide ((k:Int)<((l.map Stop.pv).length:Int))=true:=by simp;omega
   have hgk:(l.map Stop.pv)[k]?=some l[k].pv:=by rw[IS,AS hk];rfl
   have an:=uc l[k].id (hl.2 _ (agQ hk)).id;have aae:(l.map Stop.id)[k]'(by simpa using hk)=l[k].id:=by simp
   unfold qH;dsimp only;rw[BY h1,aV,hgk,U,Hu];simp only[cV,U,an,asBool];rw[JB l hl.1 k hk rec,aae,ah (by omega)];unfold B9;rw[AS hk];simp only;generalize (decide (l[k].oK<0)||decide (l[k].oK≥16)||decide (l[k].change<0)||decide (l[k].change>3600))=c;cases jY l[k].id with
   |false=>rfl
   |true=>
    by_cases bR:l[k].id∈(l.map Stop.id).take k
    ·simp only[bR,T1,afj,AT,aha,Xq];rfl
    ·simp only[bR,T1,afj,AT,aha,Xq];cases c<;>rfl
  ·unfold qH;dsimp only;rw[IN (by simp)];rfl
  ·have:=bk;omega
theorem D6(x:aG):cell x.pv 0=.str x.id:=rfl
theorem UK(x:aG):cell x.pv 1=.int .i64 x.mode:=rfl
def zk(l:List aG)(k:Nat):Int:=match l[k]? with
 |none=>0
 |some x=>if jY x.id=false then 12 else if x.id∈(l.map aG.id).take k then 6 else if(decide (x.mode≥0)&&decide (x.mode<8))=false then 2 else 0
def gf(l:List aG):Int×Int:=if l.length>64 then(0,5)else bN (zk l) l.length
theorem NS(l:List aG)(hl:l.length≤maxLen∧∀y∈l,y.Ok):kU [.rs 3 (l.map aG.pv)]=some (res (gf l).1 (gf l).2):=by
 have hm:=bf;simp only[kU,vo,aQ,T1,U,T0];unfold gf;by_cases wW:l.length>64
 ·rw[BY (by simp;omega),BY wW];rfl
 ·rw[IN (by simp;omega),IN wW,←oc];refine bL (fun k=>(l.map aG.pv,(l.length:Int),(k:Int),seen PV.str ((l.map aG.id).take k),())) l.length _ (fun k hk rec=>?_) (fun rec=>?_) ?_ rfl
  ·have h1:(k:Int)<(l.length:Int):=by omega
   have an:=zr l[k].id (hl.2 _ (agQ hk)).id;have rQ:=od wP l[k].id ((l.map aG.id).take k);have sY:=lP wP l[k].id ((l.map aG.id).take k);simp only[qI,No,h1,T1,aV,IS,AS hk,adN,U,aG.pv,cell,PV.cells,agL,agH,cV,asInt,asBool,an,rQ,sY,aZ,ah (show k<9223372036854775807 by omega),qG aG.id l k hk,nM,vj,aY];unfold zk;rw[AS hk];simp only;generalize (decide (l[k].mode≥0)&&decide (l[k].mode<8))=c;cases jY l[k].id with
   |false=>rfl
   |true=>
    by_cases bR:l[k].id∈(l.map aG.id).take k
    ·simp only[bR,T1,afj,AT,aha,Xq];rfl
    ·simp only[bR,T1,afj,AT,aha,Xq];cases c<;>rfl
  ·simp only[qI,No,ah6,Xq];rfl
  ·have:=bk;omega
theorem Hv(l:List aG)(hl:l.length≤maxLen)(i:Nat)(hi:i<l.length)(eU:List PV×Int×Unit→Option PV):bx.run (lh eU) (l.map aG.pv,(i:Int),0,())=if(l.map aG.id)[i]'(by simpa using hi)∈(l.map aG.id).take i then some (res i 6)else if(decide (l[i].mode≥0)&&decide (l[i].mode<8))=false then some (res i 2)else eU (l.map aG.pv,IntKind.i64.wrap ((i:Int)+1),()):=by
 have hm:=bf;have Tn:(l.map aG.pv)[i]?=some l[i].pv:=by rw[IS,AS hi];rfl
 have Sd:i<(l.map aG.id).length:=by simpa using hi
 have aad:(l.map aG.id)[i]=l[i].id:=by simp
 rw[←JA (l.map aG.id) i Sd];refine bL (fun k=>(l.map aG.pv,(i:Int),(k:Int),())) i (fun k=>if decide ((l.map aG.id)[k]?=some (l.map aG.id)[i])=true then some (some (res i 6))else none) (fun k hk rec=>?_) (fun rec=>?_) ?_ rfl
 ·have h1:decide ((k:Int)<(i:Int))=true:=by simp;omega
  have qd:k<l.length:=by omega
  have hgk:(l.map aG.pv)[k]?=some l[k].pv:=by rw[IS,AS qd];rfl
  have hdk:decide ((l.map aG.id)[k]?=some (l.map aG.id)[i])=decide (l[k].id=l[i].id):=by rw[IS,AS qd,aad];simp
  unfold lh;dsimp only;rw[BY h1,aV,hgk,U,D6,aV,Tn,ah (by omega),hdk];simp only[cV,U,D6,fR];cases decide (l[k].id=l[i].id)<;>rfl
 ·unfold lh;dsimp only;rw[IN (by simp),aV,Tn];simp only[U,UK,asInt,T1,D5,asBool];have:(decide (l[i].mode≥0)&&decide (l[i].mode≤7))=(decide (l[i].mode≥0)&&decide (l[i].mode<8)):=by rw[agV];simp only[T2,No];omega
  rw[this];cases(decide (l[i].mode≥0)&&decide (l[i].mode<8))<;>rfl
 ·have:=bk;omega
theorem NT(l:List aG)(hl:l.length≤maxLen∧∀y∈l,y.Ok):jZ [.rs 3 (l.map aG.pv)]=some (res (gf l).1 (gf l).2):=by
 have hm:=bf;simp only[jZ,tO,aQ,T1,U,T0];unfold gf;by_cases wW:l.length>64
 ·rw[BY (by simp;omega),BY wW];rfl
 ·rw[IN (by simp;omega),IN wW,←oc];refine bL (fun k=>(l.map aG.pv,(k:Int),())) l.length _ (fun k hk rec=>?_) (fun rec=>?_) ?_ rfl
  ·have h1:decide ((k:Int)<((l.map aG.pv).length:Int))=true:=by simp;omega
   have hgk:(l.map aG.pv)[k]?=some l[k].pv:=by rw[IS,AS hk];rfl
   have an:=uc l[k].id (hl.2 _ (agQ hk)).id;have aae:(l.map aG.id)[k]'(by simpa using hk)=l[k].id:=by simp
   unfold oR;dsimp only;rw[BY h1,aV,hgk,U,D6];simp only[cV,U,an,asBool];rw[Hv l hl.1 k hk rec,aae,ah (by omega)];unfold zk;rw[AS hk];simp only;generalize (decide (l[k].mode≥0)&&decide (l[k].mode<8))=c;cases jY l[k].id with
   |false=>rfl
   |true=>
    by_cases bR:l[k].id∈(l.map aG.id).take k
    ·simp only[bR,T1,afj,AT,aha,Xq];rfl
    ·simp only[bR,T1,afj,AT,aha,Xq];cases c<;>rfl
  ·unfold oR;dsimp only;rw[IN (by simp)];rfl
  ·have:=bk;omega
def wi(n a b:Int):Bool:=decide (n≥a)&&decide (n≤b)
theorem BC(n a b:Int):bO [.int .i64 n,.int .i64 a,.int .i64 b]=some (.bool (wi n a b)):=by simp only[bO,qv,asInt,T1,U,aY];rfl
theorem aaf(x:aF):cell x.pv 0=.str x.id:=rfl
theorem abR(x:aF):cell x.pv 1=.int .i64 x.rz:=rfl
theorem abS(x:aF):cell x.pv 2=.int .i64 x.cH:=rfl
theorem abT(x:aF):cell x.pv 3=.int .i64 x.gw:=rfl
theorem abU(x:aF):cell x.pv 4=.int .i64 x.eS:=rfl
theorem abV(x:aF):cell x.pv 5=.int .i64 x.bM:=rfl
def ub(x:aF):Bool:= !wi x.rz 0 1000000|| !wi x.cH 1 8|| !wi x.gw 1 16|| !wi x.eS 0 86400|| !wi x.bM 1 255
def Cb(l:List aF)(k:Nat):Int:=match l[k]? with
 |none=>0
 |some x=>if jY x.id=false then 12 else if x.id∈(l.map aF.id).take k then 6 else if ub x=true then 2 else 0
def dc(l:List aF)(bw within cap:Int):PV:=.agg [.rs 6 (l.map aF.pv),.int .i64 bw,.int .i64 within,.int .i64 cap]
def db(l:List aF)(bw within cap:Int):Int×Int:=if(!wi bw 0 1000000|| !wi within 0 86400|| !wi cap 0 1000000)=true then(-1,2)else if l.length>16 then(0,5)else bN (Cb l) l.length
theorem yz(l:List aF)(bw within cap:Int)(hl:l.length≤maxLen∧∀y∈l,y.Ok):dn [dc l bw within cap]=some (res (db l bw within cap).1 (db l bw within cap).2):=by
 have hm:=bf;simp only[dn,rZ,dc,asAgg,cell,PV.cells,agL,agH,agU,ahg,Nat.reduceAdd,aQ,asInt,asBool,T1,U,T0,BC,aZ];unfold db;generalize (!wi bw 0 1000000|| !wi within 0 86400|| !wi cap 0 1000000)=c;cases c with
 |true=>rfl
 |false=>
  simp only[AT,Xq];by_cases wW:l.length>16
  ·rw[BY (by simp;omega),BY wW];rfl
  ·rw[IN (by simp;omega),IN wW,←oc];refine bL (fun k=>(l.map aF.pv,(l.length:Int),(k:Int),seen PV.str ((l.map aF.id).take k),())) l.length _ (fun k hk rec=>?_) (fun rec=>?_) ?_ rfl
   ·have h1:(k:Int)<(l.length:Int):=by omega
    have an:=zr l[k].id (hl.2 _ (agQ hk)).id;have rQ:=od wP l[k].id ((l.map aF.id).take k);have sY:=lP wP l[k].id ((l.map aF.id).take k);simp only[nB,No,h1,T1,aV,IS,AS hk,adN,U,aaf,abR,abS,abT,abU,abV,cV,asInt,asBool,an,rQ,sY,BC,aZ,ah (show k<9223372036854775807 by omega),qG aF.id l k hk];unfold Cb;rw[AS hk];have hb:(!wi l[k].rz 0 1000000|| !wi l[k].cH 1 8|| !wi l[k].gw 1 16|| !wi l[k].eS 0 86400|| !wi l[k].bM 1 255)=ub l[k]:=rfl;simp only[hb];generalize ub l[k]=c;cases jY l[k].id with
    |false=>rfl
    |true=>
     by_cases bR:l[k].id∈(l.map aF.id).take k
     ·simp only[bR,T1,afj,AT,aha,Xq];rfl
     ·simp only[bR,T1,afj,AT,aha,Xq];cases c<;>rfl
   ·simp only[nB,No,ah6,Xq];rfl
   ·have:=bk;omega
theorem Yz(n a b:Int):bD [.int .i64 n,.int .i64 a,.int .i64 b]=some (.bool (wi n a b)):=D5 n a b
theorem JC(l:List aF)(hl:l.length≤maxLen)(d w c:Int)(i:Nat)(hi:i<l.length)(eU:Int×List PV×Int×Int×Int×Unit→Option PV):bx.run (mz eU) ((i:Int),0,l.map aF.pv,d,w,c,.str l[i].id,.int .i64 l[i].rz,.int .i64 l[i].cH,.int .i64 l[i].gw,.int .i64 l[i].eS,.int .i64 l[i].bM,())=if l[i].id∈(l.map aF.id).take i then some (res i 6)else if ub l[i]=true then some (res i 2)else eU (IntKind.i64.wrap ((i:Int)+1),l.map aF.pv,d,w,c,()):=by
 have hm:=bf;refine(sZ (fun k=>((i:Int),(k:Int),l.map aF.pv,d,w,c,PV.str l[i].id,PV.int .i64 l[i].rz,PV.int .i64 l[i].cH,PV.int .i64 l[i].gw,PV.int .i64 l[i].eS,PV.int .i64 l[i].bM,())) i (fun k=>decide ((l.map aF.id)[k]?=some l[i].id)) (no:=some (res i 6)) (fin:=if ub l[i]=true then some (res i 2)else eU (IntKind.i64.wrap ((i:Int)+1),l.map aF.pv,d,w,c,())) (fun k hk rec=>?_) (fun rec=>?_) ?_ rfl).trans ?_
 ·have h1:(k:Int)<(i:Int):=by omega
  have qd:k<l.length:=by omega
  simp only[mz,No,h1,T1,aV,IS,AS qd,adN,U,aaf,cV,ah (show k<9223372036854775807 by omega),fR,AI];rfl
 ·simp only[mz,No,ah6,Xq,U,asInt,T1,Yz,asBool,aZ];rfl
 ·have:=bk;omega
 ·rw[Cc _ _ (by simp;omega)];simp only[No]
theorem RI(l:List aF)(bw within cap:Int)(hl:l.length≤maxLen∧∀y∈l,y.Ok):kV [dc l bw within cap]=some (res (db l bw within cap).1 (db l bw within cap).2):=by
 have hm:=bf;simp only[kV,vk,dc,asAgg,cell,PV.cells,agL,agH,agU,ahg,Nat.reduceAdd,aQ,asInt,asBool,T1,U,T0,Yz,aZ];unfold db;generalize (!wi bw 0 1000000|| !wi within 0 86400|| !wi cap 0 1000000)=c;cases c with
 |true=>rfl
 |false=>
  simp only[AT,Xq];by_cases wW:l.length>16
  ·rw[BY (by simp;omega),BY wW];rfl
  ·rw[IN (by simp;omega),IN wW,←oc];refine bL (fun k=>((k:Int),l.map aF.pv,bw,within,cap,())) l.length _ (fun k hk rec=>?_) (fun rec=>?_) ?_ rfl
   ·have h1:(k:Int)<(l.length:Int):=by omega
    have an:=uc l[k].id (hl.2 _ (agQ hk)).id;have ov:=JC l hl.1 bw within cap k hk rec;simp only[qJ,No,T0,h1,T1,aV,IS,AS hk,adN,U,aaf,abR,abS,abT,abU,abV,cV,asBool,an,ov,ah (show k<9223372036854775807 by omega)];unfold Cb;rw[AS hk];simp only;generalize ub l[k]=c;cases jY l[k].id with
    |false=>rfl
    |true=>
     by_cases bR:l[k].id∈(l.map aF.id).take k
     ·simp only[bR,T1,afj,AT,aha,Xq];rfl
     ·simp only[bR,T1,afj,AT,aha,Xq];cases c<;>rfl
   ·simp only[qJ,No,T0,ah6,Xq];rfl
   ·have:=bk;omega
theorem P6(x:cK):cell x.pv 0=.int .i64 x.stop:=rfl
theorem YA(x:cK):cell x.pv 1=.int .i64 x.arr:=rfl
theorem P7(x:cK):cell x.pv 2=.int .i64 x.dep:=rfl
def JD(l:List cK):Nat→Option cK
 |0=>none
 |k+1=>l[k]?
def PN(c:cK)(p:Option cK)(stops low high:Int):Int:=
 if(decide (c.stop<0)||decide (c.stop≥stops))=true then 9
 else if(match p with|some p=>decide (p.stop=c.stop)|none=>false)=true then 13
 else if(decide (c.arr<low)||decide (c.arr>c.dep)||decide (c.dep>high)||(match p with|some p=>decide (c.arr<p.dep)|none=>false))=true then 10 else 0
def tV(l:List cK)(stops low high:Int)(k:Nat):Int:=match l[k]? with
 |none=>0
 |some c=>PN c (JD l k) stops low high
def iC(l:List cK)(stops low high:Int):Int×Int:=if(decide ((l.length:Int)<2)||decide ((l.length:Int)>32))=true then(0,5)else bN (tV l stops low high) l.length
theorem lN(j:Nat)(h:j<9223372036854775807):IntKind.i64.wrap (((j+1:Nat):Int)-1)=(j:Int):=by rw[br (by omega) (by omega)];omega
theorem JE(l:List cK)(stops low high:Int)(k:Nat)(hk:k<l.length)(hl:l.length≤maxLen):qK [.rs 5 (l.map cK.pv),.int .i64 k,.int .i64 stops,.int .i64 low,.int .i64 high]=some (.int .i64 (tV l stops low high k)):=by
 have hm:=bf;simp only[qK,DD,aQ,asInt,T1,U,aV,IS,AS hk,adN,P6,YA,P7,aZ];unfold tV PN;rw[AS hk];simp only;cases k with
 |zero=>
  have h0:decide (((0:Nat):Int)>0)=false:=by decide
  simp only[h0,cond_false,U,aZ,ain,JD];generalize (decide (l[0].stop<0)||decide (l[0].stop≥stops))=A;generalize (decide (l[0].arr<low)||decide (l[0].arr>l[0].dep)||decide (l[0].dep>high))=B;cases A<;>cases B<;>rfl
 |succ j=>
  have h0:decide (((j+1:Nat):Int)>0)=true:=by rw[No];omega
  have hj:j<l.length:=by omega
  simp only[h0,cond_true,U,lN j (by omega),aV,IS,AS hj,adN,P6,P7,asInt,T1,JD,fR,aZ];generalize (decide (l[j+1].stop<0)||decide (l[j+1].stop≥stops))=A;generalize (decide (l[j+1].arr<low)||decide (l[j+1].arr>l[j+1].dep)||decide (l[j+1].dep>high))=B;generalize decide (l[j].stop=l[j+1].stop)=C;generalize decide (l[j+1].arr<l[j].dep)=D;cases A<;>cases B<;>cases C<;>cases D<;>rfl
theorem RJ(l:List cK)(stops low high:Int)(hl:l.length≤maxLen):mA [.rs 5 (l.map cK.pv),.int .i64 stops,.int .i64 low,.int .i64 high]=some (res (iC l stops low high).1 (iC l stops low high).2):=by
 have hm:=bf;simp only[mA,yg,aQ,asInt,T1,U,T0,aZ];unfold iC;split
 ·rfl
 ·rw[←oc];refine bL (fun k=>(l.map cK.pv,stops,low,high,(l.length:Int),(k:Int),())) l.length _ (fun k hk rec=>?_) (fun rec=>?_) ?_ rfl
  ·have h1:(k:Int)<(l.length:Int):=by omega
   simp only[sg,No,h1,T1,JE l stops low high k hk hl,U,asInt,ah (show k<9223372036854775807 by omega),oZ];by_cases he:tV l stops low high k=0
   ·simp[he,JF,fS]
   ·simp[he,JF,fS,res]
  ·simp only[sg,No,ah6,Xq];rfl
  ·have:=bk;omega
theorem RK(l:List cK)(stops low high:Int)(hl:l.length≤maxLen):kW [.rs 5 (l.map cK.pv),.int .i64 stops,.int .i64 low,.int .i64 high]=some (.int .i64 (iC l stops low high).2):=by
 have hm:=bf;simp only[kW,vE,aQ,asInt,T1,U,T0,aZ];unfold iC;split
 ·rfl
 ·rw[←NU];refine bL (fun k=>(l.map cK.pv,stops,low,high,(k:Int),())) l.length _ (fun k hk rec=>?_) (fun rec=>?_) ?_ rfl
  ·have h1:(k:Int)<(l.length:Int):=by omega
   simp only[qL,No,T0,h1,T1,aV,IS,AS hk,adN,U,P6,YA,P7,asInt,aZ,ah (show k<9223372036854775807 by omega)];unfold tV PN;rw[AS hk];simp only;cases k with
   |zero=>
    have h0:decide (((0:Nat):Int)>0)=false:=by decide
    simp only[h0,cond_false,U,aZ,ain,JD];generalize (decide (l[0].stop<0)||decide (l[0].stop≥stops))=A;generalize (decide (l[0].arr<low)||decide (l[0].arr>l[0].dep)||decide (l[0].dep>high))=B;cases A<;>cases B<;>rfl
   |succ j=>
    have h0:decide (((j+1:Nat):Int)>0)=true:=by rw[No];omega
    have hj:j<l.length:=by omega
    have hc:decide (l[j+1].stop=l[j].stop)=decide (l[j].stop=l[j+1].stop):=by rw[agV];simp;exact eq_comm
    simp only[h0,cond_true,U,lN j (by omega),aV,IS,AS hj,adN,P6,P7,asInt,T1,JD,fR,aZ,hc];generalize (decide (l[j+1].stop<0)||decide (l[j+1].stop≥stops))=A;generalize (decide (l[j+1].arr<low)||decide (l[j+1].arr>l[j+1].dep)||decide (l[j+1].dep>high))=B;generalize decide (l[j].stop=l[j+1].stop)=C;generalize decide (l[j+1].arr<l[j].dep)=D;cases A<;>cases B<;>cases C<;>cases D<;>rfl
  ·simp only[qL,No,T0,ah6,Xq]
  ·have:=bk;omega
structure dH where
 AE:Int
 day:Int
 inst:Int
 id:Bytes
 ep:Int
 free:Bool
 Uc:Bool
 calls:List cK
 deriving DecidableEq
def dH.pv(x:dH):PV:=.agg [.int .i64 x.AE,.int .i64 x.day,.int .i64 x.inst,.str x.id,.int .i64 x.ep,.bool x.free,.bool x.Uc,.rs 5 (x.calls.map cK.pv)]
structure dH.jR(M:Nat)(x:dH):Prop where
 AE:lT x.AE
 day:lT x.day
 inst:lT x.inst
 id:x.id.length≤M
 ep:lT x.ep
 calls:x.calls.length≤M∧∀y∈x.calls,y.jR M
abbrev dH.Ok(x:dH):Prop:=x.jR maxLen
theorem tW(x:dH):cell x.pv 0=.int .i64 x.AE:=rfl
theorem aag(x:dH):cell x.pv 1=.int .i64 x.day:=rfl
theorem aah(x:dH):cell x.pv 2=.int .i64 x.inst:=rfl
theorem aai(x:dH):cell x.pv 3=.str x.id:=rfl
theorem Jd(x:dH):cell x.pv 4=.int .i64 x.ep:=rfl
theorem Z0(x:dH):cell x.pv 5=.bool x.free:=rfl
theorem Z1(x:dH):cell x.pv 6=.bool x.Uc:=rfl
theorem zn(x:dH):cell x.pv 7=.rs 5 (x.calls.map cK.pv):=rfl
structure bh where
 a:Int
 ac:Int
 b:Int
 bc:Int
 stay:Bool
 deriving DecidableEq
def bh.pv(x:bh):PV:=.agg [.int .i64 x.a,.int .i64 x.ac,.int .i64 x.b,.int .i64 x.bc,.bool x.stay]
structure bh.jR(M:Nat)(x:bh):Prop where
 a:lT x.a
 ac:lT x.ac
 b:lT x.b
 bc:lT x.bc
abbrev bh.Ok(x:bh):Prop:=x.jR maxLen
theorem DO(x:bh):cell x.pv 0=.int .i64 x.a:=rfl
theorem Je(x:bh):cell x.pv 1=.int .i64 x.ac:=rfl
theorem link2(x:bh):cell x.pv 2=.int .i64 x.b:=rfl
theorem Jf(x:bh):cell x.pv 3=.int .i64 x.bc:=rfl
theorem F4(x:bh):cell x.pv 4=.bool x.stay:=rfl
theorem DL(x:Path):cell x.pv 0=.int .i64 x.a:=rfl
theorem DM(x:Path):cell x.pv 1=.int .i64 x.b:=rfl
theorem F1(x:Path):cell x.pv 2=.int .i64 x.eS:=rfl
theorem DN(x:Path):cell x.pv 3=.bool x.free:=rfl
structure ai where
 stops:List Stop
 av:List aG
 runs:List dH
 aL:List bh
 paths:List Path
 aT:List aF
 bw:Int
 within:Int
 cap:Int
 deriving DecidableEq
def ai.pv(x:ai):PV:=.agg [.rs 4 (x.stops.map Stop.pv),.rs 3 (x.av.map aG.pv),.rs 8 (x.runs.map dH.pv),.rs 5 (x.aL.map bh.pv),.rs 4 (x.paths.map Path.pv),.rs 6 (x.aT.map aF.pv),.int .i64 x.bw,.int .i64 x.within,.int .i64 x.cap]
structure ai.jR(M:Nat)(x:ai):Prop where
 stops:x.stops.length≤M∧∀y∈x.stops,y.jR M
 av:x.av.length≤M∧∀y∈x.av,y.jR M
 runs:x.runs.length≤M∧∀y∈x.runs,y.jR M
 aL:x.aL.length≤M∧∀y∈x.aL,y.jR M
 paths:x.paths.length≤M∧∀y∈x.paths,y.jR M
 aT:x.aT.length≤M∧∀y∈x.aT,y.jR M
 bw:lT x.bw
 within:lT x.within
 cap:lT x.cap
abbrev ai.Ok(x:ai):Prop:=x.jR maxLen
theorem jr(x:ai):asAgg 9 x.pv=some ():=rfl
theorem js(x:ai):aQ 4 (cell x.pv 0)=some (x.stops.map Stop.pv):=rfl
theorem jt(x:ai):aQ 3 (cell x.pv 1)=some (x.av.map aG.pv):=rfl
theorem ju(x:ai):aQ 8 (cell x.pv 2)=some (x.runs.map dH.pv):=rfl
theorem jw(x:ai):aQ 5 (cell x.pv 3)=some (x.aL.map bh.pv):=rfl
theorem jx(x:ai):aQ 4 (cell x.pv 4)=some (x.paths.map Path.pv):=rfl
theorem jy(x:ai):aQ 6 (cell x.pv 5)=some (x.aT.map aF.pv):=rfl
theorem jz(x:ai):asInt .i64 (cell x.pv 6)=some x.bw:=rfl
theorem jB(x:ai):asInt .i64 (cell x.pv 7)=some x.within:=rfl
theorem jC(x:ai):asInt .i64 (cell x.pv 8)=some x.cap:=rfl
theorem nY(x:ai):PV.agg [.rs 4 (x.stops.map Stop.pv),.rs 3 (x.av.map aG.pv),.rs 8 (x.runs.map dH.pv),.rs 5 (x.aL.map bh.pv),.rs 4 (x.paths.map Path.pv),.rs 6 (x.aT.map aF.pv),.int .i64 x.bw,.int .i64 x.within,.int .i64 x.cap]=x.pv:=rfl
def r3(p i e:Int):PV:=.agg [.int .i64 p,.int .i64 i,.int .i64 e]
def prt(p:Int)(x:Int×Int):PV:=if x.2=0 then r3 0 0 0 else r3 p x.1 x.2
theorem P8(p i e:Int):asAgg 3 (r3 p i e)=some ():=rfl
theorem s8(p i e:Int):cell (r3 p i e) 0=.int .i64 p:=rfl
theorem zK(p i e:Int):cell (r3 p i e) 1=.int .i64 i:=rfl
theorem D7(p i e:Int):cell (r3 p i e) 2=.int .i64 e:=rfl
theorem D8(p i e:Int):ba [.int .i64 p,.int .i64 i,.int .i64 e]=some (r3 p i e):=rfl
theorem yA(n m:Int):cz [.int .i64 n,.int .i64 m]=some (.bool (decide (n≥0)&&decide (n<m))):=by simp only[cz,qt,asInt,T1,U,aY]
variable{R:Type}
theorem iY(f:Nat→Int)(n:Nat)(g:Int→Int→R)(fin:Option R):fS ((List.range n).findSome? fun k=>if f k=0 then none else some (some (g k (f k)))) fin=if(bN f n).2=0 then fin else some (g (bN f n).1 (bN f n).2):=by
 unfold bN;have:(List.range n).findSome? (fun k=>if f k=0 then none else some (some (g k (f k))))=((List.range n).findSome? (fun k=>if f k=0 then none else some ((k:Int),f k))).map fun x=>some (g x.1 x.2):=by rw[ai9];congr 1;funext k;by_cases h:f k=0<;>simp[h]
 rw[this];cases hf:(List.range n).findSome? (fun k=>if f k=0 then none else some ((k:Int),f k))with
 |none=>rfl
 |some x=>
  obtain⟨k,_,hk⟩:=ahN hf;have hx:x.2≠0:=by
   by_cases h0:f k=0
   ·rw[BY h0]at hk;cases hk
   ·rw[IN h0]at hk;simp only[AI]at hk;subst hk;exact h0
  simp only[adN,fS];rw[IN hx]
theorem nm(f:Nat→Int)(n:Nat):(bN f n).2=0↔∀k,k<n→f k=0:=by
 unfold bN;cases hf:(List.range n).findSome? (fun k=>if f k=0 then none else some ((k:Int),f k))with
 |none=>
  simp only[true_iff];intro k hk;rw[ahP]at hf;have:=hf k (by simpa using hk);by_cases h0:f k=0
  ·exact h0
  ·rw[IN h0]at this;cases this
 |some x=>
  obtain⟨k,hk,hx⟩:=ahN hf;by_cases h0:f k=0
  ·rw[BY h0]at hx;cases hx
  ·rw[IN h0]at hx;simp only[AI]at hx;subst hx;exact⟨fun h=>absurd h h0,fun h=>absurd (h k (by simpa using hk)) h0⟩
theorem xy{S:Type}{body:S→(S→Option R)→Option R}(st:Nat→S)(n:Nat)(bad:Nat→Option (Option R)){fin:Option R}(h:∀k,k<n→(∀j,j<k→bad j=none)→∀rec,body (st k) rec=fS (bad k) (rec (st (k+1))))(mZ:(∀j,j<n→bad j=none)→∀rec,body (st n) rec=fin)(hn:n<rounds){s0:S}(h0:st 0=s0):bx.run body s0=fS ((List.range n).findSome? bad) fin:=by
 by_cases EH:∀j,j<n→bad j=none
 ·have:(List.range n).findSome? bad=none:=by rw[ahP];intro k hk;exact EH k (by simpa using hk)
  rw[this];refine bT st n (fun k hk rec=>?_) (mZ EH) hn h0;rw[h k hk (fun j hj=>EH j (by omega)),EH k hk];rfl
 ·have hex:∃m,m<n∧bad m≠none∧∀j,j<m→bad j=none:=by
   have key:∀m,(∃i,i<m∧i<n∧bad i≠none)→∃m,m<n∧bad m≠none∧∀j,j<m→bad j=none:=by
    intro m;induction m with
    |zero=>rintro⟨i,hi,_⟩;omega
    |succ m ih=>
     intro hi;by_cases hc:∃i,i<m∧i<n∧bad i≠none
     ·exact ih hc
     ·obtain⟨i,h1,h2,h3⟩:=hi;have him:i=m:=by
       by_cases h:i<m
       ·exact absurd ⟨i,h,h2,h3⟩ hc
       ·omega
      subst him;refine⟨i,h2,h3,fun j hj=>?_⟩;cases hb:bad j with
      |none=>rfl
      |some x=>exact absurd ⟨j,hj,by omega,by rw[hb];exact fun h=>nomatch h⟩ hc
   have hc:∃i,i<n∧bad i≠none:=by
    by_cases hc:∃i,i<n∧bad i≠none
    ·exact hc
    ·refine absurd (fun j hj=>?_) EH;cases hb:bad j with
     |none=>rfl
     |some x=>exact absurd ⟨j,hj,by rw[hb];exact fun h=>nomatch h⟩ hc
   obtain⟨i,h1,h2⟩:=hc;exact key n ⟨i,h1,h1,h2⟩
  obtain⟨m,hm,hb,bS⟩:=hex;cases hbm:bad m with
  |none=>exact absurd hbm hb
  |some x=>
   have hf:(List.range n).findSome? bad=some x:=by
    have hnm:n=m+(n-m):=by omega
    rw[hnm,List.range_add,List.findSome?_append];have h1:(List.range m).findSome? bad=none:=by rw[ahP];intro k hk;exact bS k (by simpa using hk)
    rw[h1,Option.none_or];have hd:n-m=(n-m-1)+1:=by omega
    rw[hd,ait,agP,ahU,ahL,hbm]
   rw[hf];refine bT st m (fun k hk rec=>?_) (fun rec=>?_) (by omega) h0
   ·rw[h k (by omega) (fun j hj=>bS j (by omega)),bS k hk];rfl
   ·rw[h m hm bS,hbm];rfl
theorem P9{A:Type}[DecidableEq A](a b:List A)(h:a.length=b.length)(no fin:Option R):fS ((List.range a.length).findSome? fun k=>if a[k]?=b[k]? then none else some no) fin=if a=b then fin else no:=by
 by_cases sl:a=b
 ·rw[BY sl];have:(List.range a.length).findSome? (fun k=>if a[k]?=b[k]? then none else some no)=none:=by rw[ahP];intro k _;rw[BY (by rw[sl])]
  rw[this];rfl
 ·rw[IN sl];cases hf:(List.range a.length).findSome? (fun k=>if a[k]?=b[k]? then none else some no)with
  |none=>
   refine absurd (ag5 fun k=>?_) sl;rw[ahP]at hf;by_cases hk:k<a.length
   ·have:=hf k (by simpa using hk);by_cases h0:a[k]?=b[k]?
    ·exact h0
    ·rw[IN h0]at this;cases this
   ·rw[afi (by omega),afi (by omega)]
  |some x=>
   obtain⟨k,hk,hx⟩:=ahN hf;by_cases h0:a[k]?=b[k]?
   ·rw[BY h0]at hx;cases hx
   ·rw[IN h0]at hx;simp only[AI]at hx;subst hx;rfl
end Go.Ab.Tt
