import Derived.Test.YtmbihgjlollbeaaGreatTtChk0
import Derived.Test.YtmbihgjlollbeaaGreatSh6
namespace Go.Ab.Tt
set_option maxRecDepth 100000
set_option linter.unusedVariables false
theorem Aa(s:Bytes)(hs:s.length≤maxLen):dG [.str s]=some (.bool (ic s)):=by
 have hm:=bI;simp only[dG,vS,aG,U];refine(EA s hs lA (some (.bool false)) (some (.bool (decide ((s.length:Int)>0)&&decide ((s.length:Int)≤32)))) (fun k hk rec=>?_) (fun rec=>?_)).trans ?_
 ·have h1:(k:Int)<(s.length:Int):=by omega
  simp only[qC,IL,h1,IS,KK,cO hk,U,ig,aO (show k<9223372036854775807 by omega),gE];generalize s[k]=b;unfold lA;generalize (decide (97≤(b.toNat:Int))&&decide ((b.toNat:Int)≤122))=x1;generalize (decide (65≤(b.toNat:Int))&&decide ((b.toNat:Int)≤90))=x2;generalize (decide (48≤(b.toNat:Int))&&decide ((b.toNat:Int)≤57))=x3;by_cases e4:(b.toNat:Int)=45<;>by_cases e5:(b.toNat:Int)=95<;>by_cases e6:(b.toNat:Int)=46<;>cases x1<;>cases x2<;>cases x3<;>simp[e4,e5,e6]
 ·simp only[qC,IL,ajJ,T1,ig,U]
 ·unfold ic;cases s.all lA with
  |true=>simp only[IS,akb,cN,PV.bool.injEq];rw[aiN];simp only[No,IL];omega
  |false=>simp
theorem SL{body:Bytes×Int×Unit→(Bytes×Int×Unit→Option PV)→Option PV}(s:Bytes)(hs:s.length≤maxLen)(h:∀k,(hk:k<s.length)→∀rec,body (s,(k:Int),()) rec=if lA s[k]then rec (s,((k+1:Nat):Int),())else some (.bool false))(uT:∀rec,body (s,(s.length:Int),()) rec=some (.bool true)){c:Bool}(hc:c= !(decide (1≤s.length)&&decide (s.length≤32))):(if c=true then some (.bool false)else bl.run body (s,0,()))=some (.bool (ic s)):=by rw[EA s hs lA _ _ h uT,hc];unfold ic;cases s.all lA<;>cases(decide (1≤s.length)&&decide (s.length≤32))<;>rfl
theorem tV(s:Bytes)(hs:s.length≤maxLen):dQ [.str s]=some (.bool (ic s)):=by
 have hm:=bI;simp only[dQ,si,aG,U,cu];refine SL s hs (fun k hk rec=>?_) (fun rec=>?_) ?_
 ·have h1:(k:Int)<(s.length:Int):=by omega
  simp only[nb,IL,h1,IS,KK,cO hk,U,ig,cu,aO (show k<9223372036854775807 by omega),nR];generalize s[k]=b;unfold lA;simp only[ge_iff_le];generalize (decide (97≤(b.toNat:Int))&&decide ((b.toNat:Int)≤122))=x1;generalize (decide (65≤(b.toNat:Int))&&decide ((b.toNat:Int)≤90))=x2;generalize (decide (48≤(b.toNat:Int))&&decide ((b.toNat:Int)≤57))=x3;by_cases e4:(b.toNat:Int)=45<;>by_cases e5:(b.toNat:Int)=95<;>by_cases e6:(b.toNat:Int)=46<;>cases x1<;>cases x2<;>cases x3<;>simp[e4,e5,e6]
 ·simp only[nb,IL,ajJ,T1]
 ·rw[aiN];simp only[gE,aiI,aiT,ajn,IL,aiQ];omega
def zS(l:List Stop)(k:Nat):Int:=match l[k]? with
 |none=>0
 |some x=>if ic x.id=false then 12 else if x.id∈(l.map Stop.id).take k then 6 else if(decide (x.s5<0)||decide (x.s5≥16)||decide (x.change<0)||decide (x.change>3600))=true then 2 else 0
def fX(l:List Stop):Int×Int:=if l.length>64 then(0,5)else bL (zS l) l.length
theorem SM(l:List Stop)(hl:l.length≤maxLen∧∀y∈l,y.Ok):jF [.rs 4 (l.map Stop.pv)]=some (res (fX l).1 (fX l).2):=by
 have hm:=bI;simp only[jF,yH,ay,IS,U,ahj];unfold fX;by_cases vf:l.length>64
 ·rw[AI (by simp;omega),AI vf];rfl
 ·rw[By (by simp;omega),By vf,←nU];refine bK (fun k=>(l.map Stop.pv,(l.length:Int),(k:Int),seen PV.str ((l.map Stop.id).take k),())) l.length _ (fun k hk rec=>?_) (fun rec=>?_) ?_ rfl
  ·have h1:(k:Int)<(l.length:Int):=by omega
   have hid:=Aa l[k].id (hl.2 _ (aiZ hk)).id;have rY:=nV wZ l[k].id ((l.map Stop.id).take k);have s9:=lB wZ l[k].id ((l.map Stop.id).take k);simp only[sj,IL,h1,IS,aU,GP,cO hk,aff,U,Stop.pv,cell,PV.cells,ai6,ai5,aG,asInt,asBool,hid,rY,s9,cu,aO (show k<9223372036854775807 by omega),qD Stop.id l k hk];unfold zS;rw[cO hk];simp only;generalize (decide (l[k].s5<0)||decide (l[k].s5≥16)||decide (l[k].change<0)||decide (l[k].change>3600))=c;cases ic l[k].id with
   |false=>rfl
   |true=>
    by_cases bQ:l[k].id∈(l.map Stop.id).take k
    ·simp only[bQ,IS,aiK,cT,ai3,T1];rfl
    ·simp only[bQ,IS,aiK,cT,ai3,T1];cases c<;>rfl
  ·simp only[sj,IL,ajJ,T1];rfl
  ·have:=bp;omega
set_option linter.unusedSimpArgs false
theorem EB(n a b:Int):bD [.int .i64 n,.int .i64 a,.int .i64 b]=some (.bool (decide (n≥a)&&decide (n≤b))):=by simp only[bD,Ep,asInt,IS,U,ig]
theorem Is(x:Stop):cell x.pv 0=.str x.id:=rfl
theorem X0(x:Stop):cell x.pv 1=.int .i64 x.s5:=rfl
theorem X6(x:Stop):cell x.pv 3=.int .i64 x.change:=rfl
theorem KL{R:Type}(ids:List Bytes)(i:Nat)(hi:i<ids.length)(no fin:Option R):fK ((List.range i).findSome? fun k=>if decide (ids[k]?=some ids[i])=true then some no else none) fin=if ids[i]∈ids.take i then no else fin:=by
 rw[Cd (fun k=>decide (ids[k]?=some ids[i])) (fun _=>no)];cases hf:(List.range i).find? fun k=>decide (ids[k]?=some ids[i])with
 |none=>
  have hn:ids[i]∉ids.take i:=fun bQ=>by
   obtain⟨j,hj⟩:=ajd.1 bQ;have Sb:j<i:=by have:=(AT.1 hj).1;simp at this;omega
   rw[ajb Sb]at hj;rw[List.find?_eq_none]at hf;exact hf j (by simpa using Sb) (by simpa using hj)
  rw[By hn];rfl
 |some j=>rw[List.find?_range_eq_some]at hf;obtain⟨h1,h2,_⟩:=hf;have bQ:ids[i]∈ids.take i:=ajd.2 ⟨j,by rw[ajb (by simpa using h2)];simpa using h1⟩;rw[AI bQ];rfl
theorem KM(l:List Stop)(hl:l.length≤maxLen)(i:Nat)(hi:i<l.length)(er:List PV×Int×Unit→Option PV):bl.run (mb er) (l.map Stop.pv,(i:Int),0,())=if(l.map Stop.id)[i]'(by simpa using hi)∈(l.map Stop.id).take i then some (res i 6)else if(decide (l[i].s5<0)||decide (l[i].s5≥16)||decide (l[i].change<0)||decide (l[i].change>3600))=true then some (res i 2)else er (l.map Stop.pv,IntKind.i64.wrap ((i:Int)+1),()):=by
 have hm:=bI;have UM:(l.map Stop.pv)[i]?=some l[i].pv:=by rw[GP,cO hi];rfl
 have Tx:i<(l.map Stop.id).length:=by simpa using hi
 have aaI:(l.map Stop.id)[i]=l[i].id:=by simp
 rw[←KL (l.map Stop.id) i Tx];refine bK (fun k=>(l.map Stop.pv,(i:Int),(k:Int),())) i (fun k=>if decide ((l.map Stop.id)[k]?=some (l.map Stop.id)[i])=true then some (some (res i 6))else none) (fun k hk rec=>?_) (fun rec=>?_) ?_ rfl
 ·have h1:decide ((k:Int)<(i:Int))=true:=by simp;omega
  have pX:k<l.length:=by omega
  have hgk:(l.map Stop.pv)[k]?=some l[k].pv:=by rw[GP,cO pX];rfl
  have hdk:decide ((l.map Stop.id)[k]?=some (l.map Stop.id)[i])=decide (l[k].id=l[i].id):=by rw[GP,cO pX,aaI];simp
  unfold mb;dsimp only;rw[AI h1,aU,hgk,U,Is,aU,UM,aO (by omega),hdk];simp only[aG,U,Is,gE];cases decide (l[k].id=l[i].id)<;>rfl
 ·unfold mb;dsimp only;rw[By (by simp),aU,UM];simp only[U,X0,X6,asInt,IS,EB,asBool,cu];have:(!(decide (l[i].s5≥0)&&decide (l[i].s5≤15))|| !(decide (l[i].change≥0)&&decide (l[i].change≤3600)))=(decide (l[i].s5<0)||decide (l[i].s5≥16)||decide (l[i].change<0)||decide (l[i].change>3600)):=by rw[aiN];simp only[aiI,aiT,ajn,IL,aiQ];omega
  rw[this];cases(decide (l[i].s5<0)||decide (l[i].s5≥16)||decide (l[i].change<0)||decide (l[i].change>3600))<;>rfl
 ·have:=bp;omega
theorem SN(l:List Stop)(hl:l.length≤maxLen∧∀y∈l,y.Ok):kr [.rs 4 (l.map Stop.pv)]=some (res (fX l).1 (fX l).2):=by
 have hm:=bI;simp only[kr,wg,ay,IS,U,ahj];unfold fX;by_cases vf:l.length>64
 ·rw[AI (by simp;omega),AI vf];rfl
 ·rw[By (by simp;omega),By vf,←nU];refine bK (fun k=>(l.map Stop.pv,(k:Int),())) l.length _ (fun k hk rec=>?_) (fun rec=>?_) ?_ rfl
  ·have h1:decide ((k:Int)<((l.map Stop.pv).length:Int))=true:=by simp;omega
   have hgk:(l.map Stop.pv)[k]?=some l[k].pv:=by rw[GP,cO hk];rfl
   have hid:=tV l[k].id (hl.2 _ (aiZ hk)).id;have aaJ:(l.map Stop.id)[k]'(by simpa using hk)=l[k].id:=by simp
   unfold qE;dsimp only;rw[AI h1,aU,hgk,U,Is];simp only[aG,U,hid,asBool];rw[KM l hl.1 k hk rec,aaJ,aO (by omega)];unfold zS;rw[cO hk];simp only;generalize (decide (l[k].s5<0)||decide (l[k].s5≥16)||decide (l[k].change<0)||decide (l[k].change>3600))=c;cases ic l[k].id with
   |false=>rfl
   |true=>
    by_cases bQ:l[k].id∈(l.map Stop.id).take k
    ·simp only[bQ,IS,aiK,cT,ai3,T1];rfl
    ·simp only[bQ,IS,aiK,cT,ai3,T1];cases c<;>rfl
  ·unfold qE;dsimp only;rw[By (by simp)];rfl
  ·have:=bp;omega
theorem EC(x:aV):cell x.pv 0=.str x.id:=rfl
theorem VF(x:aV):cell x.pv 1=.int .i64 x.mode:=rfl
def zZ(l:List aV)(k:Nat):Int:=match l[k]? with
 |none=>0
 |some x=>if ic x.id=false then 12 else if x.id∈(l.map aV.id).take k then 6 else if(decide (x.mode≥0)&&decide (x.mode<8))=false then 2 else 0
def fZ(l:List aV):Int×Int:=if l.length>64 then(0,5)else bL (zZ l) l.length
theorem Pb(l:List aV)(hl:l.length≤maxLen∧∀y∈l,y.Ok):iD [.rs 3 (l.map aV.pv)]=some (res (fZ l).1 (fZ l).2):=by
 have hm:=bI;simp only[iD,vY,ay,IS,U,ahj];unfold fZ;by_cases vf:l.length>64
 ·rw[AI (by simp;omega),AI vf];rfl
 ·rw[By (by simp;omega),By vf,←nU];refine bK (fun k=>(l.map aV.pv,(l.length:Int),(k:Int),seen PV.str ((l.map aV.id).take k),())) l.length _ (fun k hk rec=>?_) (fun rec=>?_) ?_ rfl
  ·have h1:(k:Int)<(l.length:Int):=by omega
   have hid:=Aa l[k].id (hl.2 _ (aiZ hk)).id;have rY:=nV wZ l[k].id ((l.map aV.id).take k);have s9:=lB wZ l[k].id ((l.map aV.id).take k);simp only[qF,IL,h1,IS,aU,GP,cO hk,aff,U,aV.pv,cell,PV.cells,ai6,ai5,aG,asInt,asBool,hid,rY,s9,cu,aO (show k<9223372036854775807 by omega),qD aV.id l k hk,nE,vV,ig];unfold zZ;rw[cO hk];simp only;generalize (decide (l[k].mode≥0)&&decide (l[k].mode<8))=c;cases ic l[k].id with
   |false=>rfl
   |true=>
    by_cases bQ:l[k].id∈(l.map aV.id).take k
    ·simp only[bQ,IS,aiK,cT,ai3,T1];rfl
    ·simp only[bQ,IS,aiK,cT,ai3,T1];cases c<;>rfl
  ·simp only[qF,IL,ajJ,T1];rfl
  ·have:=bp;omega
theorem It(l:List aV)(hl:l.length≤maxLen)(i:Nat)(hi:i<l.length)(er:List PV×Int×Unit→Option PV):bl.run (kG er) (l.map aV.pv,(i:Int),0,())=if(l.map aV.id)[i]'(by simpa using hi)∈(l.map aV.id).take i then some (res i 6)else if(decide (l[i].mode≥0)&&decide (l[i].mode<8))=false then some (res i 2)else er (l.map aV.pv,IntKind.i64.wrap ((i:Int)+1),()):=by
 have hm:=bI;have UM:(l.map aV.pv)[i]?=some l[i].pv:=by rw[GP,cO hi];rfl
 have Tx:i<(l.map aV.id).length:=by simpa using hi
 have aaI:(l.map aV.id)[i]=l[i].id:=by simp
 rw[←KL (l.map aV.id) i Tx];refine bK (fun k=>(l.map aV.pv,(i:Int),(k:Int),())) i (fun k=>if decide ((l.map aV.id)[k]?=some (l.map aV.id)[i])=true then some (some (res i 6))else none) (fun k hk rec=>?_) (fun rec=>?_) ?_ rfl
 ·have h1:decide ((k:Int)<(i:Int))=true:=by simp;omega
  have pX:k<l.length:=by omega
  have hgk:(l.map aV.pv)[k]?=some l[k].pv:=by rw[GP,cO pX];rfl
  have hdk:decide ((l.map aV.id)[k]?=some (l.map aV.id)[i])=decide (l[k].id=l[i].id):=by rw[GP,cO pX,aaI];simp
  unfold kG;dsimp only;rw[AI h1,aU,hgk,U,EC,aU,UM,aO (by omega),hdk];simp only[aG,U,EC,gE];cases decide (l[k].id=l[i].id)<;>rfl
 ·unfold kG;dsimp only;rw[By (by simp),aU,UM];simp only[U,VF,asInt,IS,EB,asBool];have:(decide (l[i].mode≥0)&&decide (l[i].mode≤7))=(decide (l[i].mode≥0)&&decide (l[i].mode<8)):=by rw[aiN];simp only[No,IL];omega
  rw[this];cases(decide (l[i].mode≥0)&&decide (l[i].mode<8))<;>rfl
 ·have:=bp;omega
theorem Pc(l:List aV)(hl:l.length≤maxLen∧∀y∈l,y.Ok):jr [.rs 3 (l.map aV.pv)]=some (res (fZ l).1 (fZ l).2):=by
 have hm:=bI;simp only[jr,tT,ay,IS,U,ahj];unfold fZ;by_cases vf:l.length>64
 ·rw[AI (by simp;omega),AI vf];rfl
 ·rw[By (by simp;omega),By vf,←nU];refine bK (fun k=>(l.map aV.pv,(k:Int),())) l.length _ (fun k hk rec=>?_) (fun rec=>?_) ?_ rfl
  ·have h1:decide ((k:Int)<((l.map aV.pv).length:Int))=true:=by simp;omega
   have hgk:(l.map aV.pv)[k]?=some l[k].pv:=by rw[GP,cO hk];rfl
   have hid:=tV l[k].id (hl.2 _ (aiZ hk)).id;have aaJ:(l.map aV.id)[k]'(by simpa using hk)=l[k].id:=by simp
   unfold oA;dsimp only;rw[AI h1,aU,hgk,U,EC];simp only[aG,U,hid,asBool];rw[It l hl.1 k hk rec,aaJ,aO (by omega)];unfold zZ;rw[cO hk];simp only;generalize (decide (l[k].mode≥0)&&decide (l[k].mode<8))=c;cases ic l[k].id with
   |false=>rfl
   |true=>
    by_cases bQ:l[k].id∈(l.map aV.id).take k
    ·simp only[bQ,IS,aiK,cT,ai3,T1];rfl
    ·simp only[bQ,IS,aiK,cT,ai3,T1];cases c<;>rfl
  ·unfold oA;dsimp only;rw[By (by simp)];rfl
  ·have:=bp;omega
def wi(n a b:Int):Bool:=decide (n≥a)&&decide (n≤b)
theorem Ce(n a b:Int):bM [.int .i64 n,.int .i64 a,.int .i64 b]=some (.bool (wi n a b)):=by simp only[bM,qB,asInt,IS,U,ig];rfl
theorem aaK(x:bJ):cell x.pv 0=.str x.id:=rfl
theorem adm(x:bJ):cell x.pv 1=.int .i64 x.uy:=rfl
theorem adn(x:bJ):cell x.pv 2=.int .i64 x.nQ:=rfl
theorem ado(x:bJ):cell x.pv 3=.int .i64 x.Cf:=rfl
theorem adp(x:bJ):cell x.pv 4=.int .i64 x.js:=rfl
theorem adq(x:bJ):cell x.pv 5=.int .i64 x.uO:=rfl
def w7(x:bJ):Bool:= !wi x.uy 0 1000000|| !wi x.nQ 1 8|| !wi x.Cf 1 16|| !wi x.js 0 86400|| !wi x.uO 1 255
def CQ(l:List bJ)(k:Nat):Int:=match l[k]? with
 |none=>0
 |some x=>if ic x.id=false then 12 else if x.id∈(l.map bJ.id).take k then 6 else if w7 x=true then 2 else 0
def w8(l:List bJ)(bY within cap:Int):PV:=.agg [.rs 6 (l.map bJ.pv),.int .i64 bY,.int .i64 within,.int .i64 cap]
def dJ(l:List bJ)(bY within cap:Int):Int×Int:=if(!wi bY 0 1000000|| !wi within 0 86400|| !wi cap 0 1000000)=true then(-1,2)else if l.length>16 then(0,5)else bL (CQ l) l.length
theorem Pd(l:List bJ)(bY within cap:Int)(hl:l.length≤maxLen∧∀y∈l,y.Ok):cS [w8 l bY within cap]=some (res (dJ l bY within cap).1 (dJ l bY within cap).2):=by
 have hm:=bI;simp only[cS,sc,w8,asAgg,cell,PV.cells,ai6,ai5,aiV,aji,Nat.reduceAdd,ay,asInt,asBool,IS,U,ahj,Ce,cu];unfold dJ;generalize (!wi bY 0 1000000|| !wi within 0 86400|| !wi cap 0 1000000)=c;cases c with
 |true=>rfl
 |false=>
  simp only[cT,T1];by_cases vf:l.length>16
  ·rw[AI (by simp;omega),AI vf];rfl
  ·rw[By (by simp;omega),By vf,←nU];refine bK (fun k=>(l.map bJ.pv,(l.length:Int),(k:Int),seen PV.str ((l.map bJ.id).take k),())) l.length _ (fun k hk rec=>?_) (fun rec=>?_) ?_ rfl
   ·have h1:(k:Int)<(l.length:Int):=by omega
    have hid:=Aa l[k].id (hl.2 _ (aiZ hk)).id;have rY:=nV wZ l[k].id ((l.map bJ.id).take k);have s9:=lB wZ l[k].id ((l.map bJ.id).take k);simp only[nc,IL,h1,IS,aU,GP,cO hk,aff,U,aaK,adm,adn,ado,adp,adq,aG,asInt,asBool,hid,rY,s9,Ce,cu,aO (show k<9223372036854775807 by omega),qD bJ.id l k hk];unfold CQ;rw[cO hk];have hb:(!wi l[k].uy 0 1000000|| !wi l[k].nQ 1 8|| !wi l[k].Cf 1 16|| !wi l[k].js 0 86400|| !wi l[k].uO 1 255)=w7 l[k]:=rfl;simp only[hb];generalize w7 l[k]=c;cases ic l[k].id with
    |false=>rfl
    |true=>
     by_cases bQ:l[k].id∈(l.map bJ.id).take k
     ·simp only[bQ,IS,aiK,cT,ai3,T1];rfl
     ·simp only[bQ,IS,aiK,cT,ai3,T1];cases c<;>rfl
   ·simp only[nc,IL,ajJ,T1];rfl
   ·have:=bp;omega
theorem Zx(n a b:Int):bD [.int .i64 n,.int .i64 a,.int .i64 b]=some (.bool (wi n a b)):=EB n a b
theorem KN(l:List bJ)(hl:l.length≤maxLen)(d w c:Int)(i:Nat)(hi:i<l.length)(er:Int×List PV×Int×Int×Int×Unit→Option PV):bl.run (mc er) ((i:Int),0,l.map bJ.pv,d,w,c,.str l[i].id,.int .i64 l[i].uy,.int .i64 l[i].nQ,.int .i64 l[i].Cf,.int .i64 l[i].js,.int .i64 l[i].uO,())=if l[i].id∈(l.map bJ.id).take i then some (res i 6)else if w7 l[i]=true then some (res i 2)else er (IntKind.i64.wrap ((i:Int)+1),l.map bJ.pv,d,w,c,()):=by
 have hm:=bI;refine(ta (fun k=>((i:Int),(k:Int),l.map bJ.pv,d,w,c,PV.str l[i].id,PV.int .i64 l[i].uy,PV.int .i64 l[i].nQ,PV.int .i64 l[i].Cf,PV.int .i64 l[i].js,PV.int .i64 l[i].uO,())) i (fun k=>decide ((l.map bJ.id)[k]?=some l[i].id)) (no:=some (res i 6)) (fin:=if w7 l[i]=true then some (res i 2)else er (IntKind.i64.wrap ((i:Int)+1),l.map bJ.pv,d,w,c,())) (fun k hk rec=>?_) (fun rec=>?_) ?_ rfl).trans ?_
 ·have h1:(k:Int)<(i:Int):=by omega
  have pX:k<l.length:=by omega
  simp only[mc,IL,h1,IS,aU,GP,cO pX,aff,U,aaK,aG,aO (show k<9223372036854775807 by omega),gE,cN];rfl
 ·simp only[mc,IL,ajJ,T1,U,asInt,IS,Zx,asBool,cu];rfl
 ·have:=bp;omega
 ·rw[CS _ _ (by simp;omega)];simp only[IL]
theorem SO(l:List bJ)(bY within cap:Int)(hl:l.length≤maxLen∧∀y∈l,y.Ok):ku [w8 l bY within cap]=some (res (dJ l bY within cap).1 (dJ l bY within cap).2):=by
 have hm:=bI;simp only[ku,vX,w8,asAgg,cell,PV.cells,ai6,ai5,aiV,aji,Nat.reduceAdd,ay,asInt,asBool,IS,U,ahj,Zx,cu];unfold dJ;generalize (!wi bY 0 1000000|| !wi within 0 86400|| !wi cap 0 1000000)=c;cases c with
 |true=>rfl
 |false=>
  simp only[cT,T1];by_cases vf:l.length>16
  ·rw[AI (by simp;omega),AI vf];rfl
  ·rw[By (by simp;omega),By vf,←nU];refine bK (fun k=>((k:Int),l.map bJ.pv,bY,within,cap,())) l.length _ (fun k hk rec=>?_) (fun rec=>?_) ?_ rfl
   ·have h1:(k:Int)<(l.length:Int):=by omega
    have hid:=tV l[k].id (hl.2 _ (aiZ hk)).id;have uW:=KN l hl.1 bY within cap k hk rec;simp only[qG,IL,ahj,h1,IS,aU,GP,cO hk,aff,U,aaK,adm,adn,ado,adp,adq,aG,asBool,hid,uW,aO (show k<9223372036854775807 by omega)];unfold CQ;rw[cO hk];simp only;generalize w7 l[k]=c;cases ic l[k].id with
    |false=>rfl
    |true=>
     by_cases bQ:l[k].id∈(l.map bJ.id).take k
     ·simp only[bQ,IS,aiK,cT,ai3,T1];rfl
     ·simp only[bQ,IS,aiK,cT,ai3,T1];cases c<;>rfl
   ·simp only[qG,IL,ahj,ajJ,T1];rfl
   ·have:=bp;omega
theorem Q9(x:gq):cell x.pv 0=.int .i64 x.stop:=rfl
theorem Zy(x:gq):cell x.pv 1=.int .i64 x.arr:=rfl
theorem Ra(x:gq):cell x.pv 2=.int .i64 x.dep:=rfl
def KO(l:List gq):Nat→Option gq
 |0=>none
 |k+1=>l[k]?
def Q8(c:gq)(p:Option gq)(stops low high:Int):Int:=
 if(decide (c.stop<0)||decide (c.stop≥stops))=true then 9
 else if(match p with|some p=>decide (p.stop=c.stop)|none=>false)=true then 13
 else if(decide (c.arr<low)||decide (c.arr>c.dep)||decide (c.dep>high)||(match p with|some p=>decide (c.arr<p.dep)|none=>false))=true then 10 else 0
def tU(l:List gq)(stops low high:Int)(k:Nat):Int:=match l[k]? with
 |none=>0
 |some c=>Q8 c (KO l k) stops low high
def jG(l:List gq)(stops low high:Int):Int×Int:=if(decide ((l.length:Int)<2)||decide ((l.length:Int)>32))=true then(0,5)else bL (tU l stops low high) l.length
theorem Gz(j:Nat)(h:j<9223372036854775807):IntKind.i64.wrap (((j+1:Nat):Int)-1)=(j:Int):=by rw[dU (by omega) (by omega)];omega
theorem KP(l:List gq)(stops low high:Int)(k:Nat)(hk:k<l.length)(hl:l.length≤maxLen):qH [.rs 5 (l.map gq.pv),.int .i64 k,.int .i64 stops,.int .i64 low,.int .i64 high]=some (.int .i64 (tU l stops low high k)):=by
 have hm:=bI;simp only[qH,Ev,ay,asInt,IS,U,aU,GP,cO hk,aff,Q9,Zy,Ra,cu];unfold tU Q8;rw[cO hk];simp only;cases k with
 |zero=>
  have h0:decide (((0:Nat):Int)>0)=false:=by decide
  simp only[h0,cond_false,U,cu,ak2,KO];generalize (decide (l[0].stop<0)||decide (l[0].stop≥stops))=A;generalize (decide (l[0].arr<low)||decide (l[0].arr>l[0].dep)||decide (l[0].dep>high))=B;cases A<;>cases B<;>rfl
 |succ j=>
  have h0:decide (((j+1:Nat):Int)>0)=true:=by rw[IL];omega
  have hj:j<l.length:=by omega
  simp only[h0,cond_true,U,Gz j (by omega),aU,GP,cO hj,aff,Q9,Ra,asInt,IS,KO,gE,cu];generalize (decide (l[j+1].stop<0)||decide (l[j+1].stop≥stops))=A;generalize (decide (l[j+1].arr<low)||decide (l[j+1].arr>l[j+1].dep)||decide (l[j+1].dep>high))=B;generalize decide (l[j].stop=l[j+1].stop)=C;generalize decide (l[j+1].arr<l[j].dep)=D;cases A<;>cases B<;>cases C<;>cases D<;>rfl
theorem SP(l:List gq)(stops low high:Int)(hl:l.length≤maxLen):jH [.rs 5 (l.map gq.pv),.int .i64 stops,.int .i64 low,.int .i64 high]=some (res (jG l stops low high).1 (jG l stops low high).2):=by
 have hm:=bI;simp only[jH,yG,ay,asInt,IS,U,ahj,cu];unfold jG;split
 ·rfl
 ·rw[←nU];refine bK (fun k=>(l.map gq.pv,stops,low,high,(l.length:Int),(k:Int),())) l.length _ (fun k hk rec=>?_) (fun rec=>?_) ?_ rfl
  ·have h1:(k:Int)<(l.length:Int):=by omega
   simp only[sk,IL,h1,IS,KP l stops low high k hk hl,U,asInt,aO (show k<9223372036854775807 by omega),nR];by_cases he:tU l stops low high k=0
   ·simp[he,KQ,fK]
   ·simp[he,KQ,fK,res]
  ·simp only[sk,IL,ajJ,T1];rfl
  ·have:=bp;omega
theorem SQ(l:List gq)(stops low high:Int)(hl:l.length≤maxLen):kv [.rs 5 (l.map gq.pv),.int .i64 stops,.int .i64 low,.int .i64 high]=some (.int .i64 (jG l stops low high).2):=by
 have hm:=bI;simp only[kv,vT,ay,asInt,IS,U,ahj,cu];unfold jG;split
 ·rfl
 ·rw[←Pe];refine bK (fun k=>(l.map gq.pv,stops,low,high,(k:Int),())) l.length _ (fun k hk rec=>?_) (fun rec=>?_) ?_ rfl
  ·have h1:(k:Int)<(l.length:Int):=by omega
   simp only[qI,IL,ahj,h1,IS,aU,GP,cO hk,aff,U,Q9,Zy,Ra,asInt,cu,aO (show k<9223372036854775807 by omega)];unfold tU Q8;rw[cO hk];simp only;cases k with
   |zero=>
    have h0:decide (((0:Nat):Int)>0)=false:=by decide
    simp only[h0,cond_false,U,cu,ak2,KO];generalize (decide (l[0].stop<0)||decide (l[0].stop≥stops))=A;generalize (decide (l[0].arr<low)||decide (l[0].arr>l[0].dep)||decide (l[0].dep>high))=B;cases A<;>cases B<;>rfl
   |succ j=>
    have h0:decide (((j+1:Nat):Int)>0)=true:=by rw[IL];omega
    have hj:j<l.length:=by omega
    have hc:decide (l[j+1].stop=l[j].stop)=decide (l[j].stop=l[j+1].stop):=by rw[aiN];simp;exact eq_comm
    simp only[h0,cond_true,U,Gz j (by omega),aU,GP,cO hj,aff,Q9,Ra,asInt,IS,KO,gE,cu,hc];generalize (decide (l[j+1].stop<0)||decide (l[j+1].stop≥stops))=A;generalize (decide (l[j+1].arr<low)||decide (l[j+1].arr>l[j+1].dep)||decide (l[j+1].dep>high))=B;generalize decide (l[j].stop=l[j+1].stop)=C;generalize decide (l[j+1].arr<l[j].dep)=D;cases A<;>cases B<;>cases C<;>cases D<;>rfl
  ·simp only[qI,IL,ahj,ajJ,T1]
  ·have:=bp;omega
structure fP where
 A7:Int
 day:Int
 inst:Int
 id:Bytes
 lz:Int
 free:Bool
 X7:Bool
 calls:List gq
 deriving DecidableEq
def fP.pv(x:fP):PV:=.agg [.int .i64 x.A7,.int .i64 x.day,.int .i64 x.inst,.str x.id,.int .i64 x.lz,.bool x.free,.bool x.X7,.rs 5 (x.calls.map gq.pv)]
structure fP.eP(M:Nat)(x:fP):Prop where
 A7:gO x.A7
 day:gO x.day
 inst:gO x.inst
 id:x.id.length≤M
 lz:gO x.lz
 calls:x.calls.length≤M∧∀y∈x.calls,y.eP M
abbrev fP.Ok(x:fP):Prop:=x.eP maxLen
theorem agY(r:fP):asAgg 8 r.pv=some ():=rfl
theorem agZ(r:fP):PV.agg [cell r.pv 0,cell r.pv 1,cell r.pv 2,cell r.pv 3,cell r.pv 4,cell r.pv 5,cell r.pv 6,cell r.pv 7]=r.pv:=rfl
theorem aaE(x:fP):cell x.pv 0=.int .i64 x.A7:=rfl
theorem XU(x:fP):cell x.pv 1=.int .i64 x.day:=rfl
theorem XV(x:fP):cell x.pv 2=.int .i64 x.inst:=rfl
theorem XW(x:fP):cell x.pv 3=.str x.id:=rfl
theorem aaF(x:fP):cell x.pv 4=.int .i64 x.lz:=rfl
theorem adi(x:fP):cell x.pv 5=.bool x.free:=rfl
theorem adj(x:fP):cell x.pv 6=.bool x.X7:=rfl
theorem Vk(x:fP):cell x.pv 7=.rs 5 (x.calls.map gq.pv):=rfl
structure bE where
 a:Int
 ac:Int
 b:Int
 bc:Int
 stay:Bool
 deriving DecidableEq
def bE.pv(x:bE):PV:=.agg [.int .i64 x.a,.int .i64 x.ac,.int .i64 x.b,.int .i64 x.bc,.bool x.stay]
structure bE.eP(M:Nat)(x:bE):Prop where
 a:gO x.a
 ac:gO x.ac
 b:gO x.b
 bc:gO x.bc
abbrev bE.Ok(x:bE):Prop:=x.eP maxLen
theorem KS(x:bE):cell x.pv 0=.int .i64 x.a:=rfl
theorem VG(x:bE):cell x.pv 1=.int .i64 x.ac:=rfl
theorem link2(x:bE):cell x.pv 2=.int .i64 x.b:=rfl
theorem VH(x:bE):cell x.pv 3=.int .i64 x.bc:=rfl
theorem Rb(x:bE):cell x.pv 4=.bool x.stay:=rfl
theorem KT(x:Path):cell x.pv 0=.int .i64 x.a:=rfl
theorem KU(x:Path):cell x.pv 1=.int .i64 x.b:=rfl
theorem Rc(x:Path):cell x.pv 2=.int .i64 x.js:=rfl
theorem KV(x:Path):cell x.pv 3=.bool x.free:=rfl
structure aR where
 stops:List Stop
 aD:List aV
 runs:List fP
 bh:List bE
 paths:List Path
 ba:List bJ
 bY:Int
 within:Int
 cap:Int
 deriving DecidableEq
def aR.pv(x:aR):PV:=.agg [.rs 4 (x.stops.map Stop.pv),.rs 3 (x.aD.map aV.pv),.rs 8 (x.runs.map fP.pv),.rs 5 (x.bh.map bE.pv),.rs 4 (x.paths.map Path.pv),.rs 6 (x.ba.map bJ.pv),.int .i64 x.bY,.int .i64 x.within,.int .i64 x.cap]
structure aR.eP(M:Nat)(x:aR):Prop where
 stops:x.stops.length≤M∧∀y∈x.stops,y.eP M
 aD:x.aD.length≤M∧∀y∈x.aD,y.eP M
 runs:x.runs.length≤M∧∀y∈x.runs,y.eP M
 bh:x.bh.length≤M∧∀y∈x.bh,y.eP M
 paths:x.paths.length≤M∧∀y∈x.paths,y.eP M
 ba:x.ba.length≤M∧∀y∈x.ba,y.eP M
 bY:gO x.bY
 within:gO x.within
 cap:gO x.cap
abbrev aR.Ok(x:aR):Prop:=x.eP maxLen
theorem zI(x:aR):asAgg 9 x.pv=some ():=rfl
theorem zJ(x:aR):ay 4 (cell x.pv 0)=some (x.stops.map Stop.pv):=rfl
theorem zK(x:aR):ay 3 (cell x.pv 1)=some (x.aD.map aV.pv):=rfl
theorem zL(x:aR):ay 8 (cell x.pv 2)=some (x.runs.map fP.pv):=rfl
theorem zM(x:aR):ay 5 (cell x.pv 3)=some (x.bh.map bE.pv):=rfl
theorem zN(x:aR):ay 4 (cell x.pv 4)=some (x.paths.map Path.pv):=rfl
theorem zO(x:aR):ay 6 (cell x.pv 5)=some (x.ba.map bJ.pv):=rfl
theorem zP(x:aR):asInt .i64 (cell x.pv 6)=some x.bY:=rfl
theorem zQ(x:aR):asInt .i64 (cell x.pv 7)=some x.within:=rfl
theorem zR(x:aR):asInt .i64 (cell x.pv 8)=some x.cap:=rfl
theorem Hu(x:aR):PV.agg [.rs 4 (x.stops.map Stop.pv),.rs 3 (x.aD.map aV.pv),.rs 8 (x.runs.map fP.pv),.rs 5 (x.bh.map bE.pv),.rs 4 (x.paths.map Path.pv),.rs 6 (x.ba.map bJ.pv),.int .i64 x.bY,.int .i64 x.within,.int .i64 x.cap]=x.pv:=rfl
def r3(p i e:Int):PV:=.agg [.int .i64 p,.int .i64 i,.int .i64 e]
def prt(p:Int)(x:Int×Int):PV:=if x.2=0 then r3 0 0 0 else r3 p x.1 x.2
theorem Re(p i e:Int):asAgg 3 (r3 p i e)=some ():=rfl
theorem tb(p i e:Int):cell (r3 p i e) 0=.int .i64 p:=rfl
theorem xV(p i e:Int):cell (r3 p i e) 1=.int .i64 i:=rfl
theorem Cv(p i e:Int):cell (r3 p i e) 2=.int .i64 e:=rfl
theorem ED(p i e:Int):aY [.int .i64 p,.int .i64 i,.int .i64 e]=some (r3 p i e):=rfl
theorem yJ(n m:Int):cy [.int .i64 n,.int .i64 m]=some (.bool (decide (n≥0)&&decide (n<m))):=by simp only[cy,qz,asInt,IS,U,ig]
variable{R:Type}
theorem iE(f:Nat→Int)(n:Nat)(g:Int→Int→R)(fin:Option R):fK ((List.range n).findSome? fun k=>if f k=0 then none else some (some (g k (f k)))) fin=if(bL f n).2=0 then fin else some (g (bL f n).1 (bL f n).2):=by
 unfold bL;have:(List.range n).findSome? (fun k=>if f k=0 then none else some (some (g k (f k))))=((List.range n).findSome? (fun k=>if f k=0 then none else some ((k:Int),f k))).map fun x=>some (g x.1 x.2):=by rw[akS];congr 1;funext k;by_cases h:f k=0<;>simp[h]
 rw[this];cases hf:(List.range n).findSome? (fun k=>if f k=0 then none else some ((k:Int),f k))with
 |none=>rfl
 |some x=>
  obtain⟨k,_,hk⟩:=ajm hf;have hx:x.2≠0:=by
   by_cases h0:f k=0
   ·rw[AI h0]at hk;cases hk
   ·rw[By h0]at hk;simp only[cN]at hk;subst hk;exact h0
  simp only[aff,fK];rw[By hx]
theorem kP(f:Nat→Int)(n:Nat):(bL f n).2=0↔∀k,k<n→f k=0:=by
 unfold bL;cases hf:(List.range n).findSome? (fun k=>if f k=0 then none else some ((k:Int),f k))with
 |none=>
  simp only[true_iff];intro k hk;rw[ajB]at hf;have:=hf k (by simpa using hk);by_cases h0:f k=0
  ·exact h0
  ·rw[By h0]at this;cases this
 |some x=>
  obtain⟨k,hk,hx⟩:=ajm hf;by_cases h0:f k=0
  ·rw[AI h0]at hx;cases hx
  ·rw[By h0]at hx;simp only[cN]at hx;subst hx;exact⟨fun h=>absurd h h0,fun h=>absurd (h k (by simpa using hk)) h0⟩
theorem xW{S:Type}{body:S→(S→Option R)→Option R}(st:Nat→S)(n:Nat)(bad:Nat→Option (Option R)){fin:Option R}(h:∀k,k<n→(∀j,j<k→bad j=none)→∀rec,body (st k) rec=fK (bad k) (rec (st (k+1))))(uT:(∀j,j<n→bad j=none)→∀rec,body (st n) rec=fin)(hn:n<rounds){s0:S}(h0:st 0=s0):bl.run body s0=fK ((List.range n).findSome? bad) fin:=by
 by_cases Fk:∀j,j<n→bad j=none
 ·have:(List.range n).findSome? bad=none:=by rw[ajB];intro k hk;exact Fk k (by simpa using hk)
  rw[this];refine bV st n (fun k hk rec=>?_) (uT Fk) hn h0;rw[h k hk (fun j hj=>Fk j (by omega)),Fk k hk];rfl
 ·have hex:∃m,m<n∧bad m≠none∧∀j,j<m→bad j=none:=by
   have key:∀m,(∃i,i<m∧i<n∧bad i≠none)→∃m,m<n∧bad m≠none∧∀j,j<m→bad j=none:=by
    intro m;induction m with
    |zero=>rintro⟨i,hi,_⟩;omega
    |succ m ih=>
     intro hi;by_cases hc:∃i,i<m∧i<n∧bad i≠none
     ·exact ih hc
     ·obtain⟨i,h1,h2,h3⟩:=hi;have him:i=m:=by
       by_cases h:i<m
       ·exact absurd ⟨i,h,h2,h3⟩ hc
       ·omega
      subst him;refine⟨i,h2,h3,fun j hj=>?_⟩;cases hb:bad j with
      |none=>rfl
      |some x=>exact absurd ⟨j,hj,by omega,by rw[hb];exact fun h=>nomatch h⟩ hc
   have hc:∃i,i<n∧bad i≠none:=by
    by_cases hc:∃i,i<n∧bad i≠none
    ·exact hc
    ·refine absurd (fun j hj=>?_) Fk;cases hb:bad j with
     |none=>rfl
     |some x=>exact absurd ⟨j,hj,by rw[hb];exact fun h=>nomatch h⟩ hc
   obtain⟨i,h1,h2⟩:=hc;exact key n ⟨i,h1,h1,h2⟩
  obtain⟨m,hm,hb,bT⟩:=hex;cases hbm:bad m with
  |none=>exact absurd hbm hb
  |some x=>
   have hf:(List.range n).findSome? bad=some x:=by
    have hnm:n=m+(n-m):=by omega
    rw[hnm,List.range_add,List.findSome?_append];have h1:(List.range m).findSome? bad=none:=by rw[ajB];intro k hk;exact bT k (by simpa using hk)
    rw[h1,Option.none_or];have hd:n-m=(n-m-1)+1:=by omega
    rw[hd,aj6,aiL,ajC,akj,hbm]
   rw[hf];refine bV st m (fun k hk rec=>?_) (fun rec=>?_) (by omega) h0
   ·rw[h k (by omega) (fun j hj=>bT j (by omega)),bT k hk];rfl
   ·rw[h m hm bT,hbm];rfl
theorem Rf{A:Type}[DecidableEq A](a b:List A)(h:a.length=b.length)(no fin:Option R):fK ((List.range a.length).findSome? fun k=>if a[k]?=b[k]? then none else some no) fin=if a=b then fin else no:=by
 by_cases sy:a=b
 ·rw[AI sy];have:(List.range a.length).findSome? (fun k=>if a[k]?=b[k]? then none else some no)=none:=by rw[ajB];intro k _;rw[AI (by rw[sy])]
  rw[this];rfl
 ·rw[By sy];cases hf:(List.range a.length).findSome? (fun k=>if a[k]?=b[k]? then none else some no)with
  |none=>
   refine absurd (aiY fun k=>?_) sy;rw[ajB]at hf;by_cases hk:k<a.length
   ·have:=hf k (by simpa using hk);by_cases h0:a[k]?=b[k]?
    ·exact h0
    ·rw[By h0]at this;cases this
   ·rw[ahl (by omega),ahl (by omega)]
  |some x=>
   obtain⟨k,hk,hx⟩:=ajm hf;by_cases h0:a[k]?=b[k]?
   ·rw[AI h0]at hx;cases hx
   ·rw[By h0]at hx;simp only[cN]at hx;subst hx;rfl
end Go.Ab.Tt
