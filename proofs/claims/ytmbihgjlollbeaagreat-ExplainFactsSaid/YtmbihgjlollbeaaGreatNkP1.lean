import Derived.Test.YtmbihgjlollbeaaGreatTtChk0
import Derived.Test.YtmbihgjlollbeaaGreatSh6
namespace Go.Ab.Tt
set_option maxRecDepth 100000
set_option linter.all false
theorem Ax(s:Bytes)(hs:s.length≤maxLen):fg [.str s]=some (.bool (eW s)):=by
 have hm:=ai;simp only[fg,Dn,aO,U];refine(Mg s hs kY (some (.bool false)) (some (.bool (decide ((s.length:Int)>0)&&decide ((s.length:Int)≤32)))) (fun k hk rec=>?_) (fun rec=>?_)).trans ?_
 ·have h1:(k:Int)<(s.length:Int):=by omega
  simp only[wV,cT,h1,BY,Dp,cN hk,U,aJ,ab (show k<9223372036854775807 by omega),bX];grind [kY,decide]
 ·simp[wV,cT,asf,IS,aJ,U]
 ·unfold eW;cases s.all kY with
  |true=>simp only[BY,as7,cO,PV.bool.injEq];grind
  |false=>simp
theorem EF{body:Bytes×Int×Unit→(Bytes×Int×Unit→Option PV)→Option PV}(s:Bytes)(hs:s.length≤maxLen)(h:∀k,(hk:k<s.length)→∀rec,body (s,(k:Int),()) rec=if kY s[k]then rec (s,((k+1:Nat):Int),())else some (.bool false))(tQ:∀rec,body (s,(s.length:Int),()) rec=some (.bool true)){c:Bool}(hc:c= !(decide (1≤s.length)&&decide (s.length≤32))):(if c=true then some (.bool false)else ba.run body (s,0,()))=some (.bool (eW s)):=by rw[Mg s hs kY _ _ h tQ,hc];unfold eW;grind
theorem BC(s:Bytes)(hs:s.length≤maxLen):fQ [.str s]=some (.bool (eW s)):=by
 have hm:=ai;simp only[fQ,zx,aO,U,ay];refine EF s hs (fun k hk rec=>?_) (fun rec=>?_) ?_
 ·have h1:(k:Int)<(s.length:Int):=by omega
  simp only[sk,cT,h1,BY,Dp,cN hk,U,aJ,ay,ab (show k<9223372036854775807 by omega),eC];grind [kY,ge_iff_le,decide]
 ·simp[sk,cT,asf,IS]
 grind
def Hg(l:List Stop)(k:Nat):Int:=match l[k]? with
 |none=>0
 |some x=>if eW x.id=false then 12 else if x.id∈(l.map Stop.id).take k then 6 else if(decide (x.ua<0)||decide (x.ua≥16)||decide (x.change<0)||decide (x.change>3600))=true then 2 else 0
def fE(l:List Stop):Int×Int:=if l.length>64 then(0,5)else bV (Hg l) l.length
theorem OM(l:List Stop)(hl:l.length≤maxLen∧∀y∈l,y.Ok):qF [.rs 4 (l.map Stop.pv)]=some (res (fE l).1 (fE l).2):=by
 have hm:=ai;simp only[qF,Gb,ao,BY,U,AI];unfold fE;by_cases j4:l.length>64
 ·rw[IN (by simp;omega),IN j4];rfl
 ·rw[IT (by simp;omega),IT j4,←cW];refine aC (fun k=>(l.map Stop.pv,(l.length:Int),(k:Int),seen PV.str ((l.map Stop.id).take k),())) l.length _ (fun k hk rec=>?_) (fun rec=>?_) ?_ rfl
  ·have h1:(k:Int)<(l.length:Int):=by omega
   have hid:=Ax l[k].id (hl.2 _ (ar9 hk)).id;have oK:=fV mS l[k].id ((l.map Stop.id).take k);have mA:=eX mS l[k].id ((l.map Stop.id).take k);simp only[zy,cT,h1,BY,ag,AT,cN hk,No,U,Stop.pv,cell,PV.cells,abm,ahH,aO,asInt,asBool,hid,oK,mA,ay,ab (show k<9223372036854775807 by omega),kT Stop.id l k hk];unfold Hg;rw[cN hk];simp only;generalize (decide (l[k].ua<0)||decide (l[k].ua≥16)||decide (l[k].change<0)||decide (l[k].change>3600))=c;cases eW l[k].id with
   |false=>rfl
   |true=>
    by_cases bB:l[k].id∈(l.map Stop.id).take k
    ·simp only[bB,BY,aiI,cQ,asj,IS];rfl
    ·simp only[bB,BY,aiI,cQ,asj,IS];cases c<;>rfl
  ·simp only[zy,cT,asf,IS];rfl
  ·have:=aw;omega
theorem Mh(n a b:Int):b8 [.int .i64 n,.int .i64 a,.int .i64 b]=some (.bool (decide (n≥a)&&decide (n≤b))):=by simp[b8,Mi,asInt,BY,U,aJ]
theorem P7(x:Stop):cell x.pv 0=.str x.id:=rfl
theorem ahr(x:Stop):cell x.pv 1=.int .i64 x.ua:=rfl
theorem ahs(x:Stop):cell x.pv 3=.int .i64 x.change:=rfl
theorem Su{R:Type}(ids:List Bytes)(i:Nat)(hi:i<ids.length)(no fin:Option R):bK ((List.range i).findSome? fun k=>if decide (ids[k]?=some ids[i])=true then some no else none) fin=if ids[i]∈ids.take i then no else fin:=by
 rw[iu (fun k=>decide (ids[k]?=some ids[i])) (fun _=>no)];cases hf:(List.range i).find? fun k=>decide (ids[k]?=some ids[i])with
 |none=>
  have hn:ids[i]∉ids.take i:=fun bB=>by obtain⟨j,hj⟩:=ast.1 bB;grind
  rw[IT hn];rfl
 |some j=>rw[atG]at hf;obtain⟨h1,h2,_⟩:=hf;have bB:ids[i]∈ids.take i:=ast.2 ⟨j,by simp_all⟩;rw[IN bB];rfl
theorem Sv(l:List Stop)(hl:l.length≤maxLen)(i:Nat)(hi:i<l.length)(jT:List PV×Int×Unit→Option PV):ba.run (qG jT) (l.map Stop.pv,(i:Int),0,())=if(l.map Stop.id)[i]'(by simpa using hi)∈(l.map Stop.id).take i then some (res i 6)else if(decide (l[i].ua<0)||decide (l[i].ua≥16)||decide (l[i].change<0)||decide (l[i].change>3600))=true then some (res i 2)else jT (l.map Stop.pv,IntKind.i64.wrap ((i:Int)+1),()):=by
 have hm:=ai;have hgi:(l.map Stop.pv)[i]?=some l[i].pv:=by simp_all
 have hii:i<(l.map Stop.id).length:=by simpa using hi
 have aqy:(l.map Stop.id)[i]=l[i].id:=by simp
 rw[←Su (l.map Stop.id) i hii];refine aC (fun k=>(l.map Stop.pv,(i:Int),(k:Int),())) i (fun k=>if decide ((l.map Stop.id)[k]?=some (l.map Stop.id)[i])=true then some (some (res i 6))else none) (fun k hk rec=>?_) (fun rec=>?_) ?_ rfl
 ·have h1:decide ((k:Int)<(i:Int))=true:=by simp;omega
  have sD:k<l.length:=by omega
  have hgk:(l.map Stop.pv)[k]?=some l[k].pv:=by simp_all
  have hdk:decide ((l.map Stop.id)[k]?=some (l.map Stop.id)[i])=decide (l[k].id=l[i].id):=by simp_all
  unfold qG;dsimp only;rw[IN h1,ag,hgk,U,P7,ag,hgi,ab (by omega),hdk];simp only[aO,U,P7,bX];cases decide (l[k].id=l[i].id)<;>rfl
 ·unfold qG;dsimp only;rw[IT (by simp),ag,hgi];simp only[U,ahr,ahs,asInt,BY,Mh,asBool,ay];have:(!(decide (l[i].ua≥0)&&decide (l[i].ua≤15))|| !(decide (l[i].change≥0)&&decide (l[i].change≤3600)))=(decide (l[i].ua<0)||decide (l[i].ua≥16)||decide (l[i].change<0)||decide (l[i].change>3600)):=by grind
  rw[this];rfl
 ·have:=aw;omega
theorem aaV(l:List Stop)(hl:l.length≤maxLen∧∀y∈l,y.Ok):sU [.rs 4 (l.map Stop.pv)]=some (res (fE l).1 (fE l).2):=by
 have hm:=ai;simp only[sU,Dq,ao,BY,U,AI];unfold fE;by_cases j4:l.length>64
 ·rw[IN (by simp;omega),IN j4];rfl
 ·rw[IT (by simp;omega),IT j4,←cW];refine aC (fun k=>(l.map Stop.pv,(k:Int),())) l.length _ (fun k hk rec=>?_) (fun rec=>?_) ?_ rfl
  ·have h1:decide ((k:Int)<((l.map Stop.pv).length:Int))=true:=by simp;omega
   have hgk:(l.map Stop.pv)[k]?=some l[k].pv:=by simp_all
   have hid:=BC l[k].id (hl.2 _ (ar9 hk)).id;have ajO:(l.map Stop.id)[k]'(by simpa using hk)=l[k].id:=by simp
   unfold wW;dsimp only;rw[IN h1,ag,hgk,U,P7];simp only[aO,U,hid,asBool];rw[Sv l hl.1 k hk rec,ajO,ab (by omega)];unfold Hg;rw[cN hk];simp only;generalize (decide (l[k].ua<0)||decide (l[k].ua≥16)||decide (l[k].change<0)||decide (l[k].change>3600))=c;cases eW l[k].id with
   |false=>rfl
   |true=>
    by_cases bB:l[k].id∈(l.map Stop.id).take k
    ·simp only[bB,BY,aiI,cQ,asj,IS];rfl
    ·simp only[bB,BY,aiI,cQ,asj,IS];cases c<;>rfl
  ·unfold wW;dsimp only;rw[IT (by simp)];rfl
  ·have:=aw;omega
theorem Mj(x:ax):cell x.pv 0=.str x.id:=rfl
theorem adT(x:ax):cell x.pv 1=.int .i64 x.mode:=rfl
def C9(l:List ax)(k:Nat):Int:=match l[k]? with
 |none=>0
 |some x=>if eW x.id=false then 12 else if x.id∈(l.map ax.id).take k then 6 else if(decide (x.mode≥0)&&decide (x.mode<8))=false then 2 else 0
def eM(l:List ax):Int×Int:=if l.length>64 then(0,5)else bV (C9 l) l.length
theorem Mk(l:List ax)(hl:l.length≤maxLen∧∀y∈l,y.Ok):nV [.rs 3 (l.map ax.pv)]=some (res (eM l).1 (eM l).2):=by
 have hm:=ai;simp only[nV,Dr,ao,BY,U,AI];unfold eM;by_cases j4:l.length>64
 ·rw[IN (by simp;omega),IN j4];rfl
 ·rw[IT (by simp;omega),IT j4,←cW];refine aC (fun k=>(l.map ax.pv,(l.length:Int),(k:Int),seen PV.str ((l.map ax.id).take k),())) l.length _ (fun k hk rec=>?_) (fun rec=>?_) ?_ rfl
  ·have h1:(k:Int)<(l.length:Int):=by omega
   have hid:=Ax l[k].id (hl.2 _ (ar9 hk)).id;have oK:=fV mS l[k].id ((l.map ax.id).take k);have mA:=eX mS l[k].id ((l.map ax.id).take k);simp only[wX,cT,h1,BY,ag,AT,cN hk,No,U,ax.pv,cell,PV.cells,abm,ahH,aO,asInt,asBool,hid,oK,mA,ay,ab (show k<9223372036854775807 by omega),kT ax.id l k hk,zz,Dt,aJ];unfold C9;rw[cN hk];simp only;generalize (decide (l[k].mode≥0)&&decide (l[k].mode<8))=c;cases eW l[k].id with
   |false=>rfl
   |true=>
    by_cases bB:l[k].id∈(l.map ax.id).take k
    ·simp only[bB,BY,aiI,cQ,asj,IS];rfl
    ·simp only[bB,BY,aiI,cQ,asj,IS];cases c<;>rfl
  ·simp only[wX,cT,asf,IS];rfl
  ·have:=aw;omega
theorem P8(l:List ax)(hl:l.length≤maxLen)(i:Nat)(hi:i<l.length)(jT:List PV×Int×Unit→Option PV):ba.run (ot jT) (l.map ax.pv,(i:Int),0,())=if(l.map ax.id)[i]'(by simpa using hi)∈(l.map ax.id).take i then some (res i 6)else if(decide (l[i].mode≥0)&&decide (l[i].mode<8))=false then some (res i 2)else jT (l.map ax.pv,IntKind.i64.wrap ((i:Int)+1),()):=by
 have hm:=ai;have hgi:(l.map ax.pv)[i]?=some l[i].pv:=by simp_all
 have hii:i<(l.map ax.id).length:=by simpa using hi
 have aqy:(l.map ax.id)[i]=l[i].id:=by simp
 rw[←Su (l.map ax.id) i hii];refine aC (fun k=>(l.map ax.pv,(i:Int),(k:Int),())) i (fun k=>if decide ((l.map ax.id)[k]?=some (l.map ax.id)[i])=true then some (some (res i 6))else none) (fun k hk rec=>?_) (fun rec=>?_) ?_ rfl
 ·have h1:decide ((k:Int)<(i:Int))=true:=by simp;omega
  have sD:k<l.length:=by omega
  have hgk:(l.map ax.pv)[k]?=some l[k].pv:=by simp_all
  have hdk:decide ((l.map ax.id)[k]?=some (l.map ax.id)[i])=decide (l[k].id=l[i].id):=by simp_all
  unfold ot;dsimp only;rw[IN h1,ag,hgk,U,Mj,ag,hgi,ab (by omega),hdk];simp only[aO,U,Mj,bX];cases decide (l[k].id=l[i].id)<;>rfl
 ·unfold ot;dsimp only;rw[IT (by simp),ag,hgi];simp only[U,adT,asInt,BY,Mh,asBool];have:(decide (l[i].mode≥0)&&decide (l[i].mode≤7))=(decide (l[i].mode≥0)&&decide (l[i].mode<8)):=by grind
  rw[this];cases(decide (l[i].mode≥0)&&decide (l[i].mode<8))<;>rfl
 ·have:=aw;omega
theorem Vn(l:List ax)(hl:l.length≤maxLen∧∀y∈l,y.Ok):qH [.rs 3 (l.map ax.pv)]=some (res (eM l).1 (eM l).2):=by
 have hm:=ai;simp only[qH,BD,ao,BY,U,AI];unfold eM;by_cases j4:l.length>64
 ·rw[IN (by simp;omega),IN j4];rfl
 ·rw[IT (by simp;omega),IT j4,←cW];refine aC (fun k=>(l.map ax.pv,(k:Int),())) l.length _ (fun k hk rec=>?_) (fun rec=>?_) ?_ rfl
  ·have h1:decide ((k:Int)<((l.map ax.pv).length:Int))=true:=by simp;omega
   have hgk:(l.map ax.pv)[k]?=some l[k].pv:=by simp_all
   have hid:=BC l[k].id (hl.2 _ (ar9 hk)).id;have ajO:(l.map ax.id)[k]'(by simpa using hk)=l[k].id:=by simp
   unfold ui;dsimp only;rw[IN h1,ag,hgk,U,Mj];simp only[aO,U,hid,asBool];rw[P8 l hl.1 k hk rec,ajO,ab (by omega)];unfold C9;rw[cN hk];simp only;generalize (decide (l[k].mode≥0)&&decide (l[k].mode<8))=c;cases eW l[k].id with
   |false=>rfl
   |true=>
    by_cases bB:l[k].id∈(l.map ax.id).take k
    ·simp only[bB,BY,aiI,cQ,asj,IS];rfl
    ·simp only[bB,BY,aiI,cQ,asj,IS];cases c<;>rfl
  ·unfold ui;dsimp only;rw[IT (by simp)];rfl
  ·have:=aw;omega
def wi(n a b:Int):Bool:=decide (n≥a)&&decide (n≤b)
theorem JF(n a b:Int):cu [.int .i64 n,.int .i64 a,.int .i64 b]=some (.bool (wi n a b)):=by simp only[cu,wY,asInt,BY,U,aJ];rfl
theorem aaW(x:aM):cell x.pv 0=.str x.id:=rfl
theorem ajP(x:aM):cell x.pv 1=.int .i64 x.jL:=rfl
theorem ajQ(x:aM):cell x.pv 2=.int .i64 x.b9:=rfl
theorem ajR(x:aM):cell x.pv 3=.int .i64 x.j3:=rfl
theorem ajS(x:aM):cell x.pv 4=.int .i64 x.fq:=rfl
theorem ajT(x:aM):cell x.pv 5=.int .i64 x.bP:=rfl
def oq(x:aM):Bool:= !wi x.jL 0 1000000|| !wi x.b9 1 8|| !wi x.j3 1 16|| !wi x.fq 0 86400|| !wi x.bP 1 255
def Hs(l:List aM)(k:Nat):Int:=match l[k]? with
 |none=>0
 |some x=>if eW x.id=false then 12 else if x.id∈(l.map aM.id).take k then 6 else if oq x=true then 2 else 0
def dp(l:List aM)(bn within cap:Int):PV:=.agg [.rs 6 (l.map aM.pv),.int .i64 bn,.int .i64 within,.int .i64 cap]
def cJ(l:List aM)(bn within cap:Int):Int×Int:=if(!wi bn 0 1000000|| !wi within 0 86400|| !wi cap 0 1000000)=true then(-1,2)else if l.length>16 then(0,5)else bV (Hs l) l.length
theorem BA(l:List aM)(bn within cap:Int)(hl:l.length≤maxLen∧∀y∈l,y.Ok):dN [dp l bn within cap]=some (res (cJ l bn within cap).1 (cJ l bn within cap).2):=by
 have hm:=ai;simp only[dN,zA,dp,asAgg,cell,PV.cells,abm,ahH,aqP,ase,Nat.reduceAdd,ao,asInt,asBool,BY,U,AI,JF,ay];unfold cJ;generalize (!wi bn 0 1000000|| !wi within 0 86400|| !wi cap 0 1000000)=c;cases c with
 |true=>rfl
 |false=>
  simp only[cQ,IS];by_cases j4:l.length>16
  ·rw[IN (by simp;omega),IN j4];rfl
  ·rw[IT (by simp;omega),IT j4,←cW];refine aC (fun k=>(l.map aM.pv,(l.length:Int),(k:Int),seen PV.str ((l.map aM.id).take k),())) l.length _ (fun k hk rec=>?_) (fun rec=>?_) ?_ rfl
   ·have h1:(k:Int)<(l.length:Int):=by omega
    have hid:=Ax l[k].id (hl.2 _ (ar9 hk)).id;have oK:=fV mS l[k].id ((l.map aM.id).take k);have mA:=eX mS l[k].id ((l.map aM.id).take k);simp only[sl,cT,h1,BY,ag,AT,cN hk,No,U,aaW,ajP,ajQ,ajR,ajS,ajT,aO,asInt,asBool,hid,oK,mA,JF,ay,ab (show k<9223372036854775807 by omega),kT aM.id l k hk];unfold Hs;rw[cN hk];have hb:(!wi l[k].jL 0 1000000|| !wi l[k].b9 1 8|| !wi l[k].j3 1 16|| !wi l[k].fq 0 86400|| !wi l[k].bP 1 255)=oq l[k]:=rfl;simp only[hb];generalize oq l[k]=c;cases eW l[k].id with
    |false=>rfl
    |true=>
     by_cases bB:l[k].id∈(l.map aM.id).take k
     ·simp only[bB,BY,aiI,cQ,asj,IS];rfl
     ·simp only[bB,BY,aiI,cQ,asj,IS];cases c<;>rfl
   ·simp only[sl,cT,asf,IS];rfl
   ·have:=aw;omega
theorem aiv(n a b:Int):b8 [.int .i64 n,.int .i64 a,.int .i64 b]=some (.bool (wi n a b)):=Mh n a b
theorem Sw(l:List aM)(hl:l.length≤maxLen)(d w c:Int)(i:Nat)(hi:i<l.length)(jT:Int×List PV×Int×Int×Int×Unit→Option PV):ba.run (qI jT) ((i:Int),0,l.map aM.pv,d,w,c,.str l[i].id,.int .i64 l[i].jL,.int .i64 l[i].b9,.int .i64 l[i].j3,.int .i64 l[i].fq,.int .i64 l[i].bP,())=if l[i].id∈(l.map aM.id).take i then some (res i 6)else if oq l[i]=true then some (res i 2)else jT (IntKind.i64.wrap ((i:Int)+1),l.map aM.pv,d,w,c,()):=by
 have hm:=ai;refine(dt (fun k=>((i:Int),(k:Int),l.map aM.pv,d,w,c,PV.str l[i].id,PV.int .i64 l[i].jL,PV.int .i64 l[i].b9,PV.int .i64 l[i].j3,PV.int .i64 l[i].fq,PV.int .i64 l[i].bP,())) i (fun k=>decide ((l.map aM.id)[k]?=some l[i].id)) (no:=some (res i 6)) (fin:=if oq l[i]=true then some (res i 2)else jT (IntKind.i64.wrap ((i:Int)+1),l.map aM.pv,d,w,c,())) (fun k hk rec=>?_) (fun rec=>?_) ?_ rfl).trans ?_
 ·have h1:(k:Int)<(i:Int):=by omega
  have sD:k<l.length:=by omega
  simp only[qI,cT,h1,BY,ag,AT,cN sD,No,U,aaW,aO,ab (show k<9223372036854775807 by omega),bX,cO];rfl
 ·simp only[qI,cT,asf,IS,U,asInt,BY,aiv,asBool,ay];rfl
 ·have:=aw;omega
 ·rw[jf _ _ (by simp;omega)];simp_all
theorem aaX(l:List aM)(bn within cap:Int)(hl:l.length≤maxLen∧∀y∈l,y.Ok):sV [dp l bn within cap]=some (res (cJ l bn within cap).1 (cJ l bn within cap).2):=by
 have hm:=ai;simp only[sV,Du,dp,asAgg,cell,PV.cells,abm,ahH,aqP,ase,Nat.reduceAdd,ao,asInt,asBool,BY,U,AI,aiv,ay];unfold cJ;generalize (!wi bn 0 1000000|| !wi within 0 86400|| !wi cap 0 1000000)=c;cases c with
 |true=>rfl
 |false=>
  simp only[cQ,IS];by_cases j4:l.length>16
  ·rw[IN (by simp;omega),IN j4];rfl
  ·rw[IT (by simp;omega),IT j4,←cW];refine aC (fun k=>((k:Int),l.map aM.pv,bn,within,cap,())) l.length _ (fun k hk rec=>?_) (fun rec=>?_) ?_ rfl
   ·have h1:(k:Int)<(l.length:Int):=by omega
    have hid:=BC l[k].id (hl.2 _ (ar9 hk)).id;have kM:=Sw l hl.1 bn within cap k hk rec;simp only[wZ,cT,AI,h1,BY,ag,AT,cN hk,No,U,aaW,ajP,ajQ,ajR,ajS,ajT,aO,asBool,hid,kM,ab (show k<9223372036854775807 by omega)];unfold Hs;rw[cN hk];simp only;generalize oq l[k]=c;cases eW l[k].id with
    |false=>rfl
    |true=>
     by_cases bB:l[k].id∈(l.map aM.id).take k
     ·simp only[bB,BY,aiI,cQ,asj,IS];rfl
     ·simp only[bB,BY,aiI,cQ,asj,IS];cases c<;>rfl
   ·simp only[wZ,cT,AI,asf,IS];rfl
   ·have:=aw;omega
theorem uO(x:aY):cell x.pv 0=.int .i64 x.stop:=rfl
theorem Dw(x:aY):cell x.pv 1=.int .i64 x.arr:=rfl
theorem rK(x:aY):cell x.pv 2=.int .i64 x.dep:=rfl
def JG(l:List aY):Nat→Option aY
 |0=>none
 |k+1=>l[k]?
def JA(c:aY)(p:Option aY)(stops low high:Int):Int:=
 if(decide (c.stop<0)||decide (c.stop≥stops))=true then 9
 else if(match p with|some p=>decide (p.stop=c.stop)|none=>false)=true then 13
 else if(decide (c.arr<low)||decide (c.arr>c.dep)||decide (c.dep>high)||(match p with|some p=>decide (c.arr<p.dep)|none=>false))=true then 10 else 0
def vi(l:List aY)(stops low high:Int)(k:Nat):Int:=match l[k]? with
 |none=>0
 |some c=>JA c (JG l k) stops low high
def gR(l:List aY)(stops low high:Int):Int×Int:=if(decide ((l.length:Int)<2)||decide ((l.length:Int)>32))=true then(0,5)else bV (vi l stops low high) l.length
theorem hZ(j:Nat)(h:j<9223372036854775807):IntKind.i64.wrap (((j+1:Nat):Int)-1)=(j:Int):=by grind [aZ]
theorem Sx(l:List aY)(stops low high:Int)(k:Nat)(hk:k<l.length)(hl:l.length≤maxLen):BE [.rs 5 (l.map aY.pv),.int .i64 k,.int .i64 stops,.int .i64 low,.int .i64 high]=some (.int .i64 (vi l stops low high k)):=by
 have hm:=ai;simp only[BE,Ml,ao,asInt,BY,U,ag,AT,cN hk,No,uO,Dw,rK,ay];unfold vi JA;rw[cN hk];simp only;cases k with
 |zero=>
  have h0:decide (((0:Nat):Int)>0)=false:=by rfl
  simp only[h0,cond_false,U,ay,as4,JG];grind
 |succ j=>
  have h0:decide (((j+1:Nat):Int)>0)=true:=by simp
  have hj:j<l.length:=by omega
  simp only[h0,cond_true,U,hZ j (by omega),ag,AT,cN hj,No,uO,rK,asInt,BY,JG,bX,ay];grind
theorem ON(l:List aY)(stops low high:Int)(hl:l.length≤maxLen):qJ [.rs 5 (l.map aY.pv),.int .i64 stops,.int .i64 low,.int .i64 high]=some (res (gR l stops low high).1 (gR l stops low high).2):=by
 have hm:=ai;simp only[qJ,Gc,ao,asInt,BY,U,AI,ay];unfold gR;split
 ·rfl
 ·rw[←cW];refine aC (fun k=>(l.map aY.pv,stops,low,high,(l.length:Int),(k:Int),())) l.length _ (fun k hk rec=>?_) (fun rec=>?_) ?_ rfl
  ·have h1:(k:Int)<(l.length:Int):=by omega
   simp only[zB,cT,h1,BY,Sx l stops low high k hk hl,U,asInt,ab (show k<9223372036854775807 by omega),eC];grind [vi,Dx,bK,res]
  ·simp only[zB,cT,asf,IS];rfl
  ·have:=aw;omega
theorem aaY(l:List aY)(stops low high:Int)(hl:l.length≤maxLen):sW [.rs 5 (l.map aY.pv),.int .i64 stops,.int .i64 low,.int .i64 high]=some (.int .i64 (gR l stops low high).2):=by
 have hm:=ai;simp only[sW,Dy,ao,asInt,BY,U,AI,ay];unfold gR;split
 ·rfl
 ·rw[←Mm];refine aC (fun k=>(l.map aY.pv,stops,low,high,(k:Int),())) l.length _ (fun k hk rec=>?_) (fun rec=>?_) ?_ rfl
  ·have h1:(k:Int)<(l.length:Int):=by omega
   simp only[xb,cT,AI,h1,BY,ag,AT,cN hk,No,U,uO,Dw,rK,asInt,ay,ab (show k<9223372036854775807 by omega)];unfold vi JA;rw[cN hk];simp only;cases k with
   |zero=>
    have h0:decide (((0:Nat):Int)>0)=false:=by rfl
    simp only[h0,cond_false,U,ay,as4,JG];generalize (decide (l[0].stop<0)||decide (l[0].stop≥stops))=A;generalize (decide (l[0].arr<low)||decide (l[0].arr>l[0].dep)||decide (l[0].dep>high))=B;cases A<;>cases B<;>rfl
   |succ j=>
    have h0:decide (((j+1:Nat):Int)>0)=true:=by simp
    have hj:j<l.length:=by omega
    have hc:decide (l[j+1].stop=l[j].stop)=decide (l[j].stop=l[j+1].stop):=by grind
    simp only[h0,cond_true,U,hZ j (by omega),ag,AT,cN hj,No,uO,rK,asInt,BY,JG,bX,ay,hc];generalize (decide (l[j+1].stop<0)||decide (l[j+1].stop≥stops))=A;generalize (decide (l[j+1].arr<low)||decide (l[j+1].arr>l[j+1].dep)||decide (l[j+1].dep>high))=B;generalize decide (l[j].stop=l[j+1].stop)=C;generalize decide (l[j+1].arr<l[j].dep)=D;cases A<;>cases B<;>cases C<;>cases D<;>rfl
  ·simp[xb,cT,AI,asf,IS]
  ·have:=aw;omega
structure cy where
 bD:Int
 day:Int
 inst:Int
 id:Bytes
 dF:Int
 free:Bool
 aar:Bool
 calls:List aY
 deriving DecidableEq
def cy.pv(x:cy):PV:=.agg [.int .i64 x.bD,.int .i64 x.day,.int .i64 x.inst,.str x.id,.int .i64 x.dF,.bool x.free,.bool x.aar,.rs 5 (x.calls.map aY.pv)]
structure cy.fR(M:Nat)(x:cy):Prop where
 bD:jM x.bD
 day:jM x.day
 inst:jM x.inst
 id:x.id.length≤M
 dF:jM x.dF
 calls:x.calls.length≤M∧∀y∈x.calls,y.fR M
abbrev cy.Ok(x:cy):Prop:=x.fR maxLen
theorem agY(r:cy):asAgg 8 r.pv=some ():=rfl
theorem aqj(r:cy):PV.agg [cell r.pv 0,cell r.pv 1,cell r.pv 2,cell r.pv 3,cell r.pv 4,cell r.pv 5,cell r.pv 6,cell r.pv 7]=r.pv:=rfl
theorem pB(x:cy):cell x.pv 0=.int .i64 x.bD:=rfl
theorem Uz(x:cy):cell x.pv 1=.int .i64 x.day:=rfl
theorem UA(x:cy):cell x.pv 2=.int .i64 x.inst:=rfl
theorem UB(x:cy):cell x.pv 3=.str x.id:=rfl
theorem JX(x:cy):cell x.pv 4=.int .i64 x.dF:=rfl
theorem UC(x:cy):cell x.pv 5=.bool x.free:=rfl
theorem UD(x:cy):cell x.pv 6=.bool x.aar:=rfl
theorem CZ(x:cy):cell x.pv 7=.rs 5 (x.calls.map aY.pv):=rfl
structure bq where
 a:Int
 ac:Int
 b:Int
 bc:Int
 stay:Bool
 deriving DecidableEq
def bq.pv(x:bq):PV:=.agg [.int .i64 x.a,.int .i64 x.ac,.int .i64 x.b,.int .i64 x.bc,.bool x.stay]
structure bq.fR(M:Nat)(x:bq):Prop where
 a:jM x.a
 ac:jM x.ac
 b:jM x.b
 bc:jM x.bc
abbrev bq.Ok(x:bq):Prop:=x.fR maxLen
theorem L6(x:bq):cell x.pv 0=.int .i64 x.a:=rfl
theorem R4(x:bq):cell x.pv 1=.int .i64 x.ac:=rfl
theorem link2(x:bq):cell x.pv 2=.int .i64 x.b:=rfl
theorem R5(x:bq):cell x.pv 3=.int .i64 x.bc:=rfl
theorem OB(x:bq):cell x.pv 4=.bool x.stay:=rfl
theorem Hi(x:Path):cell x.pv 0=.int .i64 x.a:=rfl
theorem Hj(x:Path):cell x.pv 1=.int .i64 x.b:=rfl
theorem L4(x:Path):cell x.pv 2=.int .i64 x.fq:=rfl
theorem Hk(x:Path):cell x.pv 3=.bool x.free:=rfl
structure an where
 stops:List Stop
 aj:List ax
 runs:List cy
 aH:List bq
 paths:List Path
 aK:List aM
 bn:Int
 within:Int
 cap:Int
 deriving DecidableEq
def an.pv(x:an):PV:=.agg [.rs 4 (x.stops.map Stop.pv),.rs 3 (x.aj.map ax.pv),.rs 8 (x.runs.map cy.pv),.rs 5 (x.aH.map bq.pv),.rs 4 (x.paths.map Path.pv),.rs 6 (x.aK.map aM.pv),.int .i64 x.bn,.int .i64 x.within,.int .i64 x.cap]
structure an.fR(M:Nat)(x:an):Prop where
 stops:x.stops.length≤M∧∀y∈x.stops,y.fR M
 aj:x.aj.length≤M∧∀y∈x.aj,y.fR M
 runs:x.runs.length≤M∧∀y∈x.runs,y.fR M
 aH:x.aH.length≤M∧∀y∈x.aH,y.fR M
 paths:x.paths.length≤M∧∀y∈x.paths,y.fR M
 aK:x.aK.length≤M∧∀y∈x.aK,y.fR M
 bn:jM x.bn
 within:jM x.within
 cap:jM x.cap
abbrev an.Ok(x:an):Prop:=x.fR maxLen
theorem lj(x:an):asAgg 9 x.pv=some ():=rfl
theorem ll(x:an):ao 4 (cell x.pv 0)=some (x.stops.map Stop.pv):=rfl
theorem lq(x:an):ao 3 (cell x.pv 1)=some (x.aj.map ax.pv):=rfl
theorem lr(x:an):ao 8 (cell x.pv 2)=some (x.runs.map cy.pv):=rfl
theorem lu(x:an):ao 5 (cell x.pv 3)=some (x.aH.map bq.pv):=rfl
theorem lv(x:an):ao 4 (cell x.pv 4)=some (x.paths.map Path.pv):=rfl
theorem lx(x:an):ao 6 (cell x.pv 5)=some (x.aK.map aM.pv):=rfl
theorem ly(x:an):asInt .i64 (cell x.pv 6)=some x.bn:=rfl
theorem lz(x:an):asInt .i64 (cell x.pv 7)=some x.within:=rfl
theorem lA(x:an):asInt .i64 (cell x.pv 8)=some x.cap:=rfl
theorem pU(x:an):PV.agg [.rs 4 (x.stops.map Stop.pv),.rs 3 (x.aj.map ax.pv),.rs 8 (x.runs.map cy.pv),.rs 5 (x.aH.map bq.pv),.rs 4 (x.paths.map Path.pv),.rs 6 (x.aK.map aM.pv),.int .i64 x.bn,.int .i64 x.within,.int .i64 x.cap]=x.pv:=rfl
def r3(p i e:Int):PV:=.agg [.int .i64 p,.int .i64 i,.int .i64 e]
def prt(p:Int)(x:Int×Int):PV:=if x.2=0 then r3 0 0 0 else r3 p x.1 x.2
theorem r3A(p i e:Int):asAgg 3 (r3 p i e)=some ():=rfl
theorem r30(p i e:Int):cell (r3 p i e) 0=.int .i64 p:=rfl
theorem r31(p i e:Int):cell (r3 p i e) 1=.int .i64 i:=rfl
theorem r32(p i e:Int):cell (r3 p i e) 2=.int .i64 e:=rfl
theorem Sy(p i e:Int):bA [.int .i64 p,.int .i64 i,.int .i64 e]=some (r3 p i e):=rfl
theorem Gd(n m:Int):dq [.int .i64 n,.int .i64 m]=some (.bool (decide (n≥0)&&decide (n<m))):=by simp[dq,xc,asInt,BY,U,aJ]
variable{R:Type}
theorem pt(f:Nat→Int)(n:Nat)(g:Int→Int→R)(fin:Option R):bK ((List.range n).findSome? fun k=>if f k=0 then none else some (some (g k (f k)))) fin=if(bV f n).2=0 then fin else some (g (bV f n).1 (bV f n).2):=by
 unfold bV;have:(List.range n).findSome? (fun k=>if f k=0 then none else some (some (g k (f k))))=((List.range n).findSome? (fun k=>if f k=0 then none else some ((k:Int),f k))).map fun x=>some (g x.1 x.2):=by rw[auG];congr 1;grind
 rw[this];cases hf:(List.range n).findSome? (fun k=>if f k=0 then none else some ((k:Int),f k))with
 |none=>rfl
 |some x=>
  obtain⟨k,_,hk⟩:=asS hf;have hx:x.2≠0:=by grind
  simp_all[No,bK,IT]
theorem sb(f:Nat→Int)(n:Nat):(bV f n).2=0↔∀k,k<n→f k=0:=by
 unfold bV;cases hf:(List.range n).findSome? (fun k=>if f k=0 then none else some ((k:Int),f k))with
 |none=>simp_all
 |some x=>obtain⟨k,hk,hx⟩:=asS hf;grind
theorem Fo{S:Type}{body:S→(S→Option R)→Option R}(st:Nat→S)(n:Nat)(bad:Nat→Option (Option R)){fin:Option R}(h:∀k,k<n→(∀j,j<k→bad j=none)→∀rec,body (st k) rec=bK (bad k) (rec (st (k+1))))(tQ:(∀j,j<n→bad j=none)→∀rec,body (st n) rec=fin)(hn:n<rounds){s0:S}(h0:st 0=s0):ba.run body s0=bK ((List.range n).findSome? bad) fin:=by
 by_cases yn:∀j,j<n→bad j=none
 ·have:(List.range n).findSome? bad=none:=by simp_all
  rw[this];refine bf st n (fun k hk rec=>?_) (tQ yn) hn h0;rw[h k hk (fun j hj=>yn j (by omega)),yn k hk];rfl
 ·have hex:∃m,m<n∧bad m≠none∧∀j,j<m→bad j=none:=by
   have key:∀m,(∃i,i<m∧i<n∧bad i≠none)→∃m,m<n∧bad m≠none∧∀j,j<m→bad j=none:=by
    intro m;induction m with
    |zero=>omega
    |succ m ih=>
     intro hi;by_cases hc:∃i,i<m∧i<n∧bad i≠none
     ·exact ih hc
     grind
   have hc:∃i,i<n∧bad i≠none:=by simp_all
   obtain⟨i,h1,h2⟩:=hc;exact key n ⟨i,h1,h1,h2⟩
  obtain⟨m,hm,hb,cd⟩:=hex;cases hbm:bad m with
  |none=>exact absurd hbm hb
  |some x=>
   have hf:(List.range n).findSome? bad=some x:=by
    have hnm:n=m+(n-m):=by omega
    rw[hnm,List.range_add,List.findSome?_append];have h1:(List.range m).findSome? bad=none:=by grind
    rw[h1,Option.none_or];have hd:n-m=(n-m-1)+1:=by omega
    rw[hd,aty,asn,asW,ato,hbm]
   rw[hf];refine bf st m (fun k hk rec=>?_) (fun rec=>?_) (by omega) h0
   ·rw[h k (by omega) (fun j hj=>cd j (by omega)),cd k hk];rfl
   ·rw[h m hm cd,hbm];rfl
theorem Xi{A:Type}[DecidableEq A](a b:List A)(h:a.length=b.length)(no fin:Option R):bK ((List.range a.length).findSome? fun k=>if a[k]?=b[k]? then none else some no) fin=if a=b then fin else no:=by
 by_cases Ak:a=b
 ·rw[IN Ak];have:(List.range a.length).findSome? (fun k=>if a[k]?=b[k]? then none else some no)=none:=by simp_all
  rw[this];rfl
 ·rw[IT Ak];cases hf:(List.range a.length).findSome? (fun k=>if a[k]?=b[k]? then none else some no)with
  |none=>refine absurd (asw fun k=>?_) Ak;grind
  |some x=>
   obtain⟨k,hk,hx⟩:=asS hf;by_cases h0:a[k]?=b[k]?
   ·simp_all
   ·rw[IT h0]at hx;simp only[cO]at hx;subst hx;rfl
end Go.Ab.Tt
