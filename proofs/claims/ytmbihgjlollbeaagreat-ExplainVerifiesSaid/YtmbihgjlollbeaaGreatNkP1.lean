import Derived.Test.YtmbihgjlollbeaaGreatTtChk0
import Derived.Test.YtmbihgjlollbeaaGreatSh6
namespace Go.Ab.Tt
set_option maxRecDepth 100000
set_option linter.all false
theorem AN(s:Bytes)(hs:s.length≤maxLen):fh [.str s]=some (.bool (eW s)):=by
 have hm:=ai;simp only[fh,Dt,aO,U];refine(Ml s hs lx (some (.bool false)) (some (.bool (decide ((s.length:Int)>0)&&decide ((s.length:Int)≤32)))) (fun k hk rec=>?_) (fun rec=>?_)).trans ?_
 ·have h1:(k:Int)<(s.length:Int):=by omega
  simp only[xb,cT,h1,BY,Du,cN hk,U,aJ,ab (show k<9223372036854775807 by omega),bT];grind [lx,decide]
 ·simp[xb,cT,asl,IT,aJ,U]
 ·unfold eW;cases s.all lx with
  |true=>simp only[BY,atc,cO,PV.bool.injEq];grind
  |false=>simp
theorem EI{body:Bytes×Int×Unit→(Bytes×Int×Unit→Option PV)→Option PV}(s:Bytes)(hs:s.length≤maxLen)(h:∀k,(hk:k<s.length)→∀rec,body (s,(k:Int),()) rec=if lx s[k]then rec (s,((k+1:Nat):Int),())else some (.bool false))(tV:∀rec,body (s,(s.length:Int),()) rec=some (.bool true)){c:Bool}(hc:c= !(decide (1≤s.length)&&decide (s.length≤32))):(if c=true then some (.bool false)else bd.run body (s,0,()))=some (.bool (eW s)):=by rw[Ml s hs lx _ _ h tV,hc];unfold eW;grind
theorem BG(s:Bytes)(hs:s.length≤maxLen):fT [.str s]=some (.bool (eW s)):=by
 have hm:=ai;simp only[fT,zN,aO,U,az];refine EI s hs (fun k hk rec=>?_) (fun rec=>?_) ?_
 ·have h1:(k:Int)<(s.length:Int):=by omega
  simp only[sn,cT,h1,BY,Du,cN hk,U,aJ,az,ab (show k<9223372036854775807 by omega),eC];grind [lx,ge_iff_le,decide]
 ·simp[sn,cT,asl,IT]
 grind
def Hl(l:List Stop)(k:Nat):Int:=match l[k]? with
 |none=>0
 |some x=>if eW x.id=false then 12 else if x.id∈(l.map Stop.id).take k then 6 else if(decide (x.ug<0)||decide (x.ug≥16)||decide (x.change<0)||decide (x.change>3600))=true then 2 else 0
def fH(l:List Stop):Int×Int:=if l.length>64 then(0,5)else bW (Hl l) l.length
theorem OR(l:List Stop)(hl:l.length≤maxLen∧∀y∈l,y.Ok):qI [.rs 4 (l.map Stop.pv)]=some (res (fH l).1 (fH l).2):=by
 have hm:=ai;simp only[qI,Gg,ao,BY,U,AI];unfold fH;by_cases j5:l.length>64
 ·rw[IN (by simp;omega),IN j5];rfl
 ·rw[IS (by simp;omega),IS j5,←cY];refine aC (fun k=>(l.map Stop.pv,(l.length:Int),(k:Int),seen PV.str ((l.map Stop.id).take k),())) l.length _ (fun k hk rec=>?_) (fun rec=>?_) ?_ rfl
  ·have h1:(k:Int)<(l.length:Int):=by omega
   have hid:=AN l[k].id (hl.2 _ (aqW hk)).id;have oK:=fX mU l[k].id ((l.map Stop.id).take k);have mC:=eX mU l[k].id ((l.map Stop.id).take k);simp only[zO,cT,h1,BY,ag,AT,cN hk,No,U,Stop.pv,cell,PV.cells,O6,T1,aO,asInt,asBool,hid,oK,mC,az,ab (show k<9223372036854775807 by omega),ll Stop.id l k hk];unfold Hl;rw[cN hk];simp only;generalize (decide (l[k].ug<0)||decide (l[k].ug≥16)||decide (l[k].change<0)||decide (l[k].change>3600))=c;cases eW l[k].id with
   |false=>rfl
   |true=>
    by_cases bB:l[k].id∈(l.map Stop.id).take k
    ·simp only[bB,BY,ahX,cQ,asp,IT];rfl
    ·simp only[bB,BY,ahX,cQ,asp,IT];cases c<;>rfl
  ·simp only[zO,cT,asl,IT];rfl
  ·have:=aw;omega
theorem Mm(n a b:Int):b9 [.int .i64 n,.int .i64 a,.int .i64 b]=some (.bool (decide (n≥a)&&decide (n≤b))):=by simp[b9,Mn,asInt,BY,U,aJ]
theorem Qd(x:Stop):cell x.pv 0=.str x.id:=rfl
theorem ahH(x:Stop):cell x.pv 1=.int .i64 x.ug:=rfl
theorem ahI(x:Stop):cell x.pv 3=.int .i64 x.change:=rfl
theorem SE{R:Type}(ids:List Bytes)(i:Nat)(hi:i<ids.length)(no fin:Option R):bK ((List.range i).findSome? fun k=>if decide (ids[k]?=some ids[i])=true then some no else none) fin=if ids[i]∈ids.take i then no else fin:=by
 rw[iw (fun k=>decide (ids[k]?=some ids[i])) (fun _=>no)];cases hf:(List.range i).find? fun k=>decide (ids[k]?=some ids[i])with
 |none=>
  have hn:ids[i]∉ids.take i:=fun bB=>by obtain⟨j,hj⟩:=asy.1 bB;grind
  rw[IS hn];rfl
 |some j=>rw[atP]at hf;obtain⟨h1,h2,_⟩:=hf;have bB:ids[i]∈ids.take i:=asy.2 ⟨j,by simp_all⟩;rw[IN bB];rfl
theorem SF(l:List Stop)(hl:l.length≤maxLen)(i:Nat)(hi:i<l.length)(jU:List PV×Int×Unit→Option PV):bd.run (qJ jU) (l.map Stop.pv,(i:Int),0,())=if(l.map Stop.id)[i]'(by simpa using hi)∈(l.map Stop.id).take i then some (res i 6)else if(decide (l[i].ug<0)||decide (l[i].ug≥16)||decide (l[i].change<0)||decide (l[i].change>3600))=true then some (res i 2)else jU (l.map Stop.pv,IntKind.i64.wrap ((i:Int)+1),()):=by
 have hm:=ai;have hgi:(l.map Stop.pv)[i]?=some l[i].pv:=by simp_all
 have hii:i<(l.map Stop.id).length:=by simpa using hi
 have aqF:(l.map Stop.id)[i]=l[i].id:=by simp
 rw[←SE (l.map Stop.id) i hii];refine aC (fun k=>(l.map Stop.pv,(i:Int),(k:Int),())) i (fun k=>if decide ((l.map Stop.id)[k]?=some (l.map Stop.id)[i])=true then some (some (res i 6))else none) (fun k hk rec=>?_) (fun rec=>?_) ?_ rfl
 ·have h1:decide ((k:Int)<(i:Int))=true:=by simp;omega
  have sG:k<l.length:=by omega
  have hgk:(l.map Stop.pv)[k]?=some l[k].pv:=by simp_all
  have hdk:decide ((l.map Stop.id)[k]?=some (l.map Stop.id)[i])=decide (l[k].id=l[i].id):=by simp_all
  unfold qJ;dsimp only;rw[IN h1,ag,hgk,U,Qd,ag,hgi,ab (by omega),hdk];simp only[aO,U,Qd,bT];cases decide (l[k].id=l[i].id)<;>rfl
 ·unfold qJ;dsimp only;rw[IS (by simp),ag,hgi];simp only[U,ahH,ahI,asInt,BY,Mm,asBool,az];have:(!(decide (l[i].ug≥0)&&decide (l[i].ug≤15))|| !(decide (l[i].change≥0)&&decide (l[i].change≤3600)))=(decide (l[i].ug<0)||decide (l[i].ug≥16)||decide (l[i].change<0)||decide (l[i].change>3600)):=by grind
  rw[this];rfl
 ·have:=aw;omega
theorem aa2(l:List Stop)(hl:l.length≤maxLen∧∀y∈l,y.Ok):sZ [.rs 4 (l.map Stop.pv)]=some (res (fH l).1 (fH l).2):=by
 have hm:=ai;simp only[sZ,Dw,ao,BY,U,AI];unfold fH;by_cases j5:l.length>64
 ·rw[IN (by simp;omega),IN j5];rfl
 ·rw[IS (by simp;omega),IS j5,←cY];refine aC (fun k=>(l.map Stop.pv,(k:Int),())) l.length _ (fun k hk rec=>?_) (fun rec=>?_) ?_ rfl
  ·have h1:decide ((k:Int)<((l.map Stop.pv).length:Int))=true:=by simp;omega
   have hgk:(l.map Stop.pv)[k]?=some l[k].pv:=by simp_all
   have hid:=BG l[k].id (hl.2 _ (aqW hk)).id;have ajV:(l.map Stop.id)[k]'(by simpa using hk)=l[k].id:=by simp
   unfold xc;dsimp only;rw[IN h1,ag,hgk,U,Qd];simp only[aO,U,hid,asBool];rw[SF l hl.1 k hk rec,ajV,ab (by omega)];unfold Hl;rw[cN hk];simp only;generalize (decide (l[k].ug<0)||decide (l[k].ug≥16)||decide (l[k].change<0)||decide (l[k].change>3600))=c;cases eW l[k].id with
   |false=>rfl
   |true=>
    by_cases bB:l[k].id∈(l.map Stop.id).take k
    ·simp only[bB,BY,ahX,cQ,asp,IT];rfl
    ·simp only[bB,BY,ahX,cQ,asp,IT];cases c<;>rfl
  ·unfold xc;dsimp only;rw[IS (by simp)];rfl
  ·have:=aw;omega
theorem Mo(x:ax):cell x.pv 0=.str x.id:=rfl
theorem ad8(x:ax):cell x.pv 1=.int .i64 x.mode:=rfl
def Dd(l:List ax)(k:Nat):Int:=match l[k]? with
 |none=>0
 |some x=>if eW x.id=false then 12 else if x.id∈(l.map ax.id).take k then 6 else if(decide (x.mode≥0)&&decide (x.mode<8))=false then 2 else 0
def eN(l:List ax):Int×Int:=if l.length>64 then(0,5)else bW (Dd l) l.length
theorem Mp(l:List ax)(hl:l.length≤maxLen∧∀y∈l,y.Ok):nV [.rs 3 (l.map ax.pv)]=some (res (eN l).1 (eN l).2):=by
 have hm:=ai;simp only[nV,Dx,ao,BY,U,AI];unfold eN;by_cases j5:l.length>64
 ·rw[IN (by simp;omega),IN j5];rfl
 ·rw[IS (by simp;omega),IS j5,←cY];refine aC (fun k=>(l.map ax.pv,(l.length:Int),(k:Int),seen PV.str ((l.map ax.id).take k),())) l.length _ (fun k hk rec=>?_) (fun rec=>?_) ?_ rfl
  ·have h1:(k:Int)<(l.length:Int):=by omega
   have hid:=AN l[k].id (hl.2 _ (aqW hk)).id;have oK:=fX mU l[k].id ((l.map ax.id).take k);have mC:=eX mU l[k].id ((l.map ax.id).take k);simp only[xd,cT,h1,BY,ag,AT,cN hk,No,U,ax.pv,cell,PV.cells,O6,T1,aO,asInt,asBool,hid,oK,mC,az,ab (show k<9223372036854775807 by omega),ll ax.id l k hk,zP,Dy,aJ];unfold Dd;rw[cN hk];simp only;generalize (decide (l[k].mode≥0)&&decide (l[k].mode<8))=c;cases eW l[k].id with
   |false=>rfl
   |true=>
    by_cases bB:l[k].id∈(l.map ax.id).take k
    ·simp only[bB,BY,ahX,cQ,asp,IT];rfl
    ·simp only[bB,BY,ahX,cQ,asp,IT];cases c<;>rfl
  ·simp only[xd,cT,asl,IT];rfl
  ·have:=aw;omega
theorem Qe(l:List ax)(hl:l.length≤maxLen)(i:Nat)(hi:i<l.length)(jU:List PV×Int×Unit→Option PV):bd.run (ot jU) (l.map ax.pv,(i:Int),0,())=if(l.map ax.id)[i]'(by simpa using hi)∈(l.map ax.id).take i then some (res i 6)else if(decide (l[i].mode≥0)&&decide (l[i].mode<8))=false then some (res i 2)else jU (l.map ax.pv,IntKind.i64.wrap ((i:Int)+1),()):=by
 have hm:=ai;have hgi:(l.map ax.pv)[i]?=some l[i].pv:=by simp_all
 have hii:i<(l.map ax.id).length:=by simpa using hi
 have aqF:(l.map ax.id)[i]=l[i].id:=by simp
 rw[←SE (l.map ax.id) i hii];refine aC (fun k=>(l.map ax.pv,(i:Int),(k:Int),())) i (fun k=>if decide ((l.map ax.id)[k]?=some (l.map ax.id)[i])=true then some (some (res i 6))else none) (fun k hk rec=>?_) (fun rec=>?_) ?_ rfl
 ·have h1:decide ((k:Int)<(i:Int))=true:=by simp;omega
  have sG:k<l.length:=by omega
  have hgk:(l.map ax.pv)[k]?=some l[k].pv:=by simp_all
  have hdk:decide ((l.map ax.id)[k]?=some (l.map ax.id)[i])=decide (l[k].id=l[i].id):=by simp_all
  unfold ot;dsimp only;rw[IN h1,ag,hgk,U,Mo,ag,hgi,ab (by omega),hdk];simp only[aO,U,Mo,bT];cases decide (l[k].id=l[i].id)<;>rfl
 ·unfold ot;dsimp only;rw[IS (by simp),ag,hgi];simp only[U,ad8,asInt,BY,Mm,asBool];have:(decide (l[i].mode≥0)&&decide (l[i].mode≤7))=(decide (l[i].mode≥0)&&decide (l[i].mode<8)):=by grind
  rw[this];cases(decide (l[i].mode≥0)&&decide (l[i].mode<8))<;>rfl
 ·have:=aw;omega
theorem Vv(l:List ax)(hl:l.length≤maxLen∧∀y∈l,y.Ok):qK [.rs 3 (l.map ax.pv)]=some (res (eN l).1 (eN l).2):=by
 have hm:=ai;simp only[qK,BH,ao,BY,U,AI];unfold eN;by_cases j5:l.length>64
 ·rw[IN (by simp;omega),IN j5];rfl
 ·rw[IS (by simp;omega),IS j5,←cY];refine aC (fun k=>(l.map ax.pv,(k:Int),())) l.length _ (fun k hk rec=>?_) (fun rec=>?_) ?_ rfl
  ·have h1:decide ((k:Int)<((l.map ax.pv).length:Int))=true:=by simp;omega
   have hgk:(l.map ax.pv)[k]?=some l[k].pv:=by simp_all
   have hid:=BG l[k].id (hl.2 _ (aqW hk)).id;have ajV:(l.map ax.id)[k]'(by simpa using hk)=l[k].id:=by simp
   unfold uu;dsimp only;rw[IN h1,ag,hgk,U,Mo];simp only[aO,U,hid,asBool];rw[Qe l hl.1 k hk rec,ajV,ab (by omega)];unfold Dd;rw[cN hk];simp only;generalize (decide (l[k].mode≥0)&&decide (l[k].mode<8))=c;cases eW l[k].id with
   |false=>rfl
   |true=>
    by_cases bB:l[k].id∈(l.map ax.id).take k
    ·simp only[bB,BY,ahX,cQ,asp,IT];rfl
    ·simp only[bB,BY,ahX,cQ,asp,IT];cases c<;>rfl
  ·unfold uu;dsimp only;rw[IS (by simp)];rfl
  ·have:=aw;omega
def wi(n a b:Int):Bool:=decide (n≥a)&&decide (n≤b)
theorem JM(n a b:Int):cv [.int .i64 n,.int .i64 a,.int .i64 b]=some (.bool (wi n a b)):=by simp only[cv,xe,asInt,BY,U,aJ];rfl
theorem aa3(x:aM):cell x.pv 0=.str x.id:=rfl
theorem ajW(x:aM):cell x.pv 1=.int .i64 x.jM:=rfl
theorem ajX(x:aM):cell x.pv 2=.int .i64 x.b8:=rfl
theorem ajY(x:aM):cell x.pv 3=.int .i64 x.j4:=rfl
theorem ajZ(x:aM):cell x.pv 4=.int .i64 x.fq:=rfl
theorem aj0(x:aM):cell x.pv 5=.int .i64 x.bQ:=rfl
def oq(x:aM):Bool:= !wi x.jM 0 1000000|| !wi x.b8 1 8|| !wi x.j4 1 16|| !wi x.fq 0 86400|| !wi x.bQ 1 255
def Hx(l:List aM)(k:Nat):Int:=match l[k]? with
 |none=>0
 |some x=>if eW x.id=false then 12 else if x.id∈(l.map aM.id).take k then 6 else if oq x=true then 2 else 0
def dr(l:List aM)(bp within cap:Int):PV:=.agg [.rs 6 (l.map aM.pv),.int .i64 bp,.int .i64 within,.int .i64 cap]
def cJ(l:List aM)(bp within cap:Int):Int×Int:=if(!wi bp 0 1000000|| !wi within 0 86400|| !wi cap 0 1000000)=true then(-1,2)else if l.length>16 then(0,5)else bW (Hx l) l.length
theorem BE(l:List aM)(bp within cap:Int)(hl:l.length≤maxLen∧∀y∈l,y.Ok):dO [dr l bp within cap]=some (res (cJ l bp within cap).1 (cJ l bp within cap).2):=by
 have hm:=ai;simp only[dO,zQ,dr,asAgg,cell,PV.cells,O6,T1,amo,asi,Nat.reduceAdd,ao,asInt,asBool,BY,U,AI,JM,az];unfold cJ;generalize (!wi bp 0 1000000|| !wi within 0 86400|| !wi cap 0 1000000)=c;cases c with
 |true=>rfl
 |false=>
  simp only[cQ,IT];by_cases j5:l.length>16
  ·rw[IN (by simp;omega),IN j5];rfl
  ·rw[IS (by simp;omega),IS j5,←cY];refine aC (fun k=>(l.map aM.pv,(l.length:Int),(k:Int),seen PV.str ((l.map aM.id).take k),())) l.length _ (fun k hk rec=>?_) (fun rec=>?_) ?_ rfl
   ·have h1:(k:Int)<(l.length:Int):=by omega
    have hid:=AN l[k].id (hl.2 _ (aqW hk)).id;have oK:=fX mU l[k].id ((l.map aM.id).take k);have mC:=eX mU l[k].id ((l.map aM.id).take k);simp only[so,cT,h1,BY,ag,AT,cN hk,No,U,aa3,ajW,ajX,ajY,ajZ,aj0,aO,asInt,asBool,hid,oK,mC,JM,az,ab (show k<9223372036854775807 by omega),ll aM.id l k hk];unfold Hx;rw[cN hk];have hb:(!wi l[k].jM 0 1000000|| !wi l[k].b8 1 8|| !wi l[k].j4 1 16|| !wi l[k].fq 0 86400|| !wi l[k].bQ 1 255)=oq l[k]:=rfl;simp only[hb];generalize oq l[k]=c;cases eW l[k].id with
    |false=>rfl
    |true=>
     by_cases bB:l[k].id∈(l.map aM.id).take k
     ·simp only[bB,BY,ahX,cQ,asp,IT];rfl
     ·simp only[bB,BY,ahX,cQ,asp,IT];cases c<;>rfl
   ·simp only[so,cT,asl,IT];rfl
   ·have:=aw;omega
theorem aiK(n a b:Int):b9 [.int .i64 n,.int .i64 a,.int .i64 b]=some (.bool (wi n a b)):=Mm n a b
theorem SG(l:List aM)(hl:l.length≤maxLen)(d w c:Int)(i:Nat)(hi:i<l.length)(jU:Int×List PV×Int×Int×Int×Unit→Option PV):bd.run (qL jU) ((i:Int),0,l.map aM.pv,d,w,c,.str l[i].id,.int .i64 l[i].jM,.int .i64 l[i].b8,.int .i64 l[i].j4,.int .i64 l[i].fq,.int .i64 l[i].bQ,())=if l[i].id∈(l.map aM.id).take i then some (res i 6)else if oq l[i]=true then some (res i 2)else jU (IntKind.i64.wrap ((i:Int)+1),l.map aM.pv,d,w,c,()):=by
 have hm:=ai;refine(cX (fun k=>((i:Int),(k:Int),l.map aM.pv,d,w,c,PV.str l[i].id,PV.int .i64 l[i].jM,PV.int .i64 l[i].b8,PV.int .i64 l[i].j4,PV.int .i64 l[i].fq,PV.int .i64 l[i].bQ,())) i (fun k=>decide ((l.map aM.id)[k]?=some l[i].id)) (no:=some (res i 6)) (fin:=if oq l[i]=true then some (res i 2)else jU (IntKind.i64.wrap ((i:Int)+1),l.map aM.pv,d,w,c,())) (fun k hk rec=>?_) (fun rec=>?_) ?_ rfl).trans ?_
 ·have h1:(k:Int)<(i:Int):=by omega
  have sG:k<l.length:=by omega
  simp only[qL,cT,h1,BY,ag,AT,cN sG,No,U,aa3,aO,ab (show k<9223372036854775807 by omega),bT,cO];rfl
 ·simp only[qL,cT,asl,IT,U,asInt,BY,aiK,asBool,az];rfl
 ·have:=aw;omega
 ·rw[jg _ _ (by simp;omega)];simp_all
theorem aa4(l:List aM)(bp within cap:Int)(hl:l.length≤maxLen∧∀y∈l,y.Ok):s7 [dr l bp within cap]=some (res (cJ l bp within cap).1 (cJ l bp within cap).2):=by
 have hm:=ai;simp only[s7,Dz,dr,asAgg,cell,PV.cells,O6,T1,amo,asi,Nat.reduceAdd,ao,asInt,asBool,BY,U,AI,aiK,az];unfold cJ;generalize (!wi bp 0 1000000|| !wi within 0 86400|| !wi cap 0 1000000)=c;cases c with
 |true=>rfl
 |false=>
  simp only[cQ,IT];by_cases j5:l.length>16
  ·rw[IN (by simp;omega),IN j5];rfl
  ·rw[IS (by simp;omega),IS j5,←cY];refine aC (fun k=>((k:Int),l.map aM.pv,bp,within,cap,())) l.length _ (fun k hk rec=>?_) (fun rec=>?_) ?_ rfl
   ·have h1:(k:Int)<(l.length:Int):=by omega
    have hid:=BG l[k].id (hl.2 _ (aqW hk)).id;have kY:=SG l hl.1 bp within cap k hk rec;simp only[xf,cT,AI,h1,BY,ag,AT,cN hk,No,U,aa3,ajW,ajX,ajY,ajZ,aj0,aO,asBool,hid,kY,ab (show k<9223372036854775807 by omega)];unfold Hx;rw[cN hk];simp only;generalize oq l[k]=c;cases eW l[k].id with
    |false=>rfl
    |true=>
     by_cases bB:l[k].id∈(l.map aM.id).take k
     ·simp only[bB,BY,ahX,cQ,asp,IT];rfl
     ·simp only[bB,BY,ahX,cQ,asp,IT];cases c<;>rfl
   ·simp only[xf,cT,AI,asl,IT];rfl
   ·have:=aw;omega
theorem uU(x:aY):cell x.pv 0=.int .i64 x.stop:=rfl
theorem DA(x:aY):cell x.pv 1=.int .i64 x.arr:=rfl
theorem rM(x:aY):cell x.pv 2=.int .i64 x.dep:=rfl
def JN(l:List aY):Nat→Option aY
 |0=>none
 |k+1=>l[k]?
def JH(c:aY)(p:Option aY)(stops low high:Int):Int:=
 if(decide (c.stop<0)||decide (c.stop≥stops))=true then 9
 else if(match p with|some p=>decide (p.stop=c.stop)|none=>false)=true then 13
 else if(decide (c.arr<low)||decide (c.arr>c.dep)||decide (c.dep>high)||(match p with|some p=>decide (c.arr<p.dep)|none=>false))=true then 10 else 0
def vp(l:List aY)(stops low high:Int)(k:Nat):Int:=match l[k]? with
 |none=>0
 |some c=>JH c (JN l k) stops low high
def gS(l:List aY)(stops low high:Int):Int×Int:=if(decide ((l.length:Int)<2)||decide ((l.length:Int)>32))=true then(0,5)else bW (vp l stops low high) l.length
theorem ic(j:Nat)(h:j<9223372036854775807):IntKind.i64.wrap (((j+1:Nat):Int)-1)=(j:Int):=by grind [aZ]
theorem SH(l:List aY)(stops low high:Int)(k:Nat)(hk:k<l.length)(hl:l.length≤maxLen):BI [.rs 5 (l.map aY.pv),.int .i64 k,.int .i64 stops,.int .i64 low,.int .i64 high]=some (.int .i64 (vp l stops low high k)):=by
 have hm:=ai;simp only[BI,Mq,ao,asInt,BY,U,ag,AT,cN hk,No,uU,DA,rM,az];unfold vp JH;rw[cN hk];simp only;cases k with
 |zero=>
  have h0:decide (((0:Nat):Int)>0)=false:=by rfl
  simp only[h0,cond_false,U,az,ata,JN];grind
 |succ j=>
  have h0:decide (((j+1:Nat):Int)>0)=true:=by simp
  have hj:j<l.length:=by omega
  simp only[h0,cond_true,U,ic j (by omega),ag,AT,cN hj,No,uU,rM,asInt,BY,JN,bT,az];grind
theorem OS(l:List aY)(stops low high:Int)(hl:l.length≤maxLen):qM [.rs 5 (l.map aY.pv),.int .i64 stops,.int .i64 low,.int .i64 high]=some (res (gS l stops low high).1 (gS l stops low high).2):=by
 have hm:=ai;simp only[qM,Gh,ao,asInt,BY,U,AI,az];unfold gS;split
 ·rfl
 ·rw[←cY];refine aC (fun k=>(l.map aY.pv,stops,low,high,(l.length:Int),(k:Int),())) l.length _ (fun k hk rec=>?_) (fun rec=>?_) ?_ rfl
  ·have h1:(k:Int)<(l.length:Int):=by omega
   simp only[zR,cT,h1,BY,SH l stops low high k hk hl,U,asInt,ab (show k<9223372036854775807 by omega),eC];grind [vp,DB,bK,res]
  ·simp only[zR,cT,asl,IT];rfl
  ·have:=aw;omega
theorem aa5(l:List aY)(stops low high:Int)(hl:l.length≤maxLen):s8 [.rs 5 (l.map aY.pv),.int .i64 stops,.int .i64 low,.int .i64 high]=some (.int .i64 (gS l stops low high).2):=by
 have hm:=ai;simp only[s8,DC,ao,asInt,BY,U,AI,az];unfold gS;split
 ·rfl
 ·rw[←Mr];refine aC (fun k=>(l.map aY.pv,stops,low,high,(k:Int),())) l.length _ (fun k hk rec=>?_) (fun rec=>?_) ?_ rfl
  ·have h1:(k:Int)<(l.length:Int):=by omega
   simp only[xg,cT,AI,h1,BY,ag,AT,cN hk,No,U,uU,DA,rM,asInt,az,ab (show k<9223372036854775807 by omega)];unfold vp JH;rw[cN hk];simp only;cases k with
   |zero=>
    have h0:decide (((0:Nat):Int)>0)=false:=by rfl
    simp only[h0,cond_false,U,az,ata,JN];generalize (decide (l[0].stop<0)||decide (l[0].stop≥stops))=A;generalize (decide (l[0].arr<low)||decide (l[0].arr>l[0].dep)||decide (l[0].dep>high))=B;cases A<;>cases B<;>rfl
   |succ j=>
    have h0:decide (((j+1:Nat):Int)>0)=true:=by simp
    have hj:j<l.length:=by omega
    have hc:decide (l[j+1].stop=l[j].stop)=decide (l[j].stop=l[j+1].stop):=by grind
    simp only[h0,cond_true,U,ic j (by omega),ag,AT,cN hj,No,uU,rM,asInt,BY,JN,bT,az,hc];generalize (decide (l[j+1].stop<0)||decide (l[j+1].stop≥stops))=A;generalize (decide (l[j+1].arr<low)||decide (l[j+1].arr>l[j+1].dep)||decide (l[j+1].dep>high))=B;generalize decide (l[j].stop=l[j+1].stop)=C;generalize decide (l[j+1].arr<l[j].dep)=D;cases A<;>cases B<;>cases C<;>cases D<;>rfl
  ·simp[xg,cT,AI,asl,IT]
  ·have:=aw;omega
structure cy where
 bD:Int
 day:Int
 inst:Int
 id:Bytes
 dG:Int
 free:Bool
 aay:Bool
 calls:List aY
 deriving DecidableEq
def cy.pv(x:cy):PV:=.agg [.int .i64 x.bD,.int .i64 x.day,.int .i64 x.inst,.str x.id,.int .i64 x.dG,.bool x.free,.bool x.aay,.rs 5 (x.calls.map aY.pv)]
structure cy.fB(M:Nat)(x:cy):Prop where
 bD:jN x.bD
 day:jN x.day
 inst:jN x.inst
 id:x.id.length≤M
 dG:jN x.dG
 calls:x.calls.length≤M∧∀y∈x.calls,y.fB M
abbrev cy.Ok(x:cy):Prop:=x.fB maxLen
theorem ahe(r:cy):asAgg 8 r.pv=some ():=rfl
theorem aqr(r:cy):PV.agg [cell r.pv 0,cell r.pv 1,cell r.pv 2,cell r.pv 3,cell r.pv 4,cell r.pv 5,cell r.pv 6,cell r.pv 7]=r.pv:=rfl
theorem pC(x:cy):cell x.pv 0=.int .i64 x.bD:=rfl
theorem UI(x:cy):cell x.pv 1=.int .i64 x.day:=rfl
theorem UJ(x:cy):cell x.pv 2=.int .i64 x.inst:=rfl
theorem UK(x:cy):cell x.pv 3=.str x.id:=rfl
theorem J4(x:cy):cell x.pv 4=.int .i64 x.dG:=rfl
theorem UL(x:cy):cell x.pv 5=.bool x.free:=rfl
theorem UM(x:cy):cell x.pv 6=.bool x.aay:=rfl
theorem C4(x:cy):cell x.pv 7=.rs 5 (x.calls.map aY.pv):=rfl
structure bq where
 a:Int
 ac:Int
 b:Int
 bc:Int
 stay:Bool
 deriving DecidableEq
def bq.pv(x:bq):PV:=.agg [.int .i64 x.a,.int .i64 x.ac,.int .i64 x.b,.int .i64 x.bc,.bool x.stay]
structure bq.fB(M:Nat)(x:bq):Prop where
 a:jN x.a
 ac:jN x.ac
 b:jN x.b
 bc:jN x.bc
abbrev bq.Ok(x:bq):Prop:=x.fB maxLen
theorem Mb(x:bq):cell x.pv 0=.int .i64 x.a:=rfl
theorem Se(x:bq):cell x.pv 1=.int .i64 x.ac:=rfl
theorem link2(x:bq):cell x.pv 2=.int .i64 x.b:=rfl
theorem Sf(x:bq):cell x.pv 3=.int .i64 x.bc:=rfl
theorem OH(x:bq):cell x.pv 4=.bool x.stay:=rfl
theorem Hn(x:Path):cell x.pv 0=.int .i64 x.a:=rfl
theorem Ho(x:Path):cell x.pv 1=.int .i64 x.b:=rfl
theorem L9(x:Path):cell x.pv 2=.int .i64 x.fq:=rfl
theorem Hq(x:Path):cell x.pv 3=.bool x.free:=rfl
structure an where
 stops:List Stop
 aj:List ax
 runs:List cy
 aH:List bq
 paths:List Path
 aK:List aM
 bp:Int
 within:Int
 cap:Int
 deriving DecidableEq
def an.pv(x:an):PV:=.agg [.rs 4 (x.stops.map Stop.pv),.rs 3 (x.aj.map ax.pv),.rs 8 (x.runs.map cy.pv),.rs 5 (x.aH.map bq.pv),.rs 4 (x.paths.map Path.pv),.rs 6 (x.aK.map aM.pv),.int .i64 x.bp,.int .i64 x.within,.int .i64 x.cap]
structure an.fB(M:Nat)(x:an):Prop where
 stops:x.stops.length≤M∧∀y∈x.stops,y.fB M
 aj:x.aj.length≤M∧∀y∈x.aj,y.fB M
 runs:x.runs.length≤M∧∀y∈x.runs,y.fB M
 aH:x.aH.length≤M∧∀y∈x.aH,y.fB M
 paths:x.paths.length≤M∧∀y∈x.paths,y.fB M
 aK:x.aK.length≤M∧∀y∈x.aK,y.fB M
 bp:jN x.bp
 within:jN x.within
 cap:jN x.cap
abbrev an.Ok(x:an):Prop:=x.fB maxLen
theorem ku(x:an):asAgg 9 x.pv=some ():=rfl
theorem kv(x:an):ao 4 (cell x.pv 0)=some (x.stops.map Stop.pv):=rfl
theorem kx(x:an):ao 3 (cell x.pv 1)=some (x.aj.map ax.pv):=rfl
theorem ky(x:an):ao 8 (cell x.pv 2)=some (x.runs.map cy.pv):=rfl
theorem kz(x:an):ao 5 (cell x.pv 3)=some (x.aH.map bq.pv):=rfl
theorem kA(x:an):ao 4 (cell x.pv 4)=some (x.paths.map Path.pv):=rfl
theorem kB(x:an):ao 6 (cell x.pv 5)=some (x.aK.map aM.pv):=rfl
theorem kC(x:an):asInt .i64 (cell x.pv 6)=some x.bp:=rfl
theorem kD(x:an):asInt .i64 (cell x.pv 7)=some x.within:=rfl
theorem kE(x:an):asInt .i64 (cell x.pv 8)=some x.cap:=rfl
theorem oN(x:an):PV.agg [.rs 4 (x.stops.map Stop.pv),.rs 3 (x.aj.map ax.pv),.rs 8 (x.runs.map cy.pv),.rs 5 (x.aH.map bq.pv),.rs 4 (x.paths.map Path.pv),.rs 6 (x.aK.map aM.pv),.int .i64 x.bp,.int .i64 x.within,.int .i64 x.cap]=x.pv:=rfl
def r3(p i e:Int):PV:=.agg [.int .i64 p,.int .i64 i,.int .i64 e]
def prt(p:Int)(x:Int×Int):PV:=if x.2=0 then r3 0 0 0 else r3 p x.1 x.2
theorem r3A(p i e:Int):asAgg 3 (r3 p i e)=some ():=rfl
theorem r30(p i e:Int):cell (r3 p i e) 0=.int .i64 p:=rfl
theorem r31(p i e:Int):cell (r3 p i e) 1=.int .i64 i:=rfl
theorem r32(p i e:Int):cell (r3 p i e) 2=.int .i64 e:=rfl
theorem SI(p i e:Int):bA [.int .i64 p,.int .i64 i,.int .i64 e]=some (r3 p i e):=rfl
theorem Gi(n m:Int):dt [.int .i64 n,.int .i64 m]=some (.bool (decide (n≥0)&&decide (n<m))):=by simp[dt,xh,asInt,BY,U,aJ]
variable{R:Type}
theorem pw(f:Nat→Int)(n:Nat)(g:Int→Int→R)(fin:Option R):bK ((List.range n).findSome? fun k=>if f k=0 then none else some (some (g k (f k)))) fin=if(bW f n).2=0 then fin else some (g (bW f n).1 (bW f n).2):=by
 unfold bW;have:(List.range n).findSome? (fun k=>if f k=0 then none else some (some (g k (f k))))=((List.range n).findSome? (fun k=>if f k=0 then none else some ((k:Int),f k))).map fun x=>some (g x.1 x.2):=by rw[auN];congr 1;grind
 rw[this];cases hf:(List.range n).findSome? (fun k=>if f k=0 then none else some ((k:Int),f k))with
 |none=>rfl
 |some x=>
  obtain⟨k,_,hk⟩:=asY hf;have hx:x.2≠0:=by grind
  simp_all[No,bK,IS]
theorem se(f:Nat→Int)(n:Nat):(bW f n).2=0↔∀k,k<n→f k=0:=by
 unfold bW;cases hf:(List.range n).findSome? (fun k=>if f k=0 then none else some ((k:Int),f k))with
 |none=>simp_all
 |some x=>obtain⟨k,hk,hx⟩:=asY hf;grind
theorem Fu{S:Type}{body:S→(S→Option R)→Option R}(st:Nat→S)(n:Nat)(bad:Nat→Option (Option R)){fin:Option R}(h:∀k,k<n→(∀j,j<k→bad j=none)→∀rec,body (st k) rec=bK (bad k) (rec (st (k+1))))(tV:(∀j,j<n→bad j=none)→∀rec,body (st n) rec=fin)(hn:n<rounds){s0:S}(h0:st 0=s0):bd.run body s0=bK ((List.range n).findSome? bad) fin:=by
 by_cases yr:∀j,j<n→bad j=none
 ·have:(List.range n).findSome? bad=none:=by simp_all
  rw[this];refine bg st n (fun k hk rec=>?_) (tV yr) hn h0;rw[h k hk (fun j hj=>yr j (by omega)),yr k hk];rfl
 ·have hex:∃m,m<n∧bad m≠none∧∀j,j<m→bad j=none:=by
   have key:∀m,(∃i,i<m∧i<n∧bad i≠none)→∃m,m<n∧bad m≠none∧∀j,j<m→bad j=none:=by
    intro m;induction m with
    |zero=>omega
    |succ m ih=>
     intro hi;by_cases hc:∃i,i<m∧i<n∧bad i≠none
     ·exact ih hc
     grind
   have hc:∃i,i<n∧bad i≠none:=by simp_all
   obtain⟨i,h1,h2⟩:=hc;exact key n ⟨i,h1,h1,h2⟩
  obtain⟨m,hm,hb,cd⟩:=hex;cases hbm:bad m with
  |none=>exact absurd hbm hb
  |some x=>
   have hf:(List.range n).findSome? bad=some x:=by
    have hnm:n=m+(n-m):=by omega
    rw[hnm,List.range_add,List.findSome?_append];have h1:(List.range m).findSome? bad=none:=by grind
    rw[h1,Option.none_or];have hd:n-m=(n-m-1)+1:=by omega
    rw[hd,atE,ass,as3,atv,hbm]
   rw[hf];refine bg st m (fun k hk rec=>?_) (fun rec=>?_) (by omega) h0
   ·rw[h k (by omega) (fun j hj=>cd j (by omega)),cd k hk];rfl
   ·rw[h m hm cd,hbm];rfl
theorem Xr{A:Type}[DecidableEq A](a b:List A)(h:a.length=b.length)(no fin:Option R):bK ((List.range a.length).findSome? fun k=>if a[k]?=b[k]? then none else some no) fin=if a=b then fin else no:=by
 by_cases Az:a=b
 ·rw[IN Az];have:(List.range a.length).findSome? (fun k=>if a[k]?=b[k]? then none else some no)=none:=by simp_all
  rw[this];rfl
 ·rw[IS Az];cases hf:(List.range a.length).findSome? (fun k=>if a[k]?=b[k]? then none else some no)with
  |none=>refine absurd (asB fun k=>?_) Az;grind
  |some x=>
   obtain⟨k,hk,hx⟩:=asY hf;by_cases h0:a[k]?=b[k]?
   ·simp_all
   ·rw[IS h0]at hx;simp only[cO]at hx;subst hx;rfl
end Go.Ab.Tt
