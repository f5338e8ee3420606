import Derived.Test.YtmbihgjlollbeaaGreatFbP3
import Derived.Test.YtmbihgjlollbeaaGreatSh6
namespace Go.Ab.Tt
set_option maxRecDepth 100000
set_option linter.all false
theorem Tw(s:Bytes)(hs:s.length≤maxLen):nW [.str s]=some (.bool (eW s)):=by
 have hm:=ai;simp only[nW,DT,aO,U,az];refine EI s hs (fun k hk rec=>?_) (fun rec=>?_) ?_
 ·have h1:(k:Int)<(s.length:Int):=by omega
  simp only[xM,cT,h1,BY,Du,cN hk,U,aJ,az,ab (show k<9223372036854775807 by omega),eC];grind [lx,ge_iff_le,decide]
 ·simp[xM,cT,asl,IT]
 grind
theorem V0(s:Bytes)(hs:s.length≤maxLen):kW [.str s]=some (.bool (eW s)):=by
 have hm:=ai;simp only[kW,sx,aO,U,az];refine EI s hs (fun k hk rec=>?_) (fun rec=>?_) ?_
 ·have h1:(k:Int)<(s.length:Int):=by omega
  simp only[nN,cT,h1,BY,Du,cN hk,U,aJ,az,ab (show k<9223372036854775807 by omega),bT];grind [lx,ge_iff_le,decide]
 ·simp[nN,cT,asl,IT]
 grind
theorem HR(s:Bytes)(hs:s.length≤maxLen):rB [.str s]=some (.bool (eW s)):=by
 have hm:=ai;simp only[rB,Gv,aO,U,az];refine EI s hs (fun k hk rec=>?_) (fun rec=>?_) ?_
 ·have h1:(k:Int)<(s.length:Int):=by omega
  simp only[Ah,cT,h1,BY,Du,cN hk,U,aJ,az,ab (show k<9223372036854775807 by omega),bT];grind [lx,ge_iff_le,decide]
 ·simp[Ah,cT,asl,IT]
 grind
theorem abB(l:List Stop)(hl:l.length≤maxLen)(s:Bytes):vF [.rs 4 (l.map Stop.pv),.str s]=some (.int .i64 (HQ (l.map Stop.id) s)):=by
 have hm:=ai;simp only[vF,Gu,ao,aO,BY,U];refine(aC (fun k=>(l.map Stop.pv,s,(k:Int),())) l.length (fun k=>if decide ((l.map Stop.id)[k]?=some s)=true then some (some (.int .i64 k))else none) (fin:=some (.int .i64 (-1))) (fun k hk rec=>?_) (fun rec=>?_) ?_ rfl).trans ?_
 ·have h1:(k:Int)<(l.length:Int):=by omega
  simp only[Ag,cT,AI,h1,BY,ag,AT,cN hk,No,U,Stop.pv,cell,PV.cells,O6,aO,ab (show k<9223372036854775807 by omega),bT,cO];grind [bK]
 ·simp[Ag,cT,AI,asl,IT]
 ·have:=aw;omega
 ·rw[iw];unfold HQ;simp only[AI];cases(List.range l.length).find? fun k=>decide ((l.map Stop.id)[k]?=some s)<;>rfl
theorem agd(l:List Stop)(hl:l.length≤maxLen∧∀y∈l,y.Ok):th [.rs 4 (l.map Stop.pv)]=some (res (fH l).1 (fH l).2):=by
 have hm:=ai;simp only[th,DS,ao,BY,U,AI];unfold fH;by_cases j5:l.length>64
 ·rw[IN (by simp;omega),IN j5];rfl
 ·rw[IS (by simp;omega),IS j5,←cY];refine aC (fun k=>(l.map Stop.pv,(k:Int),())) l.length _ (fun k hk rec=>?_) (fun rec=>?_) ?_ rfl
  ·have h1:(k:Int)<(l.length:Int):=by omega
   have hid:=V0 l[k].id (hl.2 _ (aqW hk)).id;have MY:=abB l hl.1 l[k].id;have cd:=ah7 (l.map Stop.id) k (by simpa using hk);simp only[List.getElem_map]at cd;simp only[xL,cT,AI,h1,BY,ag,AT,cN hk,No,U,Stop.pv,cell,PV.cells,O6,T1,aO,asInt,asBool,hid,MY,az,ab (show k<9223372036854775807 by omega)];unfold Hl;rw[cN hk];simp only;generalize (decide (l[k].ug<0)||decide (l[k].ug≥16)||decide (l[k].change<0)||decide (l[k].change>3600))=c;cases eW l[k].id with
   |false=>rfl
   |true=>
    by_cases bB:l[k].id∈(l.map Stop.id).take k
    ·simp only[cd.2 bB,bB,BY,ahX,cQ,asp,IT];rfl
    ·have hn:¬HQ (l.map Stop.id) l[k].id<(k:Int):=fun h=>bB (cd.1 h);simp only[hn,bB,BY,ahX,cQ,asp,IT];cases c<;>rfl
  ·simp only[xL,cT,AI,asl,IT];rfl
  ·have:=aw;omega
theorem Tx(l:List ax)(hl:l.length≤maxLen)(i:Nat)(hi:i<l.length)(jU:List PV×Int×Unit→Option PV):bd.run (rC jU) (l.map ax.pv,(i:Int),0,())=if l[i].id∈(l.map ax.id).take i then some (res i 6)else if(decide (l[i].mode≥0)&&decide (l[i].mode<8))=false then some (res i 2)else jU (l.map ax.pv,IntKind.i64.wrap ((i:Int)+1),()):=by
 have hm:=ai;refine(aC (fun k=>(l.map ax.pv,(i:Int),(k:Int),())) i (fun k=>if decide ((l.map ax.id)[k]?=some l[i].id)=true then some (some (res i 6))else none) (fin:=if(decide (l[i].mode≥0)&&decide (l[i].mode<8))=false then some (res i 2)else jU (l.map ax.pv,IntKind.i64.wrap ((i:Int)+1),())) (fun k hk rec=>?_) (fun rec=>?_) ?_ rfl).trans ?_
 ·have h1:(k:Int)<(i:Int):=by omega
  have sG:k<l.length:=by omega
  simp only[rC,cT,h1,BY,ag,AT,cN sG,cN hi,No,U,ax.pv,cell,PV.cells,O6,aO,ab (show k<9223372036854775807 by omega),bT,cO];grind [bK,res]
 ·simp only[rC,cT,asl,IT,ag,AT,cN hi,No,U,ax.pv,cell,PV.cells,O6,T1,asInt,asBool,BY,BW,Gw,aJ];generalize (decide (l[i].mode≥0)&&decide (l[i].mode<8))=c;cases c<;>rfl
 ·have:=aw;omega
 ·rw[iw];cases hf:(List.range i).find? fun k=>decide ((l.map ax.id)[k]?=some l[i].id)with
  |none=>
   have hn:l[i].id∉(l.map ax.id).take i:=fun bB=>by obtain⟨j,hj⟩:=asy.1 bB;grind
   rw[IS hn];rfl
  |some j=>rw[atP]at hf;obtain⟨h1,h2,_⟩:=hf;have bB:l[i].id∈(l.map ax.id).take i:=asy.2 ⟨j,by simp_all⟩;rw[IN bB];rfl
theorem abC(l:List ax)(hl:l.length≤maxLen∧∀y∈l,y.Ok):tn [.rs 3 (l.map ax.pv)]=some (res (eN l).1 (eN l).2):=by
 have hm:=ai;simp only[tn,DV,ao,BY,U,AI];unfold eN;by_cases j5:l.length>64
 ·rw[IN (by simp;omega),IN j5];rfl
 ·rw[IS (by simp;omega),IS j5,←cY];refine aC (fun k=>(l.map ax.pv,(k:Int),())) l.length _ (fun k hk rec=>?_) (fun rec=>?_) ?_ rfl
  ·have h1:(k:Int)<(l.length:Int):=by omega
   have hid:=HR l[k].id (hl.2 _ (aqW hk)).id;have kY:=Tx l hl.1 k hk rec;have pk:cell (l[k].pv) 0=.str l[k].id:=rfl;simp only[xS,cT,AI,h1,BY,ag,AT,cN hk,No,U,pk,aO,asBool,hid,kY,ab (show k<9223372036854775807 by omega)];unfold Dd;rw[cN hk];simp only;generalize (decide (l[k].mode≥0)&&decide (l[k].mode<8))=c;cases eW l[k].id with
   |false=>rfl
   |true=>
    by_cases bB:l[k].id∈(l.map ax.id).take k
    ·simp only[bB,BY,ahX,cQ,asp,IT];rfl
    ·simp only[bB,BY,ahX,cQ,asp,IT];cases c<;>rfl
  ·simp only[xS,cT,AI,asl,IT];rfl
  ·have:=aw;omega
def dv(n:Int):Bool:=decide (0≤n)&&decide (n≤36524)
theorem ZG(n:Int):fj [.int .i64 n]=some (.bool (dv n)):=by simp only[fj,BO,asInt,BY,U,aJ];rfl
theorem Ty(n:Int):eg [.int .i64 n]=some (.bool (dv n)):=by simp only[eg,yR,asInt,BY,U,aJ];rfl
def V1(l:List mL)(k:Nat):Int:=match l[k]? with
 |none=>0
 |some x=>if eW x.id=false then 12 else if x.id∈(l.map mL.id).take k then 6 else if(!dv x.Ct|| !dv x.Cu||decide (x.Ct>x.Cu))=true then 11 else 0
def Eg(l:List mL):Int×Int:=if l.length>64 then(0,5)else bW (V1 l) l.length
theorem amt(x:mL):cell x.pv 0=.str x.id:=rfl
theorem abo(x:mL):cell x.pv 8=.int .i64 x.Ct:=rfl
theorem abp(x:mL):cell x.pv 9=.int .i64 x.Cu:=rfl
theorem age(l:List mL)(hl:l.length≤maxLen∧∀y∈l,y.Ok):nk [.rs 10 (l.map mL.pv)]=some (res (Eg l).1 (Eg l).2):=by
 have hm:=ai;simp only[nk,xv,ao,BY,U,AI];unfold Eg;by_cases j5:l.length>64
 ·rw[IN (by simp;omega),IN j5];rfl
 ·rw[IS (by simp;omega),IS j5,←cY];refine aC (fun k=>(l.map mL.pv,(l.length:Int),(k:Int),seen PV.str ((l.map mL.id).take k),())) l.length _ (fun k hk rec=>?_) (fun rec=>?_) ?_ rfl
  ·have h1:(k:Int)<(l.length:Int):=by omega
   have hid:=AN l[k].id (hl.2 _ (aqW hk)).id;have oK:=fX mU l[k].id ((l.map mL.id).take k);have mC:=eX mU l[k].id ((l.map mL.id).take k);simp only[ry,cT,h1,BY,ag,AT,cN hk,No,U,amt,abo,abp,aO,asInt,asBool,hid,oK,mC,ZG,ab (show k<9223372036854775807 by omega),ll mL.id l k hk];unfold V1;rw[cN hk];simp only;cases eW l[k].id with
   |false=>rfl
   |true=>
    by_cases bB:l[k].id∈(l.map mL.id).take k
    ·simp only[bB,BY,ahX,cQ,asp,IT];rfl
    ·simp only[bB,BY,ahX,cQ,asp,IT];by_cases hgt:l[k].Ct>l[k].Cu
     ·simp only[hgt,asv,ave,BY];cases dv l[k].Ct<;>cases dv l[k].Cu<;>rfl
     ·simp only[hgt,asx,ata,IT];cases dv l[k].Ct<;>cases dv l[k].Cu<;>rfl
  ·simp only[ry,cT,asl,IT];rfl
  ·have:=aw;omega
theorem abD(l:List mL)(hl:l.length≤maxLen)(i:Nat)(hi:i<l.length)(jU:List PV×Int×Unit→Option PV):bd.run (rA jU) (l.map mL.pv,(i:Int),0,())=if l[i].id∈(l.map mL.id).take i then some (res i 6)else if(!dv l[i].Ct|| !dv l[i].Cu||decide (l[i].Ct>l[i].Cu))=true then some (res i 11)else jU (l.map mL.pv,IntKind.i64.wrap ((i:Int)+1),()):=by
 have hm:=ai;refine(cX (fun k=>(l.map mL.pv,(i:Int),(k:Int),())) i (fun k=>decide ((l.map mL.id)[k]?=some l[i].id)) (no:=some (res i 6)) (fin:=if(!dv l[i].Ct|| !dv l[i].Cu||decide (l[i].Ct>l[i].Cu))=true then some (res i 11)else jU (l.map mL.pv,IntKind.i64.wrap ((i:Int)+1),())) (fun k hk rec=>?_) (fun rec=>?_) ?_ rfl).trans ?_
 ·have h1:(k:Int)<(i:Int):=by omega
  have sG:k<l.length:=by omega
  simp only[rA,cT,h1,BY,ag,AT,cN sG,cN hi,No,U,amt,aO,ab (show k<9223372036854775807 by omega),bT,cO];rfl
 ·simp only[rA,cT,asl,IT,ag,AT,cN hi,No,U,abo,abp,asInt,asBool,BY,Ty,az];rfl
 ·have:=aw;omega
 ·rw[jg _ _ (by simp;omega)];simp_all
theorem ah9(l:List mL)(hl:l.length≤maxLen∧∀y∈l,y.Ok):tl [.rs 10 (l.map mL.pv)]=some (res (Eg l).1 (Eg l).2):=by
 have hm:=ai;simp only[tl,DU,ao,BY,U,AI];unfold Eg;by_cases j5:l.length>64
 ·rw[IN (by simp;omega),IN j5];rfl
 ·rw[IS (by simp;omega),IS j5,←cY];refine aC (fun k=>(l.map mL.pv,(k:Int),())) l.length _ (fun k hk rec=>?_) (fun rec=>?_) ?_ rfl
  ·have h1:(k:Int)<(l.length:Int):=by omega
   have hid:=Tw l[k].id (hl.2 _ (aqW hk)).id;have kY:=abD l hl.1 k hk rec;simp only[xR,cT,AI,h1,BY,ag,AT,cN hk,No,U,amt,aO,asBool,hid,kY,ab (show k<9223372036854775807 by omega)];unfold V1;rw[cN hk];simp only;generalize (!dv l[k].Ct|| !dv l[k].Cu||decide (l[k].Ct>l[k].Cu))=c;cases eW l[k].id with
   |false=>rfl
   |true=>
    by_cases bB:l[k].id∈(l.map mL.id).take k
    ·simp only[bB,BY,ahX,cQ,asp,IT];rfl
    ·simp only[bB,BY,ahX,cQ,asp,IT];cases c<;>rfl
  ·simp only[xR,cT,AI,asl,IT];rfl
  ·have:=aw;omega
def kX(x:pF):Int×Int:=(x.wI,x.day)
def V2(l:List pF)(n:Int)(k:Nat):Int:=match l[k]? with
 |none=>0
 |some x=>if(decide (x.wI<0)||decide (x.wI≥n))=true then 9 else if dv x.day=false then 11 else if kX x∈(l.map kX).take k then 6 else 0
def Eh(l:List pF)(n:Int):Int×Int:=if l.length>256 then(0,5)else bW (V2 l n) l.length
def I8(x:Int×Int):PV:=.agg [.int .i64 x.1,.int .i64 x.2]
theorem Tz(a b:Int×Int):cz (I8 a).cells (I8 b).cells=decide (a=b):=by obtain⟨a1,a2⟩:=a;obtain⟨b1,b2⟩:=b;rw[asS];simp[I8,PV.cells,cz,peq]
theorem afU(x:pF):cell x.pv 0=.int .i64 x.wI:=rfl
theorem afV(x:pF):cell x.pv 1=.int .i64 x.day:=rfl
theorem agf(l:List pF)(n:Int)(hl:l.length≤maxLen∧∀y∈l,y.Ok):ep [.rs 3 (l.map pF.pv),.int .i64 n]=some (res (Eh l n).1 (Eh l n).2):=by
 have hm:=ai;simp only[ep,iR,ao,asInt,BY,U,AI];unfold Eh;by_cases j5:l.length>256
 ·rw[IN (by simp;omega),IN j5];rfl
 ·rw[IS (by simp;omega),IS j5,←cY];refine aC (fun k=>(n,l.map pF.pv,(l.length:Int),(k:Int),seen I8 ((l.map kX).take k),())) l.length _ (fun k hk rec=>?_) (fun rec=>?_) ?_ rfl
  ·have h1:(k:Int)<(l.length:Int):=by omega
   have oK:dJ (.agg [.int .i64 l[k].wI,.int .i64 l[k].day]) (.bool true) (seen I8 ((l.map kX).take k))=_:=fX Tz (kX l[k]) ((l.map kX).take k);have mC:cB (.agg [.int .i64 l[k].wI,.int .i64 l[k].day]) (.bool false) (seen I8 ((l.map kX).take k))=_:=eX Tz (kX l[k]) ((l.map kX).take k);simp only[gj,cT,h1,BY,ag,AT,cN hk,No,U,afU,afV,asInt,asBool,oK,mC,ZG,az,ab (show k<9223372036854775807 by omega),ll kX l k hk];unfold V2;rw[cN hk];simp only;generalize (decide (l[k].wI<0)||decide (l[k].wI≥n))=c;by_cases bB:kX l[k]∈(l.map kX).take k
   ·simp only[bB,BY];cases c<;>cases dv l[k].day<;>rfl
   ·simp only[bB,IT];cases c<;>cases dv l[k].day<;>rfl
  ·simp only[gj,cT,asl,IT];rfl
  ·have:=aw;omega
theorem abE(l:List pF)(n:Int)(hl:l.length≤maxLen)(i:Nat)(hi:i<l.length)(uK:List PV×Int×Int×Unit→Option PV):bd.run (fk uK) (l.map pF.pv,n,(i:Int),0,())=if kX l[i]∈(l.map kX).take i then some (res i 6)else uK (l.map pF.pv,n,IntKind.i64.wrap ((i:Int)+1),()):=by
 have hm:=ai;refine(cX (fun k=>(l.map pF.pv,n,(i:Int),(k:Int),())) i (fun k=>decide ((l.map kX)[k]?=some (kX l[i]))) (no:=some (res i 6)) (fin:=uK (l.map pF.pv,n,IntKind.i64.wrap ((i:Int)+1),())) (fun k hk rec=>?_) (fun rec=>?_) ?_ rfl).trans ?_
 ·have h1:(k:Int)<(i:Int):=by omega
  have sG:k<l.length:=by omega
  simp only[fk,cT,h1,BY,ag,AT,cN sG,cN hi,No,U,afU,afV,asInt,ab (show k<9223372036854775807 by omega),bT,aJ,cO,kX,amn,amm];rfl
 ·simp[fk,cT,asl,IT]
 ·have:=aw;omega
 ·rw[jg _ _ (by simp;omega)];simp_all
theorem aia(l:List pF)(n:Int)(hl:l.length≤maxLen∧∀y∈l,y.Ok):fM [.rs 3 (l.map pF.pv),.int .i64 n]=some (res (Eh l n).1 (Eh l n).2):=by
 have hm:=ai;simp only[fM,lH,ao,asInt,BY,U,AI];unfold Eh;by_cases j5:l.length>256
 ·rw[IN (by simp;omega),IN j5];rfl
 ·rw[IS (by simp;omega),IS j5,←cY];refine aC (fun k=>(l.map pF.pv,n,(k:Int),())) l.length _ (fun k hk rec=>?_) (fun rec=>?_) ?_ rfl
  ·have h1:(k:Int)<(l.length:Int):=by omega
   have kY:=abE l n hl.1 k hk rec;simp only[iS,cT,AI,h1,BY,ag,AT,cN hk,No,U,afU,afV,asInt,asBool,kY,Ty,az,ab (show k<9223372036854775807 by omega)];unfold V2;rw[cN hk];simp only;generalize (decide (l[k].wI<0)||decide (l[k].wI≥n))=c;by_cases bB:kX l[k]∈(l.map kX).take k
   ·simp only[bB,BY];cases c<;>cases dv l[k].day<;>rfl
   ·simp only[bB,IT];cases c<;>cases dv l[k].day<;>rfl
  ·simp only[iS,cT,AI,asl,IT];rfl
  ·have:=aw;omega
theorem V3(l:List aY)(stops:Int)(hl:l.length≤maxLen):tp [.rs 5 (l.map aY.pv),.int .i64 stops]=some (.int .i64 (gS l stops 0 172800).2):=by
 have hm:=ai;simp only[tp,DW,ao,asInt,BY,U,AI,az];unfold gS;split
 ·rfl
 ·rw[←Mr];refine aC (fun k=>(l.map aY.pv,stops,(k:Int),())) l.length _ (fun k hk rec=>?_) (fun rec=>?_) ?_ rfl
  ·have h1:(k:Int)<(l.length:Int):=by omega
   simp only[xU,cT,AI,h1,BY,ag,AT,cN hk,No,U,uU,DA,rM,asInt,az,ab (show k<9223372036854775807 by omega)];unfold vp JH;rw[cN hk];simp only;cases k with
   |zero=>
    have h0:decide (((0:Nat):Int)>0)=false:=by rfl
    simp only[h0,cond_false,U,az,ata,JN];generalize (decide (l[0].stop<0)||decide (l[0].stop≥stops))=A;generalize (decide (l[0].arr<0)||decide (l[0].arr>l[0].dep)||decide (l[0].dep>172800))=B;cases A<;>cases B<;>rfl
   |succ j=>
    have h0:decide (((j+1:Nat):Int)>0)=true:=by simp
    have hj:j<l.length:=by omega
    have hc:decide (l[j+1].stop=l[j].stop)=decide (l[j].stop=l[j+1].stop):=by grind
    simp only[h0,cond_true,U,ic j (by omega),ag,AT,cN hj,No,uU,rM,asInt,BY,JN,bT,az,hc];generalize (decide (l[j+1].stop<0)||decide (l[j+1].stop≥stops))=A;generalize (decide (l[j+1].arr<0)||decide (l[j+1].arr>l[j+1].dep)||decide (l[j+1].dep>172800))=B;generalize decide (l[j].stop=l[j+1].stop)=C;generalize decide (l[j+1].arr<l[j].dep)=D;cases A<;>cases B<;>cases C<;>cases D<;>rfl
  ·simp[xU,cT,AI,asl,IT]
  ·have:=aw;omega
theorem AX(x:br):cell x.pv 0=.str x.id:=rfl
theorem Cc(x:br):cell x.pv 1=.int .i64 x.dG:=rfl
theorem AY(x:br):cell x.pv 2=.int .i64 x.wI:=rfl
theorem xI(x:br):cell x.pv 4=.rs 5 (x.calls.map aY.pv):=rfl
def EN(l:List br)(stops aj dp:Int)(k:Nat):Int:=match l[k]? with
 |none=>0
 |some x=>if eW x.id=false then 12 else if x.id∈(l.map br.id).take k then 6 else if(decide (x.dG<0)||decide (x.dG≥aj)||decide (x.wI<0)||decide (x.wI≥dp))=true then 9 else(gS x.calls stops 0 172800).2
def te(l:List br)(stops aj dp:Int):Int×Int:=if l.length>256 then(0,5)else bW (EN l stops aj dp) l.length
theorem abF(l:List br)(stops aj dp:Int)(hl:l.length≤maxLen∧∀y∈l,y.Ok):vE [.rs 5 (l.map br.pv),.int .i64 stops,.int .i64 aj,.int .i64 dp]=some (res (te l stops aj dp).1 (te l stops aj dp).2):=by
 have hm:=ai;simp only[vE,Gt,ao,asInt,BY,U,AI];unfold te;by_cases j5:l.length>256
 ·rw[IN (by simp;omega),IN j5];rfl
 ·rw[IS (by simp;omega),IS j5,←cY];refine aC (fun k=>(stops,aj,dp,l.map br.pv,(l.length:Int),(k:Int),seen PV.str ((l.map br.id).take k),())) l.length _ (fun k hk rec=>?_) (fun rec=>?_) ?_ rfl
  ·have h1:(k:Int)<(l.length:Int):=by omega
   have hid:=AN l[k].id (hl.2 _ (aqW hk)).id;have oK:=fX mU l[k].id ((l.map br.id).take k);have mC:=eX mU l[k].id ((l.map br.id).take k);have yE:=OS l[k].calls stops 0 172800 (hl.2 _ (aqW hk)).calls.1;simp only[res]at yE;simp only[Af,cT,h1,BY,ag,AT,cN hk,No,U,AX,Cc,AY,xI,aO,asInt,asBool,ao,hid,oK,mC,yE,cn,amo,asi,Nat.reduceAdd,O6,T1,az,ab (show k<9223372036854775807 by omega),ll br.id l k hk,eC];unfold EN;rw[cN hk];simp only;generalize (gS l[k].calls stops 0 172800).2=e;cases eW l[k].id with
   |false=>rfl
   |true=>
    by_cases bB:l[k].id∈(l.map br.id).take k
    ·simp only[bB,BY,ahX,cQ,asp,IT];rfl
    ·simp only[bB,BY,ahX,cQ,asp,IT];cases decide (l[k].dG<0)<;>cases decide (l[k].dG≥aj)<;>cases decide (l[k].wI<0)<;>cases decide (l[k].wI≥dp)<;>(try rfl);grind [DB,bK,res]
  ·simp only[Af,cT,asl,IT];rfl
  ·have:=aw;omega
theorem abG(l:List br)(hl:l.length≤maxLen)(s:Bytes):vG [.rs 5 (l.map br.pv),.str s]=some (.int .i64 (HQ (l.map br.id) s)):=by
 have hm:=ai;simp only[vG,Gx,ao,aO,BY,U];refine(aC (fun k=>(l.map br.pv,s,(k:Int),())) l.length (fun k=>if decide ((l.map br.id)[k]?=some s)=true then some (some (.int .i64 k))else none) (fin:=some (.int .i64 (-1))) (fun k hk rec=>?_) (fun rec=>?_) ?_ rfl).trans ?_
 ·have h1:(k:Int)<(l.length:Int):=by omega
  simp only[Ai,cT,AI,h1,BY,ag,AT,cN hk,No,U,AX,aO,ab (show k<9223372036854775807 by omega),bT,cO];grind [bK]
 ·simp[Ai,cT,AI,asl,IT]
 ·have:=aw;omega
 ·rw[iw];unfold HQ;simp only[AI];cases(List.range l.length).find? fun k=>decide ((l.map br.id)[k]?=some s)<;>rfl
theorem agh(l:List br)(stops aj dp:Int)(hl:l.length≤maxLen∧∀y∈l,y.Ok)(k:Nat)(hk:k<l.length):yZ [.rs 5 (l.map br.pv),.int .i64 k,.int .i64 stops,.int .i64 aj,.int .i64 dp]=some (.int .i64 (EN l stops aj dp k)):=by
 have hm:=ai;have hid:=Tw l[k].id (hl.2 _ (aqW hk)).id;have yE:=V3 l[k].calls stops (hl.2 _ (aqW hk)).calls.1;have MY:=abG (l.take k) (by simp;omega) l[k].id;have Kk:=ah8 ((l.take k).map br.id) l[k].id;have htk:(l.take k).map br.id=(l.map br.id).take k:=by simp
 have htp:(l.take k).map br.pv=(l.map br.pv).take k:=by simp
 rw[htk]at Kk MY;rw[htp]at MY;have hc:(0:Int)≤0∧(0:Int)≤(k:Int)∧(k:Int)≤((l.map br.pv).length:Int)∧True∧5≠0:=⟨by omega,by omega,by simp;omega,trivial,by omega⟩;simp only[yZ,I1,ao,asInt,BY,U,ag,AT,cN hk,No,AX,Cc,AY,xI,aO,asBool,hid,yE,are,auR,aul,MY,az,cT];unfold EN;grind
theorem agi(l:List br)(stops aj dp:Int)(hl:l.length≤maxLen∧∀y∈l,y.Ok):tt [.rs 5 (l.map br.pv),.int .i64 stops,.int .i64 aj,.int .i64 dp]=some (res (te l stops aj dp).1 (te l stops aj dp).2):=by
 have hm:=ai;simp only[tt,DX,ao,asInt,BY,U,AI];unfold te;by_cases j5:l.length>256
 ·rw[IN (by simp;omega),IN j5];rfl
 ·rw[IS (by simp;omega),IS j5,←cY];refine aC (fun k=>(l.map br.pv,stops,aj,dp,(k:Int),())) l.length _ (fun k hk rec=>?_) (fun rec=>?_) ?_ rfl
  ·have h1:(k:Int)<(l.length:Int):=by omega
   simp only[xV,cT,AI,h1,BY,agh l stops aj dp hl k hk,U,asInt,ab (show k<9223372036854775807 by omega),eC];grind [EN,DB,bK,res]
  ·simp only[xV,cT,AI,asl,IT];rfl
  ·have:=aw;omega
theorem MZ(n a b:Int):dm [.int .i64 n,.int .i64 a,.int .i64 b]=some (.bool (wi n a b)):=by simp only[dm,BS,asInt,BY,U,aJ];rfl
theorem agj(x:aM):tB [.agg [cell x.pv 0,cell x.pv 1,cell x.pv 2,cell x.pv 3,cell x.pv 4,cell x.pv 5]]=some (.bool (!oq x)):=by simp only[aa3,ajW,ajX,ajY,ajZ,aj0];simp only[tB,D9,asAgg,cell,PV.cells,O6,T1,amo,asi,Nat.reduceAdd,aO,asInt,asBool,BY,U,MZ,aJ];unfold oq;simp
theorem V4(l:List aM)(hl:l.length≤maxLen)(i:Nat)(hi:i<l.length)(jU:List PV×Int×Unit→Option PV):bd.run (rH jU) (l.map aM.pv,(i:Int),0,())=if l[i].id∈(l.map aM.id).take i then some (res i 6)else if oq l[i]=true then some (res i 2)else jU (l.map aM.pv,IntKind.i64.wrap ((i:Int)+1),()):=by
 have hm:=ai;refine(cX (fun k=>(l.map aM.pv,(i:Int),(k:Int),())) i (fun k=>decide ((l.map aM.id)[k]?=some l[i].id)) (no:=some (res i 6)) (fin:=if oq l[i]=true then some (res i 2)else jU (l.map aM.pv,IntKind.i64.wrap ((i:Int)+1),())) (fun k hk rec=>?_) (fun rec=>?_) ?_ rfl).trans ?_
 ·have h1:(k:Int)<(i:Int):=by omega
  have sG:k<l.length:=by omega
  simp only[rH,cT,h1,BY,ag,AT,cN sG,cN hi,No,U,aa3,aO,ab (show k<9223372036854775807 by omega),bT,cO];rfl
 ·simp only[rH,cT,asl,IT,ag,AT,cN hi,No,U,agj,asBool,Bool.not_not];rfl
 ·have:=aw;omega
 ·rw[jg _ _ (by simp;omega)];simp_all
theorem V5(l:List aM)(bp within cap:Int)(hl:l.length≤maxLen∧∀y∈l,y.Ok):tC [dr l bp within cap]=some (res (cJ l bp within cap).1 (cJ l bp within cap).2):=by
 have hm:=ai;simp only[tC,Ea,dr,asAgg,cell,PV.cells,O6,T1,amo,asi,Nat.reduceAdd,ao,asInt,asBool,BY,U,AI,MZ,az];unfold cJ;generalize (!wi bp 0 1000000|| !wi within 0 86400|| !wi cap 0 1000000)=c;cases c with
 |true=>rfl
 |false=>
  simp only[cQ,IT];by_cases j5:l.length>16
  ·rw[IN (by simp;omega),IN j5];rfl
  ·rw[IS (by simp;omega),IS j5,←cY];refine aC (fun k=>(l.map aM.pv,(k:Int),())) l.length _ (fun k hk rec=>?_) (fun rec=>?_) ?_ rfl
   ·have h1:(k:Int)<(l.length:Int):=by omega
    have hid:=HR l[k].id (hl.2 _ (aqW hk)).id;have kY:=V4 l hl.1 k hk rec;simp only[ye,cT,AI,h1,BY,ag,AT,cN hk,No,U,aa3,aO,asBool,hid,kY,ab (show k<9223372036854775807 by omega)];unfold Hx;rw[cN hk];simp only;generalize oq l[k]=c;cases eW l[k].id with
    |false=>rfl
    |true=>
     by_cases bB:l[k].id∈(l.map aM.id).take k
     ·simp only[bB,BY,ahX,cQ,asp,IT];rfl
     ·simp only[bB,BY,ahX,cQ,asp,IT];cases c<;>rfl
   ·simp only[ye,cT,AI,asl,IT];rfl
   ·have:=aw;omega
def y8(l:List Path)(n:Int):Int×Int:=if l.length>512 then(0,5)else bW (dc l n) l.length
theorem abH(l:List Path)(n:Int)(hl:l.length≤maxLen):nu [.rs 4 (l.map Path.pv),.int .i64 n]=some (res (y8 l n).1 (y8 l n).2):=by
 have h:=Ms l n hl;simp only[res]at h;simp only[nu,xy,ao,asInt,BY,U,AI,h,cn,amo,asi,Nat.reduceAdd,O6,T1,cT];unfold y8;by_cases j5:l.length>512
 ·rw[IN (by omega),IN j5];rfl
 ·rw[IS (by omega),IS j5];rfl
theorem V6(l:List Path)(n:Int)(hl:l.length≤maxLen)(i:Nat)(hi:i<l.length)(uK:List PV×Int×Int×Unit→Option PV):bd.run (rG uK) (l.map Path.pv,n,(i:Int),0,.int .i64 l[i].a,.int .i64 l[i].b,.int .i64 l[i].fq,.bool l[i].free,())=if bH l[i]∈(l.map bH).take i then some (res i 6)else uK (l.map Path.pv,n,IntKind.i64.wrap ((i:Int)+1),()):=by
 have hm:=ai;refine(cX (fun k=>(l.map Path.pv,n,(i:Int),(k:Int),PV.int .i64 l[i].a,PV.int .i64 l[i].b,PV.int .i64 l[i].fq,PV.bool l[i].free,())) i (fun k=>decide ((l.map bH)[k]?=some (bH l[i]))) (no:=some (res i 6)) (fin:=uK (l.map Path.pv,n,IntKind.i64.wrap ((i:Int)+1),())) (fun k hk rec=>?_) (fun rec=>?_) ?_ rfl).trans ?_
 ·have h1:(k:Int)<(i:Int):=by omega
  have sG:k<l.length:=by omega
  have hd:decide ((l.map bH)[k]?=some (bH l[i]))=(decide (l[k].a=l[i].a)&&decide (l[k].b=l[i].b)&&decide (l[k].free=l[i].free)):=by rw[asS];simp[cN sG,bH,auV]
  simp only[rG,cT,h1,BY,ag,AT,cN sG,No,U,Hn,Ho,Hq,asInt,asBool,ab (show k<9223372036854775807 by omega),bT,aJ];grind [bH,res]
 ·simp[rG,cT,asl,IT]
 ·have:=aw;omega
 ·rw[jg _ _ (by simp;omega)];simp_all
theorem abI(l:List Path)(n:Int)(hl:l.length≤maxLen):tz [.rs 4 (l.map Path.pv),.int .i64 n]=some (res (bW (dc l n) l.length).1 (bW (dc l n) l.length).2):=by
 have hm:=ai;simp only[tz,D7,ao,asInt,BY,U];rw[←cY];refine aC (fun k=>(l.map Path.pv,n,(k:Int),())) l.length _ (fun k hk rec=>?_) (fun rec=>?_) ?_ rfl
 ·have h1:(k:Int)<(l.length:Int):=by omega
  have kY:=V6 l n hl k hk rec;simp only[yb,cT,AI,h1,BY,ag,AT,cN hk,No,U,Hn,Ho,L9,Hq,asInt,kY,bT,az,ab (show k<9223372036854775807 by omega)];unfold dc;rw[cN hk];simp only;generalize (decide (l[k].a<0)||decide (l[k].a≥n)||decide (l[k].b<0)||decide (l[k].b≥n)||decide (l[k].a=l[k].b))=A;generalize (decide (l[k].fq<1)||decide (l[k].fq>14400))=B;by_cases bB:bH l[k]∈(l.map bH).take k
  ·simp only[bB,BY];cases A<;>cases B<;>rfl
  ·simp only[bB,IT];cases A<;>cases B<;>rfl
 ·simp only[yb,cT,AI,asl,IT];rfl
 ·have:=aw;omega
theorem agk(l:List Path)(n:Int)(hl:l.length≤maxLen):tA [.rs 4 (l.map Path.pv),.int .i64 n]=some (res (y8 l n).1 (y8 l n).2):=by
 have h:=abI l n hl;simp only[res]at h;simp only[tA,D8,ao,asInt,BY,U,AI,h,cn,amo,asi,Nat.reduceAdd,O6,T1,cT];unfold y8;by_cases j5:l.length>512
 ·rw[IN (by omega),IN j5];rfl
 ·rw[IS (by omega),IS j5];rfl
def tS(t first start:Int):Bool:=decide (0≤t-first+start)&&decide (t-first+start≤172800)
theorem V7(n:Int):((BitVec.ofInt 64 n&&&BitVec.ofInt 64 4294967295).toNat:Int)=n%4294967296:=by
 have h:(BitVec.ofInt 64 4294967295).toNat=2^32-1:=by rfl
 rw[BitVec.toNat_and,h,Nat.and_two_pow_sub_one_eq_mod,BitVec.toNat_ofInt];omega
theorem agl(n:Int):((BitVec.ofInt IntKind.i64.bits n&&&BitVec.ofInt IntKind.i64.bits 4294967295).toNat:Int)=n%4294967296:=V7 n
theorem abJ(n:Int):eB [.int .i64 n]=some (.bool (decide (n< -2305843009213693952)||decide (n>2305843009213693952))):=by simp[eB,q7,asInt,BY,U,az]
theorem yH(a:Int):jN a↔-9223372036854775808≤a∧a≤9223372036854775807:=by
 have h1:IntKind.i64.min= -9223372036854775808:=by rfl
 have h2:IntKind.i64.max=9223372036854775807:=by rfl
 unfold jN Lit.wf;simp[h1,h2]
theorem two32:((2:Int)^min (Int.toNat 32) IntKind.i64.bits)=4294967296:=by rfl
theorem arO(a:Int):a.fdiv 4294967296=a/4294967296:=auH _ (by omega)
theorem aib(a b c:Int)(ha:jN a)(hb:jN b)(hc:jN c):∃n,nj [.int .i64 a,.int .i64 b,.int .i64 c]=some (.aG [.int .i64 n,.bool (tS a b c)])∧(tS a b c=true→n=a-b+c):=by
 obtain⟨ha1,ha2⟩:=(yH _).1 ha;obtain⟨ZU,yq⟩:=(yH _).1 hb;obtain⟨hc1,hc2⟩:=(yH _).1 hc;simp only[nj,xt,asInt,BY,U,two32,arO,agl];have w0:∀x:Int,IntKind.i64.wrap (x%4294967296)=x%4294967296:=fun x=>aZ (by omega) (by omega);have w1:IntKind.i64.wrap (a/4294967296-b/4294967296)=a/4294967296-b/4294967296:=aZ (by omega) (by omega);have w2:IntKind.i64.wrap (a/4294967296-b/4294967296+c/4294967296)=a/4294967296-b/4294967296+c/4294967296:=aZ (by omega) (by omega);have w3:IntKind.i64.wrap (a%4294967296-b%4294967296)=a%4294967296-b%4294967296:=aZ (by omega) (by omega);have w4:IntKind.i64.wrap (a%4294967296-b%4294967296+c%4294967296)=a%4294967296-b%4294967296+c%4294967296:=aZ (by omega) (by omega);have w5:IntKind.i64.wrap (a/4294967296-b/4294967296+c/4294967296+(a%4294967296-b%4294967296+c%4294967296)/4294967296)=a/4294967296-b/4294967296+c/4294967296+(a%4294967296-b%4294967296+c%4294967296)/4294967296:=aZ (by omega) (by omega);simp only[w0,w1,w2,w3,w4,w5];generalize hH:a/4294967296-b/4294967296+c/4294967296+(a%4294967296-b%4294967296+c%4294967296)/4294967296=H;generalize hL:(a%4294967296-b%4294967296+c%4294967296)%4294967296=Lo;have hs:a-b+c=H*4294967296+Lo:=by omega
 have hLo:0≤Lo∧Lo<4294967296:=by omega
 unfold tS;by_cases h0:H=0
 ·have e0:(BitVec.ofInt 64 (IntKind.i64.wrap (H*4294967296))|||BitVec.ofInt 64 Lo).toNat=Lo.toNat:=by grind
  have e1:IntKind.i64.wrap ((BitVec.ofInt IntKind.i64.bits (IntKind.i64.wrap (H*4294967296))|||BitVec.ofInt IntKind.i64.bits Lo).toNat:Int)=Lo:=by have e2:(BitVec.ofInt IntKind.i64.bits (IntKind.i64.wrap (H*4294967296))|||BitVec.ofInt IntKind.i64.bits Lo).toNat=Lo.toNat:=e0;rw[e2];rw[aZ (by omega) (by omega)];omega
  simp_all
 ·have hb:(H==0)=false:=by simp[h0]
  simp only[hb,cond_false,U];have h1:(decide (0≤a-b+c)&&decide (a-b+c≤172800))=false:=by grind
  rw[h1];simp
theorem HL(a b c:Int)(ha:jN a)(hb:jN b)(hc:jN c):∃n,iG [.int .i64 a,.int .i64 b,.int .i64 c]=some (.aG [.int .i64 n,.bool (tS a b c)])∧(tS a b c=true→n=a-b+c):=by
 obtain⟨n,hn,hnn⟩:=aib a b c ha hb hc;simp only[iG,uA,asInt,BY,U,abJ,asBool,az,hn,cn,amo,asi,Nat.reduceAdd,O6,T1,aJ];split
 ·exact⟨n,rfl,hnn⟩
 ·rename_i h;simp only[asz,cT,avy]at h;have w1:IntKind.i64.wrap (a-b)=a-b:=aZ (by omega) (by omega);have w2:IntKind.i64.wrap (a-b+c)=a-b+c:=aZ (by omega) (by omega);simp only[w1,w2];exact⟨_,rfl,fun _=>rfl⟩
theorem HM(a b c:Int)(ha:jN a)(hb:jN b)(hc:0≤c∧c≤172800):∃n,nY [.int .i64 a,.int .i64 c,.int .i64 b]=some (.aG [.int .i64 n,.bool (tS a b c)])∧(tS a b c=true→n=a-b+c):=by
 obtain⟨ha1,ha2⟩:=(yH _).1 ha;obtain⟨ZU,yq⟩:=(yH _).1 hb;have u:∀x y:Int,x≥y→-9223372036854775808≤y→x≤9223372036854775807→IntKind.u64.wrap (IntKind.u64.wrap x-IntKind.u64.wrap y)=x-y:=by intro x y h1 h2 h3;simp only[IntKind.wrap,IntKind.signed,IntKind.bits,atU,IT,cQ];omega
 simp only[nY,D2,asInt,BY,U,az,aJ];have h0:(decide (c<0)||decide (c>172800))=false:=by simp_all
 simp only[h0,cQ,IT,cT];unfold tS;have Ii:∀d:Int,(d=a-b∨d=b-a)→d>172800→(decide (0≤a-b+c)&&decide (a-b+c≤172800))=false:=by grind
 have apH:a-b≤172800→b-a≤172800→IntKind.i64.wrap (c+IntKind.i64.wrap (a-b))=a-b+c:=by grind [aZ]
 by_cases Az:a≥b
 ·rw[IN Az,u a b Az ZU ha2];split
  ·rename_i h;rw[Ii _ (.inl rfl) h];simp
  ·rename_i h;rw[apH (by omega) (by omega)];simp
 ·rw[IS Az,u b a (by omega) ha1 yq];split
  ·rename_i h;rw[Ii _ (.inr rfl) h];simp
  ·rename_i h;rw[apH (by omega) (by omega)];simp
theorem Fz{S R:Type}{body:S→(S→Option R)→Option R}(st:Nat→S)(n:Nat)(bad:Nat→Option (Option R)){fin:Option R}(h:∀k,k<n→(∀j,j<k→bad j=none)→∀rec,body (st k) rec=bK (bad k) (rec (st (k+1))))(tV:(∀j,j<n→bad j=none)→∀rec,body (st n) rec=fin)(hn:n<rounds){s0:S}(h0:st 0=s0):bd.run body s0=bK ((List.range n).findSome? bad) fin:=by
 have key:∀(m j N:Nat),j+m=n→m<N→(∀i,i<j→bad i=none)→cE body N (st j)=bK ((List.range' j m).findSome? bad) fin:=by
  intro m;induction m with
  |zero=>
   intro j N hj hN hq;cases N with
   |zero=>omega
   |succ N=>
    have:j=n:=by omega
    subst this;simp only[cE,List.range'_zero,auL];exact tV hq _
  |succ m ih=>
   intro j N hj hN hq;cases N with
   |zero=>omega
   |succ N=>
    simp only[cE,at6,as3];rw[h j (by omega) hq];cases hb:bad j with
    |some r=>rfl
    |none=>refine ih (j+1) N (by omega) (by omega) fun i hi=>?_;grind
 grind [pM,rounds,List.range_eq_range']
theorem O4(x:aY):cell x.pv 3=.bool x.ca:=rfl
theorem O5(x:aY):cell x.pv 4=.bool x.bC:=rfl
theorem Fy(x:br):cell x.pv 3=.bool x.free:=rfl
theorem MP(x:br):asAgg 5 x.pv=some ():=rfl
theorem Th(cs:List PV)(k:Nat):cell (.agg cs) k=cs.getD k .bad:=rfl
def J9(x:aY)(first start:Int):aY:={x with arr:=x.arr-first+start,dep:=x.dep-first+start}
def kOk(x:aY)(first start:Int):Bool:=tS x.arr first start&&tS x.dep first start
def gX(l:List aY)(first start:Int)(k:Nat):Bool:=match l[k]? with|some x=>kOk x first start|none=>true
def nK(l:List aY)(start:Int):Int:=match l with
 |[]=>16
 |c::_=>if(List.range l.length).all (gX l c.dep start)=true then 0 else 10
theorem rj{B:Type}(p:Nat→Bool)(r:B):∀l:List Nat,l.findSome? (fun k=>if p k=true then none else some r)=if l.all p=true then none else some r:=by
 intro l;induction l with
 |nil=>rfl
 |cons a l ih=>grind
def GD(l:List aY)(f:aY→aY)(k:Nat):List PV:=((l.take k).map fun x=>(f x).pv)++(l.drop k).map aY.pv
theorem Te(l:List aY)(f:aY→aY)(k:Nat)(h:k≤l.length):(GD l f k).length=l.length:=by simp[GD];omega
theorem Tf(l:List aY)(f:aY→aY)(k:Nat)(h:k<l.length):(GD l f k)[k]?=some l[k].pv:=by grind [GD,List.getElem?_append_right,Nat.min_eq_left,Nat.le_of_lt]
theorem Tg(l:List aY)(f:aY→aY)(k:Nat)(h:k<l.length):(GD l f k).set k (f l[k]).pv=GD l f (k+1):=by unfold GD;rw[List.set_append_right _ _ (by simp;omega)];have h1:l.drop k=l[k]::l.drop (k+1):=(ate h);have h2:l.take (k+1)=l.take k++[l[k]]:=(atm h).symm;rw[h1,h2];simp only[AI,asQ,as1 (Nat.le_of_lt h),aun,ass,List.set_cons_zero,asT,aub,asD,List.singleton_append]
theorem fA(k n:Nat)(h:k<n):al (k:Int) n:=by unfold al;omega
theorem Pb(x:br)(hx:x.Ok)(start:Int)(hs:jN start)(HK:x.calls.length≤40):∃es,dI [x.pv,.int .i64 start]=some (.aG [.rs 5 es,.int .i64 (nK x.calls start)]):=by
 have hm:=ai;have ri:∀y∈x.calls,y.Ok:=hx.calls.2;simp only[dI,oA,MP,AX,Cc,AY,Fy,xI,aO,ao,asInt,asBool,BY,U,AI];generalize x.calls=l at HK ri⊢;cases l with
 |nil=>exact⟨[],rfl⟩
 |cons c l=>
  generalize hl:c::l=cs at HK ri⊢;have Na:cs[0]?=some c:=by rw[←hl];rfl
  have eS:0<cs.length:=by rw[←hl];simp
  have hcE:nK cs start=if(List.range cs.length).all (gX cs c.dep start)=true then 0 else 10:=by rw[←hl];rfl
  have MQ:c.Ok:=ri c (by rw[←hl];simp);have cV:((cs.length:Int)==0)=false:=by grind
  have RW:dB (cs.map aY.pv) 0=some c.pv:=by have:=ag (cs.map aY.pv) 0;simp_all
  have ee:0≤(cs.length:Int)∧(cs.length:Int)≤(cs.length:Int)∧(cs.length:Int).toNat*32≤ah∧0<32∧0<5:=by grind [decide,ah]
  rw[cV,RW];simp only[cQ,IT,U,rM,asInt,BY,IN ee,as7,are,asG (avu (AI _)),AI];rw[au5 (by simp),atf,AI];have VR:0≤(cs.length:Int)∧(cs.length:Int)≤(cs.length:Int)∧cs.length*32≤ah∧0<32∧0<5:=ee;have MR:bd.run dW (start,c.dep,(cs.length:Int),0,cs.map aY.pv,())=bK ((List.range cs.length).findSome? fun k=>if gX cs c.dep start k=true then none else some (some (.aG [.rs 5 [],.int .i64 10]))) (some (.aG [.rs 5 (GD cs (fun x=>J9 x c.dep start) cs.length),.int .i64 0])):=by
   refine aC (fun k=>(start,c.dep,(cs.length:Int),(k:Int),GD cs (fun x=>J9 x c.dep start) k,())) cs.length _ (fun k hk rec=>?_) (fun rec=>?_) ?_ ?_
   ·have h1:(k:Int)<(cs.length:Int):=by omega
    have B5:cs[k].Ok:=ri _ (aqW hk);obtain⟨n1,e1,q1⟩:=HL cs[k].arr c.dep start B5.arr MQ.dep hs;obtain⟨n2,e2,q2⟩:=HL cs[k].dep c.dep start B5.dep MQ.dep hs;have hlen:=Te cs (fun x=>J9 x c.dep start) k (by omega);have eR:=Tf cs (fun x=>J9 x c.dep start) k hk;have rX:=Tg cs (fun x=>J9 x c.dep start) k hk;have hr:al (k:Int) cs.length:=fA k _ hk;have afZ:gX cs c.dep start k=(tS cs[k].arr c.dep start&&tS cs[k].dep c.dep start):=by unfold gX;rw[cN hk];rfl
    have PD:∀X,((GD cs (fun x=>J9 x c.dep start) k).set k X)[k]?=some X:=fun X=>by simp_all
    simp only[dW,cT,h1,BY,hlen,IN hr,are,eR,U,uU,DA,rM,O4,O5,asInt,e1,e2,cn,asBool,amo,asi,Nat.reduceAdd,O6,T1,atW,PD,Th,over,ava,ab (show k<9223372036854775807 by omega)];grind [tS,start,bK,J9,aY.pv]
   ·simp[dW,cT,asl,IT]
   ·grind [rounds,decide]
   rfl
  rw[IN VR,MR,rj,hcE];by_cases yr:(List.range cs.length).all (gX cs c.dep start)=true
  ·rw[IN yr,IN yr];exact⟨_,rfl⟩
  ·rw[IS yr,IS yr];exact⟨_,rfl⟩
theorem Pc(x:br)(hx:x.Ok)(start:Int)(hs:0≤start∧start≤172800)(HK:x.calls.length≤40):∃es,gp [x.pv,.int .i64 start]=some (.aG [.rs 5 es,.int .i64 (nK x.calls start)]):=by
 have hm:=ai;have ri:∀y∈x.calls,y.Ok:=hx.calls.2;simp only[gp,yS,MP,AX,Cc,AY,Fy,xI,aO,ao,asInt,asBool,BY,U,AI];generalize x.calls=l at HK ri⊢;cases l with
 |nil=>exact⟨[],rfl⟩
 |cons c l=>
  generalize hl:c::l=cs at HK ri⊢;have Na:cs[0]?=some c:=by rw[←hl];rfl
  have eS:0<cs.length:=by rw[←hl];simp
  have hcE:nK cs start=if(List.range cs.length).all (gX cs c.dep start)=true then 0 else 10:=by rw[←hl];rfl
  have MQ:c.Ok:=ri c (by rw[←hl];simp);have cV:((cs.length:Int)==0)=false:=by grind
  have RW:dB (cs.map aY.pv) 0=some c.pv:=by rw[show(0:Int)=((0:Nat):Int)from rfl,ag,AT,Na];rfl
  rw[cV,RW];simp only[cQ,IT,U,rM,asInt,BY];have MR:bd.run (gK bd) (start,c.dep,0,x.id,x.dG,x.wI,x.free,cs.map aY.pv,[],())=bK ((List.range cs.length).findSome? fun k=>if gX cs c.dep start k=true then none else some (some (.aG [.rs 5 [],.int .i64 10]))) (some (.aG [.rs 5 (cs.map fun x=>(J9 x c.dep start).pv),.int .i64 0])):=by
   refine aC (fun k=>(start,c.dep,(k:Int),x.id,x.dG,x.wI,x.free,cs.map aY.pv,(cs.take k).map (fun x=>(J9 x c.dep start).pv),())) cs.length _ (fun k hk rec=>?_) (fun rec=>?_) ?_ rfl
   ·have h1:(k:Int)<(cs.length:Int):=by omega
    have B5:cs[k].Ok:=ri _ (aqW hk);obtain⟨n1,e1,q1⟩:=HM cs[k].arr c.dep start B5.arr MQ.dep hs;obtain⟨n2,e2,q2⟩:=HM cs[k].dep c.dep start B5.dep MQ.dep hs;have afZ:gX cs c.dep start k=(tS cs[k].arr c.dep start&&tS cs[k].dep c.dep start):=by unfold gX;rw[cN hk];rfl
    have ee:∀X:PV,(((cs.take k).map (fun x=>(J9 x c.dep start).pv))++[X]).length*32≤ah∧0<32:=fun X=>by refine⟨?_,by omega⟩;grind [List.length_append,List.length_map,List.length_take,List.length_cons,List.length_nil,ah]
    simp only[gK,cT,AI,h1,BY,ag,AT,cN hk,No,U,uU,DA,rM,O4,O5,asInt,e1,e2,cn,asBool,amo,asi,Nat.reduceAdd,O6,T1,IN (ee _),ab (show k<9223372036854775807 by omega)];rw[afZ];cases hA:tS cs[k].arr c.dep start with
    |false=>rfl
    |true=>
     cases hB:tS cs[k].dep c.dep start with
     |false=>rfl
     |true=>have ht:cs.take (k+1)=cs.take k++[cs[k]]:=(atm hk).symm;rw[ht,q1 hA,q2 hB];simp only[ahX,cond_false,U,cQ,IT,atc,BY,bK,asT,ass,aub,J9,aY.pv]
   ·simp[gK,cT,AI,asl,IT,asP]
   grind [rounds,decide]
  rw[MR,rj,hcE];by_cases yr:(List.range cs.length).all (gX cs c.dep start)=true
  ·rw[IN yr,IN yr];exact⟨_,rfl⟩
  ·rw[IS yr,IS yr];exact⟨_,rfl⟩
theorem rR(x:bl):cell x.pv 0=.int .i64 x.bD:=rfl
theorem xE(x:bl):cell x.pv 1=.int .i64 x.t0:=rfl
theorem xG(x:bl):cell x.pv 2=.int .i64 x.t1:=rfl
theorem xH(x:bl):cell x.pv 3=.int .i64 x.every:=rfl
theorem HN(x:bl):asAgg 4 x.pv=some ():=rfl
theorem Ec(x:bl):PV.agg [.int .i64 x.bD,.int .i64 x.t0,.int .i64 x.t1,.int .i64 x.every]=x.pv:=rfl
theorem TA(x:br):PV.agg [.str x.id,.int .i64 x.dG,.int .i64 x.wI,.bool x.free,.rs 5 (x.calls.map aY.pv)]=x.pv:=rfl
def dM(x:bl):Bool:=decide (x.t0≥0)&&decide (x.t0<x.t1)&&decide (x.t1≤172800)&&decide (x.every≥1)&&decide (x.every≤86400)
theorem gw(x:bl):dM x=true↔0≤x.t0∧x.t0<x.t1∧x.t1≤172800∧1≤x.every∧x.every≤86400:=by simp[dM,auV]
theorem JT(x:bl):iH [x.pv]=some (.bool (dM x)):=by simp only[iH,uB,HN,rR,xE,xG,xH,asInt,BY,U,aJ];rfl
theorem Br(x:bl):lA [x.pv]=some (.bool (dM x)):=by
 simp only[lA,DY,HN,rR,xE,xG,xH,asInt,BY,U,aJ];have:∀a b:Bool,a=b→some (PV.bool a)=some (PV.bool b):=fun a b h=>by rw[h]
 apply this;rw[asS,gw];grind
def df(x:bl):Int:=(x.t1-x.t0-1)/x.every+1
theorem rf(x:bl)(h:dM x=true):1≤df x∧df x≤172800:=by obtain⟨h1,h2,h3,h4,h5⟩:=(gw x).1 h;unfold df;have a:=au7 (show 0≤x.t1-x.t0-1 by omega) (show 0≤x.every by omega);have b:=Int.ediv_le_self (b:=x.every) (show 0≤x.t1-x.t0-1 by omega);omega
theorem M0(x:bl)(h:dM x=true):fL [x.pv]=some (.int .i64 (df x)):=by
 have hc:=rf x h;obtain⟨h1,h2,h3,h4,h5⟩:=(gw x).1 h;have w1:IntKind.i64.wrap (x.t1-x.t0)=x.t1-x.t0:=aZ (by omega) (by omega);have w2:IntKind.i64.wrap (x.t1-x.t0+x.every)=x.t1-x.t0+x.every:=aZ (by omega) (by omega);have w3:IntKind.i64.wrap (x.t1-x.t0+x.every-1)=x.t1-x.t0+x.every-1:=aZ (by omega) (by omega);have e:(x.t1-x.t0+x.every-1).tdiv x.every=df x:=by
  rw[Int.tdiv_eq_ediv_of_nonneg (by omega)];unfold df;have:x.t1-x.t0+x.every-1=(x.t1-x.t0-1)+1*x.every:=by omega
  rw[this,Int.add_mul_ediv_right _ _ (by omega)]
 simp only[fL,uC,HN,rR,xE,xG,xH,asInt,BY,U,w1,w2,w3,e,IS (show¬x.every=0 by omega)];rw[aZ (by omega) (by omega)]
theorem W5(x:bl)(h:dM x=true):nX [x.pv]=some (.int .i64 (df x)):=by
 have hc:=rf x h;obtain⟨h1,h2,h3,h4,h5⟩:=(gw x).1 h;have w1:IntKind.i64.wrap (x.t1-x.t0)=x.t1-x.t0:=aZ (by omega) (by omega);have w2:IntKind.i64.wrap (x.t1-x.t0-1)=x.t1-x.t0-1:=aZ (by omega) (by omega);have e:(x.t1-x.t0-1).tdiv x.every=df x-1:=by grind [Int.tdiv_eq_ediv_of_nonneg,df]
 simp only[nX,DZ,HN,rR,xE,xG,xH,asInt,BY,U,w1,w2,e,IS (show¬x.every=0 by omega)];rw[aZ (x:=df x-1) (by omega) (by omega),aZ (by omega) (by omega)];simp
def Cd(x:bl):Int:=x.t0+(df x-1)*x.every
theorem MO(x:bl)(h:dM x=true):0≤(df x-1)*x.every∧(df x-1)*x.every≤x.t1-x.t0-1∧x.t1-x.t0≤df x*x.every:=by
 obtain⟨h1,h2,h3,h4,h5⟩:=(gw x).1 h;have e:df x-1=(x.t1-x.t0-1)/x.every:=by unfold df;omega
 have e2:df x*x.every=(df x-1)*x.every+x.every:=by rw[Int.sub_mul];omega
 rw[e2,e];have a:=Int.mul_ediv_add_emod (x.t1-x.t0-1) x.every;have b:=Int.emod_lt_of_pos (x.t1-x.t0-1) (show 0<x.every by omega);have c:=Int.emod_nonneg (x.t1-x.t0-1) (show x.every≠0 by omega);have d:=auk (au7 (show 0≤x.t1-x.t0-1 by omega) (show 0≤x.every by omega)) (show 0≤x.every by omega);grind
theorem abK(x:bl)(h:dM x=true):nm [x.pv]=some (.int .i64 (Cd x)):=by have hc:=rf x h;have WI:=MO x h;obtain⟨h1,h2,h3,h4,h5⟩:=(gw x).1 h;have w1:IntKind.i64.wrap (df x-1)=df x-1:=aZ (by omega) (by omega);have w2:IntKind.i64.wrap ((df x-1)*x.every)=(df x-1)*x.every:=aZ (by omega) (by omega);have w3:IntKind.i64.wrap (x.t0+(df x-1)*x.every)=Cd x:=aZ (by omega) (by omega);simp only[nm,xw,HN,rR,xE,xG,xH,asInt,BY,U,Ec,M0 x h,w1,w2,w3]
def ng(x:bl)(n:Nat):List PV:=(List.range n).map fun(j:Nat)=>PV.int .i64 (x.t0+(j:Int)*x.every)
theorem MS(x:bl)(h:dM x=true):gL [x.pv]=some (.rs 1 (ng x (df x).toNat)):=by
 have hc:=rf x h;have WI:=MO x h;obtain⟨h1,h2,h3,h4,h5⟩:=(gw x).1 h;simp only[gL,vC,HN,rR,xE,xG,xH,asInt,asBool,BY,U,Ec,Br,h,ahX,cQ,IT];refine bg (fun k=>(x.t0+(k:Int)*x.every,x.bD,x.t0,x.t1,x.every,ng x k,())) (df x).toNat (fun k hk rec=>?_) (fun rec=>?_) ?_ ?_
 ·have Uj:(k:Int)≤df x-1:=by omega
  have GZ:(k:Int)*x.every≤(df x-1)*x.every:=atu Uj (by omega);have Kk:0≤(k:Int)*x.every:=auk (by omega) (by omega);have cd:x.t0+(k:Int)*x.every<x.t1:=by omega
  have ee:(ng x k++[PV.int .i64 (x.t0+(k:Int)*x.every)]).length*8≤ah∧0<8:=by refine⟨?_,by omega⟩;simp only[ng,asn,AI,auX,amo,asi];unfold ah;omega
  have aqU:((k+1:Nat):Int)*x.every=(k:Int)*x.every+x.every:=by grind
  have hw:IntKind.i64.wrap (x.t0+(k:Int)*x.every+x.every)=x.t0+((k+1:Nat):Int)*x.every:=by grind [aZ]
  simp_all[ng,atB,uN,cT,BY,IN]
 ·have he:(((df x).toNat:Nat):Int)*x.every=df x*x.every:=by grind
  have cd:¬x.t0+(((df x).toNat:Nat):Int)*x.every<x.t1:=by omega
  simp_all[uN,cT,IS]
 ·grind [rounds,decide]
 ·simp[ng]
def Ee(x:br)(f:bl):Bool:=decide (nK x.calls f.t0≠10)&&decide (nK x.calls (Cd f)≠10)
theorem BV(c:aY)(l:List aY)(s:Int):nK (c::l) s=0∨nK (c::l) s=10:=by show(if(List.range (c::l).length).all (gX (c::l) c.dep s)=true then(0:Int)else 10)=0∨(if(List.range (c::l).length).all (gX (c::l) c.dep s)=true then(0:Int)else 10)=10;omega
theorem ZH(x:bl)(h:dM x=true):0≤Cd x∧Cd x≤172800:=by have WI:=MO x h;grind [gw,Cd]
theorem abL(x:br)(hx:x.Ok)(HK:x.calls.length≤40)(f:bl)(hf:dM f=true):np [x.pv,f.pv]=some (.bool (Ee x f)):=by
 obtain⟨h1,h2,h3,h4,h5⟩:=(gw f).1 hf;have hl:=ZH f hf;obtain⟨es1,e1⟩:=Pb x hx f.t0 ((yH _).2 (by omega)) HK;obtain⟨es2,e2⟩:=Pb x hx (Cd f) ((yH _).2 (by omega)) HK;simp only[np,xx,MP,AX,Cc,AY,Fy,xI,HN,rR,xE,xG,xH,aO,ao,asInt,asBool,BY,U,AI,Ec,TA,abK f hf,e1,e2,cn,amo,asi,Nat.reduceAdd,O6,T1,aJ];unfold Ee;cases Ur:x.calls with
 |nil=>rfl
 |cons c l=>
  have cV:(((c::l).length:Int)==0)=false:=by rfl
  rw[cV];simp only[cQ,IT];rcases BV c l f.t0 with h|h<;>rcases BV c l (Cd f)with h'|h'<;>rw[h,h']<;>rfl
theorem agm(x:br)(hx:x.Ok)(HK:x.calls.length≤40)(f:bl)(hf:dM f=true):vH [x.pv,f.pv]=some (.bool (Ee x f)):=by
 have hc:=rf f hf;obtain⟨h1,h2,h3,h4,h5⟩:=(gw f).1 hf;have hl:=ZH f hf;obtain⟨es1,e1⟩:=Pc x hx f.t0 (by omega) HK;obtain⟨es2,e2⟩:=Pc x hx (Cd f) hl HK;have hlen:(ng f (df f).toNat).length=(df f).toNat:=by simp[ng]
 have hi0:dB (ng f (df f).toNat) 0=some (.int .i64 f.t0):=by rw[show(0:Int)=((0:Nat):Int)from rfl,ag];grind [ng,List.getElem?_range,df]
 have hw:IntKind.i64.wrap (((df f).toNat:Int)-1)=(((df f).toNat-1:Nat):Int):=by grind [aZ]
 have hi1:dB (ng f (df f).toNat) (((df f).toNat-1:Nat):Int)=some (.int .i64 (Cd f)):=by
  rw[ag];simp only[ng,AT,as8 (show(df f).toNat-1<(df f).toNat by omega),No];have:(((df f).toNat-1:Nat):Int)=df f-1:=by omega
  rw[this];rfl
 have hci:∀n:Int,cell (.int .i64 n) 0=.int .i64 n:=fun _=>rfl;simp only[vH,Gy,MP,AX,Cc,AY,Fy,xI,HN,rR,xE,xG,xH,aO,ao,asInt,asBool,BY,U,AI,Ec,TA,MS f hf,hlen,hi0,hw,hi1,hci,e1,e2,cn,amo,asi,Nat.reduceAdd,O6,T1,aJ,eC];unfold Ee;simp
def fitsAt(ae:List br)(f:bl):Bool:=match ae[f.bD.toNat]? with|some x=>Ee x f|none=>true
def Cw(l:List bl)(f:bl)(k:Nat):Int:=((l.take k).map fun g=>if g.bD=f.bD then df g else 0).sum
def M1(f g:bl):Bool:=decide (g.bD=f.bD)&&(decide (g.t0<f.t1)&&decide (f.t0<g.t1))
def anyM(l:List bl)(f:bl)(k:Nat):Bool:=(l.take k).any (M1 f)
def yW(l:List bl)(ae:List br)(k:Nat):Int:=match l[k]? with
 |none=>0
 |some f=>if(decide (f.bD<0)||decide (f.bD≥(ae.length:Int)))=true then 9 else if(!dM f|| !fitsAt ae f)=true then 10 else if df f+Cw l f k>256 then 17 else if anyM l f k=true then 8 else 0
def tf(l:List bl)(ae:List br):Int×Int:=if l.length>64 then(0,5)else bW (yW l ae) l.length
theorem ER(l:List bl)(f:bl)(k:Nat)(h:k<l.length):Cw l f (k+1)=Cw l f k+if l[k].bD=f.bD then df l[k]else 0:=by unfold Cw;have h2:l.take (k+1)=l.take k++[l[k]]:=(atm h).symm;grind
theorem Pd(l:List bl)(f:bl)(k:Nat)(h:k<l.length):anyM l f (k+1)=(anyM l f k||M1 f l[k]):=by unfold anyM;have h2:l.take (k+1)=l.take k++[l[k]]:=(atm h).symm;grind
theorem M3(l:List bl)(f:bl):∀k,k≤l.length→(∀j(h:j<l.length),j<k→dM l[j]=true)→0≤Cw l f k∧Cw l f k≤172800*(k:Int):=by
 intro k;induction k with
 |zero=>intro _ _;simp[Cw]
 |succ k ih=>intro hk hq;have:=ih (by omega) fun j h hj=>hq j h (by omega);rw[ER l f k (by omega)];have hc:=rf l[k] (hq k (by omega) (by omega));omega
theorem FA(l:List bl)(ae:List br)(k:Nat)(h:k<l.length)(he:yW l ae k=0):dM l[k]=true:=by unfold yW at he;grind
theorem abM(l:List bl)(ae:List br)(ht:ae.length≤maxLen∧∀y∈ae,y.Ok)(HK:∀y∈ae,y.calls.length≤40)(hl:l.length≤maxLen):lY [.rs 4 (l.map bl.pv),.rs 5 (ae.map br.pv)]=some (res (tf l ae).1 (tf l ae).2):=by
 have hm:=ai;simp only[lY,uD,ao,BY,U,AI];unfold tf;by_cases j5:l.length>64
 ·rw[IN (by simp;omega),IN j5];rfl
 ·rw[IS (by simp;omega),IS j5,←cY];refine Fz (fun k=>(l.map bl.pv,ae.map br.pv,l.map bl.pv,(l.length:Int),(k:Int),())) l.length _ (fun k hk hq rec=>?_) (fun _ rec=>?_) ?_ rfl
  ·have h1:(k:Int)<(l.length:Int):=by omega
   have aic:∀j(h:j<l.length),j<k→dM l[j]=true:=fun j h hj=>by have hqj:=hq j hj;refine FA l ae j h ?_;simp_all[DB,yW,IS]
   simp only[pf,cT,h1,BY,ag,AT,cN hk,No,U,rR,xE,xG,xH,asInt,asBool,Ec,AI,az,JT];unfold yW;rw[cN hk];simp only;generalize hf:l[k]=f;by_cases hr:f.bD<0∨f.bD≥(ae.length:Int)
   ·have:(decide (f.bD<0)||decide (f.bD≥(ae.length:Int)))=true:=by simpa using hr
    rw[this];rfl
   ·have Ul:(decide (f.bD<0)||decide (f.bD≥(ae.length:Int)))=false:=by simpa using hr
    simp only[Ul,cQ,IT];obtain⟨t,htt⟩:=atS (show 0≤f.bD by omega);have htl:t<ae.length:=by omega
    cases hs:dM f with
    |false=>rfl
    |true=>
     have hfa:fitsAt ae f=Ee ae[t] f:=by simp_all[fitsAt,are,cN]
     have hfp:=abL ae[t] (ht.2 _ (aqW htl)) (HK _ (aqW htl)) f hs;have amu:dB (ae.map br.pv) f.bD=some ae[t].pv:=by rw[htt,ag,AT,cN htl];rfl
     simp only[amu,ahX,cond_false,U,AX,Cc,AY,Fy,xI,TA,hfp,asBool,hfa,atb];cases hfb:Ee ae[t] f with
     |false=>rfl
     |true=>
      have hc:(0:Int)≤0∧(0:Int)≤(k:Int)∧(k:Int)≤(l.length:Int)∧True∧4≠0:=⟨by omega,by omega,by omega,trivial,by omega⟩;have hcf:=rf f hs;have cd:(List.map bl.pv l).take k=(l.take k).map bl.pv:=by simp
      simp only[ahX,cQ,IT,M0 f hs,U,asInt,BY,are,auR,aul,cd,AI,asQ,as1 (Nat.le_of_lt hk)];rw[IN hc];refine bg (fun j=>(l.map bl.pv,ae.map br.pv,(k:Int),df f+Cw l f j,anyM l f j,l.map bl.pv,(l.length:Int),(k:Int),(l.take k).map bl.pv,(k:Int),(j:Int),PV.int .i64 f.bD,PV.int .i64 f.t0,PV.int .i64 f.t1,PV.int .i64 f.every,())) k (fun j hj rc=>?_) (fun rc=>?_) ?_ ?_
      ·have hj1:(j:Int)<(k:Int):=by omega
       have zj:j<l.length:=by omega
       have hgl:(l.take k)[j]?=some l[j]:=by simp_all
       have hsj:=aic j zj hj;have hcj:=rf l[j] hsj;have hb:=M3 l f j (by omega) fun i h hi=>aic i h (by omega);simp only[pe,cT,hj1,BY,ag,AT,hgl,No,U,rR,xE,xG,xH,asInt,Ec,bT,ab (show j<9223372036854775807 by omega),aJ,az];rw[ER l f j zj,Pd l f j zj];by_cases he:l[j].bD=f.bD
       ·rw[IN he,IN he,M0 l[j] hsj];have hw:IntKind.i64.wrap (df f+Cw l f j+df l[j])=df f+(Cw l f j+df l[j]):=by grind [aZ]
        simp_all[U,M1,asv,as0,asInt,BY]
       simp_all[IS,M1,asx,atU,ata,Int.add_zero]
      ·simp only[pe,cT,asl,IT,ab (show k<9223372036854775807 by omega)];by_cases QB:df f+Cw l f k>256
       ·rw[IN QB,IN QB];rfl
       ·rw[IS QB,IS QB];cases anyM l f k<;>rfl
      ·grind [rounds,decide]
      ·simp[Cw,anyM]
  ·simp only[pf,cT,asl,IT];rfl
  ·have:=aw;omega
theorem agn(l:List bl)(ae:List br)(ht:ae.length≤maxLen∧∀y∈ae,y.Ok)(HK:∀y∈ae,y.calls.length≤40)(hl:l.length≤maxLen):tu [.rs 4 (l.map bl.pv),.rs 5 (ae.map br.pv)]=some (res (tf l ae).1 (tf l ae).2):=by
 have hm:=ai;simp only[tu,D3,ao,BY,U,AI];unfold tf;by_cases j5:l.length>64
 ·rw[IN (by simp;omega),IN j5];rfl
 ·rw[IS (by simp;omega),IS j5,←cY];refine Fz (fun k=>(l.map bl.pv,ae.map br.pv,(k:Int),())) l.length _ (fun k hk hq rec=>?_) (fun _ rec=>?_) ?_ rfl
  ·have h1:(k:Int)<(l.length:Int):=by omega
   have aic:∀j(h:j<l.length),j<k→dM l[j]=true:=fun j h hj=>by have hqj:=hq j hj;refine FA l ae j h ?_;simp_all[DB,yW,IS]
   simp only[xX,cT,h1,BY,ag,AT,cN hk,No,U,rR,xE,xG,xH,asInt,asBool,Ec,AI,az,Br];unfold yW;rw[cN hk];simp only;generalize hf:l[k]=f;by_cases hr:f.bD<0∨f.bD≥(ae.length:Int)
   ·have:(decide (f.bD<0)||decide (f.bD≥(ae.length:Int)))=true:=by simpa using hr
    rw[this];rfl
   ·have Ul:(decide (f.bD<0)||decide (f.bD≥(ae.length:Int)))=false:=by simpa using hr
    simp only[Ul,cQ,IT];obtain⟨t,htt⟩:=atS (show 0≤f.bD by omega);have htl:t<ae.length:=by omega
    cases hs:dM f with
    |false=>rfl
    |true=>
     have hfa:fitsAt ae f=Ee ae[t] f:=by simp_all[fitsAt,are,cN]
     have hfp:=agm ae[t] (ht.2 _ (aqW htl)) (HK _ (aqW htl)) f hs;have amu:dB (ae.map br.pv) f.bD=some ae[t].pv:=by rw[htt,ag,AT,cN htl];rfl
     simp only[amu,ahX,cond_false,U,AX,Cc,AY,Fy,xI,TA,hfp,asBool,hfa,atb];cases hfb:Ee ae[t] f with
     |false=>rfl
     |true=>
      have hcf:=rf f hs;simp only[ahX,cQ,IT];refine bg (fun j=>(l.map bl.pv,ae.map br.pv,(k:Int),Cw l f j,anyM l f (min j k),(j:Int),PV.int .i64 f.bD,PV.int .i64 f.t0,PV.int .i64 f.t1,PV.int .i64 f.every,())) (k+1) (fun j hj rc=>?_) (fun rc=>?_) ?_ ?_
      ·have hj1:(j:Int)≤(k:Int):=by omega
       have zj:j<l.length:=by omega
       have hsj:dM l[j]=true:=by grind
       have hcj:=rf l[j] hsj;have hb:=M3 l f j (by omega) fun i h hi=>aic i h (by omega);simp only[xW,cT,hj1,BY,ag,AT,cN zj,No,U,rR,xE,xG,xH,asInt,Ec,eC,ab (show j<9223372036854775807 by omega)];rw[ER l f j zj];have acf:anyM l f (min (j+1) k)=(anyM l f (min j k)||(decide (j<k)&&M1 f l[j])):=by grind [Nat.min_eq_left,Pd,Nat.min_eq_right]
       rw[acf];by_cases he:l[j].bD=f.bD
       ·have hw:IntKind.i64.wrap (Cw l f j+df l[j])=Cw l f j+df l[j]:=aZ (by omega) (by omega);simp only[he,asv,ahX,cQ,IT,W5 l[j] hsj,U,asInt,BY,hw,M1,as0,aJ];grind
       ·simp only[he,asx,asw,BY,IT,M1,atU,aui,ata,Int.add_zero]
      ·have cd:¬((k+1:Nat):Int)≤(k:Int):=by omega
       have arP:Cw l f (k+1)=df f+Cw l f k:=by rw[ER l f k hk,hf,IN rfl];omega
       simp only[xW,cT,IS cd,ab (show k<9223372036854775807 by omega),arP,Nat.min_eq_right (Nat.le_succ k)];by_cases QB:df f+Cw l f k>256
       ·rw[IN QB,IN QB];rfl
       ·rw[IS QB,IS QB];cases anyM l f k<;>rfl
      ·grind [rounds,decide]
      rfl
  ·simp only[xX,cT,AI,asl,IT];rfl
  ·have:=aw;omega
theorem ago(x:iJ):cell x.pv 0=.int .i64 x.a:=rfl
theorem agp(x:iJ):cell x.pv 1=.int .i64 x.b:=rfl
theorem R1(n:Int):cell (.int .i64 n) 0=.int .i64 n:=rfl
def iv(n:Int):PV:=.int .i64 n
def Ei(l:List iJ)(t:Int):Option Int:=(l.find? fun x=>decide (x.a=t)).map iJ.b
def yf(o:Option Int):PV:=match o with|some b=>.aG [.int .i64 b,.bool true]|none=>.aG [.int .i64 0,.bool false]
theorem AM{A B:Type}(p:A→Bool)(g:A→B)(l:List A):(List.range l.length).findSome? (fun k=>(l[k]?).bind fun x=>if p x=true then some (g x)else none)=(l.find? p).map g:=by
 rw[KQ];induction l with
 |nil=>rfl
 |cons x l ih=>grind
theorem Pe(l:List iJ)(hl:l.length≤maxLen)(t:Int):rz [.rs 2 (l.map iJ.pv),.int .i64 t]=some (yf (Ei l t)):=by
 have hm:=ai;simp only[rz,BQ,ao,asInt,BY,U,AI];refine(aC (fun k=>(t,l.map iJ.pv,(l.length:Int),(k:Int),())) l.length (fun k=>(l[k]?).bind fun x=>if decide (x.a=t)=true then some (some (yf (some x.b)))else none) (fin:=some (yf none)) (fun k hk rec=>?_) (fun rec=>?_) ?_ rfl).trans ?_
 ·have h1:(k:Int)<(l.length:Int):=by omega
  simp only[uM,cT,h1,BY,ag,AT,cN hk,No,U,asq,ago,agp,asInt,ab (show k<9223372036854775807 by omega),bT];by_cases he:l[k].a=t
  ·simp only[he,BY];rfl
  ·simp only[he,IT];rfl
 ·simp only[uM,cT,asl,IT];rfl
 ·have:=aw;omega
 ·rw[AM (fun x:iJ=>decide (x.a=t)) (fun x=>some (yf (some x.b))) l];unfold Ei;cases l.find? fun x=>decide (x.a=t)<;>rfl
theorem agq(l:List iJ)(hl:l.length≤maxLen)(t:Int):vI [.rs 2 (l.map iJ.pv),.int .i64 t]=some (yf (Ei l t)):=by
 have hm:=ai;simp only[vI,Gz,ao,asInt,BY,U,AI];refine(aC (fun k=>(l.map iJ.pv,t,(k:Int),())) l.length (fun k=>(l[k]?).bind fun x=>if decide (x.a=t)=true then some (some (yf (some x.b)))else none) (fin:=some (yf none)) (fun k hk rec=>?_) (fun rec=>?_) ?_ rfl).trans ?_
 ·have h1:(k:Int)<(l.length:Int):=by omega
  simp only[Aj,cT,AI,h1,BY,ag,AT,cN hk,No,U,asq,ago,agp,asInt,ab (show k<9223372036854775807 by omega),bT];by_cases he:l[k].a=t
  ·simp only[he,BY];rfl
  ·simp only[he,IT];rfl
 ·simp only[Aj,cT,AI,asl,IT];rfl
 ·have:=aw;omega
 ·rw[AM (fun x:iJ=>decide (x.a=t)) (fun x=>some (yf (some x.b))) l];unfold Ei;cases l.find? fun x=>decide (x.a=t)<;>rfl
theorem ZI(l:List Int)(hl:l.length≤maxLen)(t:Int):tT [.rs 1 (l.map iv),.int .i64 t]=some (.bool (decide (t∈l))):=by
 have hm:=ai;simp only[tT,I2,ao,asInt,BY,U,AI];refine(cX (fun k=>(l.map iv,t,(k:Int),())) l.length (fun k=>decide (l[k]?=some t)) (no:=some (.bool true)) (fin:=some (.bool false)) (fun k hk rec=>?_) (fun rec=>?_) ?_ rfl).trans ?_
 ·have h1:(k:Int)<(l.length:Int):=by omega
  simp only[BX,cT,AI,h1,BY,ag,AT,cN hk,No,U,iv,R1,asInt,ab (show k<9223372036854775807 by omega),bT,cO]
 ·simp[BX,cT,AI,asl,IT]
 ·have:=aw;omega
 ·rw[jg l l.length (ast _) t,asP];grind
theorem V8(l:List Int)(hl:l.length≤maxLen)(t:Int):bd.run nr (t,l.map iv,(l.length:Int),0,())=some (.bool (decide (t∈l))):=by
 have hm:=ai;refine(cX (fun k=>(t,l.map iv,(l.length:Int),(k:Int),())) l.length (fun k=>decide (l[k]?=some t)) (no:=some (.bool true)) (fin:=some (.bool false)) (fun k hk rec=>?_) (fun rec=>?_) ?_ rfl).trans ?_
 ·have h1:(k:Int)<(l.length:Int):=by omega
  simp only[nr,cT,h1,BY,ag,AT,cN hk,No,U,iv,R1,asInt,ab (show k<9223372036854775807 by omega),bT,cO]
 ·simp[nr,cT,asl,IT]
 ·have:=aw;omega
 ·rw[jg l l.length (ast _) t,asP];grind
def grow(l:List iJ):Nat→List Int→Int→List Int
 |0,pre,last=>pre++[last]
 |n+1,pre,last=>match Ei l last with
  |none=>pre++[last]
  |some m=>if m∈pre++[last]then pre++[last]else grow l n (pre++[last]) m
theorem TB(l:List iJ):∀n pre last,(grow l n pre last).length≤pre.length+1+n:=by
 intro n;induction n with
 |zero=>intro pre last;simp[grow]
 |succ n ih=>grind [grow,Nat.le_trans]
theorem aid:∀(a b:List Int),a.Nodup→(∀x∈a,x∈b)→a.length≤b.length:=by
 intro a;induction a with
 |nil=>simp
 |cons x a ih=>
  intro b hn hs;rw[auA]at hn;have hx:x∈b:=hs x (by simp);have:=ih (b.erase x) hn.2 fun y hy=>by grind
  grind
theorem TC(l:List iJ)(t m:Int)(h:Ei l t=some m):t∈l.map iJ.a:=by
 unfold Ei at h;cases hf:l.find? (fun x=>decide (x.a=t))with
 |none=>rw[hf]at h;cases h
 |some x=>grind
theorem M4(pre:List Int)(last:Int)(hl:pre.length<maxLen):(pre++[last]).map iv=pre.map iv++[iv last]∧al (IntKind.i64.wrap ((((pre++[last]).map iv).length:Int)-1)) ((pre++[last]).map iv).length∧((pre++[last]).map iv)[(IntKind.i64.wrap ((((pre++[last]).map iv).length:Int)-1)).toNat]?=some (iv last):=by
 have hm:=ai;have h1:(((pre++[last]).map iv).length:Int)=((pre.length+1:Nat):Int):=by simp
 have h2:IntKind.i64.wrap (((pre.length+1:Nat):Int)-1)=(pre.length:Int):=ic _ (by omega);simp_all[iv,fA,are]
theorem yg(a b:Int):cz (iv a).cells (iv b).cells=decide (a=b):=EJ a b
theorem V9(l:List iJ)(hl:l.length≤1000)(t:Int):oC [.rs 2 (l.map iJ.pv),.int .i64 t]=some (.rs 1 ((grow l l.length [] t).map iv)):=by
 have WI:(2000:Nat)≤maxLen:=by decide
 have h0:dJ (PV.int .i64 t) (.bool true) []=seen iv ([]++[t]):=fX yg t [];simp only[oC,zY,ao,asInt,BY,U,h0];have key:∀(n N:Nat)(pre:List Int)(last:Int),pre.length+n=l.length→n<N→(pre++[last]).Nodup→(∀x∈pre,x∈l.map iJ.a)→cE (nq bd) N (l.map iJ.pv,(pre++[last]).map iv,seen iv (pre++[last]),())=some (.rs 1 ((grow l n pre last).map iv)):=by
  intro n;induction n with
  |zero=>
   intro N pre last hp hN hnd Up;cases N with
   |zero=>omega
   |succ N=>
    obtain⟨g1,g2,g3⟩:=M4 pre last (by omega);have acR:Ei l last=none:=by
     cases hx:Ei l last with
     |none=>rfl
     |some m=>
      have h1:=TC l last m hx;have:=aid (pre++[last]) (l.map iJ.a) hnd fun y hy=>by
       rw[asF]at hy;rcases hy with hy|hy
       ·exact Up y hy
       simp_all
      simp at this;omega
    simp only[cE,nq,IN g2,g3,U,iv,R1,asInt,BY,Pe l (by omega),acR,yf,cn,amo,asi,Nat.reduceAdd,O6,T1,asBool,asw,cond_true];rfl
  |succ n ih=>
   intro N pre last hp hN hnd Up;cases N with
   |zero=>omega
   |succ N=>
    obtain⟨g1,g2,g3⟩:=M4 pre last (by omega);have hb:∀X:PV,((pre++[last]).map iv++[X]).length*8≤ah∧0<8:=fun X=>by refine⟨?_,by omega⟩;simp only[asn,AI,amo,asi];unfold ah;omega
    simp only[cE,nq,IN g2,g3,U,R1,asInt,BY];simp only[iv,R1,asInt,BY,U,Pe l (by omega)];unfold grow;cases hx:Ei l last with
    |none=>rfl
    |some m=>
     have mC:cB (PV.int .i64 m) (.bool false) (seen iv (pre++[last]))=.bool (decide (m∈pre++[last])):=eX yg m _;have oK:dJ (PV.int .i64 m) (.bool true) (seen iv (pre++[last]))=seen iv (pre++[last]++[m]):=fX yg m _;simp only[yf,cn,amo,asi,Nat.reduceAdd,BY,O6,T1,asBool,asInt,U,ahX,cond_false];simp only[mC,asBool,U];by_cases bB:m∈pre++[last]
     ·simp_all
     ·simp only[bB,asx,cQ,IT];rw[IN (hb _),oK];have uQ:(pre++[last]).map iv++[PV.int .i64 m]=(pre++[last]++[m]).map iv:=by simp[iv]
      rw[uQ];refine ih N (pre++[last]) m (by simp;omega) (by omega) ?_ ?_
      ·rw[List.nodup_append];refine⟨hnd,by simp,fun a ha b hb=>?_⟩;simp at hb;grind
      ·intro x Px;rw[asF]at Px;rcases Px with h|h
       ·exact Up x h
       simp_all[TC]
 exact key l.length rounds [] t (by simp) (by grind [rounds,decide]) (by simp) (by simp)
theorem abN(l:List iJ)(hl:l.length≤1000)(t:Int):tv [.rs 2 (l.map iJ.pv),.int .i64 t]=some (.rs 1 ((grow l l.length [] t).map iv)):=by
 have WI:(2000:Nat)≤maxLen:=by decide
 have hm:=ai;simp only[tv,D4,ao,asInt,BY,U,AI];have key:∀(n N:Nat)(pre:List Int)(last:Int),pre.length+n=l.length→n<N→cE (rD bd) N (l.map iJ.pv,(l.length:Int),(pre.length:Int),(pre++[last]).map iv,())=some (.rs 1 ((grow l n pre last).map iv)):=by
  intro n;induction n with
  |zero=>
   intro N pre last hp hN;cases N with
   |zero=>omega
   |succ N=>
    have cd:¬(pre.length:Int)<(l.length:Int):=by omega
    simp only[cE,rD,cT,IS cd];rfl
  |succ n ih=>
   intro N pre last hp hN;cases N with
   |zero=>omega
   |succ N=>
    obtain⟨g1,g2,g3⟩:=M4 pre last (by omega);have cd:(pre.length:Int)<(l.length:Int):=by omega
    have hb:∀X:PV,((pre++[last]).map iv++[X]).length*8≤ah∧0<8:=fun X=>by refine⟨?_,by omega⟩;simp only[asn,AI,amo,asi];unfold ah;omega
    simp only[cE,rD,cT,IN cd,IN g2,g3,U,R1,asInt,BY];simp only[iv,R1,asInt,BY,U,agq l (by omega)];unfold grow;cases hx:Ei l last with
    |none=>rfl
    |some m=>
     have amv:=ZI (pre++[last]) (by simp;omega) m;simp only[yf,cn,amo,asi,Nat.reduceAdd,BY,O6,T1,asBool,asInt,U,ahX,cond_false,amv];by_cases bB:m∈pre++[last]
     ·simp_all
     ·simp only[bB,asx,cQ,IT];rw[IN (hb _)];have uQ:(pre++[last]).map iv++[PV.int .i64 m]=(pre++[last]++[m]).map iv:=by simp[iv]
      have hk:IntKind.i64.wrap ((pre.length:Int)+1)=((pre++[last]).length:Int):=by rw[ab (by omega)];simp
      rw[uQ,hk];exact ih N (pre++[last]) m (by simp;omega) (by omega)
 exact key l.length rounds [] t (by simp) (by grind [rounds,decide])
theorem TD(l:List iJ)(hl:l.length≤1000)(a b:Int):oD [.rs 2 (l.map iJ.pv),.int .i64 a,.int .i64 b]=some (.bool (decide (b∈grow l l.length [] a))):=by
 have WI:(2000:Nat)≤maxLen:=by decide
 have hg:=TB l l.length [] a;simp only[asi]at hg;simp only[oD,zZ,ao,asInt,BY,U,V9 l hl,AI];exact V8 _ (by omega) b
def EU(fs:List bl)(t:Int):Bool:=decide (t∈fs.map bl.bD)
theorem RY(fs:List bl)(hl:fs.length≤maxLen)(t:Int):ec [.rs 4 (fs.map bl.pv),.int .i64 t]=some (.bool (EU fs t)):=by
 have hm:=ai;simp only[ec,oX,ao,asInt,BY,U,AI];refine(cX (fun k=>(t,fs.map bl.pv,(fs.length:Int),(k:Int),())) fs.length (fun k=>decide ((fs.map bl.bD)[k]?=some t)) (no:=some (.bool true)) (fin:=some (.bool false)) (fun k hk rec=>?_) (fun rec=>?_) ?_ rfl).trans ?_
 ·have h1:(k:Int)<(fs.length:Int):=by omega
  simp only[lJ,cT,h1,BY,ag,AT,cN hk,No,U,rR,asInt,ab (show k<9223372036854775807 by omega),bT,cO]
 ·simp[lJ,cT,asl,IT]
 ·have:=aw;omega
 ·have h:=jg (fs.map bl.bD) fs.length (by simp) t;rw[h,asG (by simp)];unfold EU;grind
theorem ZJ(fs:List bl)(hl:fs.length≤maxLen)(t:Int):eZ [.rs 4 (fs.map bl.pv),.int .i64 t]=some (.bool (EU fs t)):=by
 have hm:=ai;simp only[eZ,xA,ao,asInt,BY,U,AI];refine(cX (fun k=>(fs.map bl.pv,t,(k:Int),())) fs.length (fun k=>decide ((fs.map bl.bD)[k]?=some t)) (no:=some (.bool true)) (fin:=some (.bool false)) (fun k hk rec=>?_) (fun rec=>?_) ?_ rfl).trans ?_
 ·have h1:(k:Int)<(fs.length:Int):=by omega
  simp only[rE,cT,AI,h1,BY,ag,AT,cN hk,No,U,rR,asInt,ab (show k<9223372036854775807 by omega),bT,cO]
 ·simp[rE,cT,AI,asl,IT]
 ·have:=aw;omega
 ·have h:=jg (fs.map bl.bD) fs.length (by simp) t;rw[h,asG (by simp)];unfold EU;grind
def I9(n m:Int):Bool:=decide (n≥0)&&decide (n<m)
theorem agr(n m:Int):mJ [.int .i64 n,.int .i64 m]=some (.bool (I9 n m)):=by simp only[mJ,MG,asInt,BY,U,aJ];rfl
theorem aie(n:Int)(ts:List PV):gv [.int .i64 n,.rp [.rs 5 ts]]=some (.bool (I9 n ts.length)):=by simp only[gv,wP,asInt,ao,BY,U,aJ];rfl
def A0(a b:Int)(n:Nat):Bool:= !I9 a n|| !I9 b n||decide (a=b)
def tE(fs:List bl)(a b:Int):Bool:=EU fs a||EU fs b
theorem Pf(a b:Int)(ae:List br)(fs:List bl)(hl:fs.length≤maxLen):mH [.int .i64 a,.int .i64 b,.rs 5 (ae.map br.pv),.rs 4 (fs.map bl.pv)]=some (.aG [.int .i64 (if A0 a b ae.length=true then 9 else 0),.int .i64 (if(!A0 a b ae.length&&tE fs a b)=true then 17 else 0)]):=by simp only[mH,BR,asInt,ao,asBool,BY,U,aie,RY fs hl,AI,az,bT];unfold A0 tE;grind
def A1(a b:br):Int:=if(!decide (a.wI=b.wI))=true then 15 else match a.calls[a.calls.length-1]?,b.calls[0]? with
 |some p,some q=>if(!decide (p.stop=q.stop))=true then 13 else if q.dep<p.arr then 10 else 0
 |_,_=>13
theorem TE(l:List aY)(h:0<l.length)(hl:l.length≤maxLen):IntKind.i64.wrap ((l.length:Int)-1)=((l.length-1:Nat):Int):=by grind [ai,aZ]
theorem apI(l:List aY)(h:0<l.length):dB (l.map aY.pv) 0=some l[0].pv:=by rw[show(0:Int)=((0:Nat):Int)from rfl,ag,AT,cN h];rfl
theorem QC(a b:br)(ha:a.Ok)(hb:b.Ok):lZ [a.pv,b.pv]=some (.int .i64 (A1 a b)):=by
 have hm:=ai;have ha1:=ha.calls.1;simp only[lZ,uE,MP,AX,Cc,AY,Fy,xI,aO,ao,asInt,asBool,BY,U,AI,az,eC];unfold A1;cases decide (a.wI=b.wI)with
 |false=>rfl
 |true=>
  simp only[ahX,cQ,IT];by_cases h1:a.calls.length=0
  ·simp_all
  ·by_cases h2:b.calls.length=0
   ·simp_all
   ·have n1:((a.calls.length:Int)==0)=false:=by simp_all
    have n2:((b.calls.length:Int)==0)=false:=by simp_all
    have hk:a.calls.length-1<a.calls.length:=by omega
    have h0:0<b.calls.length:=by omega
    rw[n1,n2,TE a.calls (by omega) ha1,apI b.calls h0];simp only[ata,cQ,IT,ag,AT,cN hk,cN h0,No,U,uU,DA,rM,asInt,BY];grind
def M5(l:List iJ)(ae:List br)(fs:List bl)(k:Nat):Int:=match l[k]? with
 |none=>0
 |some x=>if A0 x.a x.b ae.length=true then 9 else if tE fs x.a x.b=true then 17 else match ae[x.a.toNat]?,ae[x.b.toNat]? with
  |some p,some q=>if A1 p q=0 then(if(decide (x.a∈(l.map iJ.a).take k)||decide (x.b∈(l.map iJ.b).take k))=true then 6 else if x.a∈grow (l.take k) k [] x.b then 19 else 0)else A1 p q
  |_,_=>0
def Ej(l:List iJ)(ae:List br)(fs:List bl):Int×Int:=if l.length>128 then(0,5)else bW (M5 l ae fs) l.length
theorem Ky(a b:Int)(ae:List br)(h:A0 a b ae.length=false):∃(i j:Nat),a=i∧b=j∧i<ae.length∧j<ae.length:=by unfold A0 I9 at h;simp only[asK,as6,amm,cT]at h;exact⟨a.toNat,b.toNat,by omega,by omega,by omega,by omega⟩
theorem ags(l:List iJ)(ae:List br)(fs:List bl)(ht:ae.length≤maxLen∧∀y∈ae,y.Ok)(hf:fs.length≤maxLen):oE [.rs 2 (l.map iJ.pv),.rs 5 (ae.map br.pv),.rs 4 (fs.map bl.pv)]=some (res (Ej l ae fs).1 (Ej l ae fs).2):=by
 have hm:=ai;simp only[oE,Aa,ao,BY,U,AI];unfold Ej;by_cases j5:l.length>128
 ·rw[IN (by simp;omega),IN j5];rfl
 ·rw[IS (by simp;omega),IS j5,←cY];refine aC (fun k=>(l.map iJ.pv,ae.map br.pv,fs.map bl.pv,l.map iJ.pv,(l.length:Int),(k:Int),seen iv ((l.map iJ.a).take k),seen iv ((l.map iJ.b).take k),())) l.length _ (fun k hk rec=>?_) (fun rec=>?_) ?_ rfl
  ·have h1:(k:Int)<(l.length:Int):=by omega
   simp only[sy,cT,h1,BY,ag,AT,cN hk,No,U,ago,agp,asInt,Pf _ _ ae fs hf,cn,amo,asi,Nat.reduceAdd,O6,T1,eC,ab (show k<9223372036854775807 by omega),ll iJ.a l k hk,ll iJ.b l k hk,AI];unfold M5;rw[cN hk];simp only;generalize l[k]=x;cases hp:A0 x.a x.b ae.length with
   |true=>rfl
   |false=>
    cases hr:tE fs x.a x.b with
    |true=>rfl
    |false=>
     obtain⟨i,j,hi,hj,QJ,zj⟩:=Ky x.a x.b ae hp;have xi:dB (ae.map br.pv) x.a=some ae[i].pv:=by rw[hi,ag,AT,cN QJ];rfl
     have xj:dB (ae.map br.pv) x.b=some ae[j].pv:=by rw[hj,ag,AT,cN zj];rfl
     have ti:ae[x.a.toNat]?=some ae[i]:=by simp_all
     have tj:ae[x.b.toNat]?=some ae[j]:=by simp_all
     have hfo:=QC ae[i] ae[j] (ht.2 _ (aqW QJ)) (ht.2 _ (aqW zj));have la:cB (PV.int .i64 x.a) (.bool false) (seen iv ((l.map iJ.a).take k))=.bool (decide (x.a∈(l.map iJ.a).take k)):=eX yg x.a _;have lb:cB (PV.int .i64 x.b) (.bool false) (seen iv ((l.map iJ.b).take k))=.bool (decide (x.b∈(l.map iJ.b).take k)):=eX yg x.b _;have pa:dJ (PV.int .i64 x.a) (.bool true) (seen iv ((l.map iJ.a).take k))=seen iv ((l.map iJ.a).take k++[x.a]):=fX yg x.a _;have pb:dJ (PV.int .i64 x.b) (.bool true) (seen iv ((l.map iJ.b).take k))=seen iv ((l.map iJ.b).take k++[x.b]):=fX yg x.b _;have hc:(0:Int)≤0∧(0:Int)≤(k:Int)∧(k:Int)≤(l.length:Int)∧True∧2≠0:=⟨by omega,by omega,by omega,trivial,by omega⟩;have htk:(l.map iJ.pv).take k=(l.take k).map iJ.pv:=by simp
     have hle:=TD (l.take k) (by simp;omega) x.b x.a;have Oi:(l.take k).length=k:=by simp;omega
     rw[Oi]at hle;simp only[asw,as0,cQ,IT,asv,ahX,xi,xj,ti,tj,U,AX,Cc,AY,Fy,xI,TA,hfo,asInt,BY,la,lb,asBool,az,pa,pb,htk,are,auR,aul,hle,IN hc];by_cases hfe:A1 ae[i] ae[j]=0
     ·simp only[hfe,asv,ahX,cQ,IT,BY];cases(decide (x.a∈(l.map iJ.a).take k)||decide (x.b∈(l.map iJ.b).take k))with
      |true=>rfl
      |false=>
       by_cases bB:x.a∈grow (l.take k) k [] x.b
       ·simp only[bB,asv,BY];rfl
       ·simp only[bB,asx,cQ,IT];rfl
     ·simp only[hfe,asx,asw,BY,IT,DB,bK];rfl
  ·simp only[sy,cT,asl,IT];rfl
  grind [rounds,decide]
theorem amw{A:Type}(l:List A)(p q:A→Bool):(l.any fun x=>p x||q x)=(l.any p||l.any q):=by grind
theorem aif(l:List iJ)(hl:l.length≤1000)(ae:List br)(fs:List bl)(ht:ae.length≤maxLen∧∀y∈ae,y.Ok)(hf:fs.length≤maxLen)(k:Nat)(hk:k<l.length):y7 [.rs 2 (l.map iJ.pv),.int .i64 k,.rs 5 (ae.map br.pv),.rs 4 (fs.map bl.pv)]=some (.int .i64 (M5 l ae fs k)):=by
 have hm:=ai;simp only[y7,I3,ao,asInt,asBool,BY,U,ag,AT,cN hk,No,ago,agp,agr,ZJ fs hf,AI,az,bT,eC];unfold M5;rw[cN hk];simp only;generalize hx:l[k]=x;have hpb:(!I9 x.a (ae.length:Int)|| !I9 x.b (ae.length:Int)||decide (x.a=x.b))=A0 x.a x.b ae.length:=rfl;have hpr:(EU fs x.a||EU fs x.b)=tE fs x.a x.b:=rfl;rw[hpb,hpr];cases hp:A0 x.a x.b ae.length with
 |true=>rfl
 |false=>
  cases hr:tE fs x.a x.b with
  |true=>rfl
  |false=>
   obtain⟨i,j,hi,hj,QJ,zj⟩:=Ky x.a x.b ae hp;have xi:dB (ae.map br.pv) x.a=some ae[i].pv:=by rw[hi,ag,AT,cN QJ];rfl
   have xj:dB (ae.map br.pv) x.b=some ae[j].pv:=by rw[hj,ag,AT,cN zj];rfl
   have ti:ae[x.a.toNat]?=some ae[i]:=by simp_all
   have tj:ae[x.b.toNat]?=some ae[j]:=by simp_all
   have hai:=(ht.2 _ (aqW QJ)).calls.1;simp only[cQ,IT,xi,xj,ti,tj,U,AY,xI,asInt,ao,BY,AI];unfold A1;cases decide (ae[i].wI=ae[j].wI)with
   |false=>rfl
   |true=>
    simp only[ahX,cQ,IT];by_cases z1:ae[i].calls.length=0
    ·have e1:ae[i].calls=[]:=aso z1;have w:IntKind.i64.wrap (((([]:List aY).length:Nat):Int)-1)= -1:=by rfl
     simp_all
    ·rw[TE _ (by omega) hai];have anu:decide (((ae[i].calls.length-1:Nat):Int)<0)=false:=by simp
     simp only[anu,cond_false,U];by_cases z2:ae[j].calls.length=0
     ·simp_all
     ·have n2:decide ((ae[j].calls.length:Int)=0)=false:=att (by omega);have sG:ae[i].calls.length-1<ae[i].calls.length:=by omega
      have h0:0<ae[j].calls.length:=by omega
      rw[n2,apI _ h0];simp only[cQ,cond_false,IT,ag,AT,cN sG,cN h0,No,U,uU,DA,rM,asInt,BY];cases decide (ae[i].calls[ae[i].calls.length-1].stop=ae[j].calls[0].stop)with
      |false=>rfl
      |true=>
       simp only[ahX,cQ,IT,cT];by_cases cd:ae[j].calls[0].dep<ae[i].calls[ae[i].calls.length-1].arr
       ·simp_all
       ·rw[IS cd,IS cd];simp only[BY];have hc:(0:Int)≤0∧(0:Int)≤(k:Int)∧(k:Int)≤((l.map iJ.pv).length:Int)∧True∧2≠0:=⟨by omega,by omega,by simp;omega,trivial,by omega⟩;have htk:(l.map iJ.pv).take k=(l.take k).map iJ.pv:=by simp
        have Oi:(l.take k).length=k:=by simp;omega
        have hch:=abN (l.take k) (by omega) x.b;rw[Oi]at hch;have hg:=TB (l.take k) k [] x.b;simp only[asi]at hg;have amv:=ZI (grow (l.take k) k [] x.b) (by grind [maxLen,decide]) x.a;refine(cX (fun j=>(l.map iJ.pv,(k:Int),(j:Int),PV.int .i64 x.a,PV.int .i64 x.b,())) k (fun j=>decide ((l.map iJ.a)[j]?=some x.a)||decide ((l.map iJ.b)[j]?=some x.b)) (no:=some (.int .i64 6)) (fin:=some (.int .i64 (if x.a∈grow (l.take k) k [] x.b then 19 else 0))) (fun j hj rec=>?_) (fun rec=>?_) ?_ rfl).trans ?_
        ·have h1:(j:Int)<(k:Int):=by omega
         have zj:j<l.length:=by omega
         simp only[BZ,cT,h1,BY,ag,AT,cN zj,No,U,ago,agp,asInt,ab (show j<9223372036854775807 by omega),bT,az,cO]
        ·simp only[BZ,cT,asl,IT,IN hc,htk,are,auR,aul,asInt,BY,U,hch,ao,amv,asBool];split<;>rfl
        ·grind [rounds,decide]
        ·rw[amw,jg _ k (by simp;omega),jg _ k (by simp;omega)];split<;>rfl
theorem aih(l:List iJ)(ae:List br)(fs:List bl)(ht:ae.length≤maxLen∧∀y∈ae,y.Ok)(hf:fs.length≤maxLen):tw [.rs 2 (l.map iJ.pv),.rs 5 (ae.map br.pv),.rs 4 (fs.map bl.pv)]=some (res (Ej l ae fs).1 (Ej l ae fs).2):=by
 have hm:=ai;simp only[tw,D5,ao,BY,U,AI];unfold Ej;by_cases j5:l.length>128
 ·rw[IN (by simp;omega),IN j5];rfl
 ·rw[IS (by simp;omega),IS j5,←cY];refine aC (fun k=>(l.map iJ.pv,ae.map br.pv,fs.map bl.pv,(k:Int),())) l.length _ (fun k hk rec=>?_) (fun rec=>?_) ?_ rfl
  ·have h1:(k:Int)<(l.length:Int):=by omega
   simp only[xY,cT,AI,h1,BY,aif l (by omega) ae fs ht hf k hk,U,asInt,ab (show k<9223372036854775807 by omega),eC];grind [M5,DB,bK,res]
  ·simp only[xY,cT,AI,asl,IT];rfl
  grind [rounds,decide]
def GG(l:List aY)(s:Int)(k:Nat):Bool:=decide (0<k)&&(match l[k]? with|some x=>decide (x.stop=s)&&x.bC|none=>false)
def Ek(l:List aY)(s:Int)(k:Nat):Bool:=decide (k+1<l.length)&&(match l[k]? with|some x=>decide (x.stop=s)&&x.ca|none=>false)
def Pg(o:Option Nat):Int:=match o with|some k=>k|none=> -1
theorem TF(i:Nat):decide (Pg (some i)<0)=false:=by rfl
theorem agt(l:List aY)(hl:l.length≤maxLen)(s:Int):jB [.rs 5 (l.map aY.pv),.int .i64 s]=some (.int .i64 (Pg ((List.range l.length).find? (GG l s)))):=by
 have hm:=ai;simp only[jB,q8,ao,asInt,BY,U,AI];refine(aC (fun k=>(s,l.map aY.pv,(l.length:Int),(k:Int),())) l.length (fun k=>if GG l s k=true then some (some (.int .i64 (k:Int)))else none) (fin:=some (.int .i64 (-1))) (fun k hk rec=>?_) (fun rec=>?_) ?_ rfl).trans ?_
 ·have h1:(k:Int)<(l.length:Int):=by omega
  have h2:decide ((k:Int)>0)=decide (0<k):=by simp
  simp only[mI,cT,h1,BY,ag,AT,cN hk,No,U,uU,O5,asInt,asBool,ab (show k<9223372036854775807 by omega),bT,aJ,GG,h2];cases decide (0<k)<;>cases decide (l[k].stop=s)<;>cases l[k].bC<;>rfl
 ·simp[mI,cT,asl,IT]
 ·have:=aw;omega
 ·rw[iw];cases(List.range l.length).find? (GG l s)<;>rfl
theorem agu(l:List aY)(hl:l.length<maxLen)(s:Int):kV [.rs 5 (l.map aY.pv),.int .i64 s]=some (.int .i64 (Pg ((List.range l.length).find? (Ek l s)))):=by
 have hm:=ai;simp only[kV,sw,ao,asInt,BY,U,AI];refine(aC (fun k=>(l.map aY.pv,s,l.map aY.pv,(l.length:Int),(k:Int),())) l.length (fun k=>if Ek l s k=true then some (some (.int .i64 (k:Int)))else none) (fin:=some (.int .i64 (-1))) (fun k hk rec=>?_) (fun rec=>?_) ?_ rfl).trans ?_
 ·have h1:(k:Int)<(l.length:Int):=by omega
  have h2:decide (((k+1:Nat):Int)<(l.length:Int))=decide (k+1<l.length):=by grind
  simp only[nM,cT,h1,BY,ag,AT,cN hk,No,U,uU,O4,asInt,asBool,ab (show k<9223372036854775807 by omega),bT,aJ,Ek,AI,h2];cases decide (k+1<l.length)<;>cases decide (l[k].stop=s)<;>cases l[k].ca<;>rfl
 ·simp[nM,cT,asl,IT]
 ·have:=aw;omega
 ·rw[iw];cases(List.range l.length).find? (Ek l s)<;>rfl
def mtB(a b:List aY)(i k:Nat):Bool:=match a[i]?,b[k]? with|some p,some q=> !decide (q.dep<p.arr)|_,_=>false
def Wa(i k:Nat)(m:Bool):PV:=if m=true then .aG [.int .i64 i,.int .i64 k,.bool true]else .aG [.int .i64 0,.int .i64 0,.bool false]
def abO:PV:=.aG [.int .i64 0,.int .i64 0,.bool false]
def ES(a b:List aY)(s:Int):PV:=match(List.range a.length).find? (GG a s)with
 |none=>abO
 |some i=>match(List.range b.length).find? (Ek b s)with
  |none=>abO
  |some k=>Wa i k (mtB a b i k)
def M6(a b:List aY)(s:Int):Bool:=match(List.range a.length).find? (GG a s)with
 |none=>false
 |some i=>match(List.range b.length).find? (Ek b s)with
  |none=>false
  |some k=>mtB a b i k
theorem Ph(a b:List aY)(s:Int):∃n m,ES a b s=.aG [.int .i64 n,.int .i64 m,.bool (M6 a b s)]:=by
 unfold ES M6;cases(List.range a.length).find? (GG a s)with
 |none=>exact⟨0,0,rfl⟩
 |some i=>
  cases(List.range b.length).find? (Ek b s)with
  |none=>exact⟨0,0,rfl⟩
  |some k=>
   simp only[Wa];cases mtB a b i k
   ·simp
   simp
theorem ZK(p:Nat→Bool)(n i:Nat)(h:(List.range n).find? p=some i):i<n:=by simp_all
theorem Wb(a b:List aY)(ha:a.length≤maxLen)(hb:b.length<maxLen)(s:Int):oF [.rs 5 (a.map aY.pv),.rs 5 (b.map aY.pv),.int .i64 s]=some (ES a b s):=by
 simp only[oF,Ac,ao,asInt,BY,U,agt a ha s,agu b hb s,az];unfold ES;cases hi:(List.range a.length).find? (GG a s)with
 |none=>rfl
 |some i=>
  have QJ:=ZK _ _ _ hi;cases hk:(List.range b.length).find? (Ek b s)with
  |none=>rfl
  |some k=>have J2:=ZK _ _ _ hk;have h1:decide (Pg (some i)<0)=false:=TF i;have h2:decide (Pg (some k)<0)=false:=TF k;rw[h1,h2];simp only[Pg,ata,cond_false,ag,AT,cN QJ,cN J2,No,U,DA,rM,asInt,BY,cT,Wa,mtB];grind
theorem agv(a b:List aY)(hb:b.length<maxLen)(s:Int)(i:Nat)(hi:i<a.length):bd.run rF (a.map aY.pv,b.map aY.pv,s,(i:Int),0,())=some (match(List.range b.length).find? (Ek b s)with
 |none=>abO
 |some k=>Wa i k (mtB a b i k)):=by
 have hm:=ai
 refine(aC (fun k=>(a.map aY.pv,b.map aY.pv,s,(i:Int),(k:Int),())) (b.length-1) (fun k=>if Ek b s k=true then some (some (Wa i k (mtB a b i k)))else none) (fin:=some abO) (fun k hk rec=>?_) (fun rec=>?_) ?_ rfl).trans ?_
 ·have J2:k<b.length:=by omega
  have h1:((k+1:Nat):Int)<(b.length:Int):=by omega
  have h2:decide (k+1<b.length)=true:=by grind
  simp only[rF,cT,ab (show k<9223372036854775807 by omega),AI,h1,BY,ag,AT,cN J2,cN hi,No,U,uU,DA,rM,O4,asInt,asBool,bT,aJ,Ek,h2,Wa,mtB,as0];cases(decide (b[k].stop=s)&&b[k].ca)with
  |false=>rfl
  |true=>
   by_cases h:b[k].dep<a[i].arr
   ·simp only[h,BY,asv,ahX,cQ,IT];rfl
   ·simp only[h,BY,asx,asw,IT];rfl
 ·have hw:IntKind.i64.wrap (((b.length-1:Nat):Int)+1)=((b.length-1+1:Nat):Int):=ab (by omega);have h1:¬((b.length-1+1:Nat):Int)<(b.length:Int):=by omega
  simp only[rF,cT,hw,AI,IS h1];rfl
 ·have:=aw;omega
 ·rw[iw];have MY:(List.range b.length).find? (Ek b s)=(List.range (b.length-1)).find? (Ek b s):=by
   cases Us:b.length with
   |zero=>rfl
   |succ n=>
    have JI:Ek b s n=false:=by unfold Ek;rw[Us];simp
    simp_all[atB,List.find?_append,auG,List.find?_nil,Option.or_none,atw]
  rw[MY];cases(List.range (b.length-1)).find? (Ek b s)<;>rfl
theorem abP(a b:List aY)(ha:a.length<maxLen)(hb:b.length<maxLen)(s:Int):tx [.rs 5 (a.map aY.pv),.rs 5 (b.map aY.pv),.int .i64 s]=some (ES a b s):=by
 have hm:=ai;simp only[tx,D6,ao,asInt,BY,U];refine(aC (fun k=>(a.map aY.pv,b.map aY.pv,s,((k+1:Nat):Int),())) (a.length-1) (fun k=>if GG a s (k+1)=true then some (some (match(List.range b.length).find? (Ek b s)with|none=>abO|some j=>Wa (k+1) j (mtB a b (k+1) j)))else none) (fin:=some abO) (fun k hk rec=>?_) (fun rec=>?_) ?_ rfl).trans ?_
 ·have J2:k+1<a.length:=by omega
  have h1:((k+1:Nat):Int)<(a.length:Int):=by omega
  have h2:decide (0<k+1)=true:=by simp
  simp only[xZ,cT,AI,h1,BY,ag,AT,cN J2,No,U,uU,O5,asInt,asBool,eC,az,GG,h2,as0,ab (show k+1<9223372036854775807 by omega),agv a b hb s (k+1) J2];cases decide (a[k+1].stop=s)<;>cases a[k+1].bC<;>rfl
 ·have h1:¬((a.length-1+1:Nat):Int)<(a.length:Int):=by omega
  simp only[xZ,cT,AI,IS h1];rfl
 ·have:=aw;omega
 ·rw[iw (fun k=>GG a s (k+1))];unfold ES;cases Oa:a.length with
  |zero=>rfl
  |succ n=>
   have h0:GG a s 0=false:=by rfl
   rw[atE,auG,h0,atw,List.find?_map];cases hf:(List.range n).find? (fun k=>GG a s (k+1))with
   |none=>have:(List.range n).find? (GG a s∘Nat.succ)=none:=hf;rw[this];rfl
   |some i=>have:(List.range n).find? (GG a s∘Nat.succ)=some i:=hf;rw[this];rfl
theorem agw(x:gD):cell x.pv 0=.int .i64 x.a:=rfl
theorem agx(x:gD):cell x.pv 1=.int .i64 x.b:=rfl
theorem agy(x:gD):cell x.pv 2=.int .i64 x.stop:=rfl
theorem apJ(x:gD):PV.agg [.int .i64 x.a,.int .i64 x.b,.int .i64 x.stop]=x.pv:=rfl
theorem TG(a b c:Int):mK (Kd.int .i64::[].append (Kd.int .i64::[].append (Kd.int .i64::[].append []))) [.int .i64 a,.int .i64 b,.int .i64 c]=true:=rfl
theorem M7(x y:gD):cz x.pv.cells y.pv.cells=decide (x=y):=by show cz [.int .i64 x.a,.int .i64 x.b,.int .i64 x.stop] [.int .i64 y.a,.int .i64 y.b,.int .i64 y.stop]=_;simp only[cz,peq,atc,bT];rw[asS];simp only[amm,cT];cases x;cases y;simp
def HS(l:List gD)(ae:List br)(fs:List bl)(stops:Int)(k:Nat):Int:=match l[k]? with
 |none=>0
 |some x=>if(A0 x.a x.b ae.length|| !I9 x.stop stops)=true then 9 else if tE fs x.a x.b=true then 17 else match ae[x.a.toNat]?,ae[x.b.toNat]? with
  |some p,some q=>if M6 p.calls q.calls x.stop=false then 19 else if x∈l.take k then 6 else 0
  |_,_=>0
def y9(l:List gD)(ae:List br)(fs:List bl)(stops:Int):Int×Int:=if l.length>128 then(0,5)else bW (HS l ae fs stops) l.length
theorem abQ(l:List gD)(ae:List br)(fs:List bl)(stops:Int)(ht:ae.length≤maxLen∧∀y∈ae,y.Ok)(HK:∀y∈ae,y.calls.length≤40)(hf:fs.length≤maxLen):eL [.rs 3 (l.map gD.pv),.rs 5 (ae.map br.pv),.rs 4 (fs.map bl.pv),.int .i64 stops]=some (res (y9 l ae fs stops).1 (y9 l ae fs stops).2):=by
 have hm:=ai;have db:1000≤maxLen:=by decide
 simp only[eL,jZ,ao,asInt,BY,U,AI];unfold y9;by_cases j5:l.length>128
 ·rw[IN (by simp;omega),IN j5];rfl
 ·rw[IS (by simp;omega),IS j5,←cY];refine aC (fun k=>(ae.map br.pv,fs.map bl.pv,stops,l.map gD.pv,(l.length:Int),(k:Int),seen gD.pv (l.take k),())) l.length _ (fun k hk rec=>?_) (fun rec=>?_) ?_ rfl
  ·have h1:(k:Int)<(l.length:Int):=by omega
   have uQ:l.take (k+1)=l.take k++[l[k]]:=(atm hk).symm;simp only[gM,cT,h1,BY,ag,AT,cN hk,No,U,agw,agx,agy,asInt,Pf _ _ ae fs hf,cn,amo,asi,Nat.reduceAdd,O6,T1,eC,az,ab (show k<9223372036854775807 by omega),uQ,AI];unfold HS;rw[cN hk];simp only;generalize l[k]=x;have kY:(!I9 x.stop stops)=(decide (x.stop<0)||decide (x.stop≥stops)):=by unfold I9;grind
   rw[kY];cases hp:A0 x.a x.b ae.length with
   |true=>rfl
   |false=>
    simp only[asw,as0,atb,cQ,IT,asv,ahX];cases(decide (x.stop<0)||decide (x.stop≥stops))with
    |true=>rfl
    |false=>
     cases hr:tE fs x.a x.b with
     |true=>rfl
     |false=>
      obtain⟨i,j,hi,hj,QJ,zj⟩:=Ky x.a x.b ae hp;have xi:dB (ae.map br.pv) x.a=some ae[i].pv:=by rw[hi,ag,AT,cN QJ];rfl
      have xj:dB (ae.map br.pv) x.b=some ae[j].pv:=by rw[hj,ag,AT,cN zj];rfl
      have ti:ae[x.a.toNat]?=some ae[i]:=by simp_all
      have tj:ae[x.b.toNat]?=some ae[j]:=by simp_all
      have hci:=HK _ (aqW QJ);have hcj:=HK _ (aqW zj);have hmt:=Wb ae[i].calls ae[j].calls (by omega) (by omega) x.stop;obtain⟨n1,n2,hmp⟩:=Ph ae[i].calls ae[j].calls x.stop;have mC:cB x.pv (.bool false) (seen gD.pv (l.take k))=.bool (decide (x∈l.take k)):=eX M7 x _;have oK:dJ x.pv (.bool true) (seen gD.pv (l.take k))=seen gD.pv (l.take k++[x]):=fX M7 x _;simp only[cQ,IT,asv,ahX,xi,xj,ti,tj,U,xI,ao,asInt,asBool,BY,hmt,hmp,cn,amo,asi,Nat.reduceAdd,O6,T1,TG,apJ,mC,oK];cases M6 ae[i].calls ae[j].calls x.stop with
      |false=>rfl
      |true=>
       by_cases bB:x∈l.take k
       ·simp only[bB,asv,BY,ahX,cQ,asp,IT];rfl
       ·simp only[bB,asx,ahX,cQ,asp,IT];rfl
  ·simp only[gM,cT,asl,IT];rfl
  grind [rounds,decide]
theorem agz(l:List gD)(hl:l.length≤1000)(ae:List br)(fs:List bl)(stops:Int)(HK:∀y∈ae,y.calls.length≤40)(hf:fs.length≤maxLen)(k:Nat)(hk:k<l.length):l0 [.rs 3 (l.map gD.pv),.int .i64 k,.rs 5 (ae.map br.pv),.rs 4 (fs.map bl.pv),.int .i64 stops]=some (.int .i64 (HS l ae fs stops k)):=by
 have hm:=ai;have db:1000≤maxLen:=by decide
 simp only[l0,uH,ao,asInt,asBool,BY,U,ag,AT,cN hk,No,agw,agx,agy,agr,ZJ fs hf,AI,az,bT,eC];unfold HS;rw[cN hk];simp only;generalize hx:l[k]=x;have hpb:(!I9 x.a (ae.length:Int)|| !I9 x.b (ae.length:Int)||decide (x.a=x.b))=A0 x.a x.b ae.length:=rfl;have hpr:(EU fs x.a||EU fs x.b)=tE fs x.a x.b:=rfl;rw[hpb,hpr];cases hp:A0 x.a x.b ae.length with
 |true=>rfl
 |false=>
  cases hs:I9 x.stop stops with
  |false=>rfl
  |true=>
   cases hr:tE fs x.a x.b with
   |true=>rfl
   |false=>
    obtain⟨i,j,hi,hj,QJ,zj⟩:=Ky x.a x.b ae hp;have xi:dB (ae.map br.pv) x.a=some ae[i].pv:=by rw[hi,ag,AT,cN QJ];rfl
    have xj:dB (ae.map br.pv) x.b=some ae[j].pv:=by rw[hj,ag,AT,cN zj];rfl
    have ti:ae[x.a.toNat]?=some ae[i]:=by simp_all
    have tj:ae[x.b.toNat]?=some ae[j]:=by simp_all
    have hci:=HK _ (aqW QJ);have hcj:=HK _ (aqW zj);have hmt:=abP ae[i].calls ae[j].calls (by omega) (by omega) x.stop;obtain⟨n1,n2,hmp⟩:=Ph ae[i].calls ae[j].calls x.stop;simp only[ahX,ata,cQ,IT,xi,xj,ti,tj,U,xI,ao,asInt,asBool,BY,hmt,hmp,cn,amo,asi,Nat.reduceAdd,O6,T1];cases M6 ae[i].calls ae[j].calls x.stop with
    |false=>rfl
    |true=>
     simp only[ahX,cQ,asp,IT];refine(cX (fun j=>(l.map gD.pv,(k:Int),(j:Int),PV.int .i64 x.a,PV.int .i64 x.b,PV.int .i64 x.stop,())) k (fun j=>decide (l[j]?=some x)) (no:=some (.int .i64 6)) (fin:=some (.int .i64 0)) (fun j hj rec=>?_) (fun rec=>?_) ?_ rfl).trans ?_
     ·have h1:(j:Int)<(k:Int):=by omega
      have zj:j<l.length:=by omega
      have Cf:cz [PV.int .i64 l[j].a,.int .i64 l[j].b,.int .i64 l[j].stop] [.int .i64 x.a,.int .i64 x.b,.int .i64 x.stop]=decide (l[j]=x):=M7 l[j] x;simp only[pg,cT,h1,BY,ag,AT,cN zj,No,U,agw,agx,agy,TG,auM,Cf,ab (show j<9223372036854775807 by omega),cO]
     ·simp[pg,cT,asl,IT]
     ·grind [rounds,decide]
     ·rw[jg l k (by omega)];grind
theorem agA(l:List gD)(ae:List br)(fs:List bl)(stops:Int)(HK:∀y∈ae,y.calls.length≤40)(hf:fs.length≤maxLen):fN [.rs 3 (l.map gD.pv),.rs 5 (ae.map br.pv),.rs 4 (fs.map bl.pv),.int .i64 stops]=some (res (y9 l ae fs stops).1 (y9 l ae fs stops).2):=by
 have hm:=ai;simp only[fN,lI,ao,asInt,BY,U,AI];unfold y9;by_cases j5:l.length>128
 ·rw[IN (by simp;omega),IN j5];rfl
 ·rw[IS (by simp;omega),IS j5,←cY];refine aC (fun k=>(l.map gD.pv,ae.map br.pv,fs.map bl.pv,stops,(k:Int),())) l.length _ (fun k hk rec=>?_) (fun rec=>?_) ?_ rfl
  ·have h1:(k:Int)<(l.length:Int):=by omega
   simp only[iT,cT,AI,h1,BY,agz l (by omega) ae fs stops HK hf k hk,U,asInt,ab (show k<9223372036854775807 by omega),eC];grind [HS,DB,bK,res]
  ·simp only[iT,cT,AI,asl,IT];rfl
  grind [rounds,decide]
def yV(T:ay):Nat→Int×Int
 |0=>fH T.stops
 |1=>eN T.aj
 |2=>Eg T.dp
 |3=>Eh T.jK T.dp.length
 |4=>te T.ae T.stops.length T.aj.length T.dp.length
 |5=>tf T.bV T.ae
 |6=>Ej T.vf T.ae T.bV
 |7=>y9 T.lO T.ae T.bV T.stops.length
 |8=>y8 T.paths T.stops.length
 |_=>cJ T.aK T.bp T.within T.cap
def uc(p i e:Int):PV:=.aG [.int .i64 p,.int .i64 i,.int .i64 e]
def sN(T:ay)(p:Nat):Option (Option PV):=if(yV T p).2=0 then none else some (some (uc p (yV T p).1 (yV T p).2))
theorem ttA(T:ay):asAgg 13 T.pv=some ():=rfl
theorem tt0(T:ay):cell T.pv 0=.rs 4 (T.stops.map Stop.pv):=rfl
theorem tt1(T:ay):cell T.pv 1=.rs 3 (T.aj.map ax.pv):=rfl
theorem tt2(T:ay):cell T.pv 2=.rs 10 (T.dp.map mL.pv):=rfl
theorem tt3(T:ay):cell T.pv 3=.rs 3 (T.jK.map pF.pv):=rfl
theorem tt4(T:ay):cell T.pv 4=.rs 5 (T.ae.map br.pv):=rfl
theorem tt5(T:ay):cell T.pv 5=.rs 4 (T.bV.map bl.pv):=rfl
theorem tt6(T:ay):cell T.pv 6=.rs 2 (T.vf.map iJ.pv):=rfl
theorem tt7(T:ay):cell T.pv 7=.rs 3 (T.lO.map gD.pv):=rfl
theorem tt8(T:ay):cell T.pv 8=.rs 4 (T.paths.map Path.pv):=rfl
theorem tt9(T:ay):cell T.pv 9=.rs 6 (T.aK.map aM.pv):=rfl
theorem Iu(T:ay):cell T.pv 10=.int .i64 T.bp:=rfl
theorem Iv(T:ay):cell T.pv 11=.int .i64 T.within:=rfl
theorem Iw(T:ay):cell T.pv 12=.int .i64 T.cap:=rfl
theorem ttF(l:List aM)(a b c:Int):PV.agg [.rs 6 (l.map aM.pv),.int .i64 a,.int .i64 b,.int .i64 c]=dr l a b c:=rfl
theorem ttE(T:ay):PV.agg [.rs 4 (T.stops.map Stop.pv),.rs 3 (T.aj.map ax.pv),.rs 10 (T.dp.map mL.pv),.rs 3 (T.jK.map pF.pv),.rs 5 (T.ae.map br.pv),.rs 4 (T.bV.map bl.pv),.rs 2 (T.vf.map iJ.pv),.rs 3 (T.lO.map gD.pv),.rs 4 (T.paths.map Path.pv),.rs 6 (T.aK.map aM.pv),.int .i64 T.bp,.int .i64 T.within,.int .i64 T.cap]=T.pv:=rfl
def Small(T:ay):Prop:=∀y∈T.ae,y.calls.length≤40
theorem agB(T:ay)(hT:T.Ok)(hs:Small T)(p:Nat)(hp:p<10):vJ [T.pv,.int .i64 p]=some (res (yV T p).1 (yV T p).2):=by
 have h0:=agd T.stops hT.stops;have h1:=abC T.aj hT.aj;have h2:=ah9 T.dp hT.dp;have h3:=aia T.jK T.dp.length hT.jK;have h4:=agi T.ae T.stops.length T.aj.length T.dp.length hT.ae;have h5:=agn T.bV T.ae hT.ae hs hT.bV.1;have h6:=aih T.vf T.ae T.bV hT.ae hT.bV.1;have h7:=agA T.lO T.ae T.bV T.stops.length hs hT.bV.1;have h8:=agk T.paths T.stops.length hT.paths.1;have h9:=V5 T.aK T.bp T.within T.cap hT.aK;simp only[res]at h0 h1 h2 h3 h4 h5 h6 h7 h8 h9;simp only[vJ,GA,ttA,tt0,tt1,tt2,tt3,tt4,tt5,tt6,tt7,tt8,tt9,Iu,Iv,Iw,ao,asInt,BY,U,AI,ttF,h0,h1,h2,h3,h4,h5,h6,h7,h8,h9,cn,amo,asi,Nat.reduceAdd,O6,T1];match p,hp with
 |0,_=>rfl
 |1,_=>rfl
 |2,_=>rfl
 |3,_=>rfl
 |4,_=>rfl
 |5,_=>rfl
 |6,_=>rfl
 |7,_=>rfl
 |8,_=>rfl
 |9,_=>rfl
theorem aaJ(T:ay)(hT:T.Ok)(hs:Small T):tD [T.pv]=bK ((List.range 10).findSome? (sN T)) (some (uc 0 0 0)):=by
 simp only[tD,Eb,ttA,tt0,tt1,tt2,tt3,tt4,tt5,tt6,tt7,tt8,tt9,Iu,Iv,Iw,ao,asInt,BY,U];refine aC (fun k=>((k:Int),T.stops.map Stop.pv,T.aj.map ax.pv,T.dp.map mL.pv,T.jK.map pF.pv,T.ae.map br.pv,T.bV.map bl.pv,T.vf.map iJ.pv,T.lO.map gD.pv,T.paths.map Path.pv,T.aK.map aM.pv,T.bp,T.within,T.cap,())) 10 _ (fun k hk rec=>?_) (fun rec=>?_) ?_ rfl
 ·have h1:(k:Int)<10:=by omega
  have hp:=agB T hT hs k hk;simp only[res]at hp;simp only[Ef,cT,h1,BY,ttE,hp,U,cn,asInt,amo,asi,Nat.reduceAdd,O6,T1,eC,ab (show k<9223372036854775807 by omega),sN];grind [yV,bK,uc]
 ·rfl
 decide
theorem UY(T:ay)(hT:T.Ok)(hs:Small T):iu [T.pv]=bK ((List.range 10).findSome? (sN T)) (some (uc 0 0 0)):=by
 have h0:=OR T.stops hT.stops;have h1:=Mp T.aj hT.aj;have h2:=age T.dp hT.dp;have h3:=agf T.jK T.dp.length hT.jK;have h4:=abF T.ae T.stops.length T.aj.length T.dp.length hT.ae;have h5:=abM T.bV T.ae hT.ae hs hT.bV.1;have h6:=ags T.vf T.ae T.bV hT.ae hT.bV.1;have h7:=abQ T.lO T.ae T.bV T.stops.length hT.ae hs hT.bV.1;have h8:=abH T.paths T.stops.length hT.paths.1;have h9:=BE T.aK T.bp T.within T.cap hT.aK;simp only[res]at h0 h1 h2 h3 h4 h5 h6 h7 h8 h9;have w1:IntKind.i64.wrap (0+1)=1:=by rfl
 have w2:IntKind.i64.wrap (1+1)=2:=by rfl
 have w3:IntKind.i64.wrap (2+1)=3:=by rfl
 have w4:IntKind.i64.wrap (3+1)=4:=by rfl
 have w5:IntKind.i64.wrap (4+1)=5:=by rfl
 have w6:IntKind.i64.wrap (5+1)=6:=by rfl
 have w7:IntKind.i64.wrap (6+1)=7:=by rfl
 have w8:IntKind.i64.wrap (7+1)=8:=by rfl
 have w9:IntKind.i64.wrap (8+1)=9:=by rfl
 simp only[iu,uF,jo,qi,jq,qp,jr,qj,jt,qq,ju,qk,jw,qn,jx,qo,jy,qt,jz,qm,iC,oP,ttA,tt0,tt1,tt2,tt3,tt4,tt5,tt6,tt7,tt8,tt9,Iu,Iv,Iw,ao,asInt,BY,U,AI,ttF,h0,h1,h2,h3,h4,h5,h6,h7,h8,h9,cn,amo,asi,Nat.reduceAdd,O6,T1,w1,w2,w3,w4,w5,w6,w7,w8,w9,eC];have hr:List.range 10=[0,1,2,3,4,5,6,7,8,9]:=by rfl
 rw[hr];simp only[as3,auL,sN,yV,uc];generalize fH T.stops=r0;generalize eN T.aj=r1;generalize Eg T.dp=r2;generalize Eh T.jK T.dp.length=r3;generalize te T.ae T.stops.length T.aj.length T.dp.length=r4;generalize tf T.bV T.ae=r5;generalize Ej T.vf T.ae T.bV=r6;generalize y9 T.lO T.ae T.bV T.stops.length=r7;generalize y8 T.paths T.stops.length=r8;generalize cJ T.aK T.bp T.within T.cap=r9;by_cases e0:r0.2=0;rotate_left
 ·simp[e0,bK]
 by_cases e1:r1.2=0;rotate_left
 ·simp[e0,e1,bK]
 by_cases e2:r2.2=0;rotate_left
 ·simp[e0,e1,e2,bK]
 by_cases e3:r3.2=0;rotate_left
 ·simp[e0,e1,e2,e3,bK]
 by_cases e4:r4.2=0;rotate_left
 ·simp[e0,e1,e2,e3,e4,bK]
 by_cases e5:r5.2=0;rotate_left
 ·simp[e0,e1,e2,e3,e4,e5,bK]
 by_cases e6:r6.2=0;rotate_left
 ·simp_all[bK]
 by_cases e7:r7.2=0;rotate_left
 ·simp_all[bK]
 by_cases e8:r8.2=0;rotate_left
 ·simp_all[bK]
 by_cases e9:r9.2=0;rotate_left
 ·simp_all[bK]
 simp_all[bK]
end Go.Ab.Tt
