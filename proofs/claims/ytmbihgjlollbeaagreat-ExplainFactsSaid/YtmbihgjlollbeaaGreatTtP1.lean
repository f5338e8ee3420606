import Derived.Test.YtmbihgjlollbeaaGreatFbP3
import Derived.Test.YtmbihgjlollbeaaGreatSh6
namespace Go.Ab.Tt
set_option maxRecDepth 100000
set_option linter.all false
theorem Tl(s:Bytes)(hs:s.length≤maxLen):nW [.str s]=some (.bool (eW s)):=by
 have hm:=ai;simp only[nW,DP,aO,U,ay];refine EF s hs (fun k hk rec=>?_) (fun rec=>?_) ?_
 ·have h1:(k:Int)<(s.length:Int):=by omega
  simp only[xI,cT,h1,BY,Dp,cN hk,U,aJ,ay,ab (show k<9223372036854775807 by omega),eC];grind [kY,ge_iff_le,decide]
 ·simp[xI,cT,asf,IS]
 grind
theorem VS(s:Bytes)(hs:s.length≤maxLen):kK [.str s]=some (.bool (eW s)):=by
 have hm:=ai;simp only[kK,sr,aO,U,ay];refine EF s hs (fun k hk rec=>?_) (fun rec=>?_) ?_
 ·have h1:(k:Int)<(s.length:Int):=by omega
  simp only[nM,cT,h1,BY,Dp,cN hk,U,aJ,ay,ab (show k<9223372036854775807 by omega),bX];grind [kY,ge_iff_le,decide]
 ·simp[nM,cT,asf,IS]
 grind
theorem HN(s:Bytes)(hs:s.length≤maxLen):ry [.str s]=some (.bool (eW s)):=by
 have hm:=ai;simp only[ry,Gp,aO,U,ay];refine EF s hs (fun k hk rec=>?_) (fun rec=>?_) ?_
 ·have h1:(k:Int)<(s.length:Int):=by omega
  simp only[zS,cT,h1,BY,Dp,cN hk,U,aJ,ay,ab (show k<9223372036854775807 by omega),bX];grind [kY,ge_iff_le,decide]
 ·simp[zS,cT,asf,IS]
 grind
theorem abt(l:List Stop)(hl:l.length≤maxLen)(s:Bytes):vA [.rs 4 (l.map Stop.pv),.str s]=some (.int .i64 (HM (l.map Stop.id) s)):=by
 have hm:=ai;simp only[vA,Gn,ao,aO,BY,U];refine(aC (fun k=>(l.map Stop.pv,s,(k:Int),())) l.length (fun k=>if decide ((l.map Stop.id)[k]?=some s)=true then some (some (.int .i64 k))else none) (fin:=some (.int .i64 (-1))) (fun k hk rec=>?_) (fun rec=>?_) ?_ rfl).trans ?_
 ·have h1:(k:Int)<(l.length:Int):=by omega
  simp only[zR,cT,AI,h1,BY,ag,AT,cN hk,No,U,Stop.pv,cell,PV.cells,abm,aO,ab (show k<9223372036854775807 by omega),bX,cO];grind [bK]
 ·simp[zR,cT,AI,asf,IS]
 ·have:=aw;omega
 ·rw[iu];unfold HM;simp only[AI];cases(List.range l.length).find? fun k=>decide ((l.map Stop.id)[k]?=some s)<;>rfl
theorem afX(l:List Stop)(hl:l.length≤maxLen∧∀y∈l,y.Ok):tc [.rs 4 (l.map Stop.pv)]=some (res (fE l).1 (fE l).2):=by
 have hm:=ai;simp only[tc,DO,ao,BY,U,AI];unfold fE;by_cases j4:l.length>64
 ·rw[IN (by simp;omega),IN j4];rfl
 ·rw[IT (by simp;omega),IT j4,←cW];refine aC (fun k=>(l.map Stop.pv,(k:Int),())) l.length _ (fun k hk rec=>?_) (fun rec=>?_) ?_ rfl
  ·have h1:(k:Int)<(l.length:Int):=by omega
   have hid:=VS l[k].id (hl.2 _ (ar9 hk)).id;have MU:=abt l hl.1 l[k].id;have cd:=ahS (l.map Stop.id) k (by simpa using hk);simp only[List.getElem_map]at cd;simp only[xH,cT,AI,h1,BY,ag,AT,cN hk,No,U,Stop.pv,cell,PV.cells,abm,ahH,aO,asInt,asBool,hid,MU,ay,ab (show k<9223372036854775807 by omega)];unfold Hg;rw[cN hk];simp only;generalize (decide (l[k].ua<0)||decide (l[k].ua≥16)||decide (l[k].change<0)||decide (l[k].change>3600))=c;cases eW l[k].id with
   |false=>rfl
   |true=>
    by_cases bB:l[k].id∈(l.map Stop.id).take k
    ·simp only[cd.2 bB,bB,BY,aiI,cQ,asj,IS];rfl
    ·have hn:¬HM (l.map Stop.id) l[k].id<(k:Int):=fun h=>bB (cd.1 h);simp only[hn,bB,BY,aiI,cQ,asj,IS];cases c<;>rfl
  ·simp only[xH,cT,AI,asf,IS];rfl
  ·have:=aw;omega
theorem Tm(l:List ax)(hl:l.length≤maxLen)(i:Nat)(hi:i<l.length)(jT:List PV×Int×Unit→Option PV):ba.run (rz jT) (l.map ax.pv,(i:Int),0,())=if l[i].id∈(l.map ax.id).take i then some (res i 6)else if(decide (l[i].mode≥0)&&decide (l[i].mode<8))=false then some (res i 2)else jT (l.map ax.pv,IntKind.i64.wrap ((i:Int)+1),()):=by
 have hm:=ai;refine(aC (fun k=>(l.map ax.pv,(i:Int),(k:Int),())) i (fun k=>if decide ((l.map ax.id)[k]?=some l[i].id)=true then some (some (res i 6))else none) (fin:=if(decide (l[i].mode≥0)&&decide (l[i].mode<8))=false then some (res i 2)else jT (l.map ax.pv,IntKind.i64.wrap ((i:Int)+1),())) (fun k hk rec=>?_) (fun rec=>?_) ?_ rfl).trans ?_
 ·have h1:(k:Int)<(i:Int):=by omega
  have sD:k<l.length:=by omega
  simp only[rz,cT,h1,BY,ag,AT,cN sD,cN hi,No,U,ax.pv,cell,PV.cells,abm,aO,ab (show k<9223372036854775807 by omega),bX,cO];grind [bK,res]
 ·simp only[rz,cT,asf,IS,ag,AT,cN hi,No,U,ax.pv,cell,PV.cells,abm,ahH,asInt,asBool,BY,BS,Gq,aJ];generalize (decide (l[i].mode≥0)&&decide (l[i].mode<8))=c;cases c<;>rfl
 ·have:=aw;omega
 ·rw[iu];cases hf:(List.range i).find? fun k=>decide ((l.map ax.id)[k]?=some l[i].id)with
  |none=>
   have hn:l[i].id∉(l.map ax.id).take i:=fun bB=>by obtain⟨j,hj⟩:=ast.1 bB;grind
   rw[IT hn];rfl
  |some j=>rw[atG]at hf;obtain⟨h1,h2,_⟩:=hf;have bB:l[i].id∈(l.map ax.id).take i:=ast.2 ⟨j,by simp_all⟩;rw[IN bB];rfl
theorem abu(l:List ax)(hl:l.length≤maxLen∧∀y∈l,y.Ok):te [.rs 3 (l.map ax.pv)]=some (res (eM l).1 (eM l).2):=by
 have hm:=ai;simp only[te,DR,ao,BY,U,AI];unfold eM;by_cases j4:l.length>64
 ·rw[IN (by simp;omega),IN j4];rfl
 ·rw[IT (by simp;omega),IT j4,←cW];refine aC (fun k=>(l.map ax.pv,(k:Int),())) l.length _ (fun k hk rec=>?_) (fun rec=>?_) ?_ rfl
  ·have h1:(k:Int)<(l.length:Int):=by omega
   have hid:=HN l[k].id (hl.2 _ (ar9 hk)).id;have kM:=Tm l hl.1 k hk rec;have pj:cell (l[k].pv) 0=.str l[k].id:=rfl;simp only[xK,cT,AI,h1,BY,ag,AT,cN hk,No,U,pj,aO,asBool,hid,kM,ab (show k<9223372036854775807 by omega)];unfold C9;rw[cN hk];simp only;generalize (decide (l[k].mode≥0)&&decide (l[k].mode<8))=c;cases eW l[k].id with
   |false=>rfl
   |true=>
    by_cases bB:l[k].id∈(l.map ax.id).take k
    ·simp only[bB,BY,aiI,cQ,asj,IS];rfl
    ·simp only[bB,BY,aiI,cQ,asj,IS];cases c<;>rfl
  ·simp only[xK,cT,AI,asf,IS];rfl
  ·have:=aw;omega
def dv(n:Int):Bool:=decide (0≤n)&&decide (n≤36524)
theorem Zw(n:Int):fi [.int .i64 n]=some (.bool (dv n)):=by simp only[fi,BK,asInt,BY,U,aJ];rfl
theorem Tn(n:Int):eg [.int .i64 n]=some (.bool (dv n)):=by simp only[eg,yM,asInt,BY,U,aJ];rfl
def VT(l:List mJ)(k:Nat):Int:=match l[k]? with
 |none=>0
 |some x=>if eW x.id=false then 12 else if x.id∈(l.map mJ.id).take k then 6 else if(!dv x.Cp|| !dv x.Cq||decide (x.Cp>x.Cq))=true then 11 else 0
def Eb(l:List mJ):Int×Int:=if l.length>64 then(0,5)else bV (VT l) l.length
theorem amj(x:mJ):cell x.pv 0=.str x.id:=rfl
theorem abh(x:mJ):cell x.pv 8=.int .i64 x.Cp:=rfl
theorem abi(x:mJ):cell x.pv 9=.int .i64 x.Cq:=rfl
theorem afY(l:List mJ)(hl:l.length≤maxLen∧∀y∈l,y.Ok):nj [.rs 10 (l.map mJ.pv)]=some (res (Eb l).1 (Eb l).2):=by
 have hm:=ai;simp only[nj,xo,ao,BY,U,AI];unfold Eb;by_cases j4:l.length>64
 ·rw[IN (by simp;omega),IN j4];rfl
 ·rw[IT (by simp;omega),IT j4,←cW];refine aC (fun k=>(l.map mJ.pv,(l.length:Int),(k:Int),seen PV.str ((l.map mJ.id).take k),())) l.length _ (fun k hk rec=>?_) (fun rec=>?_) ?_ rfl
  ·have h1:(k:Int)<(l.length:Int):=by omega
   have hid:=Ax l[k].id (hl.2 _ (ar9 hk)).id;have oK:=fV mS l[k].id ((l.map mJ.id).take k);have mA:=eX mS l[k].id ((l.map mJ.id).take k);simp only[rn,cT,h1,BY,ag,AT,cN hk,No,U,amj,abh,abi,aO,asInt,asBool,hid,oK,mA,Zw,ab (show k<9223372036854775807 by omega),kT mJ.id l k hk];unfold VT;rw[cN hk];simp only;cases eW l[k].id with
   |false=>rfl
   |true=>
    by_cases bB:l[k].id∈(l.map mJ.id).take k
    ·simp only[bB,BY,aiI,cQ,asj,IS];rfl
    ·simp only[bB,BY,aiI,cQ,asj,IS];by_cases hgt:l[k].Cp>l[k].Cq
     ·simp only[hgt,asq,au7,BY];cases dv l[k].Cp<;>cases dv l[k].Cq<;>rfl
     ·simp only[hgt,ass,as4,IS];cases dv l[k].Cp<;>cases dv l[k].Cq<;>rfl
  ·simp only[rn,cT,asf,IS];rfl
  ·have:=aw;omega
theorem abv(l:List mJ)(hl:l.length≤maxLen)(i:Nat)(hi:i<l.length)(jT:List PV×Int×Unit→Option PV):ba.run (rr jT) (l.map mJ.pv,(i:Int),0,())=if l[i].id∈(l.map mJ.id).take i then some (res i 6)else if(!dv l[i].Cp|| !dv l[i].Cq||decide (l[i].Cp>l[i].Cq))=true then some (res i 11)else jT (l.map mJ.pv,IntKind.i64.wrap ((i:Int)+1),()):=by
 have hm:=ai;refine(dt (fun k=>(l.map mJ.pv,(i:Int),(k:Int),())) i (fun k=>decide ((l.map mJ.id)[k]?=some l[i].id)) (no:=some (res i 6)) (fin:=if(!dv l[i].Cp|| !dv l[i].Cq||decide (l[i].Cp>l[i].Cq))=true then some (res i 11)else jT (l.map mJ.pv,IntKind.i64.wrap ((i:Int)+1),())) (fun k hk rec=>?_) (fun rec=>?_) ?_ rfl).trans ?_
 ·have h1:(k:Int)<(i:Int):=by omega
  have sD:k<l.length:=by omega
  simp only[rr,cT,h1,BY,ag,AT,cN sD,cN hi,No,U,amj,aO,ab (show k<9223372036854775807 by omega),bX,cO];rfl
 ·simp only[rr,cT,asf,IS,ag,AT,cN hi,No,U,abh,abi,asInt,asBool,BY,Tn,ay];rfl
 ·have:=aw;omega
 ·rw[jf _ _ (by simp;omega)];simp_all
theorem ahU(l:List mJ)(hl:l.length≤maxLen∧∀y∈l,y.Ok):td [.rs 10 (l.map mJ.pv)]=some (res (Eb l).1 (Eb l).2):=by
 have hm:=ai;simp only[td,DQ,ao,BY,U,AI];unfold Eb;by_cases j4:l.length>64
 ·rw[IN (by simp;omega),IN j4];rfl
 ·rw[IT (by simp;omega),IT j4,←cW];refine aC (fun k=>(l.map mJ.pv,(k:Int),())) l.length _ (fun k hk rec=>?_) (fun rec=>?_) ?_ rfl
  ·have h1:(k:Int)<(l.length:Int):=by omega
   have hid:=Tl l[k].id (hl.2 _ (ar9 hk)).id;have kM:=abv l hl.1 k hk rec;simp only[xJ,cT,AI,h1,BY,ag,AT,cN hk,No,U,amj,aO,asBool,hid,kM,ab (show k<9223372036854775807 by omega)];unfold VT;rw[cN hk];simp only;generalize (!dv l[k].Cp|| !dv l[k].Cq||decide (l[k].Cp>l[k].Cq))=c;cases eW l[k].id with
   |false=>rfl
   |true=>
    by_cases bB:l[k].id∈(l.map mJ.id).take k
    ·simp only[bB,BY,aiI,cQ,asj,IS];rfl
    ·simp only[bB,BY,aiI,cQ,asj,IS];cases c<;>rfl
  ·simp only[xJ,cT,AI,asf,IS];rfl
  ·have:=aw;omega
def kL(x:pE):Int×Int:=(x.wB,x.day)
def VU(l:List pE)(n:Int)(k:Nat):Int:=match l[k]? with
 |none=>0
 |some x=>if(decide (x.wB<0)||decide (x.wB≥n))=true then 9 else if dv x.day=false then 11 else if kL x∈(l.map kL).take k then 6 else 0
def Ec(l:List pE)(n:Int):Int×Int:=if l.length>256 then(0,5)else bV (VU l n) l.length
def I0(x:Int×Int):PV:=.agg [.int .i64 x.1,.int .i64 x.2]
theorem To(a b:Int×Int):cz (I0 a).cells (I0 b).cells=decide (a=b):=by obtain⟨a1,a2⟩:=a;obtain⟨b1,b2⟩:=b;rw[asL];simp[I0,PV.cells,cz,peq]
theorem afF(x:pE):cell x.pv 0=.int .i64 x.wB:=rfl
theorem afG(x:pE):cell x.pv 1=.int .i64 x.day:=rfl
theorem afZ(l:List pE)(n:Int)(hl:l.length≤maxLen∧∀y∈l,y.Ok):ep [.rs 3 (l.map pE.pv),.int .i64 n]=some (res (Ec l n).1 (Ec l n).2):=by
 have hm:=ai;simp only[ep,iP,ao,asInt,BY,U,AI];unfold Ec;by_cases j4:l.length>256
 ·rw[IN (by simp;omega),IN j4];rfl
 ·rw[IT (by simp;omega),IT j4,←cW];refine aC (fun k=>(n,l.map pE.pv,(l.length:Int),(k:Int),seen I0 ((l.map kL).take k),())) l.length _ (fun k hk rec=>?_) (fun rec=>?_) ?_ rfl
  ·have h1:(k:Int)<(l.length:Int):=by omega
   have oK:dI (.agg [.int .i64 l[k].wB,.int .i64 l[k].day]) (.bool true) (seen I0 ((l.map kL).take k))=_:=fV To (kL l[k]) ((l.map kL).take k);have mA:cB (.agg [.int .i64 l[k].wB,.int .i64 l[k].day]) (.bool false) (seen I0 ((l.map kL).take k))=_:=eX To (kL l[k]) ((l.map kL).take k);simp only[gh,cT,h1,BY,ag,AT,cN hk,No,U,afF,afG,asInt,asBool,oK,mA,Zw,ay,ab (show k<9223372036854775807 by omega),kT kL l k hk];unfold VU;rw[cN hk];simp only;generalize (decide (l[k].wB<0)||decide (l[k].wB≥n))=c;by_cases bB:kL l[k]∈(l.map kL).take k
   ·simp only[bB,BY];cases c<;>cases dv l[k].day<;>rfl
   ·simp only[bB,IS];cases c<;>cases dv l[k].day<;>rfl
  ·simp only[gh,cT,asf,IS];rfl
  ·have:=aw;omega
theorem abw(l:List pE)(n:Int)(hl:l.length≤maxLen)(i:Nat)(hi:i<l.length)(uE:List PV×Int×Int×Unit→Option PV):ba.run (fk uE) (l.map pE.pv,n,(i:Int),0,())=if kL l[i]∈(l.map kL).take i then some (res i 6)else uE (l.map pE.pv,n,IntKind.i64.wrap ((i:Int)+1),()):=by
 have hm:=ai;refine(dt (fun k=>(l.map pE.pv,n,(i:Int),(k:Int),())) i (fun k=>decide ((l.map kL)[k]?=some (kL l[i]))) (no:=some (res i 6)) (fin:=uE (l.map pE.pv,n,IntKind.i64.wrap ((i:Int)+1),())) (fun k hk rec=>?_) (fun rec=>?_) ?_ rfl).trans ?_
 ·have h1:(k:Int)<(i:Int):=by omega
  have sD:k<l.length:=by omega
  simp only[fk,cT,h1,BY,ag,AT,cN sD,cN hi,No,U,afF,afG,asInt,ab (show k<9223372036854775807 by omega),bX,aJ,cO,kL,apa,ao9];rfl
 ·simp[fk,cT,asf,IS]
 ·have:=aw;omega
 ·rw[jf _ _ (by simp;omega)];simp_all
theorem ahV(l:List pE)(n:Int)(hl:l.length≤maxLen∧∀y∈l,y.Ok):fK [.rs 3 (l.map pE.pv),.int .i64 n]=some (res (Ec l n).1 (Ec l n).2):=by
 have hm:=ai;simp only[fK,lG,ao,asInt,BY,U,AI];unfold Ec;by_cases j4:l.length>256
 ·rw[IN (by simp;omega),IN j4];rfl
 ·rw[IT (by simp;omega),IT j4,←cW];refine aC (fun k=>(l.map pE.pv,n,(k:Int),())) l.length _ (fun k hk rec=>?_) (fun rec=>?_) ?_ rfl
  ·have h1:(k:Int)<(l.length:Int):=by omega
   have kM:=abw l n hl.1 k hk rec;simp only[iR,cT,AI,h1,BY,ag,AT,cN hk,No,U,afF,afG,asInt,asBool,kM,Tn,ay,ab (show k<9223372036854775807 by omega)];unfold VU;rw[cN hk];simp only;generalize (decide (l[k].wB<0)||decide (l[k].wB≥n))=c;by_cases bB:kL l[k]∈(l.map kL).take k
   ·simp only[bB,BY];cases c<;>cases dv l[k].day<;>rfl
   ·simp only[bB,IS];cases c<;>cases dv l[k].day<;>rfl
  ·simp only[iR,cT,AI,asf,IS];rfl
  ·have:=aw;omega
theorem VV(l:List aY)(stops:Int)(hl:l.length≤maxLen):tf [.rs 5 (l.map aY.pv),.int .i64 stops]=some (.int .i64 (gR l stops 0 172800).2):=by
 have hm:=ai;simp only[tf,DS,ao,asInt,BY,U,AI,ay];unfold gR;split
 ·rfl
 ·rw[←Mm];refine aC (fun k=>(l.map aY.pv,stops,(k:Int),())) l.length _ (fun k hk rec=>?_) (fun rec=>?_) ?_ rfl
  ·have h1:(k:Int)<(l.length:Int):=by omega
   simp only[xL,cT,AI,h1,BY,ag,AT,cN hk,No,U,uO,Dw,rK,asInt,ay,ab (show k<9223372036854775807 by omega)];unfold vi JA;rw[cN hk];simp only;cases k with
   |zero=>
    have h0:decide (((0:Nat):Int)>0)=false:=by rfl
    simp only[h0,cond_false,U,ay,as4,JG];generalize (decide (l[0].stop<0)||decide (l[0].stop≥stops))=A;generalize (decide (l[0].arr<0)||decide (l[0].arr>l[0].dep)||decide (l[0].dep>172800))=B;cases A<;>cases B<;>rfl
   |succ j=>
    have h0:decide (((j+1:Nat):Int)>0)=true:=by simp
    have hj:j<l.length:=by omega
    have hc:decide (l[j+1].stop=l[j].stop)=decide (l[j].stop=l[j+1].stop):=by grind
    simp only[h0,cond_true,U,hZ j (by omega),ag,AT,cN hj,No,uO,rK,asInt,BY,JG,bX,ay,hc];generalize (decide (l[j+1].stop<0)||decide (l[j+1].stop≥stops))=A;generalize (decide (l[j+1].arr<0)||decide (l[j+1].arr>l[j+1].dep)||decide (l[j+1].dep>172800))=B;generalize decide (l[j].stop=l[j+1].stop)=C;generalize decide (l[j+1].arr<l[j].dep)=D;cases A<;>cases B<;>cases C<;>cases D<;>rfl
  ·simp[xL,cT,AI,asf,IS]
  ·have:=aw;omega
theorem AH(x:br):cell x.pv 0=.str x.id:=rfl
theorem B8(x:br):cell x.pv 1=.int .i64 x.dF:=rfl
theorem AJ(x:br):cell x.pv 2=.int .i64 x.wB:=rfl
theorem xD(x:br):cell x.pv 4=.rs 5 (x.calls.map aY.pv):=rfl
def EK(l:List br)(stops aj dm:Int)(k:Nat):Int:=match l[k]? with
 |none=>0
 |some x=>if eW x.id=false then 12 else if x.id∈(l.map br.id).take k then 6 else if(decide (x.dF<0)||decide (x.dF≥aj)||decide (x.wB<0)||decide (x.wB≥dm))=true then 9 else(gR x.calls stops 0 172800).2
def s9(l:List br)(stops aj dm:Int):Int×Int:=if l.length>256 then(0,5)else bV (EK l stops aj dm) l.length
theorem abx(l:List br)(stops aj dm:Int)(hl:l.length≤maxLen∧∀y∈l,y.Ok):vz [.rs 5 (l.map br.pv),.int .i64 stops,.int .i64 aj,.int .i64 dm]=some (res (s9 l stops aj dm).1 (s9 l stops aj dm).2):=by
 have hm:=ai;simp only[vz,Gm,ao,asInt,BY,U,AI];unfold s9;by_cases j4:l.length>256
 ·rw[IN (by simp;omega),IN j4];rfl
 ·rw[IT (by simp;omega),IT j4,←cW];refine aC (fun k=>(stops,aj,dm,l.map br.pv,(l.length:Int),(k:Int),seen PV.str ((l.map br.id).take k),())) l.length _ (fun k hk rec=>?_) (fun rec=>?_) ?_ rfl
  ·have h1:(k:Int)<(l.length:Int):=by omega
   have hid:=Ax l[k].id (hl.2 _ (ar9 hk)).id;have oK:=fV mS l[k].id ((l.map br.id).take k);have mA:=eX mS l[k].id ((l.map br.id).take k);have yz:=ON l[k].calls stops 0 172800 (hl.2 _ (ar9 hk)).calls.1;simp only[res]at yz;simp only[zQ,cT,h1,BY,ag,AT,cN hk,No,U,AH,B8,AJ,xD,aO,asInt,asBool,ao,hid,oK,mA,yz,cg,aqP,ase,Nat.reduceAdd,abm,ahH,ay,ab (show k<9223372036854775807 by omega),kT br.id l k hk,eC];unfold EK;rw[cN hk];simp only;generalize (gR l[k].calls stops 0 172800).2=e;cases eW l[k].id with
   |false=>rfl
   |true=>
    by_cases bB:l[k].id∈(l.map br.id).take k
    ·simp only[bB,BY,aiI,cQ,asj,IS];rfl
    ·simp only[bB,BY,aiI,cQ,asj,IS];cases decide (l[k].dF<0)<;>cases decide (l[k].dF≥aj)<;>cases decide (l[k].wB<0)<;>cases decide (l[k].wB≥dm)<;>(try rfl);grind [Dx,bK,res]
  ·simp only[zQ,cT,asf,IS];rfl
  ·have:=aw;omega
theorem aby(l:List br)(hl:l.length≤maxLen)(s:Bytes):vB [.rs 5 (l.map br.pv),.str s]=some (.int .i64 (HM (l.map br.id) s)):=by
 have hm:=ai;simp only[vB,Gs,ao,aO,BY,U];refine(aC (fun k=>(l.map br.pv,s,(k:Int),())) l.length (fun k=>if decide ((l.map br.id)[k]?=some s)=true then some (some (.int .i64 k))else none) (fin:=some (.int .i64 (-1))) (fun k hk rec=>?_) (fun rec=>?_) ?_ rfl).trans ?_
 ·have h1:(k:Int)<(l.length:Int):=by omega
  simp only[zT,cT,AI,h1,BY,ag,AT,cN hk,No,U,AH,aO,ab (show k<9223372036854775807 by omega),bX,cO];grind [bK]
 ·simp[zT,cT,AI,asf,IS]
 ·have:=aw;omega
 ·rw[iu];unfold HM;simp only[AI];cases(List.range l.length).find? fun k=>decide ((l.map br.id)[k]?=some s)<;>rfl
theorem af0(l:List br)(stops aj dm:Int)(hl:l.length≤maxLen∧∀y∈l,y.Ok)(k:Nat)(hk:k<l.length):yU [.rs 5 (l.map br.pv),.int .i64 k,.int .i64 stops,.int .i64 aj,.int .i64 dm]=some (.int .i64 (EK l stops aj dm k)):=by
 have hm:=ai;have hid:=Tl l[k].id (hl.2 _ (ar9 hk)).id;have yz:=VV l[k].calls stops (hl.2 _ (ar9 hk)).calls.1;have MU:=aby (l.take k) (by simp;omega) l[k].id;have Kb:=ahT ((l.take k).map br.id) l[k].id;have htk:(l.take k).map br.id=(l.map br.id).take k:=by simp
 have htp:(l.take k).map br.pv=(l.map br.pv).take k:=by simp
 rw[htk]at Kb MU;rw[htp]at MU;have hc:(0:Int)≤0∧(0:Int)≤(k:Int)∧(k:Int)≤((l.map br.pv).length:Int)∧True∧5≠0:=⟨by omega,by omega,by simp;omega,trivial,by omega⟩;simp only[yU,IU,ao,asInt,BY,U,ag,AT,cN hk,No,AH,B8,AJ,xD,aO,asBool,hid,yz,asc,auK,aud,MU,ay,cT];unfold EK;grind
theorem af1(l:List br)(stops aj dm:Int)(hl:l.length≤maxLen∧∀y∈l,y.Ok):tg [.rs 5 (l.map br.pv),.int .i64 stops,.int .i64 aj,.int .i64 dm]=some (res (s9 l stops aj dm).1 (s9 l stops aj dm).2):=by
 have hm:=ai;simp only[tg,DT,ao,asInt,BY,U,AI];unfold s9;by_cases j4:l.length>256
 ·rw[IN (by simp;omega),IN j4];rfl
 ·rw[IT (by simp;omega),IT j4,←cW];refine aC (fun k=>(l.map br.pv,stops,aj,dm,(k:Int),())) l.length _ (fun k hk rec=>?_) (fun rec=>?_) ?_ rfl
  ·have h1:(k:Int)<(l.length:Int):=by omega
   simp only[xM,cT,AI,h1,BY,af0 l stops aj dm hl k hk,U,asInt,ab (show k<9223372036854775807 by omega),eC];grind [EK,Dx,bK,res]
  ·simp only[xM,cT,AI,asf,IS];rfl
  ·have:=aw;omega
theorem MV(n a b:Int):dg [.int .i64 n,.int .i64 a,.int .i64 b]=some (.bool (wi n a b)):=by simp only[dg,BO,asInt,BY,U,aJ];rfl
theorem af2(x:aM):tv [.agg [cell x.pv 0,cell x.pv 1,cell x.pv 2,cell x.pv 3,cell x.pv 4,cell x.pv 5]]=some (.bool (!oq x)):=by simp only[aaW,ajP,ajQ,ajR,ajS,ajT];simp only[tv,D5,asAgg,cell,PV.cells,abm,ahH,aqP,ase,Nat.reduceAdd,aO,asInt,asBool,BY,U,MV,aJ];unfold oq;simp
theorem VW(l:List aM)(hl:l.length≤maxLen)(i:Nat)(hi:i<l.length)(jT:List PV×Int×Unit→Option PV):ba.run (rE jT) (l.map aM.pv,(i:Int),0,())=if l[i].id∈(l.map aM.id).take i then some (res i 6)else if oq l[i]=true then some (res i 2)else jT (l.map aM.pv,IntKind.i64.wrap ((i:Int)+1),()):=by
 have hm:=ai;refine(dt (fun k=>(l.map aM.pv,(i:Int),(k:Int),())) i (fun k=>decide ((l.map aM.id)[k]?=some l[i].id)) (no:=some (res i 6)) (fin:=if oq l[i]=true then some (res i 2)else jT (l.map aM.pv,IntKind.i64.wrap ((i:Int)+1),())) (fun k hk rec=>?_) (fun rec=>?_) ?_ rfl).trans ?_
 ·have h1:(k:Int)<(i:Int):=by omega
  have sD:k<l.length:=by omega
  simp only[rE,cT,h1,BY,ag,AT,cN sD,cN hi,No,U,aaW,aO,ab (show k<9223372036854775807 by omega),bX,cO];rfl
 ·simp only[rE,cT,asf,IS,ag,AT,cN hi,No,U,af2,asBool,Bool.not_not];rfl
 ·have:=aw;omega
 ·rw[jf _ _ (by simp;omega)];simp_all
theorem VX(l:List aM)(bn within cap:Int)(hl:l.length≤maxLen∧∀y∈l,y.Ok):tw [dp l bn within cap]=some (res (cJ l bn within cap).1 (cJ l bn within cap).2):=by
 have hm:=ai;simp only[tw,D6,dp,asAgg,cell,PV.cells,abm,ahH,aqP,ase,Nat.reduceAdd,ao,asInt,asBool,BY,U,AI,MV,ay];unfold cJ;generalize (!wi bn 0 1000000|| !wi within 0 86400|| !wi cap 0 1000000)=c;cases c with
 |true=>rfl
 |false=>
  simp only[cQ,IS];by_cases j4:l.length>16
  ·rw[IN (by simp;omega),IN j4];rfl
  ·rw[IT (by simp;omega),IT j4,←cW];refine aC (fun k=>(l.map aM.pv,(k:Int),())) l.length _ (fun k hk rec=>?_) (fun rec=>?_) ?_ rfl
   ·have h1:(k:Int)<(l.length:Int):=by omega
    have hid:=HN l[k].id (hl.2 _ (ar9 hk)).id;have kM:=VW l hl.1 k hk rec;simp only[xX,cT,AI,h1,BY,ag,AT,cN hk,No,U,aaW,aO,asBool,hid,kM,ab (show k<9223372036854775807 by omega)];unfold Hs;rw[cN hk];simp only;generalize oq l[k]=c;cases eW l[k].id with
    |false=>rfl
    |true=>
     by_cases bB:l[k].id∈(l.map aM.id).take k
     ·simp only[bB,BY,aiI,cQ,asj,IS];rfl
     ·simp only[bB,BY,aiI,cQ,asj,IS];cases c<;>rfl
   ·simp only[xX,cT,AI,asf,IS];rfl
   ·have:=aw;omega
def yW(l:List Path)(n:Int):Int×Int:=if l.length>512 then(0,5)else bV (da l n) l.length
theorem abz(l:List Path)(n:Int)(hl:l.length≤maxLen):nr [.rs 4 (l.map Path.pv),.int .i64 n]=some (res (yW l n).1 (yW l n).2):=by
 have h:=Mn l n hl;simp only[res]at h;simp only[nr,xr,ao,asInt,BY,U,AI,h,cg,aqP,ase,Nat.reduceAdd,abm,ahH,cT];unfold yW;by_cases j4:l.length>512
 ·rw[IN (by omega),IN j4];rfl
 ·rw[IT (by omega),IT j4];rfl
theorem VY(l:List Path)(n:Int)(hl:l.length≤maxLen)(i:Nat)(hi:i<l.length)(uE:List PV×Int×Int×Unit→Option PV):ba.run (rD uE) (l.map Path.pv,n,(i:Int),0,.int .i64 l[i].a,.int .i64 l[i].b,.int .i64 l[i].fq,.bool l[i].free,())=if bH l[i]∈(l.map bH).take i then some (res i 6)else uE (l.map Path.pv,n,IntKind.i64.wrap ((i:Int)+1),()):=by
 have hm:=ai;refine(dt (fun k=>(l.map Path.pv,n,(i:Int),(k:Int),PV.int .i64 l[i].a,PV.int .i64 l[i].b,PV.int .i64 l[i].fq,PV.bool l[i].free,())) i (fun k=>decide ((l.map bH)[k]?=some (bH l[i]))) (no:=some (res i 6)) (fin:=uE (l.map Path.pv,n,IntKind.i64.wrap ((i:Int)+1),())) (fun k hk rec=>?_) (fun rec=>?_) ?_ rfl).trans ?_
 ·have h1:(k:Int)<(i:Int):=by omega
  have sD:k<l.length:=by omega
  have hd:decide ((l.map bH)[k]?=some (bH l[i]))=(decide (l[k].a=l[i].a)&&decide (l[k].b=l[i].b)&&decide (l[k].free=l[i].free)):=by rw[asL];simp[cN sD,bH,auM]
  simp only[rD,cT,h1,BY,ag,AT,cN sD,No,U,Hi,Hj,Hk,asInt,asBool,ab (show k<9223372036854775807 by omega),bX,aJ];grind [bH,res]
 ·simp[rD,cT,asf,IS]
 ·have:=aw;omega
 ·rw[jf _ _ (by simp;omega)];simp_all
theorem abA(l:List Path)(n:Int)(hl:l.length≤maxLen):tt [.rs 4 (l.map Path.pv),.int .i64 n]=some (res (bV (da l n) l.length).1 (bV (da l n) l.length).2):=by
 have hm:=ai;simp only[tt,D3,ao,asInt,BY,U];rw[←cW];refine aC (fun k=>(l.map Path.pv,n,(k:Int),())) l.length _ (fun k hk rec=>?_) (fun rec=>?_) ?_ rfl
 ·have h1:(k:Int)<(l.length:Int):=by omega
  have kM:=VY l n hl k hk rec;simp only[xW,cT,AI,h1,BY,ag,AT,cN hk,No,U,Hi,Hj,L4,Hk,asInt,kM,bX,ay,ab (show k<9223372036854775807 by omega)];unfold da;rw[cN hk];simp only;generalize (decide (l[k].a<0)||decide (l[k].a≥n)||decide (l[k].b<0)||decide (l[k].b≥n)||decide (l[k].a=l[k].b))=A;generalize (decide (l[k].fq<1)||decide (l[k].fq>14400))=B;by_cases bB:bH l[k]∈(l.map bH).take k
  ·simp only[bB,BY];cases A<;>cases B<;>rfl
  ·simp only[bB,IS];cases A<;>cases B<;>rfl
 ·simp only[xW,cT,AI,asf,IS];rfl
 ·have:=aw;omega
theorem af3(l:List Path)(n:Int)(hl:l.length≤maxLen):tu [.rs 4 (l.map Path.pv),.int .i64 n]=some (res (yW l n).1 (yW l n).2):=by
 have h:=abA l n hl;simp only[res]at h;simp only[tu,D4,ao,asInt,BY,U,AI,h,cg,aqP,ase,Nat.reduceAdd,abm,ahH,cT];unfold yW;by_cases j4:l.length>512
 ·rw[IN (by omega),IN j4];rfl
 ·rw[IT (by omega),IT j4];rfl
def tN(t first start:Int):Bool:=decide (0≤t-first+start)&&decide (t-first+start≤172800)
theorem VZ(n:Int):((BitVec.ofInt 64 n&&&BitVec.ofInt 64 4294967295).toNat:Int)=n%4294967296:=by
 have h:(BitVec.ofInt 64 4294967295).toNat=2^32-1:=by rfl
 rw[BitVec.toNat_and,h,Nat.and_two_pow_sub_one_eq_mod,BitVec.toNat_ofInt];omega
theorem af4(n:Int):((BitVec.ofInt IntKind.i64.bits n&&&BitVec.ofInt IntKind.i64.bits 4294967295).toNat:Int)=n%4294967296:=VZ n
theorem abB(n:Int):eB [.int .i64 n]=some (.bool (decide (n< -2305843009213693952)||decide (n>2305843009213693952))):=by simp[eB,qX,asInt,BY,U,ay]
theorem yC(a:Int):jM a↔-9223372036854775808≤a∧a≤9223372036854775807:=by
 have h1:IntKind.i64.min= -9223372036854775808:=by rfl
 have h2:IntKind.i64.max=9223372036854775807:=by rfl
 unfold jM Lit.wf;simp[h1,h2]
theorem two32:((2:Int)^min (Int.toNat 32) IntKind.i64.bits)=4294967296:=by rfl
theorem arF(a:Int):a.fdiv 4294967296=a/4294967296:=auD _ (by omega)
theorem ahW(a b c:Int)(ha:jM a)(hb:jM b)(hc:jM c):∃n,ni [.int .i64 a,.int .i64 b,.int .i64 c]=some (.aG [.int .i64 n,.bool (tN a b c)])∧(tN a b c=true→n=a-b+c):=by
 obtain⟨ha1,ha2⟩:=(yC _).1 ha;obtain⟨ZK,yj⟩:=(yC _).1 hb;obtain⟨hc1,hc2⟩:=(yC _).1 hc;simp only[ni,xn,asInt,BY,U,two32,arF,af4];have w0:∀x:Int,IntKind.i64.wrap (x%4294967296)=x%4294967296:=fun x=>aZ (by omega) (by omega);have w1:IntKind.i64.wrap (a/4294967296-b/4294967296)=a/4294967296-b/4294967296:=aZ (by omega) (by omega);have w2:IntKind.i64.wrap (a/4294967296-b/4294967296+c/4294967296)=a/4294967296-b/4294967296+c/4294967296:=aZ (by omega) (by omega);have w3:IntKind.i64.wrap (a%4294967296-b%4294967296)=a%4294967296-b%4294967296:=aZ (by omega) (by omega);have w4:IntKind.i64.wrap (a%4294967296-b%4294967296+c%4294967296)=a%4294967296-b%4294967296+c%4294967296:=aZ (by omega) (by omega);have w5:IntKind.i64.wrap (a/4294967296-b/4294967296+c/4294967296+(a%4294967296-b%4294967296+c%4294967296)/4294967296)=a/4294967296-b/4294967296+c/4294967296+(a%4294967296-b%4294967296+c%4294967296)/4294967296:=aZ (by omega) (by omega);simp only[w0,w1,w2,w3,w4,w5];generalize hH:a/4294967296-b/4294967296+c/4294967296+(a%4294967296-b%4294967296+c%4294967296)/4294967296=H;generalize hL:(a%4294967296-b%4294967296+c%4294967296)%4294967296=Lo;have hs:a-b+c=H*4294967296+Lo:=by omega
 have hLo:0≤Lo∧Lo<4294967296:=by omega
 unfold tN;by_cases h0:H=0
 ·have e0:(BitVec.ofInt 64 (IntKind.i64.wrap (H*4294967296))|||BitVec.ofInt 64 Lo).toNat=Lo.toNat:=by grind
  have e1:IntKind.i64.wrap ((BitVec.ofInt IntKind.i64.bits (IntKind.i64.wrap (H*4294967296))|||BitVec.ofInt IntKind.i64.bits Lo).toNat:Int)=Lo:=by have e2:(BitVec.ofInt IntKind.i64.bits (IntKind.i64.wrap (H*4294967296))|||BitVec.ofInt IntKind.i64.bits Lo).toNat=Lo.toNat:=e0;rw[e2];rw[aZ (by omega) (by omega)];omega
  simp_all
 ·have hb:(H==0)=false:=by simp[h0]
  simp only[hb,cond_false,U];have h1:(decide (0≤a-b+c)&&decide (a-b+c≤172800))=false:=by grind
  rw[h1];simp
theorem HG(a b c:Int)(ha:jM a)(hb:jM b)(hc:jM c):∃n,iE [.int .i64 a,.int .i64 b,.int .i64 c]=some (.aG [.int .i64 n,.bool (tN a b c)])∧(tN a b c=true→n=a-b+c):=by
 obtain⟨n,hn,hnn⟩:=ahW a b c ha hb hc;simp only[iE,uu,asInt,BY,U,abB,asBool,ay,hn,cg,aqP,ase,Nat.reduceAdd,abm,ahH,aJ];split
 ·exact⟨n,rfl,hnn⟩
 ·rename_i h;simp only[asu,cT,avs]at h;have w1:IntKind.i64.wrap (a-b)=a-b:=aZ (by omega) (by omega);have w2:IntKind.i64.wrap (a-b+c)=a-b+c:=aZ (by omega) (by omega);simp only[w1,w2];exact⟨_,rfl,fun _=>rfl⟩
theorem HH(a b c:Int)(ha:jM a)(hb:jM b)(hc:0≤c∧c≤172800):∃n,nY [.int .i64 a,.int .i64 c,.int .i64 b]=some (.aG [.int .i64 n,.bool (tN a b c)])∧(tN a b c=true→n=a-b+c):=by
 obtain⟨ha1,ha2⟩:=(yC _).1 ha;obtain⟨ZK,yj⟩:=(yC _).1 hb;have u:∀x y:Int,x≥y→-9223372036854775808≤y→x≤9223372036854775807→IntKind.u64.wrap (IntKind.u64.wrap x-IntKind.u64.wrap y)=x-y:=by intro x y h1 h2 h3;simp only[IntKind.wrap,IntKind.signed,IntKind.bits,atO,IS,cQ];omega
 simp only[nY,DW,asInt,BY,U,ay,aJ];have h0:(decide (c<0)||decide (c>172800))=false:=by simp_all
 simp only[h0,cQ,IS,cT];unfold tN;have Ib:∀d:Int,(d=a-b∨d=b-a)→d>172800→(decide (0≤a-b+c)&&decide (a-b+c≤172800))=false:=by grind
 have apz:a-b≤172800→b-a≤172800→IntKind.i64.wrap (c+IntKind.i64.wrap (a-b))=a-b+c:=by grind [aZ]
 by_cases Ak:a≥b
 ·rw[IN Ak,u a b Ak ZK ha2];split
  ·rename_i h;rw[Ib _ (.inl rfl) h];simp
  ·rename_i h;rw[apz (by omega) (by omega)];simp
 ·rw[IT Ak,u b a (by omega) ha1 yj];split
  ·rename_i h;rw[Ib _ (.inr rfl) h];simp
  ·rename_i h;rw[apz (by omega) (by omega)];simp
theorem Fu{S R:Type}{body:S→(S→Option R)→Option R}(st:Nat→S)(n:Nat)(bad:Nat→Option (Option R)){fin:Option R}(h:∀k,k<n→(∀j,j<k→bad j=none)→∀rec,body (st k) rec=bK (bad k) (rec (st (k+1))))(tQ:(∀j,j<n→bad j=none)→∀rec,body (st n) rec=fin)(hn:n<rounds){s0:S}(h0:st 0=s0):ba.run body s0=bK ((List.range n).findSome? bad) fin:=by
 have key:∀(m j N:Nat),j+m=n→m<N→(∀i,i<j→bad i=none)→cE body N (st j)=bK ((List.range' j m).findSome? bad) fin:=by
  intro m;induction m with
  |zero=>
   intro j N hj hN hq;cases N with
   |zero=>omega
   |succ N=>
    have:j=n:=by omega
    subst this;simp only[cE,List.range'_zero,auF];exact tQ hq _
  |succ m ih=>
   intro j N hj hN hq;cases N with
   |zero=>omega
   |succ N=>
    simp only[cE,at1,asW];rw[h j (by omega) hq];cases hb:bad j with
    |some r=>rfl
    |none=>refine ih (j+1) N (by omega) (by omega) fun i hi=>?_;grind
 grind [pL,rounds,List.range_eq_range']
theorem OZ(x:aY):cell x.pv 3=.bool x.ca:=rfl
theorem O0(x:aY):cell x.pv 4=.bool x.bC:=rfl
theorem Ft(x:br):cell x.pv 3=.bool x.free:=rfl
theorem MK(x:br):asAgg 5 x.pv=some ():=rfl
theorem S7(cs:List PV)(k:Nat):cell (.agg cs) k=cs.getD k .bad:=rfl
def J2(x:aY)(first start:Int):aY:={x with arr:=x.arr-first+start,dep:=x.dep-first+start}
def kOk(x:aY)(first start:Int):Bool:=tN x.arr first start&&tN x.dep first start
def gW(l:List aY)(first start:Int)(k:Nat):Bool:=match l[k]? with|some x=>kOk x first start|none=>true
def nJ(l:List aY)(start:Int):Int:=match l with
 |[]=>16
 |c::_=>if(List.range l.length).all (gW l c.dep start)=true then 0 else 10
theorem re{B:Type}(p:Nat→Bool)(r:B):∀l:List Nat,l.findSome? (fun k=>if p k=true then none else some r)=if l.all p=true then none else some r:=by
 intro l;induction l with
 |nil=>rfl
 |cons a l ih=>grind
def Gy(l:List aY)(f:aY→aY)(k:Nat):List PV:=((l.take k).map fun x=>(f x).pv)++(l.drop k).map aY.pv
theorem S4(l:List aY)(f:aY→aY)(k:Nat)(h:k≤l.length):(Gy l f k).length=l.length:=by simp[Gy];omega
theorem S5(l:List aY)(f:aY→aY)(k:Nat)(h:k<l.length):(Gy l f k)[k]?=some l[k].pv:=by grind [Gy,List.getElem?_append_right,Nat.min_eq_left,Nat.le_of_lt]
theorem S6(l:List aY)(f:aY→aY)(k:Nat)(h:k<l.length):(Gy l f k).set k (f l[k]).pv=Gy l f (k+1):=by unfold Gy;rw[List.set_append_right _ _ (by simp;omega)];have h1:l.drop k=l[k]::l.drop (k+1):=(atb h);have h2:l.take (k+1)=l.take k++[l[k]]:=(atg h).symm;rw[h1,h2];simp only[AI,asK,asU (Nat.le_of_lt h),aui,asn,List.set_cons_zero,asM,at3,asy,List.singleton_append]
theorem fA(k n:Nat)(h:k<n):al (k:Int) n:=by unfold al;omega
theorem O4(x:br)(hx:x.Ok)(start:Int)(hs:jM start)(HF:x.calls.length≤40):∃es,dH [x.pv,.int .i64 start]=some (.aG [.rs 5 es,.int .i64 (nJ x.calls start)]):=by
 have hm:=ai;have q9:∀y∈x.calls,y.Ok:=hx.calls.2;simp only[dH,oA,MK,AH,B8,AJ,Ft,xD,aO,ao,asInt,asBool,BY,U,AI];generalize x.calls=l at HF q9⊢;cases l with
 |nil=>exact⟨[],rfl⟩
 |cons c l=>
  generalize hl:c::l=cs at HF q9⊢;have M6:cs[0]?=some c:=by rw[←hl];rfl
  have eR:0<cs.length:=by rw[←hl];simp
  have hcE:nJ cs start=if(List.range cs.length).all (gW cs c.dep start)=true then 0 else 10:=by rw[←hl];rfl
  have ML:c.Ok:=q9 c (by rw[←hl];simp);have cU:((cs.length:Int)==0)=false:=by grind
  have RQ:dA (cs.map aY.pv) 0=some c.pv:=by have:=ag (cs.map aY.pv) 0;simp_all
  have ee:0≤(cs.length:Int)∧(cs.length:Int)≤(cs.length:Int)∧(cs.length:Int).toNat*32≤ah∧0<32∧0<5:=by grind [decide,ah]
  rw[cU,RQ];simp only[cQ,IS,U,rK,asInt,BY,IN ee,as1,asc,asA (avr (AI _)),AI];rw[auZ (by simp),atc,AI];have VJ:0≤(cs.length:Int)∧(cs.length:Int)≤(cs.length:Int)∧cs.length*32≤ah∧0<32∧0<5:=ee;have MM:ba.run dV (start,c.dep,(cs.length:Int),0,cs.map aY.pv,())=bK ((List.range cs.length).findSome? fun k=>if gW cs c.dep start k=true then none else some (some (.aG [.rs 5 [],.int .i64 10]))) (some (.aG [.rs 5 (Gy cs (fun x=>J2 x c.dep start) cs.length),.int .i64 0])):=by
   refine aC (fun k=>(start,c.dep,(cs.length:Int),(k:Int),Gy cs (fun x=>J2 x c.dep start) k,())) cs.length _ (fun k hk rec=>?_) (fun rec=>?_) ?_ ?_
   ·have h1:(k:Int)<(cs.length:Int):=by omega
    have B1:cs[k].Ok:=q9 _ (ar9 hk);obtain⟨n1,e1,q1⟩:=HG cs[k].arr c.dep start B1.arr ML.dep hs;obtain⟨n2,e2,q2⟩:=HG cs[k].dep c.dep start B1.dep ML.dep hs;have hlen:=S4 cs (fun x=>J2 x c.dep start) k (by omega);have eQ:=S5 cs (fun x=>J2 x c.dep start) k hk;have rU:=S6 cs (fun x=>J2 x c.dep start) k hk;have hr:al (k:Int) cs.length:=fA k _ hk;have afK:gW cs c.dep start k=(tN cs[k].arr c.dep start&&tN cs[k].dep c.dep start):=by unfold gW;rw[cN hk];rfl
    have Pw:∀X,((Gy cs (fun x=>J2 x c.dep start) k).set k X)[k]?=some X:=fun X=>by simp_all
    simp only[dV,cT,h1,BY,hlen,IN hr,asc,eQ,U,uO,Dw,rK,OZ,O0,asInt,e1,e2,cg,asBool,aqP,ase,Nat.reduceAdd,abm,ahH,atT,Pw,S7,over,au6,ab (show k<9223372036854775807 by omega)];grind [tN,start,bK,J2,aY.pv]
   ·simp[dV,cT,asf,IS]
   ·grind [rounds,decide]
   rfl
  rw[IN VJ,MM,re,hcE];by_cases yn:(List.range cs.length).all (gW cs c.dep start)=true
  ·rw[IN yn,IN yn];exact⟨_,rfl⟩
  ·rw[IT yn,IT yn];exact⟨_,rfl⟩
theorem O5(x:br)(hx:x.Ok)(start:Int)(hs:0≤start∧start≤172800)(HF:x.calls.length≤40):∃es,gm [x.pv,.int .i64 start]=some (.aG [.rs 5 es,.int .i64 (nJ x.calls start)]):=by
 have hm:=ai;have q9:∀y∈x.calls,y.Ok:=hx.calls.2;simp only[gm,yN,MK,AH,B8,AJ,Ft,xD,aO,ao,asInt,asBool,BY,U,AI];generalize x.calls=l at HF q9⊢;cases l with
 |nil=>exact⟨[],rfl⟩
 |cons c l=>
  generalize hl:c::l=cs at HF q9⊢;have M6:cs[0]?=some c:=by rw[←hl];rfl
  have eR:0<cs.length:=by rw[←hl];simp
  have hcE:nJ cs start=if(List.range cs.length).all (gW cs c.dep start)=true then 0 else 10:=by rw[←hl];rfl
  have ML:c.Ok:=q9 c (by rw[←hl];simp);have cU:((cs.length:Int)==0)=false:=by grind
  have RQ:dA (cs.map aY.pv) 0=some c.pv:=by rw[show(0:Int)=((0:Nat):Int)from rfl,ag,AT,M6];rfl
  rw[cU,RQ];simp only[cQ,IS,U,rK,asInt,BY];have MM:ba.run (gJ ba) (start,c.dep,0,x.id,x.dF,x.wB,x.free,cs.map aY.pv,[],())=bK ((List.range cs.length).findSome? fun k=>if gW cs c.dep start k=true then none else some (some (.aG [.rs 5 [],.int .i64 10]))) (some (.aG [.rs 5 (cs.map fun x=>(J2 x c.dep start).pv),.int .i64 0])):=by
   refine aC (fun k=>(start,c.dep,(k:Int),x.id,x.dF,x.wB,x.free,cs.map aY.pv,(cs.take k).map (fun x=>(J2 x c.dep start).pv),())) cs.length _ (fun k hk rec=>?_) (fun rec=>?_) ?_ rfl
   ·have h1:(k:Int)<(cs.length:Int):=by omega
    have B1:cs[k].Ok:=q9 _ (ar9 hk);obtain⟨n1,e1,q1⟩:=HH cs[k].arr c.dep start B1.arr ML.dep hs;obtain⟨n2,e2,q2⟩:=HH cs[k].dep c.dep start B1.dep ML.dep hs;have afK:gW cs c.dep start k=(tN cs[k].arr c.dep start&&tN cs[k].dep c.dep start):=by unfold gW;rw[cN hk];rfl
    have ee:∀X:PV,(((cs.take k).map (fun x=>(J2 x c.dep start).pv))++[X]).length*32≤ah∧0<32:=fun X=>by refine⟨?_,by omega⟩;grind [List.length_append,List.length_map,List.length_take,List.length_cons,List.length_nil,ah]
    simp only[gJ,cT,AI,h1,BY,ag,AT,cN hk,No,U,uO,Dw,rK,OZ,O0,asInt,e1,e2,cg,asBool,aqP,ase,Nat.reduceAdd,abm,ahH,IN (ee _),ab (show k<9223372036854775807 by omega)];rw[afK];cases hA:tN cs[k].arr c.dep start with
    |false=>rfl
    |true=>
     cases hB:tN cs[k].dep c.dep start with
     |false=>rfl
     |true=>have ht:cs.take (k+1)=cs.take k++[cs[k]]:=(atg hk).symm;rw[ht,q1 hA,q2 hB];simp only[aiI,cond_false,U,cQ,IS,as7,BY,bK,asM,asn,at3,J2,aY.pv]
   ·simp[gJ,cT,AI,asf,IS,asJ]
   grind [rounds,decide]
  rw[MM,re,hcE];by_cases yn:(List.range cs.length).all (gW cs c.dep start)=true
  ·rw[IN yn,IN yn];exact⟨_,rfl⟩
  ·rw[IT yn,IT yn];exact⟨_,rfl⟩
theorem rM(x:bl):cell x.pv 0=.int .i64 x.bD:=rfl
theorem xA(x:bl):cell x.pv 1=.int .i64 x.t0:=rfl
theorem xB(x:bl):cell x.pv 2=.int .i64 x.t1:=rfl
theorem xC(x:bl):cell x.pv 3=.int .i64 x.every:=rfl
theorem HI(x:bl):asAgg 4 x.pv=some ():=rfl
theorem D8(x:bl):PV.agg [.int .i64 x.bD,.int .i64 x.t0,.int .i64 x.t1,.int .i64 x.every]=x.pv:=rfl
theorem Tp(x:br):PV.agg [.str x.id,.int .i64 x.dF,.int .i64 x.wB,.bool x.free,.rs 5 (x.calls.map aY.pv)]=x.pv:=rfl
def dL(x:bl):Bool:=decide (x.t0≥0)&&decide (x.t0<x.t1)&&decide (x.t1≤172800)&&decide (x.every≥1)&&decide (x.every≤86400)
theorem gv(x:bl):dL x=true↔0≤x.t0∧x.t0<x.t1∧x.t1≤172800∧1≤x.every∧x.every≤86400:=by simp[dL,auM]
theorem JM(x:bl):iF [x.pv]=some (.bool (dL x)):=by simp only[iF,uv,HI,rM,xA,xB,xC,asInt,BY,U,aJ];rfl
theorem Bo(x:bl):k9 [x.pv]=some (.bool (dL x)):=by
 simp only[k9,DU,HI,rM,xA,xB,xC,asInt,BY,U,aJ];have:∀a b:Bool,a=b→some (PV.bool a)=some (PV.bool b):=fun a b h=>by rw[h]
 apply this;rw[asL,gv];grind
def dc(x:bl):Int:=(x.t1-x.t0-1)/x.every+1
theorem q8(x:bl)(h:dL x=true):1≤dc x∧dc x≤172800:=by obtain⟨h1,h2,h3,h4,h5⟩:=(gv x).1 h;unfold dc;have a:=au1 (show 0≤x.t1-x.t0-1 by omega) (show 0≤x.every by omega);have b:=Int.ediv_le_self (b:=x.every) (show 0≤x.t1-x.t0-1 by omega);omega
theorem MW(x:bl)(h:dL x=true):fJ [x.pv]=some (.int .i64 (dc x)):=by
 have hc:=q8 x h;obtain⟨h1,h2,h3,h4,h5⟩:=(gv x).1 h;have w1:IntKind.i64.wrap (x.t1-x.t0)=x.t1-x.t0:=aZ (by omega) (by omega);have w2:IntKind.i64.wrap (x.t1-x.t0+x.every)=x.t1-x.t0+x.every:=aZ (by omega) (by omega);have w3:IntKind.i64.wrap (x.t1-x.t0+x.every-1)=x.t1-x.t0+x.every-1:=aZ (by omega) (by omega);have e:(x.t1-x.t0+x.every-1).tdiv x.every=dc x:=by
  rw[Int.tdiv_eq_ediv_of_nonneg (by omega)];unfold dc;have:x.t1-x.t0+x.every-1=(x.t1-x.t0-1)+1*x.every:=by omega
  rw[this,Int.add_mul_ediv_right _ _ (by omega)]
 simp only[fJ,uw,HI,rM,xA,xB,xC,asInt,BY,U,w1,w2,w3,e,IT (show¬x.every=0 by omega)];rw[aZ (by omega) (by omega)]
theorem WV(x:bl)(h:dL x=true):nX [x.pv]=some (.int .i64 (dc x)):=by
 have hc:=q8 x h;obtain⟨h1,h2,h3,h4,h5⟩:=(gv x).1 h;have w1:IntKind.i64.wrap (x.t1-x.t0)=x.t1-x.t0:=aZ (by omega) (by omega);have w2:IntKind.i64.wrap (x.t1-x.t0-1)=x.t1-x.t0-1:=aZ (by omega) (by omega);have e:(x.t1-x.t0-1).tdiv x.every=dc x-1:=by grind [Int.tdiv_eq_ediv_of_nonneg,dc]
 simp only[nX,DV,HI,rM,xA,xB,xC,asInt,BY,U,w1,w2,e,IT (show¬x.every=0 by omega)];rw[aZ (x:=dc x-1) (by omega) (by omega),aZ (by omega) (by omega)];simp
def B9(x:bl):Int:=x.t0+(dc x-1)*x.every
theorem MJ(x:bl)(h:dL x=true):0≤(dc x-1)*x.every∧(dc x-1)*x.every≤x.t1-x.t0-1∧x.t1-x.t0≤dc x*x.every:=by
 obtain⟨h1,h2,h3,h4,h5⟩:=(gv x).1 h;have e:dc x-1=(x.t1-x.t0-1)/x.every:=by unfold dc;omega
 have e2:dc x*x.every=(dc x-1)*x.every+x.every:=by rw[Int.sub_mul];omega
 rw[e2,e];have a:=Int.mul_ediv_add_emod (x.t1-x.t0-1) x.every;have b:=Int.emod_lt_of_pos (x.t1-x.t0-1) (show 0<x.every by omega);have c:=Int.emod_nonneg (x.t1-x.t0-1) (show x.every≠0 by omega);have d:=auf (au1 (show 0≤x.t1-x.t0-1 by omega) (show 0≤x.every by omega)) (show 0≤x.every by omega);grind
theorem abC(x:bl)(h:dL x=true):nk [x.pv]=some (.int .i64 (B9 x)):=by have hc:=q8 x h;have Wz:=MJ x h;obtain⟨h1,h2,h3,h4,h5⟩:=(gv x).1 h;have w1:IntKind.i64.wrap (dc x-1)=dc x-1:=aZ (by omega) (by omega);have w2:IntKind.i64.wrap ((dc x-1)*x.every)=(dc x-1)*x.every:=aZ (by omega) (by omega);have w3:IntKind.i64.wrap (x.t0+(dc x-1)*x.every)=B9 x:=aZ (by omega) (by omega);simp only[nk,xp,HI,rM,xA,xB,xC,asInt,BY,U,D8,MW x h,w1,w2,w3]
def nf(x:bl)(n:Nat):List PV:=(List.range n).map fun(j:Nat)=>PV.int .i64 (x.t0+(j:Int)*x.every)
theorem MN(x:bl)(h:dL x=true):gK [x.pv]=some (.rs 1 (nf x (dc x).toNat)):=by
 have hc:=q8 x h;have Wz:=MJ x h;obtain⟨h1,h2,h3,h4,h5⟩:=(gv x).1 h;simp only[gK,vu,HI,rM,xA,xB,xC,asInt,asBool,BY,U,D8,Bo,h,aiI,cQ,IS];refine bf (fun k=>(x.t0+(k:Int)*x.every,x.bD,x.t0,x.t1,x.every,nf x k,())) (dc x).toNat (fun k hk rec=>?_) (fun rec=>?_) ?_ ?_
 ·have Ua:(k:Int)≤dc x-1:=by omega
  have GU:(k:Int)*x.every≤(dc x-1)*x.every:=atp Ua (by omega);have Kb:0≤(k:Int)*x.every:=auf (by omega) (by omega);have cd:x.t0+(k:Int)*x.every<x.t1:=by omega
  have ee:(nf x k++[PV.int .i64 (x.t0+(k:Int)*x.every)]).length*8≤ah∧0<8:=by refine⟨?_,by omega⟩;simp only[nf,asi,AI,auS,aqP,ase];unfold ah;omega
  have aqN:((k+1:Nat):Int)*x.every=(k:Int)*x.every+x.every:=by grind
  have hw:IntKind.i64.wrap (x.t0+(k:Int)*x.every+x.every)=x.t0+((k+1:Nat):Int)*x.every:=by grind [aZ]
  simp_all[nf,atv,uG,cT,BY,IN]
 ·have he:(((dc x).toNat:Nat):Int)*x.every=dc x*x.every:=by grind
  have cd:¬x.t0+(((dc x).toNat:Nat):Int)*x.every<x.t1:=by omega
  simp_all[uG,cT,IT]
 ·grind [rounds,decide]
 ·simp[nf]
def D9(x:br)(f:bl):Bool:=decide (nJ x.calls f.t0≠10)&&decide (nJ x.calls (B9 f)≠10)
theorem BR(c:aY)(l:List aY)(s:Int):nJ (c::l) s=0∨nJ (c::l) s=10:=by show(if(List.range (c::l).length).all (gW (c::l) c.dep s)=true then(0:Int)else 10)=0∨(if(List.range (c::l).length).all (gW (c::l) c.dep s)=true then(0:Int)else 10)=10;omega
theorem Zx(x:bl)(h:dL x=true):0≤B9 x∧B9 x≤172800:=by have Wz:=MJ x h;grind [gv,B9]
theorem abD(x:br)(hx:x.Ok)(HF:x.calls.length≤40)(f:bl)(hf:dL f=true):nm [x.pv,f.pv]=some (.bool (D9 x f)):=by
 obtain⟨h1,h2,h3,h4,h5⟩:=(gv f).1 hf;have hl:=Zx f hf;obtain⟨es1,e1⟩:=O4 x hx f.t0 ((yC _).2 (by omega)) HF;obtain⟨es2,e2⟩:=O4 x hx (B9 f) ((yC _).2 (by omega)) HF;simp only[nm,xq,MK,AH,B8,AJ,Ft,xD,HI,rM,xA,xB,xC,aO,ao,asInt,asBool,BY,U,AI,D8,Tp,abC f hf,e1,e2,cg,aqP,ase,Nat.reduceAdd,abm,ahH,aJ];unfold D9;cases Ui:x.calls with
 |nil=>rfl
 |cons c l=>
  have cU:(((c::l).length:Int)==0)=false:=by rfl
  rw[cU];simp only[cQ,IS];rcases BR c l f.t0 with h|h<;>rcases BR c l (B9 f)with h'|h'<;>rw[h,h']<;>rfl
theorem af5(x:br)(hx:x.Ok)(HF:x.calls.length≤40)(f:bl)(hf:dL f=true):vC [x.pv,f.pv]=some (.bool (D9 x f)):=by
 have hc:=q8 f hf;obtain⟨h1,h2,h3,h4,h5⟩:=(gv f).1 hf;have hl:=Zx f hf;obtain⟨es1,e1⟩:=O5 x hx f.t0 (by omega) HF;obtain⟨es2,e2⟩:=O5 x hx (B9 f) hl HF;have hlen:(nf f (dc f).toNat).length=(dc f).toNat:=by simp[nf]
 have hi0:dA (nf f (dc f).toNat) 0=some (.int .i64 f.t0):=by rw[show(0:Int)=((0:Nat):Int)from rfl,ag];grind [nf,List.getElem?_range,dc]
 have hw:IntKind.i64.wrap (((dc f).toNat:Int)-1)=(((dc f).toNat-1:Nat):Int):=by grind [aZ]
 have hi1:dA (nf f (dc f).toNat) (((dc f).toNat-1:Nat):Int)=some (.int .i64 (B9 f)):=by
  rw[ag];simp only[nf,AT,as2 (show(dc f).toNat-1<(dc f).toNat by omega),No];have:(((dc f).toNat-1:Nat):Int)=dc f-1:=by omega
  rw[this];rfl
 have hci:∀n:Int,cell (.int .i64 n) 0=.int .i64 n:=fun _=>rfl;simp only[vC,Gt,MK,AH,B8,AJ,Ft,xD,HI,rM,xA,xB,xC,aO,ao,asInt,asBool,BY,U,AI,D8,Tp,MN f hf,hlen,hi0,hw,hi1,hci,e1,e2,cg,aqP,ase,Nat.reduceAdd,abm,ahH,aJ,eC];unfold D9;simp
def fitsAt(ae:List br)(f:bl):Bool:=match ae[f.bD.toNat]? with|some x=>D9 x f|none=>true
def Cs(l:List bl)(f:bl)(k:Nat):Int:=((l.take k).map fun g=>if g.bD=f.bD then dc g else 0).sum
def MX(f g:bl):Bool:=decide (g.bD=f.bD)&&(decide (g.t0<f.t1)&&decide (f.t0<g.t1))
def anyM(l:List bl)(f:bl)(k:Nat):Bool:=(l.take k).any (MX f)
def yR(l:List bl)(ae:List br)(k:Nat):Int:=match l[k]? with
 |none=>0
 |some f=>if(decide (f.bD<0)||decide (f.bD≥(ae.length:Int)))=true then 9 else if(!dL f|| !fitsAt ae f)=true then 10 else if dc f+Cs l f k>256 then 17 else if anyM l f k=true then 8 else 0
def ta(l:List bl)(ae:List br):Int×Int:=if l.length>64 then(0,5)else bV (yR l ae) l.length
theorem EN(l:List bl)(f:bl)(k:Nat)(h:k<l.length):Cs l f (k+1)=Cs l f k+if l[k].bD=f.bD then dc l[k]else 0:=by unfold Cs;have h2:l.take (k+1)=l.take k++[l[k]]:=(atg h).symm;grind
theorem O6(l:List bl)(f:bl)(k:Nat)(h:k<l.length):anyM l f (k+1)=(anyM l f k||MX f l[k]):=by unfold anyM;have h2:l.take (k+1)=l.take k++[l[k]]:=(atg h).symm;grind
theorem MY(l:List bl)(f:bl):∀k,k≤l.length→(∀j(h:j<l.length),j<k→dL l[j]=true)→0≤Cs l f k∧Cs l f k≤172800*(k:Int):=by
 intro k;induction k with
 |zero=>intro _ _;simp[Cs]
 |succ k ih=>intro hk hq;have:=ih (by omega) fun j h hj=>hq j h (by omega);rw[EN l f k (by omega)];have hc:=q8 l[k] (hq k (by omega) (by omega));omega
theorem Fv(l:List bl)(ae:List br)(k:Nat)(h:k<l.length)(he:yR l ae k=0):dL l[k]=true:=by unfold yR at he;grind
theorem abE(l:List bl)(ae:List br)(ht:ae.length≤maxLen∧∀y∈ae,y.Ok)(HF:∀y∈ae,y.calls.length≤40)(hl:l.length≤maxLen):lX [.rs 4 (l.map bl.pv),.rs 5 (ae.map br.pv)]=some (res (ta l ae).1 (ta l ae).2):=by
 have hm:=ai;simp only[lX,ux,ao,BY,U,AI];unfold ta;by_cases j4:l.length>64
 ·rw[IN (by simp;omega),IN j4];rfl
 ·rw[IT (by simp;omega),IT j4,←cW];refine Fu (fun k=>(l.map bl.pv,ae.map br.pv,l.map bl.pv,(l.length:Int),(k:Int),())) l.length _ (fun k hk hq rec=>?_) (fun _ rec=>?_) ?_ rfl
  ·have h1:(k:Int)<(l.length:Int):=by omega
   have ahX:∀j(h:j<l.length),j<k→dL l[j]=true:=fun j h hj=>by have hqj:=hq j hj;refine Fv l ae j h ?_;simp_all[Dx,yR,IT]
   simp only[pe,cT,h1,BY,ag,AT,cN hk,No,U,rM,xA,xB,xC,asInt,asBool,D8,AI,ay,JM];unfold yR;rw[cN hk];simp only;generalize hf:l[k]=f;by_cases hr:f.bD<0∨f.bD≥(ae.length:Int)
   ·have:(decide (f.bD<0)||decide (f.bD≥(ae.length:Int)))=true:=by simpa using hr
    rw[this];rfl
   ·have Uc:(decide (f.bD<0)||decide (f.bD≥(ae.length:Int)))=false:=by simpa using hr
    simp only[Uc,cQ,IS];obtain⟨t,htt⟩:=atM (show 0≤f.bD by omega);have htl:t<ae.length:=by omega
    cases hs:dL f with
    |false=>rfl
    |true=>
     have hfa:fitsAt ae f=D9 ae[t] f:=by simp_all[fitsAt,asc,cN]
     have hfp:=abD ae[t] (ht.2 _ (ar9 htl)) (HF _ (ar9 htl)) f hs;have amk:dA (ae.map br.pv) f.bD=some ae[t].pv:=by rw[htt,ag,AT,cN htl];rfl
     simp only[amk,aiI,cond_false,U,AH,B8,AJ,Ft,xD,Tp,hfp,asBool,hfa,as5];cases hfb:D9 ae[t] f with
     |false=>rfl
     |true=>
      have hc:(0:Int)≤0∧(0:Int)≤(k:Int)∧(k:Int)≤(l.length:Int)∧True∧4≠0:=⟨by omega,by omega,by omega,trivial,by omega⟩;have hcf:=q8 f hs;have cd:(List.map bl.pv l).take k=(l.take k).map bl.pv:=by simp
      simp only[aiI,cQ,IS,MW f hs,U,asInt,BY,asc,auK,aud,cd,AI,asK,asU (Nat.le_of_lt hk)];rw[IN hc];refine bf (fun j=>(l.map bl.pv,ae.map br.pv,(k:Int),dc f+Cs l f j,anyM l f j,l.map bl.pv,(l.length:Int),(k:Int),(l.take k).map bl.pv,(k:Int),(j:Int),PV.int .i64 f.bD,PV.int .i64 f.t0,PV.int .i64 f.t1,PV.int .i64 f.every,())) k (fun j hj rc=>?_) (fun rc=>?_) ?_ ?_
      ·have hj1:(j:Int)<(k:Int):=by omega
       have ze:j<l.length:=by omega
       have hgl:(l.take k)[j]?=some l[j]:=by simp_all
       have hsj:=ahX j ze hj;have hcj:=q8 l[j] hsj;have hb:=MY l f j (by omega) fun i h hi=>ahX i h (by omega);simp only[pd,cT,hj1,BY,ag,AT,hgl,No,U,rM,xA,xB,xC,asInt,D8,bX,ab (show j<9223372036854775807 by omega),aJ,ay];rw[EN l f j ze,O6 l f j ze];by_cases he:l[j].bD=f.bD
       ·rw[IN he,IN he,MW l[j] hsj];have hw:IntKind.i64.wrap (dc f+Cs l f j+dc l[j])=dc f+(Cs l f j+dc l[j]):=by grind [aZ]
        simp_all[U,MX,asq,asX,asInt,BY]
       simp_all[IT,MX,ass,atO,as4,Int.add_zero]
      ·simp only[pd,cT,asf,IS,ab (show k<9223372036854775807 by omega)];by_cases Qv:dc f+Cs l f k>256
       ·rw[IN Qv,IN Qv];rfl
       ·rw[IT Qv,IT Qv];cases anyM l f k<;>rfl
      ·grind [rounds,decide]
      ·simp[Cs,anyM]
  ·simp only[pe,cT,asf,IS];rfl
  ·have:=aw;omega
theorem af6(l:List bl)(ae:List br)(ht:ae.length≤maxLen∧∀y∈ae,y.Ok)(HF:∀y∈ae,y.calls.length≤40)(hl:l.length≤maxLen):th [.rs 4 (l.map bl.pv),.rs 5 (ae.map br.pv)]=some (res (ta l ae).1 (ta l ae).2):=by
 have hm:=ai;simp only[th,DX,ao,BY,U,AI];unfold ta;by_cases j4:l.length>64
 ·rw[IN (by simp;omega),IN j4];rfl
 ·rw[IT (by simp;omega),IT j4,←cW];refine Fu (fun k=>(l.map bl.pv,ae.map br.pv,(k:Int),())) l.length _ (fun k hk hq rec=>?_) (fun _ rec=>?_) ?_ rfl
  ·have h1:(k:Int)<(l.length:Int):=by omega
   have ahX:∀j(h:j<l.length),j<k→dL l[j]=true:=fun j h hj=>by have hqj:=hq j hj;refine Fv l ae j h ?_;simp_all[Dx,yR,IT]
   simp only[xS,cT,h1,BY,ag,AT,cN hk,No,U,rM,xA,xB,xC,asInt,asBool,D8,AI,ay,Bo];unfold yR;rw[cN hk];simp only;generalize hf:l[k]=f;by_cases hr:f.bD<0∨f.bD≥(ae.length:Int)
   ·have:(decide (f.bD<0)||decide (f.bD≥(ae.length:Int)))=true:=by simpa using hr
    rw[this];rfl
   ·have Uc:(decide (f.bD<0)||decide (f.bD≥(ae.length:Int)))=false:=by simpa using hr
    simp only[Uc,cQ,IS];obtain⟨t,htt⟩:=atM (show 0≤f.bD by omega);have htl:t<ae.length:=by omega
    cases hs:dL f with
    |false=>rfl
    |true=>
     have hfa:fitsAt ae f=D9 ae[t] f:=by simp_all[fitsAt,asc,cN]
     have hfp:=af5 ae[t] (ht.2 _ (ar9 htl)) (HF _ (ar9 htl)) f hs;have amk:dA (ae.map br.pv) f.bD=some ae[t].pv:=by rw[htt,ag,AT,cN htl];rfl
     simp only[amk,aiI,cond_false,U,AH,B8,AJ,Ft,xD,Tp,hfp,asBool,hfa,as5];cases hfb:D9 ae[t] f with
     |false=>rfl
     |true=>
      have hcf:=q8 f hs;simp only[aiI,cQ,IS];refine bf (fun j=>(l.map bl.pv,ae.map br.pv,(k:Int),Cs l f j,anyM l f (min j k),(j:Int),PV.int .i64 f.bD,PV.int .i64 f.t0,PV.int .i64 f.t1,PV.int .i64 f.every,())) (k+1) (fun j hj rc=>?_) (fun rc=>?_) ?_ ?_
      ·have hj1:(j:Int)≤(k:Int):=by omega
       have ze:j<l.length:=by omega
       have hsj:dL l[j]=true:=by grind
       have hcj:=q8 l[j] hsj;have hb:=MY l f j (by omega) fun i h hi=>ahX i h (by omega);simp only[xR,cT,hj1,BY,ag,AT,cN ze,No,U,rM,xA,xB,xC,asInt,D8,eC,ab (show j<9223372036854775807 by omega)];rw[EN l f j ze];have ab6:anyM l f (min (j+1) k)=(anyM l f (min j k)||(decide (j<k)&&MX f l[j])):=by grind [Nat.min_eq_left,O6,Nat.min_eq_right]
       rw[ab6];by_cases he:l[j].bD=f.bD
       ·have hw:IntKind.i64.wrap (Cs l f j+dc l[j])=Cs l f j+dc l[j]:=aZ (by omega) (by omega);simp only[he,asq,aiI,cQ,IS,WV l[j] hsj,U,asInt,BY,hw,MX,asX,aJ];grind
       ·simp only[he,ass,asr,BY,IS,MX,atO,auc,as4,Int.add_zero]
      ·have cd:¬((k+1:Nat):Int)≤(k:Int):=by omega
       have arG:Cs l f (k+1)=dc f+Cs l f k:=by rw[EN l f k hk,hf,IN rfl];omega
       simp only[xR,cT,IT cd,ab (show k<9223372036854775807 by omega),arG,Nat.min_eq_right (Nat.le_succ k)];by_cases Qv:dc f+Cs l f k>256
       ·rw[IN Qv,IN Qv];rfl
       ·rw[IT Qv,IT Qv];cases anyM l f k<;>rfl
      ·grind [rounds,decide]
      rfl
  ·simp only[xS,cT,AI,asf,IS];rfl
  ·have:=aw;omega
theorem af7(x:iG):cell x.pv 0=.int .i64 x.a:=rfl
theorem af8(x:iG):cell x.pv 1=.int .i64 x.b:=rfl
theorem RV(n:Int):cell (.int .i64 n) 0=.int .i64 n:=rfl
def iv(n:Int):PV:=.int .i64 n
def Ee(l:List iG)(t:Int):Option Int:=(l.find? fun x=>decide (x.a=t)).map iG.b
def xY(o:Option Int):PV:=match o with|some b=>.aG [.int .i64 b,.bool true]|none=>.aG [.int .i64 0,.bool false]
theorem Aw{A B:Type}(p:A→Bool)(g:A→B)(l:List A):(List.range l.length).findSome? (fun k=>(l[k]?).bind fun x=>if p x=true then some (g x)else none)=(l.find? p).map g:=by
 rw[KH];induction l with
 |nil=>rfl
 |cons x l ih=>grind
theorem O7(l:List iG)(hl:l.length≤maxLen)(t:Int):rq [.rs 2 (l.map iG.pv),.int .i64 t]=some (xY (Ee l t)):=by
 have hm:=ai;simp only[rq,BM,ao,asInt,BY,U,AI];refine(aC (fun k=>(t,l.map iG.pv,(l.length:Int),(k:Int),())) l.length (fun k=>(l[k]?).bind fun x=>if decide (x.a=t)=true then some (some (xY (some x.b)))else none) (fin:=some (xY none)) (fun k hk rec=>?_) (fun rec=>?_) ?_ rfl).trans ?_
 ·have h1:(k:Int)<(l.length:Int):=by omega
  simp only[uF,cT,h1,BY,ag,AT,cN hk,No,U,asl,af7,af8,asInt,ab (show k<9223372036854775807 by omega),bX];by_cases he:l[k].a=t
  ·simp only[he,BY];rfl
  ·simp only[he,IS];rfl
 ·simp only[uF,cT,asf,IS];rfl
 ·have:=aw;omega
 ·rw[Aw (fun x:iG=>decide (x.a=t)) (fun x=>some (xY (some x.b))) l];unfold Ee;cases l.find? fun x=>decide (x.a=t)<;>rfl
theorem af9(l:List iG)(hl:l.length≤maxLen)(t:Int):vD [.rs 2 (l.map iG.pv),.int .i64 t]=some (xY (Ee l t)):=by
 have hm:=ai;simp only[vD,Gu,ao,asInt,BY,U,AI];refine(aC (fun k=>(l.map iG.pv,t,(k:Int),())) l.length (fun k=>(l[k]?).bind fun x=>if decide (x.a=t)=true then some (some (xY (some x.b)))else none) (fin:=some (xY none)) (fun k hk rec=>?_) (fun rec=>?_) ?_ rfl).trans ?_
 ·have h1:(k:Int)<(l.length:Int):=by omega
  simp only[zU,cT,AI,h1,BY,ag,AT,cN hk,No,U,asl,af7,af8,asInt,ab (show k<9223372036854775807 by omega),bX];by_cases he:l[k].a=t
  ·simp only[he,BY];rfl
  ·simp only[he,IS];rfl
 ·simp only[zU,cT,AI,asf,IS];rfl
 ·have:=aw;omega
 ·rw[Aw (fun x:iG=>decide (x.a=t)) (fun x=>some (xY (some x.b))) l];unfold Ee;cases l.find? fun x=>decide (x.a=t)<;>rfl
theorem Zy(l:List Int)(hl:l.length≤maxLen)(t:Int):tO [.rs 1 (l.map iv),.int .i64 t]=some (.bool (decide (t∈l))):=by
 have hm:=ai;simp only[tO,IV,ao,asInt,BY,U,AI];refine(dt (fun k=>(l.map iv,t,(k:Int),())) l.length (fun k=>decide (l[k]?=some t)) (no:=some (.bool true)) (fin:=some (.bool false)) (fun k hk rec=>?_) (fun rec=>?_) ?_ rfl).trans ?_
 ·have h1:(k:Int)<(l.length:Int):=by omega
  simp only[BT,cT,AI,h1,BY,ag,AT,cN hk,No,U,iv,RV,asInt,ab (show k<9223372036854775807 by omega),bX,cO]
 ·simp[BT,cT,AI,asf,IS]
 ·have:=aw;omega
 ·rw[jf l l.length (aso _) t,asJ];grind
theorem V0(l:List Int)(hl:l.length≤maxLen)(t:Int):ba.run nq (t,l.map iv,(l.length:Int),0,())=some (.bool (decide (t∈l))):=by
 have hm:=ai;refine(dt (fun k=>(t,l.map iv,(l.length:Int),(k:Int),())) l.length (fun k=>decide (l[k]?=some t)) (no:=some (.bool true)) (fin:=some (.bool false)) (fun k hk rec=>?_) (fun rec=>?_) ?_ rfl).trans ?_
 ·have h1:(k:Int)<(l.length:Int):=by omega
  simp only[nq,cT,h1,BY,ag,AT,cN hk,No,U,iv,RV,asInt,ab (show k<9223372036854775807 by omega),bX,cO]
 ·simp[nq,cT,asf,IS]
 ·have:=aw;omega
 ·rw[jf l l.length (aso _) t,asJ];grind
def grow(l:List iG):Nat→List Int→Int→List Int
 |0,pre,last=>pre++[last]
 |n+1,pre,last=>match Ee l last with
  |none=>pre++[last]
  |some m=>if m∈pre++[last]then pre++[last]else grow l n (pre++[last]) m
theorem Tr(l:List iG):∀n pre last,(grow l n pre last).length≤pre.length+1+n:=by
 intro n;induction n with
 |zero=>intro pre last;simp[grow]
 |succ n ih=>grind [grow,Nat.le_trans]
theorem ahY:∀(a b:List Int),a.Nodup→(∀x∈a,x∈b)→a.length≤b.length:=by
 intro a;induction a with
 |nil=>simp
 |cons x a ih=>
  intro b hn hs;rw[auA]at hn;have hx:x∈b:=hs x (by simp);have:=ih (b.erase x) hn.2 fun y hy=>by grind
  grind
theorem Ts(l:List iG)(t m:Int)(h:Ee l t=some m):t∈l.map iG.a:=by
 unfold Ee at h;cases hf:l.find? (fun x=>decide (x.a=t))with
 |none=>rw[hf]at h;cases h
 |some x=>grind
theorem MZ(pre:List Int)(last:Int)(hl:pre.length<maxLen):(pre++[last]).map iv=pre.map iv++[iv last]∧al (IntKind.i64.wrap ((((pre++[last]).map iv).length:Int)-1)) ((pre++[last]).map iv).length∧((pre++[last]).map iv)[(IntKind.i64.wrap ((((pre++[last]).map iv).length:Int)-1)).toNat]?=some (iv last):=by
 have hm:=ai;have h1:(((pre++[last]).map iv).length:Int)=((pre.length+1:Nat):Int):=by simp
 have h2:IntKind.i64.wrap (((pre.length+1:Nat):Int)-1)=(pre.length:Int):=hZ _ (by omega);simp_all[iv,fA,asc]
theorem xZ(a b:Int):cz (iv a).cells (iv b).cells=decide (a=b):=EG a b
theorem V1(l:List iG)(hl:l.length≤1000)(t:Int):oC [.rs 2 (l.map iG.pv),.int .i64 t]=some (.rs 1 ((grow l l.length [] t).map iv)):=by
 have Wz:(2000:Nat)≤maxLen:=by decide
 have h0:dI (PV.int .i64 t) (.bool true) []=seen iv ([]++[t]):=fV xZ t [];simp only[oC,zJ,ao,asInt,BY,U,h0];have key:∀(n N:Nat)(pre:List Int)(last:Int),pre.length+n=l.length→n<N→(pre++[last]).Nodup→(∀x∈pre,x∈l.map iG.a)→cE (np ba) N (l.map iG.pv,(pre++[last]).map iv,seen iv (pre++[last]),())=some (.rs 1 ((grow l n pre last).map iv)):=by
  intro n;induction n with
  |zero=>
   intro N pre last hp hN hnd Ug;cases N with
   |zero=>omega
   |succ N=>
    obtain⟨g1,g2,g3⟩:=MZ pre last (by omega);have acJ:Ee l last=none:=by
     cases hx:Ee l last with
     |none=>rfl
     |some m=>
      have h1:=Ts l last m hx;have:=ahY (pre++[last]) (l.map iG.a) hnd fun y hy=>by
       rw[asB]at hy;rcases hy with hy|hy
       ·exact Ug y hy
       simp_all
      simp at this;omega
    simp only[cE,np,IN g2,g3,U,iv,RV,asInt,BY,O7 l (by omega),acJ,xY,cg,aqP,ase,Nat.reduceAdd,abm,ahH,asBool,asr,cond_true];rfl
  |succ n ih=>
   intro N pre last hp hN hnd Ug;cases N with
   |zero=>omega
   |succ N=>
    obtain⟨g1,g2,g3⟩:=MZ pre last (by omega);have hb:∀X:PV,((pre++[last]).map iv++[X]).length*8≤ah∧0<8:=fun X=>by refine⟨?_,by omega⟩;simp only[asi,AI,aqP,ase];unfold ah;omega
    simp only[cE,np,IN g2,g3,U,RV,asInt,BY];simp only[iv,RV,asInt,BY,U,O7 l (by omega)];unfold grow;cases hx:Ee l last with
    |none=>rfl
    |some m=>
     have mA:cB (PV.int .i64 m) (.bool false) (seen iv (pre++[last]))=.bool (decide (m∈pre++[last])):=eX xZ m _;have oK:dI (PV.int .i64 m) (.bool true) (seen iv (pre++[last]))=seen iv (pre++[last]++[m]):=fV xZ m _;simp only[xY,cg,aqP,ase,Nat.reduceAdd,BY,abm,ahH,asBool,asInt,U,aiI,cond_false];simp only[mA,asBool,U];by_cases bB:m∈pre++[last]
     ·simp_all
     ·simp only[bB,ass,cQ,IS];rw[IN (hb _),oK];have uJ:(pre++[last]).map iv++[PV.int .i64 m]=(pre++[last]++[m]).map iv:=by simp[iv]
      rw[uJ];refine ih N (pre++[last]) m (by simp;omega) (by omega) ?_ ?_
      ·rw[List.nodup_append];refine⟨hnd,by simp,fun a ha b hb=>?_⟩;simp at hb;grind
      ·intro x Pq;rw[asB]at Pq;rcases Pq with h|h
       ·exact Ug x h
       simp_all[Ts]
 exact key l.length rounds [] t (by simp) (by grind [rounds,decide]) (by simp) (by simp)
theorem abF(l:List iG)(hl:l.length≤1000)(t:Int):tl [.rs 2 (l.map iG.pv),.int .i64 t]=some (.rs 1 ((grow l l.length [] t).map iv)):=by
 have Wz:(2000:Nat)≤maxLen:=by decide
 have hm:=ai;simp only[tl,DY,ao,asInt,BY,U,AI];have key:∀(n N:Nat)(pre:List Int)(last:Int),pre.length+n=l.length→n<N→cE (rA ba) N (l.map iG.pv,(l.length:Int),(pre.length:Int),(pre++[last]).map iv,())=some (.rs 1 ((grow l n pre last).map iv)):=by
  intro n;induction n with
  |zero=>
   intro N pre last hp hN;cases N with
   |zero=>omega
   |succ N=>
    have cd:¬(pre.length:Int)<(l.length:Int):=by omega
    simp only[cE,rA,cT,IT cd];rfl
  |succ n ih=>
   intro N pre last hp hN;cases N with
   |zero=>omega
   |succ N=>
    obtain⟨g1,g2,g3⟩:=MZ pre last (by omega);have cd:(pre.length:Int)<(l.length:Int):=by omega
    have hb:∀X:PV,((pre++[last]).map iv++[X]).length*8≤ah∧0<8:=fun X=>by refine⟨?_,by omega⟩;simp only[asi,AI,aqP,ase];unfold ah;omega
    simp only[cE,rA,cT,IN cd,IN g2,g3,U,RV,asInt,BY];simp only[iv,RV,asInt,BY,U,af9 l (by omega)];unfold grow;cases hx:Ee l last with
    |none=>rfl
    |some m=>
     have aml:=Zy (pre++[last]) (by simp;omega) m;simp only[xY,cg,aqP,ase,Nat.reduceAdd,BY,abm,ahH,asBool,asInt,U,aiI,cond_false,aml];by_cases bB:m∈pre++[last]
     ·simp_all
     ·simp only[bB,ass,cQ,IS];rw[IN (hb _)];have uJ:(pre++[last]).map iv++[PV.int .i64 m]=(pre++[last]++[m]).map iv:=by simp[iv]
      have hk:IntKind.i64.wrap ((pre.length:Int)+1)=((pre++[last]).length:Int):=by rw[ab (by omega)];simp
      rw[uJ,hk];exact ih N (pre++[last]) m (by simp;omega) (by omega)
 exact key l.length rounds [] t (by simp) (by grind [rounds,decide])
theorem Tu(l:List iG)(hl:l.length≤1000)(a b:Int):oD [.rs 2 (l.map iG.pv),.int .i64 a,.int .i64 b]=some (.bool (decide (b∈grow l l.length [] a))):=by
 have Wz:(2000:Nat)≤maxLen:=by decide
 have hg:=Tr l l.length [] a;simp only[ase]at hg;simp only[oD,zK,ao,asInt,BY,U,V1 l hl,AI];exact V0 _ (by omega) b
def ER(fs:List bl)(t:Int):Bool:=decide (t∈fs.map bl.bD)
theorem RS(fs:List bl)(hl:fs.length≤maxLen)(t:Int):eb [.rs 4 (fs.map bl.pv),.int .i64 t]=some (.bool (ER fs t)):=by
 have hm:=ai;simp only[eb,oW,ao,asInt,BY,U,AI];refine(dt (fun k=>(t,fs.map bl.pv,(fs.length:Int),(k:Int),())) fs.length (fun k=>decide ((fs.map bl.bD)[k]?=some t)) (no:=some (.bool true)) (fin:=some (.bool false)) (fun k hk rec=>?_) (fun rec=>?_) ?_ rfl).trans ?_
 ·have h1:(k:Int)<(fs.length:Int):=by omega
  simp only[lI,cT,h1,BY,ag,AT,cN hk,No,U,rM,asInt,ab (show k<9223372036854775807 by omega),bX,cO]
 ·simp[lI,cT,asf,IS]
 ·have:=aw;omega
 ·have h:=jf (fs.map bl.bD) fs.length (by simp) t;rw[h,asA (by simp)];unfold ER;grind
theorem Zz(fs:List bl)(hl:fs.length≤maxLen)(t:Int):eY [.rs 4 (fs.map bl.pv),.int .i64 t]=some (.bool (ER fs t)):=by
 have hm:=ai;simp only[eY,xv,ao,asInt,BY,U,AI];refine(dt (fun k=>(fs.map bl.pv,t,(k:Int),())) fs.length (fun k=>decide ((fs.map bl.bD)[k]?=some t)) (no:=some (.bool true)) (fin:=some (.bool false)) (fun k hk rec=>?_) (fun rec=>?_) ?_ rfl).trans ?_
 ·have h1:(k:Int)<(fs.length:Int):=by omega
  simp only[rB,cT,AI,h1,BY,ag,AT,cN hk,No,U,rM,asInt,ab (show k<9223372036854775807 by omega),bX,cO]
 ·simp[rB,cT,AI,asf,IS]
 ·have:=aw;omega
 ·have h:=jf (fs.map bl.bD) fs.length (by simp) t;rw[h,asA (by simp)];unfold ER;grind
def I1(n m:Int):Bool:=decide (n≥0)&&decide (n<m)
theorem aga(n m:Int):mH [.int .i64 n,.int .i64 m]=some (.bool (I1 n m)):=by simp only[mH,MB,asInt,BY,U,aJ];rfl
theorem ahZ(n:Int)(ts:List PV):gu [.int .i64 n,.rp [.rs 5 ts]]=some (.bool (I1 n ts.length)):=by simp only[gu,wK,asInt,ao,BY,U,aJ];rfl
def AL(a b:Int)(n:Nat):Bool:= !I1 a n|| !I1 b n||decide (a=b)
def tz(fs:List bl)(a b:Int):Bool:=ER fs a||ER fs b
theorem O8(a b:Int)(ae:List br)(fs:List bl)(hl:fs.length≤maxLen):mF [.int .i64 a,.int .i64 b,.rs 5 (ae.map br.pv),.rs 4 (fs.map bl.pv)]=some (.aG [.int .i64 (if AL a b ae.length=true then 9 else 0),.int .i64 (if(!AL a b ae.length&&tz fs a b)=true then 17 else 0)]):=by simp only[mF,BN,asInt,ao,asBool,BY,U,ahZ,RS fs hl,AI,ay,bX];unfold AL tz;grind
def AM(a b:br):Int:=if(!decide (a.wB=b.wB))=true then 15 else match a.calls[a.calls.length-1]?,b.calls[0]? with
 |some p,some q=>if(!decide (p.stop=q.stop))=true then 13 else if q.dep<p.arr then 10 else 0
 |_,_=>13
theorem Tv(l:List aY)(h:0<l.length)(hl:l.length≤maxLen):IntKind.i64.wrap ((l.length:Int)-1)=((l.length-1:Nat):Int):=by grind [ai,aZ]
theorem apA(l:List aY)(h:0<l.length):dA (l.map aY.pv) 0=some l[0].pv:=by rw[show(0:Int)=((0:Nat):Int)from rfl,ag,AT,cN h];rfl
theorem Qw(a b:br)(ha:a.Ok)(hb:b.Ok):lY [a.pv,b.pv]=some (.int .i64 (AM a b)):=by
 have hm:=ai;have ha1:=ha.calls.1;simp only[lY,uy,MK,AH,B8,AJ,Ft,xD,aO,ao,asInt,asBool,BY,U,AI,ay,eC];unfold AM;cases decide (a.wB=b.wB)with
 |false=>rfl
 |true=>
  simp only[aiI,cQ,IS];by_cases h1:a.calls.length=0
  ·simp_all
  ·by_cases h2:b.calls.length=0
   ·simp_all
   ·have n1:((a.calls.length:Int)==0)=false:=by simp_all
    have n2:((b.calls.length:Int)==0)=false:=by simp_all
    have hk:a.calls.length-1<a.calls.length:=by omega
    have h0:0<b.calls.length:=by omega
    rw[n1,n2,Tv a.calls (by omega) ha1,apA b.calls h0];simp only[as4,cQ,IS,ag,AT,cN hk,cN h0,No,U,uO,Dw,rK,asInt,BY];grind
def M0(l:List iG)(ae:List br)(fs:List bl)(k:Nat):Int:=match l[k]? with
 |none=>0
 |some x=>if AL x.a x.b ae.length=true then 9 else if tz fs x.a x.b=true then 17 else match ae[x.a.toNat]?,ae[x.b.toNat]? with
  |some p,some q=>if AM p q=0 then(if(decide (x.a∈(l.map iG.a).take k)||decide (x.b∈(l.map iG.b).take k))=true then 6 else if x.a∈grow (l.take k) k [] x.b then 19 else 0)else AM p q
  |_,_=>0
def Ef(l:List iG)(ae:List br)(fs:List bl):Int×Int:=if l.length>128 then(0,5)else bV (M0 l ae fs) l.length
theorem Kp(a b:Int)(ae:List br)(h:AL a b ae.length=false):∃(i j:Nat),a=i∧b=j∧i<ae.length∧j<ae.length:=by unfold AL I1 at h;simp only[asE,as0,ao9,cT]at h;exact⟨a.toNat,b.toNat,by omega,by omega,by omega,by omega⟩
theorem agb(l:List iG)(ae:List br)(fs:List bl)(ht:ae.length≤maxLen∧∀y∈ae,y.Ok)(hf:fs.length≤maxLen):oE [.rs 2 (l.map iG.pv),.rs 5 (ae.map br.pv),.rs 4 (fs.map bl.pv)]=some (res (Ef l ae fs).1 (Ef l ae fs).2):=by
 have hm:=ai;simp only[oE,zL,ao,BY,U,AI];unfold Ef;by_cases j4:l.length>128
 ·rw[IN (by simp;omega),IN j4];rfl
 ·rw[IT (by simp;omega),IT j4,←cW];refine aC (fun k=>(l.map iG.pv,ae.map br.pv,fs.map bl.pv,l.map iG.pv,(l.length:Int),(k:Int),seen iv ((l.map iG.a).take k),seen iv ((l.map iG.b).take k),())) l.length _ (fun k hk rec=>?_) (fun rec=>?_) ?_ rfl
  ·have h1:(k:Int)<(l.length:Int):=by omega
   simp only[su,cT,h1,BY,ag,AT,cN hk,No,U,af7,af8,asInt,O8 _ _ ae fs hf,cg,aqP,ase,Nat.reduceAdd,abm,ahH,eC,ab (show k<9223372036854775807 by omega),kT iG.a l k hk,kT iG.b l k hk,AI];unfold M0;rw[cN hk];simp only;generalize l[k]=x;cases hp:AL x.a x.b ae.length with
   |true=>rfl
   |false=>
    cases hr:tz fs x.a x.b with
    |true=>rfl
    |false=>
     obtain⟨i,j,hi,hj,QD,ze⟩:=Kp x.a x.b ae hp;have xi:dA (ae.map br.pv) x.a=some ae[i].pv:=by rw[hi,ag,AT,cN QD];rfl
     have xj:dA (ae.map br.pv) x.b=some ae[j].pv:=by rw[hj,ag,AT,cN ze];rfl
     have ti:ae[x.a.toNat]?=some ae[i]:=by simp_all
     have tj:ae[x.b.toNat]?=some ae[j]:=by simp_all
     have hfo:=Qw ae[i] ae[j] (ht.2 _ (ar9 QD)) (ht.2 _ (ar9 ze));have la:cB (PV.int .i64 x.a) (.bool false) (seen iv ((l.map iG.a).take k))=.bool (decide (x.a∈(l.map iG.a).take k)):=eX xZ x.a _;have lb:cB (PV.int .i64 x.b) (.bool false) (seen iv ((l.map iG.b).take k))=.bool (decide (x.b∈(l.map iG.b).take k)):=eX xZ x.b _;have pa:dI (PV.int .i64 x.a) (.bool true) (seen iv ((l.map iG.a).take k))=seen iv ((l.map iG.a).take k++[x.a]):=fV xZ x.a _;have pb:dI (PV.int .i64 x.b) (.bool true) (seen iv ((l.map iG.b).take k))=seen iv ((l.map iG.b).take k++[x.b]):=fV xZ x.b _;have hc:(0:Int)≤0∧(0:Int)≤(k:Int)∧(k:Int)≤(l.length:Int)∧True∧2≠0:=⟨by omega,by omega,by omega,trivial,by omega⟩;have htk:(l.map iG.pv).take k=(l.take k).map iG.pv:=by simp
     have hle:=Tu (l.take k) (by simp;omega) x.b x.a;have Oe:(l.take k).length=k:=by simp;omega
     rw[Oe]at hle;simp only[asr,asX,cQ,IS,asq,aiI,xi,xj,ti,tj,U,AH,B8,AJ,Ft,xD,Tp,hfo,asInt,BY,la,lb,asBool,ay,pa,pb,htk,asc,auK,aud,hle,IN hc];by_cases hfe:AM ae[i] ae[j]=0
     ·simp only[hfe,asq,aiI,cQ,IS,BY];cases(decide (x.a∈(l.map iG.a).take k)||decide (x.b∈(l.map iG.b).take k))with
      |true=>rfl
      |false=>
       by_cases bB:x.a∈grow (l.take k) k [] x.b
       ·simp only[bB,asq,BY];rfl
       ·simp only[bB,ass,cQ,IS];rfl
     ·simp only[hfe,ass,asr,BY,IS,Dx,bK];rfl
  ·simp only[su,cT,asf,IS];rfl
  grind [rounds,decide]
theorem amm{A:Type}(l:List A)(p q:A→Bool):(l.any fun x=>p x||q x)=(l.any p||l.any q):=by grind
theorem ah0(l:List iG)(hl:l.length≤1000)(ae:List br)(fs:List bl)(ht:ae.length≤maxLen∧∀y∈ae,y.Ok)(hf:fs.length≤maxLen)(k:Nat)(hk:k<l.length):yV [.rs 2 (l.map iG.pv),.int .i64 k,.rs 5 (ae.map br.pv),.rs 4 (fs.map bl.pv)]=some (.int .i64 (M0 l ae fs k)):=by
 have hm:=ai;simp only[yV,IW,ao,asInt,asBool,BY,U,ag,AT,cN hk,No,af7,af8,aga,Zz fs hf,AI,ay,bX,eC];unfold M0;rw[cN hk];simp only;generalize hx:l[k]=x;have hpb:(!I1 x.a (ae.length:Int)|| !I1 x.b (ae.length:Int)||decide (x.a=x.b))=AL x.a x.b ae.length:=rfl;have hpr:(ER fs x.a||ER fs x.b)=tz fs x.a x.b:=rfl;rw[hpb,hpr];cases hp:AL x.a x.b ae.length with
 |true=>rfl
 |false=>
  cases hr:tz fs x.a x.b with
  |true=>rfl
  |false=>
   obtain⟨i,j,hi,hj,QD,ze⟩:=Kp x.a x.b ae hp;have xi:dA (ae.map br.pv) x.a=some ae[i].pv:=by rw[hi,ag,AT,cN QD];rfl
   have xj:dA (ae.map br.pv) x.b=some ae[j].pv:=by rw[hj,ag,AT,cN ze];rfl
   have ti:ae[x.a.toNat]?=some ae[i]:=by simp_all
   have tj:ae[x.b.toNat]?=some ae[j]:=by simp_all
   have hai:=(ht.2 _ (ar9 QD)).calls.1;simp only[cQ,IS,xi,xj,ti,tj,U,AJ,xD,asInt,ao,BY,AI];unfold AM;cases decide (ae[i].wB=ae[j].wB)with
   |false=>rfl
   |true=>
    simp only[aiI,cQ,IS];by_cases z1:ae[i].calls.length=0
    ·have e1:ae[i].calls=[]:=ash z1;have w:IntKind.i64.wrap (((([]:List aY).length:Nat):Int)-1)= -1:=by rfl
     simp_all
    ·rw[Tv _ (by omega) hai];have anl:decide (((ae[i].calls.length-1:Nat):Int)<0)=false:=by simp
     simp only[anl,cond_false,U];by_cases z2:ae[j].calls.length=0
     ·simp_all
     ·have n2:decide ((ae[j].calls.length:Int)=0)=false:=atq (by omega);have sD:ae[i].calls.length-1<ae[i].calls.length:=by omega
      have h0:0<ae[j].calls.length:=by omega
      rw[n2,apA _ h0];simp only[cQ,cond_false,IS,ag,AT,cN sD,cN h0,No,U,uO,Dw,rK,asInt,BY];cases decide (ae[i].calls[ae[i].calls.length-1].stop=ae[j].calls[0].stop)with
      |false=>rfl
      |true=>
       simp only[aiI,cQ,IS,cT];by_cases cd:ae[j].calls[0].dep<ae[i].calls[ae[i].calls.length-1].arr
       ·simp_all
       ·rw[IT cd,IT cd];simp only[BY];have hc:(0:Int)≤0∧(0:Int)≤(k:Int)∧(k:Int)≤((l.map iG.pv).length:Int)∧True∧2≠0:=⟨by omega,by omega,by simp;omega,trivial,by omega⟩;have htk:(l.map iG.pv).take k=(l.take k).map iG.pv:=by simp
        have Oe:(l.take k).length=k:=by simp;omega
        have hch:=abF (l.take k) (by omega) x.b;rw[Oe]at hch;have hg:=Tr (l.take k) k [] x.b;simp only[ase]at hg;have aml:=Zy (grow (l.take k) k [] x.b) (by grind [maxLen,decide]) x.a;refine(dt (fun j=>(l.map iG.pv,(k:Int),(j:Int),PV.int .i64 x.a,PV.int .i64 x.b,())) k (fun j=>decide ((l.map iG.a)[j]?=some x.a)||decide ((l.map iG.b)[j]?=some x.b)) (no:=some (.int .i64 6)) (fin:=some (.int .i64 (if x.a∈grow (l.take k) k [] x.b then 19 else 0))) (fun j hj rec=>?_) (fun rec=>?_) ?_ rfl).trans ?_
        ·have h1:(j:Int)<(k:Int):=by omega
         have ze:j<l.length:=by omega
         simp only[BU,cT,h1,BY,ag,AT,cN ze,No,U,af7,af8,asInt,ab (show j<9223372036854775807 by omega),bX,ay,cO]
        ·simp only[BU,cT,asf,IS,IN hc,htk,asc,auK,aud,asInt,BY,U,hch,ao,aml,asBool];split<;>rfl
        ·grind [rounds,decide]
        ·rw[amm,jf _ k (by simp;omega),jf _ k (by simp;omega)];split<;>rfl
theorem ah1(l:List iG)(ae:List br)(fs:List bl)(ht:ae.length≤maxLen∧∀y∈ae,y.Ok)(hf:fs.length≤maxLen):tn [.rs 2 (l.map iG.pv),.rs 5 (ae.map br.pv),.rs 4 (fs.map bl.pv)]=some (res (Ef l ae fs).1 (Ef l ae fs).2):=by
 have hm:=ai;simp only[tn,DZ,ao,BY,U,AI];unfold Ef;by_cases j4:l.length>128
 ·rw[IN (by simp;omega),IN j4];rfl
 ·rw[IT (by simp;omega),IT j4,←cW];refine aC (fun k=>(l.map iG.pv,ae.map br.pv,fs.map bl.pv,(k:Int),())) l.length _ (fun k hk rec=>?_) (fun rec=>?_) ?_ rfl
  ·have h1:(k:Int)<(l.length:Int):=by omega
   simp only[xU,cT,AI,h1,BY,ah0 l (by omega) ae fs ht hf k hk,U,asInt,ab (show k<9223372036854775807 by omega),eC];grind [M0,Dx,bK,res]
  ·simp only[xU,cT,AI,asf,IS];rfl
  grind [rounds,decide]
def GA(l:List aY)(s:Int)(k:Nat):Bool:=decide (0<k)&&(match l[k]? with|some x=>decide (x.stop=s)&&x.bC|none=>false)
def Eg(l:List aY)(s:Int)(k:Nat):Bool:=decide (k+1<l.length)&&(match l[k]? with|some x=>decide (x.stop=s)&&x.ca|none=>false)
def O9(o:Option Nat):Int:=match o with|some k=>k|none=> -1
theorem Tw(i:Nat):decide (O9 (some i)<0)=false:=by rfl
theorem agc(l:List aY)(hl:l.length≤maxLen)(s:Int):jz [.rs 5 (l.map aY.pv),.int .i64 s]=some (.int .i64 (O9 ((List.range l.length).find? (GA l s)))):=by
 have hm:=ai;simp only[jz,qY,ao,asInt,BY,U,AI];refine(aC (fun k=>(s,l.map aY.pv,(l.length:Int),(k:Int),())) l.length (fun k=>if GA l s k=true then some (some (.int .i64 (k:Int)))else none) (fin:=some (.int .i64 (-1))) (fun k hk rec=>?_) (fun rec=>?_) ?_ rfl).trans ?_
 ·have h1:(k:Int)<(l.length:Int):=by omega
  have h2:decide ((k:Int)>0)=decide (0<k):=by simp
  simp only[mG,cT,h1,BY,ag,AT,cN hk,No,U,uO,O0,asInt,asBool,ab (show k<9223372036854775807 by omega),bX,aJ,GA,h2];cases decide (0<k)<;>cases decide (l[k].stop=s)<;>cases l[k].bC<;>rfl
 ·simp[mG,cT,asf,IS]
 ·have:=aw;omega
 ·rw[iu];cases(List.range l.length).find? (GA l s)<;>rfl
theorem agd(l:List aY)(hl:l.length<maxLen)(s:Int):kJ [.rs 5 (l.map aY.pv),.int .i64 s]=some (.int .i64 (O9 ((List.range l.length).find? (Eg l s)))):=by
 have hm:=ai;simp only[kJ,sq,ao,asInt,BY,U,AI];refine(aC (fun k=>(l.map aY.pv,s,l.map aY.pv,(l.length:Int),(k:Int),())) l.length (fun k=>if Eg l s k=true then some (some (.int .i64 (k:Int)))else none) (fin:=some (.int .i64 (-1))) (fun k hk rec=>?_) (fun rec=>?_) ?_ rfl).trans ?_
 ·have h1:(k:Int)<(l.length:Int):=by omega
  have h2:decide (((k+1:Nat):Int)<(l.length:Int))=decide (k+1<l.length):=by grind
  simp only[nL,cT,h1,BY,ag,AT,cN hk,No,U,uO,OZ,asInt,asBool,ab (show k<9223372036854775807 by omega),bX,aJ,Eg,AI,h2];cases decide (k+1<l.length)<;>cases decide (l[k].stop=s)<;>cases l[k].ca<;>rfl
 ·simp[nL,cT,asf,IS]
 ·have:=aw;omega
 ·rw[iu];cases(List.range l.length).find? (Eg l s)<;>rfl
def mtB(a b:List aY)(i k:Nat):Bool:=match a[i]?,b[k]? with|some p,some q=> !decide (q.dep<p.arr)|_,_=>false
def V2(i k:Nat)(m:Bool):PV:=if m=true then .aG [.int .i64 i,.int .i64 k,.bool true]else .aG [.int .i64 0,.int .i64 0,.bool false]
def abG:PV:=.aG [.int .i64 0,.int .i64 0,.bool false]
def EO(a b:List aY)(s:Int):PV:=match(List.range a.length).find? (GA a s)with
 |none=>abG
 |some i=>match(List.range b.length).find? (Eg b s)with
  |none=>abG
  |some k=>V2 i k (mtB a b i k)
def M1(a b:List aY)(s:Int):Bool:=match(List.range a.length).find? (GA a s)with
 |none=>false
 |some i=>match(List.range b.length).find? (Eg b s)with
  |none=>false
  |some k=>mtB a b i k
theorem Pa(a b:List aY)(s:Int):∃n m,EO a b s=.aG [.int .i64 n,.int .i64 m,.bool (M1 a b s)]:=by
 unfold EO M1;cases(List.range a.length).find? (GA a s)with
 |none=>exact⟨0,0,rfl⟩
 |some i=>
  cases(List.range b.length).find? (Eg b s)with
  |none=>exact⟨0,0,rfl⟩
  |some k=>
   simp only[V2];cases mtB a b i k
   ·simp
   simp
theorem ZA(p:Nat→Bool)(n i:Nat)(h:(List.range n).find? p=some i):i<n:=by simp_all
theorem V3(a b:List aY)(ha:a.length≤maxLen)(hb:b.length<maxLen)(s:Int):oF [.rs 5 (a.map aY.pv),.rs 5 (b.map aY.pv),.int .i64 s]=some (EO a b s):=by
 simp only[oF,zM,ao,asInt,BY,U,agc a ha s,agd b hb s,ay];unfold EO;cases hi:(List.range a.length).find? (GA a s)with
 |none=>rfl
 |some i=>
  have QD:=ZA _ _ _ hi;cases hk:(List.range b.length).find? (Eg b s)with
  |none=>rfl
  |some k=>have JV:=ZA _ _ _ hk;have h1:decide (O9 (some i)<0)=false:=Tw i;have h2:decide (O9 (some k)<0)=false:=Tw k;rw[h1,h2];simp only[O9,as4,cond_false,ag,AT,cN QD,cN JV,No,U,Dw,rK,asInt,BY,cT,V2,mtB];grind
theorem age(a b:List aY)(hb:b.length<maxLen)(s:Int)(i:Nat)(hi:i<a.length):ba.run rC (a.map aY.pv,b.map aY.pv,s,(i:Int),0,())=some (match(List.range b.length).find? (Eg b s)with
 |none=>abG
 |some k=>V2 i k (mtB a b i k)):=by
 have hm:=ai
 refine(aC (fun k=>(a.map aY.pv,b.map aY.pv,s,(i:Int),(k:Int),())) (b.length-1) (fun k=>if Eg b s k=true then some (some (V2 i k (mtB a b i k)))else none) (fin:=some abG) (fun k hk rec=>?_) (fun rec=>?_) ?_ rfl).trans ?_
 ·have JV:k<b.length:=by omega
  have h1:((k+1:Nat):Int)<(b.length:Int):=by omega
  have h2:decide (k+1<b.length)=true:=by grind
  simp only[rC,cT,ab (show k<9223372036854775807 by omega),AI,h1,BY,ag,AT,cN JV,cN hi,No,U,uO,Dw,rK,OZ,asInt,asBool,bX,aJ,Eg,h2,V2,mtB,asX];cases(decide (b[k].stop=s)&&b[k].ca)with
  |false=>rfl
  |true=>
   by_cases h:b[k].dep<a[i].arr
   ·simp only[h,BY,asq,aiI,cQ,IS];rfl
   ·simp only[h,BY,ass,asr,IS];rfl
 ·have hw:IntKind.i64.wrap (((b.length-1:Nat):Int)+1)=((b.length-1+1:Nat):Int):=ab (by omega);have h1:¬((b.length-1+1:Nat):Int)<(b.length:Int):=by omega
  simp only[rC,cT,hw,AI,IT h1];rfl
 ·have:=aw;omega
 ·rw[iu];have MU:(List.range b.length).find? (Eg b s)=(List.range (b.length-1)).find? (Eg b s):=by
   cases Uj:b.length with
   |zero=>rfl
   |succ n=>
    have JB:Eg b s n=false:=by unfold Eg;rw[Uj];simp
    simp_all[atv,List.find?_append,aus,List.find?_nil,Option.or_none,atr]
  rw[MU];cases(List.range (b.length-1)).find? (Eg b s)<;>rfl
theorem abH(a b:List aY)(ha:a.length<maxLen)(hb:b.length<maxLen)(s:Int):tp [.rs 5 (a.map aY.pv),.rs 5 (b.map aY.pv),.int .i64 s]=some (EO a b s):=by
 have hm:=ai;simp only[tp,D2,ao,asInt,BY,U];refine(aC (fun k=>(a.map aY.pv,b.map aY.pv,s,((k+1:Nat):Int),())) (a.length-1) (fun k=>if GA a s (k+1)=true then some (some (match(List.range b.length).find? (Eg b s)with|none=>abG|some j=>V2 (k+1) j (mtB a b (k+1) j)))else none) (fin:=some abG) (fun k hk rec=>?_) (fun rec=>?_) ?_ rfl).trans ?_
 ·have JV:k+1<a.length:=by omega
  have h1:((k+1:Nat):Int)<(a.length:Int):=by omega
  have h2:decide (0<k+1)=true:=by simp
  simp only[xV,cT,AI,h1,BY,ag,AT,cN JV,No,U,uO,O0,asInt,asBool,eC,ay,GA,h2,asX,ab (show k+1<9223372036854775807 by omega),age a b hb s (k+1) JV];cases decide (a[k+1].stop=s)<;>cases a[k+1].bC<;>rfl
 ·have h1:¬((a.length-1+1:Nat):Int)<(a.length:Int):=by omega
  simp only[xV,cT,AI,IT h1];rfl
 ·have:=aw;omega
 ·rw[iu (fun k=>GA a s (k+1))];unfold EO;cases N6:a.length with
  |zero=>rfl
  |succ n=>
   have h0:GA a s 0=false:=by rfl
   rw[aty,aus,h0,atr,List.find?_map];cases hf:(List.range n).find? (fun k=>GA a s (k+1))with
   |none=>have:(List.range n).find? (GA a s∘Nat.succ)=none:=hf;rw[this];rfl
   |some i=>have:(List.range n).find? (GA a s∘Nat.succ)=some i:=hf;rw[this];rfl
theorem agf(x:gC):cell x.pv 0=.int .i64 x.a:=rfl
theorem agh(x:gC):cell x.pv 1=.int .i64 x.b:=rfl
theorem agi(x:gC):cell x.pv 2=.int .i64 x.stop:=rfl
theorem apB(x:gC):PV.agg [.int .i64 x.a,.int .i64 x.b,.int .i64 x.stop]=x.pv:=rfl
theorem Tx(a b c:Int):mI (Kd.int .i64::[].append (Kd.int .i64::[].append (Kd.int .i64::[].append []))) [.int .i64 a,.int .i64 b,.int .i64 c]=true:=rfl
theorem M3(x y:gC):cz x.pv.cells y.pv.cells=decide (x=y):=by show cz [.int .i64 x.a,.int .i64 x.b,.int .i64 x.stop] [.int .i64 y.a,.int .i64 y.b,.int .i64 y.stop]=_;simp only[cz,peq,as7,bX];rw[asL];simp only[ao9,cT];cases x;cases y;simp
def HO(l:List gC)(ae:List br)(fs:List bl)(stops:Int)(k:Nat):Int:=match l[k]? with
 |none=>0
 |some x=>if(AL x.a x.b ae.length|| !I1 x.stop stops)=true then 9 else if tz fs x.a x.b=true then 17 else match ae[x.a.toNat]?,ae[x.b.toNat]? with
  |some p,some q=>if M1 p.calls q.calls x.stop=false then 19 else if x∈l.take k then 6 else 0
  |_,_=>0
def yX(l:List gC)(ae:List br)(fs:List bl)(stops:Int):Int×Int:=if l.length>128 then(0,5)else bV (HO l ae fs stops) l.length
theorem abI(l:List gC)(ae:List br)(fs:List bl)(stops:Int)(ht:ae.length≤maxLen∧∀y∈ae,y.Ok)(HF:∀y∈ae,y.calls.length≤40)(hf:fs.length≤maxLen):eK [.rs 3 (l.map gC.pv),.rs 5 (ae.map br.pv),.rs 4 (fs.map bl.pv),.int .i64 stops]=some (res (yX l ae fs stops).1 (yX l ae fs stops).2):=by
 have hm:=ai;have cZ:1000≤maxLen:=by decide
 simp only[eK,jY,ao,asInt,BY,U,AI];unfold yX;by_cases j4:l.length>128
 ·rw[IN (by simp;omega),IN j4];rfl
 ·rw[IT (by simp;omega),IT j4,←cW];refine aC (fun k=>(ae.map br.pv,fs.map bl.pv,stops,l.map gC.pv,(l.length:Int),(k:Int),seen gC.pv (l.take k),())) l.length _ (fun k hk rec=>?_) (fun rec=>?_) ?_ rfl
  ·have h1:(k:Int)<(l.length:Int):=by omega
   have uJ:l.take (k+1)=l.take k++[l[k]]:=(atg hk).symm;simp only[gL,cT,h1,BY,ag,AT,cN hk,No,U,agf,agh,agi,asInt,O8 _ _ ae fs hf,cg,aqP,ase,Nat.reduceAdd,abm,ahH,eC,ay,ab (show k<9223372036854775807 by omega),uJ,AI];unfold HO;rw[cN hk];simp only;generalize l[k]=x;have kM:(!I1 x.stop stops)=(decide (x.stop<0)||decide (x.stop≥stops)):=by unfold I1;grind
   rw[kM];cases hp:AL x.a x.b ae.length with
   |true=>rfl
   |false=>
    simp only[asr,asX,as5,cQ,IS,asq,aiI];cases(decide (x.stop<0)||decide (x.stop≥stops))with
    |true=>rfl
    |false=>
     cases hr:tz fs x.a x.b with
     |true=>rfl
     |false=>
      obtain⟨i,j,hi,hj,QD,ze⟩:=Kp x.a x.b ae hp;have xi:dA (ae.map br.pv) x.a=some ae[i].pv:=by rw[hi,ag,AT,cN QD];rfl
      have xj:dA (ae.map br.pv) x.b=some ae[j].pv:=by rw[hj,ag,AT,cN ze];rfl
      have ti:ae[x.a.toNat]?=some ae[i]:=by simp_all
      have tj:ae[x.b.toNat]?=some ae[j]:=by simp_all
      have hci:=HF _ (ar9 QD);have hcj:=HF _ (ar9 ze);have hmt:=V3 ae[i].calls ae[j].calls (by omega) (by omega) x.stop;obtain⟨n1,n2,hmp⟩:=Pa ae[i].calls ae[j].calls x.stop;have mA:cB x.pv (.bool false) (seen gC.pv (l.take k))=.bool (decide (x∈l.take k)):=eX M3 x _;have oK:dI x.pv (.bool true) (seen gC.pv (l.take k))=seen gC.pv (l.take k++[x]):=fV M3 x _;simp only[cQ,IS,asq,aiI,xi,xj,ti,tj,U,xD,ao,asInt,asBool,BY,hmt,hmp,cg,aqP,ase,Nat.reduceAdd,abm,ahH,Tx,apB,mA,oK];cases M1 ae[i].calls ae[j].calls x.stop with
      |false=>rfl
      |true=>
       by_cases bB:x∈l.take k
       ·simp only[bB,asq,BY,aiI,cQ,asj,IS];rfl
       ·simp only[bB,ass,aiI,cQ,asj,IS];rfl
  ·simp only[gL,cT,asf,IS];rfl
  grind [rounds,decide]
theorem agj(l:List gC)(hl:l.length≤1000)(ae:List br)(fs:List bl)(stops:Int)(HF:∀y∈ae,y.calls.length≤40)(hf:fs.length≤maxLen)(k:Nat)(hk:k<l.length):lZ [.rs 3 (l.map gC.pv),.int .i64 k,.rs 5 (ae.map br.pv),.rs 4 (fs.map bl.pv),.int .i64 stops]=some (.int .i64 (HO l ae fs stops k)):=by
 have hm:=ai;have cZ:1000≤maxLen:=by decide
 simp only[lZ,uB,ao,asInt,asBool,BY,U,ag,AT,cN hk,No,agf,agh,agi,aga,Zz fs hf,AI,ay,bX,eC];unfold HO;rw[cN hk];simp only;generalize hx:l[k]=x;have hpb:(!I1 x.a (ae.length:Int)|| !I1 x.b (ae.length:Int)||decide (x.a=x.b))=AL x.a x.b ae.length:=rfl;have hpr:(ER fs x.a||ER fs x.b)=tz fs x.a x.b:=rfl;rw[hpb,hpr];cases hp:AL x.a x.b ae.length with
 |true=>rfl
 |false=>
  cases hs:I1 x.stop stops with
  |false=>rfl
  |true=>
   cases hr:tz fs x.a x.b with
   |true=>rfl
   |false=>
    obtain⟨i,j,hi,hj,QD,ze⟩:=Kp x.a x.b ae hp;have xi:dA (ae.map br.pv) x.a=some ae[i].pv:=by rw[hi,ag,AT,cN QD];rfl
    have xj:dA (ae.map br.pv) x.b=some ae[j].pv:=by rw[hj,ag,AT,cN ze];rfl
    have ti:ae[x.a.toNat]?=some ae[i]:=by simp_all
    have tj:ae[x.b.toNat]?=some ae[j]:=by simp_all
    have hci:=HF _ (ar9 QD);have hcj:=HF _ (ar9 ze);have hmt:=abH ae[i].calls ae[j].calls (by omega) (by omega) x.stop;obtain⟨n1,n2,hmp⟩:=Pa ae[i].calls ae[j].calls x.stop;simp only[aiI,as4,cQ,IS,xi,xj,ti,tj,U,xD,ao,asInt,asBool,BY,hmt,hmp,cg,aqP,ase,Nat.reduceAdd,abm,ahH];cases M1 ae[i].calls ae[j].calls x.stop with
    |false=>rfl
    |true=>
     simp only[aiI,cQ,asj,IS];refine(dt (fun j=>(l.map gC.pv,(k:Int),(j:Int),PV.int .i64 x.a,PV.int .i64 x.b,PV.int .i64 x.stop,())) k (fun j=>decide (l[j]?=some x)) (no:=some (.int .i64 6)) (fin:=some (.int .i64 0)) (fun j hj rec=>?_) (fun rec=>?_) ?_ rfl).trans ?_
     ·have h1:(j:Int)<(k:Int):=by omega
      have ze:j<l.length:=by omega
      have Cb:cz [PV.int .i64 l[j].a,.int .i64 l[j].b,.int .i64 l[j].stop] [.int .i64 x.a,.int .i64 x.b,.int .i64 x.stop]=decide (l[j]=x):=M3 l[j] x;simp only[pf,cT,h1,BY,ag,AT,cN ze,No,U,agf,agh,agi,Tx,auU,Cb,ab (show j<9223372036854775807 by omega),cO]
     ·simp[pf,cT,asf,IS]
     ·grind [rounds,decide]
     ·rw[jf l k (by omega)];grind
theorem agk(l:List gC)(ae:List br)(fs:List bl)(stops:Int)(HF:∀y∈ae,y.calls.length≤40)(hf:fs.length≤maxLen):fL [.rs 3 (l.map gC.pv),.rs 5 (ae.map br.pv),.rs 4 (fs.map bl.pv),.int .i64 stops]=some (res (yX l ae fs stops).1 (yX l ae fs stops).2):=by
 have hm:=ai;simp only[fL,lH,ao,asInt,BY,U,AI];unfold yX;by_cases j4:l.length>128
 ·rw[IN (by simp;omega),IN j4];rfl
 ·rw[IT (by simp;omega),IT j4,←cW];refine aC (fun k=>(l.map gC.pv,ae.map br.pv,fs.map bl.pv,stops,(k:Int),())) l.length _ (fun k hk rec=>?_) (fun rec=>?_) ?_ rfl
  ·have h1:(k:Int)<(l.length:Int):=by omega
   simp only[iS,cT,AI,h1,BY,agj l (by omega) ae fs stops HF hf k hk,U,asInt,ab (show k<9223372036854775807 by omega),eC];grind [HO,Dx,bK,res]
  ·simp only[iS,cT,AI,asf,IS];rfl
  grind [rounds,decide]
def yQ(T:az):Nat→Int×Int
 |0=>fE T.stops
 |1=>eM T.aj
 |2=>Eb T.dm
 |3=>Ec T.jJ T.dm.length
 |4=>s9 T.ae T.stops.length T.aj.length T.dm.length
 |5=>ta T.bU T.ae
 |6=>Ef T.uZ T.ae T.bU
 |7=>yX T.lN T.ae T.bU T.stops.length
 |8=>yW T.paths T.stops.length
 |_=>cJ T.aK T.bn T.within T.cap
def tX(p i e:Int):PV:=.aG [.int .i64 p,.int .i64 i,.int .i64 e]
def sJ(T:az)(p:Nat):Option (Option PV):=if(yQ T p).2=0 then none else some (some (tX p (yQ T p).1 (yQ T p).2))
theorem ttA(T:az):asAgg 13 T.pv=some ():=rfl
theorem tt0(T:az):cell T.pv 0=.rs 4 (T.stops.map Stop.pv):=rfl
theorem tt1(T:az):cell T.pv 1=.rs 3 (T.aj.map ax.pv):=rfl
theorem tt2(T:az):cell T.pv 2=.rs 10 (T.dm.map mJ.pv):=rfl
theorem tt3(T:az):cell T.pv 3=.rs 3 (T.jJ.map pE.pv):=rfl
theorem tt4(T:az):cell T.pv 4=.rs 5 (T.ae.map br.pv):=rfl
theorem tt5(T:az):cell T.pv 5=.rs 4 (T.bU.map bl.pv):=rfl
theorem tt6(T:az):cell T.pv 6=.rs 2 (T.uZ.map iG.pv):=rfl
theorem tt7(T:az):cell T.pv 7=.rs 3 (T.lN.map gC.pv):=rfl
theorem tt8(T:az):cell T.pv 8=.rs 4 (T.paths.map Path.pv):=rfl
theorem tt9(T:az):cell T.pv 9=.rs 6 (T.aK.map aM.pv):=rfl
theorem LK(T:az):cell T.pv 10=.int .i64 T.bn:=rfl
theorem LL(T:az):cell T.pv 11=.int .i64 T.within:=rfl
theorem LM(T:az):cell T.pv 12=.int .i64 T.cap:=rfl
theorem ttF(l:List aM)(a b c:Int):PV.agg [.rs 6 (l.map aM.pv),.int .i64 a,.int .i64 b,.int .i64 c]=dp l a b c:=rfl
theorem ttE(T:az):PV.agg [.rs 4 (T.stops.map Stop.pv),.rs 3 (T.aj.map ax.pv),.rs 10 (T.dm.map mJ.pv),.rs 3 (T.jJ.map pE.pv),.rs 5 (T.ae.map br.pv),.rs 4 (T.bU.map bl.pv),.rs 2 (T.uZ.map iG.pv),.rs 3 (T.lN.map gC.pv),.rs 4 (T.paths.map Path.pv),.rs 6 (T.aK.map aM.pv),.int .i64 T.bn,.int .i64 T.within,.int .i64 T.cap]=T.pv:=rfl
def Small(T:az):Prop:=∀y∈T.ae,y.calls.length≤40
theorem agl(T:az)(hT:T.Ok)(hs:Small T)(p:Nat)(hp:p<10):vE [T.pv,.int .i64 p]=some (res (yQ T p).1 (yQ T p).2):=by
 have h0:=afX T.stops hT.stops;have h1:=abu T.aj hT.aj;have h2:=ahU T.dm hT.dm;have h3:=ahV T.jJ T.dm.length hT.jJ;have h4:=af1 T.ae T.stops.length T.aj.length T.dm.length hT.ae;have h5:=af6 T.bU T.ae hT.ae hs hT.bU.1;have h6:=ah1 T.uZ T.ae T.bU hT.ae hT.bU.1;have h7:=agk T.lN T.ae T.bU T.stops.length hs hT.bU.1;have h8:=af3 T.paths T.stops.length hT.paths.1;have h9:=VX T.aK T.bn T.within T.cap hT.aK;simp only[res]at h0 h1 h2 h3 h4 h5 h6 h7 h8 h9;simp only[vE,Gv,ttA,tt0,tt1,tt2,tt3,tt4,tt5,tt6,tt7,tt8,tt9,LK,LL,LM,ao,asInt,BY,U,AI,ttF,h0,h1,h2,h3,h4,h5,h6,h7,h8,h9,cg,aqP,ase,Nat.reduceAdd,abm,ahH];match p,hp with
 |0,_=>rfl
 |1,_=>rfl
 |2,_=>rfl
 |3,_=>rfl
 |4,_=>rfl
 |5,_=>rfl
 |6,_=>rfl
 |7,_=>rfl
 |8,_=>rfl
 |9,_=>rfl
theorem aaC(T:az)(hT:T.Ok)(hs:Small T):tx [T.pv]=bK ((List.range 10).findSome? (sJ T)) (some (tX 0 0 0)):=by
 simp only[tx,D7,ttA,tt0,tt1,tt2,tt3,tt4,tt5,tt6,tt7,tt8,tt9,LK,LL,LM,ao,asInt,BY,U];refine aC (fun k=>((k:Int),T.stops.map Stop.pv,T.aj.map ax.pv,T.dm.map mJ.pv,T.jJ.map pE.pv,T.ae.map br.pv,T.bU.map bl.pv,T.uZ.map iG.pv,T.lN.map gC.pv,T.paths.map Path.pv,T.aK.map aM.pv,T.bn,T.within,T.cap,())) 10 _ (fun k hk rec=>?_) (fun rec=>?_) ?_ rfl
 ·have h1:(k:Int)<10:=by omega
  have hp:=agl T hT hs k hk;simp only[res]at hp;simp only[Ea,cT,h1,BY,ttE,hp,U,cg,asInt,aqP,ase,Nat.reduceAdd,abm,ahH,eC,ab (show k<9223372036854775807 by omega),sJ];grind [yQ,bK,tX]
 ·rfl
 decide
theorem UO(T:az)(hT:T.Ok)(hs:Small T):ir [T.pv]=bK ((List.range 10).findSome? (sJ T)) (some (tX 0 0 0)):=by
 have h0:=OM T.stops hT.stops;have h1:=Mk T.aj hT.aj;have h2:=afY T.dm hT.dm;have h3:=afZ T.jJ T.dm.length hT.jJ;have h4:=abx T.ae T.stops.length T.aj.length T.dm.length hT.ae;have h5:=abE T.bU T.ae hT.ae hs hT.bU.1;have h6:=agb T.uZ T.ae T.bU hT.ae hT.bU.1;have h7:=abI T.lN T.ae T.bU T.stops.length hT.ae hs hT.bU.1;have h8:=abz T.paths T.stops.length hT.paths.1;have h9:=BA T.aK T.bn T.within T.cap hT.aK;simp only[res]at h0 h1 h2 h3 h4 h5 h6 h7 h8 h9;have w1:IntKind.i64.wrap (0+1)=1:=by rfl
 have w2:IntKind.i64.wrap (1+1)=2:=by rfl
 have w3:IntKind.i64.wrap (2+1)=3:=by rfl
 have w4:IntKind.i64.wrap (3+1)=4:=by rfl
 have w5:IntKind.i64.wrap (4+1)=5:=by rfl
 have w6:IntKind.i64.wrap (5+1)=6:=by rfl
 have w7:IntKind.i64.wrap (6+1)=7:=by rfl
 have w8:IntKind.i64.wrap (7+1)=8:=by rfl
 have w9:IntKind.i64.wrap (8+1)=9:=by rfl
 simp only[ir,uz,jn,qe,jo,qm,jq,qf,jr,qn,jt,qg,ju,qj,jw,qk,jx,qo,jy,qi,iB,oO,ttA,tt0,tt1,tt2,tt3,tt4,tt5,tt6,tt7,tt8,tt9,LK,LL,LM,ao,asInt,BY,U,AI,ttF,h0,h1,h2,h3,h4,h5,h6,h7,h8,h9,cg,aqP,ase,Nat.reduceAdd,abm,ahH,w1,w2,w3,w4,w5,w6,w7,w8,w9,eC];have hr:List.range 10=[0,1,2,3,4,5,6,7,8,9]:=by rfl
 rw[hr];simp only[asW,auF,sJ,yQ,tX];generalize fE T.stops=r0;generalize eM T.aj=r1;generalize Eb T.dm=r2;generalize Ec T.jJ T.dm.length=r3;generalize s9 T.ae T.stops.length T.aj.length T.dm.length=r4;generalize ta T.bU T.ae=r5;generalize Ef T.uZ T.ae T.bU=r6;generalize yX T.lN T.ae T.bU T.stops.length=r7;generalize yW T.paths T.stops.length=r8;generalize cJ T.aK T.bn T.within T.cap=r9;by_cases e0:r0.2=0;rotate_left
 ·simp[e0,bK]
 by_cases e1:r1.2=0;rotate_left
 ·simp[e0,e1,bK]
 by_cases e2:r2.2=0;rotate_left
 ·simp[e0,e1,e2,bK]
 by_cases e3:r3.2=0;rotate_left
 ·simp[e0,e1,e2,e3,bK]
 by_cases e4:r4.2=0;rotate_left
 ·simp[e0,e1,e2,e3,e4,bK]
 by_cases e5:r5.2=0;rotate_left
 ·simp[e0,e1,e2,e3,e4,e5,bK]
 by_cases e6:r6.2=0;rotate_left
 ·simp_all[bK]
 by_cases e7:r7.2=0;rotate_left
 ·simp_all[bK]
 by_cases e8:r8.2=0;rotate_left
 ·simp_all[bK]
 by_cases e9:r9.2=0;rotate_left
 ·simp_all[bK]
 simp_all[bK]
end Go.Ab.Tt
