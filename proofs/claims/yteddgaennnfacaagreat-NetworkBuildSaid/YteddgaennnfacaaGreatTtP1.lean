import Derived.Test.YteddgaennnfacaaGreatNkP2
import Derived.Test.YteddgaennnfacaaGreatSh3
namespace Go.Ab.Tt
set_option maxRecDepth 100000
set_option linter.all false
theorem Pz(s:Bytes)(hs:s.length≤maxLen):l7 [.str s]=some (.bool (eo s)):=by
 have hm:=al;simp only[l7,Bc,aT,U,aL];refine B3 s hs (fun k hk rec=>?_) (fun rec=>?_) ?_
 ·have h1:(k:Int)<(s.length:Int):=by omega
  simp only[ve,AT,h1,IT,AO,AI hk,U,bt,aL,af (show k<9223372036854775807 by omega),dy];grind [jI,ge_iff_le,decide]
 ·simp[ve,AT,alk,Wi]
 grind
theorem RW(s:Bytes)(hs:s.length≤maxLen):ju [.str s]=some (.bool (eo s)):=by
 have hm:=al;simp only[ju,qo,aT,U,aL];refine B3 s hs (fun k hk rec=>?_) (fun rec=>?_) ?_
 ·have h1:(k:Int)<(s.length:Int):=by omega
  simp only[lK,AT,h1,IT,AO,AI hk,U,bt,aL,af (show k<9223372036854775807 by omega),cd];grind [jI,ge_iff_le,decide]
 ·simp[lK,AT,alk,Wi]
 grind
theorem ER(s:Bytes)(hs:s.length≤maxLen):pz [.str s]=some (.bool (eo s)):=by
 have hm:=al;simp only[pz,Dv,aT,U,aL];refine B3 s hs (fun k hk rec=>?_) (fun rec=>?_) ?_
 ·have h1:(k:Int)<(s.length:Int):=by omega
  simp only[xr,AT,h1,IT,AO,AI hk,U,bt,aL,af (show k<9223372036854775807 by omega),cd];grind [jI,ge_iff_le,decide]
 ·simp[xr,AT,alk,Wi]
 grind
theorem Wq(l:List Stop)(hl:l.length≤maxLen)(s:Bytes):tx [.rs 4 (l.map Stop.pv),.str s]=some (.int .i64 (EP (l.map Stop.id) s)):=by
 have hm:=al;simp only[tx,Du,ah,aT,IT,U];refine(au (fun k=>(l.map Stop.pv,s,(k:Int),())) l.length (fun k=>if decide ((l.map Stop.id)[k]?=some s)=true then some (some (.int .i64 k))else none) (fin:=some (.int .i64 (-1))) (fun k hk rec=>?_) (fun rec=>?_) ?_ rfl).trans ?_
 ·have h1:(k:Int)<(l.length:Int):=by omega
  simp only[xq,AT,BY,h1,IT,ab,IS,AI hk,No,U,Stop.pv,cell,PV.cells,adz,aT,af (show k<9223372036854775807 by omega),cd,By];grind [bu]
 ·simp[xq,AT,BY,alk,Wi]
 ·have:=aq;omega
 ·rw[fM];unfold EP;simp only[BY];cases(List.range l.length).find? fun k=>decide ((l.map Stop.id)[k]?=some s)<;>rfl
theorem aaX(l:List Stop)(hl:l.length≤maxLen∧∀y∈l,y.Ok):qY [.rs 4 (l.map Stop.pv)]=some (res (fb l).1 (fb l).2):=by
 have hm:=al;simp only[qY,Bb,ah,IT,U,BY];unfold fb;by_cases gW:l.length>64
 ·rw[T0 (by simp;omega),T0 gW];rfl
 ·rw[acB (by simp;omega),acB gW,←cP];refine au (fun k=>(l.map Stop.pv,(k:Int),())) l.length _ (fun k hk rec=>?_) (fun rec=>?_) ?_ rfl
  ·have h1:(k:Int)<(l.length:Int):=by omega
   have hid:=RW l[k].id (hl.2 _ (alj hk)).id;have JD:=Wq l hl.1 l[k].id;have bQ:=acL (l.map Stop.id) k (by simpa using hk);simp only[List.getElem_map]at bQ;simp only[vd,AT,BY,h1,IT,ab,IS,AI hk,No,U,Stop.pv,cell,PV.cells,adz,aiJ,aT,asInt,asBool,hid,JD,aL,af (show k<9223372036854775807 by omega)];unfold Hi;rw[AI hk];simp only;generalize (decide (l[k].zM<0)||decide (l[k].zM≥16)||decide (l[k].change<0)||decide (l[k].change>3600))=c;cases eo l[k].id with
   |false=>rfl
   |true=>
    by_cases bk:l[k].id∈(l.map Stop.id).take k
    ·simp only[bQ.2 bk,bk,IT,alc,IN,alp,Wi];rfl
    ·have hn:¬EP (l.map Stop.id) l[k].id<(k:Int):=fun h=>bk (bQ.1 h);simp only[hn,bk,IT,alc,IN,alp,Wi];cases c<;>rfl
  ·simp only[vd,AT,BY,alk,Wi];rfl
  ·have:=aq;omega
theorem PA(l:List az)(hl:l.length≤maxLen)(i:Nat)(hi:i<l.length)(gm:List PV×Int×Unit→Option PV):aX.run (pA gm) (l.map az.pv,(i:Int),0,())=if l[i].id∈(l.map az.id).take i then some (res i 6)else if(decide (l[i].mode≥0)&&decide (l[i].mode<8))=false then some (res i 2)else gm (l.map az.pv,IntKind.i64.wrap ((i:Int)+1),()):=by
 have hm:=al;refine(au (fun k=>(l.map az.pv,(i:Int),(k:Int),())) i (fun k=>if decide ((l.map az.id)[k]?=some l[i].id)=true then some (some (res i 6))else none) (fin:=if(decide (l[i].mode≥0)&&decide (l[i].mode<8))=false then some (res i 2)else gm (l.map az.pv,IntKind.i64.wrap ((i:Int)+1),())) (fun k hk rec=>?_) (fun rec=>?_) ?_ rfl).trans ?_
 ·have h1:(k:Int)<(i:Int):=by omega
  have ko:k<l.length:=by omega
  simp only[pA,AT,h1,IT,ab,IS,AI ko,AI hi,No,U,az.pv,cell,PV.cells,adz,aT,af (show k<9223372036854775807 by omega),cd,By];grind [bu,res]
 ·simp only[pA,AT,alk,Wi,ab,IS,AI hi,No,U,az.pv,cell,PV.cells,adz,aiJ,asInt,asBool,IT,zo,Dw,bt];generalize (decide (l[i].mode≥0)&&decide (l[i].mode<8))=c;cases c<;>rfl
 ·have:=aq;omega
 ·rw[fM];cases hf:(List.range i).find? fun k=>decide ((l.map az.id)[k]?=some l[i].id)with
  |none=>
   have hn:l[i].id∉(l.map az.id).take i:=fun bk=>by obtain⟨j,hj⟩:=als.1 bk;grind
   rw[acB hn];rfl
  |some j=>rw[ano]at hf;obtain⟨h1,h2,_⟩:=hf;have bk:l[i].id∈(l.map az.id).take i:=als.2 ⟨j,by simp_all⟩;rw[T0 bk];rfl
theorem Wr(l:List az)(hl:l.length≤maxLen∧∀y∈l,y.Ok):q7 [.rs 3 (l.map az.pv)]=some (res (dR l).1 (dR l).2):=by
 have hm:=al;simp only[q7,Be,ah,IT,U,BY];unfold dR;by_cases gW:l.length>64
 ·rw[T0 (by simp;omega),T0 gW];rfl
 ·rw[acB (by simp;omega),acB gW,←cP];refine au (fun k=>(l.map az.pv,(k:Int),())) l.length _ (fun k hk rec=>?_) (fun rec=>?_) ?_ rfl
  ·have h1:(k:Int)<(l.length:Int):=by omega
   have hid:=ER l[k].id (hl.2 _ (alj hk)).id;have pV:=PA l hl.1 k hk rec;have nq:cell (l[k].pv) 0=.str l[k].id:=rfl;simp only[vg,AT,BY,h1,IT,ab,IS,AI hk,No,U,nq,aT,asBool,hid,pV,af (show k<9223372036854775807 by omega)];unfold Eu;rw[AI hk];simp only;generalize (decide (l[k].mode≥0)&&decide (l[k].mode<8))=c;cases eo l[k].id with
   |false=>rfl
   |true=>
    by_cases bk:l[k].id∈(l.map az.id).take k
    ·simp only[bk,IT,alc,IN,alp,Wi];rfl
    ·simp only[bk,IT,alc,IN,alp,Wi];cases c<;>rfl
  ·simp only[vg,AT,BY,alk,Wi];rfl
  ·have:=aq;omega
def dv(n:Int):Bool:=decide (0≤n)&&decide (n≤36524)
theorem Uo(n:Int):df [.int .i64 n]=some (.bool (dv n)):=by simp only[df,yY,asInt,IT,U,bt];rfl
theorem PB(n:Int):dO [.int .i64 n]=some (.bool (dv n)):=by simp only[dO,vR,asInt,IT,U,bt];rfl
def RX(l:List oX)(k:Nat):Int:=match l[k]? with
 |none=>0
 |some x=>if eo x.id=false then 12 else if x.id∈(l.map oX.id).take k then 6 else if(!dv x.zN|| !dv x.zO||decide (x.zN>x.zO))=true then 11 else 0
def BA(l:List oX):Int×Int:=if l.length>64 then(0,5)else bJ (RX l) l.length
theorem afT(x:oX):cell x.pv 0=.str x.id:=rfl
theorem VY(x:oX):cell x.pv 8=.int .i64 x.zN:=rfl
theorem VZ(x:oX):cell x.pv 9=.int .i64 x.zO:=rfl
theorem aaY(l:List oX)(hl:l.length≤maxLen∧∀y∈l,y.Ok):lr [.rs 10 (l.map oX.pv)]=some (res (BA l).1 (BA l).2):=by
 have hm:=al;simp only[lr,uP,ah,IT,U,BY];unfold BA;by_cases gW:l.length>64
 ·rw[T0 (by simp;omega),T0 gW];rfl
 ·rw[acB (by simp;omega),acB gW,←cP];refine au (fun k=>(l.map oX.pv,(l.length:Int),(k:Int),seen PV.str ((l.map oX.id).take k),())) l.length _ (fun k hk rec=>?_) (fun rec=>?_) ?_ rfl
  ·have h1:(k:Int)<(l.length:Int):=by omega
   have hid:=xV l[k].id (hl.2 _ (alj hk)).id;have mJ:=fy qE l[k].id ((l.map oX.id).take k);have jY:=eF qE l[k].id ((l.map oX.id).take k);simp only[pq,AT,h1,IT,ab,IS,AI hk,No,U,afT,VY,VZ,aT,asInt,asBool,hid,mJ,jY,Uo,af (show k<9223372036854775807 by omega),jC oX.id l k hk];unfold RX;rw[AI hk];simp only;cases eo l[k].id with
   |false=>rfl
   |true=>
    by_cases bk:l[k].id∈(l.map oX.id).take k
    ·simp only[bk,IT,alc,IN,alp,Wi];rfl
    ·simp only[bk,IT,alc,IN,alp,Wi];by_cases hgt:l[k].zN>l[k].zO
     ·simp only[hgt,alB,aou,IT];cases dv l[k].zN<;>cases dv l[k].zO<;>rfl
     ·simp only[hgt,alw,amg,Wi];cases dv l[k].zN<;>cases dv l[k].zO<;>rfl
  ·simp only[pq,AT,alk,Wi];rfl
  ·have:=aq;omega
theorem Ws(l:List oX)(hl:l.length≤maxLen)(i:Nat)(hi:i<l.length)(gm:List PV×Int×Unit→Option PV):aX.run (pw gm) (l.map oX.pv,(i:Int),0,())=if l[i].id∈(l.map oX.id).take i then some (res i 6)else if(!dv l[i].zN|| !dv l[i].zO||decide (l[i].zN>l[i].zO))=true then some (res i 11)else gm (l.map oX.pv,IntKind.i64.wrap ((i:Int)+1),()):=by
 have hm:=al;refine(cQ (fun k=>(l.map oX.pv,(i:Int),(k:Int),())) i (fun k=>decide ((l.map oX.id)[k]?=some l[i].id)) (no:=some (res i 6)) (fin:=if(!dv l[i].zN|| !dv l[i].zO||decide (l[i].zN>l[i].zO))=true then some (res i 11)else gm (l.map oX.pv,IntKind.i64.wrap ((i:Int)+1),())) (fun k hk rec=>?_) (fun rec=>?_) ?_ rfl).trans ?_
 ·have h1:(k:Int)<(i:Int):=by omega
  have ko:k<l.length:=by omega
  simp only[pw,AT,h1,IT,ab,IS,AI ko,AI hi,No,U,afT,aT,af (show k<9223372036854775807 by omega),cd,By];rfl
 ·simp only[pw,AT,alk,Wi,ab,IS,AI hi,No,U,VY,VZ,asInt,asBool,IT,PB,aL];rfl
 ·have:=aq;omega
 ·rw[gB _ _ (by simp;omega)];simp_all
theorem acN(l:List oX)(hl:l.length≤maxLen∧∀y∈l,y.Ok):qZ [.rs 10 (l.map oX.pv)]=some (res (BA l).1 (BA l).2):=by
 have hm:=al;simp only[qZ,Bd,ah,IT,U,BY];unfold BA;by_cases gW:l.length>64
 ·rw[T0 (by simp;omega),T0 gW];rfl
 ·rw[acB (by simp;omega),acB gW,←cP];refine au (fun k=>(l.map oX.pv,(k:Int),())) l.length _ (fun k hk rec=>?_) (fun rec=>?_) ?_ rfl
  ·have h1:(k:Int)<(l.length:Int):=by omega
   have hid:=Pz l[k].id (hl.2 _ (alj hk)).id;have pV:=Ws l hl.1 k hk rec;simp only[vf,AT,BY,h1,IT,ab,IS,AI hk,No,U,afT,aT,asBool,hid,pV,af (show k<9223372036854775807 by omega)];unfold RX;rw[AI hk];simp only;generalize (!dv l[k].zN|| !dv l[k].zO||decide (l[k].zN>l[k].zO))=c;cases eo l[k].id with
   |false=>rfl
   |true=>
    by_cases bk:l[k].id∈(l.map oX.id).take k
    ·simp only[bk,IT,alc,IN,alp,Wi];rfl
    ·simp only[bk,IT,alc,IN,alp,Wi];cases c<;>rfl
  ·simp only[vf,AT,BY,alk,Wi];rfl
  ·have:=aq;omega
def jw(x:sN):Int×Int:=(x.vU,x.day)
def RY(l:List sN)(n:Int)(k:Nat):Int:=match l[k]? with
 |none=>0
 |some x=>if(decide (x.vU<0)||decide (x.vU≥n))=true then 9 else if dv x.day=false then 11 else if jw x∈(l.map jw).take k then 6 else 0
def BB(l:List sN)(n:Int):Int×Int:=if l.length>256 then(0,5)else bJ (RY l n) l.length
def F3(x:Int×Int):PV:=.agg [.int .i64 x.1,.int .i64 x.2]
theorem PC(a b:Int×Int):bM (F3 a).cells (F3 b).cells=decide (a=b):=by obtain⟨a1,a2⟩:=a;obtain⟨b1,b2⟩:=b;rw[alE];simp[F3,PV.cells,bM,peq]
theorem aas(x:sN):cell x.pv 0=.int .i64 x.vU:=rfl
theorem aat(x:sN):cell x.pv 1=.int .i64 x.day:=rfl
theorem aaZ(l:List sN)(n:Int)(hl:l.length≤maxLen∧∀y∈l,y.Ok):dX [.rs 3 (l.map sN.pv),.int .i64 n]=some (res (BB l n).1 (BB l n).2):=by
 have hm:=al;simp only[dX,gP,ah,asInt,IT,U,BY];unfold BB;by_cases gW:l.length>256
 ·rw[T0 (by simp;omega),T0 gW];rfl
 ·rw[acB (by simp;omega),acB gW,←cP];refine au (fun k=>(n,l.map sN.pv,(l.length:Int),(k:Int),seen F3 ((l.map jw).take k),())) l.length _ (fun k hk rec=>?_) (fun rec=>?_) ?_ rfl
  ·have h1:(k:Int)<(l.length:Int):=by omega
   have mJ:dm (.agg [.int .i64 l[k].vU,.int .i64 l[k].day]) (.bool true) (seen F3 ((l.map jw).take k))=_:=fy PC (jw l[k]) ((l.map jw).take k);have jY:bS (.agg [.int .i64 l[k].vU,.int .i64 l[k].day]) (.bool false) (seen F3 ((l.map jw).take k))=_:=eF PC (jw l[k]) ((l.map jw).take k);simp only[fI,AT,h1,IT,ab,IS,AI hk,No,U,aas,aat,asInt,asBool,mJ,jY,Uo,aL,af (show k<9223372036854775807 by omega),jC jw l k hk];unfold RY;rw[AI hk];simp only;generalize (decide (l[k].vU<0)||decide (l[k].vU≥n))=c;by_cases bk:jw l[k]∈(l.map jw).take k
   ·simp only[bk,IT];cases c<;>cases dv l[k].day<;>rfl
   ·simp only[bk,Wi];cases c<;>cases dv l[k].day<;>rfl
  ·simp only[fI,AT,alk,Wi];rfl
  ·have:=aq;omega
theorem Wt(l:List sN)(n:Int)(hl:l.length≤maxLen)(i:Nat)(hi:i<l.length)(sC:List PV×Int×Int×Unit→Option PV):aX.run (eO sC) (l.map sN.pv,n,(i:Int),0,())=if jw l[i]∈(l.map jw).take i then some (res i 6)else sC (l.map sN.pv,n,IntKind.i64.wrap ((i:Int)+1),()):=by
 have hm:=al;refine(cQ (fun k=>(l.map sN.pv,n,(i:Int),(k:Int),())) i (fun k=>decide ((l.map jw)[k]?=some (jw l[i]))) (no:=some (res i 6)) (fin:=sC (l.map sN.pv,n,IntKind.i64.wrap ((i:Int)+1),())) (fun k hk rec=>?_) (fun rec=>?_) ?_ rfl).trans ?_
 ·have h1:(k:Int)<(i:Int):=by omega
  have ko:k<l.length:=by omega
  simp only[eO,AT,h1,IT,ab,IS,AI ko,AI hi,No,U,aas,aat,asInt,af (show k<9223372036854775807 by omega),cd,bt,By,jw,akj,ale];rfl
 ·simp[eO,AT,alk,Wi]
 ·have:=aq;omega
 ·rw[gB _ _ (by simp;omega)];simp_all
theorem acO(l:List sN)(n:Int)(hl:l.length≤maxLen∧∀y∈l,y.Ok):fi [.rs 3 (l.map sN.pv),.int .i64 n]=some (res (BB l n).1 (BB l n).2):=by
 have hm:=al;simp only[fi,jR,ah,asInt,IT,U,BY];unfold BB;by_cases gW:l.length>256
 ·rw[T0 (by simp;omega),T0 gW];rfl
 ·rw[acB (by simp;omega),acB gW,←cP];refine au (fun k=>(l.map sN.pv,n,(k:Int),())) l.length _ (fun k hk rec=>?_) (fun rec=>?_) ?_ rfl
  ·have h1:(k:Int)<(l.length:Int):=by omega
   have pV:=Wt l n hl.1 k hk rec;simp only[gR,AT,BY,h1,IT,ab,IS,AI hk,No,U,aas,aat,asInt,asBool,pV,PB,aL,af (show k<9223372036854775807 by omega)];unfold RY;rw[AI hk];simp only;generalize (decide (l[k].vU<0)||decide (l[k].vU≥n))=c;by_cases bk:jw l[k]∈(l.map jw).take k
   ·simp only[bk,IT];cases c<;>cases dv l[k].day<;>rfl
   ·simp only[bk,Wi];cases c<;>cases dv l[k].day<;>rfl
  ·simp only[gR,AT,BY,alk,Wi];rfl
  ·have:=aq;omega
theorem RZ(l:List aF)(stops:Int)(hl:l.length≤maxLen):q8 [.rs 5 (l.map aF.pv),.int .i64 stops]=some (.int .i64 (gf l stops 0 172800).2):=by
 have hm:=al;simp only[q8,Bf,ah,asInt,IT,U,BY,aL];unfold gf;split
 ·rfl
 ·rw[←I5];refine au (fun k=>(l.map aF.pv,stops,(k:Int),())) l.length _ (fun k hk rec=>?_) (fun rec=>?_) ?_ rfl
  ·have h1:(k:Int)<(l.length:Int):=by omega
   simp only[vh,AT,BY,h1,IT,ab,IS,AI hk,No,U,pK,vK,lY,asInt,aL,af (show k<9223372036854775807 by omega)];unfold vH Ej;rw[AI hk];simp only;cases k with
   |zero=>
    have h0:decide (((0:Nat):Int)>0)=false:=by rfl
    simp only[h0,cond_false,U,aL,amg,Ek];generalize (decide (l[0].stop<0)||decide (l[0].stop≥stops))=A;generalize (decide (l[0].arr<0)||decide (l[0].arr>l[0].dep)||decide (l[0].dep>172800))=B;cases A<;>cases B<;>rfl
   |succ j=>
    have h0:decide (((j+1:Nat):Int)>0)=true:=by simp
    have hj:j<l.length:=by omega
    have hc:decide (l[j+1].stop=l[j].stop)=decide (l[j].stop=l[j+1].stop):=by grind
    simp only[h0,cond_true,U,B4 j (by omega),ab,IS,AI hj,No,pK,lY,asInt,IT,Ek,cd,aL,hc];generalize (decide (l[j+1].stop<0)||decide (l[j+1].stop≥stops))=A;generalize (decide (l[j+1].arr<0)||decide (l[j+1].arr>l[j+1].dep)||decide (l[j+1].dep>172800))=B;generalize decide (l[j].stop=l[j+1].stop)=C;generalize decide (l[j+1].arr<l[j].dep)=D;cases A<;>cases B<;>cases C<;>cases D<;>rfl
  ·simp[vh,AT,BY,alk,Wi]
  ·have:=aq;omega
theorem pN(x:bn):cell x.pv 0=.str x.id:=rfl
theorem rN(x:bn):cell x.pv 1=.int .i64 x.bV:=rfl
theorem pO(x:bn):cell x.pv 2=.int .i64 x.vU:=rfl
theorem lZ(x:bn):cell x.pv 4=.rs 5 (x.calls.map aF.pv):=rfl
def yM(l:List bn)(stops ai dL:Int)(k:Nat):Int:=match l[k]? with
 |none=>0
 |some x=>if eo x.id=false then 12 else if x.id∈(l.map bn.id).take k then 6 else if(decide (x.bV<0)||decide (x.bV≥ai)||decide (x.vU<0)||decide (x.vU≥dL))=true then 9 else(gf x.calls stops 0 172800).2
def mf(l:List bn)(stops ai dL:Int):Int×Int:=if l.length>256 then(0,5)else bJ (yM l stops ai dL) l.length
theorem Wu(l:List bn)(stops ai dL:Int)(hl:l.length≤maxLen∧∀y∈l,y.Ok):tw [.rs 5 (l.map bn.pv),.int .i64 stops,.int .i64 ai,.int .i64 dL]=some (res (mf l stops ai dL).1 (mf l stops ai dL).2):=by
 have hm:=al;simp only[tw,Dr,ah,asInt,IT,U,BY];unfold mf;by_cases gW:l.length>256
 ·rw[T0 (by simp;omega),T0 gW];rfl
 ·rw[acB (by simp;omega),acB gW,←cP];refine au (fun k=>(stops,ai,dL,l.map bn.pv,(l.length:Int),(k:Int),seen PV.str ((l.map bn.id).take k),())) l.length _ (fun k hk rec=>?_) (fun rec=>?_) ?_ rfl
  ·have h1:(k:Int)<(l.length:Int):=by omega
   have hid:=xV l[k].id (hl.2 _ (alj hk)).id;have mJ:=fy qE l[k].id ((l.map bn.id).take k);have jY:=eF qE l[k].id ((l.map bn.id).take k);have sM:=Lh l[k].calls stops 0 172800 (hl.2 _ (alj hk)).calls.1;simp only[res]at sM;simp only[xp,AT,h1,IT,ab,IS,AI hk,No,U,pN,rN,pO,lZ,aT,asInt,asBool,ah,hid,mJ,jY,sM,bR,aiK,alh,Nat.reduceAdd,adz,aiJ,aL,af (show k<9223372036854775807 by omega),jC bn.id l k hk,dy];unfold yM;rw[AI hk];simp only;generalize (gf l[k].calls stops 0 172800).2=e;cases eo l[k].id with
   |false=>rfl
   |true=>
    by_cases bk:l[k].id∈(l.map bn.id).take k
    ·simp only[bk,IT,alc,IN,alp,Wi];rfl
    ·simp only[bk,IT,alc,IN,alp,Wi];cases decide (l[k].bV<0)<;>cases decide (l[k].bV≥ai)<;>cases decide (l[k].vU<0)<;>cases decide (l[k].vU≥dL)<;>(try rfl);grind [AU,bu,res]
  ·simp only[xp,AT,alk,Wi];rfl
  ·have:=aq;omega
theorem Wv(l:List bn)(hl:l.length≤maxLen)(s:Bytes):tz [.rs 5 (l.map bn.pv),.str s]=some (.int .i64 (EP (l.map bn.id) s)):=by
 have hm:=al;simp only[tz,Dx,ah,aT,IT,U];refine(au (fun k=>(l.map bn.pv,s,(k:Int),())) l.length (fun k=>if decide ((l.map bn.id)[k]?=some s)=true then some (some (.int .i64 k))else none) (fin:=some (.int .i64 (-1))) (fun k hk rec=>?_) (fun rec=>?_) ?_ rfl).trans ?_
 ·have h1:(k:Int)<(l.length:Int):=by omega
  simp only[xt,AT,BY,h1,IT,ab,IS,AI hk,No,U,pN,aT,af (show k<9223372036854775807 by omega),cd,By];grind [bu]
 ·simp[xt,AT,BY,alk,Wi]
 ·have:=aq;omega
 ·rw[fM];unfold EP;simp only[BY];cases(List.range l.length).find? fun k=>decide ((l.map bn.id)[k]?=some s)<;>rfl
theorem aa0(l:List bn)(stops ai dL:Int)(hl:l.length≤maxLen∧∀y∈l,y.Ok)(k:Nat)(hk:k<l.length):wk [.rs 5 (l.map bn.pv),.int .i64 k,.int .i64 stops,.int .i64 ai,.int .i64 dL]=some (.int .i64 (yM l stops ai dL k)):=by
 have hm:=al;have hid:=Pz l[k].id (hl.2 _ (alj hk)).id;have sM:=RZ l[k].calls stops (hl.2 _ (alj hk)).calls.1;have JD:=Wv (l.take k) (by simp;omega) l[k].id;have Gk:=acM ((l.take k).map bn.id) l[k].id;have SR:(l.take k).map bn.id=(l.map bn.id).take k:=by simp
 have htp:(l.take k).map bn.pv=(l.map bn.pv).take k:=by simp
 rw[SR]at Gk JD;rw[htp]at JD;have hc:(0:Int)≤0∧(0:Int)≤(k:Int)∧(k:Int)≤((l.map bn.pv).length:Int)∧True∧5≠0:=⟨by omega,by omega,by simp;omega,trivial,by omega⟩;simp only[wk,FN,ah,asInt,IT,U,ab,IS,AI hk,No,pN,rN,pO,lZ,aT,asBool,hid,sM,ali,anV,anA,JD,aL,AT];unfold yM;grind
theorem aa1(l:List bn)(stops ai dL:Int)(hl:l.length≤maxLen∧∀y∈l,y.Ok):q9 [.rs 5 (l.map bn.pv),.int .i64 stops,.int .i64 ai,.int .i64 dL]=some (res (mf l stops ai dL).1 (mf l stops ai dL).2):=by
 have hm:=al;simp only[q9,Bg,ah,asInt,IT,U,BY];unfold mf;by_cases gW:l.length>256
 ·rw[T0 (by simp;omega),T0 gW];rfl
 ·rw[acB (by simp;omega),acB gW,←cP];refine au (fun k=>(l.map bn.pv,stops,ai,dL,(k:Int),())) l.length _ (fun k hk rec=>?_) (fun rec=>?_) ?_ rfl
  ·have h1:(k:Int)<(l.length:Int):=by omega
   simp only[vi,AT,BY,h1,IT,aa0 l stops ai dL hl k hk,U,asInt,af (show k<9223372036854775807 by omega),dy];grind [yM,AU,bu,res]
  ·simp only[vi,AT,BY,alk,Wi];rfl
  ·have:=aq;omega
theorem JE(n a b:Int):da [.int .i64 n,.int .i64 a,.int .i64 b]=some (.bool (wi n a b)):=by simp only[da,y9,asInt,IT,U,bt];rfl
theorem aa2(x:ba):rn [.agg [cell x.pv 0,cell x.pv 1,cell x.pv 2,cell x.pv 3,cell x.pv 4,cell x.pv 5]]=some (.bool (!oD x)):=by simp only[Vx,aeg,aeh,aei,aej,aek];simp only[rn,Bn,asAgg,cell,PV.cells,adz,aiJ,aiK,alh,Nat.reduceAdd,aT,asInt,asBool,IT,U,JE,bt];unfold oD;simp
theorem R0(l:List ba)(hl:l.length≤maxLen)(i:Nat)(hi:i<l.length)(gm:List PV×Int×Unit→Option PV):aX.run (pF gm) (l.map ba.pv,(i:Int),0,())=if l[i].id∈(l.map ba.id).take i then some (res i 6)else if oD l[i]=true then some (res i 2)else gm (l.map ba.pv,IntKind.i64.wrap ((i:Int)+1),()):=by
 have hm:=al;refine(cQ (fun k=>(l.map ba.pv,(i:Int),(k:Int),())) i (fun k=>decide ((l.map ba.id)[k]?=some l[i].id)) (no:=some (res i 6)) (fin:=if oD l[i]=true then some (res i 2)else gm (l.map ba.pv,IntKind.i64.wrap ((i:Int)+1),())) (fun k hk rec=>?_) (fun rec=>?_) ?_ rfl).trans ?_
 ·have h1:(k:Int)<(i:Int):=by omega
  have ko:k<l.length:=by omega
  simp only[pF,AT,h1,IT,ab,IS,AI ko,AI hi,No,U,Vx,aT,af (show k<9223372036854775807 by omega),cd,By];rfl
 ·simp only[pF,AT,alk,Wi,ab,IS,AI hi,No,U,aa2,asBool,aov];rfl
 ·have:=aq;omega
 ·rw[gB _ _ (by simp;omega)];simp_all
theorem R1(l:List ba)(aZ within cap:Int)(hl:l.length≤maxLen∧∀y∈l,y.Ok):rq [s7 l aZ within cap]=some (res (cT l aZ within cap).1 (cT l aZ within cap).2):=by
 have hm:=al;simp only[rq,Bo,s7,asAgg,cell,PV.cells,adz,aiJ,aiK,alh,Nat.reduceAdd,ah,asInt,asBool,IT,U,BY,JE,aL];unfold cT;generalize (!wi aZ 0 1000000|| !wi within 0 86400|| !wi cap 0 1000000)=c;cases c with
 |true=>rfl
 |false=>
  simp only[IN,Wi];by_cases gW:l.length>16
  ·rw[T0 (by simp;omega),T0 gW];rfl
  ·rw[acB (by simp;omega),acB gW,←cP];refine au (fun k=>(l.map ba.pv,(k:Int),())) l.length _ (fun k hk rec=>?_) (fun rec=>?_) ?_ rfl
   ·have h1:(k:Int)<(l.length:Int):=by omega
    have hid:=ER l[k].id (hl.2 _ (alj hk)).id;have pV:=R0 l hl.1 k hk rec;simp only[vo,AT,BY,h1,IT,ab,IS,AI hk,No,U,Vx,aT,asBool,hid,pV,af (show k<9223372036854775807 by omega)];unfold Hj;rw[AI hk];simp only;generalize oD l[k]=c;cases eo l[k].id with
    |false=>rfl
    |true=>
     by_cases bk:l[k].id∈(l.map ba.id).take k
     ·simp only[bk,IT,alc,IN,alp,Wi];rfl
     ·simp only[bk,IT,alc,IN,alp,Wi];cases c<;>rfl
   ·simp only[vo,AT,BY,alk,Wi];rfl
   ·have:=aq;omega
def jX(l:List Path)(n:Int):Int×Int:=if l.length>512 then(0,5)else bJ (cD l n) l.length
theorem Le(l:List Path)(n:Int)(hl:l.length≤maxLen):iS [.rs 4 (l.map Path.pv),.int .i64 n]=some (res (jX l n).1 (jX l n).2):=by
 have h:=I9 l n hl;simp only[res]at h;simp only[iS,uN,ah,asInt,IT,U,BY,h,bR,aiK,alh,Nat.reduceAdd,adz,aiJ,AT];unfold jX;by_cases gW:l.length>512
 ·rw[T0 (by omega),T0 gW];rfl
 ·rw[acB (by omega),acB gW];rfl
theorem R2(l:List Path)(n:Int)(hl:l.length≤maxLen)(i:Nat)(hi:i<l.length)(sC:List PV×Int×Int×Unit→Option PV):aX.run (pt sC) (l.map Path.pv,n,(i:Int),0,.int .i64 l[i].a,.int .i64 l[i].b,.int .i64 l[i].jA,.bool l[i].free,())=if br l[i]∈(l.map br).take i then some (res i 6)else sC (l.map Path.pv,n,IntKind.i64.wrap ((i:Int)+1),()):=by
 have hm:=al;refine(cQ (fun k=>(l.map Path.pv,n,(i:Int),(k:Int),PV.int .i64 l[i].a,PV.int .i64 l[i].b,PV.int .i64 l[i].jA,PV.bool l[i].free,())) i (fun k=>decide ((l.map br)[k]?=some (br l[i]))) (no:=some (res i 6)) (fin:=sC (l.map Path.pv,n,IntKind.i64.wrap ((i:Int)+1),())) (fun k hk rec=>?_) (fun rec=>?_) ?_ rfl).trans ?_
 ·have h1:(k:Int)<(i:Int):=by omega
  have ko:k<l.length:=by omega
  have hd:decide ((l.map br)[k]?=some (br l[i]))=(decide (l[k].a=l[i].a)&&decide (l[k].b=l[i].b)&&decide (l[k].free=l[i].free)):=by rw[alE];simp[AI ko,br,ani]
  simp only[pt,AT,h1,IT,ab,IS,AI ko,No,U,I6,I7,I8,asInt,asBool,af (show k<9223372036854775807 by omega),cd,bt];grind [br,res]
 ·simp[pt,AT,alk,Wi]
 ·have:=aq;omega
 ·rw[gB _ _ (by simp;omega)];simp_all
theorem Ww(l:List Path)(n:Int)(hl:l.length≤maxLen):qX [.rs 4 (l.map Path.pv),.int .i64 n]=some (res (bJ (cD l n) l.length).1 (bJ (cD l n) l.length).2):=by
 have hm:=al;simp only[qX,A7,ah,asInt,IT,U];rw[←cP];refine au (fun k=>(l.map Path.pv,n,(k:Int),())) l.length _ (fun k hk rec=>?_) (fun rec=>?_) ?_ rfl
 ·have h1:(k:Int)<(l.length:Int):=by omega
  have pV:=R2 l n hl k hk rec;simp only[vc,AT,BY,h1,IT,ab,IS,AI hk,No,U,I6,I7,OB,I8,asInt,pV,cd,aL,af (show k<9223372036854775807 by omega)];unfold cD;rw[AI hk];simp only;generalize (decide (l[k].a<0)||decide (l[k].a≥n)||decide (l[k].b<0)||decide (l[k].b≥n)||decide (l[k].a=l[k].b))=A;generalize (decide (l[k].jA<1)||decide (l[k].jA>14400))=B;by_cases bk:br l[k]∈(l.map br).take k
  ·simp only[bk,IT];cases A<;>cases B<;>rfl
  ·simp only[bk,Wi];cases A<;>cases B<;>rfl
 ·simp only[vc,AT,BY,alk,Wi];rfl
 ·have:=aq;omega
theorem Oq(l:List Path)(n:Int)(hl:l.length≤maxLen):l6 [.rs 4 (l.map Path.pv),.int .i64 n]=some (res (jX l n).1 (jX l n).2):=by
 have h:=Ww l n hl;simp only[res]at h;simp only[l6,A8,ah,asInt,IT,U,BY,h,bR,aiK,alh,Nat.reduceAdd,adz,aiJ,AT];unfold jX;by_cases gW:l.length>512
 ·rw[T0 (by omega),T0 gW];rfl
 ·rw[acB (by omega),acB gW];rfl
def rO(t first start:Int):Bool:=decide (0≤t-first+start)&&decide (t-first+start≤172800)
theorem R3(n:Int):((BitVec.ofInt 64 n&&&BitVec.ofInt 64 4294967295).toNat:Int)=n%4294967296:=by
 have h:(BitVec.ofInt 64 4294967295).toNat=2^32-1:=by rfl
 rw[BitVec.toNat_and,h,Nat.and_two_pow_sub_one_eq_mod,BitVec.toNat_ofInt];omega
theorem aa3(n:Int):((BitVec.ofInt IntKind.i64.bits n&&&BitVec.ofInt IntKind.i64.bits 4294967295).toNat:Int)=n%4294967296:=R3 n
theorem Wx(n:Int):ee [.int .i64 n]=some (.bool (decide (n< -2305843009213693952)||decide (n>2305843009213693952))):=by simp[ee,oV,asInt,IT,U,aL]
theorem dS(a:Int):oz a↔-9223372036854775808≤a∧a≤9223372036854775807:=by
 have h1:IntKind.i64.min= -9223372036854775808:=by rfl
 have h2:IntKind.i64.max=9223372036854775807:=by rfl
 unfold oz Lit.wf;simp[h1,h2]
theorem two32:((2:Int)^min (Int.toNat 32) IntKind.i64.bits)=4294967296:=by rfl
theorem akJ(a:Int):a.fdiv 4294967296=a/4294967296:=anN _ (by omega)
theorem acP(a b c:Int)(ha:oz a)(hb:oz b)(hc:oz c):∃n,lq [.int .i64 a,.int .i64 b,.int .i64 c]=some (.aG [.int .i64 n,.bool (rO a b c)])∧(rO a b c=true→n=a-b+c):=by
 obtain⟨ha1,ha2⟩:=(dS _).1 ha;obtain⟨PL,vE⟩:=(dS _).1 hb;obtain⟨hc1,WH⟩:=(dS _).1 hc;simp only[lq,uO,asInt,IT,U,two32,akJ,aa3];have w0:∀x:Int,IntKind.i64.wrap (x%4294967296)=x%4294967296:=fun x=>aW (by omega) (by omega);have w1:IntKind.i64.wrap (a/4294967296-b/4294967296)=a/4294967296-b/4294967296:=aW (by omega) (by omega);have w2:IntKind.i64.wrap (a/4294967296-b/4294967296+c/4294967296)=a/4294967296-b/4294967296+c/4294967296:=aW (by omega) (by omega);have w3:IntKind.i64.wrap (a%4294967296-b%4294967296)=a%4294967296-b%4294967296:=aW (by omega) (by omega);have w4:IntKind.i64.wrap (a%4294967296-b%4294967296+c%4294967296)=a%4294967296-b%4294967296+c%4294967296:=aW (by omega) (by omega);have w5:IntKind.i64.wrap (a/4294967296-b/4294967296+c/4294967296+(a%4294967296-b%4294967296+c%4294967296)/4294967296)=a/4294967296-b/4294967296+c/4294967296+(a%4294967296-b%4294967296+c%4294967296)/4294967296:=aW (by omega) (by omega);simp only[w0,w1,w2,w3,w4,w5];generalize hH:a/4294967296-b/4294967296+c/4294967296+(a%4294967296-b%4294967296+c%4294967296)/4294967296=H;generalize hL:(a%4294967296-b%4294967296+c%4294967296)%4294967296=Lo;have hs:a-b+c=H*4294967296+Lo:=by omega
 have hLo:0≤Lo∧Lo<4294967296:=by omega
 unfold rO;by_cases h0:H=0
 ·have e0:(BitVec.ofInt 64 (IntKind.i64.wrap (H*4294967296))|||BitVec.ofInt 64 Lo).toNat=Lo.toNat:=by grind
  have e1:IntKind.i64.wrap ((BitVec.ofInt IntKind.i64.bits (IntKind.i64.wrap (H*4294967296))|||BitVec.ofInt IntKind.i64.bits Lo).toNat:Int)=Lo:=by have e2:(BitVec.ofInt IntKind.i64.bits (IntKind.i64.wrap (H*4294967296))|||BitVec.ofInt IntKind.i64.bits Lo).toNat=Lo.toNat:=e0;rw[e2];rw[aW (by omega) (by omega)];omega
  simp_all
 ·have hb:(H==0)=false:=by simp[h0]
  simp only[hb,cond_false,U];have h1:(decide (0≤a-b+c)&&decide (a-b+c≤172800))=false:=by grind
  rw[h1];simp
theorem EG(a b c:Int)(ha:oz a)(hb:oz b)(hc:oz c):∃n,gI [.int .i64 a,.int .i64 b,.int .i64 c]=some (.aG [.int .i64 n,.bool (rO a b c)])∧(rO a b c=true→n=a-b+c):=by
 obtain⟨n,hn,hnn⟩:=acP a b c ha hb hc;simp only[gI,sn,asInt,IT,U,Wx,asBool,aL,hn,bR,aiK,alh,Nat.reduceAdd,adz,aiJ,bt];split
 ·exact⟨n,rfl,hnn⟩
 ·rename_i h;simp only[aly,AT,anY]at h;have w1:IntKind.i64.wrap (a-b)=a-b:=aW (by omega) (by omega);have w2:IntKind.i64.wrap (a-b+c)=a-b+c:=aW (by omega) (by omega);simp only[w1,w2];exact⟨_,rfl,fun _=>rfl⟩
theorem EH(a b c:Int)(ha:oz a)(hb:oz b)(hc:0≤c∧c≤172800):∃n,l8 [.int .i64 a,.int .i64 c,.int .i64 b]=some (.aG [.int .i64 n,.bool (rO a b c)])∧(rO a b c=true→n=a-b+c):=by
 obtain⟨ha1,ha2⟩:=(dS _).1 ha;obtain⟨PL,vE⟩:=(dS _).1 hb;have u:∀x y:Int,x≥y→-9223372036854775808≤y→x≤9223372036854775807→IntKind.u64.wrap (IntKind.u64.wrap x-IntKind.u64.wrap y)=x-y:=by intro x y h1 h2 h3;simp only[IntKind.wrap,IntKind.signed,IntKind.bits,amS,Wi,IN];omega
 simp only[l8,Bi,asInt,IT,U,aL,bt];have h0:(decide (c<0)||decide (c>172800))=false:=by simp_all
 simp only[h0,IN,Wi,AT];unfold rO;have zT:∀d:Int,(d=a-b∨d=b-a)→d>172800→(decide (0≤a-b+c)&&decide (a-b+c≤172800))=false:=by grind
 have ajc:a-b≤172800→b-a≤172800→IntKind.i64.wrap (c+IntKind.i64.wrap (a-b))=a-b+c:=by grind [aW]
 by_cases sX:a≥b
 ·rw[T0 sX,u a b sX PL ha2];split
  ·rename_i h;rw[zT _ (.inl rfl) h];simp
  ·rename_i h;rw[ajc (by omega) (by omega)];simp
 ·rw[acB sX,u b a (by omega) ha1 vE];split
  ·rename_i h;rw[zT _ (.inr rfl) h];simp
  ·rename_i h;rw[ajc (by omega) (by omega)];simp
theorem jK{S R:Type}{body:S→(S→Option R)→Option R}(st:Nat→S)(n:Nat)(bad:Nat→Option (Option R)){fin:Option R}(h:∀k,k<n→(∀j,j<k→bad j=none)→∀rec,body (st k) rec=bu (bad k) (rec (st (k+1))))(xD:(∀j,j<n→bad j=none)→∀rec,body (st n) rec=fin)(hn:n<rounds){s0:S}(h0:st 0=s0):aX.run body s0=bu ((List.range n).findSome? bad) fin:=by
 have key:∀(m j N:Nat),j+m=n→m<N→(∀i,i<j→bad i=none)→dQ body N (st j)=bu ((List.range' j m).findSome? bad) fin:=by
  intro m;induction m with
  |zero=>
   intro j N hj hN hq;cases N with
   |zero=>omega
   |succ N=>
    have:j=n:=by omega
    subst this;simp only[dQ,List.range'_zero,anT];exact xD hq _
  |succ m ih=>
   intro j N hj hN hq;cases N with
   |zero=>omega
   |succ N=>
    simp only[dQ,anj,al8];rw[h j (by omega) hq];cases hb:bad j with
    |some r=>rfl
    |none=>refine ih (j+1) N (by omega) (by omega) fun i hi=>?_;grind
 grind [vC,rounds,List.range_eq_range']
theorem GU(x:aF):cell x.pv 3=.bool x.Py:=rfl
theorem GV(x:aF):cell x.pv 4=.bool x.JC:=rfl
theorem uX(x:bn):cell x.pv 3=.bool x.free:=rfl
theorem Jo(x:bn):asAgg 5 x.pv=some ():=rfl
theorem O9(cs:List PV)(k:Nat):cell (.agg cs) k=cs.getD k .bad:=rfl
def Fs(x:aF)(first start:Int):aF:={x with arr:=x.arr-first+start,dep:=x.dep-first+start}
def kOk(x:aF)(first start:Int):Bool:=rO x.arr first start&&rO x.dep first start
def gk(l:List aF)(first start:Int)(k:Nat):Bool:=match l[k]? with|some x=>kOk x first start|none=>true
def lH(l:List aF)(start:Int):Int:=match l with
 |[]=>16
 |c::_=>if(List.range l.length).all (gk l c.dep start)=true then 0 else 10
theorem pg{B:Type}(p:Nat→Bool)(r:B):∀l:List Nat,l.findSome? (fun k=>if p k=true then none else some r)=if l.all p=true then none else some r:=by
 intro l;induction l with
 |nil=>rfl
 |cons a l ih=>grind
def DF(l:List aF)(f:aF→aF)(k:Nat):List PV:=((l.take k).map fun x=>(f x).pv)++(l.drop k).map aF.pv
theorem O6(l:List aF)(f:aF→aF)(k:Nat)(h:k≤l.length):(DF l f k).length=l.length:=by simp[DF];omega
theorem O7(l:List aF)(f:aF→aF)(k:Nat)(h:k<l.length):(DF l f k)[k]?=some l[k].pv:=by grind [DF,List.getElem?_append_right,Nat.min_eq_left,Nat.le_of_lt]
theorem O8(l:List aF)(f:aF→aF)(k:Nat)(h:k<l.length):(DF l f k).set k (f l[k]).pv=DF l f (k+1):=by unfold DF;rw[List.set_append_right _ _ (by simp;omega)];have h1:l.drop k=l[k]::l.drop (k+1):=(amA h);have h2:l.take (k+1)=l.take k++[l[k]]:=(amp h).symm;rw[h1,h2];simp only[BY,alF,amd (ann h),Nat.sub_self,alu,List.set_cons_zero,alP,amk,alJ,List.singleton_append]
theorem eZ(k n:Nat)(h:k<n):ar (k:Int) n:=by unfold ar;omega
theorem LB(x:bn)(hx:x.Ok)(start:Int)(hs:oz start)(yg:x.calls.length≤40):∃es,cq [x.pv,.int .i64 start]=some (.aG [.rs 5 es,.int .i64 (lH x.calls start)]):=by
 have hm:=al;have pf:∀y∈x.calls,y.Ok:=hx.calls.2;simp only[cq,mw,Jo,pN,rN,pO,uX,lZ,aT,ah,asInt,asBool,IT,U,BY];generalize x.calls=l at yg pf⊢;cases l with
 |nil=>exact⟨[],rfl⟩
 |cons c l=>
  generalize hl:c::l=cs at yg pf⊢;have WI:cs[0]?=some c:=by rw[←hl];rfl
  have ez:0<cs.length:=by rw[←hl];simp
  have hcE:lH cs start=if(List.range cs.length).all (gk cs c.dep start)=true then 0 else 10:=by rw[←hl];rfl
  have Jp:c.Ok:=pf c (by rw[←hl];simp);have cC:((cs.length:Int)==0)=false:=by grind
  have hix:pG (cs.map aF.pv) 0=some c.pv:=by have:=ab (cs.map aF.pv) 0;simp_all
  have bF:0≤(cs.length:Int)∧(cs.length:Int)≤(cs.length:Int)∧(cs.length:Int).toNat*32≤ag∧0<32∧0<5:=by grind [decide,ag]
  rw[cC,hix];simp only[IN,Wi,U,lY,asInt,IT,T0 bF,al5,ali,alU (aoz (BY _)),BY];rw[an8 (by simp),alO,BY];have RL:0≤(cs.length:Int)∧(cs.length:Int)≤(cs.length:Int)∧cs.length*32≤ag∧0<32∧0<5:=bF;have Jq:aX.run dI (start,c.dep,(cs.length:Int),0,cs.map aF.pv,())=bu ((List.range cs.length).findSome? fun k=>if gk cs c.dep start k=true then none else some (some (.aG [.rs 5 [],.int .i64 10]))) (some (.aG [.rs 5 (DF cs (fun x=>Fs x c.dep start) cs.length),.int .i64 0])):=by
   refine au (fun k=>(start,c.dep,(cs.length:Int),(k:Int),DF cs (fun x=>Fs x c.dep start) k,())) cs.length _ (fun k hk rec=>?_) (fun rec=>?_) ?_ ?_
   ·have h1:(k:Int)<(cs.length:Int):=by omega
    have vv:cs[k].Ok:=pf _ (alj hk);obtain⟨n1,e1,q1⟩:=EG cs[k].arr c.dep start vv.arr Jp.dep hs;obtain⟨n2,e2,q2⟩:=EG cs[k].dep c.dep start vv.dep Jp.dep hs;have hlen:=O6 cs (fun x=>Fs x c.dep start) k (by omega);have fo:=O7 cs (fun x=>Fs x c.dep start) k hk;have rV:=O8 cs (fun x=>Fs x c.dep start) k hk;have hr:ar (k:Int) cs.length:=eZ k _ hk;have aax:gk cs c.dep start k=(rO cs[k].arr c.dep start&&rO cs[k].dep c.dep start):=by unfold gk;rw[AI hk];rfl
    have L7:∀X,((DF cs (fun x=>Fs x c.dep start) k).set k X)[k]?=some X:=fun X=>by simp_all
    simp only[dI,AT,h1,IT,hlen,T0 hr,ali,fo,U,pK,vK,lY,GU,GV,asInt,e1,e2,bR,asBool,aiK,alh,Nat.reduceAdd,adz,aiJ,am8,L7,O9,over,aod,af (show k<9223372036854775807 by omega)];grind [rO,start,bu,Fs,aF.pv]
   ·simp[dI,AT,alk,Wi]
   ·grind [rounds,decide]
   rfl
  rw[T0 RL,Jq,pg,hcE];by_cases vu:(List.range cs.length).all (gk cs c.dep start)=true
  ·rw[T0 vu,T0 vu];exact⟨_,rfl⟩
  ·rw[acB vu,acB vu];exact⟨_,rfl⟩
theorem LC(x:bn)(hx:x.Ok)(start:Int)(hs:0≤start∧start≤172800)(yg:x.calls.length≤40):∃es,fN [x.pv,.int .i64 start]=some (.aG [.rs 5 es,.int .i64 (lH x.calls start)]):=by
 have hm:=al;have pf:∀y∈x.calls,y.Ok:=hx.calls.2;simp only[fN,vS,Jo,pN,rN,pO,uX,lZ,aT,ah,asInt,asBool,IT,U,BY];generalize x.calls=l at yg pf⊢;cases l with
 |nil=>exact⟨[],rfl⟩
 |cons c l=>
  generalize hl:c::l=cs at yg pf⊢;have WI:cs[0]?=some c:=by rw[←hl];rfl
  have ez:0<cs.length:=by rw[←hl];simp
  have hcE:lH cs start=if(List.range cs.length).all (gk cs c.dep start)=true then 0 else 10:=by rw[←hl];rfl
  have Jp:c.Ok:=pf c (by rw[←hl];simp);have cC:((cs.length:Int)==0)=false:=by grind
  have hix:pG (cs.map aF.pv) 0=some c.pv:=by rw[show(0:Int)=((0:Nat):Int)from rfl,ab,IS,WI];rfl
  rw[cC,hix];simp only[IN,Wi,U,lY,asInt,IT];have Jq:aX.run (fZ aX) (start,c.dep,0,x.id,x.bV,x.vU,x.free,cs.map aF.pv,[],())=bu ((List.range cs.length).findSome? fun k=>if gk cs c.dep start k=true then none else some (some (.aG [.rs 5 [],.int .i64 10]))) (some (.aG [.rs 5 (cs.map fun x=>(Fs x c.dep start).pv),.int .i64 0])):=by
   refine au (fun k=>(start,c.dep,(k:Int),x.id,x.bV,x.vU,x.free,cs.map aF.pv,(cs.take k).map (fun x=>(Fs x c.dep start).pv),())) cs.length _ (fun k hk rec=>?_) (fun rec=>?_) ?_ rfl
   ·have h1:(k:Int)<(cs.length:Int):=by omega
    have vv:cs[k].Ok:=pf _ (alj hk);obtain⟨n1,e1,q1⟩:=EH cs[k].arr c.dep start vv.arr Jp.dep hs;obtain⟨n2,e2,q2⟩:=EH cs[k].dep c.dep start vv.dep Jp.dep hs;have aax:gk cs c.dep start k=(rO cs[k].arr c.dep start&&rO cs[k].dep c.dep start):=by unfold gk;rw[AI hk];rfl
    have bF:∀X:PV,(((cs.take k).map (fun x=>(Fs x c.dep start).pv))++[X]).length*32≤ag∧0<32:=fun X=>by refine⟨?_,by omega⟩;grind [List.length_append,List.length_map,List.length_take,List.length_cons,List.length_nil,ag]
    simp only[fZ,AT,BY,h1,IT,ab,IS,AI hk,No,U,pK,vK,lY,GU,GV,asInt,e1,e2,bR,asBool,aiK,alh,Nat.reduceAdd,adz,aiJ,T0 (bF _),af (show k<9223372036854775807 by omega)];rw[aax];cases hA:rO cs[k].arr c.dep start with
    |false=>rfl
    |true=>
     cases hB:rO cs[k].dep c.dep start with
     |false=>rfl
     |true=>have ht:cs.take (k+1)=cs.take k++[cs[k]]:=(amp hk).symm;rw[ht,q1 hA,q2 hB];simp only[alc,cond_false,U,IN,Wi,amH,IT,bu,alP,alu,amk,Fs,aF.pv]
   ·simp[fZ,AT,BY,alk,Wi,alT]
   grind [rounds,decide]
  rw[Jq,pg,hcE];by_cases vu:(List.range cs.length).all (gk cs c.dep start)=true
  ·rw[T0 vu,T0 vu];exact⟨_,rfl⟩
  ·rw[acB vu,acB vu];exact⟨_,rfl⟩
theorem pe(x:bg):cell x.pv 0=.int .i64 x.bp:=rfl
theorem sO(x:bg):cell x.pv 1=.int .i64 x.t0:=rfl
theorem sP(x:bg):cell x.pv 2=.int .i64 x.t1:=rfl
theorem sQ(x:bg):cell x.pv 3=.int .i64 x.every:=rfl
theorem EI(x:bg):asAgg 4 x.pv=some ():=rfl
theorem zA(x:bg):PV.agg [.int .i64 x.bp,.int .i64 x.t0,.int .i64 x.t1,.int .i64 x.every]=x.pv:=rfl
theorem Lx(x:bn):PV.agg [.str x.id,.int .i64 x.bV,.int .i64 x.vU,.bool x.free,.rs 5 (x.calls.map aF.pv)]=x.pv:=rfl
def dD(x:bg):Bool:=decide (x.t0≥0)&&decide (x.t0<x.t1)&&decide (x.t1≤172800)&&decide (x.every≥1)&&decide (x.every≤86400)
theorem fg(x:bg):dD x=true↔0≤x.t0∧x.t0<x.t1∧x.t1≤172800∧1≤x.every∧x.every≤86400:=by simp[dD,ani]
theorem GS(x:bg):gJ [x.pv]=some (.bool (dD x)):=by simp only[gJ,so,EI,pe,sO,sP,sQ,asInt,IT,U,bt];rfl
theorem ze(x:bg):jN [x.pv]=some (.bool (dD x)):=by
 simp only[jN,A9,EI,pe,sO,sP,sQ,asInt,IT,U,bt];have:∀a b:Bool,a=b→some (PV.bool a)=some (PV.bool b):=fun a b h=>by rw[h]
 apply this;rw[alE,fg];grind
def db(x:bg):Int:=(x.t1-x.t0-1)/x.every+1
theorem pd(x:bg)(h:dD x=true):1≤db x∧db x≤172800:=by obtain⟨h1,h2,h3,h4,h5⟩:=(fg x).1 h;unfold db;have a:=aob (show 0≤x.t1-x.t0-1 by omega) (show 0≤x.every by omega);have b:=Int.ediv_le_self (b:=x.every) (show 0≤x.t1-x.t0-1 by omega);omega
theorem JF(x:bg)(h:dD x=true):fh [x.pv]=some (.int .i64 (db x)):=by
 have hc:=pd x h;obtain⟨h1,h2,h3,h4,h5⟩:=(fg x).1 h;have w1:IntKind.i64.wrap (x.t1-x.t0)=x.t1-x.t0:=aW (by omega) (by omega);have w2:IntKind.i64.wrap (x.t1-x.t0+x.every)=x.t1-x.t0+x.every:=aW (by omega) (by omega);have w3:IntKind.i64.wrap (x.t1-x.t0+x.every-1)=x.t1-x.t0+x.every-1:=aW (by omega) (by omega);have e:(x.t1-x.t0+x.every-1).tdiv x.every=db x:=by
  rw[Int.tdiv_eq_ediv_of_nonneg (by omega)];unfold db;have:x.t1-x.t0+x.every-1=(x.t1-x.t0-1)+1*x.every:=by omega
  rw[this,Int.add_mul_ediv_right _ _ (by omega)]
 simp only[fh,sq,EI,pe,sO,sP,sQ,asInt,IT,U,w1,w2,w3,e,acB (show¬x.every=0 by omega)];rw[aW (by omega) (by omega)]
theorem acQ(x:bg)(h:dD x=true):re [x.pv]=some (.int .i64 (db x)):=by
 have hc:=pd x h;obtain⟨h1,h2,h3,h4,h5⟩:=(fg x).1 h;have w1:IntKind.i64.wrap (x.t1-x.t0)=x.t1-x.t0:=aW (by omega) (by omega);have w2:IntKind.i64.wrap (x.t1-x.t0-1)=x.t1-x.t0-1:=aW (by omega) (by omega);have e:(x.t1-x.t0-1).tdiv x.every=db x-1:=by grind [Int.tdiv_eq_ediv_of_nonneg,db]
 simp only[re,Bh,EI,pe,sO,sP,sQ,asInt,IT,U,w1,w2,e,acB (show¬x.every=0 by omega)];rw[aW (x:=db x-1) (by omega) (by omega),aW (by omega) (by omega)];simp
def zB(x:bg):Int:=x.t0+(db x-1)*x.every
theorem Jn(x:bg)(h:dD x=true):0≤(db x-1)*x.every∧(db x-1)*x.every≤x.t1-x.t0-1∧x.t1-x.t0≤db x*x.every:=by
 obtain⟨h1,h2,h3,h4,h5⟩:=(fg x).1 h;have e:db x-1=(x.t1-x.t0-1)/x.every:=by unfold db;omega
 have e2:db x*x.every=(db x-1)*x.every+x.every:=by rw[Int.sub_mul];omega
 rw[e2,e];have a:=Int.mul_ediv_add_emod (x.t1-x.t0-1) x.every;have b:=Int.emod_lt_of_pos (x.t1-x.t0-1) (show 0<x.every by omega);have c:=Int.emod_nonneg (x.t1-x.t0-1) (show x.every≠0 by omega);have d:=anz (aob (show 0≤x.t1-x.t0-1 by omega) (show 0≤x.every by omega)) (show 0≤x.every by omega);grind
theorem Wy(x:bg)(h:dD x=true):lu [x.pv]=some (.int .i64 (zB x)):=by have hc:=pd x h;have SH:=Jn x h;obtain⟨h1,h2,h3,h4,h5⟩:=(fg x).1 h;have w1:IntKind.i64.wrap (db x-1)=db x-1:=aW (by omega) (by omega);have w2:IntKind.i64.wrap ((db x-1)*x.every)=(db x-1)*x.every:=aW (by omega) (by omega);have w3:IntKind.i64.wrap (x.t0+(db x-1)*x.every)=zB x:=aW (by omega) (by omega);simp only[lu,uQ,EI,pe,sO,sP,sQ,asInt,IT,U,zA,JF x h,w1,w2,w3]
def k9(x:bg)(n:Nat):List PV:=(List.range n).map fun(j:Nat)=>PV.int .i64 (x.t0+(j:Int)*x.every)
theorem Jr(x:bg)(h:dD x=true):ga [x.pv]=some (.rs 1 (k9 x (db x).toNat)):=by
 have hc:=pd x h;have SH:=Jn x h;obtain⟨h1,h2,h3,h4,h5⟩:=(fg x).1 h;simp only[ga,td,EI,pe,sO,sP,sQ,asInt,asBool,IT,U,zA,ze,h,alc,IN,Wi];refine aK (fun k=>(x.t0+(k:Int)*x.every,x.bp,x.t0,x.t1,x.every,k9 x k,())) (db x).toNat (fun k hk rec=>?_) (fun rec=>?_) ?_ ?_
 ·have L5:(k:Int)≤db x-1:=by omega
  have ub:(k:Int)*x.every≤(db x-1)*x.every:=amB L5 (by omega);have Gk:0≤(k:Int)*x.every:=anz (by omega) (by omega);have bQ:x.t0+(k:Int)*x.every<x.t1:=by omega
  have bF:(k9 x k++[PV.int .i64 (x.t0+(k:Int)*x.every)]).length*8≤ag∧0<8:=by refine⟨?_,by omega⟩;simp only[k9,aln,BY,amZ,aiK,alh];unfold ag;omega
  have akb:((k+1:Nat):Int)*x.every=(k:Int)*x.every+x.every:=by grind
  have hw:IntKind.i64.wrap (x.t0+(k:Int)*x.every+x.every)=x.t0+((k+1:Nat):Int)*x.every:=by grind [aW]
  simp_all[k9,amc,sG,AT,IT,T0]
 ·have he:(((db x).toNat:Nat):Int)*x.every=db x*x.every:=by grind
  have bQ:¬x.t0+(((db x).toNat:Nat):Int)*x.every<x.t1:=by omega
  simp_all[sG,AT,acB]
 ·grind [rounds,decide]
 ·simp[k9]
def Bv(x:bn)(f:bg):Bool:=decide (lH x.calls f.t0≠10)&&decide (lH x.calls (zB f)≠10)
theorem zl(c:aF)(l:List aF)(s:Int):lH (c::l) s=0∨lH (c::l) s=10:=by show(if(List.range (c::l).length).all (gk (c::l) c.dep s)=true then(0:Int)else 10)=0∨(if(List.range (c::l).length).all (gk (c::l) c.dep s)=true then(0:Int)else 10)=10;omega
theorem Up(x:bg)(h:dD x=true):0≤zB x∧zB x≤172800:=by have SH:=Jn x h;grind [fg,zB]
theorem Wz(x:bn)(hx:x.Ok)(yg:x.calls.length≤40)(f:bg)(hf:dD f=true):lv [x.pv,f.pv]=some (.bool (Bv x f)):=by
 obtain⟨h1,h2,h3,h4,h5⟩:=(fg f).1 hf;have hl:=Up f hf;obtain⟨es1,e1⟩:=LB x hx f.t0 ((dS _).2 (by omega)) yg;obtain⟨es2,e2⟩:=LB x hx (zB f) ((dS _).2 (by omega)) yg;simp only[lv,uR,Jo,pN,rN,pO,uX,lZ,EI,pe,sO,sP,sQ,aT,ah,asInt,asBool,IT,U,BY,zA,Lx,Wy f hf,e1,e2,bR,aiK,alh,Nat.reduceAdd,adz,aiJ,bt];unfold Bv;cases JZ:x.calls with
 |nil=>rfl
 |cons c l=>
  have cC:(((c::l).length:Int)==0)=false:=by rfl
  rw[cC];simp only[IN,Wi];rcases zl c l f.t0 with h|h<;>rcases zl c l (zB f)with h'|h'<;>rw[h,h']<;>rfl
theorem aa4(x:bn)(hx:x.Ok)(yg:x.calls.length≤40)(f:bg)(hf:dD f=true):tA [x.pv,f.pv]=some (.bool (Bv x f)):=by
 have hc:=pd f hf;obtain⟨h1,h2,h3,h4,h5⟩:=(fg f).1 hf;have hl:=Up f hf;obtain⟨es1,e1⟩:=LC x hx f.t0 (by omega) yg;obtain⟨es2,e2⟩:=LC x hx (zB f) hl yg;have hlen:(k9 f (db f).toNat).length=(db f).toNat:=by simp[k9]
 have hi0:pG (k9 f (db f).toNat) 0=some (.int .i64 f.t0):=by rw[show(0:Int)=((0:Nat):Int)from rfl,ab];grind [k9,List.getElem?_range,db]
 have hw:IntKind.i64.wrap (((db f).toNat:Int)-1)=(((db f).toNat-1:Nat):Int):=by grind [aW]
 have WN:pG (k9 f (db f).toNat) (((db f).toNat-1:Nat):Int)=some (.int .i64 (zB f)):=by
  rw[ab];simp only[k9,IS,amN (show(db f).toNat-1<(db f).toNat by omega),No];have:(((db f).toNat-1:Nat):Int)=db f-1:=by omega
  rw[this];rfl
 have hci:∀n:Int,cell (.int .i64 n) 0=.int .i64 n:=fun _=>rfl;simp only[tA,Dy,Jo,pN,rN,pO,uX,lZ,EI,pe,sO,sP,sQ,aT,ah,asInt,asBool,IT,U,BY,zA,Lx,Jr f hf,hlen,hi0,hw,WN,hci,e1,e2,bR,aiK,alh,Nat.reduceAdd,adz,aiJ,bt,dy];unfold Bv;simp
def fitsAt(ae:List bn)(f:bg):Bool:=match ae[f.bp.toNat]? with|some x=>Bv x f|none=>true
def zQ(l:List bg)(f:bg)(k:Nat):Int:=((l.take k).map fun g=>if g.bp=f.bp then db g else 0).sum
def JG(f g:bg):Bool:=decide (g.bp=f.bp)&&(decide (g.t0<f.t1)&&decide (f.t0<g.t1))
def anyM(l:List bg)(f:bg)(k:Nat):Bool:=(l.take k).any (JG f)
def wg(l:List bg)(ae:List bn)(k:Nat):Int:=match l[k]? with
 |none=>0
 |some f=>if(decide (f.bp<0)||decide (f.bp≥(ae.length:Int)))=true then 9 else if(!dD f|| !fitsAt ae f)=true then 10 else if db f+zQ l f k>256 then 17 else if anyM l f k=true then 8 else 0
def qU(l:List bg)(ae:List bn):Int×Int:=if l.length>64 then(0,5)else bJ (wg l ae) l.length
theorem Cb(l:List bg)(f:bg)(k:Nat)(h:k<l.length):zQ l f (k+1)=zQ l f k+if l[k].bp=f.bp then db l[k]else 0:=by unfold zQ;have h2:l.take (k+1)=l.take k++[l[k]]:=(amp h).symm;grind
theorem LD(l:List bg)(f:bg)(k:Nat)(h:k<l.length):anyM l f (k+1)=(anyM l f k||JG f l[k]):=by unfold anyM;have h2:l.take (k+1)=l.take k++[l[k]]:=(amp h).symm;grind
theorem JH(l:List bg)(f:bg):∀k,k≤l.length→(∀j(h:j<l.length),j<k→dD l[j]=true)→0≤zQ l f k∧zQ l f k≤172800*(k:Int):=by
 intro k;induction k with
 |zero=>intro _ _;simp[zQ]
 |succ k ih=>intro hk hq;have:=ih (by omega) fun j h hj=>hq j h (by omega);rw[Cb l f k (by omega)];have hc:=pd l[k] (hq k (by omega) (by omega));omega
theorem CD(l:List bg)(ae:List bn)(k:Nat)(h:k<l.length)(he:wg l ae k=0):dD l[k]=true:=by unfold wg at he;grind
theorem WA(l:List bg)(ae:List bn)(ht:ae.length≤maxLen∧∀y∈ae,y.Ok)(yg:∀y∈ae,y.calls.length≤40)(hl:l.length≤maxLen):kc [.rs 4 (l.map bg.pv),.rs 5 (ae.map bn.pv)]=some (res (qU l ae).1 (qU l ae).2):=by
 have hm:=al;simp only[kc,sr,ah,IT,U,BY];unfold qU;by_cases gW:l.length>64
 ·rw[T0 (by simp;omega),T0 gW];rfl
 ·rw[acB (by simp;omega),acB gW,←cP];refine jK (fun k=>(l.map bg.pv,ae.map bn.pv,l.map bg.pv,(l.length:Int),(k:Int),())) l.length _ (fun k hk hq rec=>?_) (fun _ rec=>?_) ?_ rfl
  ·have h1:(k:Int)<(l.length:Int):=by omega
   have acR:∀j(h:j<l.length),j<k→dD l[j]=true:=fun j h hj=>by have hqj:=hq j hj;refine CD l ae j h ?_;simp_all[AU,wg,acB]
   simp only[nk,AT,h1,IT,ab,IS,AI hk,No,U,pe,sO,sP,sQ,asInt,asBool,zA,BY,aL,GS];unfold wg;rw[AI hk];simp only;generalize hf:l[k]=f;by_cases hr:f.bp<0∨f.bp≥(ae.length:Int)
   ·have:(decide (f.bp<0)||decide (f.bp≥(ae.length:Int)))=true:=by simpa using hr
    rw[this];rfl
   ·have L6:(decide (f.bp<0)||decide (f.bp≥(ae.length:Int)))=false:=by simpa using hr
    simp only[L6,IN,Wi];obtain⟨t,htt⟩:=am4 (show 0≤f.bp by omega);have htl:t<ae.length:=by omega
    cases hs:dD f with
    |false=>rfl
    |true=>
     have hfa:fitsAt ae f=Bv ae[t] f:=by simp_all[fitsAt,ali,AI]
     have hfp:=Wz ae[t] (ht.2 _ (alj htl)) (yg _ (alj htl)) f hs;have aaL:pG (ae.map bn.pv) f.bp=some ae[t].pv:=by rw[htt,ab,IS,AI htl];rfl
     simp only[aaL,alc,cond_false,U,pN,rN,pO,uX,lZ,Lx,hfp,asBool,hfa,ana];cases hfb:Bv ae[t] f with
     |false=>rfl
     |true=>
      have hc:(0:Int)≤0∧(0:Int)≤(k:Int)∧(k:Int)≤(l.length:Int)∧True∧4≠0:=⟨by omega,by omega,by omega,trivial,by omega⟩;have hcf:=pd f hs;have bQ:(List.map bg.pv l).take k=(l.take k).map bg.pv:=by simp
      simp only[alc,IN,Wi,JF f hs,U,asInt,IT,ali,anV,anA,bQ,BY,alF,amd (ann hk)];rw[T0 hc];refine aK (fun j=>(l.map bg.pv,ae.map bn.pv,(k:Int),db f+zQ l f j,anyM l f j,l.map bg.pv,(l.length:Int),(k:Int),(l.take k).map bg.pv,(k:Int),(j:Int),PV.int .i64 f.bp,PV.int .i64 f.t0,PV.int .i64 f.t1,PV.int .i64 f.every,())) k (fun j hj rc=>?_) (fun rc=>?_) ?_ ?_
      ·have hj1:(j:Int)<(k:Int):=by omega
       have rz:j<l.length:=by omega
       have hgl:(l.take k)[j]?=some l[j]:=by simp_all
       have hsj:=acR j rz hj;have hcj:=pd l[j] hsj;have hb:=JH l f j (by omega) fun i h hi=>acR i h (by omega);simp only[nj,AT,hj1,IT,ab,IS,hgl,No,U,pe,sO,sP,sQ,asInt,zA,cd,af (show j<9223372036854775807 by omega),bt,aL];rw[Cb l f j rz,LD l f j rz];by_cases he:l[j].bp=f.bp
       ·rw[T0 he,T0 he,JF l[j] hsj];have hw:IntKind.i64.wrap (db f+zQ l f j+db l[j])=db f+(zQ l f j+db l[j]):=by grind [aW]
        simp_all[U,JG,alB,ama,asInt,IT]
       simp_all[acB,JG,alw,amS,amg,Int.add_zero]
      ·simp only[nj,AT,alk,Wi,af (show k<9223372036854775807 by omega)];by_cases M6:db f+zQ l f k>256
       ·rw[T0 M6,T0 M6];rfl
       ·rw[acB M6,acB M6];cases anyM l f k<;>rfl
      ·grind [rounds,decide]
      ·simp[zQ,anyM]
  ·simp only[nk,AT,alk,Wi];rfl
  ·have:=aq;omega
theorem aa5(l:List bg)(ae:List bn)(ht:ae.length≤maxLen∧∀y∈ae,y.Ok)(yg:∀y∈ae,y.calls.length≤40)(hl:l.length≤maxLen):rf [.rs 4 (l.map bg.pv),.rs 5 (ae.map bn.pv)]=some (res (qU l ae).1 (qU l ae).2):=by
 have hm:=al;simp only[rf,Bj,ah,IT,U,BY];unfold qU;by_cases gW:l.length>64
 ·rw[T0 (by simp;omega),T0 gW];rfl
 ·rw[acB (by simp;omega),acB gW,←cP];refine jK (fun k=>(l.map bg.pv,ae.map bn.pv,(k:Int),())) l.length _ (fun k hk hq rec=>?_) (fun _ rec=>?_) ?_ rfl
  ·have h1:(k:Int)<(l.length:Int):=by omega
   have acR:∀j(h:j<l.length),j<k→dD l[j]=true:=fun j h hj=>by have hqj:=hq j hj;refine CD l ae j h ?_;simp_all[AU,wg,acB]
   simp only[vk,AT,h1,IT,ab,IS,AI hk,No,U,pe,sO,sP,sQ,asInt,asBool,zA,BY,aL,ze];unfold wg;rw[AI hk];simp only;generalize hf:l[k]=f;by_cases hr:f.bp<0∨f.bp≥(ae.length:Int)
   ·have:(decide (f.bp<0)||decide (f.bp≥(ae.length:Int)))=true:=by simpa using hr
    rw[this];rfl
   ·have L6:(decide (f.bp<0)||decide (f.bp≥(ae.length:Int)))=false:=by simpa using hr
    simp only[L6,IN,Wi];obtain⟨t,htt⟩:=am4 (show 0≤f.bp by omega);have htl:t<ae.length:=by omega
    cases hs:dD f with
    |false=>rfl
    |true=>
     have hfa:fitsAt ae f=Bv ae[t] f:=by simp_all[fitsAt,ali,AI]
     have hfp:=aa4 ae[t] (ht.2 _ (alj htl)) (yg _ (alj htl)) f hs;have aaL:pG (ae.map bn.pv) f.bp=some ae[t].pv:=by rw[htt,ab,IS,AI htl];rfl
     simp only[aaL,alc,cond_false,U,pN,rN,pO,uX,lZ,Lx,hfp,asBool,hfa,ana];cases hfb:Bv ae[t] f with
     |false=>rfl
     |true=>
      have hcf:=pd f hs;simp only[alc,IN,Wi];refine aK (fun j=>(l.map bg.pv,ae.map bn.pv,(k:Int),zQ l f j,anyM l f (min j k),(j:Int),PV.int .i64 f.bp,PV.int .i64 f.t0,PV.int .i64 f.t1,PV.int .i64 f.every,())) (k+1) (fun j hj rc=>?_) (fun rc=>?_) ?_ ?_
      ·have hj1:(j:Int)≤(k:Int):=by omega
       have rz:j<l.length:=by omega
       have hsj:dD l[j]=true:=by grind
       have hcj:=pd l[j] hsj;have hb:=JH l f j (by omega) fun i h hi=>acR i h (by omega);simp only[vj,AT,hj1,IT,ab,IS,AI rz,No,U,pe,sO,sP,sQ,asInt,zA,dy,af (show j<9223372036854775807 by omega)];rw[Cb l f j rz];have abx:anyM l f (min (j+1) k)=(anyM l f (min j k)||(decide (j<k)&&JG f l[j])):=by grind [Nat.min_eq_left,LD,Nat.min_eq_right]
       rw[abx];by_cases he:l[j].bp=f.bp
       ·have hw:IntKind.i64.wrap (zQ l f j+db l[j])=zQ l f j+db l[j]:=aW (by omega) (by omega);simp only[he,alB,alc,IN,Wi,acQ l[j] hsj,U,asInt,IT,hw,JG,ama,bt];grind
       ·simp only[he,alw,alA,IT,Wi,JG,amS,Bool.and_false,amg,Int.add_zero]
      ·have bQ:¬((k+1:Nat):Int)≤(k:Int):=by omega
       have akK:zQ l f (k+1)=db f+zQ l f k:=by rw[Cb l f k hk,hf,T0 rfl];omega
       simp only[vj,AT,acB bQ,af (show k<9223372036854775807 by omega),akK,anF (Nat.le_succ k)];by_cases M6:db f+zQ l f k>256
       ·rw[T0 M6,T0 M6];rfl
       ·rw[acB M6,acB M6];cases anyM l f k<;>rfl
      ·grind [rounds,decide]
      rfl
  ·simp only[vk,AT,BY,alk,Wi];rfl
  ·have:=aq;omega
theorem aa6(x:gw):cell x.pv 0=.int .i64 x.a:=rfl
theorem aa7(x:gw):cell x.pv 1=.int .i64 x.b:=rfl
theorem R4(n:Int):cell (.int .i64 n) 0=.int .i64 n:=rfl
def iv(n:Int):PV:=.int .i64 n
def dM(l:List gw)(t:Int):Option Int:=(l.find? fun x=>decide (x.a=t)).map gw.b
def nh(o:Option Int):PV:=match o with|some b=>.aG [.int .i64 b,.bool true]|none=>.aG [.int .i64 0,.bool false]
theorem FU{A B:Type}(p:A→Bool)(g:A→B)(l:List A):(List.range l.length).findSome? (fun k=>(l[k]?).bind fun x=>if p x=true then some (g x)else none)=(l.find? p).map g:=by
 rw[HH];induction l with
 |nil=>rfl
 |cons x l ih=>grind
theorem F1(l:List gw)(hl:l.length≤maxLen)(t:Int):iT [.rs 2 (l.map gw.pv),.int .i64 t]=some (nh (dM l t)):=by
 have hm:=al;simp only[iT,y7,ah,asInt,IT,U,BY];refine(au (fun k=>(t,l.map gw.pv,(l.length:Int),(k:Int),())) l.length (fun k=>(l[k]?).bind fun x=>if decide (x.a=t)=true then some (some (nh (some x.b)))else none) (fin:=some (nh none)) (fun k hk rec=>?_) (fun rec=>?_) ?_ rfl).trans ?_
 ·have h1:(k:Int)<(l.length:Int):=by omega
  simp only[sF,AT,h1,IT,ab,IS,AI hk,No,U,alr,aa6,aa7,asInt,af (show k<9223372036854775807 by omega),cd];by_cases he:l[k].a=t
  ·simp only[he,IT];rfl
  ·simp only[he,Wi];rfl
 ·simp only[sF,AT,alk,Wi];rfl
 ·have:=aq;omega
 ·rw[FU (fun x:gw=>decide (x.a=t)) (fun x=>some (nh (some x.b))) l];unfold dM;cases l.find? fun x=>decide (x.a=t)<;>rfl
theorem Ps(l:List gw)(hl:l.length≤maxLen)(t:Int):pB [.rs 2 (l.map gw.pv),.int .i64 t]=some (nh (dM l t)):=by
 have hm:=al;simp only[pB,Dz,ah,asInt,IT,U,BY];refine(au (fun k=>(l.map gw.pv,t,(k:Int),())) l.length (fun k=>(l[k]?).bind fun x=>if decide (x.a=t)=true then some (some (nh (some x.b)))else none) (fin:=some (nh none)) (fun k hk rec=>?_) (fun rec=>?_) ?_ rfl).trans ?_
 ·have h1:(k:Int)<(l.length:Int):=by omega
  simp only[xv,AT,BY,h1,IT,ab,IS,AI hk,No,U,alr,aa6,aa7,asInt,af (show k<9223372036854775807 by omega),cd];by_cases he:l[k].a=t
  ·simp only[he,IT];rfl
  ·simp only[he,Wi];rfl
 ·simp only[xv,AT,BY,alk,Wi];rfl
 ·have:=aq;omega
 ·rw[FU (fun x:gw=>decide (x.a=t)) (fun x=>some (nh (some x.b))) l];unfold dM;cases l.find? fun x=>decide (x.a=t)<;>rfl
theorem Uq(l:List Int)(hl:l.length≤maxLen)(t:Int):rS [.rs 1 (l.map iv),.int .i64 t]=some (.bool (decide (t∈l))):=by
 have hm:=al;simp only[rS,FO,ah,asInt,IT,U,BY];refine(cQ (fun k=>(l.map iv,t,(k:Int),())) l.length (fun k=>decide (l[k]?=some t)) (no:=some (.bool true)) (fin:=some (.bool false)) (fun k hk rec=>?_) (fun rec=>?_) ?_ rfl).trans ?_
 ·have h1:(k:Int)<(l.length:Int):=by omega
  simp only[zp,AT,BY,h1,IT,ab,IS,AI hk,No,U,iv,R4,asInt,af (show k<9223372036854775807 by omega),cd,By]
 ·simp[zp,AT,BY,alk,Wi]
 ·have:=aq;omega
 ·rw[gB l l.length (alz _) t,alT];grind
theorem R5(l:List Int)(hl:l.length≤maxLen)(t:Int):aX.run ly (t,l.map iv,(l.length:Int),0,())=some (.bool (decide (t∈l))):=by
 have hm:=al;refine(cQ (fun k=>(t,l.map iv,(l.length:Int),(k:Int),())) l.length (fun k=>decide (l[k]?=some t)) (no:=some (.bool true)) (fin:=some (.bool false)) (fun k hk rec=>?_) (fun rec=>?_) ?_ rfl).trans ?_
 ·have h1:(k:Int)<(l.length:Int):=by omega
  simp only[ly,AT,h1,IT,ab,IS,AI hk,No,U,iv,R4,asInt,af (show k<9223372036854775807 by omega),cd,By]
 ·simp[ly,AT,alk,Wi]
 ·have:=aq;omega
 ·rw[gB l l.length (alz _) t,alT];grind
def grow(l:List gw):Nat→List Int→Int→List Int
 |0,pre,last=>pre++[last]
 |n+1,pre,last=>match dM l last with
  |none=>pre++[last]
  |some m=>if m∈pre++[last]then pre++[last]else grow l n (pre++[last]) m
theorem PD(l:List gw):∀n pre last,(grow l n pre last).length≤pre.length+1+n:=by
 intro n;induction n with
 |zero=>intro pre last;simp[grow]
 |succ n ih=>grind [grow,Nat.le_trans]
theorem acS:∀(a b:List Int),a.Nodup→(∀x∈a,x∈b)→a.length≤b.length:=by
 intro a;induction a with
 |nil=>simp
 |cons x a ih=>
  intro b hn hs;rw[amJ]at hn;have hx:x∈b:=hs x (by simp);have:=ih (b.erase x) hn.2 fun y hy=>by grind
  grind
theorem PE(l:List gw)(t m:Int)(h:dM l t=some m):t∈l.map gw.a:=by
 unfold dM at h;cases hf:l.find? (fun x=>decide (x.a=t))with
 |none=>rw[hf]at h;cases h
 |some x=>grind
theorem JI(pre:List Int)(last:Int)(hl:pre.length<maxLen):(pre++[last]).map iv=pre.map iv++[iv last]∧ar (IntKind.i64.wrap ((((pre++[last]).map iv).length:Int)-1)) ((pre++[last]).map iv).length∧((pre++[last]).map iv)[(IntKind.i64.wrap ((((pre++[last]).map iv).length:Int)-1)).toNat]?=some (iv last):=by
 have hm:=al;have h1:(((pre++[last]).map iv).length:Int)=((pre.length+1:Nat):Int):=by simp
 have h2:IntKind.i64.wrap (((pre.length+1:Nat):Int)-1)=(pre.length:Int):=B4 _ (by omega);simp_all[iv,eZ,ali]
theorem vp(a b:Int):bM (iv a).cells (iv b).cells=decide (a=b):=B5 a b
theorem R6(l:List gw)(hl:l.length≤1000)(t:Int):mB [.rs 2 (l.map gw.pv),.int .i64 t]=some (.rs 1 ((grow l l.length [] t).map iv)):=by
 have SH:(2000:Nat)≤maxLen:=by decide
 have h0:dm (PV.int .i64 t) (.bool true) []=seen iv ([]++[t]):=fy vp t [];simp only[mB,xd,ah,asInt,IT,U,h0];have key:∀(n N:Nat)(pre:List Int)(last:Int),pre.length+n=l.length→n<N→(pre++[last]).Nodup→(∀x∈pre,x∈l.map gw.a)→dQ (lx aX) N (l.map gw.pv,(pre++[last]).map iv,seen iv (pre++[last]),())=some (.rs 1 ((grow l n pre last).map iv)):=by
  intro n;induction n with
  |zero=>
   intro N pre last hp hN hnd Xz;cases N with
   |zero=>omega
   |succ N=>
    obtain⟨g1,g2,g3⟩:=JI pre last (by omega);have K0:dM l last=none:=by
     cases hx:dM l last with
     |none=>rfl
     |some m=>
      have h1:=PE l last m hx;have:=acS (pre++[last]) (l.map gw.a) hnd fun y hy=>by
       rw[alM]at hy;rcases hy with hy|hy
       ·exact Xz y hy
       simp_all
      simp at this;omega
    simp only[dQ,lx,T0 g2,g3,U,iv,R4,asInt,IT,F1 l (by omega),K0,nh,bR,aiK,alh,Nat.reduceAdd,adz,aiJ,asBool,alA,cond_true];rfl
  |succ n ih=>
   intro N pre last hp hN hnd Xz;cases N with
   |zero=>omega
   |succ N=>
    obtain⟨g1,g2,g3⟩:=JI pre last (by omega);have hb:∀X:PV,((pre++[last]).map iv++[X]).length*8≤ag∧0<8:=fun X=>by refine⟨?_,by omega⟩;simp only[aln,BY,aiK,alh];unfold ag;omega
    simp only[dQ,lx,T0 g2,g3,U,R4,asInt,IT];simp only[iv,R4,asInt,IT,U,F1 l (by omega)];unfold grow;cases hx:dM l last with
    |none=>rfl
    |some m=>
     have jY:bS (PV.int .i64 m) (.bool false) (seen iv (pre++[last]))=.bool (decide (m∈pre++[last])):=eF vp m _;have mJ:dm (PV.int .i64 m) (.bool true) (seen iv (pre++[last]))=seen iv (pre++[last]++[m]):=fy vp m _;simp only[nh,bR,aiK,alh,Nat.reduceAdd,IT,adz,aiJ,asBool,asInt,U,alc,cond_false];simp only[jY,asBool,U];by_cases bk:m∈pre++[last]
     ·simp_all
     ·simp only[bk,alw,IN,Wi];rw[T0 (hb _),mJ];have nO:(pre++[last]).map iv++[PV.int .i64 m]=(pre++[last]++[m]).map iv:=by simp[iv]
      rw[nO];refine ih N (pre++[last]) m (by simp;omega) (by omega) ?_ ?_
      ·rw[List.nodup_append];refine⟨hnd,by simp,fun a ha b hb=>?_⟩;simp at hb;grind
      ·intro x LX;rw[alM]at LX;rcases LX with h|h
       ·exact Xz x h
       simp_all[PE]
 exact key l.length rounds [] t (by simp) (by grind [rounds,decide]) (by simp) (by simp)
theorem WB(l:List gw)(hl:l.length≤1000)(t:Int):ri [.rs 2 (l.map gw.pv),.int .i64 t]=some (.rs 1 ((grow l l.length [] t).map iv)):=by
 have SH:(2000:Nat)≤maxLen:=by decide
 have hm:=al;simp only[ri,Bk,ah,asInt,IT,U,BY];have key:∀(n N:Nat)(pre:List Int)(last:Int),pre.length+n=l.length→n<N→dQ (pC aX) N (l.map gw.pv,(l.length:Int),(pre.length:Int),(pre++[last]).map iv,())=some (.rs 1 ((grow l n pre last).map iv)):=by
  intro n;induction n with
  |zero=>
   intro N pre last hp hN;cases N with
   |zero=>omega
   |succ N=>
    have bQ:¬(pre.length:Int)<(l.length:Int):=by omega
    simp only[dQ,pC,AT,acB bQ];rfl
  |succ n ih=>
   intro N pre last hp hN;cases N with
   |zero=>omega
   |succ N=>
    obtain⟨g1,g2,g3⟩:=JI pre last (by omega);have bQ:(pre.length:Int)<(l.length:Int):=by omega
    have hb:∀X:PV,((pre++[last]).map iv++[X]).length*8≤ag∧0<8:=fun X=>by refine⟨?_,by omega⟩;simp only[aln,BY,aiK,alh];unfold ag;omega
    simp only[dQ,pC,AT,T0 bQ,T0 g2,g3,U,R4,asInt,IT];simp only[iv,R4,asInt,IT,U,Ps l (by omega)];unfold grow;cases hx:dM l last with
    |none=>rfl
    |some m=>
     have afU:=Uq (pre++[last]) (by simp;omega) m;simp only[nh,bR,aiK,alh,Nat.reduceAdd,IT,adz,aiJ,asBool,asInt,U,alc,cond_false,afU];by_cases bk:m∈pre++[last]
     ·simp_all
     ·simp only[bk,alw,IN,Wi];rw[T0 (hb _)];have nO:(pre++[last]).map iv++[PV.int .i64 m]=(pre++[last]++[m]).map iv:=by simp[iv]
      have hk:IntKind.i64.wrap ((pre.length:Int)+1)=((pre++[last]).length:Int):=by rw[af (by omega)];simp
      rw[nO,hk];exact ih N (pre++[last]) m (by simp;omega) (by omega)
 exact key l.length rounds [] t (by simp) (by grind [rounds,decide])
theorem PF(l:List gw)(hl:l.length≤1000)(a b:Int):mC [.rs 2 (l.map gw.pv),.int .i64 a,.int .i64 b]=some (.bool (decide (b∈grow l l.length [] a))):=by
 have SH:(2000:Nat)≤maxLen:=by decide
 have hg:=PD l l.length [] a;simp only[alh]at hg;simp only[mC,xe,ah,asInt,IT,U,R6 l hl,BY];exact R5 _ (by omega) b
def pZ(fs:List bg)(t:Int):Bool:=decide (t∈fs.map bg.bp)
theorem Ju(fs:List bg)(hl:fs.length≤maxLen)(t:Int):cZ [.rs 4 (fs.map bg.pv),.int .i64 t]=some (.bool (pZ fs t)):=by
 have hm:=al;simp only[cZ,nc,ah,asInt,IT,U,BY];refine(cQ (fun k=>(t,fs.map bg.pv,(fs.length:Int),(k:Int),())) fs.length (fun k=>decide ((fs.map bg.bp)[k]?=some t)) (no:=some (.bool true)) (fin:=some (.bool false)) (fun k hk rec=>?_) (fun rec=>?_) ?_ rfl).trans ?_
 ·have h1:(k:Int)<(fs.length:Int):=by omega
  simp only[jT,AT,h1,IT,ab,IS,AI hk,No,U,pe,asInt,af (show k<9223372036854775807 by omega),cd,By]
 ·simp[jT,AT,alk,Wi]
 ·have:=aq;omega
 ·have h:=gB (fs.map bg.bp) fs.length (by simp) t;rw[h,alU (by simp)];unfold pZ;grind
theorem Ur(fs:List bg)(hl:fs.length≤maxLen)(t:Int):eH [.rs 4 (fs.map bg.pv),.int .i64 t]=some (.bool (pZ fs t)):=by
 have hm:=al;simp only[eH,uS,ah,asInt,IT,U,BY];refine(cQ (fun k=>(fs.map bg.pv,t,(k:Int),())) fs.length (fun k=>decide ((fs.map bg.bp)[k]?=some t)) (no:=some (.bool true)) (fin:=some (.bool false)) (fun k hk rec=>?_) (fun rec=>?_) ?_ rfl).trans ?_
 ·have h1:(k:Int)<(fs.length:Int):=by omega
  simp only[pD,AT,BY,h1,IT,ab,IS,AI hk,No,U,pe,asInt,af (show k<9223372036854775807 by omega),cd,By]
 ·simp[pD,AT,BY,alk,Wi]
 ·have:=aq;omega
 ·have h:=gB (fs.map bg.bp) fs.length (by simp) t;rw[h,alU (by simp)];unfold pZ;grind
def Cg(n m:Int):Bool:=decide (n≥0)&&decide (n<m)
theorem aa8(n m:Int):kF [.int .i64 n,.int .i64 m]=some (.bool (Cg n m)):=by simp only[kF,Ji,asInt,IT,U,bt];rfl
theorem acT(n:Int)(ts:List PV):fQ [.int .i64 n,.rp [.rs 5 ts]]=some (.bool (Cg n ts.length)):=by simp only[fQ,uo,asInt,ah,IT,U,bt];rfl
def lR(a b:Int)(n:Nat):Bool:= !Cg a n|| !Cg b n||decide (a=b)
def gg(fs:List bg)(a b:Int):Bool:=pZ fs a||pZ fs b
theorem LF(a b:Int)(ae:List bn)(fs:List bg)(hl:fs.length≤maxLen):kE [.int .i64 a,.int .i64 b,.rs 5 (ae.map bn.pv),.rs 4 (fs.map bg.pv)]=some (.aG [.int .i64 (if lR a b ae.length=true then 9 else 0),.int .i64 (if(!lR a b ae.length&&gg fs a b)=true then 17 else 0)]):=by simp only[kE,y8,asInt,ah,asBool,IT,U,acT,Ju fs hl,BY,aL,cd];unfold lR gg;grind
def po(a b:bn):Int:=if(!decide (a.vU=b.vU))=true then 15 else match a.calls[a.calls.length-1]?,b.calls[0]? with
 |some p,some q=>if(!decide (p.stop=q.stop))=true then 13 else if q.dep<p.arr then 10 else 0
 |_,_=>13
theorem PG(l:List aF)(h:0<l.length)(hl:l.length≤maxLen):IntKind.i64.wrap ((l.length:Int)-1)=((l.length-1:Nat):Int):=by grind [al,aW]
theorem ajd(l:List aF)(h:0<l.length):pG (l.map aF.pv) 0=some l[0].pv:=by rw[show(0:Int)=((0:Nat):Int)from rfl,ab,IS,AI h];rfl
theorem M7(a b:bn)(ha:a.Ok)(hb:b.Ok):ke [a.pv,b.pv]=some (.int .i64 (po a b)):=by
 have hm:=al;have ha1:=ha.calls.1;simp only[ke,su,Jo,pN,rN,pO,uX,lZ,aT,ah,asInt,asBool,IT,U,BY,aL,dy];unfold po;cases decide (a.vU=b.vU)with
 |false=>rfl
 |true=>
  simp only[alc,IN,Wi];by_cases h1:a.calls.length=0
  ·simp_all
  ·by_cases h2:b.calls.length=0
   ·simp_all
   ·have n1:((a.calls.length:Int)==0)=false:=by simp_all
    have n2:((b.calls.length:Int)==0)=false:=by simp_all
    have hk:a.calls.length-1<a.calls.length:=by omega
    have h0:0<b.calls.length:=by omega
    rw[n1,n2,PG a.calls (by omega) ha1,ajd b.calls h0];simp only[amg,IN,Wi,ab,IS,AI hk,AI h0,No,U,pK,vK,lY,asInt,IT];grind
def AE(l:List gw)(ae:List bn)(fs:List bg)(k:Nat):Int:=match l[k]? with
 |none=>0
 |some x=>if lR x.a x.b ae.length=true then 9 else if gg fs x.a x.b=true then 17 else match ae[x.a.toNat]?,ae[x.b.toNat]? with
  |some p,some q=>if po p q=0 then(if(decide (x.a∈(l.map gw.a).take k)||decide (x.b∈(l.map gw.b).take k))=true then 6 else if x.a∈grow (l.take k) k [] x.b then 19 else 0)else po p q
  |_,_=>0
def og(l:List gw)(ae:List bn)(fs:List bg):Int×Int:=if l.length>128 then(0,5)else bJ (AE l ae fs) l.length
theorem yN(a b:Int)(ae:List bn)(h:lR a b ae.length=false):∃(i j:Nat),a=i∧b=j∧i<ae.length∧j<ae.length:=by unfold lR Cg at h;simp only[alG,amh,ale,AT]at h;exact⟨a.toNat,b.toNat,by omega,by omega,by omega,by omega⟩
theorem aa9(l:List gw)(ae:List bn)(fs:List bg)(ht:ae.length≤maxLen∧∀y∈ae,y.Ok)(hf:fs.length≤maxLen):mD [.rs 2 (l.map gw.pv),.rs 5 (ae.map bn.pv),.rs 4 (fs.map bg.pv)]=some (res (og l ae fs).1 (og l ae fs).2):=by
 have hm:=al;simp only[mD,xf,ah,IT,U,BY];unfold og;by_cases gW:l.length>128
 ·rw[T0 (by simp;omega),T0 gW];rfl
 ·rw[acB (by simp;omega),acB gW,←cP];refine au (fun k=>(l.map gw.pv,ae.map bn.pv,fs.map bg.pv,l.map gw.pv,(l.length:Int),(k:Int),seen iv ((l.map gw.a).take k),seen iv ((l.map gw.b).take k),())) l.length _ (fun k hk rec=>?_) (fun rec=>?_) ?_ rfl
  ·have h1:(k:Int)<(l.length:Int):=by omega
   simp only[qp,AT,h1,IT,ab,IS,AI hk,No,U,aa6,aa7,asInt,LF _ _ ae fs hf,bR,aiK,alh,Nat.reduceAdd,adz,aiJ,dy,af (show k<9223372036854775807 by omega),jC gw.a l k hk,jC gw.b l k hk,BY];unfold AE;rw[AI hk];simp only;generalize l[k]=x;cases hp:lR x.a x.b ae.length with
   |true=>rfl
   |false=>
    cases hr:gg fs x.a x.b with
    |true=>rfl
    |false=>
     obtain⟨i,j,hi,hj,Fc,rz⟩:=yN x.a x.b ae hp;have xi:pG (ae.map bn.pv) x.a=some ae[i].pv:=by rw[hi,ab,IS,AI Fc];rfl
     have xj:pG (ae.map bn.pv) x.b=some ae[j].pv:=by rw[hj,ab,IS,AI rz];rfl
     have ti:ae[x.a.toNat]?=some ae[i]:=by simp_all
     have tj:ae[x.b.toNat]?=some ae[j]:=by simp_all
     have hfo:=M7 ae[i] ae[j] (ht.2 _ (alj Fc)) (ht.2 _ (alj rz));have la:bS (PV.int .i64 x.a) (.bool false) (seen iv ((l.map gw.a).take k))=.bool (decide (x.a∈(l.map gw.a).take k)):=eF vp x.a _;have lb:bS (PV.int .i64 x.b) (.bool false) (seen iv ((l.map gw.b).take k))=.bool (decide (x.b∈(l.map gw.b).take k)):=eF vp x.b _;have pa:dm (PV.int .i64 x.a) (.bool true) (seen iv ((l.map gw.a).take k))=seen iv ((l.map gw.a).take k++[x.a]):=fy vp x.a _;have pb:dm (PV.int .i64 x.b) (.bool true) (seen iv ((l.map gw.b).take k))=seen iv ((l.map gw.b).take k++[x.b]):=fy vp x.b _;have hc:(0:Int)≤0∧(0:Int)≤(k:Int)∧(k:Int)≤(l.length:Int)∧True∧2≠0:=⟨by omega,by omega,by omega,trivial,by omega⟩;have SR:(l.map gw.pv).take k=(l.take k).map gw.pv:=by simp
     have hle:=PF (l.take k) (by simp;omega) x.b x.a;have KQ:(l.take k).length=k:=by simp;omega
     rw[KQ]at hle;simp only[alA,ama,IN,Wi,alB,alc,xi,xj,ti,tj,U,pN,rN,pO,uX,lZ,Lx,hfo,asInt,IT,la,lb,asBool,aL,pa,pb,SR,ali,anV,anA,hle,T0 hc];by_cases hfe:po ae[i] ae[j]=0
     ·simp only[hfe,alB,alc,IN,Wi,IT];cases(decide (x.a∈(l.map gw.a).take k)||decide (x.b∈(l.map gw.b).take k))with
      |true=>rfl
      |false=>
       by_cases bk:x.a∈grow (l.take k) k [] x.b
       ·simp only[bk,alB,IT];rfl
       ·simp only[bk,alw,IN,Wi];rfl
     ·simp only[hfe,alw,alA,IT,Wi,AU,bu];rfl
  ·simp only[qp,AT,alk,Wi];rfl
  grind [rounds,decide]
theorem afV{A:Type}(l:List A)(p q:A→Bool):(l.any fun x=>p x||q x)=(l.any p||l.any q):=by grind
theorem acU(l:List gw)(hl:l.length≤1000)(ae:List bn)(fs:List bg)(ht:ae.length≤maxLen∧∀y∈ae,y.Ok)(hf:fs.length≤maxLen)(k:Nat)(hk:k<l.length):wm [.rs 2 (l.map gw.pv),.int .i64 k,.rs 5 (ae.map bn.pv),.rs 4 (fs.map bg.pv)]=some (.int .i64 (AE l ae fs k)):=by
 have hm:=al;simp only[wm,FP,ah,asInt,asBool,IT,U,ab,IS,AI hk,No,aa6,aa7,aa8,Ur fs hf,BY,aL,cd,dy];unfold AE;rw[AI hk];simp only;generalize hx:l[k]=x;have hpb:(!Cg x.a (ae.length:Int)|| !Cg x.b (ae.length:Int)||decide (x.a=x.b))=lR x.a x.b ae.length:=rfl;have hpr:(pZ fs x.a||pZ fs x.b)=gg fs x.a x.b:=rfl;rw[hpb,hpr];cases hp:lR x.a x.b ae.length with
 |true=>rfl
 |false=>
  cases hr:gg fs x.a x.b with
  |true=>rfl
  |false=>
   obtain⟨i,j,hi,hj,Fc,rz⟩:=yN x.a x.b ae hp;have xi:pG (ae.map bn.pv) x.a=some ae[i].pv:=by rw[hi,ab,IS,AI Fc];rfl
   have xj:pG (ae.map bn.pv) x.b=some ae[j].pv:=by rw[hj,ab,IS,AI rz];rfl
   have ti:ae[x.a.toNat]?=some ae[i]:=by simp_all
   have tj:ae[x.b.toNat]?=some ae[j]:=by simp_all
   have hai:=(ht.2 _ (alj Fc)).calls.1;simp only[IN,Wi,xi,xj,ti,tj,U,pO,lZ,asInt,ah,IT,BY];unfold po;cases decide (ae[i].vU=ae[j].vU)with
   |false=>rfl
   |true=>
    simp only[alc,IN,Wi];by_cases z1:ae[i].calls.length=0
    ·have e1:ae[i].calls=[]:=alv z1;have w:IntKind.i64.wrap (((([]:List aF).length:Nat):Int)-1)= -1:=by rfl
     simp_all
    ·rw[PG _ (by omega) hai];have VI:decide (((ae[i].calls.length-1:Nat):Int)<0)=false:=by simp
     simp only[VI,cond_false,U];by_cases z2:ae[j].calls.length=0
     ·simp_all
     ·have n2:decide ((ae[j].calls.length:Int)=0)=false:=amX (by omega);have ko:ae[i].calls.length-1<ae[i].calls.length:=by omega
      have h0:0<ae[j].calls.length:=by omega
      rw[n2,ajd _ h0];simp only[IN,cond_false,Wi,ab,IS,AI ko,AI h0,No,U,pK,vK,lY,asInt,IT];cases decide (ae[i].calls[ae[i].calls.length-1].stop=ae[j].calls[0].stop)with
      |false=>rfl
      |true=>
       simp only[alc,IN,Wi,AT];by_cases bQ:ae[j].calls[0].dep<ae[i].calls[ae[i].calls.length-1].arr
       ·simp_all
       ·rw[acB bQ,acB bQ];simp only[IT];have hc:(0:Int)≤0∧(0:Int)≤(k:Int)∧(k:Int)≤((l.map gw.pv).length:Int)∧True∧2≠0:=⟨by omega,by omega,by simp;omega,trivial,by omega⟩;have SR:(l.map gw.pv).take k=(l.take k).map gw.pv:=by simp
        have KQ:(l.take k).length=k:=by simp;omega
        have hch:=WB (l.take k) (by omega) x.b;rw[KQ]at hch;have hg:=PD (l.take k) k [] x.b;simp only[alh]at hg;have afU:=Uq (grow (l.take k) k [] x.b) (by grind [maxLen,decide]) x.a;refine(cQ (fun j=>(l.map gw.pv,(k:Int),(j:Int),PV.int .i64 x.a,PV.int .i64 x.b,())) k (fun j=>decide ((l.map gw.a)[j]?=some x.a)||decide ((l.map gw.b)[j]?=some x.b)) (no:=some (.int .i64 6)) (fin:=some (.int .i64 (if x.a∈grow (l.take k) k [] x.b then 19 else 0))) (fun j hj rec=>?_) (fun rec=>?_) ?_ rfl).trans ?_
        ·have h1:(j:Int)<(k:Int):=by omega
         have rz:j<l.length:=by omega
         simp only[zq,AT,h1,IT,ab,IS,AI rz,No,U,aa6,aa7,asInt,af (show j<9223372036854775807 by omega),cd,aL,By]
        ·simp only[zq,AT,alk,Wi,T0 hc,SR,ali,anV,anA,asInt,IT,U,hch,ah,afU,asBool];split<;>rfl
        ·grind [rounds,decide]
        ·rw[afV,gB _ k (by simp;omega),gB _ k (by simp;omega)];split<;>rfl
theorem acV(l:List gw)(ae:List bn)(fs:List bg)(ht:ae.length≤maxLen∧∀y∈ae,y.Ok)(hf:fs.length≤maxLen):rj [.rs 2 (l.map gw.pv),.rs 5 (ae.map bn.pv),.rs 4 (fs.map bg.pv)]=some (res (og l ae fs).1 (og l ae fs).2):=by
 have hm:=al;simp only[rj,Bl,ah,IT,U,BY];unfold og;by_cases gW:l.length>128
 ·rw[T0 (by simp;omega),T0 gW];rfl
 ·rw[acB (by simp;omega),acB gW,←cP];refine au (fun k=>(l.map gw.pv,ae.map bn.pv,fs.map bg.pv,(k:Int),())) l.length _ (fun k hk rec=>?_) (fun rec=>?_) ?_ rfl
  ·have h1:(k:Int)<(l.length:Int):=by omega
   simp only[vl,AT,BY,h1,IT,acU l (by omega) ae fs ht hf k hk,U,asInt,af (show k<9223372036854775807 by omega),dy];grind [AE,AU,bu,res]
  ·simp only[vl,AT,BY,alk,Wi];rfl
  grind [rounds,decide]
def u7(l:List aF)(s:Int)(k:Nat):Bool:=decide (0<k)&&(match l[k]? with|some x=>decide (x.stop=s)&&x.JC|none=>false)
def sD(l:List aF)(s:Int)(k:Nat):Bool:=decide (k+1<l.length)&&(match l[k]? with|some x=>decide (x.stop=s)&&x.Py|none=>false)
def zD(o:Option Nat):Int:=match o with|some k=>k|none=> -1
theorem PH(i:Nat):decide (zD (some i)<0)=false:=by rfl
theorem aba(l:List aF)(hl:l.length≤maxLen)(s:Int):iB [.rs 5 (l.map aF.pv),.int .i64 s]=some (.int .i64 (zD ((List.range l.length).find? (u7 l s)))):=by
 have hm:=al;simp only[iB,oW,ah,asInt,IT,U,BY];refine(au (fun k=>(s,l.map aF.pv,(l.length:Int),(k:Int),())) l.length (fun k=>if u7 l s k=true then some (some (.int .i64 (k:Int)))else none) (fin:=some (.int .i64 (-1))) (fun k hk rec=>?_) (fun rec=>?_) ?_ rfl).trans ?_
 ·have h1:(k:Int)<(l.length:Int):=by omega
  have h2:decide ((k:Int)>0)=decide (0<k):=by simp
  simp only[kD,AT,h1,IT,ab,IS,AI hk,No,U,pK,GV,asInt,asBool,af (show k<9223372036854775807 by omega),cd,bt,u7,h2];cases decide (0<k)<;>cases decide (l[k].stop=s)<;>cases l[k].JC<;>rfl
 ·simp[kD,AT,alk,Wi]
 ·have:=aq;omega
 ·rw[fM];cases(List.range l.length).find? (u7 l s)<;>rfl
theorem abb(l:List aF)(hl:l.length<maxLen)(s:Int):jt [.rs 5 (l.map aF.pv),.int .i64 s]=some (.int .i64 (zD ((List.range l.length).find? (sD l s)))):=by
 have hm:=al;simp only[jt,qn,ah,asInt,IT,U,BY];refine(au (fun k=>(l.map aF.pv,s,l.map aF.pv,(l.length:Int),(k:Int),())) l.length (fun k=>if sD l s k=true then some (some (.int .i64 (k:Int)))else none) (fin:=some (.int .i64 (-1))) (fun k hk rec=>?_) (fun rec=>?_) ?_ rfl).trans ?_
 ·have h1:(k:Int)<(l.length:Int):=by omega
  have h2:decide (((k+1:Nat):Int)<(l.length:Int))=decide (k+1<l.length):=by grind
  simp only[lJ,AT,h1,IT,ab,IS,AI hk,No,U,pK,GU,asInt,asBool,af (show k<9223372036854775807 by omega),cd,bt,sD,BY,h2];cases decide (k+1<l.length)<;>cases decide (l[k].stop=s)<;>cases l[k].Py<;>rfl
 ·simp[lJ,AT,alk,Wi]
 ·have:=aq;omega
 ·rw[fM];cases(List.range l.length).find? (sD l s)<;>rfl
def WS(a b:List aF)(i k:Nat):Bool:=match a[i]?,b[k]? with|some p,some q=> !decide (q.dep<p.arr)|_,_=>false
def Pk(i k:Nat)(m:Bool):PV:=if m=true then .aG [.int .i64 i,.int .i64 k,.bool true]else .aG [.int .i64 0,.int .i64 0,.bool false]
def WC:PV:=.aG [.int .i64 0,.int .i64 0,.bool false]
def wj(a b:List aF)(s:Int):PV:=match(List.range a.length).find? (u7 a s)with
 |none=>WC
 |some i=>match(List.range b.length).find? (sD b s)with
  |none=>WC
  |some k=>Pk i k (WS a b i k)
def js(a b:List aF)(s:Int):Bool:=match(List.range a.length).find? (u7 a s)with
 |none=>false
 |some i=>match(List.range b.length).find? (sD b s)with
  |none=>false
  |some k=>WS a b i k
theorem LG(a b:List aF)(s:Int):∃n m,wj a b s=.aG [.int .i64 n,.int .i64 m,.bool (js a b s)]:=by
 unfold wj js;cases(List.range a.length).find? (u7 a s)with
 |none=>exact⟨0,0,rfl⟩
 |some i=>
  cases(List.range b.length).find? (sD b s)with
  |none=>exact⟨0,0,rfl⟩
  |some k=>
   simp only[Pk];cases WS a b i k
   ·simp
   simp
theorem Us(p:Nat→Bool)(n i:Nat)(h:(List.range n).find? p=some i):i<n:=by simp_all
theorem JB(a b:List aF)(ha:a.length≤maxLen)(hb:b.length<maxLen)(s:Int):gx [.rs 5 (a.map aF.pv),.rs 5 (b.map aF.pv),.int .i64 s]=some (wj a b s):=by
 simp only[gx,xc,ah,asInt,IT,U,aba a ha s,abb b hb s,aL];unfold wj;cases hi:(List.range a.length).find? (u7 a s)with
 |none=>rfl
 |some i=>
  have Fc:=Us _ _ _ hi;cases hk:(List.range b.length).find? (sD b s)with
  |none=>rfl
  |some k=>have yf:=Us _ _ _ hk;have h1:decide (zD (some i)<0)=false:=PH i;have h2:decide (zD (some k)<0)=false:=PH k;rw[h1,h2];simp only[zD,amg,cond_false,ab,IS,AI Fc,AI yf,No,U,vK,lY,asInt,IT,AT,Pk,WS];grind
theorem abc(a b:List aF)(hb:b.length<maxLen)(s:Int)(i:Nat)(hi:i<a.length):aX.run pE (a.map aF.pv,b.map aF.pv,s,(i:Int),0,())=some (match(List.range b.length).find? (sD b s)with
 |none=>WC
 |some k=>Pk i k (WS a b i k)):=by
 have hm:=al
 refine(au (fun k=>(a.map aF.pv,b.map aF.pv,s,(i:Int),(k:Int),())) (b.length-1) (fun k=>if sD b s k=true then some (some (Pk i k (WS a b i k)))else none) (fin:=some WC) (fun k hk rec=>?_) (fun rec=>?_) ?_ rfl).trans ?_
 ·have yf:k<b.length:=by omega
  have h1:((k+1:Nat):Int)<(b.length:Int):=by omega
  have h2:decide (k+1<b.length)=true:=by grind
  simp only[pE,AT,af (show k<9223372036854775807 by omega),BY,h1,IT,ab,IS,AI yf,AI hi,No,U,pK,vK,lY,GU,asInt,asBool,cd,bt,sD,h2,Pk,WS,ama];cases(decide (b[k].stop=s)&&b[k].Py)with
  |false=>rfl
  |true=>
   by_cases h:b[k].dep<a[i].arr
   ·simp only[h,IT,alB,alc,IN,Wi];rfl
   ·simp only[h,IT,alw,alA,Wi];rfl
 ·have hw:IntKind.i64.wrap (((b.length-1:Nat):Int)+1)=((b.length-1+1:Nat):Int):=af (by omega);have h1:¬((b.length-1+1:Nat):Int)<(b.length:Int):=by omega
  simp only[pE,AT,hw,BY,acB h1];rfl
 ·have:=aq;omega
 ·rw[fM];have JD:(List.range b.length).find? (sD b s)=(List.range (b.length-1)).find? (sD b s):=by
   cases PU:b.length with
   |zero=>rfl
   |succ n=>
    have adm:sD b s n=false:=by unfold sD;rw[PU];simp
    simp_all[amc,anW,anu,aoo,Option.or_none,amE]
  rw[JD];cases(List.range (b.length-1)).find? (sD b s)<;>rfl
theorem Lz(a b:List aF)(ha:a.length<maxLen)(hb:b.length<maxLen)(s:Int):l9 [.rs 5 (a.map aF.pv),.rs 5 (b.map aF.pv),.int .i64 s]=some (wj a b s):=by
 have hm:=al;simp only[l9,Bm,ah,asInt,IT,U];refine(au (fun k=>(a.map aF.pv,b.map aF.pv,s,((k+1:Nat):Int),())) (a.length-1) (fun k=>if u7 a s (k+1)=true then some (some (match(List.range b.length).find? (sD b s)with|none=>WC|some j=>Pk (k+1) j (WS a b (k+1) j)))else none) (fin:=some WC) (fun k hk rec=>?_) (fun rec=>?_) ?_ rfl).trans ?_
 ·have yf:k+1<a.length:=by omega
  have h1:((k+1:Nat):Int)<(a.length:Int):=by omega
  have h2:decide (0<k+1)=true:=by simp
  simp only[vn,AT,BY,h1,IT,ab,IS,AI yf,No,U,pK,GV,asInt,asBool,dy,aL,u7,h2,ama,af (show k+1<9223372036854775807 by omega),abc a b hb s (k+1) yf];cases decide (a[k+1].stop=s)<;>cases a[k+1].JC<;>rfl
 ·have h1:¬((a.length-1+1:Nat):Int)<(a.length:Int):=by omega
  simp only[vn,AT,BY,acB h1];rfl
 ·have:=aq;omega
 ·rw[fM (fun k=>u7 a s (k+1))];unfold wj;cases Sr:a.length with
  |zero=>rfl
  |succ n=>
   have h0:u7 a s 0=false:=by rfl
   rw[amO,anu,h0,amE,List.find?_map];cases hf:(List.range n).find? (fun k=>u7 a s (k+1))with
   |none=>have:(List.range n).find? (u7 a s∘Nat.succ)=none:=hf;rw[this];rfl
   |some i=>have:(List.range n).find? (u7 a s∘Nat.succ)=some i:=hf;rw[this];rfl
theorem Pm(x:gn):cell x.pv 0=.int .i64 x.a:=rfl
theorem Pn(x:gn):cell x.pv 1=.int .i64 x.b:=rfl
theorem Po(x:gn):cell x.pv 2=.int .i64 x.stop:=rfl
theorem aje(x:gn):PV.agg [.int .i64 x.a,.int .i64 x.b,.int .i64 x.stop]=x.pv:=rfl
theorem PI(a b c:Int):iV (Kd.int .i64::[].append (Kd.int .i64::[].append (Kd.int .i64::[].append []))) [.int .i64 a,.int .i64 b,.int .i64 c]=true:=rfl
theorem JJ(x y:gn):bM x.pv.cells y.pv.cells=decide (x=y):=by show bM [.int .i64 x.a,.int .i64 x.b,.int .i64 x.stop] [.int .i64 y.a,.int .i64 y.b,.int .i64 y.stop]=_;simp only[bM,peq,amH,cd];rw[alE];simp only[ale,AT];cases x;cases y;simp
def wh(l:List gn)(ae:List bn)(fs:List bg)(stops:Int)(k:Nat):Int:=match l[k]? with
 |none=>0
 |some x=>if(lR x.a x.b ae.length|| !Cg x.stop stops)=true then 9 else if gg fs x.a x.b=true then 17 else match ae[x.a.toNat]?,ae[x.b.toNat]? with
  |some p,some q=>if js p.calls q.calls x.stop=false then 19 else if x∈l.take k then 6 else 0
  |_,_=>0
def j9(l:List gn)(ae:List bn)(fs:List bg)(stops:Int):Int×Int:=if l.length>128 then(0,5)else bJ (wh l ae fs stops) l.length
theorem WD(l:List gn)(ae:List bn)(fs:List bg)(stops:Int)(ht:ae.length≤maxLen∧∀y∈ae,y.Ok)(yg:∀y∈ae,y.calls.length≤40)(hf:fs.length≤maxLen):ey [.rs 3 (l.map gn.pv),.rs 5 (ae.map bn.pv),.rs 4 (fs.map bg.pv),.int .i64 stops]=some (res (j9 l ae fs stops).1 (j9 l ae fs stops).2):=by
 have hm:=al;have cS:1000≤maxLen:=by decide
 simp only[ey,iR,ah,asInt,IT,U,BY];unfold j9;by_cases gW:l.length>128
 ·rw[T0 (by simp;omega),T0 gW];rfl
 ·rw[acB (by simp;omega),acB gW,←cP];refine au (fun k=>(ae.map bn.pv,fs.map bg.pv,stops,l.map gn.pv,(l.length:Int),(k:Int),seen gn.pv (l.take k),())) l.length _ (fun k hk rec=>?_) (fun rec=>?_) ?_ rfl
  ·have h1:(k:Int)<(l.length:Int):=by omega
   have nO:l.take (k+1)=l.take k++[l[k]]:=(amp hk).symm;simp only[gd,AT,h1,IT,ab,IS,AI hk,No,U,Pm,Pn,Po,asInt,LF _ _ ae fs hf,bR,aiK,alh,Nat.reduceAdd,adz,aiJ,dy,aL,af (show k<9223372036854775807 by omega),nO,BY];unfold wh;rw[AI hk];simp only;generalize l[k]=x;have pV:(!Cg x.stop stops)=(decide (x.stop<0)||decide (x.stop≥stops)):=by unfold Cg;grind
   rw[pV];cases hp:lR x.a x.b ae.length with
   |true=>rfl
   |false=>
    simp only[alA,ama,ana,IN,Wi,alB,alc];cases(decide (x.stop<0)||decide (x.stop≥stops))with
    |true=>rfl
    |false=>
     cases hr:gg fs x.a x.b with
     |true=>rfl
     |false=>
      obtain⟨i,j,hi,hj,Fc,rz⟩:=yN x.a x.b ae hp;have xi:pG (ae.map bn.pv) x.a=some ae[i].pv:=by rw[hi,ab,IS,AI Fc];rfl
      have xj:pG (ae.map bn.pv) x.b=some ae[j].pv:=by rw[hj,ab,IS,AI rz];rfl
      have ti:ae[x.a.toNat]?=some ae[i]:=by simp_all
      have tj:ae[x.b.toNat]?=some ae[j]:=by simp_all
      have hci:=yg _ (alj Fc);have hcj:=yg _ (alj rz);have hmt:=JB ae[i].calls ae[j].calls (by omega) (by omega) x.stop;obtain⟨n1,n2,hmp⟩:=LG ae[i].calls ae[j].calls x.stop;have jY:bS x.pv (.bool false) (seen gn.pv (l.take k))=.bool (decide (x∈l.take k)):=eF JJ x _;have mJ:dm x.pv (.bool true) (seen gn.pv (l.take k))=seen gn.pv (l.take k++[x]):=fy JJ x _;simp only[IN,Wi,alB,alc,xi,xj,ti,tj,U,lZ,ah,asInt,asBool,IT,hmt,hmp,bR,aiK,alh,Nat.reduceAdd,adz,aiJ,PI,aje,jY,mJ];cases js ae[i].calls ae[j].calls x.stop with
      |false=>rfl
      |true=>
       by_cases bk:x∈l.take k
       ·simp only[bk,alB,IT,alc,IN,alp,Wi];rfl
       ·simp only[bk,alw,alc,IN,alp,Wi];rfl
  ·simp only[gd,AT,alk,Wi];rfl
  grind [rounds,decide]
theorem abd(l:List gn)(hl:l.length≤1000)(ae:List bn)(fs:List bg)(stops:Int)(yg:∀y∈ae,y.calls.length≤40)(hf:fs.length≤maxLen)(k:Nat)(hk:k<l.length):kg [.rs 3 (l.map gn.pv),.int .i64 k,.rs 5 (ae.map bn.pv),.rs 4 (fs.map bg.pv),.int .i64 stops]=some (.int .i64 (wh l ae fs stops k)):=by
 have hm:=al;have cS:1000≤maxLen:=by decide
 simp only[kg,sx,ah,asInt,asBool,IT,U,ab,IS,AI hk,No,Pm,Pn,Po,aa8,Ur fs hf,BY,aL,cd,dy];unfold wh;rw[AI hk];simp only;generalize hx:l[k]=x;have hpb:(!Cg x.a (ae.length:Int)|| !Cg x.b (ae.length:Int)||decide (x.a=x.b))=lR x.a x.b ae.length:=rfl;have hpr:(pZ fs x.a||pZ fs x.b)=gg fs x.a x.b:=rfl;rw[hpb,hpr];cases hp:lR x.a x.b ae.length with
 |true=>rfl
 |false=>
  cases hs:Cg x.stop stops with
  |false=>rfl
  |true=>
   cases hr:gg fs x.a x.b with
   |true=>rfl
   |false=>
    obtain⟨i,j,hi,hj,Fc,rz⟩:=yN x.a x.b ae hp;have xi:pG (ae.map bn.pv) x.a=some ae[i].pv:=by rw[hi,ab,IS,AI Fc];rfl
    have xj:pG (ae.map bn.pv) x.b=some ae[j].pv:=by rw[hj,ab,IS,AI rz];rfl
    have ti:ae[x.a.toNat]?=some ae[i]:=by simp_all
    have tj:ae[x.b.toNat]?=some ae[j]:=by simp_all
    have hci:=yg _ (alj Fc);have hcj:=yg _ (alj rz);have hmt:=Lz ae[i].calls ae[j].calls (by omega) (by omega) x.stop;obtain⟨n1,n2,hmp⟩:=LG ae[i].calls ae[j].calls x.stop;simp only[alc,amg,IN,Wi,xi,xj,ti,tj,U,lZ,ah,asInt,asBool,IT,hmt,hmp,bR,aiK,alh,Nat.reduceAdd,adz,aiJ];cases js ae[i].calls ae[j].calls x.stop with
    |false=>rfl
    |true=>
     simp only[alc,IN,alp,Wi];refine(cQ (fun j=>(l.map gn.pv,(k:Int),(j:Int),PV.int .i64 x.a,PV.int .i64 x.b,PV.int .i64 x.stop,())) k (fun j=>decide (l[j]?=some x)) (no:=some (.int .i64 6)) (fin:=some (.int .i64 0)) (fun j hj rec=>?_) (fun rec=>?_) ?_ rfl).trans ?_
     ·have h1:(j:Int)<(k:Int):=by omega
      have rz:j<l.length:=by omega
      have sW:bM [PV.int .i64 l[j].a,.int .i64 l[j].b,.int .i64 l[j].stop] [.int .i64 x.a,.int .i64 x.b,.int .i64 x.stop]=decide (l[j]=x):=JJ l[j] x;simp only[nm,AT,h1,IT,ab,IS,AI rz,No,U,Pm,Pn,Po,PI,and_self,sW,af (show j<9223372036854775807 by omega),By]
     ·simp[nm,AT,alk,Wi]
     ·grind [rounds,decide]
     ·rw[gB l k (by omega)];grind
theorem abe(l:List gn)(ae:List bn)(fs:List bg)(stops:Int)(yg:∀y∈ae,y.calls.length≤40)(hf:fs.length≤maxLen):fj [.rs 3 (l.map gn.pv),.rs 5 (ae.map bn.pv),.rs 4 (fs.map bg.pv),.int .i64 stops]=some (res (j9 l ae fs stops).1 (j9 l ae fs stops).2):=by
 have hm:=al;simp only[fj,jS,ah,asInt,IT,U,BY];unfold j9;by_cases gW:l.length>128
 ·rw[T0 (by simp;omega),T0 gW];rfl
 ·rw[acB (by simp;omega),acB gW,←cP];refine au (fun k=>(l.map gn.pv,ae.map bn.pv,fs.map bg.pv,stops,(k:Int),())) l.length _ (fun k hk rec=>?_) (fun rec=>?_) ?_ rfl
  ·have h1:(k:Int)<(l.length:Int):=by omega
   simp only[gS,AT,BY,h1,IT,abd l (by omega) ae fs stops yg hf k hk,U,asInt,af (show k<9223372036854775807 by omega),dy];grind [wh,AU,bu,res]
  ·simp only[gS,AT,BY,alk,Wi];rfl
  grind [rounds,decide]
def wb(T:aj):Nat→Int×Int
 |0=>fb T.stops
 |1=>dR T.ai
 |2=>BA T.dL
 |3=>BB T.lI T.dL.length
 |4=>mf T.ae T.stops.length T.ai.length T.dL.length
 |5=>qU T.aU T.ae
 |6=>og T.cm T.ae T.aU
 |7=>j9 T.bL T.ae T.aU T.stops.length
 |8=>jX T.paths T.stops.length
 |_=>cT T.aB T.aZ T.within T.cap
def ow(p i e:Int):PV:=.aG [.int .i64 p,.int .i64 i,.int .i64 e]
def we(T:aj)(p:Nat):Option (Option PV):=if(wb T p).2=0 then none else some (some (ow p (wb T p).1 (wb T p).2))
theorem Mm(T:aj):asAgg 13 T.pv=some ():=rfl
theorem Mn(T:aj):cell T.pv 0=.rs 4 (T.stops.map Stop.pv):=rfl
theorem Mo(T:aj):cell T.pv 1=.rs 3 (T.ai.map az.pv):=rfl
theorem Mp(T:aj):cell T.pv 2=.rs 10 (T.dL.map oX.pv):=rfl
theorem Mq(T:aj):cell T.pv 3=.rs 3 (T.lI.map sN.pv):=rfl
theorem Mr(T:aj):cell T.pv 4=.rs 5 (T.ae.map bn.pv):=rfl
theorem Ms(T:aj):cell T.pv 5=.rs 4 (T.aU.map bg.pv):=rfl
theorem Mt(T:aj):cell T.pv 6=.rs 2 (T.cm.map gw.pv):=rfl
theorem Mu(T:aj):cell T.pv 7=.rs 3 (T.bL.map gn.pv):=rfl
theorem Mv(T:aj):cell T.pv 8=.rs 4 (T.paths.map Path.pv):=rfl
theorem Mw(T:aj):cell T.pv 9=.rs 6 (T.aB.map ba.pv):=rfl
theorem yO(T:aj):cell T.pv 10=.int .i64 T.aZ:=rfl
theorem yP(T:aj):cell T.pv 11=.int .i64 T.within:=rfl
theorem yQ(T:aj):cell T.pv 12=.int .i64 T.cap:=rfl
theorem ttF(l:List ba)(a b c:Int):PV.agg [.rs 6 (l.map ba.pv),.int .i64 a,.int .i64 b,.int .i64 c]=s7 l a b c:=rfl
theorem PX(T:aj):PV.agg [.rs 4 (T.stops.map Stop.pv),.rs 3 (T.ai.map az.pv),.rs 10 (T.dL.map oX.pv),.rs 3 (T.lI.map sN.pv),.rs 5 (T.ae.map bn.pv),.rs 4 (T.aU.map bg.pv),.rs 2 (T.cm.map gw.pv),.rs 3 (T.bL.map gn.pv),.rs 4 (T.paths.map Path.pv),.rs 6 (T.aB.map ba.pv),.int .i64 T.aZ,.int .i64 T.within,.int .i64 T.cap]=T.pv:=rfl
def Small(T:aj):Prop:=∀y∈T.ae,y.calls.length≤40
theorem abf(T:aj)(hT:T.Ok)(hs:Small T)(p:Nat)(hp:p<10):tB [T.pv,.int .i64 p]=some (res (wb T p).1 (wb T p).2):=by
 have h0:=aaX T.stops hT.stops;have h1:=Wr T.ai hT.ai;have h2:=acN T.dL hT.dL;have h3:=acO T.lI T.dL.length hT.lI;have h4:=aa1 T.ae T.stops.length T.ai.length T.dL.length hT.ae;have h5:=aa5 T.aU T.ae hT.ae hs hT.aU.1;have h6:=acV T.cm T.ae T.aU hT.ae hT.aU.1;have h7:=abe T.bL T.ae T.aU T.stops.length hs hT.aU.1;have h8:=Oq T.paths T.stops.length hT.paths.1;have h9:=R1 T.aB T.aZ T.within T.cap hT.aB;simp only[res]at h0 h1 h2 h3 h4 h5 h6 h7 h8 h9;simp only[tB,DA,Mm,Mn,Mo,Mp,Mq,Mr,Ms,Mt,Mu,Mv,Mw,yO,yP,yQ,ah,asInt,IT,U,BY,ttF,h0,h1,h2,h3,h4,h5,h6,h7,h8,h9,bR,aiK,alh,Nat.reduceAdd,adz,aiJ];match p,hp with
 |0,_=>rfl
 |1,_=>rfl
 |2,_=>rfl
 |3,_=>rfl
 |4,_=>rfl
 |5,_=>rfl
 |6,_=>rfl
 |7,_=>rfl
 |8,_=>rfl
 |9,_=>rfl
theorem Lf(T:aj)(hT:T.Ok)(hs:Small T):jM [T.pv]=bu ((List.range 10).findSome? (we T)) (some (ow 0 0 0)):=by
 simp only[jM,Bp,Mm,Mn,Mo,Mp,Mq,Mr,Ms,Mt,Mu,Mv,Mw,yO,yP,yQ,ah,asInt,IT,U];refine au (fun k=>((k:Int),T.stops.map Stop.pv,T.ai.map az.pv,T.dL.map oX.pv,T.lI.map sN.pv,T.ae.map bn.pv,T.aU.map bg.pv,T.cm.map gw.pv,T.bL.map gn.pv,T.paths.map Path.pv,T.aB.map ba.pv,T.aZ,T.within,T.cap,())) 10 _ (fun k hk rec=>?_) (fun rec=>?_) ?_ rfl
 ·have h1:(k:Int)<10:=by omega
  have hp:=abf T hT hs k hk;simp only[res]at hp;simp only[Bz,AT,h1,IT,PX,hp,U,bR,asInt,aiK,alh,Nat.reduceAdd,adz,aiJ,dy,af (show k<9223372036854775807 by omega),we];grind [wb,bu,ow]
 ·rfl
 decide
theorem IX(T:aj)(hT:T.Ok)(hs:Small T):dW [T.pv]=bu ((List.range 10).findSome? (we T)) (some (ow 0 0 0)):=by
 have h0:=Lg T.stops hT.stops;have h1:=I2 T.ai hT.ai;have h2:=aaY T.dL hT.dL;have h3:=aaZ T.lI T.dL.length hT.lI;have h4:=Wu T.ae T.stops.length T.ai.length T.dL.length hT.ae;have h5:=WA T.aU T.ae hT.ae hs hT.aU.1;have h6:=aa9 T.cm T.ae T.aU hT.ae hT.aU.1;have h7:=WD T.bL T.ae T.aU T.stops.length hT.ae hs hT.aU.1;have h8:=Le T.paths T.stops.length hT.paths.1;have h9:=I3 T.aB T.aZ T.within T.cap hT.aB;simp only[res]at h0 h1 h2 h3 h4 h5 h6 h7 h8 h9;have w1:IntKind.i64.wrap (0+1)=1:=by rfl
 have w2:IntKind.i64.wrap (1+1)=2:=by rfl
 have w3:IntKind.i64.wrap (2+1)=3:=by rfl
 have w4:IntKind.i64.wrap (3+1)=4:=by rfl
 have w5:IntKind.i64.wrap (4+1)=5:=by rfl
 have w6:IntKind.i64.wrap (5+1)=6:=by rfl
 have w7:IntKind.i64.wrap (6+1)=7:=by rfl
 have w8:IntKind.i64.wrap (7+1)=8:=by rfl
 have w9:IntKind.i64.wrap (8+1)=9:=by rfl
 simp only[dW,sw,ig,nW,ij,oa,il,nX,im,ob,iq,nY,ir,n9,iu,nZ,iw,oc,iy,nU,gF,mP,Mm,Mn,Mo,Mp,Mq,Mr,Ms,Mt,Mu,Mv,Mw,yO,yP,yQ,ah,asInt,IT,U,BY,ttF,h0,h1,h2,h3,h4,h5,h6,h7,h8,h9,bR,aiK,alh,Nat.reduceAdd,adz,aiJ,w1,w2,w3,w4,w5,w6,w7,w8,w9,dy];have hr:List.range 10=[0,1,2,3,4,5,6,7,8,9]:=by rfl
 rw[hr];simp only[al8,anT,we,wb,ow];generalize fb T.stops=r0;generalize dR T.ai=r1;generalize BA T.dL=r2;generalize BB T.lI T.dL.length=r3;generalize mf T.ae T.stops.length T.ai.length T.dL.length=r4;generalize qU T.aU T.ae=r5;generalize og T.cm T.ae T.aU=r6;generalize j9 T.bL T.ae T.aU T.stops.length=r7;generalize jX T.paths T.stops.length=r8;generalize cT T.aB T.aZ T.within T.cap=r9;by_cases e0:r0.2=0;rotate_left
 ·simp[e0,bu]
 by_cases e1:r1.2=0;rotate_left
 ·simp[e0,e1,bu]
 by_cases e2:r2.2=0;rotate_left
 ·simp[e0,e1,e2,bu]
 by_cases e3:r3.2=0;rotate_left
 ·simp[e0,e1,e2,e3,bu]
 by_cases e4:r4.2=0;rotate_left
 ·simp[e0,e1,e2,e3,e4,bu]
 by_cases e5:r5.2=0;rotate_left
 ·simp[e0,e1,e2,e3,e4,e5,bu]
 by_cases e6:r6.2=0;rotate_left
 ·simp_all[bu]
 by_cases e7:r7.2=0;rotate_left
 ·simp_all[bu]
 by_cases e8:r8.2=0;rotate_left
 ·simp_all[bu]
 by_cases e9:r9.2=0;rotate_left
 ·simp_all[bu]
 simp_all[bu]
end Go.Ab.Tt
