import Derived.Test.YteddgaennnfacaaGreatTtChk0
import Derived.Test.YteddgaennnfacaaGreatSh3
namespace Go.Ab.Tt
set_option maxRecDepth 100000
set_option linter.all false
theorem xV(s:Bytes)(hs:s.length≤maxLen):eM [.str s]=some (.bool (eo s)):=by
 have hm:=al;simp only[eM,AN,aT,U];refine(IY s hs jI (some (.bool false)) (some (.bool (decide ((s.length:Int)>0)&&decide ((s.length:Int)≤32)))) (fun k hk rec=>?_) (fun rec=>?_)).trans ?_
 ·have h1:(k:Int)<(s.length:Int):=by omega
  simp only[uy,AT,h1,IT,AO,AI hk,U,bt,af (show k<9223372036854775807 by omega),cd];grind [jI,decide]
 ·simp[uy,AT,alk,Wi,bt,U]
 ·unfold eo;cases s.all jI with
  |true=>simp only[IT,amH,By,PV.bool.injEq];grind
  |false=>simp
theorem B3{body:Bytes×Int×Unit→(Bytes×Int×Unit→Option PV)→Option PV}(s:Bytes)(hs:s.length≤maxLen)(h:∀k,(hk:k<s.length)→∀rec,body (s,(k:Int),()) rec=if jI s[k]then rec (s,((k+1:Nat):Int),())else some (.bool false))(xD:∀rec,body (s,(s.length:Int),()) rec=some (.bool true)){c:Bool}(hc:c= !(decide (1≤s.length)&&decide (s.length≤32))):(if c=true then some (.bool false)else aX.run body (s,0,()))=some (.bool (eo s)):=by rw[IY s hs jI _ _ h xD,hc];unfold eo;grind
theorem yR(s:Bytes)(hs:s.length≤maxLen):fq [.str s]=some (.bool (eo s)):=by
 have hm:=al;simp only[fq,wN,aT,U,aL];refine B3 s hs (fun k hk rec=>?_) (fun rec=>?_) ?_
 ·have h1:(k:Int)<(s.length:Int):=by omega
  simp only[qg,AT,h1,IT,AO,AI hk,U,bt,aL,af (show k<9223372036854775807 by omega),dy];grind [jI,ge_iff_le,decide]
 ·simp[qg,AT,alk,Wi]
 grind
def Hi(l:List Stop)(k:Nat):Int:=match l[k]? with
 |none=>0
 |some x=>if eo x.id=false then 12 else if x.id∈(l.map Stop.id).take k then 6 else if(decide (x.zM<0)||decide (x.zM≥16)||decide (x.change<0)||decide (x.change>3600))=true then 2 else 0
def fb(l:List Stop):Int×Int:=if l.length>64 then(0,5)else bJ (Hi l) l.length
theorem Lg(l:List Stop)(hl:l.length≤maxLen∧∀y∈l,y.Ok):oA [.rs 4 (l.map Stop.pv)]=some (res (fb l).1 (fb l).2):=by
 have hm:=al;simp only[oA,Dc,ah,IT,U,BY];unfold fb;by_cases gW:l.length>64
 ·rw[T0 (by simp;omega),T0 gW];rfl
 ·rw[acB (by simp;omega),acB gW,←cP];refine au (fun k=>(l.map Stop.pv,(l.length:Int),(k:Int),seen PV.str ((l.map Stop.id).take k),())) l.length _ (fun k hk rec=>?_) (fun rec=>?_) ?_ rfl
  ·have h1:(k:Int)<(l.length:Int):=by omega
   have hid:=xV l[k].id (hl.2 _ (alj hk)).id;have mJ:=fy qE l[k].id ((l.map Stop.id).take k);have jY:=eF qE l[k].id ((l.map Stop.id).take k);simp only[wO,AT,h1,IT,ab,IS,AI hk,No,U,Stop.pv,cell,PV.cells,adz,aiJ,aT,asInt,asBool,hid,mJ,jY,aL,af (show k<9223372036854775807 by omega),jC Stop.id l k hk];unfold Hi;rw[AI hk];simp only;generalize (decide (l[k].zM<0)||decide (l[k].zM≥16)||decide (l[k].change<0)||decide (l[k].change>3600))=c;cases eo l[k].id with
   |false=>rfl
   |true=>
    by_cases bk:l[k].id∈(l.map Stop.id).take k
    ·simp only[bk,IT,alc,IN,alp,Wi];rfl
    ·simp only[bk,IT,alc,IN,alp,Wi];cases c<;>rfl
  ·simp only[wO,AT,alk,Wi];rfl
  ·have:=aq;omega
theorem IZ(n a b:Int):bP [.int .i64 n,.int .i64 a,.int .i64 b]=some (.bool (decide (n≥a)&&decide (n≤b))):=by simp[bP,I0,asInt,IT,U,bt]
theorem Mz(x:Stop):cell x.pv 0=.str x.id:=rfl
theorem ab7(x:Stop):cell x.pv 1=.int .i64 x.zM:=rfl
theorem ab8(x:Stop):cell x.pv 3=.int .i64 x.change:=rfl
theorem Ov{R:Type}(ids:List Bytes)(i:Nat)(hi:i<ids.length)(no fin:Option R):bu ((List.range i).findSome? fun k=>if decide (ids[k]?=some ids[i])=true then some no else none) fin=if ids[i]∈ids.take i then no else fin:=by
 rw[fM (fun k=>decide (ids[k]?=some ids[i])) (fun _=>no)];cases hf:(List.range i).find? fun k=>decide (ids[k]?=some ids[i])with
 |none=>
  have hn:ids[i]∉ids.take i:=fun bk=>by obtain⟨j,hj⟩:=als.1 bk;grind
  rw[acB hn];rfl
 |some j=>rw[ano]at hf;obtain⟨h1,h2,_⟩:=hf;have bk:ids[i]∈ids.take i:=als.2 ⟨j,by simp_all⟩;rw[T0 bk];rfl
theorem Ow(l:List Stop)(hl:l.length≤maxLen)(i:Nat)(hi:i<l.length)(gm:List PV×Int×Unit→Option PV):aX.run (oB gm) (l.map Stop.pv,(i:Int),0,())=if(l.map Stop.id)[i]'(by simpa using hi)∈(l.map Stop.id).take i then some (res i 6)else if(decide (l[i].zM<0)||decide (l[i].zM≥16)||decide (l[i].change<0)||decide (l[i].change>3600))=true then some (res i 2)else gm (l.map Stop.pv,IntKind.i64.wrap ((i:Int)+1),()):=by
 have hm:=al;have PW:(l.map Stop.pv)[i]?=some l[i].pv:=by simp_all
 have UD:i<(l.map Stop.id).length:=by simpa using hi
 have ajX:(l.map Stop.id)[i]=l[i].id:=by simp
 rw[←Ov (l.map Stop.id) i UD];refine au (fun k=>(l.map Stop.pv,(i:Int),(k:Int),())) i (fun k=>if decide ((l.map Stop.id)[k]?=some (l.map Stop.id)[i])=true then some (some (res i 6))else none) (fun k hk rec=>?_) (fun rec=>?_) ?_ rfl
 ·have h1:decide ((k:Int)<(i:Int))=true:=by simp;omega
  have ko:k<l.length:=by omega
  have hgk:(l.map Stop.pv)[k]?=some l[k].pv:=by simp_all
  have hdk:decide ((l.map Stop.id)[k]?=some (l.map Stop.id)[i])=decide (l[k].id=l[i].id):=by simp_all
  unfold oB;dsimp only;rw[T0 h1,ab,hgk,U,Mz,ab,PW,af (by omega),hdk];simp only[aT,U,Mz,cd];cases decide (l[k].id=l[i].id)<;>rfl
 ·unfold oB;dsimp only;rw[acB (by simp),ab,PW];simp only[U,ab7,ab8,asInt,IT,IZ,asBool,aL];have:(!(decide (l[i].zM≥0)&&decide (l[i].zM≤15))|| !(decide (l[i].change≥0)&&decide (l[i].change≤3600)))=(decide (l[i].zM<0)||decide (l[i].zM≥16)||decide (l[i].change<0)||decide (l[i].change>3600)):=by grind
  rw[this];rfl
 ·have:=aq;omega
theorem Vw(l:List Stop)(hl:l.length≤maxLen∧∀y∈l,y.Ok):qF [.rs 4 (l.map Stop.pv)]=some (res (fb l).1 (fb l).2):=by
 have hm:=al;simp only[qF,AP,ah,IT,U,BY];unfold fb;by_cases gW:l.length>64
 ·rw[T0 (by simp;omega),T0 gW];rfl
 ·rw[acB (by simp;omega),acB gW,←cP];refine au (fun k=>(l.map Stop.pv,(k:Int),())) l.length _ (fun k hk rec=>?_) (fun rec=>?_) ?_ rfl
  ·have h1:decide ((k:Int)<((l.map Stop.pv).length:Int))=true:=by simp;omega
   have hgk:(l.map Stop.pv)[k]?=some l[k].pv:=by simp_all
   have hid:=yR l[k].id (hl.2 _ (alj hk)).id;have aef:(l.map Stop.id)[k]'(by simpa using hk)=l[k].id:=by simp
   unfold uz;dsimp only;rw[T0 h1,ab,hgk,U,Mz];simp only[aT,U,hid,asBool];rw[Ow l hl.1 k hk rec,aef,af (by omega)];unfold Hi;rw[AI hk];simp only;generalize (decide (l[k].zM<0)||decide (l[k].zM≥16)||decide (l[k].change<0)||decide (l[k].change>3600))=c;cases eo l[k].id with
   |false=>rfl
   |true=>
    by_cases bk:l[k].id∈(l.map Stop.id).take k
    ·simp only[bk,IT,alc,IN,alp,Wi];rfl
    ·simp only[bk,IT,alc,IN,alp,Wi];cases c<;>rfl
  ·unfold uz;dsimp only;rw[acB (by simp)];rfl
  ·have:=aq;omega
theorem I1(x:az):cell x.pv 0=.str x.id:=rfl
theorem YG(x:az):cell x.pv 1=.int .i64 x.mode:=rfl
def Eu(l:List az)(k:Nat):Int:=match l[k]? with
 |none=>0
 |some x=>if eo x.id=false then 12 else if x.id∈(l.map az.id).take k then 6 else if(decide (x.mode≥0)&&decide (x.mode<8))=false then 2 else 0
def dR(l:List az):Int×Int:=if l.length>64 then(0,5)else bJ (Eu l) l.length
theorem I2(l:List az)(hl:l.length≤maxLen∧∀y∈l,y.Ok):lX [.rs 3 (l.map az.pv)]=some (res (dR l).1 (dR l).2):=by
 have hm:=al;simp only[lX,AQ,ah,IT,U,BY];unfold dR;by_cases gW:l.length>64
 ·rw[T0 (by simp;omega),T0 gW];rfl
 ·rw[acB (by simp;omega),acB gW,←cP];refine au (fun k=>(l.map az.pv,(l.length:Int),(k:Int),seen PV.str ((l.map az.id).take k),())) l.length _ (fun k hk rec=>?_) (fun rec=>?_) ?_ rfl
  ·have h1:(k:Int)<(l.length:Int):=by omega
   have hid:=xV l[k].id (hl.2 _ (alj hk)).id;have mJ:=fy qE l[k].id ((l.map az.id).take k);have jY:=eF qE l[k].id ((l.map az.id).take k);simp only[uA,AT,h1,IT,ab,IS,AI hk,No,U,az.pv,cell,PV.cells,adz,aiJ,aT,asInt,asBool,hid,mJ,jY,aL,af (show k<9223372036854775807 by omega),jC az.id l k hk,wP,AR,bt];unfold Eu;rw[AI hk];simp only;generalize (decide (l[k].mode≥0)&&decide (l[k].mode<8))=c;cases eo l[k].id with
   |false=>rfl
   |true=>
    by_cases bk:l[k].id∈(l.map az.id).take k
    ·simp only[bk,IT,alc,IN,alp,Wi];rfl
    ·simp only[bk,IT,alc,IN,alp,Wi];cases c<;>rfl
  ·simp only[uA,AT,alk,Wi];rfl
  ·have:=aq;omega
theorem MA(l:List az)(hl:l.length≤maxLen)(i:Nat)(hi:i<l.length)(gm:List PV×Int×Unit→Option PV):aX.run (mj gm) (l.map az.pv,(i:Int),0,())=if(l.map az.id)[i]'(by simpa using hi)∈(l.map az.id).take i then some (res i 6)else if(decide (l[i].mode≥0)&&decide (l[i].mode<8))=false then some (res i 2)else gm (l.map az.pv,IntKind.i64.wrap ((i:Int)+1),()):=by
 have hm:=al;have PW:(l.map az.pv)[i]?=some l[i].pv:=by simp_all
 have UD:i<(l.map az.id).length:=by simpa using hi
 have ajX:(l.map az.id)[i]=l[i].id:=by simp
 rw[←Ov (l.map az.id) i UD];refine au (fun k=>(l.map az.pv,(i:Int),(k:Int),())) i (fun k=>if decide ((l.map az.id)[k]?=some (l.map az.id)[i])=true then some (some (res i 6))else none) (fun k hk rec=>?_) (fun rec=>?_) ?_ rfl
 ·have h1:decide ((k:Int)<(i:Int))=true:=by simp;omega
  have ko:k<l.length:=by omega
  have hgk:(l.map az.pv)[k]?=some l[k].pv:=by simp_all
  have hdk:decide ((l.map az.id)[k]?=some (l.map az.id)[i])=decide (l[k].id=l[i].id):=by simp_all
  unfold mj;dsimp only;rw[T0 h1,ab,hgk,U,I1,ab,PW,af (by omega),hdk];simp only[aT,U,I1,cd];cases decide (l[k].id=l[i].id)<;>rfl
 ·unfold mj;dsimp only;rw[acB (by simp),ab,PW];simp only[U,YG,asInt,IT,IZ,asBool];have:(decide (l[i].mode≥0)&&decide (l[i].mode≤7))=(decide (l[i].mode≥0)&&decide (l[i].mode<8)):=by grind
  rw[this];cases(decide (l[i].mode≥0)&&decide (l[i].mode<8))<;>rfl
 ·have:=aq;omega
theorem Rf(l:List az)(hl:l.length≤maxLen∧∀y∈l,y.Ok):oC [.rs 3 (l.map az.pv)]=some (res (dR l).1 (dR l).2):=by
 have hm:=al;simp only[oC,yS,ah,IT,U,BY];unfold dR;by_cases gW:l.length>64
 ·rw[T0 (by simp;omega),T0 gW];rfl
 ·rw[acB (by simp;omega),acB gW,←cP];refine au (fun k=>(l.map az.pv,(k:Int),())) l.length _ (fun k hk rec=>?_) (fun rec=>?_) ?_ rfl
  ·have h1:decide ((k:Int)<((l.map az.pv).length:Int))=true:=by simp;omega
   have hgk:(l.map az.pv)[k]?=some l[k].pv:=by simp_all
   have hid:=yR l[k].id (hl.2 _ (alj hk)).id;have aef:(l.map az.id)[k]'(by simpa using hk)=l[k].id:=by simp
   unfold se;dsimp only;rw[T0 h1,ab,hgk,U,I1];simp only[aT,U,hid,asBool];rw[MA l hl.1 k hk rec,aef,af (by omega)];unfold Eu;rw[AI hk];simp only;generalize (decide (l[k].mode≥0)&&decide (l[k].mode<8))=c;cases eo l[k].id with
   |false=>rfl
   |true=>
    by_cases bk:l[k].id∈(l.map az.id).take k
    ·simp only[bk,IT,alc,IN,alp,Wi];rfl
    ·simp only[bk,IT,alc,IN,alp,Wi];cases c<;>rfl
  ·unfold se;dsimp only;rw[acB (by simp)];rfl
  ·have:=aq;omega
def wi(n a b:Int):Bool:=decide (n≥a)&&decide (n≤b)
theorem GH(n a b:Int):ck [.int .i64 n,.int .i64 a,.int .i64 b]=some (.bool (wi n a b)):=by simp only[ck,uB,asInt,IT,U,bt];rfl
theorem Vx(x:ba):cell x.pv 0=.str x.id:=rfl
theorem aeg(x:ba):cell x.pv 1=.int .i64 x.GI:=rfl
theorem aeh(x:ba):cell x.pv 2=.int .i64 x.GJ:=rfl
theorem aei(x:ba):cell x.pv 3=.int .i64 x.GK:=rfl
theorem aej(x:ba):cell x.pv 4=.int .i64 x.jA:=rfl
theorem aek(x:ba):cell x.pv 5=.int .i64 x.GL:=rfl
def oD(x:ba):Bool:= !wi x.GI 0 1000000|| !wi x.GJ 1 8|| !wi x.GK 1 16|| !wi x.jA 0 86400|| !wi x.GL 1 255
def Hj(l:List ba)(k:Nat):Int:=match l[k]? with
 |none=>0
 |some x=>if eo x.id=false then 12 else if x.id∈(l.map ba.id).take k then 6 else if oD x=true then 2 else 0
def s7(l:List ba)(aZ within cap:Int):PV:=.agg [.rs 6 (l.map ba.pv),.int .i64 aZ,.int .i64 within,.int .i64 cap]
def cT(l:List ba)(aZ within cap:Int):Int×Int:=if(!wi aZ 0 1000000|| !wi within 0 86400|| !wi cap 0 1000000)=true then(-1,2)else if l.length>16 then(0,5)else bJ (Hj l) l.length
theorem I3(l:List ba)(aZ within cap:Int)(hl:l.length≤maxLen∧∀y∈l,y.Ok):ef [s7 l aZ within cap]=some (res (cT l aZ within cap).1 (cT l aZ within cap).2):=by
 have hm:=al;simp only[ef,wQ,s7,asAgg,cell,PV.cells,adz,aiJ,aiK,alh,Nat.reduceAdd,ah,asInt,asBool,IT,U,BY,GH,aL];unfold cT;generalize (!wi aZ 0 1000000|| !wi within 0 86400|| !wi cap 0 1000000)=c;cases c with
 |true=>rfl
 |false=>
  simp only[IN,Wi];by_cases gW:l.length>16
  ·rw[T0 (by simp;omega),T0 gW];rfl
  ·rw[acB (by simp;omega),acB gW,←cP];refine au (fun k=>(l.map ba.pv,(l.length:Int),(k:Int),seen PV.str ((l.map ba.id).take k),())) l.length _ (fun k hk rec=>?_) (fun rec=>?_) ?_ rfl
   ·have h1:(k:Int)<(l.length:Int):=by omega
    have hid:=xV l[k].id (hl.2 _ (alj hk)).id;have mJ:=fy qE l[k].id ((l.map ba.id).take k);have jY:=eF qE l[k].id ((l.map ba.id).take k);simp only[qi,AT,h1,IT,ab,IS,AI hk,No,U,Vx,aeg,aeh,aei,aej,aek,aT,asInt,asBool,hid,mJ,jY,GH,aL,af (show k<9223372036854775807 by omega),jC ba.id l k hk];unfold Hj;rw[AI hk];have hb:(!wi l[k].GI 0 1000000|| !wi l[k].GJ 1 8|| !wi l[k].GK 1 16|| !wi l[k].jA 0 86400|| !wi l[k].GL 1 255)=oD l[k]:=rfl;simp only[hb];generalize oD l[k]=c;cases eo l[k].id with
    |false=>rfl
    |true=>
     by_cases bk:l[k].id∈(l.map ba.id).take k
     ·simp only[bk,IT,alc,IN,alp,Wi];rfl
     ·simp only[bk,IT,alc,IN,alp,Wi];cases c<;>rfl
   ·simp only[qi,AT,alk,Wi];rfl
   ·have:=aq;omega
theorem adl(n a b:Int):bP [.int .i64 n,.int .i64 a,.int .i64 b]=some (.bool (wi n a b)):=IZ n a b
theorem Ox(l:List ba)(hl:l.length≤maxLen)(d w c:Int)(i:Nat)(hi:i<l.length)(gm:Int×List PV×Int×Int×Int×Unit→Option PV):aX.run (oE gm) ((i:Int),0,l.map ba.pv,d,w,c,.str l[i].id,.int .i64 l[i].GI,.int .i64 l[i].GJ,.int .i64 l[i].GK,.int .i64 l[i].jA,.int .i64 l[i].GL,())=if l[i].id∈(l.map ba.id).take i then some (res i 6)else if oD l[i]=true then some (res i 2)else gm (IntKind.i64.wrap ((i:Int)+1),l.map ba.pv,d,w,c,()):=by
 have hm:=al;refine(cQ (fun k=>((i:Int),(k:Int),l.map ba.pv,d,w,c,PV.str l[i].id,PV.int .i64 l[i].GI,PV.int .i64 l[i].GJ,PV.int .i64 l[i].GK,PV.int .i64 l[i].jA,PV.int .i64 l[i].GL,())) i (fun k=>decide ((l.map ba.id)[k]?=some l[i].id)) (no:=some (res i 6)) (fin:=if oD l[i]=true then some (res i 2)else gm (IntKind.i64.wrap ((i:Int)+1),l.map ba.pv,d,w,c,())) (fun k hk rec=>?_) (fun rec=>?_) ?_ rfl).trans ?_
 ·have h1:(k:Int)<(i:Int):=by omega
  have ko:k<l.length:=by omega
  simp only[oE,AT,h1,IT,ab,IS,AI ko,No,U,Vx,aT,af (show k<9223372036854775807 by omega),cd,By];rfl
 ·simp only[oE,AT,alk,Wi,U,asInt,IT,adl,asBool,aL];rfl
 ·have:=aq;omega
 ·rw[gB _ _ (by simp;omega)];simp_all
theorem Vy(l:List ba)(aZ within cap:Int)(hl:l.length≤maxLen∧∀y∈l,y.Ok):qG [s7 l aZ within cap]=some (res (cT l aZ within cap).1 (cT l aZ within cap).2):=by
 have hm:=al;simp only[qG,AS,s7,asAgg,cell,PV.cells,adz,aiJ,aiK,alh,Nat.reduceAdd,ah,asInt,asBool,IT,U,BY,adl,aL];unfold cT;generalize (!wi aZ 0 1000000|| !wi within 0 86400|| !wi cap 0 1000000)=c;cases c with
 |true=>rfl
 |false=>
  simp only[IN,Wi];by_cases gW:l.length>16
  ·rw[T0 (by simp;omega),T0 gW];rfl
  ·rw[acB (by simp;omega),acB gW,←cP];refine au (fun k=>((k:Int),l.map ba.pv,aZ,within,cap,())) l.length _ (fun k hk rec=>?_) (fun rec=>?_) ?_ rfl
   ·have h1:(k:Int)<(l.length:Int):=by omega
    have hid:=yR l[k].id (hl.2 _ (alj hk)).id;have pV:=Ox l hl.1 aZ within cap k hk rec;simp only[uC,AT,BY,h1,IT,ab,IS,AI hk,No,U,Vx,aeg,aeh,aei,aej,aek,aT,asBool,hid,pV,af (show k<9223372036854775807 by omega)];unfold Hj;rw[AI hk];simp only;generalize oD l[k]=c;cases eo l[k].id with
    |false=>rfl
    |true=>
     by_cases bk:l[k].id∈(l.map ba.id).take k
     ·simp only[bk,IT,alc,IN,alp,Wi];rfl
     ·simp only[bk,IT,alc,IN,alp,Wi];cases c<;>rfl
   ·simp only[uC,AT,BY,alk,Wi];rfl
   ·have:=aq;omega
theorem pK(x:aF):cell x.pv 0=.int .i64 x.stop:=rfl
theorem vK(x:aF):cell x.pv 1=.int .i64 x.arr:=rfl
theorem lY(x:aF):cell x.pv 2=.int .i64 x.dep:=rfl
def Ek(l:List aF):Nat→Option aF
 |0=>none
 |k+1=>l[k]?
def Ej(c:aF)(p:Option aF)(stops low high:Int):Int:=
 if(decide (c.stop<0)||decide (c.stop≥stops))=true then 9
 else if(match p with|some p=>decide (p.stop=c.stop)|none=>false)=true then 13
 else if(decide (c.arr<low)||decide (c.arr>c.dep)||decide (c.dep>high)||(match p with|some p=>decide (c.arr<p.dep)|none=>false))=true then 10 else 0
def vH(l:List aF)(stops low high:Int)(k:Nat):Int:=match l[k]? with
 |none=>0
 |some c=>Ej c (Ek l k) stops low high
def gf(l:List aF)(stops low high:Int):Int×Int:=if(decide ((l.length:Int)<2)||decide ((l.length:Int)>32))=true then(0,5)else bJ (vH l stops low high) l.length
theorem B4(j:Nat)(h:j<9223372036854775807):IntKind.i64.wrap (((j+1:Nat):Int)-1)=(j:Int):=by grind [aW]
theorem Oy(l:List aF)(stops low high:Int)(k:Nat)(hk:k<l.length)(hl:l.length≤maxLen):yT [.rs 5 (l.map aF.pv),.int .i64 k,.int .i64 stops,.int .i64 low,.int .i64 high]=some (.int .i64 (vH l stops low high k)):=by
 have hm:=al;simp only[yT,I4,ah,asInt,IT,U,ab,IS,AI hk,No,pK,vK,lY,aL];unfold vH Ej;rw[AI hk];simp only;cases k with
 |zero=>
  have h0:decide (((0:Nat):Int)>0)=false:=by rfl
  simp only[h0,cond_false,U,aL,amg,Ek];grind
 |succ j=>
  have h0:decide (((j+1:Nat):Int)>0)=true:=by simp
  have hj:j<l.length:=by omega
  simp only[h0,cond_true,U,B4 j (by omega),ab,IS,AI hj,No,pK,lY,asInt,IT,Ek,cd,aL];grind
theorem Lh(l:List aF)(stops low high:Int)(hl:l.length≤maxLen):oF [.rs 5 (l.map aF.pv),.int .i64 stops,.int .i64 low,.int .i64 high]=some (res (gf l stops low high).1 (gf l stops low high).2):=by
 have hm:=al;simp only[oF,Dd,ah,asInt,IT,U,BY,aL];unfold gf;split
 ·rfl
 ·rw[←cP];refine au (fun k=>(l.map aF.pv,stops,low,high,(l.length:Int),(k:Int),())) l.length _ (fun k hk rec=>?_) (fun rec=>?_) ?_ rfl
  ·have h1:(k:Int)<(l.length:Int):=by omega
   simp only[wR,AT,h1,IT,Oy l stops low high k hk hl,U,asInt,af (show k<9223372036854775807 by omega),dy];grind [vH,AU,bu,res]
  ·simp only[wR,AT,alk,Wi];rfl
  ·have:=aq;omega
theorem Vz(l:List aF)(stops low high:Int)(hl:l.length≤maxLen):qH [.rs 5 (l.map aF.pv),.int .i64 stops,.int .i64 low,.int .i64 high]=some (.int .i64 (gf l stops low high).2):=by
 have hm:=al;simp only[qH,AV,ah,asInt,IT,U,BY,aL];unfold gf;split
 ·rfl
 ·rw[←I5];refine au (fun k=>(l.map aF.pv,stops,low,high,(k:Int),())) l.length _ (fun k hk rec=>?_) (fun rec=>?_) ?_ rfl
  ·have h1:(k:Int)<(l.length:Int):=by omega
   simp only[uD,AT,BY,h1,IT,ab,IS,AI hk,No,U,pK,vK,lY,asInt,aL,af (show k<9223372036854775807 by omega)];unfold vH Ej;rw[AI hk];simp only;cases k with
   |zero=>
    have h0:decide (((0:Nat):Int)>0)=false:=by rfl
    simp only[h0,cond_false,U,aL,amg,Ek];generalize (decide (l[0].stop<0)||decide (l[0].stop≥stops))=A;generalize (decide (l[0].arr<low)||decide (l[0].arr>l[0].dep)||decide (l[0].dep>high))=B;cases A<;>cases B<;>rfl
   |succ j=>
    have h0:decide (((j+1:Nat):Int)>0)=true:=by simp
    have hj:j<l.length:=by omega
    have hc:decide (l[j+1].stop=l[j].stop)=decide (l[j].stop=l[j+1].stop):=by grind
    simp only[h0,cond_true,U,B4 j (by omega),ab,IS,AI hj,No,pK,lY,asInt,IT,Ek,cd,aL,hc];generalize (decide (l[j+1].stop<0)||decide (l[j+1].stop≥stops))=A;generalize (decide (l[j+1].arr<low)||decide (l[j+1].arr>l[j+1].dep)||decide (l[j+1].dep>high))=B;generalize decide (l[j].stop=l[j+1].stop)=C;generalize decide (l[j+1].arr<l[j].dep)=D;cases A<;>cases B<;>cases C<;>cases D<;>rfl
  ·simp[uD,AT,BY,alk,Wi]
  ·have:=aq;omega
structure aY where
 bp:Int
 day:Int
 inst:Int
 id:Bytes
 bV:Int
 free:Bool
 wS:Bool
 calls:List aF
 deriving DecidableEq
def aY.pv(x:aY):PV:=.agg [.int .i64 x.bp,.int .i64 x.day,.int .i64 x.inst,.str x.id,.int .i64 x.bV,.bool x.free,.bool x.wS,.rs 5 (x.calls.map aF.pv)]
structure aY.kH(M:Nat)(x:aY):Prop where
 bp:oz x.bp
 day:oz x.day
 inst:oz x.inst
 id:x.id.length≤M
 bV:oz x.bV
 calls:x.calls.length≤M∧∀y∈x.calls,y.kH M
abbrev aY.Ok(x:aY):Prop:=x.kH maxLen
theorem VA(r:aY):asAgg 8 r.pv=some ():=rfl
theorem ael(r:aY):PV.agg [cell r.pv 0,cell r.pv 1,cell r.pv 2,cell r.pv 3,cell r.pv 4,cell r.pv 5,cell r.pv 6,cell r.pv 7]=r.pv:=rfl
theorem Ev(x:aY):cell x.pv 0=.int .i64 x.bp:=rfl
theorem De(x:aY):cell x.pv 1=.int .i64 x.day:=rfl
theorem J4(x:aY):cell x.pv 2=.int .i64 x.inst:=rfl
theorem Oz(x:aY):cell x.pv 3=.str x.id:=rfl
theorem Rg(x:aY):cell x.pv 4=.int .i64 x.bV:=rfl
theorem VB(x:aY):cell x.pv 5=.bool x.free:=rfl
theorem Rh(x:aY):cell x.pv 6=.bool x.wS:=rfl
theorem Ce(x:aY):cell x.pv 7=.rs 5 (x.calls.map aF.pv):=rfl
structure aP where
 a:Int
 ac:Int
 b:Int
 bc:Int
 stay:Bool
 deriving DecidableEq
def aP.pv(x:aP):PV:=.agg [.int .i64 x.a,.int .i64 x.ac,.int .i64 x.b,.int .i64 x.bc,.bool x.stay]
structure aP.kH(M:Nat)(x:aP):Prop where
 a:oz x.a
 ac:oz x.ac
 b:oz x.b
 bc:oz x.bc
abbrev aP.Ok(x:aP):Prop:=x.kH maxLen
theorem OA(x:aP):cell x.pv 0=.int .i64 x.a:=rfl
theorem YH(x:aP):cell x.pv 1=.int .i64 x.ac:=rfl
theorem link2(x:aP):cell x.pv 2=.int .i64 x.b:=rfl
theorem YI(x:aP):cell x.pv 3=.int .i64 x.bc:=rfl
theorem SX(x:aP):cell x.pv 4=.bool x.stay:=rfl
theorem I6(x:Path):cell x.pv 0=.int .i64 x.a:=rfl
theorem I7(x:Path):cell x.pv 1=.int .i64 x.b:=rfl
theorem OB(x:Path):cell x.pv 2=.int .i64 x.jA:=rfl
theorem I8(x:Path):cell x.pv 3=.bool x.free:=rfl
structure bm where
 stops:List Stop
 ai:List az
 runs:List aY
 aO:List aP
 paths:List Path
 aB:List ba
 aZ:Int
 within:Int
 cap:Int
 deriving DecidableEq
def bm.pv(x:bm):PV:=.agg [.rs 4 (x.stops.map Stop.pv),.rs 3 (x.ai.map az.pv),.rs 8 (x.runs.map aY.pv),.rs 5 (x.aO.map aP.pv),.rs 4 (x.paths.map Path.pv),.rs 6 (x.aB.map ba.pv),.int .i64 x.aZ,.int .i64 x.within,.int .i64 x.cap]
structure bm.kH(M:Nat)(x:bm):Prop where
 stops:x.stops.length≤M∧∀y∈x.stops,y.kH M
 ai:x.ai.length≤M∧∀y∈x.ai,y.kH M
 runs:x.runs.length≤M∧∀y∈x.runs,y.kH M
 aO:x.aO.length≤M∧∀y∈x.aO,y.kH M
 paths:x.paths.length≤M∧∀y∈x.paths,y.kH M
 aB:x.aB.length≤M∧∀y∈x.aB,y.kH M
 aZ:oz x.aZ
 within:oz x.within
 cap:oz x.cap
abbrev bm.Ok(x:bm):Prop:=x.kH maxLen
theorem Cd(x:bm):asAgg 9 x.pv=some ():=rfl
theorem C0(x:bm):ah 4 (cell x.pv 0)=some (x.stops.map Stop.pv):=rfl
theorem C1(x:bm):ah 3 (cell x.pv 1)=some (x.ai.map az.pv):=rfl
theorem C2(x:bm):ah 8 (cell x.pv 2)=some (x.runs.map aY.pv):=rfl
theorem C3(x:bm):ah 5 (cell x.pv 3)=some (x.aO.map aP.pv):=rfl
theorem C4(x:bm):ah 4 (cell x.pv 4)=some (x.paths.map Path.pv):=rfl
theorem C5(x:bm):ah 6 (cell x.pv 5)=some (x.aB.map ba.pv):=rfl
theorem C6(x:bm):asInt .i64 (cell x.pv 6)=some x.aZ:=rfl
theorem C7(x:bm):asInt .i64 (cell x.pv 7)=some x.within:=rfl
theorem C8(x:bm):asInt .i64 (cell x.pv 8)=some x.cap:=rfl
theorem OC(x:bm):PV.agg [.rs 4 (x.stops.map Stop.pv),.rs 3 (x.ai.map az.pv),.rs 8 (x.runs.map aY.pv),.rs 5 (x.aO.map aP.pv),.rs 4 (x.paths.map Path.pv),.rs 6 (x.aB.map ba.pv),.int .i64 x.aZ,.int .i64 x.within,.int .i64 x.cap]=x.pv:=rfl
def r3(p i e:Int):PV:=.agg [.int .i64 p,.int .i64 i,.int .i64 e]
def prt(p:Int)(x:Int×Int):PV:=if x.2=0 then r3 0 0 0 else r3 p x.1 x.2
theorem WQ(p i e:Int):asAgg 3 (r3 p i e)=some ():=rfl
theorem YJ(p i e:Int):cell (r3 p i e) 0=.int .i64 p:=rfl
theorem YK(p i e:Int):cell (r3 p i e) 1=.int .i64 i:=rfl
theorem VC(p i e:Int):cell (r3 p i e) 2=.int .i64 e:=rfl
theorem OD(p i e:Int):bq [.int .i64 p,.int .i64 i,.int .i64 e]=some (r3 p i e):=rfl
theorem Df(n m:Int):dd [.int .i64 n,.int .i64 m]=some (.bool (decide (n≥0)&&decide (n<m))):=by simp[dd,uE,asInt,IT,U,bt]
variable{R:Type}
theorem nA(f:Nat→Int)(n:Nat)(g:Int→Int→R)(fin:Option R):bu ((List.range n).findSome? fun k=>if f k=0 then none else some (some (g k (f k)))) fin=if(bJ f n).2=0 then fin else some (g (bJ f n).1 (bJ f n).2):=by
 unfold bJ;have:(List.range n).findSome? (fun k=>if f k=0 then none else some (some (g k (f k))))=((List.range n).findSome? (fun k=>if f k=0 then none else some ((k:Int),f k))).map fun x=>some (g x.1 x.2):=by rw[anQ];congr 1;grind
 rw[this];cases hf:(List.range n).findSome? (fun k=>if f k=0 then none else some ((k:Int),f k))with
 |none=>rfl
 |some x=>
  obtain⟨k,_,hk⟩:=alX hf;have hx:x.2≠0:=by grind
  simp_all[No,bu,acB]
theorem pX(f:Nat→Int)(n:Nat):(bJ f n).2=0↔∀k,k<n→f k=0:=by
 unfold bJ;cases hf:(List.range n).findSome? (fun k=>if f k=0 then none else some ((k:Int),f k))with
 |none=>simp_all
 |some x=>obtain⟨k,hk,hx⟩:=alX hf;grind
theorem CA{S:Type}{body:S→(S→Option R)→Option R}(st:Nat→S)(n:Nat)(bad:Nat→Option (Option R)){fin:Option R}(h:∀k,k<n→(∀j,j<k→bad j=none)→∀rec,body (st k) rec=bu (bad k) (rec (st (k+1))))(xD:(∀j,j<n→bad j=none)→∀rec,body (st n) rec=fin)(hn:n<rounds){s0:S}(h0:st 0=s0):aX.run body s0=bu ((List.range n).findSome? bad) fin:=by
 by_cases vu:∀j,j<n→bad j=none
 ·have:(List.range n).findSome? bad=none:=by simp_all
  rw[this];refine aK st n (fun k hk rec=>?_) (xD vu) hn h0;rw[h k hk (fun j hj=>vu j (by omega)),vu k hk];rfl
 ·have hex:∃m,m<n∧bad m≠none∧∀j,j<m→bad j=none:=by
   have key:∀m,(∃i,i<m∧i<n∧bad i≠none)→∃m,m<n∧bad m≠none∧∀j,j<m→bad j=none:=by
    intro m;induction m with
    |zero=>omega
    |succ m ih=>
     intro hi;by_cases hc:∃i,i<m∧i<n∧bad i≠none
     ·exact ih hc
     grind
   have hc:∃i,i<n∧bad i≠none:=by simp_all
   obtain⟨i,h1,h2⟩:=hc;exact key n ⟨i,h1,h1,h2⟩
  obtain⟨m,hm,hb,bQ⟩:=hex;cases hbm:bad m with
  |none=>exact absurd hbm hb
  |some x=>
   have hf:(List.range n).findSome? bad=some x:=by
    have hnm:n=m+(n-m):=by omega
    rw[hnm,List.range_add,an9];have h1:(List.range m).findSome? bad=none:=by grind
    rw[h1,Option.none_or];have hd:n-m=(n-m-1)+1:=by omega
    rw[hd,amO,alu,al8,am1,hbm]
   rw[hf];refine aK st m (fun k hk rec=>?_) (fun rec=>?_) (by omega) h0
   ·rw[h k (by omega) (fun j hj=>bQ j (by omega)),bQ k hk];rfl
   ·rw[h m hm bQ,hbm];rfl
theorem s8{A:Type}[DecidableEq A](a b:List A)(h:a.length=b.length)(no fin:Option R):bu ((List.range a.length).findSome? fun k=>if a[k]?=b[k]? then none else some no) fin=if a=b then fin else no:=by
 by_cases sX:a=b
 ·rw[T0 sX];have:(List.range a.length).findSome? (fun k=>if a[k]?=b[k]? then none else some no)=none:=by simp_all
  rw[this];rfl
 ·rw[acB sX];cases hf:(List.range a.length).findSome? (fun k=>if a[k]?=b[k]? then none else some no)with
  |none=>refine absurd (alL fun k=>?_) sX;grind
  |some x=>
   obtain⟨k,hk,hx⟩:=alX hf;by_cases h0:a[k]?=b[k]?
   ·simp_all
   ·rw[acB h0]at hx;simp only[By]at hx;subst hx;rfl
end Go.Ab.Tt
