import Derived.Test.YtmbihgjlollbeaaGreatTtP1
import Derived.Test.YtmbihgjlollbeaaGreatAbLib
namespace Go.Ab.Tt
set_option linter.all false
def MJ(d:Int):Bool:=decide (0≤d)&&decide (d≤36524)
theorem JR(d:Int):fj [.int .i64 d]=some (.bool (MJ d)):=by simp only[fj,BO,asInt,BY,U,aJ,MJ]
set_option maxRecDepth 100000
theorem apg(x:pF):cell x.pv 2=.bool x.added:=rfl
def wkT(c:mL)(w:Int):Bool:=if w=0 then c.w0 else if w=1 then c.w1 else if w=2 then c.w2 else if w=3 then c.w3 else if w=4 then c.w4 else if w=5 then c.w5 else c.w6
def GB(i d:Int)(e:pF):Bool:=decide (e.wI=i)&&decide (e.day=d)
def MK(c:mL)(xs:List pF)(i d:Int):Int:=match xs.find? (GB i d)with
 |some e=>if e.added=true then 2 else 3
 |none=>if(decide (d<c.Ct)||decide (d>c.Cu))=true then 5 else if wkT c ((d+5).tmod 7)=true then 1 else 4
def Bp(cs:List mL)(xs:List pF)(i d:Int):Int:=if MJ d=false then 0 else if i<0 then 0 else match cs[i.toNat]? with
 |some c=>MK c xs i d
 |none=>0
theorem ML(d:Int):eg [.int .i64 d]=some (.bool (MJ d)):=by simp only[eg,yR,asInt,BY,U,aJ,MJ,ge_iff_le]
theorem Kv(d:Int)(h:MJ d=true):IntKind.i64.wrap (d+5)=d+5∧0≤(d+5).tmod 7∧(d+5).tmod 7<7:=by unfold MJ at h;simp only[amm,cT]at h;grind [aZ,Int.tmod_eq_emod_of_nonneg]
theorem Qv(d:Int)(h:MJ d=true):q9 [.int .i64 d]=some (.aG [.int .i64 ((d+5).tmod 7),.bool true]):=by obtain⟨h1,_⟩:=Kv d h;simp only[q9,BP,asInt,BY,U,JR,asBool,h,ahX,cQ,IT,h1]
theorem Tb(d:Int)(h:MJ d=true):oB [.int .i64 d]=some (.aG [.int .i64 ((d+5).tmod 7),.bool true]):=by obtain⟨h1,_⟩:=Kv d h;simp only[oB,Ad,asInt,BY,U,ML,asBool,h,ahX,cQ,IT,h1]
theorem ahW(c:mL)(w:Int)(h0:0≤w)(h7:w<7)(k:Bool→Option PV):(if al w 7∧0<1 then[cell c.pv 0,cell c.pv 1,cell c.pv 2,cell c.pv 3,cell c.pv 4,cell c.pv 5,cell c.pv 6,cell c.pv 7,cell c.pv 8,cell c.pv 9][1+w.toNat*1]?.bind fun p=>(asBool p).bind k else none)=k (wkT c w):=by
 rw[IN ⟨⟨h0,h7⟩,by omega⟩];have:w=0∨w=1∨w=2∨w=3∨w=4∨w=5∨w=6:=by omega
 rcases this with rfl|rfl|rfl|rfl|rfl|rfl|rfl<;>rfl
theorem amk(c:mL)(w:Int)(h0:0≤w)(h7:w<7)(k:Bool→Option PV):(if al w 7∧0<1 then(List.drop (w.toNat*1) [cell c.pv 1,cell c.pv 2,cell c.pv 3,cell c.pv 4,cell c.pv 5,cell c.pv 6,cell c.pv 7,cell c.pv 8,cell c.pv 9]).head?.bind fun p=>(asBool p).bind k else none)=k (wkT c w):=by
 rw[IN ⟨⟨h0,h7⟩,by omega⟩];have:w=0∨w=1∨w=2∨w=3∨w=4∨w=5∨w=6:=by omega
 rcases this with rfl|rfl|rfl|rfl|rfl|rfl|rfl<;>rfl
theorem MM{A:Type}(p:A→Bool)(g:A→Option PV)(l:List A)(fin:Option PV):bK ((List.range l.length).findSome? fun k=>(l[k]?).bind fun x=>if p x=true then some (g x)else none) fin=match l.find? p with|some x=>g x|none=>fin:=by rw[AM];cases l.find? p<;>rfl
theorem JG(cs:List mL)(hc:cs.length≤maxLen)(xs:List pF)(hx:xs.length≤maxLen)(i d:Int):iD [.rs 10 (cs.map mL.pv),.rs 3 (xs.map pF.pv),.int .i64 i,.int .i64 d]=some (.int .i64 (Bp cs xs i d)):=by
 have hm:=ai;simp only[iD,uy,ao,asInt,BY,U,az,JR,asBool,AI];unfold Bp;by_cases hi:i<0
 ·simp_all
 by_cases hn:i≥(cs.length:Int)
 ·simp_all
 simp only[hi,hn,asx,ata,cond_false,U];cases hd:MJ d with
 |false=>rfl
 |true=>
  obtain⟨n,rfl⟩:∃n:Nat,i=n:=⟨i.toNat,by omega⟩;have cd:n<cs.length:=by omega
  obtain⟨w1,w2,w3⟩:=Kv d hd;simp only[avv,ahX,cQ,IT,ag,AT,cN cd,No,U,asp,are];generalize cs[n]=c;refine(aC (fun k=>((n:Int),d,5,xs.map pF.pv,(xs.length:Int),(k:Int),cell c.pv 0,cell c.pv 1,cell c.pv 2,cell c.pv 3,cell c.pv 4,cell c.pv 5,cell c.pv 6,cell c.pv 7,cell c.pv 8,cell c.pv 9,())) xs.length (fun k=>(xs[k]?).bind fun x=>if GB n d x=true then some (some (.int .i64 (if x.added=true then 2 else 3)))else none) (fin:=some (.int .i64 (if(decide (d<c.Ct)||decide (d>c.Cu))=true then 5 else if wkT c ((d+5).tmod 7)=true then 1 else 4))) (fun k hk rec=>?_) (fun rec=>?_) ?_ rfl).trans ?_
  ·have h1:(k:Int)<(xs.length:Int):=by omega
   simp only[oY,cT,h1,BY,ag,AT,cN hk,No,U,afU,afV,apg,asInt,asBool,az,ab (show k<9223372036854775807 by omega),eC];unfold GB;generalize xs[k]=x;by_cases e1:x.wI=n<;>by_cases e2:x.day=d<;>simp[e1,e2,bK];cases x.added<;>rfl
  ·have hw:=ahW c ((d+5).tmod 7) w2 w3 (fun b=>if b=true then some (PV.int .i64 1)else some (PV.int .i64 4));simp only[oY,cT,asl,IT,abo,abp,asInt,BY,U,Qv d hd,cn,amo,asi,Nat.reduceAdd,O6,T1,asBool,show((5:Int)==3)=false from rfl,cond_false,az];simp only[abo,abp,asBool]at hw;grind
  ·have:=aw;omega
  ·rw[MM (GB n d) (fun x=>some (.int .i64 (if x.added=true then 2 else 3)))];unfold MK;grind
theorem L4(cs:List mL)(hc:cs.length≤maxLen)(xs:List pF)(hx:xs.length≤maxLen)(i d:Int):mF [.rs 10 (cs.map mL.pv),.rs 3 (xs.map pF.pv),.int .i64 i,.int .i64 d]=some (.int .i64 (Bp cs xs i d)):=by
 have hm:=ai;simp only[mF,BT,ao,asInt,BY,U,az,ML,asBool,AI];unfold Bp;by_cases hi:i<0
 ·simp_all
 by_cases hn:i≥(cs.length:Int)
 ·simp_all
 simp only[hi,hn,asx,ata,cond_false,U];cases hd:MJ d with
 |false=>rfl
 |true=>
  obtain⟨n,rfl⟩:∃n:Nat,i=n:=⟨i.toNat,by omega⟩;have cd:n<cs.length:=by omega
  obtain⟨w1,w2,w3⟩:=Kv d hd;simp only[avv,ahX,cQ,IT,cN cd,asp,are];refine(aC (fun k=>(cs.map mL.pv,xs.map pF.pv,(n:Int),d,(k:Int),())) xs.length (fun k=>(xs[k]?).bind fun x=>if GB n d x=true then some (some (.int .i64 (if x.added=true then 2 else 3)))else none) (fin:=some (.int .i64 (if(decide (d<cs[n].Ct)||decide (d>cs[n].Cu))=true then 5 else if wkT cs[n] ((d+5).tmod 7)=true then 1 else 4))) (fun k hk rec=>?_) (fun rec=>?_) ?_ rfl).trans ?_
  ·have h1:(k:Int)<(xs.length:Int):=by omega
   simp only[uJ,cT,AI,h1,BY,ag,AT,cN hk,No,U,afU,afV,apg,asInt,asBool,aJ,ab (show k<9223372036854775807 by omega),bT];unfold GB;generalize xs[k]=x;by_cases e1:x.wI=n<;>by_cases e2:x.day=d<;>simp[e1,e2,bK];cases x.added<;>rfl
  ·have hw:=amk cs[n] ((d+5).tmod 7) w2 w3 (fun b=>if b=true then some (PV.int .i64 1)else some (PV.int .i64 4));simp only[uJ,cT,AI,asl,IT,ag,AT,cN cd,No,abo,abp,asInt,BY,U,Tb d hd,cn,amo,asi,Nat.reduceAdd,O6,T1,asBool,az];simp only[abo,abp,asBool]at hw;grind
  ·have:=aw;omega
  ·rw[MM (GB n d) (fun x=>some (.int .i64 (if x.added=true then 2 else 3)))];unfold MK;grind
def yF(cs:List mL)(xs:List pF)(i d:Int):Bool:=decide (Bp cs xs i d=1)||decide (Bp cs xs i d=2)
theorem RX(cs:List mL)(hc:cs.length≤maxLen)(xs:List pF)(hx:xs.length≤maxLen)(i d:Int):lW [.rs 10 (cs.map mL.pv),.rs 3 (xs.map pF.pv),.int .i64 i,.int .i64 d]=some (.bool (yF cs xs i d)):=by simp only[lW,uz,ao,asInt,BY,U,JG cs hc xs hx,az,bT,yF]
theorem UN(cs:List mL)(hc:cs.length≤maxLen)(xs:List pF)(hx:xs.length≤maxLen)(i d:Int):re [.rs 10 (cs.map mL.pv),.rs 3 (xs.map pF.pv),.int .i64 i,.int .i64 d]=some (.bool (yF cs xs i d)):=by simp only[re,BU,ao,asInt,BY,U,L4 cs hc xs hx,az,bT,yF]
def xC(t:Int)(l:List Int):Nat→Nat
 |0=>0
 |k+1=>if l.getD k 0>t then xC t l k else k+1
def vD(t:Int)(l:List Int):List Int:=l.take (xC t l l.length)++t::l.drop (xC t l l.length)
theorem Kw(t:Int)(l:List Int):∀k,xC t l k≤k
 |0=>ast _
 |k+1=>by
  unfold xC;split
  ·simp[auW,Kw]
  omega
theorem afW(t:Int)(l:List Int):(vD t l).length=l.length+1:=by grind [Kw,vD]
theorem afX(t x:Int)(l:List Int):x∈vD t l↔x=t∨x∈l:=by grind [vD,xC,List.take_append_drop]
structure Lnk where
 a:Int
 ac:Int
 b:Int
 bc:Int
 stay:Bool
 deriving DecidableEq
def Lnk.pv(x:Lnk):PV:=.agg [.int .i64 x.a,.int .i64 x.ac,.int .i64 x.b,.int .i64 x.bc,.bool x.stay]
def eI(f:bl):List Int:=if dM f=true then(List.range (df f).toNat).map fun(j:Nat)=>f.t0+(j:Int)*f.every else[]
def instF(l:List Int)(f:bl):List Int:=(eI f).foldl (fun l t=>vD t l) l
def instI(fs:List bl)(i:Int):List Int:=(fs.filter fun f=>decide (f.bD=i)).foldl instF []
def ve(l:List aY)(s:Int):List aY:=if nK l s=0 then l.map fun k=>J9 k ((l.map aY.dep).headD 0) s else[]
def cy.key(r:cy):Int×Int×Int:=(r.bD,r.day,r.inst)
def cK(l:List Int)(d:Int)(k:Nat):List Int:=l.take k++d::l.drop k
theorem tR(l:List Int)(d:Int)(k:Nat)(h:k≤l.length):(cK l d k).length=l.length+1:=by simp[cK];omega
theorem yT(l:List Int)(d:Int)(k j:Nat)(h:k≤l.length)(hj:j<k):(cK l d k)[j]?=l[j]?:=by simp_all[cK,as4,atM]
theorem xD(l:List Int)(d:Int)(k:Nat)(h:k≤l.length):(cK l d k)[k]?=some d:=by simp_all[cK,atd,as1]
theorem yU(l:List Int)(d x:Int)(k:Nat)(h:k≤l.length):(cK l d k).set k x=cK l x k:=by simp_all[cK,List.set_append,as1]
theorem HJ(l:List Int)(k:Nat)(h:k<l.length):cK l l[k] (k+1)=cK l l[k] k:=by unfold cK;rw[asr h,ate h,asD];rfl
theorem Qw(t:Int)(l:List Int):∀n k,xC t l n≤k→k<n→l.getD k 0>t
 |0,k,_,h=>absurd h (by omega)
 |n+1,k,h1,h2=>by
  unfold xC at h1;split at h1
  ·rename_i hg;by_cases e:k=n
   ·subst e;omega
   ·exact Qw t l n k h1 (by omega)
  omega
theorem I4(t:Int)(l:List Int):∀n,xC t l n=0∨∃k,xC t l n=k+1∧¬l.getD k 0>t
 |0=>.inl rfl
 |n+1=>by
  unfold xC;split
  ·exact I4 t l n
  simp_all
def VP(t:Int)(l:List Int)(k:Nat):Int:=if k=l.length then t else l.getD k 0
theorem EM(l:List Int)(k:Nat):(l.map iv)[k]?=l[k]?.map iv:=AT ..
theorem Kx(l:List Int)(k:Nat)(x:Int):(l.map iv).set k (.int .i64 x)=(l.set k x).map iv:=by rw[List.map_set];rfl
theorem AW(k:Nat)(h:k+1≤9223372036854775807):IntKind.i64.wrap (((k+1:Nat):Int)-1)=(k:Int):=by grind [aZ]
theorem Tc(l:List Int)(k:Nat)(h:k<l.length):l.getD k 0=l[k]:=by simp_all
theorem VQ(qD)(t tr len i:Int)(es:List PV)(c0 c1 c2:PV)(ev:Int)(l:List Int)(hl:l.length<4611686018427387904):bd.run (ek qD) (t,(l.length:Int),t,tr,es,len,i,c0,c1,c2,.int .i64 ev,(l++[t]).map iv,())=qD (IntKind.i64.wrap (t+ev),tr,es,len,i,c0,c1,c2,.int .i64 ev,(vD t l).map iv,()):=by
 have hp:=Kw t l l.length;refine bg (fun j=>(t,((l.length-j:Nat):Int),t,tr,es,len,i,c0,c1,c2,.int .i64 ev,(cK l (VP t l (l.length-j)) (l.length-j)).map iv,())) (l.length-xC t l l.length) (fun j hj rec=>?_) (fun rec=>?_) ?_ ?_
 ·obtain⟨k,hk⟩:∃k,l.length-j=k+1:=⟨l.length-j-1,by omega⟩;have J2:k<l.length:=by omega
  have hgt:l[k]>t:=by have:=Qw t l l.length k (by omega) J2;simp_all
  have hlen:=tR l (VP t l (k+1)) (k+1) (by omega);have afY:=yT l (VP t l (k+1)) (k+1) k (by omega) (by omega);have UH:=xD l (VP t l (k+1)) (k+1) (by omega);have hd:VP t l k=l[k]:=by unfold VP;grind
  have rX:=yU l (VP t l (k+1)) l[k] (k+1) (by omega);rw[HJ l k J2]at rX;have e2:l.length-(j+1)=k:=by omega
  have r1:al (k:Int) (l.length+1):=fA _ _ (by omega);have r2:al ((k+1:Nat):Int) (l.length+1):=fA _ _ (by omega);simp only[hk,e2];simp only[ek,show decide (((k+1:Nat):Int)>0)=true by simp,cond_true,AW k (by omega),AI,hlen,IN r1,IN r2,are,EM,afY,cN J2,No,U,iv,cell,PV.cells,O6,asInt,BY,show decide (l[k]>t)=true by simpa using hgt,UH];rw[Kx,rX,hd]
 ·have e0:l.length-(l.length-xC t l l.length)=xC t l l.length:=by omega
  simp only[e0];generalize hpp:xC t l l.length=p at*;have hlen:=tR l (VP t l p) p hp;have UH:=xD l (VP t l p) p hp;have rX:=yU l (VP t l p) t p hp;have r1:al (p:Int) (l.length+1):=fA _ _ (by omega);have Nu:(vD t l).map iv=((cK l (VP t l p) p).map iv).set p (.int .i64 t):=by grind [Kx,vD,cK]
  rw[Nu];have stop:xC t l l.length=0∨∃k,xC t l l.length=k+1∧¬l.getD k 0>t:=I4 t l l.length;rw[hpp]at stop;rcases stop with h0|⟨k,hk,hng⟩
  ·subst h0;have r1':al (0:Int) (l.length+1):=r1;have aqT:(List.map iv (cK l (VP t l 0) 0))[(0:Int).toNat]?=some (iv (VP t l 0)):=by rfl
   simp only[ek,Int.natCast_zero,show decide ((0:Int)>0)=false from rfl,cond_false,U,cQ,IT,AI,hlen,IN r1',aqT,asInt,BY];rfl
  ·subst hk;have J2:k<l.length:=by omega
   rw[Tc l k J2]at hng;have afY:=yT l (VP t l (k+1)) (k+1) k (by omega) (by omega);have r0:al (k:Int) (l.length+1):=fA _ _ (by omega);simp only[ek,show decide (((k+1:Nat):Int)>0)=true by simp,cond_true,AW k (by omega),AI,hlen,IN r0,IN r1,are,EM,afY,cN J2,No,U,iv,cell,PV.cells,O6,asInt,BY,show decide (l[k]>t)=false by simpa using hng,cQ,IT,UH]
 ·grind [aw,maxLen,decide]
 ·simp[cK,VP]
theorem ly(x:bl)(h:dM x=true):eI x=(List.range (df x).toNat).map fun(j:Nat)=>x.t0+(j:Int)*x.every:=by unfold eI;rw[IN h]
theorem GC(x:bl)(h:dM x=false):eI x=[]:=by simp_all[eI,IS]
theorem JS(x:bl):(eI x).length≤172800:=by
 unfold eI;split
 ·simp_all[rf]
 simp
theorem MN(s:List Int):∀l:List Int,(s.foldl (fun l t=>vD t l) l).length=l.length+s.length:=by
 induction s with
 |nil=>simp
 |cons t s ih=>grind [afW,List.length_cons]
theorem instF_len(l:List Int)(f:bl):(instF l f).length≤l.length+172800:=by simp[instF,MN,JS]
theorem abq(fs:List bl):∀l:List Int,(fs.foldl instF l).length≤l.length+172800*fs.length:=by
 induction fs with
 |nil=>simp
 |cons f fs ih=>grind [instF,instF_len,List.length_cons]
theorem Td(uK)(x:bl)(h:dM x=true)(tr len i:Int)(es:List PV)(l:List Int)(hl:l.length≤1000000000):bd.run (gi bd uK) (x.t0,tr,es,len,i,.int .i64 x.bD,.int .i64 x.t0,.int .i64 x.t1,.int .i64 x.every,l.map iv,())=uK (tr,es,len,IntKind.i64.wrap (i+1),(instF l x).map iv,()):=by
 have hc:=rf x h;have WI:=MO x h;obtain⟨h1,h2,h3,h4,h5⟩:=(gw x).1 h;have uQ:∀k,k≤(df x).toNat→((eI x).take k).length=k:=fun k hk=>by rw[ly x h];simp;omega
 refine bg (fun k=>(x.t0+(k:Int)*x.every,tr,es,len,i,.int .i64 x.bD,.int .i64 x.t0,.int .i64 x.t1,.int .i64 x.every,(((eI x).take k).foldl (fun l t=>vD t l) l).map iv,())) (df x).toNat (fun k hk rec=>?_) (fun rec=>?_) ?_ ?_
 ·have Uj:(k:Int)≤df x-1:=by omega
  have GZ:(k:Int)*x.every≤(df x-1)*x.every:=atu Uj (by omega);have Kk:0≤(k:Int)*x.every:=auk (by omega) (by omega);have cd:x.t0+(k:Int)*x.every<x.t1:=by omega
  have aqU:((k+1:Nat):Int)*x.every=(k:Int)*x.every+x.every:=by grind
  have hw:IntKind.i64.wrap (x.t0+(k:Int)*x.every+x.every)=x.t0+((k+1:Nat):Int)*x.every:=by grind [aZ]
  have Oi:=MN ((eI x).take k) l;rw[uQ k (by omega)]at Oi;have hs:(eI x).take (k+1)=(eI x).take k++[x.t0+(k:Int)*x.every]:=by rw[ly x h,←auf,←auf,List.take_range,List.take_range,as1 (by omega),as1 (by omega),atB,asT];rfl
  have JL:((eI x).take (k+1)).foldl (fun l t=>vD t l) l=vD (x.t0+(k:Int)*x.every) (((eI x).take k).foldl (fun l t=>vD t l) l):=by simp_all
  generalize ((eI x).take k).foldl (fun l t=>vD t l) l=lk at Oi JL;have ee:(lk.map iv++[PV.int .i64 (x.t0+(k:Int)*x.every)]).length*8≤ah∧0<8:=by grind [decide,List.length_append,List.length_map,List.length_cons,List.length_nil,ah]
  simp only[gi,asInt,BY,U,cT,cd,IN ee,AI];rw[show lk.map iv++[PV.int .i64 (x.t0+(k:Int)*x.every)]=(lk++[x.t0+(k:Int)*x.every]).map iv by simp[iv],VQ _ _ _ _ _ _ _ _ _ _ lk (by omega),hw,JL]
 ·have he:(((df x).toNat:Nat):Int)*x.every=df x*x.every:=by grind
  have cd:¬x.t0+(((df x).toNat:Nat):Int)*x.every<x.t1:=by omega
  have yr:(eI x).take (df x).toNat=eI x:=asG (by rw[ly x h];simp);simp only[gi,asInt,BY,U,cT,IS cd,yr];rfl
 ·grind [rounds,decide]
 simp
theorem I5{A:Type}(p:A→Bool)(l:List A)(k:Nat)(h:k<l.length):(l.take (k+1)).filter p=(l.take k).filter p++if p l[k]=true then[l[k]]else[]:=by rw[asr h,List.filter_append];grind
def instK(fs:List bl)(i:Int)(k:Nat):List Int:=((fs.take k).filter fun f=>decide (f.bD=i)).foldl instF []
theorem instK_len(fs:List bl)(i:Int)(k:Nat)(hf:fs.length≤1000):(instK fs i k).length≤172800000:=by grind [instK,abq,decide,Nat.le_trans,List.length_filter_le,List.length_nil]
theorem instK_succ(fs:List bl)(i:Int)(k:Nat)(h:k<fs.length):instK fs i (k+1)=if fs[k].bD=i then instF (instK fs i k) fs[k]else instK fs i k:=by grind [instK,I5]
theorem instF_un(l:List Int)(f:bl)(h:dM f=false):instF l f=l:=by unfold instF;rw[GC f h];rfl
theorem instI_K(fs:List bl)(i:Int):instI fs i=instK fs i fs.length:=by unfold instI instK;simp
theorem aau(fs:List bl)(hf:fs.length≤1000)(i:Int):gU [.rs 4 (fs.map bl.pv),.int .i64 i]=some (.rs 1 ((instI fs i).map iv)):=by
 simp only[gU,nJ,ao,asInt,BY,U,AI];rw[instI_K];refine bg (fun k=>(i,fs.map bl.pv,(fs.length:Int),(k:Int),(instK fs i k).map iv,())) fs.length (fun k hk rec=>?_) (fun rec=>?_) ?_ ?_
 ·have h1:(k:Int)<(fs.length:Int):=by omega
  have hl:=instK_len fs i k hf;rw[instK_succ fs i k hk];simp only[kR,cT,h1,BY,ag,AT,cN hk,No,U,rR,xE,xG,xH,asInt,eC,Ec,JT,asBool,ab (show k<9223372036854775807 by omega)];by_cases e:fs[k].bD=i
  ·simp only[e,asv,ahX,cQ,IT,BY];cases hs:dM fs[k]with
   |false=>simp_all[asw,BY,instF_un]
   |true=>simp only[ahX,cQ,IT];grind [Td,bl.pv,instK,ab]
  simp_all
 ·simp[kR,cT,asl,IT]
 ·grind [rounds,decide]
 rfl
theorem aav(x:br)(hx:x.Ok)(start:Int)(hs:jN start)(HK:x.calls.length≤40):dI [x.pv,.int .i64 start]=some (.aG [.rs 5 ((ve x.calls start).map aY.pv),.int .i64 (nK x.calls start)]):=by
 have hm:=ai;have ri:∀y∈x.calls,y.Ok:=hx.calls.2;simp only[dI,oA,MP,AX,Cc,AY,Fy,xI,aO,ao,asInt,asBool,BY,U,AI];generalize x.calls=l at HK ri⊢;cases l with
 |nil=>rfl
 |cons c l=>
  generalize hl:c::l=cs at HK ri⊢;have Na:cs[0]?=some c:=by rw[←hl];rfl
  have eS:0<cs.length:=by rw[←hl];simp
  have hcE:nK cs start=if(List.range cs.length).all (gX cs c.dep start)=true then 0 else 10:=by rw[←hl];rfl
  have MQ:c.Ok:=ri c (by rw[←hl];simp);have cV:((cs.length:Int)==0)=false:=by grind
  have RW:dB (cs.map aY.pv) 0=some c.pv:=by have:=ag (cs.map aY.pv) 0;simp_all
  have ee:0≤(cs.length:Int)∧(cs.length:Int)≤(cs.length:Int)∧(cs.length:Int).toNat*32≤ah∧0<32∧0<5:=by grind [decide,ah]
  rw[cV,RW];simp only[cQ,IT,U,rM,asInt,BY,IN ee,as7,are,asG (avu (AI _)),AI];rw[au5 (by simp),atf,AI];have VR:0≤(cs.length:Int)∧(cs.length:Int)≤(cs.length:Int)∧cs.length*32≤ah∧0<32∧0<5:=ee;have MR:bd.run dW (start,c.dep,(cs.length:Int),0,cs.map aY.pv,())=bK ((List.range cs.length).findSome? fun k=>if gX cs c.dep start k=true then none else some (some (.aG [.rs 5 [],.int .i64 10]))) (some (.aG [.rs 5 (GD cs (fun x=>J9 x c.dep start) cs.length),.int .i64 0])):=by
   refine aC (fun k=>(start,c.dep,(cs.length:Int),(k:Int),GD cs (fun x=>J9 x c.dep start) k,())) cs.length _ (fun k hk rec=>?_) (fun rec=>?_) ?_ ?_
   ·have h1:(k:Int)<(cs.length:Int):=by omega
    have B5:cs[k].Ok:=ri _ (aqW hk);obtain⟨n1,e1,q1⟩:=HL cs[k].arr c.dep start B5.arr MQ.dep hs;obtain⟨n2,e2,q2⟩:=HL cs[k].dep c.dep start B5.dep MQ.dep hs;have hlen:=Te cs (fun x=>J9 x c.dep start) k (by omega);have eR:=Tf cs (fun x=>J9 x c.dep start) k hk;have rX:=Tg cs (fun x=>J9 x c.dep start) k hk;have hr:al (k:Int) cs.length:=fA k _ hk;have afZ:gX cs c.dep start k=(tS cs[k].arr c.dep start&&tS cs[k].dep c.dep start):=by unfold gX;rw[cN hk];rfl
    have PD:∀X,((GD cs (fun x=>J9 x c.dep start) k).set k X)[k]?=some X:=fun X=>by simp_all
    simp only[dW,cT,h1,BY,hlen,IN hr,are,eR,U,uU,DA,rM,O4,O5,asInt,e1,e2,cn,asBool,amo,asi,Nat.reduceAdd,O6,T1,atW,PD,Th,over,ava,ab (show k<9223372036854775807 by omega)];grind [tS,start,bK,J9,aY.pv]
   ·simp[dW,cT,asl,IT]
   ·grind [rounds,decide]
   rfl
  have hF:ve cs start=if(List.range cs.length).all (gX cs c.dep start)=true then cs.map (fun x=>J9 x c.dep start)else[]:=by unfold ve;rw[hcE,show(cs.map aY.dep).headD 0=c.dep by rw[←hl];rfl];simp
  rw[IN VR,MR,rj,hcE,hF];by_cases yr:(List.range cs.length).all (gX cs c.dep start)=true
  ·simp_all[IN,bK,GD,atZ,atL]
  simp_all[IS,bK]
theorem aaz(x:br)(hx:x.Ok)(start:Int)(hs:0≤start∧start≤172800)(HK:x.calls.length≤40):gp [x.pv,.int .i64 start]=some (.aG [.rs 5 ((ve x.calls start).map aY.pv),.int .i64 (nK x.calls start)]):=by
 have hm:=ai;have ri:∀y∈x.calls,y.Ok:=hx.calls.2;simp only[gp,yS,MP,AX,Cc,AY,Fy,xI,aO,ao,asInt,asBool,BY,U,AI];generalize x.calls=l at HK ri⊢;cases l with
 |nil=>rfl
 |cons c l=>
  generalize hl:c::l=cs at HK ri⊢;have Na:cs[0]?=some c:=by rw[←hl];rfl
  have eS:0<cs.length:=by rw[←hl];simp
  have hcE:nK cs start=if(List.range cs.length).all (gX cs c.dep start)=true then 0 else 10:=by rw[←hl];rfl
  have MQ:c.Ok:=ri c (by rw[←hl];simp);have cV:((cs.length:Int)==0)=false:=by grind
  have RW:dB (cs.map aY.pv) 0=some c.pv:=by rw[show(0:Int)=((0:Nat):Int)from rfl,ag,AT,Na];rfl
  rw[cV,RW];simp only[cQ,IT,U,rM,asInt,BY];have MR:bd.run (gK bd) (start,c.dep,0,x.id,x.dG,x.wI,x.free,cs.map aY.pv,[],())=bK ((List.range cs.length).findSome? fun k=>if gX cs c.dep start k=true then none else some (some (.aG [.rs 5 [],.int .i64 10]))) (some (.aG [.rs 5 (cs.map fun x=>(J9 x c.dep start).pv),.int .i64 0])):=by
   refine aC (fun k=>(start,c.dep,(k:Int),x.id,x.dG,x.wI,x.free,cs.map aY.pv,(cs.take k).map (fun x=>(J9 x c.dep start).pv),())) cs.length _ (fun k hk rec=>?_) (fun rec=>?_) ?_ rfl
   ·have h1:(k:Int)<(cs.length:Int):=by omega
    have B5:cs[k].Ok:=ri _ (aqW hk);obtain⟨n1,e1,q1⟩:=HM cs[k].arr c.dep start B5.arr MQ.dep hs;obtain⟨n2,e2,q2⟩:=HM cs[k].dep c.dep start B5.dep MQ.dep hs;have afZ:gX cs c.dep start k=(tS cs[k].arr c.dep start&&tS cs[k].dep c.dep start):=by unfold gX;rw[cN hk];rfl
    have ee:∀X:PV,(((cs.take k).map (fun x=>(J9 x c.dep start).pv))++[X]).length*32≤ah∧0<32:=fun X=>by refine⟨?_,by omega⟩;grind [List.length_append,List.length_map,List.length_take,List.length_cons,List.length_nil,ah]
    simp only[gK,cT,AI,h1,BY,ag,AT,cN hk,No,U,uU,DA,rM,O4,O5,asInt,e1,e2,cn,asBool,amo,asi,Nat.reduceAdd,O6,T1,IN (ee _),ab (show k<9223372036854775807 by omega)];rw[afZ];cases hA:tS cs[k].arr c.dep start with
    |false=>rfl
    |true=>
     cases hB:tS cs[k].dep c.dep start with
     |false=>rfl
     |true=>have ht:cs.take (k+1)=cs.take k++[cs[k]]:=(atm hk).symm;rw[ht,q1 hA,q2 hB];simp only[ahX,cond_false,U,cQ,IT,atc,BY,bK,asT,ass,aub,J9,aY.pv]
   ·simp[gK,cT,AI,asl,IT,asP]
   grind [rounds,decide]
  have hF:ve cs start=if(List.range cs.length).all (gX cs c.dep start)=true then cs.map (fun x=>J9 x c.dep start)else[]:=by unfold ve;grind
  rw[MR,rj,hcE,hF];by_cases yr:(List.range cs.length).all (gX cs c.dep start)=true
  ·simp_all[IN,bK,GD,atZ,atL]
  simp_all[IS,bK]
theorem abr(qD)(tr i k:Int)(es s:List PV)(t:Int)(l:List Int)(hl:l.length<4611686018427387904):bd.run (kS qD) (es,tr,i,s,k,(l.length:Int),(l++[t]).map iv,())=qD (es,tr,i,s,IntKind.i64.wrap (k+1),(vD t l).map iv,()):=by
 have hp:=Kw t l l.length;refine bg (fun j=>(es,tr,i,s,k,((l.length-j:Nat):Int),(cK l t (l.length-j)).map iv,())) (l.length-xC t l l.length) (fun j hj rec=>?_) (fun rec=>?_) ?_ ?_
 ·obtain⟨q,hk⟩:∃q,l.length-j=q+1:=⟨l.length-j-1,by omega⟩;have J2:q<l.length:=by omega
  have hgt:l[q]>t:=by have:=Qw t l l.length q (by omega) J2;simp_all
  have hlen:=tR l t (q+1) (by omega);have afY:=yT l t (q+1) q (by omega) (by omega);have UH:=xD l t (q+1) (by omega);have rX:=yU l t l[q] (q+1) (by omega);rw[HJ l q J2]at rX;have acp:=yU l l[q] t q (by omega);have aqV:=xD l l[q] q (by omega);have aph:=tR l l[q] q (by omega);have e2:l.length-(j+1)=q:=by omega
  have r1:al (q:Int) (l.length+1):=fA _ _ (by omega);have r2:al ((q+1:Nat):Int) (l.length+1):=fA _ _ (by omega);simp only[hk,e2];have ZW:((cK l t (q+1)).map iv).set (q+1) (.int .i64 l[q])=(cK l l[q] q).map iv:=by rw[Kx,rX]
  have hs2:((cK l l[q] q).map iv).set q (.int .i64 t)=(cK l t q).map iv:=by rw[Kx,acp]
  have g1:((cK l t (q+1)).map iv)[q]?=some (iv l[q]):=by simp_all
  have g2:((cK l t (q+1)).map iv)[q+1]?=some (iv t):=by rw[EM,UH];rfl
  have g3:((cK l l[q] q).map iv)[q]?=some (iv l[q]):=by rw[EM,aqV];rfl
  have ci:∀n:Int,cell (iv n) 0=.int .i64 n:=fun _=>rfl;simp only[kS,show decide (((q+1:Nat):Int)>0)=true by simp,cond_true,AW q (by omega),AI,hlen,IN r1,IN r2,are,g1,g2,U,ci,asInt,BY,show decide (l[q]>t)=true by simpa using hgt,ZW,aph,g3,hs2]
 ·have e0:l.length-(l.length-xC t l l.length)=xC t l l.length:=by omega
  simp only[e0];generalize hpp:xC t l l.length=p at*;have hlen:=tR l t p hp;have UH:=xD l t p hp;have r1:al (p:Int) (l.length+1):=fA _ _ (by omega);have Nu:(vD t l).map iv=(cK l t p).map iv:=by unfold vD cK;rw[hpp]
  rw[Nu];have ci:∀n:Int,cell (iv n) 0=.int .i64 n:=fun _=>rfl;have stop:xC t l l.length=0∨∃k,xC t l l.length=k+1∧¬l.getD k 0>t:=I4 t l l.length;rw[hpp]at stop;rcases stop with h0|⟨q,hk,hng⟩
  ·subst h0;rfl
  ·subst hk;have J2:q<l.length:=by omega
   rw[Tc l q J2]at hng;have afY:=yT l t (q+1) q (by omega) (by omega);have r0:al (q:Int) (l.length+1):=fA _ _ (by omega);have g1:((cK l t (q+1)).map iv)[q]?=some (iv l[q]):=by simp_all
   have g2:((cK l t (q+1)).map iv)[q+1]?=some (iv t):=by rw[EM,UH];rfl
   simp only[kS,show decide (((q+1:Nat):Int)>0)=true by simp,cond_true,AW q (by omega),AI,hlen,IN r0,IN r1,are,g1,g2,U,ci,asInt,BY,show decide (l[q]>t)=false by simpa using hng,cQ,IT]
 ·grind [aw,maxLen,decide]
 ·simp[cK]
theorem Ti(x:bl):gL [x.pv]=some (.rs 1 ((eI x).map iv)):=by
 cases h:dM x with
 |true=>simp_all[MS,ly,ng,iv,atL]
 |false=>rw[GC x h];simp only[gL,vC,HN,rR,xE,xG,xH,asInt,asBool,BY,U,Ec,Br,h,asw,aub]
theorem abt(uK)(tr i:Int)(es:List PV)(s l:List Int)(hs:s.length≤172800)(hl:l.length≤1000000000):bd.run (kT bd uK) (es,tr,i,s.map iv,0,l.map iv,())=uK (es,tr,IntKind.i64.wrap (i+1),(s.foldl (fun l t=>vD t l) l).map iv,()):=by
 refine bg (fun k=>(es,tr,i,s.map iv,(k:Int),((s.take k).foldl (fun l t=>vD t l) l).map iv,())) s.length (fun k hk rec=>?_) (fun rec=>?_) ?_ ?_
 ·have h1:(k:Int)<(s.length:Int):=by omega
  have Oi:=MN (s.take k) l;rw[asQ,as1 (by omega)]at Oi;have JL:(s.take (k+1)).foldl (fun l t=>vD t l) l=vD s[k] ((s.take k).foldl (fun l t=>vD t l) l):=by rw[asr hk,List.foldl_append];rfl
  generalize (s.take k).foldl (fun l t=>vD t l) l=lk at Oi JL;have ci:∀n:Int,cell (iv n) 0=.int .i64 n:=fun _=>rfl;have ee:(lk.map iv++[PV.int .i64 s[k]]).length*8≤ah∧0<8:=by grind [decide,List.length_append,List.length_map,List.length_cons,List.length_nil,ah]
  simp only[kT,cT,AI,h1,BY,ag,EM,cN hk,No,U,ci,asInt,IN ee];have ha:lk.map iv++[PV.int .i64 s[k]]=(lk++[s[k]]).map iv:=by simp[iv]
  have hw:IntKind.i64.wrap ((((lk++[s[k]]).map iv).length:Int)-1)=(lk.length:Int):=by rw[AI,asn,amo,asi];exact AW _ (by omega)
  grind [abr,ab]
 ·simp[kT,cT,AI,asl,IT,asP]
 ·grind [rounds,decide]
 rfl
theorem ac7(fs:List bl)(hf:fs.length≤1000)(i:Int):lX [.rs 4 (fs.map bl.pv),.int .i64 i]=some (.rs 1 ((instI fs i).map iv)):=by
 simp only[lX,uI,ao,asInt,BY,U];rw[instI_K];refine bg (fun k=>(fs.map bl.pv,i,(k:Int),(instK fs i k).map iv,())) fs.length (fun k hk rec=>?_) (fun rec=>?_) ?_ ?_
 ·have h1:(k:Int)<(fs.length:Int):=by omega
  have hl:=instK_len fs i k hf;rw[instK_succ fs i k hk];simp only[oZ,cT,AI,h1,BY,ag,AT,cN hk,No,U,rR,xE,xG,xH,asInt,eC,Ec,Ti,ao,ab (show k<9223372036854775807 by omega)];by_cases e:fs[k].bD=i
  ·simp only[e,asv,ahX,cQ,IT,BY];have:=abt rec i k (fs.map bl.pv) (eI fs[k]) (instK fs i k) (JS _) (by omega);rw[ab (show k<9223372036854775807 by omega)]at this;exact this
  simp_all
 ·simp[oZ,cT,AI,asl,IT]
 ·grind [rounds,decide]
 rfl
theorem aas(fs:List bl)(hl:fs.length≤maxLen)(t:Int):nh [.rs 4 (fs.map bl.pv),.int .i64 t]=some (.bool (EU fs t)):=by
 have hm:=ai;simp only[nh,xB,ao,asInt,BY,U,AI];refine(cX (fun k=>(fs.map bl.pv,t,(k:Int),())) fs.length (fun k=>decide ((fs.map bl.bD)[k]?=some t)) (no:=some (.bool true)) (fin:=some (.bool false)) (fun k hk rec=>?_) (fun rec=>?_) ?_ rfl).trans ?_
 ·have h1:(k:Int)<(fs.length:Int):=by omega
  simp only[rn,cT,AI,h1,BY,ag,AT,cN hk,No,U,rR,asInt,ab (show k<9223372036854775807 by omega),bT,cO]
 ·simp[rn,cT,AI,asl,IT]
 ·have:=aw;omega
 ·have h:=jg (fs.map bl.bD) fs.length (by simp) t;rw[h,asG (by simp)];unfold EU;grind
theorem NG(x:bl)(t:Int)(h:t∈eI x):0≤t∧t≤172800:=by
 cases hs:dM x with
 |false=>rw[GC x hs]at h;cases h
 |true=>
  rw[ly x hs]at h;obtain⟨j,hj,rfl⟩:=asC.1 h;have hj:=ath.1 hj;have WI:=MO x hs;have hc:=rf x hs;obtain⟨h1,h2,h3,h4,h5⟩:=(gw x).1 hs;have Uj:(j:Int)≤df x-1:=by omega
  have GZ:(j:Int)*x.every≤(df x-1)*x.every:=atu Uj (by omega);have Kk:0≤(j:Int)*x.every:=auk (by omega) (by omega);omega
theorem Qx(t:Int)(s:List Int):∀l:List Int,t∈s.foldl (fun l t=>vD t l) l↔t∈l∨t∈s:=by
 induction s with
 |nil=>simp
 |cons a s ih=>grind [afX]
theorem NH(t:Int)(fs:List bl):∀l:List Int,t∈fs.foldl instF l↔t∈l∨∃f∈fs,t∈eI f:=by
 induction fs with
 |nil=>simp
 |cons f fs ih=>intro l;rw[auD,ih];unfold instF;rw[Qx];grind
theorem instI_mem(fs:List bl)(i t:Int):t∈instI fs i↔∃f∈fs,f.bD=i∧t∈eI f:=by unfold instI;rw[NH];grind
theorem instI_range(fs:List bl)(i t:Int)(h:t∈instI fs i):0≤t∧t≤172800:=by obtain⟨f,_,_,h3⟩:=(instI_mem fs i t).1 h;exact NG f t h3
def W6(T:ay)(k:Nat):Bool:=match T.ae[k]? with|some x=>decide ((x.calls.length:Int)>40)|none=>false
def zp(T:ay):Prop:=∀q,q<10→(yV T q).2=0
theorem R2(T:ay):∃p i e,bK ((List.range 10).findSome? (sN T)) (some (uc 0 0 0))=some (uc p i e)∧(e=0→zp T):=by
 cases h:(List.range 10).findSome? (sN T)with
 |none=>
  refine⟨0,0,0,rfl,fun _ q hq=>?_⟩;have:=List.findSome?_eq_none_iff.1 h q (ath.2 hq);unfold sN at this;split at this
  ·assumption
  ·cases this
 |some r=>
  obtain⟨q,hq,hr⟩:=asY h;unfold sN at hr;split at hr
  ·cases hr
  ·rename_i cV;simp only[cO]at hr;exact⟨_,_,_,hr.symm,fun e=>absurd e cV⟩
theorem I6(f:Nat→Int)(n:Nat)(h:(bW f n).2=0)(k:Nat)(hk:k<n):f k=0:=by
 unfold bW at h;cases hf:(List.range n).findSome? (fun k=>if f k=0 then none else some ((k:Int),f k))with
 |none=>simp_all
 |some x=>rw[hf]at h;obtain⟨j,_,hj⟩:=asY hf;grind
theorem JU{c:aY}{p:Option aY}{stops low high:Int}(h:JH c p stops low high=0):0≤c.stop∧c.stop<stops∧low≤c.arr∧c.arr≤c.dep∧c.dep≤high∧∀q,p=some q→q.dep≤c.arr∧q.stop≠c.stop:=by unfold JH at h;grind
structure aml(T:ay)(i:Nat)(x:br):Prop where
 id:x.id∉(T.ae.map br.id).take i
 two:2≤x.calls.length
 most:x.calls.length≤32
 call:∀(k:Nat)(c:aY),x.calls[k]?=some c→0≤c.stop∧c.stop<(T.stops.length:Int)∧0≤c.arr∧c.arr≤c.dep∧c.dep≤172800
 step:∀(k:Nat)(c d:aY),x.calls[k]?=some c→x.calls[k+1]?=some d→c.dep≤d.arr∧c.stop≠d.stop
variable{T:ay}{x:br}
theorem MT(hV:zp T){i:Nat}(hx:T.ae[i]?=some x):aml T i x:=by
 have h4:(te T.ae T.stops.length T.aj.length T.dp.length).2=0:=hV 4 (by omega);unfold te at h4;split at h4
 ·omega
 ·have hi:i<T.ae.length:=(OF.1 hx).1;have he:=I6 _ _ h4 i hi;unfold EN at he;rw[hx]at he;simp only at he;split at he
  ·omega
  ·split at he
   ·omega
   ·rename_i hid;split at he
    ·omega
    ·unfold gS at he;split at he
     ·omega
     ·rename_i hlen;simp only[asz,cT,avy]at hlen;have hc:∀(k:Nat)(c:aY),x.calls[k]?=some c→JH c (JN x.calls k) T.stops.length 0 172800=0:=fun k c hc=>by grind [I6,vp]
      refine⟨hid,by omega,by omega,fun k c h=>?_,fun k c d h h'=>?_⟩
      ·have:=JU (hc k c h);omega
      ·have:=(JU (hc (k+1) d h')).2.2.2.2.2 c h;omega
theorem ahf(hV:zp T){i j:Nat}{y:br}(hx:T.ae[i]?=some x)(hy:T.ae[j]?=some y)(h:x.id=y.id):i=j:=by
 have key:∀{i j:Nat}{x y:br},T.ae[i]?=some x→T.ae[j]?=some y→x.id=y.id→¬i<j:=fun{i j x y}hx hy h Uc=>by refine(MT hV hy).id ?_;rw[asy];refine⟨i,?_⟩;simp_all
 grind
theorem VS(hV:zp T){k:Nat}{f:bl}(hf:T.bV[k]?=some f):0≤f.bD∧f.bD<(T.ae.length:Int)∧dM f=true∧fitsAt T.ae f=true:=by
 have h5:(tf T.bV T.ae).2=0:=hV 5 (by omega);unfold tf at h5;split at h5
 ·omega
 ·have hk:k<T.bV.length:=(OF.1 hf).1;have he:=I6 _ _ h5 k hk;unfold yW at he;grind
theorem VT(c:aY)(l:List aY)(s:Int):nK (c::l) s=0↔∀(k:Nat)(x:aY),(c::l)[k]?=some x→0≤x.arr-c.dep+s∧x.arr-c.dep+s≤172800∧0≤x.dep-c.dep+s∧x.dep-c.dep+s≤172800:=by
 show(if(List.range (c::l).length).all (gX (c::l) c.dep s)=true then(0:Int)else 10)=0↔_;have e:(if(List.range (c::l).length).all (gX (c::l) c.dep s)=true then(0:Int)else 10)=0↔(List.range (c::l).length).all (gX (c::l) c.dep s)=true:=by simp
 rw[e,asV];constructor
 ·intro h k x hx;have:=h k (ath.2 (OF.1 hx).1);simp_all[gX,kOk,tS,amm,cT]
 ·intro h k hk;unfold gX;cases hx:(c::l)[k]? with
  |none=>rfl
  |some x=>have:=h k x hx;simp_all[kOk,tS,amm,cT]
theorem UP(hV:zp T){i:Nat}(hx:T.ae[i]?=some x){s:Int}(hs:s∈instI T.bV i):nK x.calls s=0:=by
 obtain⟨f,hf,hfi,hsf⟩:=(instI_mem _ _ _).1 hs;obtain⟨k,hk⟩:=asy.1 hf;obtain⟨_,_,Z3,oI⟩:=VS hV hk;have Px:T.ae[f.bD.toNat]?=some x:=by simp_all
 unfold fitsAt at oI;rw[Px]at oI;have ht:=MT hV hx;rw[ly f Z3]at hsf;obtain⟨j,hj,rfl⟩:=asC.1 hsf;have TO:=ath.1 hj;have hsb:=(gw f).1 Z3;have hc:=rf f Z3;have hle:(j:Int)≤df f-1:=by omega
 have hm:(j:Int)*f.every≤(df f-1)*f.every:=atu hle (by omega);have hm0:0≤(j:Int)*f.every:=auk (by omega) (by omega);have JI:Cd f=f.t0+(df f-1)*f.every:=rfl;cases hl:x.calls with
 |nil=>have:=ht.two;simp_all
 |cons c l=>replace oI:Ee x f=true:=oI;unfold Ee at oI;rw[hl]at oI;simp only[amm,cT]at oI;grind [nK,BV,Cd,VT]
end Go.Ab.Tt
