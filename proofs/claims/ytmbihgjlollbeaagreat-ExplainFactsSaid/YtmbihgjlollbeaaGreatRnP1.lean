import Derived.Test.YtmbihgjlollbeaaGreatTtP1
import Derived.Test.YtmbihgjlollbeaaGreatAbLib
namespace Go.Ab.Tt
set_option linter.all false
def ME(d:Int):Bool:=decide (0≤d)&&decide (d≤36524)
theorem JK(d:Int):fi [.int .i64 d]=some (.bool (ME d)):=by simp only[fi,BK,asInt,BY,U,aJ,ME]
set_option maxRecDepth 100000
theorem ao7(x:pE):cell x.pv 2=.bool x.added:=rfl
def wkT(c:mJ)(w:Int):Bool:=if w=0 then c.w0 else if w=1 then c.w1 else if w=2 then c.w2 else if w=3 then c.w3 else if w=4 then c.w4 else if w=5 then c.w5 else c.w6
def Gw(i d:Int)(e:pE):Bool:=decide (e.wB=i)&&decide (e.day=d)
def MF(c:mJ)(xs:List pE)(i d:Int):Int:=match xs.find? (Gw i d)with
 |some e=>if e.added=true then 2 else 3
 |none=>if(decide (d<c.Cp)||decide (d>c.Cq))=true then 5 else if wkT c ((d+5).tmod 7)=true then 1 else 4
def Bb(cs:List mJ)(xs:List pE)(i d:Int):Int:=if ME d=false then 0 else if i<0 then 0 else match cs[i.toNat]? with
 |some c=>MF c xs i d
 |none=>0
theorem MG(d:Int):eg [.int .i64 d]=some (.bool (ME d)):=by simp only[eg,yM,asInt,BY,U,aJ,ME,ge_iff_le]
theorem Km(d:Int)(h:ME d=true):IntKind.i64.wrap (d+5)=d+5∧0≤(d+5).tmod 7∧(d+5).tmod 7<7:=by unfold ME at h;simp only[ao9,cT]at h;grind [aZ,Int.tmod_eq_emod_of_nonneg]
theorem Qp(d:Int)(h:ME d=true):qZ [.int .i64 d]=some (.aG [.int .i64 ((d+5).tmod 7),.bool true]):=by obtain⟨h1,_⟩:=Km d h;simp only[qZ,BL,asInt,BY,U,JK,asBool,h,aiI,cQ,IS,h1]
theorem S1(d:Int)(h:ME d=true):oB [.int .i64 d]=some (.aG [.int .i64 ((d+5).tmod 7),.bool true]):=by obtain⟨h1,_⟩:=Km d h;simp only[oB,zN,asInt,BY,U,MG,asBool,h,aiI,cQ,IS,h1]
theorem ahG(c:mJ)(w:Int)(h0:0≤w)(h7:w<7)(k:Bool→Option PV):(if al w 7∧0<1 then[cell c.pv 0,cell c.pv 1,cell c.pv 2,cell c.pv 3,cell c.pv 4,cell c.pv 5,cell c.pv 6,cell c.pv 7,cell c.pv 8,cell c.pv 9][1+w.toNat*1]?.bind fun p=>(asBool p).bind k else none)=k (wkT c w):=by
 rw[IN ⟨⟨h0,h7⟩,by omega⟩];have:w=0∨w=1∨w=2∨w=3∨w=4∨w=5∨w=6:=by omega
 rcases this with rfl|rfl|rfl|rfl|rfl|rfl|rfl<;>rfl
theorem amc(c:mJ)(w:Int)(h0:0≤w)(h7:w<7)(k:Bool→Option PV):(if al w 7∧0<1 then(List.drop (w.toNat*1) [cell c.pv 1,cell c.pv 2,cell c.pv 3,cell c.pv 4,cell c.pv 5,cell c.pv 6,cell c.pv 7,cell c.pv 8,cell c.pv 9]).head?.bind fun p=>(asBool p).bind k else none)=k (wkT c w):=by
 rw[IN ⟨⟨h0,h7⟩,by omega⟩];have:w=0∨w=1∨w=2∨w=3∨w=4∨w=5∨w=6:=by omega
 rcases this with rfl|rfl|rfl|rfl|rfl|rfl|rfl<;>rfl
theorem MH{A:Type}(p:A→Bool)(g:A→Option PV)(l:List A)(fin:Option PV):bK ((List.range l.length).findSome? fun k=>(l[k]?).bind fun x=>if p x=true then some (g x)else none) fin=match l.find? p with|some x=>g x|none=>fin:=by rw[Aw];cases l.find? p<;>rfl
theorem Jy(cs:List mJ)(hc:cs.length≤maxLen)(xs:List pE)(hx:xs.length≤maxLen)(i d:Int):iC [.rs 10 (cs.map mJ.pv),.rs 3 (xs.map pE.pv),.int .i64 i,.int .i64 d]=some (.int .i64 (Bb cs xs i d)):=by
 have hm:=ai;simp only[iC,uq,ao,asInt,BY,U,ay,JK,asBool,AI];unfold Bb;by_cases hi:i<0
 ·simp_all
 by_cases hn:i≥(cs.length:Int)
 ·simp_all
 simp only[hi,hn,ass,as4,cond_false,U];cases hd:ME d with
 |false=>rfl
 |true=>
  obtain⟨n,rfl⟩:∃n:Nat,i=n:=⟨i.toNat,by omega⟩;have cd:n<cs.length:=by omega
  obtain⟨w1,w2,w3⟩:=Km d hd;simp only[avq,aiI,cQ,IS,ag,AT,cN cd,No,U,asj,asc];generalize cs[n]=c;refine(aC (fun k=>((n:Int),d,5,xs.map pE.pv,(xs.length:Int),(k:Int),cell c.pv 0,cell c.pv 1,cell c.pv 2,cell c.pv 3,cell c.pv 4,cell c.pv 5,cell c.pv 6,cell c.pv 7,cell c.pv 8,cell c.pv 9,())) xs.length (fun k=>(xs[k]?).bind fun x=>if Gw n d x=true then some (some (.int .i64 (if x.added=true then 2 else 3)))else none) (fin:=some (.int .i64 (if(decide (d<c.Cp)||decide (d>c.Cq))=true then 5 else if wkT c ((d+5).tmod 7)=true then 1 else 4))) (fun k hk rec=>?_) (fun rec=>?_) ?_ rfl).trans ?_
  ·have h1:(k:Int)<(xs.length:Int):=by omega
   simp only[oX,cT,h1,BY,ag,AT,cN hk,No,U,afF,afG,ao7,asInt,asBool,ay,ab (show k<9223372036854775807 by omega),eC];unfold Gw;generalize xs[k]=x;by_cases e1:x.wB=n<;>by_cases e2:x.day=d<;>simp[e1,e2,bK];cases x.added<;>rfl
  ·have hw:=ahG c ((d+5).tmod 7) w2 w3 (fun b=>if b=true then some (PV.int .i64 1)else some (PV.int .i64 4));simp only[oX,cT,asf,IS,abh,abi,asInt,BY,U,Qp d hd,cg,aqP,ase,Nat.reduceAdd,abm,ahH,asBool,show((5:Int)==3)=false from rfl,cond_false,ay];simp only[abh,abi,asBool]at hw;grind
  ·have:=aw;omega
  ·rw[MH (Gw n d) (fun x=>some (.int .i64 (if x.added=true then 2 else 3)))];unfold MF;grind
theorem LX(cs:List mJ)(hc:cs.length≤maxLen)(xs:List pE)(hx:xs.length≤maxLen)(i d:Int):mD [.rs 10 (cs.map mJ.pv),.rs 3 (xs.map pE.pv),.int .i64 i,.int .i64 d]=some (.int .i64 (Bb cs xs i d)):=by
 have hm:=ai;simp only[mD,BP,ao,asInt,BY,U,ay,MG,asBool,AI];unfold Bb;by_cases hi:i<0
 ·simp_all
 by_cases hn:i≥(cs.length:Int)
 ·simp_all
 simp only[hi,hn,ass,as4,cond_false,U];cases hd:ME d with
 |false=>rfl
 |true=>
  obtain⟨n,rfl⟩:∃n:Nat,i=n:=⟨i.toNat,by omega⟩;have cd:n<cs.length:=by omega
  obtain⟨w1,w2,w3⟩:=Km d hd;simp only[avq,aiI,cQ,IS,cN cd,asj,asc];refine(aC (fun k=>(cs.map mJ.pv,xs.map pE.pv,(n:Int),d,(k:Int),())) xs.length (fun k=>(xs[k]?).bind fun x=>if Gw n d x=true then some (some (.int .i64 (if x.added=true then 2 else 3)))else none) (fin:=some (.int .i64 (if(decide (d<cs[n].Cp)||decide (d>cs[n].Cq))=true then 5 else if wkT cs[n] ((d+5).tmod 7)=true then 1 else 4))) (fun k hk rec=>?_) (fun rec=>?_) ?_ rfl).trans ?_
  ·have h1:(k:Int)<(xs.length:Int):=by omega
   simp only[uD,cT,AI,h1,BY,ag,AT,cN hk,No,U,afF,afG,ao7,asInt,asBool,aJ,ab (show k<9223372036854775807 by omega),bX];unfold Gw;generalize xs[k]=x;by_cases e1:x.wB=n<;>by_cases e2:x.day=d<;>simp[e1,e2,bK];cases x.added<;>rfl
  ·have hw:=amc cs[n] ((d+5).tmod 7) w2 w3 (fun b=>if b=true then some (PV.int .i64 1)else some (PV.int .i64 4));simp only[uD,cT,AI,asf,IS,ag,AT,cN cd,No,abh,abi,asInt,BY,U,S1 d hd,cg,aqP,ase,Nat.reduceAdd,abm,ahH,asBool,ay];simp only[abh,abi,asBool]at hw;grind
  ·have:=aw;omega
  ·rw[MH (Gw n d) (fun x=>some (.int .i64 (if x.added=true then 2 else 3)))];unfold MF;grind
def yA(cs:List mJ)(xs:List pE)(i d:Int):Bool:=decide (Bb cs xs i d=1)||decide (Bb cs xs i d=2)
theorem RR(cs:List mJ)(hc:cs.length≤maxLen)(xs:List pE)(hx:xs.length≤maxLen)(i d:Int):lV [.rs 10 (cs.map mJ.pv),.rs 3 (xs.map pE.pv),.int .i64 i,.int .i64 d]=some (.bool (yA cs xs i d)):=by simp only[lV,ur,ao,asInt,BY,U,Jy cs hc xs hx,ay,bX,yA]
theorem UE(cs:List mJ)(hc:cs.length≤maxLen)(xs:List pE)(hx:xs.length≤maxLen)(i d:Int):q7 [.rs 10 (cs.map mJ.pv),.rs 3 (xs.map pE.pv),.int .i64 i,.int .i64 d]=some (.bool (yA cs xs i d)):=by simp only[q7,BQ,ao,asInt,BY,U,LX cs hc xs hx,ay,bX,yA]
def xy(t:Int)(l:List Int):Nat→Nat
 |0=>0
 |k+1=>if l.getD k 0>t then xy t l k else k+1
def vv(t:Int)(l:List Int):List Int:=l.take (xy t l l.length)++t::l.drop (xy t l l.length)
theorem Kn(t:Int)(l:List Int):∀k,xy t l k≤k
 |0=>aso _
 |k+1=>by
  unfold xy;split
  ·simp[auQ,Kn]
  omega
theorem afH(t:Int)(l:List Int):(vv t l).length=l.length+1:=by grind [Kn,vv]
theorem afI(t x:Int)(l:List Int):x∈vv t l↔x=t∨x∈l:=by grind [vv,xy,List.take_append_drop]
structure Lnk where
 a:Int
 ac:Int
 b:Int
 bc:Int
 stay:Bool
 deriving DecidableEq
def Lnk.pv(x:Lnk):PV:=.agg [.int .i64 x.a,.int .i64 x.ac,.int .i64 x.b,.int .i64 x.bc,.bool x.stay]
def eH(f:bl):List Int:=if dL f=true then(List.range (dc f).toNat).map fun(j:Nat)=>f.t0+(j:Int)*f.every else[]
def instF(l:List Int)(f:bl):List Int:=(eH f).foldl (fun l t=>vv t l) l
def instI(fs:List bl)(i:Int):List Int:=(fs.filter fun f=>decide (f.bD=i)).foldl instF []
def uY(l:List aY)(s:Int):List aY:=if nJ l s=0 then l.map fun k=>J2 k ((l.map aY.dep).headD 0) s else[]
def cy.key(r:cy):Int×Int×Int:=(r.bD,r.day,r.inst)
def cK(l:List Int)(d:Int)(k:Nat):List Int:=l.take k++d::l.drop k
theorem tM(l:List Int)(d:Int)(k:Nat)(h:k≤l.length):(cK l d k).length=l.length+1:=by simp[cK];omega
theorem yO(l:List Int)(d:Int)(k j:Nat)(h:k≤l.length)(hj:j<k):(cK l d k)[j]?=l[j]?:=by simp_all[cK,asY,atH]
theorem xz(l:List Int)(d:Int)(k:Nat)(h:k≤l.length):(cK l d k)[k]?=some d:=by simp_all[cK,as8,asU]
theorem yP(l:List Int)(d x:Int)(k:Nat)(h:k≤l.length):(cK l d k).set k x=cK l x k:=by simp_all[cK,List.set_append,asU]
theorem HE(l:List Int)(k:Nat)(h:k<l.length):cK l l[k] (k+1)=cK l l[k] k:=by unfold cK;rw[asm h,atb h,asy];rfl
theorem Qq(t:Int)(l:List Int):∀n k,xy t l n≤k→k<n→l.getD k 0>t
 |0,k,_,h=>absurd h (by omega)
 |n+1,k,h1,h2=>by
  unfold xy at h1;split at h1
  ·rename_i hg;by_cases e:k=n
   ·subst e;omega
   ·exact Qq t l n k h1 (by omega)
  omega
theorem IX(t:Int)(l:List Int):∀n,xy t l n=0∨∃k,xy t l n=k+1∧¬l.getD k 0>t
 |0=>.inl rfl
 |n+1=>by
  unfold xy;split
  ·exact IX t l n
  simp_all
def VH(t:Int)(l:List Int)(k:Nat):Int:=if k=l.length then t else l.getD k 0
theorem EJ(l:List Int)(k:Nat):(l.map iv)[k]?=l[k]?.map iv:=AT ..
theorem Ko(l:List Int)(k:Nat)(x:Int):(l.map iv).set k (.int .i64 x)=(l.set k x).map iv:=by rw[List.map_set];rfl
theorem AG(k:Nat)(h:k+1≤9223372036854775807):IntKind.i64.wrap (((k+1:Nat):Int)-1)=(k:Int):=by grind [aZ]
theorem S2(l:List Int)(k:Nat)(h:k<l.length):l.getD k 0=l[k]:=by simp_all
theorem VI(qA)(t tr len i:Int)(es:List PV)(c0 c1 c2:PV)(ev:Int)(l:List Int)(hl:l.length<4611686018427387904):ba.run (ek qA) (t,(l.length:Int),t,tr,es,len,i,c0,c1,c2,.int .i64 ev,(l++[t]).map iv,())=qA (IntKind.i64.wrap (t+ev),tr,es,len,i,c0,c1,c2,.int .i64 ev,(vv t l).map iv,()):=by
 have hp:=Kn t l l.length;refine bf (fun j=>(t,((l.length-j:Nat):Int),t,tr,es,len,i,c0,c1,c2,.int .i64 ev,(cK l (VH t l (l.length-j)) (l.length-j)).map iv,())) (l.length-xy t l l.length) (fun j hj rec=>?_) (fun rec=>?_) ?_ ?_
 ·obtain⟨k,hk⟩:∃k,l.length-j=k+1:=⟨l.length-j-1,by omega⟩;have JV:k<l.length:=by omega
  have hgt:l[k]>t:=by have:=Qq t l l.length k (by omega) JV;simp_all
  have hlen:=tM l (VH t l (k+1)) (k+1) (by omega);have afJ:=yO l (VH t l (k+1)) (k+1) k (by omega) (by omega);have Uy:=xz l (VH t l (k+1)) (k+1) (by omega);have hd:VH t l k=l[k]:=by unfold VH;grind
  have rU:=yP l (VH t l (k+1)) l[k] (k+1) (by omega);rw[HE l k JV]at rU;have e2:l.length-(j+1)=k:=by omega
  have r1:al (k:Int) (l.length+1):=fA _ _ (by omega);have r2:al ((k+1:Nat):Int) (l.length+1):=fA _ _ (by omega);simp only[hk,e2];simp only[ek,show decide (((k+1:Nat):Int)>0)=true by simp,cond_true,AG k (by omega),AI,hlen,IN r1,IN r2,asc,EJ,afJ,cN JV,No,U,iv,cell,PV.cells,abm,asInt,BY,show decide (l[k]>t)=true by simpa using hgt,Uy];rw[Ko,rU,hd]
 ·have e0:l.length-(l.length-xy t l l.length)=xy t l l.length:=by omega
  simp only[e0];generalize hpp:xy t l l.length=p at*;have hlen:=tM l (VH t l p) p hp;have Uy:=xz l (VH t l p) p hp;have rU:=yP l (VH t l p) t p hp;have r1:al (p:Int) (l.length+1):=fA _ _ (by omega);have Nq:(vv t l).map iv=((cK l (VH t l p) p).map iv).set p (.int .i64 t):=by grind [Ko,vv,cK]
  rw[Nq];have stop:xy t l l.length=0∨∃k,xy t l l.length=k+1∧¬l.getD k 0>t:=IX t l l.length;rw[hpp]at stop;rcases stop with h0|⟨k,hk,hng⟩
  ·subst h0;have r1':al (0:Int) (l.length+1):=r1;have aqM:(List.map iv (cK l (VH t l 0) 0))[(0:Int).toNat]?=some (iv (VH t l 0)):=by rfl
   simp only[ek,Int.natCast_zero,show decide ((0:Int)>0)=false from rfl,cond_false,U,cQ,IS,AI,hlen,IN r1',aqM,asInt,BY];rfl
  ·subst hk;have JV:k<l.length:=by omega
   rw[S2 l k JV]at hng;have afJ:=yO l (VH t l (k+1)) (k+1) k (by omega) (by omega);have r0:al (k:Int) (l.length+1):=fA _ _ (by omega);simp only[ek,show decide (((k+1:Nat):Int)>0)=true by simp,cond_true,AG k (by omega),AI,hlen,IN r0,IN r1,asc,EJ,afJ,cN JV,No,U,iv,cell,PV.cells,abm,asInt,BY,show decide (l[k]>t)=false by simpa using hng,cQ,IS,Uy]
 ·grind [aw,maxLen,decide]
 ·simp[cK,VH]
theorem kZ(x:bl)(h:dL x=true):eH x=(List.range (dc x).toNat).map fun(j:Nat)=>x.t0+(j:Int)*x.every:=by unfold eH;rw[IN h]
theorem Gx(x:bl)(h:dL x=false):eH x=[]:=by simp_all[eH,IT]
theorem JL(x:bl):(eH x).length≤172800:=by
 unfold eH;split
 ·simp_all[q8]
 simp
theorem MI(s:List Int):∀l:List Int,(s.foldl (fun l t=>vv t l) l).length=l.length+s.length:=by
 induction s with
 |nil=>simp
 |cons t s ih=>grind [afH,List.length_cons]
theorem instF_len(l:List Int)(f:bl):(instF l f).length≤l.length+172800:=by simp[instF,MI,JL]
theorem abj(fs:List bl):∀l:List Int,(fs.foldl instF l).length≤l.length+172800*fs.length:=by
 induction fs with
 |nil=>simp
 |cons f fs ih=>grind [instF,instF_len,List.length_cons]
theorem S3(uE)(x:bl)(h:dL x=true)(tr len i:Int)(es:List PV)(l:List Int)(hl:l.length≤1000000000):ba.run (gg ba uE) (x.t0,tr,es,len,i,.int .i64 x.bD,.int .i64 x.t0,.int .i64 x.t1,.int .i64 x.every,l.map iv,())=uE (tr,es,len,IntKind.i64.wrap (i+1),(instF l x).map iv,()):=by
 have hc:=q8 x h;have Wz:=MJ x h;obtain⟨h1,h2,h3,h4,h5⟩:=(gv x).1 h;have uJ:∀k,k≤(dc x).toNat→((eH x).take k).length=k:=fun k hk=>by rw[kZ x h];simp;omega
 refine bf (fun k=>(x.t0+(k:Int)*x.every,tr,es,len,i,.int .i64 x.bD,.int .i64 x.t0,.int .i64 x.t1,.int .i64 x.every,(((eH x).take k).foldl (fun l t=>vv t l) l).map iv,())) (dc x).toNat (fun k hk rec=>?_) (fun rec=>?_) ?_ ?_
 ·have Ua:(k:Int)≤dc x-1:=by omega
  have GU:(k:Int)*x.every≤(dc x-1)*x.every:=atp Ua (by omega);have Kb:0≤(k:Int)*x.every:=auf (by omega) (by omega);have cd:x.t0+(k:Int)*x.every<x.t1:=by omega
  have aqN:((k+1:Nat):Int)*x.every=(k:Int)*x.every+x.every:=by grind
  have hw:IntKind.i64.wrap (x.t0+(k:Int)*x.every+x.every)=x.t0+((k+1:Nat):Int)*x.every:=by grind [aZ]
  have Oe:=MI ((eH x).take k) l;rw[uJ k (by omega)]at Oe;have hs:(eH x).take (k+1)=(eH x).take k++[x.t0+(k:Int)*x.every]:=by rw[kZ x h,←at4,←at4,List.take_range,List.take_range,asU (by omega),asU (by omega),atv,asM];rfl
  have JE:((eH x).take (k+1)).foldl (fun l t=>vv t l) l=vv (x.t0+(k:Int)*x.every) (((eH x).take k).foldl (fun l t=>vv t l) l):=by simp_all
  generalize ((eH x).take k).foldl (fun l t=>vv t l) l=lk at Oe JE;have ee:(lk.map iv++[PV.int .i64 (x.t0+(k:Int)*x.every)]).length*8≤ah∧0<8:=by grind [decide,List.length_append,List.length_map,List.length_cons,List.length_nil,ah]
  simp only[gg,asInt,BY,U,cT,cd,IN ee,AI];rw[show lk.map iv++[PV.int .i64 (x.t0+(k:Int)*x.every)]=(lk++[x.t0+(k:Int)*x.every]).map iv by simp[iv],VI _ _ _ _ _ _ _ _ _ _ lk (by omega),hw,JE]
 ·have he:(((dc x).toNat:Nat):Int)*x.every=dc x*x.every:=by grind
  have cd:¬x.t0+(((dc x).toNat:Nat):Int)*x.every<x.t1:=by omega
  have yn:(eH x).take (dc x).toNat=eH x:=asA (by rw[kZ x h];simp);simp only[gg,asInt,BY,U,cT,IT cd,yn];rfl
 ·grind [rounds,decide]
 simp
theorem IY{A:Type}(p:A→Bool)(l:List A)(k:Nat)(h:k<l.length):(l.take (k+1)).filter p=(l.take k).filter p++if p l[k]=true then[l[k]]else[]:=by rw[asm h,List.filter_append];grind
def instK(fs:List bl)(i:Int)(k:Nat):List Int:=((fs.take k).filter fun f=>decide (f.bD=i)).foldl instF []
theorem instK_len(fs:List bl)(i:Int)(k:Nat)(hf:fs.length≤1000):(instK fs i k).length≤172800000:=by grind [instK,abj,decide,Nat.le_trans,List.length_filter_le,List.length_nil]
theorem instK_succ(fs:List bl)(i:Int)(k:Nat)(h:k<fs.length):instK fs i (k+1)=if fs[k].bD=i then instF (instK fs i k) fs[k]else instK fs i k:=by grind [instK,IY]
theorem instF_un(l:List Int)(f:bl)(h:dL f=false):instF l f=l:=by unfold instF;rw[Gx f h];rfl
theorem instI_K(fs:List bl)(i:Int):instI fs i=instK fs i fs.length:=by unfold instI instK;simp
theorem aan(fs:List bl)(hf:fs.length≤1000)(i:Int):gT [.rs 4 (fs.map bl.pv),.int .i64 i]=some (.rs 1 ((instI fs i).map iv)):=by
 simp only[gT,nI,ao,asInt,BY,U,AI];rw[instI_K];refine bf (fun k=>(i,fs.map bl.pv,(fs.length:Int),(k:Int),(instK fs i k).map iv,())) fs.length (fun k hk rec=>?_) (fun rec=>?_) ?_ ?_
 ·have h1:(k:Int)<(fs.length:Int):=by omega
  have hl:=instK_len fs i k hf;rw[instK_succ fs i k hk];simp only[kE,cT,h1,BY,ag,AT,cN hk,No,U,rM,xA,xB,xC,asInt,eC,D8,JM,asBool,ab (show k<9223372036854775807 by omega)];by_cases e:fs[k].bD=i
  ·simp only[e,asq,aiI,cQ,IS,BY];cases hs:dL fs[k]with
   |false=>simp_all[asr,BY,instF_un]
   |true=>simp only[aiI,cQ,IS];grind [S3,bl.pv,instK,ab]
  simp_all
 ·simp[kE,cT,asf,IS]
 ·grind [rounds,decide]
 rfl
theorem aao(x:br)(hx:x.Ok)(start:Int)(hs:jM start)(HF:x.calls.length≤40):dH [x.pv,.int .i64 start]=some (.aG [.rs 5 ((uY x.calls start).map aY.pv),.int .i64 (nJ x.calls start)]):=by
 have hm:=ai;have q9:∀y∈x.calls,y.Ok:=hx.calls.2;simp only[dH,oA,MK,AH,B8,AJ,Ft,xD,aO,ao,asInt,asBool,BY,U,AI];generalize x.calls=l at HF q9⊢;cases l with
 |nil=>rfl
 |cons c l=>
  generalize hl:c::l=cs at HF q9⊢;have M6:cs[0]?=some c:=by rw[←hl];rfl
  have eR:0<cs.length:=by rw[←hl];simp
  have hcE:nJ cs start=if(List.range cs.length).all (gW cs c.dep start)=true then 0 else 10:=by rw[←hl];rfl
  have ML:c.Ok:=q9 c (by rw[←hl];simp);have cU:((cs.length:Int)==0)=false:=by grind
  have RQ:dA (cs.map aY.pv) 0=some c.pv:=by have:=ag (cs.map aY.pv) 0;simp_all
  have ee:0≤(cs.length:Int)∧(cs.length:Int)≤(cs.length:Int)∧(cs.length:Int).toNat*32≤ah∧0<32∧0<5:=by grind [decide,ah]
  rw[cU,RQ];simp only[cQ,IS,U,rK,asInt,BY,IN ee,as1,asc,asA (avr (AI _)),AI];rw[auZ (by simp),atc,AI];have VJ:0≤(cs.length:Int)∧(cs.length:Int)≤(cs.length:Int)∧cs.length*32≤ah∧0<32∧0<5:=ee;have MM:ba.run dV (start,c.dep,(cs.length:Int),0,cs.map aY.pv,())=bK ((List.range cs.length).findSome? fun k=>if gW cs c.dep start k=true then none else some (some (.aG [.rs 5 [],.int .i64 10]))) (some (.aG [.rs 5 (Gy cs (fun x=>J2 x c.dep start) cs.length),.int .i64 0])):=by
   refine aC (fun k=>(start,c.dep,(cs.length:Int),(k:Int),Gy cs (fun x=>J2 x c.dep start) k,())) cs.length _ (fun k hk rec=>?_) (fun rec=>?_) ?_ ?_
   ·have h1:(k:Int)<(cs.length:Int):=by omega
    have B1:cs[k].Ok:=q9 _ (ar9 hk);obtain⟨n1,e1,q1⟩:=HG cs[k].arr c.dep start B1.arr ML.dep hs;obtain⟨n2,e2,q2⟩:=HG cs[k].dep c.dep start B1.dep ML.dep hs;have hlen:=S4 cs (fun x=>J2 x c.dep start) k (by omega);have eQ:=S5 cs (fun x=>J2 x c.dep start) k hk;have rU:=S6 cs (fun x=>J2 x c.dep start) k hk;have hr:al (k:Int) cs.length:=fA k _ hk;have afK:gW cs c.dep start k=(tN cs[k].arr c.dep start&&tN cs[k].dep c.dep start):=by unfold gW;rw[cN hk];rfl
    have Pw:∀X,((Gy cs (fun x=>J2 x c.dep start) k).set k X)[k]?=some X:=fun X=>by simp_all
    simp only[dV,cT,h1,BY,hlen,IN hr,asc,eQ,U,uO,Dw,rK,OZ,O0,asInt,e1,e2,cg,asBool,aqP,ase,Nat.reduceAdd,abm,ahH,atT,Pw,S7,over,au6,ab (show k<9223372036854775807 by omega)];grind [tN,start,bK,J2,aY.pv]
   ·simp[dV,cT,asf,IS]
   ·grind [rounds,decide]
   rfl
  have hF:uY cs start=if(List.range cs.length).all (gW cs c.dep start)=true then cs.map (fun x=>J2 x c.dep start)else[]:=by unfold uY;rw[hcE,show(cs.map aY.dep).headD 0=c.dep by rw[←hl];rfl];simp
  rw[IN VJ,MM,re,hcE,hF];by_cases yn:(List.range cs.length).all (gW cs c.dep start)=true
  ·simp_all[IN,bK,Gy,atU,atJ]
  simp_all[IT,bK]
theorem aas(x:br)(hx:x.Ok)(start:Int)(hs:0≤start∧start≤172800)(HF:x.calls.length≤40):gm [x.pv,.int .i64 start]=some (.aG [.rs 5 ((uY x.calls start).map aY.pv),.int .i64 (nJ x.calls start)]):=by
 have hm:=ai;have q9:∀y∈x.calls,y.Ok:=hx.calls.2;simp only[gm,yN,MK,AH,B8,AJ,Ft,xD,aO,ao,asInt,asBool,BY,U,AI];generalize x.calls=l at HF q9⊢;cases l with
 |nil=>rfl
 |cons c l=>
  generalize hl:c::l=cs at HF q9⊢;have M6:cs[0]?=some c:=by rw[←hl];rfl
  have eR:0<cs.length:=by rw[←hl];simp
  have hcE:nJ cs start=if(List.range cs.length).all (gW cs c.dep start)=true then 0 else 10:=by rw[←hl];rfl
  have ML:c.Ok:=q9 c (by rw[←hl];simp);have cU:((cs.length:Int)==0)=false:=by grind
  have RQ:dA (cs.map aY.pv) 0=some c.pv:=by rw[show(0:Int)=((0:Nat):Int)from rfl,ag,AT,M6];rfl
  rw[cU,RQ];simp only[cQ,IS,U,rK,asInt,BY];have MM:ba.run (gJ ba) (start,c.dep,0,x.id,x.dF,x.wB,x.free,cs.map aY.pv,[],())=bK ((List.range cs.length).findSome? fun k=>if gW cs c.dep start k=true then none else some (some (.aG [.rs 5 [],.int .i64 10]))) (some (.aG [.rs 5 (cs.map fun x=>(J2 x c.dep start).pv),.int .i64 0])):=by
   refine aC (fun k=>(start,c.dep,(k:Int),x.id,x.dF,x.wB,x.free,cs.map aY.pv,(cs.take k).map (fun x=>(J2 x c.dep start).pv),())) cs.length _ (fun k hk rec=>?_) (fun rec=>?_) ?_ rfl
   ·have h1:(k:Int)<(cs.length:Int):=by omega
    have B1:cs[k].Ok:=q9 _ (ar9 hk);obtain⟨n1,e1,q1⟩:=HH cs[k].arr c.dep start B1.arr ML.dep hs;obtain⟨n2,e2,q2⟩:=HH cs[k].dep c.dep start B1.dep ML.dep hs;have afK:gW cs c.dep start k=(tN cs[k].arr c.dep start&&tN cs[k].dep c.dep start):=by unfold gW;rw[cN hk];rfl
    have ee:∀X:PV,(((cs.take k).map (fun x=>(J2 x c.dep start).pv))++[X]).length*32≤ah∧0<32:=fun X=>by refine⟨?_,by omega⟩;grind [List.length_append,List.length_map,List.length_take,List.length_cons,List.length_nil,ah]
    simp only[gJ,cT,AI,h1,BY,ag,AT,cN hk,No,U,uO,Dw,rK,OZ,O0,asInt,e1,e2,cg,asBool,aqP,ase,Nat.reduceAdd,abm,ahH,IN (ee _),ab (show k<9223372036854775807 by omega)];rw[afK];cases hA:tN cs[k].arr c.dep start with
    |false=>rfl
    |true=>
     cases hB:tN cs[k].dep c.dep start with
     |false=>rfl
     |true=>have ht:cs.take (k+1)=cs.take k++[cs[k]]:=(atg hk).symm;rw[ht,q1 hA,q2 hB];simp only[aiI,cond_false,U,cQ,IS,as7,BY,bK,asM,asn,at3,J2,aY.pv]
   ·simp[gJ,cT,AI,asf,IS,asJ]
   grind [rounds,decide]
  have hF:uY cs start=if(List.range cs.length).all (gW cs c.dep start)=true then cs.map (fun x=>J2 x c.dep start)else[]:=by unfold uY;grind
  rw[MM,re,hcE,hF];by_cases yn:(List.range cs.length).all (gW cs c.dep start)=true
  ·simp_all[IN,bK,Gy,atU,atJ]
  simp_all[IT,bK]
theorem abk(qA)(tr i k:Int)(es s:List PV)(t:Int)(l:List Int)(hl:l.length<4611686018427387904):ba.run (kF qA) (es,tr,i,s,k,(l.length:Int),(l++[t]).map iv,())=qA (es,tr,i,s,IntKind.i64.wrap (k+1),(vv t l).map iv,()):=by
 have hp:=Kn t l l.length;refine bf (fun j=>(es,tr,i,s,k,((l.length-j:Nat):Int),(cK l t (l.length-j)).map iv,())) (l.length-xy t l l.length) (fun j hj rec=>?_) (fun rec=>?_) ?_ ?_
 ·obtain⟨q,hk⟩:∃q,l.length-j=q+1:=⟨l.length-j-1,by omega⟩;have JV:q<l.length:=by omega
  have hgt:l[q]>t:=by have:=Qq t l l.length q (by omega) JV;simp_all
  have hlen:=tM l t (q+1) (by omega);have afJ:=yO l t (q+1) q (by omega) (by omega);have Uy:=xz l t (q+1) (by omega);have rU:=yP l t l[q] (q+1) (by omega);rw[HE l q JV]at rU;have acg:=yP l l[q] t q (by omega);have aqO:=xz l l[q] q (by omega);have ao8:=tM l l[q] q (by omega);have e2:l.length-(j+1)=q:=by omega
  have r1:al (q:Int) (l.length+1):=fA _ _ (by omega);have r2:al ((q+1:Nat):Int) (l.length+1):=fA _ _ (by omega);simp only[hk,e2];have hs1:((cK l t (q+1)).map iv).set (q+1) (.int .i64 l[q])=(cK l l[q] q).map iv:=by rw[Ko,rU]
  have hs2:((cK l l[q] q).map iv).set q (.int .i64 t)=(cK l t q).map iv:=by rw[Ko,acg]
  have g1:((cK l t (q+1)).map iv)[q]?=some (iv l[q]):=by simp_all
  have g2:((cK l t (q+1)).map iv)[q+1]?=some (iv t):=by rw[EJ,Uy];rfl
  have g3:((cK l l[q] q).map iv)[q]?=some (iv l[q]):=by rw[EJ,aqO];rfl
  have ci:∀n:Int,cell (iv n) 0=.int .i64 n:=fun _=>rfl;simp only[kF,show decide (((q+1:Nat):Int)>0)=true by simp,cond_true,AG q (by omega),AI,hlen,IN r1,IN r2,asc,g1,g2,U,ci,asInt,BY,show decide (l[q]>t)=true by simpa using hgt,hs1,ao8,g3,hs2]
 ·have e0:l.length-(l.length-xy t l l.length)=xy t l l.length:=by omega
  simp only[e0];generalize hpp:xy t l l.length=p at*;have hlen:=tM l t p hp;have Uy:=xz l t p hp;have r1:al (p:Int) (l.length+1):=fA _ _ (by omega);have Nq:(vv t l).map iv=(cK l t p).map iv:=by unfold vv cK;rw[hpp]
  rw[Nq];have ci:∀n:Int,cell (iv n) 0=.int .i64 n:=fun _=>rfl;have stop:xy t l l.length=0∨∃k,xy t l l.length=k+1∧¬l.getD k 0>t:=IX t l l.length;rw[hpp]at stop;rcases stop with h0|⟨q,hk,hng⟩
  ·subst h0;rfl
  ·subst hk;have JV:q<l.length:=by omega
   rw[S2 l q JV]at hng;have afJ:=yO l t (q+1) q (by omega) (by omega);have r0:al (q:Int) (l.length+1):=fA _ _ (by omega);have g1:((cK l t (q+1)).map iv)[q]?=some (iv l[q]):=by simp_all
   have g2:((cK l t (q+1)).map iv)[q+1]?=some (iv t):=by rw[EJ,Uy];rfl
   simp only[kF,show decide (((q+1:Nat):Int)>0)=true by simp,cond_true,AG q (by omega),AI,hlen,IN r0,IN r1,asc,g1,g2,U,ci,asInt,BY,show decide (l[q]>t)=false by simpa using hng,cQ,IS]
 ·grind [aw,maxLen,decide]
 ·simp[cK]
theorem S8(x:bl):gK [x.pv]=some (.rs 1 ((eH x).map iv)):=by
 cases h:dL x with
 |true=>simp_all[MN,kZ,nf,iv,atJ]
 |false=>rw[Gx x h];simp only[gK,vu,HI,rM,xA,xB,xC,asInt,asBool,BY,U,D8,Bo,h,asr,at3]
theorem abl(uE)(tr i:Int)(es:List PV)(s l:List Int)(hs:s.length≤172800)(hl:l.length≤1000000000):ba.run (kG ba uE) (es,tr,i,s.map iv,0,l.map iv,())=uE (es,tr,IntKind.i64.wrap (i+1),(s.foldl (fun l t=>vv t l) l).map iv,()):=by
 refine bf (fun k=>(es,tr,i,s.map iv,(k:Int),((s.take k).foldl (fun l t=>vv t l) l).map iv,())) s.length (fun k hk rec=>?_) (fun rec=>?_) ?_ ?_
 ·have h1:(k:Int)<(s.length:Int):=by omega
  have Oe:=MI (s.take k) l;rw[asK,asU (by omega)]at Oe;have JE:(s.take (k+1)).foldl (fun l t=>vv t l) l=vv s[k] ((s.take k).foldl (fun l t=>vv t l) l):=by rw[asm hk,List.foldl_append];rfl
  generalize (s.take k).foldl (fun l t=>vv t l) l=lk at Oe JE;have ci:∀n:Int,cell (iv n) 0=.int .i64 n:=fun _=>rfl;have ee:(lk.map iv++[PV.int .i64 s[k]]).length*8≤ah∧0<8:=by grind [decide,List.length_append,List.length_map,List.length_cons,List.length_nil,ah]
  simp only[kG,cT,AI,h1,BY,ag,EJ,cN hk,No,U,ci,asInt,IN ee];have ha:lk.map iv++[PV.int .i64 s[k]]=(lk++[s[k]]).map iv:=by simp[iv]
  have hw:IntKind.i64.wrap ((((lk++[s[k]]).map iv).length:Int)-1)=(lk.length:Int):=by rw[AI,asi,aqP,ase];exact AG _ (by omega)
  grind [abk,ab]
 ·simp[kG,cT,AI,asf,IS,asJ]
 ·grind [rounds,decide]
 rfl
theorem acZ(fs:List bl)(hf:fs.length≤1000)(i:Int):lW [.rs 4 (fs.map bl.pv),.int .i64 i]=some (.rs 1 ((instI fs i).map iv)):=by
 simp only[lW,uC,ao,asInt,BY,U];rw[instI_K];refine bf (fun k=>(fs.map bl.pv,i,(k:Int),(instK fs i k).map iv,())) fs.length (fun k hk rec=>?_) (fun rec=>?_) ?_ ?_
 ·have h1:(k:Int)<(fs.length:Int):=by omega
  have hl:=instK_len fs i k hf;rw[instK_succ fs i k hk];simp only[oY,cT,AI,h1,BY,ag,AT,cN hk,No,U,rM,xA,xB,xC,asInt,eC,D8,S8,ao,ab (show k<9223372036854775807 by omega)];by_cases e:fs[k].bD=i
  ·simp only[e,asq,aiI,cQ,IS,BY];have:=abl rec i k (fs.map bl.pv) (eH fs[k]) (instK fs i k) (JL _) (by omega);rw[ab (show k<9223372036854775807 by omega)]at this;exact this
  simp_all
 ·simp[oY,cT,AI,asf,IS]
 ·grind [rounds,decide]
 rfl
theorem aal(fs:List bl)(hl:fs.length≤maxLen)(t:Int):ng [.rs 4 (fs.map bl.pv),.int .i64 t]=some (.bool (ER fs t)):=by
 have hm:=ai;simp only[ng,xw,ao,asInt,BY,U,AI];refine(dt (fun k=>(fs.map bl.pv,t,(k:Int),())) fs.length (fun k=>decide ((fs.map bl.bD)[k]?=some t)) (no:=some (.bool true)) (fin:=some (.bool false)) (fun k hk rec=>?_) (fun rec=>?_) ?_ rfl).trans ?_
 ·have h1:(k:Int)<(fs.length:Int):=by omega
  simp only[rf,cT,AI,h1,BY,ag,AT,cN hk,No,U,rM,asInt,ab (show k<9223372036854775807 by omega),bX,cO]
 ·simp[rf,cT,AI,asf,IS]
 ·have:=aw;omega
 ·have h:=jf (fs.map bl.bD) fs.length (by simp) t;rw[h,asA (by simp)];unfold ER;grind
theorem NA(x:bl)(t:Int)(h:t∈eH x):0≤t∧t≤172800:=by
 cases hs:dL x with
 |false=>rw[Gx x hs]at h;cases h
 |true=>
  rw[kZ x hs]at h;obtain⟨j,hj,rfl⟩:=asx.1 h;have hj:=ata.1 hj;have Wz:=MJ x hs;have hc:=q8 x hs;obtain⟨h1,h2,h3,h4,h5⟩:=(gv x).1 hs;have Ua:(j:Int)≤dc x-1:=by omega
  have GU:(j:Int)*x.every≤(dc x-1)*x.every:=atp Ua (by omega);have Kb:0≤(j:Int)*x.every:=auf (by omega) (by omega);omega
theorem Qr(t:Int)(s:List Int):∀l:List Int,t∈s.foldl (fun l t=>vv t l) l↔t∈l∨t∈s:=by
 induction s with
 |nil=>simp
 |cons a s ih=>grind [afI]
theorem NB(t:Int)(fs:List bl):∀l:List Int,t∈fs.foldl instF l↔t∈l∨∃f∈fs,t∈eH f:=by
 induction fs with
 |nil=>simp
 |cons f fs ih=>intro l;rw[auw,ih];unfold instF;rw[Qr];grind
theorem instI_mem(fs:List bl)(i t:Int):t∈instI fs i↔∃f∈fs,f.bD=i∧t∈eH f:=by unfold instI;rw[NB];grind
theorem instI_range(fs:List bl)(i t:Int)(h:t∈instI fs i):0≤t∧t≤172800:=by obtain⟨f,_,_,h3⟩:=(instI_mem fs i t).1 h;exact NA f t h3
def WW(T:az)(k:Nat):Bool:=match T.ae[k]? with|some x=>decide ((x.calls.length:Int)>40)|none=>false
def zk(T:az):Prop:=∀q,q<10→(yQ T q).2=0
theorem RW(T:az):∃p i e,bK ((List.range 10).findSome? (sJ T)) (some (tX 0 0 0))=some (tX p i e)∧(e=0→zk T):=by
 cases h:(List.range 10).findSome? (sJ T)with
 |none=>
  refine⟨0,0,0,rfl,fun _ q hq=>?_⟩;have:=List.findSome?_eq_none_iff.1 h q (ata.2 hq);unfold sJ at this;split at this
  ·assumption
  ·cases this
 |some r=>
  obtain⟨q,hq,hr⟩:=asS h;unfold sJ at hr;split at hr
  ·cases hr
  ·rename_i cU;simp only[cO]at hr;exact⟨_,_,_,hr.symm,fun e=>absurd e cU⟩
theorem IZ(f:Nat→Int)(n:Nat)(h:(bV f n).2=0)(k:Nat)(hk:k<n):f k=0:=by
 unfold bV at h;cases hf:(List.range n).findSome? (fun k=>if f k=0 then none else some ((k:Int),f k))with
 |none=>simp_all
 |some x=>rw[hf]at h;obtain⟨j,_,hj⟩:=asS hf;grind
theorem JN{c:aY}{p:Option aY}{stops low high:Int}(h:JA c p stops low high=0):0≤c.stop∧c.stop<stops∧low≤c.arr∧c.arr≤c.dep∧c.dep≤high∧∀q,p=some q→q.dep≤c.arr∧q.stop≠c.stop:=by unfold JA at h;grind
structure amd(T:az)(i:Nat)(x:br):Prop where
 id:x.id∉(T.ae.map br.id).take i
 two:2≤x.calls.length
 most:x.calls.length≤32
 call:∀(k:Nat)(c:aY),x.calls[k]?=some c→0≤c.stop∧c.stop<(T.stops.length:Int)∧0≤c.arr∧c.arr≤c.dep∧c.dep≤172800
 step:∀(k:Nat)(c d:aY),x.calls[k]?=some c→x.calls[k+1]?=some d→c.dep≤d.arr∧c.stop≠d.stop
variable{T:az}{x:br}
theorem MO(hV:zk T){i:Nat}(hx:T.ae[i]?=some x):amd T i x:=by
 have h4:(s9 T.ae T.stops.length T.aj.length T.dm.length).2=0:=hV 4 (by omega);unfold s9 at h4;split at h4
 ·omega
 ·have hi:i<T.ae.length:=(Qs.1 hx).1;have he:=IZ _ _ h4 i hi;unfold EK at he;rw[hx]at he;simp only at he;split at he
  ·omega
  ·split at he
   ·omega
   ·rename_i hid;split at he
    ·omega
    ·unfold gR at he;split at he
     ·omega
     ·rename_i hlen;simp only[asu,cT,avs]at hlen;have hc:∀(k:Nat)(c:aY),x.calls[k]?=some c→JA c (JG x.calls k) T.stops.length 0 172800=0:=fun k c hc=>by grind [IZ,vi]
      refine⟨hid,by omega,by omega,fun k c h=>?_,fun k c d h h'=>?_⟩
      ·have:=JN (hc k c h);omega
      ·have:=(JN (hc (k+1) d h')).2.2.2.2.2 c h;omega
theorem agZ(hV:zk T){i j:Nat}{y:br}(hx:T.ae[i]?=some x)(hy:T.ae[j]?=some y)(h:x.id=y.id):i=j:=by
 have key:∀{i j:Nat}{x y:br},T.ae[i]?=some x→T.ae[j]?=some y→x.id=y.id→¬i<j:=fun{i j x y}hx hy h T2=>by refine(MO hV hy).id ?_;rw[ast];refine⟨i,?_⟩;simp_all
 grind
theorem VK(hV:zk T){k:Nat}{f:bl}(hf:T.bU[k]?=some f):0≤f.bD∧f.bD<(T.ae.length:Int)∧dL f=true∧fitsAt T.ae f=true:=by
 have h5:(ta T.bU T.ae).2=0:=hV 5 (by omega);unfold ta at h5;split at h5
 ·omega
 ·have hk:k<T.bU.length:=(Qs.1 hf).1;have he:=IZ _ _ h5 k hk;unfold yR at he;grind
theorem VL(c:aY)(l:List aY)(s:Int):nJ (c::l) s=0↔∀(k:Nat)(x:aY),(c::l)[k]?=some x→0≤x.arr-c.dep+s∧x.arr-c.dep+s≤172800∧0≤x.dep-c.dep+s∧x.dep-c.dep+s≤172800:=by
 show(if(List.range (c::l).length).all (gW (c::l) c.dep s)=true then(0:Int)else 10)=0↔_;have e:(if(List.range (c::l).length).all (gW (c::l) c.dep s)=true then(0:Int)else 10)=0↔(List.range (c::l).length).all (gW (c::l) c.dep s)=true:=by simp
 rw[e,asO];constructor
 ·intro h k x hx;have:=h k (ata.2 (Qs.1 hx).1);simp_all[gW,kOk,tN,ao9,cT]
 ·intro h k hk;unfold gW;cases hx:(c::l)[k]? with
  |none=>rfl
  |some x=>have:=h k x hx;simp_all[kOk,tN,ao9,cT]
theorem UG(hV:zk T){i:Nat}(hx:T.ae[i]?=some x){s:Int}(hs:s∈instI T.bU i):nJ x.calls s=0:=by
 obtain⟨f,hf,hfi,hsf⟩:=(instI_mem _ _ _).1 hs;obtain⟨k,hk⟩:=ast.1 hf;obtain⟨_,_,ZS,oI⟩:=VK hV hk;have Pq:T.ae[f.bD.toNat]?=some x:=by simp_all
 unfold fitsAt at oI;rw[Pq]at oI;have ht:=MO hV hx;rw[kZ f ZS]at hsf;obtain⟨j,hj,rfl⟩:=asx.1 hsf;have TF:=ata.1 hj;have hsb:=(gv f).1 ZS;have hc:=q8 f ZS;have hle:(j:Int)≤dc f-1:=by omega
 have hm:(j:Int)*f.every≤(dc f-1)*f.every:=atp hle (by omega);have hm0:0≤(j:Int)*f.every:=auf (by omega) (by omega);have JB:B9 f=f.t0+(dc f-1)*f.every:=rfl;cases hl:x.calls with
 |nil=>have:=ht.two;simp_all
 |cons c l=>replace oI:D9 x f=true:=oI;unfold D9 at oI;rw[hl]at oI;simp only[ao9,cT]at oI;grind [nJ,BR,B9,VL]
end Go.Ab.Tt
