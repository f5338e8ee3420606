import Derived.Test.YtoaknfoobjnjgaaGreatTtP1
import Derived.Test.YtoaknfoobjnjgaaGreatAbLib
namespace Go.Ab.Tt
set_option linter.all false
def lC(d:Int):Bool:=decide (0≤d)&&decide (d≤36524)
theorem wx(d:Int):cM [.int .i64 d]=some (.bool (lC d)):=by simp only[cM,zK,asInt,BY,U,bI,lC]
theorem Qt(d:Int):gf [.int .i64 d]=some (.bool (lC d)):=by simp only[gf,vl,asInt,BY,U,bI,lC,ge_iff_le]
theorem rR(d:Int):lC d=true↔0≤d∧d≤36524:=by simp[lC]
set_option maxRecDepth 100000
theorem alb(x:sE):cell x.pv 2=.bool x.added:=rfl
def wkT(c:oB)(w:Int):Bool:=if w=0 then c.w0 else if w=1 then c.w1 else if w=2 then c.w2 else if w=3 then c.w3 else if w=4 then c.w4 else if w=5 then c.w5 else c.w6
def D7(i d:Int)(e:sE):Bool:=decide (e.xK=i)&&decide (e.day=d)
def J6(c:oB)(xs:List sE)(i d:Int):Int:=match xs.find? (D7 i d)with
 |some e=>if e.added=true then 2 else 3
 |none=>if(decide (d<c.Az)||decide (d>c.AA))=true then 5 else if wkT c ((d+5).tmod 7)=true then 1 else 4
def CF(cs:List oB)(xs:List sE)(i d:Int):Int:=if lC d=false then 0 else if i<0 then 0 else match cs[i.toNat]? with
 |some c=>J6 c xs i d
 |none=>0
theorem J7(d:Int):dP [.int .i64 d]=some (.bool (lC d)):=by simp only[dP,wu,asInt,BY,U,bI,lC,ge_iff_le]
theorem H7(d:Int)(h:lC d=true):IntKind.i64.wrap (d+5)=d+5∧0≤(d+5).tmod 7∧(d+5).tmod 7<7:=by unfold lC at h;simp only[aeu,tc]at h;grind [aY,Int.tmod_eq_emod_of_nonneg]
theorem Oe(d:Int)(h:lC d=true):pI [.int .i64 d]=some (.aI [.int .i64 ((d+5).tmod 7),.bool true]):=by obtain⟨h1,_⟩:=H7 d h;simp only[pI,zL,asInt,BY,U,wx,asBool,h,alk,AI,OF,h1]
theorem Qu(d:Int)(h:lC d=true):mT [.int .i64 d]=some (.aI [.int .i64 ((d+5).tmod 7),.bool true]):=by obtain⟨h1,_⟩:=H7 d h;simp only[mT,xI,asInt,BY,U,J7,asBool,h,alk,AI,OF,h1]
theorem ael(c:oB)(w:Int)(h0:0≤w)(h7:w<7)(k:Bool→Option PV):(if ax w 7∧0<1 then[cell c.pv 0,cell c.pv 1,cell c.pv 2,cell c.pv 3,cell c.pv 4,cell c.pv 5,cell c.pv 6,cell c.pv 7,cell c.pv 8,cell c.pv 9][1+w.toNat*1]?.bind fun p=>(asBool p).bind k else none)=k (wkT c w):=by
 rw[No ⟨⟨h0,h7⟩,by omega⟩];have:w=0∨w=1∨w=2∨w=3∨w=4∨w=5∨w=6:=by omega
 rcases this with rfl|rfl|rfl|rfl|rfl|rfl|rfl<;>rfl
theorem ahY(c:oB)(w:Int)(h0:0≤w)(h7:w<7)(k:Bool→Option PV):(if ax w 7∧0<1 then(List.drop (w.toNat*1) [cell c.pv 1,cell c.pv 2,cell c.pv 3,cell c.pv 4,cell c.pv 5,cell c.pv 6,cell c.pv 7,cell c.pv 8,cell c.pv 9]).head?.bind fun p=>(asBool p).bind k else none)=k (wkT c w):=by
 rw[No ⟨⟨h0,h7⟩,by omega⟩];have:w=0∨w=1∨w=2∨w=3∨w=4∨w=5∨w=6:=by omega
 rcases this with rfl|rfl|rfl|rfl|rfl|rfl|rfl<;>rfl
theorem J8{A:Type}(p:A→Bool)(g:A→Option PV)(l:List A)(fin:Option PV):bC ((List.range l.length).findSome? fun k=>(l[k]?).bind fun x=>if p x=true then some (g x)else none) fin=match l.find? p with|some x=>g x|none=>fin:=by rw[Gx];cases l.find? p<;>rfl
theorem Qv(cs:List oB)(hc:cs.length≤maxLen)(xs:List sE)(hx:xs.length≤maxLen)(i d:Int):kv [.rs 10 (cs.map oB.pv),.rs 3 (xs.map sE.pv),.int .i64 i,.int .i64 d]=some (.int .i64 (CF cs xs i d)):=by
 have hm:=ar;simp only[kv,sK,ah,asInt,BY,U,aT,wx,asBool,te];unfold CF;by_cases hi:i<0
 ·simp_all
 by_cases hn:i≥(cs.length:Int)
 ·simp_all
 simp only[hi,hn,aoo,ao5,cond_false,U];cases hd:lC d with
 |false=>rfl
 |true=>
  obtain⟨n,rfl⟩:∃n:Nat,i=n:=⟨i.toNat,by omega⟩;have bF:n<cs.length:=by omega
  obtain⟨w1,w2,w3⟩:=H7 d hd;simp only[Bool.or_self,alk,AI,OF,af,AT,ta bF,IS,U,aod,an9];generalize cs[n]=c;refine(aB (fun k=>((n:Int),d,5,xs.map sE.pv,(xs.length:Int),(k:Int),cell c.pv 0,cell c.pv 1,cell c.pv 2,cell c.pv 3,cell c.pv 4,cell c.pv 5,cell c.pv 6,cell c.pv 7,cell c.pv 8,cell c.pv 9,())) xs.length (fun k=>(xs[k]?).bind fun x=>if D7 n d x=true then some (some (.int .i64 (if x.added=true then 2 else 3)))else none) (fin:=some (.int .i64 (if(decide (d<c.Az)||decide (d>c.AA))=true then 5 else if wkT c ((d+5).tmod 7)=true then 1 else 4))) (fun k hk rec=>?_) (fun rec=>?_) ?_ rfl).trans ?_
  ·have h1:(k:Int)<(xs.length:Int):=by omega
   simp only[nJ,tc,h1,BY,af,AT,ta hk,IS,U,acr,acs,alb,asInt,asBool,aT,ag (show k<9223372036854775807 by omega),fb];unfold D7;generalize xs[k]=x;by_cases e1:x.xK=n<;>by_cases e2:x.day=d<;>simp[e1,e2,bC];cases x.added<;>rfl
  ·have hw:=ael c ((d+5).tmod 7) w2 w3 (fun b=>if b=true then some (PV.int .i64 1)else some (PV.int .i64 4));simp only[nJ,tc,an6,OF,XY,XZ,asInt,BY,U,Oe d hd,bN,alx,an5,Nat.reduceAdd,aev,ali,asBool,show((5:Int)==3)=false from rfl,cond_false,aT];simp only[XY,XZ,asBool]at hw;grind
  ·have:=aF;omega
  ·rw[J8 (D7 n d) (fun x=>some (.int .i64 (if x.added=true then 2 else 3)))];unfold J6;grind
theorem Tk(cs:List oB)(hc:cs.length≤maxLen)(xs:List sE)(hx:xs.length≤maxLen)(i d:Int):pJ [.rs 10 (cs.map oB.pv),.rs 3 (xs.map sE.pv),.int .i64 i,.int .i64 d]=some (.int .i64 (CF cs xs i d)):=by
 have hm:=ar;simp only[pJ,zP,ah,asInt,BY,U,aT,J7,asBool,te];unfold CF;by_cases hi:i<0
 ·simp_all
 by_cases hn:i≥(cs.length:Int)
 ·simp_all
 simp only[hi,hn,aoo,ao5,cond_false,U];cases hd:lC d with
 |false=>rfl
 |true=>
  obtain⟨n,rfl⟩:∃n:Nat,i=n:=⟨i.toNat,by omega⟩;have bF:n<cs.length:=by omega
  obtain⟨w1,w2,w3⟩:=H7 d hd;simp only[Bool.or_self,alk,AI,OF,ta bF,aod,an9];refine(aB (fun k=>(cs.map oB.pv,xs.map sE.pv,(n:Int),d,(k:Int),())) xs.length (fun k=>(xs[k]?).bind fun x=>if D7 n d x=true then some (some (.int .i64 (if x.added=true then 2 else 3)))else none) (fin:=some (.int .i64 (if(decide (d<cs[n].Az)||decide (d>cs[n].AA))=true then 5 else if wkT cs[n] ((d+5).tmod 7)=true then 1 else 4))) (fun k hk rec=>?_) (fun rec=>?_) ?_ rfl).trans ?_
  ·have h1:(k:Int)<(xs.length:Int):=by omega
   simp only[sV,tc,te,h1,BY,af,AT,ta hk,IS,U,acr,acs,alb,asInt,asBool,bI,ag (show k<9223372036854775807 by omega),cZ];unfold D7;generalize xs[k]=x;by_cases e1:x.xK=n<;>by_cases e2:x.day=d<;>simp[e1,e2,bC];cases x.added<;>rfl
  ·have hw:=ahY cs[n] ((d+5).tmod 7) w2 w3 (fun b=>if b=true then some (PV.int .i64 1)else some (PV.int .i64 4));simp only[sV,tc,te,an6,OF,af,AT,ta bF,IS,XY,XZ,asInt,BY,U,Qu d hd,bN,alx,an5,Nat.reduceAdd,aev,ali,asBool,aT];simp only[XY,XZ,asBool]at hw;grind
  ·have:=aF;omega
  ·rw[J8 (D7 n d) (fun x=>some (.int .i64 (if x.added=true then 2 else 3)))];unfold J6;grind
def wy(cs:List oB)(xs:List sE)(i d:Int):Bool:=decide (CF cs xs i d=1)||decide (CF cs xs i d=2)
theorem Ht(cs:List oB)(hc:cs.length≤maxLen)(xs:List sE)(hx:xs.length≤maxLen)(i d:Int):gX [.rs 10 (cs.map oB.pv),.rs 3 (xs.map sE.pv),.int .i64 i,.int .i64 d]=some (.bool (wy cs xs i d)):=by simp only[gX,sL,ah,asInt,BY,U,Qv cs hc xs hx,aT,cZ,wy]
theorem Tl(cs:List oB)(hc:cs.length≤maxLen)(xs:List sE)(hx:xs.length≤maxLen)(i d:Int):pK [.rs 10 (cs.map oB.pv),.rs 3 (xs.map sE.pv),.int .i64 i,.int .i64 d]=some (.bool (wy cs xs i d)):=by simp only[pK,zQ,ah,asInt,BY,U,Tk cs hc xs hx,aT,cZ,wy]
def vn(t:Int)(l:List Int):Nat→Nat
 |0=>0
 |k+1=>if l.getD k 0>t then vn t l k else k+1
def tM(t:Int)(l:List Int):List Int:=l.take (vn t l l.length)++t::l.drop (vn t l l.length)
theorem H8(t:Int)(l:List Int):∀k,vn t l k≤k
 |0=>aoa _
 |k+1=>by
  unfold vn;split
  ·simp[Nat.le_succ_of_le,H8]
  omega
theorem acu(t:Int)(l:List Int):(tM t l).length=l.length+1:=by grind [H8,tM]
theorem acv(t x:Int)(l:List Int):x∈tM t l↔x=t∨x∈l:=by grind [tM,vn,List.take_append_drop]
def yC(by':Int)(k:aJ):aJ:={k with arr:=IntKind.i64.wrap (k.arr+by'),dep:=IntKind.i64.wrap (k.dep+by')}
def fP(day:Int):Int:=IntKind.i64.wrap (day*86400)
def bY(x:bj)(i day k:Int)(cs:List aJ):bg:=⟨i,day,k,x.id,x.bX,x.free,false,cs.map (yC (fP day))⟩
def eC(f:ba):List Int:=if dA f=true then(List.range (cX f).toNat).map fun(j:Nat)=>f.t0+(j:Int)*f.every else[]
def instF(l:List Int)(f:ba):List Int:=(eC f).foldl (fun l t=>tM t l) l
def instI(fs:List ba)(i:Int):List Int:=(fs.filter fun f=>decide (f.bn=i)).foldl instF []
def bl(l:List aJ)(s:Int):List aJ:=if mh l s=0 then l.map fun k=>F9 k ((l.map aJ.dep).headD 0) s else[]
def dx(T:aj)(i:Nat)(x:bj)(day:Int):List bg:=
 if wy T.dK T.mc x.xK day=false then[]else
 if qM T.aU i=false then[bY x i day 0 x.calls]else
 (List.range (instI T.aU i).length).map fun(k:Nat)=>bY x i day k (bl x.calls ((instI T.aU i).getD k 0))
def cT(T:aj)(day:Int)(i:Nat):List bg:=match T.ae[i]? with
 |some x=>dx T i x day
 |none=>[]
def dq(T:aj)(day:Int):List bg:=(List.range T.ae.length).flatMap (cT T day)
def bx(T:aj)(day:Int)(n:Nat):List bg:=(List.range n).flatMap fun(d:Nat)=>dq T (day+d)
variable{T:aj}{day:Int}{r:bg}
theorem Of{i:Nat}{x:bj}(h:r∈dx T i x day):∃(k:Nat)(cs:List aJ),r=bY x i day k cs:=by
 unfold dx at h;split at h
 ·cases h
 ·split at h
  ·exact⟨0,_,by simpa using h⟩
  grind
theorem at_mem{i:Nat}(h:r∈cT T day i):∃(x:bj)(k:Nat)(cs:List aJ),T.ae[i]?=some x∧r=bY x i day k cs:=by grind [cT,Of]
def bg.key(r:bg):Int×Int×Int:=(r.bn,r.day,r.inst)
theorem K6(T:aj)(i:Nat)(x:bj)(day:Int):(dx T i x day).Pairwise fun r s=>r.inst≠s.inst:=by
 unfold dx;split
 ·simp
 grind [List.Pairwise.imp_of_mem,List.nodup_range,bY]
theorem aem(T:aj)(day:Int)(i:Nat):(cT T day i).Pairwise fun r s=>r.inst≠s.inst:=by
 unfold cT;split
 ·exact K6 ..
 simp
theorem Og(T:aj)(day:Int):(dq T day).Pairwise fun r s=>r.key≠s.key:=by unfold dq;rw[apc];refine⟨fun i _=>(aem T day i).imp fun h e=>h (congrArg (fun k=>k.2.2) e),?_⟩;refine aoW (R:=fun a b=>a≠b) (fun{a b}_ _ h r hr s hs e=>?_) ap7;obtain⟨x,k,cs,_,rfl⟩:=at_mem hr;obtain⟨y,k',O1,_,rfl⟩:=at_mem hs;grind [bg.key,bY,Prod.mk.injEq]
theorem B2(h:r∈dq T day):r.day=day:=by obtain⟨i,_,hr⟩:=aoE.1 h;obtain⟨x,k,cs,_,rfl⟩:=at_mem hr;rfl
theorem Da(T:aj)(day:Int)(n:Nat):(bx T day n).Pairwise fun r s=>r.key≠s.key:=by unfold bx;rw[apc];refine⟨fun d _=>Og T _,?_⟩;refine aoW (R:=fun a b=>a≠b) (fun{a b}_ _ h r hr s hs e=>?_) ap7;have h1:=B2 hr;have h2:=B2 hs;have:r.day=s.day:=congrArg (fun k=>k.2.1) e;omega
theorem H3:r∈dq T day↔∃(i:Nat)(x:bj),T.ae[i]?=some x∧r.bn=i∧r∈dx T i x day:=by
 unfold dq;rw[aoE];constructor
 ·rintro⟨i,hi,hr⟩;obtain⟨x,k,cs,hx,e⟩:=at_mem hr;unfold cT at hr;rw[hx]at hr;exact⟨i,x,hx,by rw[e];rfl,hr⟩
 ·rintro⟨i,x,hx,_,hr⟩;refine⟨i,aoA.2 (IN.1 hx).1,?_⟩;simp_all[cT]
def cB(l:List Int)(d:Int)(k:Nat):List Int:=l.take k++d::l.drop k
theorem rX(l:List Int)(d:Int)(k:Nat)(h:k≤l.length):(cB l d k).length=l.length+1:=by simp[cB];omega
theorem wz(l:List Int)(d:Int)(k j:Nat)(h:k≤l.length)(hj:j<k):(cB l d k)[j]?=l[j]?:=by simp_all[cB,apn,apJ]
theorem vo(l:List Int)(d:Int)(k:Nat)(h:k≤l.length):(cB l d k)[k]?=some d:=by simp_all[cB,apj,ao0]
theorem wA(l:List Int)(d x:Int)(k:Nat)(h:k≤l.length):(cB l d k).set k x=cB l x k:=by simp_all[cB,List.set_append,ao0]
theorem E9(l:List Int)(k:Nat)(h:k<l.length):cB l l[k] (k+1)=cB l l[k] k:=by unfold cB;rw[aom h,apG h,aow];rfl
theorem Oh(t:Int)(l:List Int):∀n k,vn t l n≤k→k<n→l.getD k 0>t
 |0,k,_,h=>absurd h (by omega)
 |n+1,k,h1,h2=>by
  unfold vn at h1;split at h1
  ·rename_i hg;by_cases e:k=n
   ·subst e;omega
   ·exact Oh t l n k h1 (by omega)
  omega
theorem Gy(t:Int)(l:List Int):∀n,vn t l n=0∨∃k,vn t l n=k+1∧¬l.getD k 0>t
 |0=>.inl rfl
 |n+1=>by
  unfold vn;split
  ·exact Gy t l n
  simp_all
def Tm(t:Int)(l:List Int)(k:Nat):Int:=if k=l.length then t else l.getD k 0
theorem tN(l:List Int)(k:Nat):(l.map iv)[k]?=l[k]?.map iv:=AT ..
theorem H9(l:List Int)(k:Nat)(x:Int):(l.map iv).set k (.int .i64 x)=(l.set k x).map iv:=by rw[List.map_set];rfl
theorem yK(k:Nat)(h:k+1≤9223372036854775807):IntKind.i64.wrap (((k+1:Nat):Int)-1)=(k:Int):=by grind [aY]
theorem B3(l:List Int)(k:Nat)(h:k<l.length):l.getD k 0=l[k]:=by simp_all
theorem Tn(Fa)(t tr len i:Int)(es:List PV)(c0 c1 c2:PV)(ev:Int)(l:List Int)(hl:l.length<4611686018427387904):aV.run (dV Fa) (t,(l.length:Int),t,tr,es,len,i,c0,c1,c2,.int .i64 ev,(l++[t]).map iv,())=Fa (IntKind.i64.wrap (t+ev),tr,es,len,i,c0,c1,c2,.int .i64 ev,(tM t l).map iv,()):=by
 have hp:=H8 t l l.length;refine aM (fun j=>(t,((l.length-j:Nat):Int),t,tr,es,len,i,c0,c1,c2,.int .i64 ev,(cB l (Tm t l (l.length-j)) (l.length-j)).map iv,())) (l.length-vn t l l.length) (fun j hj rec=>?_) (fun rec=>?_) ?_ ?_
 ·obtain⟨k,hk⟩:∃k,l.length-j=k+1:=⟨l.length-j-1,by omega⟩;have uF:k<l.length:=by omega
  have hgt:l[k]>t:=by have:=Oh t l l.length k (by omega) uF;simp_all
  have hlen:=rX l (Tm t l (k+1)) (k+1) (by omega);have acw:=wz l (Tm t l (k+1)) (k+1) k (by omega) (by omega);have HY:=vo l (Tm t l (k+1)) (k+1) (by omega);have hd:Tm t l k=l[k]:=by unfold Tm;grind
  have sx:=wA l (Tm t l (k+1)) l[k] (k+1) (by omega);rw[E9 l k uF]at sx;have e2:l.length-(j+1)=k:=by omega
  have r1:ax (k:Int) (l.length+1):=fm _ _ (by omega);have r2:ax ((k+1:Nat):Int) (l.length+1):=fm _ _ (by omega);simp only[hk,e2];simp only[dV,show decide (((k+1:Nat):Int)>0)=true by simp,cond_true,yK k (by omega),te,hlen,No r1,No r2,an9,tN,acw,ta uF,IS,U,iv,cell,PV.cells,aev,asInt,BY,show decide (l[k]>t)=true by simpa using hgt,HY];rw[H9,sx,hd]
 ·have e0:l.length-(l.length-vn t l l.length)=vn t l l.length:=by omega
  simp only[e0];generalize hpp:vn t l l.length=p at*;have hlen:=rX l (Tm t l p) p hp;have HY:=vo l (Tm t l p) p hp;have sx:=wA l (Tm t l p) t p hp;have r1:ax (p:Int) (l.length+1):=fm _ _ (by omega);have DC:(tM t l).map iv=((cB l (Tm t l p) p).map iv).set p (.int .i64 t):=by grind [H9,tM,cB]
  rw[DC];have stop:vn t l l.length=0∨∃k,vn t l l.length=k+1∧¬l.getD k 0>t:=Gy t l l.length;rw[hpp]at stop;rcases stop with h0|⟨k,hk,hng⟩
  ·subst h0;have r1':ax (0:Int) (l.length+1):=r1;have am2:(List.map iv (cB l (Tm t l 0) 0))[(0:Int).toNat]?=some (iv (Tm t l 0)):=by rfl
   simp only[dV,Int.natCast_zero,show decide ((0:Int)>0)=false from rfl,cond_false,U,AI,OF,te,hlen,No r1',am2,asInt,BY];rfl
  ·subst hk;have uF:k<l.length:=by omega
   rw[B3 l k uF]at hng;have acw:=wz l (Tm t l (k+1)) (k+1) k (by omega) (by omega);have r0:ax (k:Int) (l.length+1):=fm _ _ (by omega);simp only[dV,show decide (((k+1:Nat):Int)>0)=true by simp,cond_true,yK k (by omega),te,hlen,No r0,No r1,an9,tN,acw,ta uF,IS,U,iv,cell,PV.cells,aev,asInt,BY,show decide (l[k]>t)=false by simpa using hng,AI,OF,HY]
 ·grind [aF,maxLen,decide]
 ·simp[cB,Tm]
theorem jY(x:ba)(h:dA x=true):eC x=(List.range (cX x).toNat).map fun(j:Nat)=>x.t0+(j:Int)*x.every:=by unfold eC;rw[No h]
theorem D8(x:ba)(h:dA x=false):eC x=[]:=by simp_all[eC,QU]
theorem Hu(x:ba):(eC x).length≤172800:=by
 unfold eC;split
 ·simp_all[pL]
 simp
theorem J9(s:List Int):∀l:List Int,(s.foldl (fun l t=>tM t l) l).length=l.length+s.length:=by
 induction s with
 |nil=>simp
 |cons t s ih=>grind [acu,List.length_cons]
theorem instF_len(l:List Int)(f:ba):(instF l f).length≤l.length+172800:=by simp[instF,J9,Hu]
theorem X0(fs:List ba):∀l:List Int,(fs.foldl instF l).length≤l.length+172800*fs.length:=by
 induction fs with
 |nil=>simp
 |cons f fs ih=>grind [instF,instF_len,List.length_cons]
theorem Qw(sW)(x:ba)(h:dA x=true)(tr len i:Int)(es:List PV)(l:List Int)(hl:l.length≤1000000000):aV.run (fT aV sW) (x.t0,tr,es,len,i,.int .i64 x.bn,.int .i64 x.t0,.int .i64 x.t1,.int .i64 x.every,l.map iv,())=sW (tr,es,len,IntKind.i64.wrap (i+1),(instF l x).map iv,()):=by
 have hc:=pL x h;have Pv:=Ka x h;obtain⟨h1,h2,h3,h4,h5⟩:=(fA x).1 h;have fo:∀k,k≤(cX x).toNat→((eC x).take k).length=k:=fun k hk=>by rw[jY x h];simp;omega
 refine aM (fun k=>(x.t0+(k:Int)*x.every,tr,es,len,i,.int .i64 x.bn,.int .i64 x.t0,.int .i64 x.t1,.int .i64 x.every,(((eC x).take k).foldl (fun l t=>tM t l) l).map iv,())) (cX x).toNat (fun k hk rec=>?_) (fun rec=>?_) ?_ ?_
 ·have OC:(k:Int)≤cX x-1:=by omega
  have uz:(k:Int)*x.every≤(cX x-1)*x.every:=apo OC (by omega);have G2:0≤(k:Int)*x.every:=aqe (by omega) (by omega);have bF:x.t0+(k:Int)*x.every<x.t1:=by omega
  have am3:((k+1:Nat):Int)*x.every=(k:Int)*x.every+x.every:=by grind
  have hw:IntKind.i64.wrap (x.t0+(k:Int)*x.every+x.every)=x.t0+((k+1:Nat):Int)*x.every:=by grind [aY]
  have OD:=J9 ((eC x).take k) l;rw[fo k (by omega)]at OD;have hs:(eC x).take (k+1)=(eC x).take k++[x.t0+(k:Int)*x.every]:=by rw[jY x h,←aqq,←aqq,List.take_range,List.take_range,ao0 (by omega),ao0 (by omega),aoQ,aos];rfl
  have qx:((eC x).take (k+1)).foldl (fun l t=>tM t l) l=tM (x.t0+(k:Int)*x.every) (((eC x).take k).foldl (fun l t=>tM t l) l):=by simp_all
  generalize ((eC x).take k).foldl (fun l t=>tM t l) l=lk at OD qx;have bw:(lk.map iv++[PV.int .i64 (x.t0+(k:Int)*x.every)]).length*8≤ab∧0<8:=by grind [decide,List.length_append,List.length_map,List.length_cons,List.length_nil,ab]
  simp only[fT,asInt,BY,U,tc,bF,No bw,te];rw[show lk.map iv++[PV.int .i64 (x.t0+(k:Int)*x.every)]=(lk++[x.t0+(k:Int)*x.every]).map iv by simp[iv],Tn _ _ _ _ _ _ _ _ _ _ lk (by omega),hw,qx]
 ·have he:(((cX x).toNat:Nat):Int)*x.every=cX x*x.every:=by grind
  have bF:¬x.t0+(((cX x).toNat:Nat):Int)*x.every<x.t1:=by omega
  have mr:(eC x).take (cX x).toNat=eC x:=aoF (by rw[jY x h];simp);simp only[fT,asInt,BY,U,tc,QU bF,mr];rfl
 ·grind [rounds,decide]
 simp
theorem Gz{A:Type}(p:A→Bool)(l:List A)(k:Nat)(h:k<l.length):(l.take (k+1)).filter p=(l.take k).filter p++if p l[k]=true then[l[k]]else[]:=by rw[aom h,List.filter_append];grind
def instK(fs:List ba)(i:Int)(k:Nat):List Int:=((fs.take k).filter fun f=>decide (f.bn=i)).foldl instF []
theorem instK_len(fs:List ba)(i:Int)(k:Nat)(hf:fs.length≤1000):(instK fs i k).length≤172800000:=by grind [instK,X0,decide,Nat.le_trans,List.length_filter_le,List.length_nil]
theorem instK_succ(fs:List ba)(i:Int)(k:Nat)(h:k<fs.length):instK fs i (k+1)=if fs[k].bn=i then instF (instK fs i k) fs[k]else instK fs i k:=by grind [instK,Gz]
theorem instF_un(l:List Int)(f:ba)(h:dA f=false):instF l f=l:=by unfold instF;rw[D8 f h];rfl
theorem instI_K(fs:List ba)(i:Int):instI fs i=instK fs i fs.length:=by unfold instI instK;simp
theorem Mz(fs:List ba)(hf:fs.length≤1000)(i:Int):eH [.rs 4 (fs.map ba.pv),.int .i64 i]=some (.rs 1 ((instI fs i).map iv)):=by
 simp only[eH,mf,ah,asInt,BY,U,te];rw[instI_K];refine aM (fun k=>(i,fs.map ba.pv,(fs.length:Int),(k:Int),(instK fs i k).map iv,())) fs.length (fun k hk rec=>?_) (fun rec=>?_) ?_ ?_
 ·have h1:(k:Int)<(fs.length:Int):=by omega
  have hl:=instK_len fs i k hf;rw[instK_succ fs i k hk];simp only[jG,tc,h1,BY,af,AT,ta hk,IS,U,pM,tt,tu,tv,asInt,fb,Aq,Hv,asBool,ag (show k<9223372036854775807 by omega)];by_cases e:fs[k].bn=i
  ·simp only[e,aot,alk,AI,OF,BY];cases hs:dA fs[k]with
   |false=>simp_all[aoj,BY,instF_un]
   |true=>simp only[alk,AI,OF];grind [Qw,ba.pv,instK,ag]
  simp_all
 ·simp[jG,tc,an6,OF]
 ·grind [rounds,decide]
 rfl
theorem MA(x:bj)(hx:x.Ok)(start:Int)(hs:qj start)(Ar:x.calls.length≤40):cq [x.pv,.int .i64 start]=some (.aI [.rs 5 ((bl x.calls start).map aJ.pv),.int .i64 (mh x.calls start)]):=by
 have hm:=ar;have pN:∀y∈x.calls,y.Ok:=hx.calls.2;simp only[cq,mS,Kb,qy,rY,qz,vp,mC,aZ,ah,asInt,asBool,BY,U,te];generalize x.calls=l at Ar pN⊢;cases l with
 |nil=>rfl
 |cons c l=>
  generalize hl:c::l=cs at Ar pN⊢;have Rc:cs[0]?=some c:=by rw[←hl];rfl
  have eY:0<cs.length:=by rw[←hl];simp
  have hcE:mh cs start=if(List.range cs.length).all (gy cs c.dep start)=true then 0 else 10:=by rw[←hl];rfl
  have Kc:c.Ok:=pN c (by rw[←hl];simp);have bU:((cs.length:Int)==0)=false:=by grind
  have hix:og (cs.map aJ.pv) 0=some c.pv:=by have:=af (cs.map aJ.pv) 0;simp_all
  have bw:0≤(cs.length:Int)∧(cs.length:Int)≤(cs.length:Int)∧(cs.length:Int).toNat*32≤ab∧0<32∧0<5:=by grind [decide,ab]
  rw[bU,hix];simp only[AI,OF,U,qv,asInt,BY,No bw,aoI,an9,aoF (are (te _)),te];rw[aqQ (by simp),aoM,te];have To:0≤(cs.length:Int)∧(cs.length:Int)≤(cs.length:Int)∧cs.length*32≤ab∧0<32∧0<5:=bw;have Ke:aV.run dG (start,c.dep,(cs.length:Int),0,cs.map aJ.pv,())=bC ((List.range cs.length).findSome? fun k=>if gy cs c.dep start k=true then none else some (some (.aI [.rs 5 [],.int .i64 10]))) (some (.aI [.rs 5 (D9 cs (fun x=>F9 x c.dep start) cs.length),.int .i64 0])):=by
   refine aB (fun k=>(start,c.dep,(cs.length:Int),(k:Int),D9 cs (fun x=>F9 x c.dep start) k,())) cs.length _ (fun k hk rec=>?_) (fun rec=>?_) ?_ ?_
   ·have h1:(k:Int)<(cs.length:Int):=by omega
    have xU:cs[k].Ok:=pN _ (an7 hk);obtain⟨n1,e1,q1⟩:=Fb cs[k].arr c.dep start xU.arr Kc.dep hs;obtain⟨n2,e2,q2⟩:=Fb cs[k].dep c.dep start xU.dep Kc.dep hs;have hlen:=Qx cs (fun x=>F9 x c.dep start) k (by omega);have ey:=Qy cs (fun x=>F9 x c.dep start) k hk;have sx:=Qz cs (fun x=>F9 x c.dep start) k hk;have hr:ax (k:Int) cs.length:=fm k _ hk;have acx:gy cs c.dep start k=(rZ cs[k].arr c.dep start&&rZ cs[k].dep c.dep start):=by unfold gy;rw[ta hk];rfl
    have M6:∀X,((D9 cs (fun x=>F9 x c.dep start) k).set k X)[k]?=some X:=fun X=>by simp_all
    simp only[dG,tc,h1,BY,hlen,No hr,an9,ey,U,tn,Am,qv,Hw,Hx,asInt,e1,e2,bN,asBool,alx,an5,Nat.reduceAdd,aev,ali,apW,M6,QA,over,aqZ,ag (show k<9223372036854775807 by omega)];grind [rZ,start,bC,F9,aJ.pv]
   ·simp[dG,tc,an6,OF]
   ·grind [rounds,decide]
   rfl
  have hF:bl cs start=if(List.range cs.length).all (gy cs c.dep start)=true then cs.map (fun x=>F9 x c.dep start)else[]:=by unfold bl;rw[hcE,show(cs.map aJ.dep).headD 0=c.dep by rw[←hl];rfl];simp
  rw[No To,Ke,pO,hcE,hF];by_cases mr:(List.range cs.length).all (gy cs c.dep start)=true
  ·simp_all[No,bC,D9,apL,apH]
  simp_all[QU,bC]
theorem X1(x:bj)(hx:x.Ok)(start:Int)(hs:0≤start∧start≤172800)(Ar:x.calls.length≤40):fX [x.pv,.int .i64 start]=some (.aI [.rs 5 ((bl x.calls start).map aJ.pv),.int .i64 (mh x.calls start)]):=by
 have hm:=ar;have pN:∀y∈x.calls,y.Ok:=hx.calls.2;simp only[fX,wv,Kb,qy,rY,qz,vp,mC,aZ,ah,asInt,asBool,BY,U,te];generalize x.calls=l at Ar pN⊢;cases l with
 |nil=>rfl
 |cons c l=>
  generalize hl:c::l=cs at Ar pN⊢;have Rc:cs[0]?=some c:=by rw[←hl];rfl
  have eY:0<cs.length:=by rw[←hl];simp
  have hcE:mh cs start=if(List.range cs.length).all (gy cs c.dep start)=true then 0 else 10:=by rw[←hl];rfl
  have Kc:c.Ok:=pN c (by rw[←hl];simp);have bU:((cs.length:Int)==0)=false:=by grind
  have hix:og (cs.map aJ.pv) 0=some c.pv:=by rw[show(0:Int)=((0:Nat):Int)from rfl,af,AT,Rc];rfl
  rw[bU,hix];simp only[AI,OF,U,qv,asInt,BY];have Ke:aV.run (gr aV) (start,c.dep,0,x.id,x.bX,x.xK,x.free,cs.map aJ.pv,[],())=bC ((List.range cs.length).findSome? fun k=>if gy cs c.dep start k=true then none else some (some (.aI [.rs 5 [],.int .i64 10]))) (some (.aI [.rs 5 (cs.map fun x=>(F9 x c.dep start).pv),.int .i64 0])):=by
   refine aB (fun k=>(start,c.dep,(k:Int),x.id,x.bX,x.xK,x.free,cs.map aJ.pv,(cs.take k).map (fun x=>(F9 x c.dep start).pv),())) cs.length _ (fun k hk rec=>?_) (fun rec=>?_) ?_ rfl
   ·have h1:(k:Int)<(cs.length:Int):=by omega
    have xU:cs[k].Ok:=pN _ (an7 hk);obtain⟨n1,e1,q1⟩:=Fc cs[k].arr c.dep start xU.arr Kc.dep hs;obtain⟨n2,e2,q2⟩:=Fc cs[k].dep c.dep start xU.dep Kc.dep hs;have acx:gy cs c.dep start k=(rZ cs[k].arr c.dep start&&rZ cs[k].dep c.dep start):=by unfold gy;rw[ta hk];rfl
    have bw:∀X:PV,(((cs.take k).map (fun x=>(F9 x c.dep start).pv))++[X]).length*32≤ab∧0<32:=fun X=>by refine⟨?_,by omega⟩;grind [List.length_append,List.length_map,List.length_take,List.length_cons,List.length_nil,ab]
    simp only[gr,tc,te,h1,BY,af,AT,ta hk,IS,U,tn,Am,qv,Hw,Hx,asInt,e1,e2,bN,asBool,alx,an5,Nat.reduceAdd,aev,ali,No (bw _),ag (show k<9223372036854775807 by omega)];rw[acx];cases hA:rZ cs[k].arr c.dep start with
    |false=>rfl
    |true=>
     cases hB:rZ cs[k].dep c.dep start with
     |false=>rfl
     |true=>have ht:cs.take (k+1)=cs.take k++[cs[k]]:=(ao8 hk).symm;rw[ht,q1 hA,q2 hB];simp only[alk,cond_false,U,AI,OF,apw,BY,bC,aos,aog,ape,F9,aJ.pv]
   ·simp[gr,tc,te,an6,OF,aoJ]
   grind [rounds,decide]
  have hF:bl cs start=if(List.range cs.length).all (gy cs c.dep start)=true then cs.map (fun x=>F9 x c.dep start)else[]:=by unfold bl;grind
  rw[Ke,pO,hcE,hF];by_cases mr:(List.range cs.length).all (gy cs c.dep start)=true
  ·simp_all[No,bC,D9,apL,apH]
  simp_all[QU,bC]
theorem X2(Fa)(tr i k:Int)(es s:List PV)(t:Int)(l:List Int)(hl:l.length<4611686018427387904):aV.run (jH Fa) (es,tr,i,s,k,(l.length:Int),(l++[t]).map iv,())=Fa (es,tr,i,s,IntKind.i64.wrap (k+1),(tM t l).map iv,()):=by
 have hp:=H8 t l l.length;refine aM (fun j=>(es,tr,i,s,k,((l.length-j:Nat):Int),(cB l t (l.length-j)).map iv,())) (l.length-vn t l l.length) (fun j hj rec=>?_) (fun rec=>?_) ?_ ?_
 ·obtain⟨q,hk⟩:∃q,l.length-j=q+1:=⟨l.length-j-1,by omega⟩;have uF:q<l.length:=by omega
  have hgt:l[q]>t:=by have:=Oh t l l.length q (by omega) uF;simp_all
  have hlen:=rX l t (q+1) (by omega);have acw:=wz l t (q+1) q (by omega) (by omega);have HY:=vo l t (q+1) (by omega);have sx:=wA l t l[q] (q+1) (by omega);rw[E9 l q uF]at sx;have Zz:=wA l l[q] t q (by omega);have am4:=vo l l[q] q (by omega);have ald:=rX l l[q] q (by omega);have e2:l.length-(j+1)=q:=by omega
  have r1:ax (q:Int) (l.length+1):=fm _ _ (by omega);have r2:ax ((q+1:Nat):Int) (l.length+1):=fm _ _ (by omega);simp only[hk,e2];have hs1:((cB l t (q+1)).map iv).set (q+1) (.int .i64 l[q])=(cB l l[q] q).map iv:=by rw[H9,sx]
  have hs2:((cB l l[q] q).map iv).set q (.int .i64 t)=(cB l t q).map iv:=by rw[H9,Zz]
  have g1:((cB l t (q+1)).map iv)[q]?=some (iv l[q]):=by simp_all
  have g2:((cB l t (q+1)).map iv)[q+1]?=some (iv t):=by rw[tN,HY];rfl
  have g3:((cB l l[q] q).map iv)[q]?=some (iv l[q]):=by rw[tN,am4];rfl
  have ci:∀n:Int,cell (iv n) 0=.int .i64 n:=fun _=>rfl;simp only[jH,show decide (((q+1:Nat):Int)>0)=true by simp,cond_true,yK q (by omega),te,hlen,No r1,No r2,an9,g1,g2,U,ci,asInt,BY,show decide (l[q]>t)=true by simpa using hgt,hs1,ald,g3,hs2]
 ·have e0:l.length-(l.length-vn t l l.length)=vn t l l.length:=by omega
  simp only[e0];generalize hpp:vn t l l.length=p at*;have hlen:=rX l t p hp;have HY:=vo l t p hp;have r1:ax (p:Int) (l.length+1):=fm _ _ (by omega);have DC:(tM t l).map iv=(cB l t p).map iv:=by unfold tM cB;rw[hpp]
  rw[DC];have ci:∀n:Int,cell (iv n) 0=.int .i64 n:=fun _=>rfl;have stop:vn t l l.length=0∨∃k,vn t l l.length=k+1∧¬l.getD k 0>t:=Gy t l l.length;rw[hpp]at stop;rcases stop with h0|⟨q,hk,hng⟩
  ·subst h0;rfl
  ·subst hk;have uF:q<l.length:=by omega
   rw[B3 l q uF]at hng;have acw:=wz l t (q+1) q (by omega) (by omega);have r0:ax (q:Int) (l.length+1):=fm _ _ (by omega);have g1:((cB l t (q+1)).map iv)[q]?=some (iv l[q]):=by simp_all
   have g2:((cB l t (q+1)).map iv)[q+1]?=some (iv t):=by rw[tN,HY];rfl
   simp only[jH,show decide (((q+1:Nat):Int)>0)=true by simp,cond_true,yK q (by omega),te,hlen,No r0,No r1,an9,g1,g2,U,ci,asInt,BY,show decide (l[q]>t)=false by simpa using hng,AI,OF]
 ·grind [aF,maxLen,decide]
 ·simp[cB]
theorem QB(x:ba):gu [x.pv]=some (.rs 1 ((eC x).map iv)):=by
 cases h:dA x with
 |true=>simp_all[Kf,jY,lO,iv,apH]
 |false=>rw[D8 x h];simp only[gu,tL,Fe,pM,tt,tu,tv,asInt,asBool,BY,U,Aq,zS,h,aoj,ape]
theorem X3(sW)(tr i:Int)(es:List PV)(s l:List Int)(hs:s.length≤172800)(hl:l.length≤1000000000):aV.run (jI aV sW) (es,tr,i,s.map iv,0,l.map iv,())=sW (es,tr,IntKind.i64.wrap (i+1),(s.foldl (fun l t=>tM t l) l).map iv,()):=by
 refine aM (fun k=>(es,tr,i,s.map iv,(k:Int),((s.take k).foldl (fun l t=>tM t l) l).map iv,())) s.length (fun k hk rec=>?_) (fun rec=>?_) ?_ ?_
 ·have h1:(k:Int)<(s.length:Int):=by omega
  have OD:=J9 (s.take k) l;rw[aoz,ao0 (by omega)]at OD;have qx:(s.take (k+1)).foldl (fun l t=>tM t l) l=tM s[k] ((s.take k).foldl (fun l t=>tM t l) l):=by rw[aom hk,List.foldl_append];rfl
  generalize (s.take k).foldl (fun l t=>tM t l) l=lk at OD qx;have ci:∀n:Int,cell (iv n) 0=.int .i64 n:=fun _=>rfl;have bw:(lk.map iv++[PV.int .i64 s[k]]).length*8≤ab∧0<8:=by grind [decide,List.length_append,List.length_map,List.length_cons,List.length_nil,ab]
  simp only[jI,tc,te,h1,BY,af,tN,ta hk,IS,U,ci,asInt,No bw];have ha:lk.map iv++[PV.int .i64 s[k]]=(lk++[s[k]]).map iv:=by simp[iv]
  have hw:IntKind.i64.wrap ((((lk++[s[k]]).map iv).length:Int)-1)=(lk.length:Int):=by rw[te,aob,alx,an5];exact yK _ (by omega)
  grind [X2,ag]
 ·simp[jI,tc,te,an6,OF,aoJ]
 ·grind [rounds,decide]
 rfl
theorem acy(fs:List ba)(hf:fs.length≤1000)(i:Int):kx [.rs 4 (fs.map ba.pv),.int .i64 i]=some (.rs 1 ((instI fs i).map iv)):=by
 simp only[kx,sT,ah,asInt,BY,U];rw[instI_K];refine aM (fun k=>(fs.map ba.pv,i,(k:Int),(instK fs i k).map iv,())) fs.length (fun k hk rec=>?_) (fun rec=>?_) ?_ ?_
 ·have h1:(k:Int)<(fs.length:Int):=by omega
  have hl:=instK_len fs i k hf;rw[instK_succ fs i k hk];simp only[nK,tc,te,h1,BY,af,AT,ta hk,IS,U,pM,tt,tu,tv,asInt,fb,Aq,QB,ah,ag (show k<9223372036854775807 by omega)];by_cases e:fs[k].bn=i
  ·simp only[e,aot,alk,AI,OF,BY];have:=X3 rec i k (fs.map ba.pv) (eC fs[k]) (instK fs i k) (Hu _) (by omega);rw[ag (show k<9223372036854775807 by omega)]at this;exact this
  simp_all
 ·simp[nK,tc,te,an6,OF]
 ·grind [rounds,decide]
 rfl
theorem X4(fs:List ba)(hl:fs.length≤maxLen)(t:Int):lP [.rs 4 (fs.map ba.pv),.int .i64 t]=some (.bool (qM fs t)):=by
 have hm:=ar;simp only[lP,vk,ah,asInt,BY,U,te];refine(eI (fun k=>(fs.map ba.pv,t,(k:Int),())) fs.length (fun k=>decide ((fs.map ba.bn)[k]?=some t)) (no:=some (.bool true)) (fin:=some (.bool false)) (fun k hk rec=>?_) (fun rec=>?_) ?_ rfl).trans ?_
 ·have h1:(k:Int)<(fs.length:Int):=by omega
  simp only[pP,tc,te,h1,BY,af,AT,ta hk,IS,U,pM,asInt,ag (show k<9223372036854775807 by omega),cZ,tb]
 ·simp[pP,tc,te,an6,OF]
 ·have:=aF;omega
 ·have h:=lQ (fs.map ba.bn) fs.length (by simp) t;grind [List.take_of_length_le,qM]
def sd{X:Type}(T:aj)(x:X):=(T.stops.map Stop.pv,T.ao.map aQ.pv,T.dK.map oB.pv,T.mc.map sE.pv,T.ae.map bj.pv,T.aU.map ba.pv,T.cw.map gC.pv,T.bM.map gD.pv,T.paths.map Path.pv,T.aP.map bp.pv,T.bE,T.within,T.cap,x)
structure ot(T:aj):Prop where
 ae:T.ae.length≤40
 aU:T.aU.length≤70
 dK:T.dK.length≤70
 mc:T.mc.length≤70
 cw:T.cw.length≤140
 bM:T.bM.length≤140
 small:Small T
theorem zT(l:List aJ)(n:Int)(hl:l.length≤1000):gY [.rs 5 (l.map aJ.pv),.int .i64 n]=some (.rs 5 ((l.map (yC n)).map aJ.pv)):=by
 simp only[gY,DR,ah,asInt,BY,U,te];refine aM (fun k=>(n,l.map aJ.pv,(l.length:Int),(k:Int),((l.take k).map (yC n)).map aJ.pv,())) l.length (fun k hk rec=>?_) (fun rec=>?_) ?_ rfl
 ·have h1:(k:Int)<(l.length:Int):=by omega
  have bw:∀X:PV,((((l.take k).map (yC n)).map aJ.pv)++[X]).length*32≤ab∧0<32:=fun X=>by refine⟨?_,by omega⟩;grind [List.length_append,List.length_map,List.length_take,List.length_cons,List.length_nil,ab]
  simp only[xL,tc,h1,BY,af,AT,ta hk,IS,U,tn,Am,qv,Hw,Hx,asInt,No (bw _),ag (show k<9223372036854775807 by omega)];rw[aom hk,aos,aos];rfl
 ·simp[xL,tc,an6,OF,aoJ]
 grind [rounds,decide]
theorem Wb(T:aj)(i:Nat)(x:bj)(hx:T.ae[i]?=some x)(day k:Int)(cs:List aJ)(hc:cs.length≤1000):se [T.pv,.int .i64 i,.int .i64 day,.int .i64 k,.rs 5 (cs.map aJ.pv)]=some (bY x i day k cs).pv:=by
 simp only[se,Gv,NC,ND,NF,NG,NH,NI,NJ,NK,NL,NM,NN,zn,zo,zp,ah,asInt,BY,U,af,AT,hx,IS,qy,rY,vp,aZ,asBool];refine aM (fun j=>(day,cs.map aJ.pv,(j:Int),0,0,0,[],0,false,false,(i:Int),day,k,x.id,x.bX,x.free,false,((cs.take j).map (yC (fP day))).map aJ.pv,())) cs.length (fun j hj rec=>?_) (fun rec=>?_) ?_ rfl
 ·have h1:(j:Int)<(cs.length:Int):=by omega
  have bw:∀X:PV,((((cs.take j).map (yC (fP day))).map aJ.pv)++[X]).length*32≤ab∧0<32:=fun X=>by refine⟨?_,by omega⟩;grind [List.length_append,List.length_map,List.length_take,List.length_cons,List.length_nil,ab]
  simp only[zU,tc,te,h1,BY,af,AT,ta hj,IS,U,tn,Am,qv,Hw,Hx,asInt,No (bw _),ag (show j<9223372036854775807 by omega)];rw[aom hj,aos,aos];rfl
 ·simp only[zU,tc,te,an6,OF,aoJ];rfl
 grind [rounds,decide]
theorem K7(x:ba)(t:Int)(h:t∈eC x):0≤t∧t≤172800:=by
 cases hs:dA x with
 |false=>rw[D8 x hs]at h;cases h
 |true=>
  rw[jY x hs]at h;obtain⟨j,hj,rfl⟩:=aoi.1 h;have hj:=aoA.1 hj;have Pv:=Ka x hs;have hc:=pL x hs;obtain⟨h1,h2,h3,h4,h5⟩:=(fA x).1 hs;have OC:(j:Int)≤cX x-1:=by omega
  have uz:(j:Int)*x.every≤(cX x-1)*x.every:=apo OC (by omega);have G2:0≤(j:Int)*x.every:=aqe (by omega) (by omega);omega
theorem Oi(t:Int)(s:List Int):∀l:List Int,t∈s.foldl (fun l t=>tM t l) l↔t∈l∨t∈s:=by
 induction s with
 |nil=>simp
 |cons a s ih=>grind [acv]
theorem K8(t:Int)(fs:List ba):∀l:List Int,t∈fs.foldl instF l↔t∈l∨∃f∈fs,t∈eC f:=by
 induction fs with
 |nil=>simp
 |cons f fs ih=>grind [instF,Oi]
theorem instI_mem(fs:List ba)(i t:Int):t∈instI fs i↔∃f∈fs,f.bn=i∧t∈eC f:=by grind [instI,K8]
theorem instI_range(fs:List ba)(i t:Int)(h:t∈instI fs i):0≤t∧t≤172800:=by obtain⟨f,_,_,h3⟩:=(instI_mem fs i t).1 h;exact K7 f t h3
theorem instI_len(fs:List ba)(hf:fs.length≤1000)(i:Int):(instI fs i).length≤172800000:=by simp_all[instI_K,instK_len]
theorem wB(l:List aJ)(s:Int):(bl l s).length≤l.length:=by unfold bl;split<;>simp
theorem Oj(T:aj)(hf:T.aU.length≤1000)(day:Int)(i:Nat):(cT T day i).length≤172800000:=by grind [cT,dx,List.length_map,List.length_range,instI_len]
def bA(T:aj)(day:Int)(k:Nat):List bg:=(List.range k).flatMap (cT T day)
theorem q9(T:aj)(day:Int)(k:Nat):bA T day (k+1)=bA T day k++cT T day k:=by simp[bA,aoQ,apQ]
theorem zV(T:aj)(hf:T.aU.length≤1000)(day:Int):∀k,(bA T day k).length≤172800000*k
 |0=>by simp[bA]
 |k+1=>by rw[q9,aob];have:=zV T hf day k;have:=Oj T hf day k;omega
theorem GA(T:aj)(day:Int):dq T day=bA T day T.ae.length:=rfl
theorem B4(T:aj)(hT:ot T)(day:Int):(dq T day).length≤6912000000:=by rw[GA];have:=zV T (by have:=hT.aU;omega) day T.ae.length;have:=hT.ae;omega
theorem re(T:aj)(day:Int)(n:Nat):bx T day (n+1)=bx T day n++dq T (day+n):=by simp[bx,aoQ,apQ]
theorem Ff(T:aj)(hT:ot T)(day:Int):∀n,(bx T day n).length≤6912000000*n
 |0=>by simp[bx]
 |n+1=>by rw[re,aob];have:=Ff T hT day n;have:=B4 T hT (day+n);omega
theorem Kg(l:List PV)(h:l.length≤1000000000000):l.length*80≤ab∧0<80:=⟨by unfold ab;omega,by omega⟩
set_option maxHeartbeats 1000000 in
theorem X5(T:aj)(hT:ot T)(gg:T.Ok)(day:Int)(i:Nat)(x:bj)(hx:T.ae[i]?=some x)(Wc)(s:List Int)(hs:∀t∈s,0≤t∧t≤172800)(KK:s.length≤172800000)(o:List bg)(ho:o.length≤100000000000):aV.run (tO aV Wc) (day,(i:Int),s.map iv,0,sd T (o.map bg.pv,()))=Wc (day,IntKind.i64.wrap ((i:Int)+1),sd T ((o++(List.range s.length).map fun(k:Nat)=>bY x i day k (bl x.calls (s.getD k 0))).map bg.pv,())):=by
 have Ec:x∈T.ae:=an4 hx;have SE:=gg.ae.2 x Ec;have Ar:=hT.small x Ec;refine aM (fun k=>(day,(i:Int),s.map iv,(k:Int),sd T ((o++(List.range k).map fun(k:Nat)=>bY x i day k (bl x.calls (s.getD k 0))).map bg.pv,()))) s.length (fun k hk rec=>?_) (fun rec=>?_) ?_ ?_
 ·have h1:(k:Int)<(s.length:Int):=by omega
  have ci:∀n:Int,cell (iv n) 0=.int .i64 n:=fun _=>rfl;have hr:=hs s[k] (an7 hk);have qn:=wB x.calls s[k];have W0:s.getD k 0=s[k]:=B3 s k hk;have qx:(o++(List.range (k+1)).map fun(k:Nat)=>bY x i day k (bl x.calls (s.getD k 0))).map bg.pv=(o++(List.range k).map fun(k:Nat)=>bY x i day k (bl x.calls (s.getD k 0))).map bg.pv++[(bY x i day k (bl x.calls s[k])).pv]:=by simp_all[aoQ,aos,aog,ape,aow]
  have bw:=Kg ((o++(List.range k).map fun(k:Nat)=>bY x i day k (bl x.calls (s.getD k 0))).map bg.pv++[.agg [cell (bY x i day k (bl x.calls s[k])).pv 0,cell (bY x i day k (bl x.calls s[k])).pv 1,cell (bY x i day k (bl x.calls s[k])).pv 2,cell (bY x i day k (bl x.calls s[k])).pv 3,cell (bY x i day k (bl x.calls s[k])).pv 4,cell (bY x i day k (bl x.calls s[k])).pv 5,cell (bY x i day k (bl x.calls s[k])).pv 6,cell (bY x i day k (bl x.calls s[k])).pv 7]]) (by simp;omega);simp only[tO,sd,tc,te,h1,BY,af,tN,AT,ta hk,hx,IS,U,ci,asInt,qy,rY,qz,vp,mC,MB,X1 x SE s[k] hr Ar,bN,ah,alx,an5,Nat.reduceAdd,aev,ali,Ri,Wb T i x hx day k _ (show(bl x.calls s[k]).length≤1000 by omega),SI,No bw,ag (show k<9223372036854775807 by omega)];rw[qx];rfl
 ·simp[tO,sd,tc,te,an6,OF]
 ·grind [rounds,decide]
 simp
set_option maxHeartbeats 1000000 in
theorem Wd(T:aj)(hT:ot T)(gg:T.Ok)(day:Int):sf [T.pv,.int .i64 day]=some (.rs 8 ((dq T day).map bg.pv)):=by
 have RD:T.dK.length≤maxLen:=aov hT.dK (by decide);have hem:T.mc.length≤maxLen:=aov hT.mc (by decide);have hfm:T.aU.length≤maxLen:=aov hT.aU (by decide);have OE:T.aU.length≤1000:=by have:=hT.aU;omega
 simp only[sf,Gw,NC,ND,NF,NG,NH,NI,NJ,NK,NL,NM,NN,zn,zo,zp,ah,asInt,BY,U];rw[GA];refine aM (fun i=>(day,(i:Int),sd T ((bA T day i).map bg.pv,()))) T.ae.length (fun i hi rec=>?_) (fun rec=>?_) ?_ rfl
 ·have h1:(i:Int)<(T.ae.length:Int):=by omega
  have hx:T.ae[i]?=some T.ae[i]:=ta hi;have Ec:T.ae[i]∈T.ae:=an7 hi;have Ar:=hT.small _ Ec;have hlen:=zV T OE day i;have ht:=hT.ae;generalize hxx:T.ae[i]=x at*;have HY:cT T day i=dx T i x day:=by unfold cT;rw[hx]
  rw[q9,HY];simp only[zW,sd,tc,te,h1,BY,af,AT,hx,IS,U,qz,mC,asInt,ah,Tl T.dK RD T.mc hem,asBool];unfold dx;cases hA:wy T.dK T.mc x.xK day with
  |false=>simp only[aoj,BY,aoM,ag (show i<9223372036854775807 by omega)]
  |true=>
   simp only[alk,AI,OF,aod,X4 T.aU hfm,U,asBool];cases hR:qM T.aU i with
   |false=>have bw:=Kg ((bA T day i).map bg.pv++[.agg [cell (bY x i day 0 x.calls).pv 0,cell (bY x i day 0 x.calls).pv 1,cell (bY x i day 0 x.calls).pv 2,cell (bY x i day 0 x.calls).pv 3,cell (bY x i day 0 x.calls).pv 4,cell (bY x i day 0 x.calls).pv 5,cell (bY x i day 0 x.calls).pv 6,cell (bY x i day 0 x.calls).pv 7]]) (by simp;omega);simp only[aoj,BY,Ri,Wb T i x hx day 0 _ (show x.calls.length≤1000 by omega),U,SI,No bw,ag (show i<9223372036854775807 by omega),aos,aog,ape];rfl
   |true=>simp only[alk,AI,OF,aod,acy T.aU OE,U];have:=X5 T hT gg day i x hx rec (instI T.aU i) (fun t ht=>instI_range _ _ t ht) (instI_len _ OE _) (bA T day i) (by omega);rw[ag (show i<9223372036854775807 by omega)]at this;exact this
 ·simp[zW,sd,tc,te,an6,OF]
 ·have:=hT.ae;grind [rounds,decide]
theorem yL{R:Type}(g:Nat→Nat)(hg:∀k,g k≤g (k+1))(h0:g 0≤1024)(r:R):∀n,(List.range n).findSome? (fun k=>if g (k+1)>1024 then some r else none)=if g n>1024 then some r else none
 |0=>by simp;omega
 |n+1=>by rw[aoQ,aqU,yL g hg h0 r n];grind
theorem Fg(g:Nat→Nat)(hg:∀k,g k≤g (k+1))(h0:g 0≤1024){R:Type}(r:R)(n:Nat)(h:∀j,j<n→(if g (j+1)>1024 then some r else none)=none):g n≤1024:=by
 cases n with
 |zero=>omega
 |succ n=>simp_all
def rf:PV:=.aI [.rs 8 [],.int .i64 5]
def QC:Nat→Int
 |0=>0
 |k+1=>k
def Fh(x:bj)(day:Int)(s:List Int):Nat→List PV
 |0=>[]
 |k+1=>((bl x.calls (s.getD k 0)).map (yC (fP day))).map aJ.pv
theorem ahZ(wC We)(day n to X6 nt i:Int)(es:List PV)(c0 c1 c2 c3 c4:PV)(a b c:Int)(id:Bytes)(r:Int)(f cn:Bool)(cs:List PV)(z0 z1 z2 z3 z4 z5 z6 z7 z8 z9:List PV)(y0 y1 y2:Int)(ov:List PV):lR aV wC (day,es,n,n,to,X6,nt,i,c0,c1,c2,c3,c4,a,b,c,id,r,f,cn,cs,z0,z1,z2,z3,z4,z5,z6,z7,z8,z9,y0,y1,y2,ov,()) We=if decide ((ov.length:Int)>1024)=true then some (.aI [.rs 8 [],.int .i64 5])else wC (to,X6,nt,IntKind.i64.wrap (i+1),z0,z1,z2,z3,z4,z5,z6,z7,z8,z9,y0,y1,y2,ov,()):=by
 have hn:¬decide (n<n)=true:=by simp
 simp[lR,QU]
theorem acz(wC We)(day n k to X6 nt i:Int)(es:List PV)(c0 c1 c2 c3 c4:PV)(a b c:Int)(id:Bytes)(r:Int)(f cn:Bool)(cs:List PV)(z0 z1 z2 z3 z4 z5 z6 z7 z8 z9:List PV)(y0 y1 y2:Int)(ov:List PV)(hk:k<n)(p:PV)(hp:og es k=some p)(t:Int)(ht:cell p 0=.int .i64 t)(fc sc:List PV)(e:Int)(hf:cq [.agg [c0,c1,c2,c3,c4],.int .i64 t]=some (.aI [.rs 5 fc,.int .i64 e]))(hs:gY [.rs 5 fc,.int .i64 (IntKind.i64.wrap (day*86400))]=some (.rs 5 sc))(bw:(ov++[PV.agg [.int .i64 a,.int .i64 b,.int .i64 k,.str id,.int .i64 r,.bool f,.bool cn,.rs 5 sc]]).length*80≤ab∧0<80):lR aV wC (day,es,n,k,to,X6,nt,i,c0,c1,c2,c3,c4,a,b,c,id,r,f,cn,cs,z0,z1,z2,z3,z4,z5,z6,z7,z8,z9,y0,y1,y2,ov,()) We=if(!decide (((ov++[PV.agg [.int .i64 a,.int .i64 b,.int .i64 k,.str id,.int .i64 r,.bool f,.bool cn,.rs 5 sc]]).length:Int)≤1024))=true then(if decide (((ov++[PV.agg [.int .i64 a,.int .i64 b,.int .i64 k,.str id,.int .i64 r,.bool f,.bool cn,.rs 5 sc]]).length:Int)>1024)=true then some (.aI [.rs 8 [],.int .i64 5])else wC (to,X6,nt,IntKind.i64.wrap (i+1),z0,z1,z2,z3,z4,z5,z6,z7,z8,z9,y0,y1,y2,ov++[PV.agg [.int .i64 a,.int .i64 b,.int .i64 k,.str id,.int .i64 r,.bool f,.bool cn,.rs 5 sc]],()))else We (day,es,n,IntKind.i64.wrap (k+1),to,X6,nt,i,c0,c1,c2,c3,c4,a,b,k,id,r,f,cn,sc,z0,z1,z2,z3,z4,z5,z6,z7,z8,z9,y0,y1,y2,ov++[PV.agg [.int .i64 a,.int .i64 b,.int .i64 k,.str id,.int .i64 r,.bool f,.bool cn,.rs 5 sc]],()):=by have hkd:decide (k<n)=true:=apf hk;simp only[lR,hkd,BY,hp,U,ht,hf,hs,bN,ah,asInt,alx,an5,Nat.reduceAdd,aev,ali,No bw]
set_option maxHeartbeats 1000000 in
theorem Tp(T:aj)(hT:ot T)(gg:T.Ok)(to day:Int)(i:Nat)(x:bj)(hx:T.ae[i]?=some x)(wC)(s:List Int)(hs:∀t∈s,0≤t∧t≤172800)(KK:s.length≤172800000)(o:List bg)(ho:o.length≤1024):aV.run (lR aV wC) (day,s.map iv,(s.length:Int),0,to,day,(T.ae.length:Int),(i:Int),cell x.pv 0,cell x.pv 1,cell x.pv 2,cell x.pv 3,cell x.pv 4,(i:Int),day,0,x.id,x.bX,x.free,false,[],sd T (o.map bg.pv,()))=if o.length+s.length>1024 then some rf else wC (to,day,(T.ae.length:Int),IntKind.i64.wrap ((i:Int)+1),sd T ((o++(List.range s.length).map fun(k:Nat)=>bY x i day k (bl x.calls (s.getD k 0))).map bg.pv,())):=by
 have Ec:x∈T.ae:=an4 hx;have SE:=gg.ae.2 x Ec;have Ar:=hT.small x Ec;refine(jZ (fun k=>(day,s.map iv,(s.length:Int),(k:Int),to,day,(T.ae.length:Int),(i:Int),cell x.pv 0,cell x.pv 1,cell x.pv 2,cell x.pv 3,cell x.pv 4,(i:Int),day,QC k,x.id,x.bX,x.free,false,Fh x day s k,sd T ((o++(List.range k).map fun(k:Nat)=>bY x i day k (bl x.calls (s.getD k 0))).map bg.pv,()))) s.length (fun k=>if(fun j=>o.length+j) (k+1)>1024 then some (some rf)else none) (fin:=wC (to,day,(T.ae.length:Int),IntKind.i64.wrap ((i:Int)+1),sd T ((o++(List.range s.length).map fun(k:Nat)=>bY x i day k (bl x.calls (s.getD k 0))).map bg.pv,()))) (fun k hk K9 rec=>?_) (fun K9 rec=>?_) ?_ ?_).trans ?_
 ·have hle:o.length+k≤1024:=Fg (fun j=>o.length+j) (fun k=>by simp) ho (some rf) k K9;have h1:(k:Int)<(s.length:Int):=by omega
  have ci:∀n:Int,cell (iv n) 0=.int .i64 n:=fun _=>rfl;have hr:=hs s[k] (an7 hk);have qn:=wB x.calls s[k];have W0:s.getD k 0=s[k]:=B3 s k hk;have ah0:qj s[k]:=(dU _).2 (by omega);have qx:(o++(List.range (k+1)).map fun(k:Nat)=>bY x i day k (bl x.calls (s.getD k 0))).map bg.pv=(o++(List.range k).map fun(k:Nat)=>bY x i day k (bl x.calls (s.getD k 0))).map bg.pv++[(bY x i day k (bl x.calls s[k])).pv]:=by simp_all[aoQ,aos,aog,ape,aow]
  have hlC:Fh x day s (k+1)=((bl x.calls s[k]).map (yC (fP day))).map aJ.pv:=by simp only[Fh,W0]
  have hlen:((o++(List.range k).map fun(k:Nat)=>bY x i day k (bl x.calls (s.getD k 0))).map bg.pv++[PV.agg [.int .i64 (i:Int),.int .i64 day,.int .i64 (k:Int),.str x.id,.int .i64 x.bX,.bool x.free,.bool false,.rs 5 (((bl x.calls s[k]).map (yC (IntKind.i64.wrap (day*86400)))).map aJ.pv)]]).length=o.length+(k+1):=by simp
  have bw:=Kg ((o++(List.range k).map fun(k:Nat)=>bY x i day k (bl x.calls (s.getD k 0))).map bg.pv++[PV.agg [.int .i64 (i:Int),.int .i64 day,.int .i64 (k:Int),.str x.id,.int .i64 x.bX,.bool x.free,.bool false,.rs 5 (((bl x.calls s[k]).map (yC (IntKind.i64.wrap (day*86400)))).map aJ.pv)]]) (by omega);rw[qx,hlC];generalize (o++(List.range k).map fun(k:Nat)=>bY x i day k (bl x.calls (s.getD k 0))).map bg.pv=ov at hlen bw;refine(acz wC rec day s.length k to day T.ae.length i (s.map iv) (cell x.pv 0) (cell x.pv 1) (cell x.pv 2) (cell x.pv 3) (cell x.pv 4) i day (QC k) x.id x.bX x.free false (Fh x day s k) (T.stops.map Stop.pv) (T.ao.map aQ.pv) (T.dK.map oB.pv) (T.mc.map sE.pv) (T.ae.map bj.pv) (T.aU.map ba.pv) (T.cw.map gC.pv) (T.bM.map gD.pv) (T.paths.map Path.pv) (T.aP.map bp.pv) T.bE T.within T.cap ov h1 (iv s[k]) (by rw[af,tN,ta hk];rfl) s[k] rfl _ _ _ (MA x SE s[k] ah0 Ar) (zT _ _ (show(bl x.calls s[k]).length≤1000 by omega)) bw).trans ?_;rw[ag (show k<9223372036854775807 by omega)];simp only[hlen];by_cases hb:o.length+(k+1)>1024
  ·rw[No (show(!decide (((o.length+(k+1):Nat):Int)≤1024))=true by simp;omega),No (show decide (((o.length+(k+1):Nat):Int)>1024)=true from apf (by omega)),No hb];rfl
  ·rw[QU (show¬(!decide (((o.length+(k+1):Nat):Int)≤1024))=true by simp;omega),QU hb];rfl
 ·have hle:o.length+s.length≤1024:=Fg (fun j=>o.length+j) (fun k=>by simp) ho (some rf) s.length K9;have hlen:((o++(List.range s.length).map fun(k:Nat)=>bY x i day k (bl x.calls (s.getD k 0))).map bg.pv).length=o.length+s.length:=by simp
  refine(ahZ wC rec day s.length to day T.ae.length i (s.map iv) (cell x.pv 0) (cell x.pv 1) (cell x.pv 2) (cell x.pv 3) (cell x.pv 4) i day (QC s.length) x.id x.bX x.free false (Fh x day s s.length) (T.stops.map Stop.pv) (T.ao.map aQ.pv) (T.dK.map oB.pv) (T.mc.map sE.pv) (T.ae.map bj.pv) (T.aU.map ba.pv) (T.cw.map gC.pv) (T.bM.map gD.pv) (T.paths.map Path.pv) (T.aP.map bp.pv) T.bE T.within T.cap _).trans ?_;rw[hlen,QU (show¬decide (((o.length+s.length:Nat):Int)>1024)=true by grind)];rfl
 ·grind [rounds,decide]
 ·simp[List.range_zero,ape,aoM,QC,Fh,Int.natCast_zero]
 ·rw[yL (fun j=>o.length+j) (fun k=>by simp) ho];by_cases hb:o.length+s.length>1024
  ·rw[No hb,No hb];rfl
  ·rw[QU hb,QU hb];rfl
set_option maxHeartbeats 1000000 in
theorem acA(T:aj)(hT:ot T)(gg:T.Ok)(to day:Int)(QD)(o:List bg)(ho:o.length≤1024):aV.run (tP aV QD) (to,day,(T.ae.length:Int),0,sd T (o.map bg.pv,()))=if o.length+(dq T day).length>1024 then some rf else QD (to,IntKind.i64.wrap (day+1),sd T ((o++dq T day).map bg.pv,())):=by
 have RD:T.dK.length≤maxLen:=aov hT.dK (by decide);have hem:T.mc.length≤maxLen:=aov hT.mc (by decide);have hfm:T.aU.length≤maxLen:=aov hT.aU (by decide);have OE:T.aU.length≤1000:=by have:=hT.aU;omega
 have uz:∀k,(fun j=>o.length+(bA T day j).length) k≤(fun j=>o.length+(bA T day j).length) (k+1):=fun k=>by simp[q9,aob]
 have h00:(fun j=>o.length+(bA T day j).length) 0≤1024:=by simpa[bA]using ho
 rw[GA];refine(jZ (fun i=>(to,day,(T.ae.length:Int),(i:Int),sd T ((o++bA T day i).map bg.pv,()))) T.ae.length (fun k=>if(fun j=>o.length+(bA T day j).length) (k+1)>1024 then some (some rf)else none) (fin:=QD (to,IntKind.i64.wrap (day+1),sd T ((o++bA T day T.ae.length).map bg.pv,()))) (fun i hi K9 rec=>?_) (fun K9 rec=>?_) ?_ ?_).trans ?_
 ·have hle:o.length+(bA T day i).length≤1024:=Fg _ uz h00 (some rf) i K9;have h1:(i:Int)<(T.ae.length:Int):=by omega
  have hx:T.ae[i]?=some T.ae[i]:=ta hi;have Ec:T.ae[i]∈T.ae:=an7 hi;have Ar:=hT.small _ Ec;have ht:=hT.ae;generalize hxx:T.ae[i]=x at*;have HY:cT T day i=dx T i x day:=by unfold cT;rw[hx]
  have OA:((o++bA T day i).map bg.pv).length=o.length+(bA T day i).length:=by simp
  simp only[q9,HY];simp only[tP,sd,tc,h1,BY,af,AT,hx,IS,U,qy,rY,qz,vp,mC,asInt,ah,aZ,Ht T.dK RD T.mc hem,asBool,OA];unfold dx;cases hA:wy T.dK T.mc x.xK day with
  |false=>simp only[aoj,BY,aoM,an5,apU,ag (show i<9223372036854775807 by omega)];rw[QU (show¬((o.length+(bA T day i).length:Nat):Int)>1024 by omega),QU (by omega)];rfl
  |true=>
   simp only[alk,AI,OF,aod,Kh T.aU hfm,U,asBool];cases hR:qM T.aU i with
   |false=>
    have hl1:((o++bA T day i).map bg.pv++[PV.agg [.int .i64 (i:Int),.int .i64 day,.int .i64 0,.str x.id,.int .i64 x.bX,.bool x.free,.bool false,.rs 5 ((x.calls.map (yC (IntKind.i64.wrap (day*86400)))).map aJ.pv)]]).length=o.length+(bA T day i).length+1:=by grind
    have bw:=Kg ((o++bA T day i).map bg.pv++[PV.agg [.int .i64 (i:Int),.int .i64 day,.int .i64 0,.str x.id,.int .i64 x.bX,.bool x.free,.bool false,.rs 5 ((x.calls.map (yC (IntKind.i64.wrap (day*86400)))).map aJ.pv)]]) (by omega);have qx:(o++(bA T day i++[bY x i day 0 x.calls])).map bg.pv=(o++bA T day i).map bg.pv++[(bY x i day 0 x.calls).pv]:=by simp
    simp only[aoj,BY,zT _ _ (show x.calls.length≤1000 by omega),U,No bw,ag (show i<9223372036854775807 by omega),qx];simp only[hl1,aob,alx,an5,apa];by_cases hb:o.length+(bA T day i).length+1>1024
    ·rw[No (show decide (((o.length+(bA T day i).length+1:Nat):Int)>1024)=true from apf (by omega)),No (show o.length+((bA T day i).length+1)>1024 by omega)];rfl
    ·rw[QU (show¬decide (((o.length+(bA T day i).length+1:Nat):Int)>1024)=true by grind),QU (show¬o.length+((bA T day i).length+1)>1024 by omega)];rfl
   |true=>
    simp only[alk,AI,OF,BY,aod,Mz T.aU OE,ah,U,te,aob,List.length_range];have hl2:(o++bA T day i).length≤1024:=by simp;omega
    have:=Tp T hT gg to day i x hx rec (instI T.aU i) (fun t ht=>instI_range _ _ t ht) (instI_len _ OE _) (o++bA T day i) hl2;simp only[sd,qy,rY,qz,vp,mC,aob]at this;rw[this,ag (show i<9223372036854775807 by omega),aow];by_cases hb:o.length+(bA T day i).length+(instI T.aU i).length>1024
    ·rw[No hb,No (show o.length+((bA T day i).length+(instI T.aU i).length)>1024 by omega)];rfl
    ·rw[QU hb,QU (show¬o.length+((bA T day i).length+(instI T.aU i).length)>1024 by omega)];rfl
 ·simp[tP,sd,tc,an6,OF]
 ·have:=hT.ae;grind [rounds,decide]
 ·simp[bA]
 ·rw[yL _ uz h00];by_cases hb:o.length+(bA T day T.ae.length).length>1024
  ·rw[No hb,No hb];rfl
  ·rw[QU hb,QU hb];rfl
def GB(l:List bg):PV:=if l.length>1024 then rf else .aI [.rs 8 (l.map bg.pv),.int .i64 0]
theorem X7(T:aj)(hT:ot T)(gg:T.Ok)(day:Int)(n:Nat)(h0:0≤day)(h1:day+n≤100000)(to:Int)(hto:to=day+n-1):wE [T.pv,.int .i64 day,.int .i64 to]=some (GB (bx T day n)):=by
 simp only[wE,Gp,NC,ND,NF,NG,NH,NI,NJ,NK,NL,NM,NN,zn,zo,zp,ah,asInt,BY,U];have uz:∀k,(fun j=>(bx T day j).length) k≤(fun j=>(bx T day j).length) (k+1):=fun k=>by simp[re,aob]
 have h00:(fun j=>(bx T day j).length) 0≤1024:=by simp[bx]
 refine(jZ (fun(k:Nat)=>(to,day+(k:Int),sd T ((bx T day k).map bg.pv,()))) n (fun k=>if(fun j=>(bx T day j).length) (k+1)>1024 then some (some rf)else none) (fin:=some (.aI [.rs 8 ((bx T day n).map bg.pv),.int .i64 0])) (fun k hk K9 rec=>?_) (fun K9 rec=>?_) ?_ ?_).trans ?_
 ·have hle:(bx T day k).length≤1024:=Fg _ uz h00 (some rf) k K9;have hc:day+(k:Int)≤to:=by omega
  have:=acA T hT gg to (day+k) rec (bx T day k) hle;simp only[sd]at this;simp only[zX,sd,tc,hc,BY,te,this,re,aob];rw[aY (show-9223372036854775808≤day+(k:Int)+1 by omega) (by omega),show day+(k:Int)+1=day+((k+1:Nat):Int) by omega];by_cases hb:(bx T day k).length+(dq T (day+k)).length>1024
  ·rw[No hb,No hb];rfl
  ·rw[QU hb,QU hb];rfl
 ·have hc:¬day+(n:Int)≤to:=by omega
  simp only[zX,sd,tc,hc,OF]
 ·grind [rounds,decide]
 ·simp[bx,sd]
 ·rw[yL _ uz h00];unfold GB;by_cases hb:(bx T day n).length>1024
  ·rw[No hb,No hb];rfl
  ·rw[QU hb,QU hb];rfl
def Wf(T:aj)(k:Nat):Bool:=match T.ae[k]? with|some x=>decide ((x.calls.length:Int)>40)|none=>false
theorem ah1(T:aj):∃b,wG [T.pv]=some (.bool b)∧(b=true→ot T):=by
 simp only[wG,Gq,NC,ND,NF,NG,NH,NI,NJ,NK,NL,NM,NN,zn,zo,zp,ah,asInt,BY,U,aT,te];split
 ·simp
 ·rename_i h;simp only[aon,tc,aq5]at h;obtain⟨⟨⟨⟨⟨⟨⟨⟨⟨h0,h1⟩,h2⟩,h3⟩,h4⟩,h5⟩,h6⟩,h7⟩,h8⟩,h9⟩:=h;refine⟨!(List.range T.ae.length).any (Wf T),?_,fun hb=>⟨by omega,by omega,by omega,by omega,by omega,by omega,fun y hy=>?_⟩⟩
  ·refine(eI (fun k=>((k:Int),T.stops.map Stop.pv,T.ao.map aQ.pv,T.dK.map oB.pv,T.mc.map sE.pv,T.ae.map bj.pv,T.aU.map ba.pv,T.cw.map gC.pv,T.bM.map gD.pv,T.paths.map Path.pv,T.aP.map bp.pv,T.bE,T.within,T.cap,())) T.ae.length (Wf T) (no:=some (.bool false)) (fin:=some (.bool true)) (fun k hk rec=>?_) (fun rec=>?_) ?_ rfl).trans ?_
   ·have h1:(k:Int)<(T.ae.length:Int):=by omega
    simp only[zY,tc,te,h1,BY,af,AT,ta hk,IS,U,mC,ah,ag (show k<9223372036854775807 by omega),Wf]
   ·simp[zY,tc,te,an6,OF]
   ·grind [rounds,decide]
   grind
  ·simp only[aou,apd,aoA]at hb;obtain⟨k,hk,rfl⟩:=List.mem_iff_getElem.1 hy;grind [Wf,List.getElem?_eq_getElem]
def Tr(T:aj)(k:Nat):Bool:=match T.aU[k]? with|some f=>dA f&&decide (IntKind.i64.wrap ((IntKind.i64.wrap (f.t1-f.t0)).tdiv f.every)>40)|none=>false
theorem aaw(T:aj):∃b,ri [T.pv]=some (.bool b)∧(b=true→ot T):=by
 obtain⟨b,hb,hB⟩:=ah1 T;simp only[ri,BH,NC,ND,NF,NG,NH,NI,NJ,NK,NL,NM,NN,zn,zo,zp,ah,asInt,asBool,BY,U,Ri,hb];cases b with
 |false=>simp
 |true=>
  have hF:=hB rfl;simp only[alk,AI,OF];refine⟨!(List.range T.aU.length).any (Tr T),?_,fun _=>hF⟩;refine(eI (fun k=>((k:Int),T.stops.map Stop.pv,T.ao.map aQ.pv,T.dK.map oB.pv,T.mc.map sE.pv,T.ae.map bj.pv,T.aU.map ba.pv,T.cw.map gC.pv,T.bM.map gD.pv,T.paths.map Path.pv,T.aP.map bp.pv,T.bE,T.within,T.cap,())) T.aU.length (Tr T) (no:=some (.bool false)) (fin:=some (.bool true)) (fun k hk rec=>?_) (fun rec=>?_) ?_ rfl).trans ?_
  ·have h1:(k:Int)<(T.aU.length:Int):=by omega
   have hl:=hF.aU;simp only[vq,tc,te,h1,BY,af,AT,ta hk,IS,U,pM,tt,tu,tv,Aq,zS,asInt,asBool,ag (show k<9223372036854775807 by omega),Tr];generalize T.aU[k]=f;cases hs:dA f with
   |false=>rfl
   |true=>obtain⟨g1,g2,g3,g4,g5⟩:=(fA f).1 hs;grind
  ·simp[vq,tc,te,an6,OF]
  ·have:=hF.aU;grind [rounds,decide]
  grind
def cz(T:aj):Prop:=∀q,q<10→(wH T q).2=0
theorem Hi(T:aj):∃p i e,bC ((List.range 10).findSome? (wI T)) (some (oX 0 0 0))=some (oX p i e)∧(e=0→cz T):=by
 cases h:(List.range 10).findSome? (wI T)with
 |none=>refine⟨0,0,0,rfl,fun _ q hq=>?_⟩;simp_all[wI]
 |some r=>
  obtain⟨q,hq,hr⟩:=aoK h;unfold wI at hr;split at hr
  ·cases hr
  ·rename_i bU;simp only[tb]at hr;exact⟨_,_,_,hr.symm,fun e=>absurd e bU⟩
def F8(l:List bg)(e:Int):PV:=.aI [.rs 8 (l.map bg.pv),.int .i64 e]
theorem X8(l:List bg):∃m e,GB l=F8 m e∧(e=0→m=l∧l.length≤1024)∧(e≠0→m=[]):=by
 unfold GB;by_cases h:l.length>1024
 ·exact⟨[],5,by rw[No h];rfl,(fun e=>by omega),fun _=>rfl⟩
 ·exact⟨l,0,by rw[QU h];rfl,(fun _=>⟨rfl,by omega⟩),fun h=>absurd rfl h⟩
theorem acB(T:aj)(hT:ot T)(gg:T.Ok)(day to:Int)(n:Nat)(h0:0≤day)(h1:day+n≤100000)(h8:n≤8)(hto:to=day+n-1):aV.run (mU aV) (to,day,sd T ([],()))=some (GB (bx T day n)):=by
 refine aM (fun(k:Nat)=>(to,day+(k:Int),sd T ((bx T day k).map bg.pv,()))) n (fun k hk rec=>?_) (fun rec=>?_) ?_ ?_
 ·have hc:day+(k:Int)≤to:=by omega
  have hl1:=Ff T hT day k;have hl2:=B4 T hT (day+k);have bw:=Kg ((bx T day k).map bg.pv++(dq T (day+k)).map bg.pv) (by grind);simp only[sd];simp only[mU,tc,hc,BY,Ri,Wd T hT gg,U,ah,re,aos];rw[No bw,aY (show-9223372036854775808≤day+(k:Int)+1 by omega) (by omega),show day+(k:Int)+1=day+((k+1:Nat):Int) by omega]
 ·have hc:¬day+(n:Int)≤to:=by omega
  simp only[mU,sd,tc,hc,OF,te];unfold GB;by_cases h:(bx T day n).length>1024
  ·rw[No h,No (by omega)];rfl
  grind
 ·grind [rounds,decide]
 ·simp[bx,sd]
theorem PK(T:aj)(hT:ot T)(gg:T.Ok)(a b:Int):∃l e,my [T.pv,.int .i64 a,.int .i64 b]=some (F8 l e)∧pQ [T.pv,.int .i64 a,.int .i64 b]=some (F8 l e)∧(e=0→cz T∧lC a=true∧lC b=true∧a≤b∧b-a<8∧l=bx T a (b-a+1).toNat∧l.length≤1024)∧(e≠0→l=[]):=by
 obtain⟨p,i,e,hw,hv⟩:=Hi T;have hp:=JH T gg hT.small;have hr:=L9 T gg hT.small;rw[hw]at hp hr;simp only[my,wb,pQ,zR,NC,ND,NF,NG,NH,NI,NJ,NK,NL,NM,NN,zn,zo,zp,ah,asInt,BY,U,Ri,hp,hr,oX,bN,alx,an5,Nat.reduceAdd,aev,ali,fb,Qt,wx,asBool,aT];by_cases he:e=0
 ·subst he;simp only[aot,alk,AI,OF];by_cases hd:(!lC a|| !lC b||decide (b<a))=true
  ·simp only[hd,BY];exact⟨[],11,rfl,rfl,(fun h=>by omega),fun _=>rfl⟩
  ·simp only[hd,OF];simp only[aon,aou,tc,aq5,Bool.not_eq_false]at hd;obtain⟨⟨ha,hb⟩,sn⟩:=hd;have hda:=(rR a).1 ha;have hdb:=(rR b).1 hb;rw[aY (show-9223372036854775808≤b-a by omega) (by omega)];by_cases h8:b-a≥8
   ·simp only[h8,aot,BY];exact⟨[],5,rfl,rfl,(fun h=>by omega),fun _=>rfl⟩
   ·obtain⟨n,hn⟩:∃n:Nat,(b-a+1).toNat=n:=⟨_,rfl⟩;have hdp:=X7 T hT gg a n hda.1 (by omega) b (by omega);have AH:=acB T hT gg a b n hda.1 (by omega) (by omega) (by omega);simp only[sd]at AH;simp only[h8,aoo,AI,OF,hdp,AH,U];obtain⟨m,e,hme,hm,hm0⟩:=X8 (bx T a n);rw[hme];refine⟨m,e,?_,rfl,fun h=>?_,hm0⟩
    ·rfl
    simp_all
 ·simp only[he,aoo,aoj,BY];exact⟨[],e,rfl,rfl,(fun h=>absurd h he),fun _=>rfl⟩
theorem QE(x y:aJ):bO [cell x.pv 0,cell x.pv 1,cell x.pv 2,cell x.pv 3,cell x.pv 4] [cell y.pv 0,cell y.pv 1,cell y.pv 2,cell y.pv 3,cell y.pv 4]=decide (x=y):=by obtain⟨a1,a2,a3,a4,a5⟩:=x;obtain⟨b1,b2,b3,b4,b5⟩:=y;simp[cell,aJ.pv,PV.cells,bO,Ab.peq];rfl
theorem Ki{a b:List aJ}(hl:a.length=b.length):(if(List.range a.length).any (fun k=> !decide (a[k]?=b[k]?))=true then some (PV.bool false)else some (PV.bool true))=some (PV.bool (decide (a=b))):=by
 by_cases h:a=b
 ·subst h;simp
 ·rw[No]
  ·simp[h]
  ·rw[ao7];refine ao1 fun hn=>h (aox fun k=>?_);grind
theorem Ts(a b:List aJ)(ha:a.length≤maxLen):ky [.rs 5 (a.map aJ.pv),.rs 5 (b.map aJ.pv)]=some (.bool (decide (a=b))):=by
 have hm:=ar;simp only[ky,sU,ah,BY,U,te,fb];by_cases hl:a.length=b.length
 ·rw[QU (by simp[hl])];refine(eI (fun k=>(a.map aJ.pv,b.map aJ.pv,(k:Int),())) a.length (fun k=> !decide (a[k]?=b[k]?)) (no:=some (.bool false)) (fin:=some (.bool true)) (fun k hk rec=>?_) (fun rec=>?_) ?_ rfl).trans (Ki hl)
  ·have h1:(k:Int)<(a.length:Int):=by omega
   have hkb:k<b.length:=by omega
   simp only[nL,tc,te,h1,BY,af,AT,ta hk,ta hkb,IS,U,ag (show k<9223372036854775807 by omega),tb];rw[No ⟨rfl,rfl⟩,QE]
  ·simp[nL,tc,te,an6,OF]
  ·have:=aF;omega
 ·rw[No (by simp;omega)];have:¬a=b:=fun e=>hl (by rw[e]);simp[this]
theorem aen(x y:bg):x=y↔x.bn=y.bn∧x.day=y.day∧x.inst=y.inst∧x.id=y.id∧x.bX=y.bX∧x.free=y.free∧x.Bh=y.Bh∧x.calls=y.calls:=by cases x;cases y;simp
theorem QF(x y:bg):(decide (x.bn=y.bn)&&decide (x.day=y.day)&&decide (x.inst=y.inst)&&decide (x.id=y.id)&&decide (x.bX=y.bX)&&decide (x.free=y.free)&&decide (x.Bh=y.Bh)&&decide (x.calls=y.calls))=decide (x=y):=by rw[aoy];simp[aeu,tc,aen,aq9]
theorem acC(x y:bg)(hx:x.calls.length≤maxLen):mV [x.pv,y.pv]=some (.bool (decide (x=y))):=by simp only[mV,xJ,SI,ET,EU,NP,SJ,SK,Xr,Xs,EV,asInt,aZ,asBool,ah,BY,U,Ts x.calls y.calls hx,bI,cZ];rw[QF]
variable{T:aj}{day:Int}
theorem Kj(hT:ot T){i:Nat}{r:bg}(h:r∈cT T day i):r.calls.length≤40:=by
 unfold cT at h;split at h
 ·rename_i x hx;have Ar:=hT.small x (an4 hx);unfold dx at h;split at h
  ·cases h
  ·split at h
   ·simp_all[apg,bY]
   ·obtain⟨k,_,rfl⟩:=aoi.1 h;grind [bY,List.length_map,Nat.le_trans,wB]
 ·cases h
theorem Df(hT:ot T){r:bg}(h:r∈dq T day):r.calls.length≤40:=by obtain⟨i,_,hi⟩:=aoE.1 h;exact Kj hT hi
theorem uL(hT:ot T){n:Nat}{r:bg}(h:r∈bx T day n):r.calls.length≤40:=by obtain⟨i,_,hi⟩:=aoE.1 h;exact Df hT hi
theorem ale(x:bj):PV.agg [cell x.pv 0,cell x.pv 1,cell x.pv 2,cell x.pv 3,cell x.pv 4]=x.pv:=rfl
theorem HZ{d:Int}(h:lC d=true):fP d=d*86400∧0≤fP d∧fP d≤3155673600:=by grind [rR,fP,aY]
theorem jX(f:Nat→Int)(n:Nat)(h:(cE f n).2=0)(k:Nat)(hk:k<n):f k=0:=by
 unfold cE at h;cases hf:(List.range n).findSome? (fun k=>if f k=0 then none else some ((k:Int),f k))with
 |none=>simp_all
 |some x=>rw[hf]at h;obtain⟨j,_,hj⟩:=aoK hf;grind
theorem Hy{c:aJ}{p:Option aJ}{stops low high:Int}(h:Hk c p stops low high=0):0≤c.stop∧c.stop<stops∧low≤c.arr∧c.arr≤c.dep∧c.dep≤high∧∀q,p=some q→q.dep≤c.arr∧q.stop≠c.stop:=by unfold Hk at h;grind
structure ah2(T:aj)(i:Nat)(x:bj):Prop where
 id:x.id∉(T.ae.map bj.id).take i
 two:2≤x.calls.length
 most:x.calls.length≤32
 call:∀(k:Nat)(c:aJ),x.calls[k]?=some c→0≤c.stop∧c.stop<(T.stops.length:Int)∧0≤c.arr∧c.arr≤c.dep∧c.dep≤172800
 step:∀(k:Nat)(c d:aJ),x.calls[k]?=some c→x.calls[k+1]?=some d→c.dep≤d.arr∧c.stop≠d.stop
variable{T:aj}{x:bj}
theorem kR(hV:cz T){i:Nat}(hx:T.ae[i]?=some x):ah2 T i x:=by
 have h4:(mO T.ae T.stops.length T.ao.length T.dK.length).2=0:=hV 4 (by omega);unfold mO at h4;split at h4
 ·omega
 ·have hi:i<T.ae.length:=(IN.1 hx).1;have he:=jX _ _ h4 i hi;unfold zz at he;rw[hx]at he;simp only at he;split at he
  ·omega
  ·split at he
   ·omega
   ·rename_i hid;split at he
    ·omega
    ·unfold lD at he;split at he
     ·omega
     ·rename_i hlen;simp only[aon,tc,aq5]at hlen;have hc:∀(k:Nat)(c:aJ),x.calls[k]?=some c→Hk c (JN x.calls k) T.stops.length 0 172800=0:=fun k c hc=>by grind [jX,zy]
      refine⟨hid,by omega,by omega,fun k c h=>?_,fun k c d h h'=>?_⟩
      ·have:=Hy (hc k c h);omega
      ·have:=(Hy (hc (k+1) d h')).2.2.2.2.2 c h;omega
theorem ad5(hV:cz T){i j:Nat}{y:bj}(hx:T.ae[i]?=some x)(hy:T.ae[j]?=some y)(h:x.id=y.id):i=j:=by
 have key:∀{i j:Nat}{x y:bj},T.ae[i]?=some x→T.ae[j]?=some y→x.id=y.id→¬i<j:=fun{i j x y}hx hy h Zq=>by refine(kR hV hy).id ?_;rw[aoh];refine⟨i,?_⟩;simp_all
 grind
theorem Tu(hV:cz T){k:Nat}{f:ba}(hf:T.aU[k]?=some f):0≤f.bn∧f.bn<(T.ae.length:Int)∧dA f=true∧fitsAt T.ae f=true:=by
 have h5:(rj T.aU T.ae).2=0:=hV 5 (by omega);unfold rj at h5;split at h5
 ·omega
 ·have hk:k<T.aU.length:=(IN.1 hf).1;have he:=jX _ _ h5 k hk;unfold wJ at he;grind
theorem JM(c:aJ)(l:List aJ)(s:Int):mh (c::l) s=0↔∀(k:Nat)(x:aJ),(c::l)[k]?=some x→0≤x.arr-c.dep+s∧x.arr-c.dep+s≤172800∧0≤x.dep-c.dep+s∧x.dep-c.dep+s≤172800:=by
 show(if(List.range (c::l).length).all (gy (c::l) c.dep s)=true then(0:Int)else 10)=0↔_;have e:(if(List.range (c::l).length).all (gy (c::l) c.dep s)=true then(0:Int)else 10)=0↔(List.range (c::l).length).all (gy (c::l) c.dep s)=true:=by simp
 rw[e,aoN];constructor
 ·intro h k x hx;have:=h k (aoA.2 (IN.1 hx).1);simp_all[gy,kOk,rZ,aeu,tc]
 ·intro h k hk;unfold gy;cases hx:(c::l)[k]? with
  |none=>rfl
  |some x=>have:=h k x hx;simp_all[kOk,rZ,aeu,tc]
theorem SX(hV:cz T){i:Nat}(hx:T.ae[i]?=some x){s:Int}(hs:s∈instI T.aU i):mh x.calls s=0:=by
 obtain⟨f,hf,hfi,hsf⟩:=(instI_mem _ _ _).1 hs;obtain⟨k,hk⟩:=aoh.1 hf;obtain⟨_,_,WG,oJ⟩:=Tu hV hk;have MZ:T.ae[f.bn.toNat]?=some x:=by simp_all
 unfold fitsAt at oJ;rw[MZ]at oJ;have ht:=kR hV hx;rw[jY f WG]at hsf;obtain⟨j,hj,rfl⟩:=aoi.1 hsf;have YK:=aoA.1 hj;have hsb:=(fA f).1 WG;have hc:=pL f WG;have hle:(j:Int)≤cX f-1:=by omega
 have hm:(j:Int)*f.every≤(cX f-1)*f.every:=apo hle (by omega);have hm0:0≤(j:Int)*f.every:=aqe (by omega) (by omega);have alf:As f=f.t0+(cX f-1)*f.every:=rfl;cases hl:x.calls with
 |nil=>have:=ht.two;simp_all
 |cons c l=>replace oJ:B5 x f=true:=oJ;unfold B5 at oJ;rw[hl]at oJ;simp only[aeu,tc]at oJ;grind [mh,zZ,As,JM]
end Go.Ab.Tt
