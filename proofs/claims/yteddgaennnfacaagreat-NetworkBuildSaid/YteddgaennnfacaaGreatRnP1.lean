import Derived.Test.YteddgaennnfacaaGreatTtP1
import Derived.Test.YteddgaennnfacaaGreatAbLib
namespace Go.Ab.Tt
set_option linter.all false
def kR(d:Int):Bool:=decide (0≤d)&&decide (d≤36524)
theorem vT(d:Int):df [.int .i64 d]=some (.bool (kR d)):=by simp only[df,yY,asInt,IT,U,bt,kR]
theorem O2(d:Int):fR [.int .i64 d]=some (.bool (kR d)):=by simp only[fR,uU,asInt,IT,U,bt,kR,ge_iff_le]
theorem rH(d:Int):kR d=true↔0≤d∧d≤36524:=by simp[kR]
set_option maxRecDepth 100000
theorem aiD(x:sN):cell x.pv 2=.bool x.added:=rfl
def wkT(c:oX)(w:Int):Bool:=if w=0 then c.w0 else if w=1 then c.w1 else if w=2 then c.w2 else if w=3 then c.w3 else if w=4 then c.w4 else if w=5 then c.w5 else c.w6
def DD(i d:Int)(e:sN):Bool:=decide (e.vU=i)&&decide (e.day=d)
def Jj(c:oX)(xs:List sN)(i d:Int):Int:=match xs.find? (DD i d)with
 |some e=>if e.added=true then 2 else 3
 |none=>if(decide (d<c.zN)||decide (d>c.zO))=true then 5 else if wkT c ((d+5).tmod 7)=true then 1 else 4
def B9(cs:List oX)(xs:List sN)(i d:Int):Int:=if kR d=false then 0 else if i<0 then 0 else match cs[i.toNat]? with
 |some c=>Jj c xs i d
 |none=>0
theorem Jk(d:Int):dO [.int .i64 d]=some (.bool (kR d)):=by simp only[dO,vR,asInt,IT,U,bt,kR,ge_iff_le]
theorem Hl(d:Int)(h:kR d=true):IntKind.i64.wrap (d+5)=d+5∧0≤(d+5).tmod 7∧(d+5).tmod 7<7:=by unfold kR at h;simp only[ale,AT]at h;grind [aW,Int.tmod_eq_emod_of_nonneg]
theorem MS(d:Int)(h:kR d=true):oY [.int .i64 d]=some (.aG [.int .i64 ((d+5).tmod 7),.bool true]):=by obtain⟨h1,_⟩:=Hl d h;simp only[oY,yZ,asInt,IT,U,vT,asBool,h,alc,IN,Wi,h1]
theorem O3(d:Int)(h:kR d=true):my [.int .i64 d]=some (.aG [.int .i64 ((d+5).tmod 7),.bool true]):=by obtain⟨h1,_⟩:=Hl d h;simp only[my,xg,asInt,IT,U,Jk,asBool,h,alc,IN,Wi,h1]
theorem acr(c:oX)(w:Int)(h0:0≤w)(h7:w<7)(k:Bool→Option PV):(if ar w 7∧0<1 then[cell c.pv 0,cell c.pv 1,cell c.pv 2,cell c.pv 3,cell c.pv 4,cell c.pv 5,cell c.pv 6,cell c.pv 7,cell c.pv 8,cell c.pv 9][1+w.toNat*1]?.bind fun p=>(asBool p).bind k else none)=k (wkT c w):=by
 rw[T0 ⟨⟨h0,h7⟩,by omega⟩];have:w=0∨w=1∨w=2∨w=3∨w=4∨w=5∨w=6:=by omega
 rcases this with rfl|rfl|rfl|rfl|rfl|rfl|rfl<;>rfl
theorem afE(c:oX)(w:Int)(h0:0≤w)(h7:w<7)(k:Bool→Option PV):(if ar w 7∧0<1 then(List.drop (w.toNat*1) [cell c.pv 1,cell c.pv 2,cell c.pv 3,cell c.pv 4,cell c.pv 5,cell c.pv 6,cell c.pv 7,cell c.pv 8,cell c.pv 9]).head?.bind fun p=>(asBool p).bind k else none)=k (wkT c w):=by
 rw[T0 ⟨⟨h0,h7⟩,by omega⟩];have:w=0∨w=1∨w=2∨w=3∨w=4∨w=5∨w=6:=by omega
 rcases this with rfl|rfl|rfl|rfl|rfl|rfl|rfl<;>rfl
theorem Jl{A:Type}(p:A→Bool)(g:A→Option PV)(l:List A)(fin:Option PV):bu ((List.range l.length).findSome? fun k=>(l[k]?).bind fun x=>if p x=true then some (g x)else none) fin=match l.find? p with|some x=>g x|none=>fin:=by rw[FU];cases l.find? p<;>rfl
theorem O4(cs:List oX)(hc:cs.length≤maxLen)(xs:List sN)(hx:xs.length≤maxLen)(i d:Int):j6 [.rs 10 (cs.map oX.pv),.rs 3 (xs.map sN.pv),.int .i64 i,.int .i64 d]=some (.int .i64 (B9 cs xs i d)):=by
 have hm:=al;simp only[j6,sk,ah,asInt,IT,U,aL,vT,asBool,BY];unfold B9;by_cases hi:i<0
 ·simp_all
 by_cases hn:i≥(cs.length:Int)
 ·simp_all
 simp only[hi,hn,alw,amg,cond_false,U];cases hd:kR d with
 |false=>rfl
 |true=>
  obtain⟨n,rfl⟩:∃n:Nat,i=n:=⟨i.toNat,by omega⟩;have bQ:n<cs.length:=by omega
  obtain⟨w1,w2,w3⟩:=Hl d hd;simp only[Bool.or_self,alc,IN,Wi,ab,IS,AI bQ,No,U,alp,ali];generalize cs[n]=c;refine(au (fun k=>((n:Int),d,5,xs.map sN.pv,(xs.length:Int),(k:Int),cell c.pv 0,cell c.pv 1,cell c.pv 2,cell c.pv 3,cell c.pv 4,cell c.pv 5,cell c.pv 6,cell c.pv 7,cell c.pv 8,cell c.pv 9,())) xs.length (fun k=>(xs[k]?).bind fun x=>if DD n d x=true then some (some (.int .i64 (if x.added=true then 2 else 3)))else none) (fin:=some (.int .i64 (if(decide (d<c.zN)||decide (d>c.zO))=true then 5 else if wkT c ((d+5).tmod 7)=true then 1 else 4))) (fun k hk rec=>?_) (fun rec=>?_) ?_ rfl).trans ?_
  ·have h1:(k:Int)<(xs.length:Int):=by omega
   simp only[nd,AT,h1,IT,ab,IS,AI hk,No,U,aas,aat,aiD,asInt,asBool,aL,af (show k<9223372036854775807 by omega),dy];unfold DD;generalize xs[k]=x;by_cases e1:x.vU=n<;>by_cases e2:x.day=d<;>simp[e1,e2,bu];cases x.added<;>rfl
  ·have hw:=acr c ((d+5).tmod 7) w2 w3 (fun b=>if b=true then some (PV.int .i64 1)else some (PV.int .i64 4));simp only[nd,AT,alk,Wi,VY,VZ,asInt,IT,U,MS d hd,bR,aiK,alh,Nat.reduceAdd,adz,aiJ,asBool,show((5:Int)==3)=false from rfl,cond_false,aL];simp only[VY,VZ,asBool]at hw;grind
  ·have:=aq;omega
  ·rw[Jl (DD n d) (fun x=>some (.int .i64 (if x.added=true then 2 else 3)))];unfold Jj;grind
theorem RG(cs:List oX)(hc:cs.length≤maxLen)(xs:List sN)(hx:xs.length≤maxLen)(i d:Int):oZ [.rs 10 (cs.map oX.pv),.rs 3 (xs.map sN.pv),.int .i64 i,.int .i64 d]=some (.int .i64 (B9 cs xs i d)):=by
 have hm:=al;simp only[oZ,za,ah,asInt,IT,U,aL,Jk,asBool,BY];unfold B9;by_cases hi:i<0
 ·simp_all
 by_cases hn:i≥(cs.length:Int)
 ·simp_all
 simp only[hi,hn,alw,amg,cond_false,U];cases hd:kR d with
 |false=>rfl
 |true=>
  obtain⟨n,rfl⟩:∃n:Nat,i=n:=⟨i.toNat,by omega⟩;have bQ:n<cs.length:=by omega
  obtain⟨w1,w2,w3⟩:=Hl d hd;simp only[Bool.or_self,alc,IN,Wi,AI bQ,alp,ali];refine(au (fun k=>(cs.map oX.pv,xs.map sN.pv,(n:Int),d,(k:Int),())) xs.length (fun k=>(xs[k]?).bind fun x=>if DD n d x=true then some (some (.int .i64 (if x.added=true then 2 else 3)))else none) (fin:=some (.int .i64 (if(decide (d<cs[n].zN)||decide (d>cs[n].zO))=true then 5 else if wkT cs[n] ((d+5).tmod 7)=true then 1 else 4))) (fun k hk rec=>?_) (fun rec=>?_) ?_ rfl).trans ?_
  ·have h1:(k:Int)<(xs.length:Int):=by omega
   simp only[sB,AT,BY,h1,IT,ab,IS,AI hk,No,U,aas,aat,aiD,asInt,asBool,bt,af (show k<9223372036854775807 by omega),cd];unfold DD;generalize xs[k]=x;by_cases e1:x.vU=n<;>by_cases e2:x.day=d<;>simp[e1,e2,bu];cases x.added<;>rfl
  ·have hw:=afE cs[n] ((d+5).tmod 7) w2 w3 (fun b=>if b=true then some (PV.int .i64 1)else some (PV.int .i64 4));simp only[sB,AT,BY,alk,Wi,ab,IS,AI bQ,No,VY,VZ,asInt,IT,U,O3 d hd,bR,aiK,alh,Nat.reduceAdd,adz,aiJ,asBool,aL];simp only[VY,VZ,asBool]at hw;grind
  ·have:=aq;omega
  ·rw[Jl (DD n d) (fun x=>some (.int .i64 (if x.added=true then 2 else 3)))];unfold Jj;grind
def te(cs:List oX)(xs:List sN)(i d:Int):Bool:=decide (B9 cs xs i d=1)||decide (B9 cs xs i d=2)
theorem GQ(cs:List oX)(hc:cs.length≤maxLen)(xs:List sN)(hx:xs.length≤maxLen)(i d:Int):gG [.rs 10 (cs.map oX.pv),.rs 3 (xs.map sN.pv),.int .i64 i,.int .i64 d]=some (.bool (te cs xs i d)):=by simp only[gG,sl,ah,asInt,IT,U,O4 cs hc xs hx,aL,cd,te]
theorem RH(cs:List oX)(hc:cs.length≤maxLen)(xs:List sN)(hx:xs.length≤maxLen)(i d:Int):pc [.rs 10 (cs.map oX.pv),.rs 3 (xs.map sN.pv),.int .i64 i,.int .i64 d]=some (.bool (te cs xs i d)):=by simp only[pc,zb,ah,asInt,IT,U,RG cs hc xs hx,aL,cd,te]
def uV(t:Int)(l:List Int):Nat→Nat
 |0=>0
 |k+1=>if l.getD k 0>t then uV t l k else k+1
def tf(t:Int)(l:List Int):List Int:=l.take (uV t l l.length)++t::l.drop (uV t l l.length)
theorem Hm(t:Int)(l:List Int):∀k,uV t l k≤k
 |0=>alz _
 |k+1=>by
  unfold uV;split
  ·simp[Nat.le_succ_of_le,Hm]
  omega
theorem aau(t:Int)(l:List Int):(tf t l).length=l.length+1:=by grind [Hm,tf]
theorem aav(t x:Int)(l:List Int):x∈tf t l↔x=t∨x∈l:=by grind [tf,uV,List.take_append_drop]
def wI(by':Int)(k:aF):aF:={k with arr:=IntKind.i64.wrap (k.arr+by'),dep:=IntKind.i64.wrap (k.dep+by')}
def fp(day:Int):Int:=IntKind.i64.wrap (day*86400)
def bT(x:bn)(i day k:Int)(cs:List aF):aY:=⟨i,day,k,x.id,x.bV,x.free,false,cs.map (wI (fp day))⟩
def eu(f:bg):List Int:=if dD f=true then(List.range (db f).toNat).map fun(j:Nat)=>f.t0+(j:Int)*f.every else[]
def instF(l:List Int)(f:bg):List Int:=(eu f).foldl (fun l t=>tf t l) l
def instI(fs:List bg)(i:Int):List Int:=(fs.filter fun f=>decide (f.bp=i)).foldl instF []
def bh(l:List aF)(s:Int):List aF:=if lH l s=0 then l.map fun k=>Fs k ((l.map aF.dep).headD 0) s else[]
def dB(T:aj)(i:Nat)(x:bn)(day:Int):List aY:=
 if te T.dL T.lI x.vU day=false then[]else
 if pZ T.aU i=false then[bT x i day 0 x.calls]else
 (List.range (instI T.aU i).length).map fun(k:Nat)=>bT x i day k (bh x.calls ((instI T.aU i).getD k 0))
def cY(T:aj)(day:Int)(i:Nat):List aY:=match T.ae[i]? with
 |some x=>dB T i x day
 |none=>[]
def cU(T:aj)(day:Int):List aY:=(List.range T.ae.length).flatMap (cY T day)
def bA(T:aj)(day:Int)(n:Nat):List aY:=(List.range n).flatMap fun(d:Nat)=>cU T (day+d)
variable{T:aj}{day:Int}{r:aY}
theorem MT{i:Nat}{x:bn}(h:r∈dB T i x day):∃(k:Nat)(cs:List aF),r=bT x i day k cs:=by
 unfold dB at h;split at h
 ·cases h
 ·split at h
  ·exact⟨0,_,by simpa using h⟩
  grind
theorem at_mem{i:Nat}(h:r∈cY T day i):∃(x:bn)(k:Nat)(cs:List aF),T.ae[i]?=some x∧r=bT x i day k cs:=by grind [cY,MT]
def aY.key(r:aY):Int×Int×Int:=(r.bp,r.day,r.inst)
theorem J9(T:aj)(i:Nat)(x:bn)(day:Int):(dB T i x day).Pairwise fun r s=>r.inst≠s.inst:=by
 unfold dB;split
 ·simp
 grind [List.Pairwise.imp_of_mem,List.nodup_range,bT]
theorem acs(T:aj)(day:Int)(i:Nat):(cY T day i).Pairwise fun r s=>r.inst≠s.inst:=by
 unfold cY;split
 ·exact J9 ..
 simp
theorem MU(T:aj)(day:Int):(cU T day).Pairwise fun r s=>r.key≠s.key:=by unfold cU;rw[amu];refine⟨fun i _=>(acs T day i).imp fun h e=>h (congrArg (fun k=>k.2.2) e),?_⟩;refine ame (R:=fun a b=>a≠b) (fun{a b}_ _ h r hr s hs e=>?_) ank;obtain⟨x,k,cs,_,rfl⟩:=at_mem hr;obtain⟨y,k',ND,_,rfl⟩:=at_mem hs;grind [aY.key,bT,Prod.mk.injEq]
theorem Bs(h:r∈cU T day):r.day=day:=by obtain⟨i,_,hr⟩:=alS.1 h;obtain⟨x,k,cs,_,rfl⟩:=at_mem hr;rfl
theorem Cz(T:aj)(day:Int)(n:Nat):(bA T day n).Pairwise fun r s=>r.key≠s.key:=by unfold bA;rw[amu];refine⟨fun d _=>MU T _,?_⟩;refine ame (R:=fun a b=>a≠b) (fun{a b}_ _ h r hr s hs e=>?_) ank;have h1:=Bs hr;have h2:=Bs hs;have:r.day=s.day:=congrArg (fun k=>k.2.1) e;omega
theorem Hg:r∈cU T day↔∃(i:Nat)(x:bn),T.ae[i]?=some x∧r.bp=i∧r∈dB T i x day:=by
 unfold cU;rw[alS];constructor
 ·rintro⟨i,hi,hr⟩;obtain⟨x,k,cs,hx,e⟩:=at_mem hr;unfold cY at hr;rw[hx]at hr;exact⟨i,x,hx,by rw[e];rfl,hr⟩
 ·rintro⟨i,x,hx,_,hr⟩;refine⟨i,alI.2 (OF.1 hx).1,?_⟩;simp_all[cY]
def cE(l:List Int)(d:Int)(k:Nat):List Int:=l.take k++d::l.drop k
theorem rM(l:List Int)(d:Int)(k:Nat)(h:k≤l.length):(cE l d k).length=l.length+1:=by simp[cE];omega
theorem vV(l:List Int)(d:Int)(k j:Nat)(h:k≤l.length)(hj:j<k):(cE l d k)[j]?=l[j]?:=by simp_all[cE,al6,amj]
theorem uW(l:List Int)(d:Int)(k:Nat)(h:k≤l.length):(cE l d k)[k]?=some d:=by simp_all[cE,al0,amd]
theorem vW(l:List Int)(d x:Int)(k:Nat)(h:k≤l.length):(cE l d k).set k x=cE l x k:=by simp_all[cE,List.set_append,amd]
theorem EE(l:List Int)(k:Nat)(h:k<l.length):cE l l[k] (k+1)=cE l l[k] k:=by unfold cE;rw[alx h,amA h,alJ];rfl
theorem MV(t:Int)(l:List Int):∀n k,uV t l n≤k→k<n→l.getD k 0>t
 |0,k,_,h=>absurd h (by omega)
 |n+1,k,h1,h2=>by
  unfold uV at h1;split at h1
  ·rename_i hg;by_cases e:k=n
   ·subst e;omega
   ·exact MV t l n k h1 (by omega)
  omega
theorem FV(t:Int)(l:List Int):∀n,uV t l n=0∨∃k,uV t l n=k+1∧¬l.getD k 0>t
 |0=>.inl rfl
 |n+1=>by
  unfold uV;split
  ·exact FV t l n
  simp_all
def RI(t:Int)(l:List Int)(k:Nat):Int:=if k=l.length then t else l.getD k 0
theorem tg(l:List Int)(k:Nat):(l.map iv)[k]?=l[k]?.map iv:=IS ..
theorem Hn(l:List Int)(k:Nat)(x:Int):(l.map iv).set k (.int .i64 x)=(l.set k x).map iv:=by rw[List.map_set];rfl
theorem xZ(k:Nat)(h:k+1≤9223372036854775807):IntKind.i64.wrap (((k+1:Nat):Int)-1)=(k:Int):=by grind [aW]
theorem Bt(l:List Int)(k:Nat)(h:k<l.length):l.getD k 0=l[k]:=by simp_all
theorem RJ(EF)(t tr len i:Int)(es:List PV)(c0 c1 c2:PV)(ev:Int)(l:List Int)(hl:l.length<4611686018427387904):aX.run (dV EF) (t,(l.length:Int),t,tr,es,len,i,c0,c1,c2,.int .i64 ev,(l++[t]).map iv,())=EF (IntKind.i64.wrap (t+ev),tr,es,len,i,c0,c1,c2,.int .i64 ev,(tf t l).map iv,()):=by
 have hp:=Hm t l l.length;refine aK (fun j=>(t,((l.length-j:Nat):Int),t,tr,es,len,i,c0,c1,c2,.int .i64 ev,(cE l (RI t l (l.length-j)) (l.length-j)).map iv,())) (l.length-uV t l l.length) (fun j hj rec=>?_) (fun rec=>?_) ?_ ?_
 ·obtain⟨k,hk⟩:∃k,l.length-j=k+1:=⟨l.length-j-1,by omega⟩;have yf:k<l.length:=by omega
  have hgt:l[k]>t:=by have:=MV t l l.length k (by omega) yf;simp_all
  have hlen:=rM l (RI t l (k+1)) (k+1) (by omega);have aaw:=vV l (RI t l (k+1)) (k+1) k (by omega) (by omega);have GA:=uW l (RI t l (k+1)) (k+1) (by omega);have hd:RI t l k=l[k]:=by unfold RI;grind
  have rV:=vW l (RI t l (k+1)) l[k] (k+1) (by omega);rw[EE l k yf]at rV;have e2:l.length-(j+1)=k:=by omega
  have r1:ar (k:Int) (l.length+1):=eZ _ _ (by omega);have r2:ar ((k+1:Nat):Int) (l.length+1):=eZ _ _ (by omega);simp only[hk,e2];simp only[dV,show decide (((k+1:Nat):Int)>0)=true by simp,cond_true,xZ k (by omega),BY,hlen,T0 r1,T0 r2,ali,tg,aaw,AI yf,No,U,iv,cell,PV.cells,adz,asInt,IT,show decide (l[k]>t)=true by simpa using hgt,GA];rw[Hn,rV,hd]
 ·have e0:l.length-(l.length-uV t l l.length)=uV t l l.length:=by omega
  simp only[e0];generalize hpp:uV t l l.length=p at*;have hlen:=rM l (RI t l p) p hp;have GA:=uW l (RI t l p) p hp;have rV:=vW l (RI t l p) t p hp;have r1:ar (p:Int) (l.length+1):=eZ _ _ (by omega);have zI:(tf t l).map iv=((cE l (RI t l p) p).map iv).set p (.int .i64 t):=by grind [Hn,tf,cE]
  rw[zI];have stop:uV t l l.length=0∨∃k,uV t l l.length=k+1∧¬l.getD k 0>t:=FV t l l.length;rw[hpp]at stop;rcases stop with h0|⟨k,hk,hng⟩
  ·subst h0;have r1':ar (0:Int) (l.length+1):=r1;have aka:(List.map iv (cE l (RI t l 0) 0))[(0:Int).toNat]?=some (iv (RI t l 0)):=by rfl
   simp only[dV,Int.natCast_zero,show decide ((0:Int)>0)=false from rfl,cond_false,U,IN,Wi,BY,hlen,T0 r1',aka,asInt,IT];rfl
  ·subst hk;have yf:k<l.length:=by omega
   rw[Bt l k yf]at hng;have aaw:=vV l (RI t l (k+1)) (k+1) k (by omega) (by omega);have r0:ar (k:Int) (l.length+1):=eZ _ _ (by omega);simp only[dV,show decide (((k+1:Nat):Int)>0)=true by simp,cond_true,xZ k (by omega),BY,hlen,T0 r0,T0 r1,ali,tg,aaw,AI yf,No,U,iv,cell,PV.cells,adz,asInt,IT,show decide (l[k]>t)=false by simpa using hng,IN,Wi,GA]
 ·grind [aq,maxLen,decide]
 ·simp[cE,RI]
theorem jJ(x:bg)(h:dD x=true):eu x=(List.range (db x).toNat).map fun(j:Nat)=>x.t0+(j:Int)*x.every:=by unfold eu;rw[T0 h]
theorem DE(x:bg)(h:dD x=false):eu x=[]:=by simp_all[eu,acB]
theorem GR(x:bg):(eu x).length≤172800:=by
 unfold eu;split
 ·simp_all[pd]
 simp
theorem Jm(s:List Int):∀l:List Int,(s.foldl (fun l t=>tf t l) l).length=l.length+s.length:=by
 induction s with
 |nil=>simp
 |cons t s ih=>grind [aau,List.length_cons]
theorem instF_len(l:List Int)(f:bg):(instF l f).length≤l.length+172800:=by simp[instF,Jm,GR]
theorem V0(fs:List bg):∀l:List Int,(fs.foldl instF l).length≤l.length+172800*fs.length:=by
 induction fs with
 |nil=>simp
 |cons f fs ih=>grind [instF,instF_len,List.length_cons]
theorem O5(sC)(x:bg)(h:dD x=true)(tr len i:Int)(es:List PV)(l:List Int)(hl:l.length≤1000000000):aX.run (fH aX sC) (x.t0,tr,es,len,i,.int .i64 x.bp,.int .i64 x.t0,.int .i64 x.t1,.int .i64 x.every,l.map iv,())=sC (tr,es,len,IntKind.i64.wrap (i+1),(instF l x).map iv,()):=by
 have hc:=pd x h;have SH:=Jn x h;obtain⟨h1,h2,h3,h4,h5⟩:=(fg x).1 h;have nO:∀k,k≤(db x).toNat→((eu x).take k).length=k:=fun k hk=>by rw[jJ x h];simp;omega
 refine aK (fun k=>(x.t0+(k:Int)*x.every,tr,es,len,i,.int .i64 x.bp,.int .i64 x.t0,.int .i64 x.t1,.int .i64 x.every,(((eu x).take k).foldl (fun l t=>tf t l) l).map iv,())) (db x).toNat (fun k hk rec=>?_) (fun rec=>?_) ?_ ?_
 ·have L5:(k:Int)≤db x-1:=by omega
  have ub:(k:Int)*x.every≤(db x-1)*x.every:=amB L5 (by omega);have Gk:0≤(k:Int)*x.every:=anz (by omega) (by omega);have bQ:x.t0+(k:Int)*x.every<x.t1:=by omega
  have akb:((k+1:Nat):Int)*x.every=(k:Int)*x.every+x.every:=by grind
  have hw:IntKind.i64.wrap (x.t0+(k:Int)*x.every+x.every)=x.t0+((k+1:Nat):Int)*x.every:=by grind [aW]
  have KQ:=Jm ((eu x).take k) l;rw[nO k (by omega)]at KQ;have hs:(eu x).take (k+1)=(eu x).take k++[x.t0+(k:Int)*x.every]:=by rw[jJ x h,←anJ,←anJ,List.take_range,List.take_range,amd (by omega),amd (by omega),amc,alP];rfl
  have pM:((eu x).take (k+1)).foldl (fun l t=>tf t l) l=tf (x.t0+(k:Int)*x.every) (((eu x).take k).foldl (fun l t=>tf t l) l):=by simp_all
  generalize ((eu x).take k).foldl (fun l t=>tf t l) l=lk at KQ pM;have bF:(lk.map iv++[PV.int .i64 (x.t0+(k:Int)*x.every)]).length*8≤ag∧0<8:=by grind [decide,List.length_append,List.length_map,List.length_cons,List.length_nil,ag]
  simp only[fH,asInt,IT,U,AT,bQ,T0 bF,BY];rw[show lk.map iv++[PV.int .i64 (x.t0+(k:Int)*x.every)]=(lk++[x.t0+(k:Int)*x.every]).map iv by simp[iv],RJ _ _ _ _ _ _ _ _ _ _ lk (by omega),hw,pM]
 ·have he:(((db x).toNat:Nat):Int)*x.every=db x*x.every:=by grind
  have bQ:¬x.t0+(((db x).toNat:Nat):Int)*x.every<x.t1:=by omega
  have vu:(eu x).take (db x).toNat=eu x:=alU (by rw[jJ x h];simp);simp only[fH,asInt,IT,U,AT,acB bQ,vu];rfl
 ·grind [rounds,decide]
 simp
theorem FW{A:Type}(p:A→Bool)(l:List A)(k:Nat)(h:k<l.length):(l.take (k+1)).filter p=(l.take k).filter p++if p l[k]=true then[l[k]]else[]:=by rw[alx h,List.filter_append];grind
def instK(fs:List bg)(i:Int)(k:Nat):List Int:=((fs.take k).filter fun f=>decide (f.bp=i)).foldl instF []
theorem instK_len(fs:List bg)(i:Int)(k:Nat)(hf:fs.length≤1000):(instK fs i k).length≤172800000:=by grind [instK,V0,decide,Nat.le_trans,List.length_filter_le,List.length_nil]
theorem instK_succ(fs:List bg)(i:Int)(k:Nat)(h:k<fs.length):instK fs i (k+1)=if fs[k].bp=i then instF (instK fs i k) fs[k]else instK fs i k:=by grind [instK,FW]
theorem instF_un(l:List Int)(f:bg)(h:dD f=false):instF l f=l:=by unfold instF;rw[DE f h];rfl
theorem instI_K(fs:List bg)(i:Int):instI fs i=instK fs i fs.length:=by unfold instI instK;simp
theorem Lv(fs:List bg)(hf:fs.length≤1000)(i:Int):eC [.rs 4 (fs.map bg.pv),.int .i64 i]=some (.rs 1 ((instI fs i).map iv)):=by
 simp only[eC,lG,ah,asInt,IT,U,BY];rw[instI_K];refine aK (fun k=>(i,fs.map bg.pv,(fs.length:Int),(k:Int),(instK fs i k).map iv,())) fs.length (fun k hk rec=>?_) (fun rec=>?_) ?_ ?_
 ·have h1:(k:Int)<(fs.length:Int):=by omega
  have hl:=instK_len fs i k hf;rw[instK_succ fs i k hk];simp only[jo,AT,h1,IT,ab,IS,AI hk,No,U,pe,sO,sP,sQ,asInt,dy,zA,GS,asBool,af (show k<9223372036854775807 by omega)];by_cases e:fs[k].bp=i
  ·simp only[e,alB,alc,IN,Wi,IT];cases hs:dD fs[k]with
   |false=>simp_all[alA,IT,instF_un]
   |true=>simp only[alc,IN,Wi];grind [O5,bg.pv,instK,af]
  simp_all
 ·simp[jo,AT,alk,Wi]
 ·grind [rounds,decide]
 rfl
theorem Lw(x:bn)(hx:x.Ok)(start:Int)(hs:oz start)(yg:x.calls.length≤40):cq [x.pv,.int .i64 start]=some (.aG [.rs 5 ((bh x.calls start).map aF.pv),.int .i64 (lH x.calls start)]):=by
 have hm:=al;have pf:∀y∈x.calls,y.Ok:=hx.calls.2;simp only[cq,mw,Jo,pN,rN,pO,uX,lZ,aT,ah,asInt,asBool,IT,U,BY];generalize x.calls=l at yg pf⊢;cases l with
 |nil=>rfl
 |cons c l=>
  generalize hl:c::l=cs at yg pf⊢;have WI:cs[0]?=some c:=by rw[←hl];rfl
  have ez:0<cs.length:=by rw[←hl];simp
  have hcE:lH cs start=if(List.range cs.length).all (gk cs c.dep start)=true then 0 else 10:=by rw[←hl];rfl
  have Jp:c.Ok:=pf c (by rw[←hl];simp);have cC:((cs.length:Int)==0)=false:=by grind
  have hix:pG (cs.map aF.pv) 0=some c.pv:=by have:=ab (cs.map aF.pv) 0;simp_all
  have bF:0≤(cs.length:Int)∧(cs.length:Int)≤(cs.length:Int)∧(cs.length:Int).toNat*32≤ag∧0<32∧0<5:=by grind [decide,ag]
  rw[cC,hix];simp only[IN,Wi,U,lY,asInt,IT,T0 bF,al5,ali,alU (aoz (BY _)),BY];rw[an8 (by simp),alO,BY];have RL:0≤(cs.length:Int)∧(cs.length:Int)≤(cs.length:Int)∧cs.length*32≤ag∧0<32∧0<5:=bF;have Jq:aX.run dI (start,c.dep,(cs.length:Int),0,cs.map aF.pv,())=bu ((List.range cs.length).findSome? fun k=>if gk cs c.dep start k=true then none else some (some (.aG [.rs 5 [],.int .i64 10]))) (some (.aG [.rs 5 (DF cs (fun x=>Fs x c.dep start) cs.length),.int .i64 0])):=by
   refine au (fun k=>(start,c.dep,(cs.length:Int),(k:Int),DF cs (fun x=>Fs x c.dep start) k,())) cs.length _ (fun k hk rec=>?_) (fun rec=>?_) ?_ ?_
   ·have h1:(k:Int)<(cs.length:Int):=by omega
    have vv:cs[k].Ok:=pf _ (alj hk);obtain⟨n1,e1,q1⟩:=EG cs[k].arr c.dep start vv.arr Jp.dep hs;obtain⟨n2,e2,q2⟩:=EG cs[k].dep c.dep start vv.dep Jp.dep hs;have hlen:=O6 cs (fun x=>Fs x c.dep start) k (by omega);have fo:=O7 cs (fun x=>Fs x c.dep start) k hk;have rV:=O8 cs (fun x=>Fs x c.dep start) k hk;have hr:ar (k:Int) cs.length:=eZ k _ hk;have aax:gk cs c.dep start k=(rO cs[k].arr c.dep start&&rO cs[k].dep c.dep start):=by unfold gk;rw[AI hk];rfl
    have L7:∀X,((DF cs (fun x=>Fs x c.dep start) k).set k X)[k]?=some X:=fun X=>by simp_all
    simp only[dI,AT,h1,IT,hlen,T0 hr,ali,fo,U,pK,vK,lY,GU,GV,asInt,e1,e2,bR,asBool,aiK,alh,Nat.reduceAdd,adz,aiJ,am8,L7,O9,over,aod,af (show k<9223372036854775807 by omega)];grind [rO,start,bu,Fs,aF.pv]
   ·simp[dI,AT,alk,Wi]
   ·grind [rounds,decide]
   rfl
  have hF:bh cs start=if(List.range cs.length).all (gk cs c.dep start)=true then cs.map (fun x=>Fs x c.dep start)else[]:=by unfold bh;rw[hcE,show(cs.map aF.dep).headD 0=c.dep by rw[←hl];rfl];simp
  rw[T0 RL,Jq,pg,hcE,hF];by_cases vu:(List.range cs.length).all (gk cs c.dep start)=true
  ·simp_all[T0,bu,DF,am0,amW]
  simp_all[acB,bu]
theorem V1(x:bn)(hx:x.Ok)(start:Int)(hs:0≤start∧start≤172800)(yg:x.calls.length≤40):fN [x.pv,.int .i64 start]=some (.aG [.rs 5 ((bh x.calls start).map aF.pv),.int .i64 (lH x.calls start)]):=by
 have hm:=al;have pf:∀y∈x.calls,y.Ok:=hx.calls.2;simp only[fN,vS,Jo,pN,rN,pO,uX,lZ,aT,ah,asInt,asBool,IT,U,BY];generalize x.calls=l at yg pf⊢;cases l with
 |nil=>rfl
 |cons c l=>
  generalize hl:c::l=cs at yg pf⊢;have WI:cs[0]?=some c:=by rw[←hl];rfl
  have ez:0<cs.length:=by rw[←hl];simp
  have hcE:lH cs start=if(List.range cs.length).all (gk cs c.dep start)=true then 0 else 10:=by rw[←hl];rfl
  have Jp:c.Ok:=pf c (by rw[←hl];simp);have cC:((cs.length:Int)==0)=false:=by grind
  have hix:pG (cs.map aF.pv) 0=some c.pv:=by rw[show(0:Int)=((0:Nat):Int)from rfl,ab,IS,WI];rfl
  rw[cC,hix];simp only[IN,Wi,U,lY,asInt,IT];have Jq:aX.run (fZ aX) (start,c.dep,0,x.id,x.bV,x.vU,x.free,cs.map aF.pv,[],())=bu ((List.range cs.length).findSome? fun k=>if gk cs c.dep start k=true then none else some (some (.aG [.rs 5 [],.int .i64 10]))) (some (.aG [.rs 5 (cs.map fun x=>(Fs x c.dep start).pv),.int .i64 0])):=by
   refine au (fun k=>(start,c.dep,(k:Int),x.id,x.bV,x.vU,x.free,cs.map aF.pv,(cs.take k).map (fun x=>(Fs x c.dep start).pv),())) cs.length _ (fun k hk rec=>?_) (fun rec=>?_) ?_ rfl
   ·have h1:(k:Int)<(cs.length:Int):=by omega
    have vv:cs[k].Ok:=pf _ (alj hk);obtain⟨n1,e1,q1⟩:=EH cs[k].arr c.dep start vv.arr Jp.dep hs;obtain⟨n2,e2,q2⟩:=EH cs[k].dep c.dep start vv.dep Jp.dep hs;have aax:gk cs c.dep start k=(rO cs[k].arr c.dep start&&rO cs[k].dep c.dep start):=by unfold gk;rw[AI hk];rfl
    have bF:∀X:PV,(((cs.take k).map (fun x=>(Fs x c.dep start).pv))++[X]).length*32≤ag∧0<32:=fun X=>by refine⟨?_,by omega⟩;grind [List.length_append,List.length_map,List.length_take,List.length_cons,List.length_nil,ag]
    simp only[fZ,AT,BY,h1,IT,ab,IS,AI hk,No,U,pK,vK,lY,GU,GV,asInt,e1,e2,bR,asBool,aiK,alh,Nat.reduceAdd,adz,aiJ,T0 (bF _),af (show k<9223372036854775807 by omega)];rw[aax];cases hA:rO cs[k].arr c.dep start with
    |false=>rfl
    |true=>
     cases hB:rO cs[k].dep c.dep start with
     |false=>rfl
     |true=>have ht:cs.take (k+1)=cs.take k++[cs[k]]:=(amp hk).symm;rw[ht,q1 hA,q2 hB];simp only[alc,cond_false,U,IN,Wi,amH,IT,bu,alP,alu,amk,Fs,aF.pv]
   ·simp[fZ,AT,BY,alk,Wi,alT]
   grind [rounds,decide]
  have hF:bh cs start=if(List.range cs.length).all (gk cs c.dep start)=true then cs.map (fun x=>Fs x c.dep start)else[]:=by unfold bh;grind
  rw[Jq,pg,hcE,hF];by_cases vu:(List.range cs.length).all (gk cs c.dep start)=true
  ·simp_all[T0,bu,DF,am0,amW]
  simp_all[acB,bu]
theorem V2(EF)(tr i k:Int)(es s:List PV)(t:Int)(l:List Int)(hl:l.length<4611686018427387904):aX.run (jq EF) (es,tr,i,s,k,(l.length:Int),(l++[t]).map iv,())=EF (es,tr,i,s,IntKind.i64.wrap (k+1),(tf t l).map iv,()):=by
 have hp:=Hm t l l.length;refine aK (fun j=>(es,tr,i,s,k,((l.length-j:Nat):Int),(cE l t (l.length-j)).map iv,())) (l.length-uV t l l.length) (fun j hj rec=>?_) (fun rec=>?_) ?_ ?_
 ·obtain⟨q,hk⟩:∃q,l.length-j=q+1:=⟨l.length-j-1,by omega⟩;have yf:q<l.length:=by omega
  have hgt:l[q]>t:=by have:=MV t l l.length q (by omega) yf;simp_all
  have hlen:=rM l t (q+1) (by omega);have aaw:=vV l t (q+1) q (by omega) (by omega);have GA:=uW l t (q+1) (by omega);have rV:=vW l t l[q] (q+1) (by omega);rw[EE l q yf]at rV;have XB:=vW l l[q] t q (by omega);have akc:=uW l l[q] q (by omega);have aiE:=rM l l[q] q (by omega);have e2:l.length-(j+1)=q:=by omega
  have r1:ar (q:Int) (l.length+1):=eZ _ _ (by omega);have r2:ar ((q+1:Nat):Int) (l.length+1):=eZ _ _ (by omega);simp only[hk,e2];have hs1:((cE l t (q+1)).map iv).set (q+1) (.int .i64 l[q])=(cE l l[q] q).map iv:=by rw[Hn,rV]
  have hs2:((cE l l[q] q).map iv).set q (.int .i64 t)=(cE l t q).map iv:=by rw[Hn,XB]
  have g1:((cE l t (q+1)).map iv)[q]?=some (iv l[q]):=by simp_all
  have g2:((cE l t (q+1)).map iv)[q+1]?=some (iv t):=by rw[tg,GA];rfl
  have g3:((cE l l[q] q).map iv)[q]?=some (iv l[q]):=by rw[tg,akc];rfl
  have ci:∀n:Int,cell (iv n) 0=.int .i64 n:=fun _=>rfl;simp only[jq,show decide (((q+1:Nat):Int)>0)=true by simp,cond_true,xZ q (by omega),BY,hlen,T0 r1,T0 r2,ali,g1,g2,U,ci,asInt,IT,show decide (l[q]>t)=true by simpa using hgt,hs1,aiE,g3,hs2]
 ·have e0:l.length-(l.length-uV t l l.length)=uV t l l.length:=by omega
  simp only[e0];generalize hpp:uV t l l.length=p at*;have hlen:=rM l t p hp;have GA:=uW l t p hp;have r1:ar (p:Int) (l.length+1):=eZ _ _ (by omega);have zI:(tf t l).map iv=(cE l t p).map iv:=by unfold tf cE;rw[hpp]
  rw[zI];have ci:∀n:Int,cell (iv n) 0=.int .i64 n:=fun _=>rfl;have stop:uV t l l.length=0∨∃k,uV t l l.length=k+1∧¬l.getD k 0>t:=FV t l l.length;rw[hpp]at stop;rcases stop with h0|⟨q,hk,hng⟩
  ·subst h0;rfl
  ·subst hk;have yf:q<l.length:=by omega
   rw[Bt l q yf]at hng;have aaw:=vV l t (q+1) q (by omega) (by omega);have r0:ar (q:Int) (l.length+1):=eZ _ _ (by omega);have g1:((cE l t (q+1)).map iv)[q]?=some (iv l[q]):=by simp_all
   have g2:((cE l t (q+1)).map iv)[q+1]?=some (iv t):=by rw[tg,GA];rfl
   simp only[jq,show decide (((q+1:Nat):Int)>0)=true by simp,cond_true,xZ q (by omega),BY,hlen,T0 r0,T0 r1,ali,g1,g2,U,ci,asInt,IT,show decide (l[q]>t)=false by simpa using hng,IN,Wi]
 ·grind [aq,maxLen,decide]
 ·simp[cE]
theorem Pa(x:bg):ga [x.pv]=some (.rs 1 ((eu x).map iv)):=by
 cases h:dD x with
 |true=>simp_all[Jr,jJ,k9,iv,amW]
 |false=>rw[DE x h];simp only[ga,td,EI,pe,sO,sP,sQ,asInt,asBool,IT,U,zA,ze,h,alA,amk]
theorem V3(sC)(tr i:Int)(es:List PV)(s l:List Int)(hs:s.length≤172800)(hl:l.length≤1000000000):aX.run (jr aX sC) (es,tr,i,s.map iv,0,l.map iv,())=sC (es,tr,IntKind.i64.wrap (i+1),(s.foldl (fun l t=>tf t l) l).map iv,()):=by
 refine aK (fun k=>(es,tr,i,s.map iv,(k:Int),((s.take k).foldl (fun l t=>tf t l) l).map iv,())) s.length (fun k hk rec=>?_) (fun rec=>?_) ?_ ?_
 ·have h1:(k:Int)<(s.length:Int):=by omega
  have KQ:=Jm (s.take k) l;rw[alF,amd (by omega)]at KQ;have pM:(s.take (k+1)).foldl (fun l t=>tf t l) l=tf s[k] ((s.take k).foldl (fun l t=>tf t l) l):=by rw[alx hk,List.foldl_append];rfl
  generalize (s.take k).foldl (fun l t=>tf t l) l=lk at KQ pM;have ci:∀n:Int,cell (iv n) 0=.int .i64 n:=fun _=>rfl;have bF:(lk.map iv++[PV.int .i64 s[k]]).length*8≤ag∧0<8:=by grind [decide,List.length_append,List.length_map,List.length_cons,List.length_nil,ag]
  simp only[jr,AT,BY,h1,IT,ab,tg,AI hk,No,U,ci,asInt,T0 bF];have ha:lk.map iv++[PV.int .i64 s[k]]=(lk++[s[k]]).map iv:=by simp[iv]
  have hw:IntKind.i64.wrap ((((lk++[s[k]]).map iv).length:Int)-1)=(lk.length:Int):=by rw[BY,aln,aiK,alh];exact xZ _ (by omega)
  grind [V2,af]
 ·simp[jr,AT,BY,alk,Wi,alT]
 ·grind [rounds,decide]
 rfl
theorem aay(fs:List bg)(hf:fs.length≤1000)(i:Int):j7 [.rs 4 (fs.map bg.pv),.int .i64 i]=some (.rs 1 ((instI fs i).map iv)):=by
 simp only[j7,sy,ah,asInt,IT,U];rw[instI_K];refine aK (fun k=>(fs.map bg.pv,i,(k:Int),(instK fs i k).map iv,())) fs.length (fun k hk rec=>?_) (fun rec=>?_) ?_ ?_
 ·have h1:(k:Int)<(fs.length:Int):=by omega
  have hl:=instK_len fs i k hf;rw[instK_succ fs i k hk];simp only[nf,AT,BY,h1,IT,ab,IS,AI hk,No,U,pe,sO,sP,sQ,asInt,dy,zA,Pa,ah,af (show k<9223372036854775807 by omega)];by_cases e:fs[k].bp=i
  ·simp only[e,alB,alc,IN,Wi,IT];have:=V3 rec i k (fs.map bg.pv) (eu fs[k]) (instK fs i k) (GR _) (by omega);rw[af (show k<9223372036854775807 by omega)]at this;exact this
  simp_all
 ·simp[nf,AT,BY,alk,Wi]
 ·grind [rounds,decide]
 rfl
theorem V4(fs:List bg)(hl:fs.length≤maxLen)(t:Int):lf [.rs 4 (fs.map bg.pv),.int .i64 t]=some (.bool (pZ fs t)):=by
 have hm:=al;simp only[lf,uT,ah,asInt,IT,U,BY];refine(cQ (fun k=>(fs.map bg.pv,t,(k:Int),())) fs.length (fun k=>decide ((fs.map bg.bp)[k]?=some t)) (no:=some (.bool true)) (fin:=some (.bool false)) (fun k hk rec=>?_) (fun rec=>?_) ?_ rfl).trans ?_
 ·have h1:(k:Int)<(fs.length:Int):=by omega
  simp only[pj,AT,BY,h1,IT,ab,IS,AI hk,No,U,pe,asInt,af (show k<9223372036854775807 by omega),cd,By]
 ·simp[pj,AT,BY,alk,Wi]
 ·have:=aq;omega
 ·have h:=gB (fs.map bg.bp) fs.length (by simp) t;rw[h,alU (by simp)];unfold pZ;grind
def pI{X:Type}(T:aj)(x:X):=(T.stops.map Stop.pv,T.ai.map az.pv,T.dL.map oX.pv,T.lI.map sN.pv,T.ae.map bn.pv,T.aU.map bg.pv,T.cm.map gw.pv,T.bL.map gn.pv,T.paths.map Path.pv,T.aB.map ba.pv,T.aZ,T.within,T.cap,x)
structure pH(T:aj):Prop where
 ae:T.ae.length≤40
 aU:T.aU.length≤70
 dL:T.dL.length≤70
 lI:T.lI.length≤70
 cm:T.cm.length≤140
 bL:T.bL.length≤140
 small:Small T
theorem zf(l:List aF)(n:Int)(hl:l.length≤1000):gH [.rs 5 (l.map aF.pv),.int .i64 n]=some (.rs 5 ((l.map (wI n)).map aF.pv)):=by
 simp only[gH,Dn,ah,asInt,IT,U,BY];refine aK (fun k=>(n,l.map aF.pv,(l.length:Int),(k:Int),((l.take k).map (wI n)).map aF.pv,())) l.length (fun k hk rec=>?_) (fun rec=>?_) ?_ rfl
 ·have h1:(k:Int)<(l.length:Int):=by omega
  have bF:∀X:PV,((((l.take k).map (wI n)).map aF.pv)++[X]).length*32≤ag∧0<32:=fun X=>by refine⟨?_,by decide⟩;simp only[aln,BY,alF,aiK,alh];unfold ag;omega
  simp only[xl,AT,h1,IT,ab,IS,AI hk,No,U,pK,vK,lY,GU,GV,asInt,T0 (bF _),af (show k<9223372036854775807 by omega)];rw[alx hk,alP,alP];rfl
 ·simp only[xl,AT,alk,Wi,alT]
 ·have:1001<rounds:=by decide
  omega
theorem Uk(T:aj)(i:Nat)(x:bn)(hx:T.ae[i]?=some x)(day k:Int)(cs:List aF)(hc:cs.length≤1000):rP [T.pv,.int .i64 i,.int .i64 day,.int .i64 k,.rs 5 (cs.map aF.pv)]=some (bT x i day k cs).pv:=by
 simp only[rP,FQ,Mm,Mn,Mo,Mp,Mq,Mr,Ms,Mt,Mu,Mv,Mw,yO,yP,yQ,ah,asInt,IT,U,ab,IS,hx,No,pN,rN,uX,aT,asBool];refine aK (fun j=>(day,cs.map aF.pv,(j:Int),0,0,0,[],0,false,false,(i:Int),day,k,x.id,x.bV,x.free,false,((cs.take j).map (wI (fp day))).map aF.pv,())) cs.length (fun j hj rec=>?_) (fun rec=>?_) ?_ rfl
 ·have h1:(j:Int)<(cs.length:Int):=by omega
  have bF:∀X:PV,((((cs.take j).map (wI (fp day))).map aF.pv)++[X]).length*32≤ag∧0<32:=fun X=>by refine⟨?_,by decide⟩;simp only[aln,BY,alF,aiK,alh];unfold ag;omega
  simp only[zg,AT,BY,h1,IT,ab,IS,AI hj,No,U,pK,vK,lY,GU,GV,asInt,T0 (bF _),af (show j<9223372036854775807 by omega)];rw[alx hj,alP,alP];rfl
 ·simp only[zg,AT,BY,alk,Wi,alT];rfl
 ·have:1001<rounds:=by decide
  omega
theorem Ka(x:bg)(t:Int)(h:t∈eu x):0≤t∧t≤172800:=by
 cases hs:dD x with
 |false=>rw[DE x hs]at h;cases h
 |true=>
  rw[jJ x hs]at h;obtain⟨j,hj,rfl⟩:=alC.1 h;have hj:=alI.1 hj;have SH:=Jn x hs;have hc:=pd x hs;obtain⟨h1,h2,h3,h4,h5⟩:=(fg x).1 hs;have L5:(j:Int)≤db x-1:=by omega
  have ub:(j:Int)*x.every≤(db x-1)*x.every:=amB L5 (by omega);have Gk:0≤(j:Int)*x.every:=anz (by omega) (by omega);omega
theorem MW(t:Int)(s:List Int):∀l:List Int,t∈s.foldl (fun l t=>tf t l) l↔t∈l∨t∈s:=by
 induction s with
 |nil=>simp
 |cons a s ih=>grind [aav]
theorem Kb(t:Int)(fs:List bg):∀l:List Int,t∈fs.foldl instF l↔t∈l∨∃f∈fs,t∈eu f:=by
 induction fs with
 |nil=>simp
 |cons f fs ih=>intro l;rw[ans,ih];unfold instF;rw[MW];grind
theorem instI_mem(fs:List bg)(i t:Int):t∈instI fs i↔∃f∈fs,f.bp=i∧t∈eu f:=by unfold instI;rw[Kb];grind
theorem instI_range(fs:List bg)(i t:Int)(h:t∈instI fs i):0≤t∧t≤172800:=by obtain⟨f,_,_,h3⟩:=(instI_mem fs i t).1 h;exact Ka f t h3
theorem instI_len(fs:List bg)(hf:fs.length≤1000)(i:Int):(instI fs i).length≤172800000:=by simp_all[instI_K,instK_len]
theorem vX(l:List aF)(s:Int):(bh l s).length≤l.length:=by unfold bh;split<;>simp
theorem MX(T:aj)(hf:T.aU.length≤1000)(day:Int)(i:Nat):(cY T day i).length≤172800000:=by grind [cY,dB,List.length_map,List.length_range,instI_len]
def bB(T:aj)(day:Int)(k:Nat):List aY:=(List.range k).flatMap (cY T day)
theorem qQ(T:aj)(day:Int)(k:Nat):bB T day (k+1)=bB T day k++cY T day k:=by simp[bB,amc,am3]
theorem zh(T:aj)(hf:T.aU.length≤1000)(day:Int):∀k,(bB T day k).length≤172800000*k
 |0=>by simp[bB]
 |k+1=>by rw[qQ,aln];have:=zh T hf day k;have:=MX T hf day k;omega
theorem FX(T:aj)(day:Int):cU T day=bB T day T.ae.length:=rfl
theorem Bu(T:aj)(hT:pH T)(day:Int):(cU T day).length≤6912000000:=by rw[FX];have:=zh T (by have:=hT.aU;omega) day T.ae.length;have:=hT.ae;omega
theorem qR(T:aj)(day:Int)(n:Nat):bA T day (n+1)=bA T day n++cU T (day+n):=by simp[bA,amc,am3]
theorem EJ(T:aj)(hT:pH T)(day:Int):∀n,(bA T day n).length≤6912000000*n
 |0=>by simp[bA]
 |n+1=>by rw[qR,aln];have:=EJ T hT day n;have:=Bu T hT (day+n);omega
theorem Js(l:List PV)(h:l.length≤1000000000000):l.length*80≤ag∧0<80:=⟨by unfold ag;omega,by omega⟩
set_option maxHeartbeats 1000000 in
theorem V5(T:aj)(hT:pH T)(gT:T.Ok)(day:Int)(i:Nat)(x:bn)(hx:T.ae[i]?=some x)(Ul)(s:List Int)(hs:∀t∈s,0≤t∧t≤172800)(JW:s.length≤172800000)(o:List aY)(ho:o.length≤100000000000):aX.run (th aX Ul) (day,(i:Int),s.map iv,0,pI T (o.map aY.pv,()))=Ul (day,IntKind.i64.wrap ((i:Int)+1),pI T ((o++(List.range s.length).map fun(k:Nat)=>bT x i day k (bh x.calls (s.getD k 0))).map aY.pv,())):=by
 have Lj:x∈T.ae:=alf hx;have Rb:=gT.ae.2 x Lj;have yg:=hT.small x Lj;refine aK (fun k=>(day,(i:Int),s.map iv,(k:Int),pI T ((o++(List.range k).map fun(k:Nat)=>bT x i day k (bh x.calls (s.getD k 0))).map aY.pv,()))) s.length (fun k hk rec=>?_) (fun rec=>?_) ?_ ?_
 ·have h1:(k:Int)<(s.length:Int):=by omega
  have ci:∀n:Int,cell (iv n) 0=.int .i64 n:=fun _=>rfl;have hr:=hs s[k] (alj hk);have xJ:=vX x.calls s[k];have Qy:s.getD k 0=s[k]:=Bt s k hk;have pM:(o++(List.range (k+1)).map fun(k:Nat)=>bT x i day k (bh x.calls (s.getD k 0))).map aY.pv=(o++(List.range k).map fun(k:Nat)=>bT x i day k (bh x.calls (s.getD k 0))).map aY.pv++[(bT x i day k (bh x.calls s[k])).pv]:=by simp only[amc,alP,alu,amk,Qy,alJ]
  have bF:=Js ((o++(List.range k).map fun(k:Nat)=>bT x i day k (bh x.calls (s.getD k 0))).map aY.pv++[.agg [cell (bT x i day k (bh x.calls s[k])).pv 0,cell (bT x i day k (bh x.calls s[k])).pv 1,cell (bT x i day k (bh x.calls s[k])).pv 2,cell (bT x i day k (bh x.calls s[k])).pv 3,cell (bT x i day k (bh x.calls s[k])).pv 4,cell (bT x i day k (bh x.calls s[k])).pv 5,cell (bT x i day k (bh x.calls s[k])).pv 6,cell (bT x i day k (bh x.calls s[k])).pv 7]]) (by simp;omega);simp only[th,pI,AT,BY,h1,IT,ab,tg,IS,AI hk,hx,No,U,ci,asInt,pN,rN,pO,uX,lZ,Lx,V1 x Rb s[k] hr yg,bR,ah,aiK,alh,Nat.reduceAdd,adz,aiJ,PX,Uk T i x hx day k _ (show(bh x.calls s[k]).length≤1000 by omega),VA,T0 bF,af (show k<9223372036854775807 by omega)];rw[pM];rfl
 ·simp only[th,pI,AT,BY,alk,Wi]
 ·have:172800001<rounds:=by decide
  omega
 ·simp
set_option maxHeartbeats 1000000 in
theorem Um(T:aj)(hT:pH T)(gT:T.Ok)(day:Int):rQ [T.pv,.int .i64 day]=some (.rs 8 ((cU T day).map aY.pv)):=by
 have Qd:T.dL.length≤maxLen:=alH hT.dL (by decide);have hem:T.lI.length≤maxLen:=alH hT.lI (by decide);have hfm:T.aU.length≤maxLen:=alH hT.aU (by decide);have U3:T.aU.length≤1000:=by have:=hT.aU;omega
 simp only[rQ,FT,Mm,Mn,Mo,Mp,Mq,Mr,Ms,Mt,Mu,Mv,Mw,yO,yP,yQ,ah,asInt,IT,U];rw[FX];refine aK (fun i=>(day,(i:Int),pI T ((bB T day i).map aY.pv,()))) T.ae.length (fun i hi rec=>?_) (fun rec=>?_) ?_ rfl
 ·have h1:(i:Int)<(T.ae.length:Int):=by omega
  have hx:T.ae[i]?=some T.ae[i]:=AI hi;have Lj:T.ae[i]∈T.ae:=alj hi;have yg:=hT.small _ Lj;have hlen:=zh T U3 day i;have ht:=hT.ae;generalize hxx:T.ae[i]=x at*;have GA:cY T day i=dB T i x day:=by unfold cY;rw[hx]
  rw[qQ,GA];simp only[zi,pI,AT,BY,h1,IT,ab,IS,hx,No,U,pO,lZ,asInt,ah,RH T.dL Qd T.lI hem,asBool];unfold dB;cases hA:te T.dL T.lI x.vU day with
  |false=>simp only[alA,IT,alO,af (show i<9223372036854775807 by omega)]
  |true=>
   simp only[alc,IN,Wi,alp,V4 T.aU hfm,U,asBool];cases hR:pZ T.aU i with
   |false=>have bF:=Js ((bB T day i).map aY.pv++[.agg [cell (bT x i day 0 x.calls).pv 0,cell (bT x i day 0 x.calls).pv 1,cell (bT x i day 0 x.calls).pv 2,cell (bT x i day 0 x.calls).pv 3,cell (bT x i day 0 x.calls).pv 4,cell (bT x i day 0 x.calls).pv 5,cell (bT x i day 0 x.calls).pv 6,cell (bT x i day 0 x.calls).pv 7]]) (by simp;omega);simp only[alA,IT,PX,Uk T i x hx day 0 _ (show x.calls.length≤1000 by omega),U,VA,T0 bF,af (show i<9223372036854775807 by omega),alP,alu,amk];rfl
   |true=>simp only[alc,IN,Wi,alp,aay T.aU U3,U];have:=V5 T hT gT day i x hx rec (instI T.aU i) (fun t ht=>instI_range _ _ t ht) (instI_len _ U3 _) (bB T day i) (by omega);rw[af (show i<9223372036854775807 by omega)]at this;exact this
 ·simp only[zi,pI,AT,BY,alk,Wi]
 ·have:=hT.ae;have:41<rounds:=by decide
  omega
theorem yb{R:Type}(g:Nat→Nat)(hg:∀k,g k≤g (k+1))(h0:g 0≤1024)(r:R):∀n,(List.range n).findSome? (fun k=>if g (k+1)>1024 then some r else none)=if g n>1024 then some r else none
 |0=>by simp;omega
 |n+1=>by rw[amc,an9,yb g hg h0 r n];grind
theorem EK(g:Nat→Nat)(hg:∀k,g k≤g (k+1))(h0:g 0≤1024){R:Type}(r:R)(n:Nat)(h:∀j,j<n→(if g (j+1)>1024 then some r else none)=none):g n≤1024:=by
 cases n with
 |zero=>omega
 |succ n=>simp_all
def qS:PV:=.aG [.rs 8 [],.int .i64 5]
def Pb:Nat→Int
 |0=>0
 |k+1=>k
def EL(x:bn)(day:Int)(s:List Int):Nat→List PV
 |0=>[]
 |k+1=>((bh x.calls (s.getD k 0)).map (wI (fp day))).map aF.pv
theorem afF(vY Un)(day n to V6 nt i:Int)(es:List PV)(c0 c1 c2 c3 c4:PV)(a b c:Int)(id:Bytes)(r:Int)(f cn:Bool)(cs:List PV)(z0 z1 z2 z3 z4 z5 z6 z7 z8 z9:List PV)(y0 y1 y2:Int)(ov:List PV):lh aX vY (day,es,n,n,to,V6,nt,i,c0,c1,c2,c3,c4,a,b,c,id,r,f,cn,cs,z0,z1,z2,z3,z4,z5,z6,z7,z8,z9,y0,y1,y2,ov,()) Un=if decide ((ov.length:Int)>1024)=true then some (.aG [.rs 8 [],.int .i64 5])else vY (to,V6,nt,IntKind.i64.wrap (i+1),z0,z1,z2,z3,z4,z5,z6,z7,z8,z9,y0,y1,y2,ov,()):=by
 have hn:¬decide (n<n)=true:=by simp
 unfold lh;exact acB hn
theorem aaz(vY Un)(day n k to V6 nt i:Int)(es:List PV)(c0 c1 c2 c3 c4:PV)(a b c:Int)(id:Bytes)(r:Int)(f cn:Bool)(cs:List PV)(z0 z1 z2 z3 z4 z5 z6 z7 z8 z9:List PV)(y0 y1 y2:Int)(ov:List PV)(hk:k<n)(p:PV)(hp:pG es k=some p)(t:Int)(ht:cell p 0=.int .i64 t)(fc sc:List PV)(e:Int)(hf:cq [.agg [c0,c1,c2,c3,c4],.int .i64 t]=some (.aG [.rs 5 fc,.int .i64 e]))(hs:gH [.rs 5 fc,.int .i64 (IntKind.i64.wrap (day*86400))]=some (.rs 5 sc))(bF:(ov++[PV.agg [.int .i64 a,.int .i64 b,.int .i64 k,.str id,.int .i64 r,.bool f,.bool cn,.rs 5 sc]]).length*80≤ag∧0<80):lh aX vY (day,es,n,k,to,V6,nt,i,c0,c1,c2,c3,c4,a,b,c,id,r,f,cn,cs,z0,z1,z2,z3,z4,z5,z6,z7,z8,z9,y0,y1,y2,ov,()) Un=if(!decide (((ov++[PV.agg [.int .i64 a,.int .i64 b,.int .i64 k,.str id,.int .i64 r,.bool f,.bool cn,.rs 5 sc]]).length:Int)≤1024))=true then(if decide (((ov++[PV.agg [.int .i64 a,.int .i64 b,.int .i64 k,.str id,.int .i64 r,.bool f,.bool cn,.rs 5 sc]]).length:Int)>1024)=true then some (.aG [.rs 8 [],.int .i64 5])else vY (to,V6,nt,IntKind.i64.wrap (i+1),z0,z1,z2,z3,z4,z5,z6,z7,z8,z9,y0,y1,y2,ov++[PV.agg [.int .i64 a,.int .i64 b,.int .i64 k,.str id,.int .i64 r,.bool f,.bool cn,.rs 5 sc]],()))else Un (day,es,n,IntKind.i64.wrap (k+1),to,V6,nt,i,c0,c1,c2,c3,c4,a,b,k,id,r,f,cn,sc,z0,z1,z2,z3,z4,z5,z6,z7,z8,z9,y0,y1,y2,ov++[PV.agg [.int .i64 a,.int .i64 b,.int .i64 k,.str id,.int .i64 r,.bool f,.bool cn,.rs 5 sc]],()):=by have hkd:decide (k<n)=true:=aon hk;simp only[lh,hkd,IT,hp,U,ht,hf,hs,bR,ah,asInt,aiK,alh,Nat.reduceAdd,adz,aiJ,T0 bF]
set_option maxHeartbeats 1000000 in
theorem RM(T:aj)(hT:pH T)(gT:T.Ok)(to day:Int)(i:Nat)(x:bn)(hx:T.ae[i]?=some x)(vY)(s:List Int)(hs:∀t∈s,0≤t∧t≤172800)(JW:s.length≤172800000)(o:List aY)(ho:o.length≤1024):aX.run (lh aX vY) (day,s.map iv,(s.length:Int),0,to,day,(T.ae.length:Int),(i:Int),cell x.pv 0,cell x.pv 1,cell x.pv 2,cell x.pv 3,cell x.pv 4,(i:Int),day,0,x.id,x.bV,x.free,false,[],pI T (o.map aY.pv,()))=if o.length+s.length>1024 then some qS else vY (to,day,(T.ae.length:Int),IntKind.i64.wrap ((i:Int)+1),pI T ((o++(List.range s.length).map fun(k:Nat)=>bT x i day k (bh x.calls (s.getD k 0))).map aY.pv,())):=by
 have Lj:x∈T.ae:=alf hx;have Rb:=gT.ae.2 x Lj;have yg:=hT.small x Lj;refine(jK (fun k=>(day,s.map iv,(s.length:Int),(k:Int),to,day,(T.ae.length:Int),(i:Int),cell x.pv 0,cell x.pv 1,cell x.pv 2,cell x.pv 3,cell x.pv 4,(i:Int),day,Pb k,x.id,x.bV,x.free,false,EL x day s k,pI T ((o++(List.range k).map fun(k:Nat)=>bT x i day k (bh x.calls (s.getD k 0))).map aY.pv,()))) s.length (fun k=>if(fun j=>o.length+j) (k+1)>1024 then some (some qS)else none) (fin:=vY (to,day,(T.ae.length:Int),IntKind.i64.wrap ((i:Int)+1),pI T ((o++(List.range s.length).map fun(k:Nat)=>bT x i day k (bh x.calls (s.getD k 0))).map aY.pv,()))) (fun k hk Jt rec=>?_) (fun Jt rec=>?_) ?_ ?_).trans ?_
 ·have hle:o.length+k≤1024:=EK (fun j=>o.length+j) (fun k=>by simp) ho (some qS) k Jt;have h1:(k:Int)<(s.length:Int):=by omega
  have ci:∀n:Int,cell (iv n) 0=.int .i64 n:=fun _=>rfl;have hr:=hs s[k] (alj hk);have xJ:=vX x.calls s[k];have Qy:s.getD k 0=s[k]:=Bt s k hk;have afG:oz s[k]:=(dS _).2 (by omega);have pM:(o++(List.range (k+1)).map fun(k:Nat)=>bT x i day k (bh x.calls (s.getD k 0))).map aY.pv=(o++(List.range k).map fun(k:Nat)=>bT x i day k (bh x.calls (s.getD k 0))).map aY.pv++[(bT x i day k (bh x.calls s[k])).pv]:=by simp only[amc,alP,alu,amk,Qy,alJ]
  have hlC:EL x day s (k+1)=((bh x.calls s[k]).map (wI (fp day))).map aF.pv:=by simp only[EL,Qy]
  have hlen:((o++(List.range k).map fun(k:Nat)=>bT x i day k (bh x.calls (s.getD k 0))).map aY.pv++[PV.agg [.int .i64 (i:Int),.int .i64 day,.int .i64 (k:Int),.str x.id,.int .i64 x.bV,.bool x.free,.bool false,.rs 5 (((bh x.calls s[k]).map (wI (IntKind.i64.wrap (day*86400)))).map aF.pv)]]).length=o.length+(k+1):=by rw[aln,BY,aln,BY,amZ];rfl
  have bF:=Js ((o++(List.range k).map fun(k:Nat)=>bT x i day k (bh x.calls (s.getD k 0))).map aY.pv++[PV.agg [.int .i64 (i:Int),.int .i64 day,.int .i64 (k:Int),.str x.id,.int .i64 x.bV,.bool x.free,.bool false,.rs 5 (((bh x.calls s[k]).map (wI (IntKind.i64.wrap (day*86400)))).map aF.pv)]]) (by rw[hlen];omega);rw[pM,hlC];generalize (o++(List.range k).map fun(k:Nat)=>bT x i day k (bh x.calls (s.getD k 0))).map aY.pv=ov at hlen bF;refine(aaz vY rec day s.length k to day T.ae.length i (s.map iv) (cell x.pv 0) (cell x.pv 1) (cell x.pv 2) (cell x.pv 3) (cell x.pv 4) i day (Pb k) x.id x.bV x.free false (EL x day s k) (T.stops.map Stop.pv) (T.ai.map az.pv) (T.dL.map oX.pv) (T.lI.map sN.pv) (T.ae.map bn.pv) (T.aU.map bg.pv) (T.cm.map gw.pv) (T.bL.map gn.pv) (T.paths.map Path.pv) (T.aB.map ba.pv) T.aZ T.within T.cap ov h1 (iv s[k]) (by rw[ab,tg,AI hk];rfl) s[k] rfl _ _ _ (Lw x Rb s[k] afG yg) (zf _ _ (show(bh x.calls s[k]).length≤1000 by omega)) bF).trans ?_;rw[af (show k<9223372036854775807 by omega)];simp only[hlen];by_cases hb:o.length+(k+1)>1024
  ·rw[T0 (show(!decide (((o.length+(k+1):Nat):Int)≤1024))=true by simp;omega),T0 (show decide (((o.length+(k+1):Nat):Int)>1024)=true from aon (by omega)),T0 hb];rfl
  ·rw[acB (show¬(!decide (((o.length+(k+1):Nat):Int)≤1024))=true by simp;omega),acB hb];rfl
 ·have hle:o.length+s.length≤1024:=EK (fun j=>o.length+j) (fun k=>by simp) ho (some qS) s.length Jt;have hlen:((o++(List.range s.length).map fun(k:Nat)=>bT x i day k (bh x.calls (s.getD k 0))).map aY.pv).length=o.length+s.length:=by simp
  refine(afF vY rec day s.length to day T.ae.length i (s.map iv) (cell x.pv 0) (cell x.pv 1) (cell x.pv 2) (cell x.pv 3) (cell x.pv 4) i day (Pb s.length) x.id x.bV x.free false (EL x day s s.length) (T.stops.map Stop.pv) (T.ai.map az.pv) (T.dL.map oX.pv) (T.lI.map sN.pv) (T.ae.map bn.pv) (T.aU.map bg.pv) (T.cm.map gw.pv) (T.bL.map gn.pv) (T.paths.map Path.pv) (T.aB.map ba.pv) T.aZ T.within T.cap _).trans ?_;rw[hlen,acB (show¬decide (((o.length+s.length:Nat):Int)>1024)=true by rw[AT];omega)];rfl
 ·have:172800001<rounds:=by decide
  omega
 ·simp only[List.range_zero,amk,alO,Pb,EL,Int.natCast_zero]
 ·rw[yb (fun j=>o.length+j) (fun k=>by simp) ho];by_cases hb:o.length+s.length>1024
  ·rw[T0 hb,T0 hb];rfl
  ·rw[acB hb,acB hb];rfl
set_option maxHeartbeats 1000000 in
theorem aaA(T:aj)(hT:pH T)(gT:T.Ok)(to day:Int)(Pc)(o:List aY)(ho:o.length≤1024):aX.run (tl aX Pc) (to,day,(T.ae.length:Int),0,pI T (o.map aY.pv,()))=if o.length+(cU T day).length>1024 then some qS else Pc (to,IntKind.i64.wrap (day+1),pI T ((o++cU T day).map aY.pv,())):=by
 have Qd:T.dL.length≤maxLen:=alH hT.dL (by decide);have hem:T.lI.length≤maxLen:=alH hT.lI (by decide);have hfm:T.aU.length≤maxLen:=alH hT.aU (by decide);have U3:T.aU.length≤1000:=by have:=hT.aU;omega
 have ub:∀k,(fun j=>o.length+(bB T day j).length) k≤(fun j=>o.length+(bB T day j).length) (k+1):=fun k=>by simp only[qQ,aln];omega
 have h00:(fun j=>o.length+(bB T day j).length) 0≤1024:=by simpa[bB]using ho
 rw[FX];refine(jK (fun i=>(to,day,(T.ae.length:Int),(i:Int),pI T ((o++bB T day i).map aY.pv,()))) T.ae.length (fun k=>if(fun j=>o.length+(bB T day j).length) (k+1)>1024 then some (some qS)else none) (fin:=Pc (to,IntKind.i64.wrap (day+1),pI T ((o++bB T day T.ae.length).map aY.pv,()))) (fun i hi Jt rec=>?_) (fun Jt rec=>?_) ?_ ?_).trans ?_
 ·have hle:o.length+(bB T day i).length≤1024:=EK _ ub h00 (some qS) i Jt;have h1:(i:Int)<(T.ae.length:Int):=by omega
  have hx:T.ae[i]?=some T.ae[i]:=AI hi;have Lj:T.ae[i]∈T.ae:=alj hi;have yg:=hT.small _ Lj;have ht:=hT.ae;generalize hxx:T.ae[i]=x at*;have GA:cY T day i=dB T i x day:=by unfold cY;rw[hx]
  have PQ:((o++bB T day i).map aY.pv).length=o.length+(bB T day i).length:=by simp
  simp only[qQ,GA];simp only[tl,pI,AT,h1,IT,ab,IS,hx,No,U,pN,rN,pO,uX,lZ,asInt,ah,aT,GQ T.dL Qd T.lI hem,asBool,PQ];unfold dB;cases hA:te T.dL T.lI x.vU day with
  |false=>simp only[alA,IT,alO,alh,am1,af (show i<9223372036854775807 by omega)];rw[acB (show¬((o.length+(bB T day i).length:Nat):Int)>1024 by omega),acB (by omega)];rfl
  |true=>
   simp only[alc,IN,Wi,alp,Ju T.aU hfm,U,asBool];cases hR:pZ T.aU i with
   |false=>
    have hl1:((o++bB T day i).map aY.pv++[PV.agg [.int .i64 (i:Int),.int .i64 day,.int .i64 0,.str x.id,.int .i64 x.bV,.bool x.free,.bool false,.rs 5 ((x.calls.map (wI (IntKind.i64.wrap (day*86400)))).map aF.pv)]]).length=o.length+(bB T day i).length+1:=by rw[aln,BY,aln];rfl
    have bF:=Js ((o++bB T day i).map aY.pv++[PV.agg [.int .i64 (i:Int),.int .i64 day,.int .i64 0,.str x.id,.int .i64 x.bV,.bool x.free,.bool false,.rs 5 ((x.calls.map (wI (IntKind.i64.wrap (day*86400)))).map aF.pv)]]) (by rw[hl1];omega);have pM:(o++(bB T day i++[bT x i day 0 x.calls])).map aY.pv=(o++bB T day i).map aY.pv++[(bT x i day 0 x.calls).pv]:=by simp
    simp only[alA,IT,zf _ _ (show x.calls.length≤1000 by omega),U,T0 bF,af (show i<9223372036854775807 by omega),pM];simp only[hl1,aln,aiK,alh,amq];by_cases hb:o.length+(bB T day i).length+1>1024
    ·rw[T0 (show decide (((o.length+(bB T day i).length+1:Nat):Int)>1024)=true from aon (by omega)),T0 (show o.length+((bB T day i).length+1)>1024 by omega)];rfl
    ·rw[acB (show¬decide (((o.length+(bB T day i).length+1:Nat):Int)>1024)=true by rw[AT];omega),acB (show¬o.length+((bB T day i).length+1)>1024 by omega)];rfl
   |true=>
    simp only[alc,IN,Wi,IT,alp,Lv T.aU U3,ah,U,BY,aln,amZ];have hl2:(o++bB T day i).length≤1024:=by simp;omega
    have:=RM T hT gT to day i x hx rec (instI T.aU i) (fun t ht=>instI_range _ _ t ht) (instI_len _ U3 _) (o++bB T day i) hl2;simp only[pI,pN,rN,pO,uX,lZ,aln]at this;rw[this,af (show i<9223372036854775807 by omega),alJ];by_cases hb:o.length+(bB T day i).length+(instI T.aU i).length>1024
    ·rw[T0 hb,T0 (show o.length+((bB T day i).length+(instI T.aU i).length)>1024 by omega)];rfl
    ·rw[acB hb,acB (show¬o.length+((bB T day i).length+(instI T.aU i).length)>1024 by omega)];rfl
 ·simp only[tl,pI,AT,alk,Wi]
 ·have:=hT.ae;have:41<rounds:=by decide
  omega
 ·simp[bB]
 ·rw[yb _ ub h00];by_cases hb:o.length+(bB T day T.ae.length).length>1024
  ·rw[T0 hb,T0 hb];rfl
  ·rw[acB hb,acB hb];rfl
def FY(l:List aY):PV:=if l.length>1024 then qS else .aG [.rs 8 (l.map aY.pv),.int .i64 0]
theorem V7(T:aj)(hT:pH T)(gT:T.Ok)(day:Int)(n:Nat)(h0:0≤day)(h1:day+n≤100000)(to:Int)(hto:to=day+n-1):vZ [T.pv,.int .i64 day,.int .i64 to]=some (FY (bA T day n)):=by
 simp only[vZ,FL,Mm,Mn,Mo,Mp,Mq,Mr,Ms,Mt,Mu,Mv,Mw,yO,yP,yQ,ah,asInt,IT,U];have ub:∀k,(fun j=>(bA T day j).length) k≤(fun j=>(bA T day j).length) (k+1):=fun k=>by simp only[qR,aln];omega
 have h00:(fun j=>(bA T day j).length) 0≤1024:=by simp[bA]
 refine(jK (fun(k:Nat)=>(to,day+(k:Int),pI T ((bA T day k).map aY.pv,()))) n (fun k=>if(fun j=>(bA T day j).length) (k+1)>1024 then some (some qS)else none) (fin:=some (.aG [.rs 8 ((bA T day n).map aY.pv),.int .i64 0])) (fun k hk Jt rec=>?_) (fun Jt rec=>?_) ?_ ?_).trans ?_
 ·have hle:(bA T day k).length≤1024:=EK _ ub h00 (some qS) k Jt;have hc:day+(k:Int)≤to:=by omega
  have:=aaA T hT gT to (day+k) rec (bA T day k) hle;simp only[pI]at this;simp only[zj,pI,AT,hc,IT,BY,this,qR,aln];rw[aW (show-9223372036854775808≤day+(k:Int)+1 by omega) (by omega),show day+(k:Int)+1=day+((k+1:Nat):Int) by omega];by_cases hb:(bA T day k).length+(cU T (day+k)).length>1024
  ·rw[T0 hb,T0 hb];rfl
  ·rw[acB hb,acB hb];rfl
 ·have hc:¬day+(n:Int)≤to:=by omega
  simp only[zj,pI,AT,hc,Wi]
 ·have:100001<rounds:=by decide
  omega
 ·simp[bA,pI]
 ·rw[yb _ ub h00];unfold FY;by_cases hb:(bA T day n).length>1024
  ·rw[T0 hb,T0 hb];rfl
  ·rw[acB hb,acB hb];rfl
def Pd(T:aj)(k:Nat):Bool:=match T.ae[k]? with|some x=>decide ((x.calls.length:Int)>40)|none=>false
theorem afH(T:aj):∃b,wa [T.pv]=some (.bool b)∧(b=true→pH T):=by
 simp only[wa,FM,Mm,Mn,Mo,Mp,Mq,Mr,Ms,Mt,Mu,Mv,Mw,yO,yP,yQ,ah,asInt,IT,U,aL,BY];split
 ·exact⟨false,rfl,fun h=>by cases h⟩
 ·rename_i h;simp only[aly,AT,anY]at h;obtain⟨⟨⟨⟨⟨⟨⟨⟨⟨h0,h1⟩,h2⟩,h3⟩,h4⟩,h5⟩,h6⟩,h7⟩,h8⟩,h9⟩:=h;refine⟨!(List.range T.ae.length).any (Pd T),?_,fun hb=>⟨by omega,by omega,by omega,by omega,by omega,by omega,fun y hy=>?_⟩⟩
  ·refine(cQ (fun k=>((k:Int),T.stops.map Stop.pv,T.ai.map az.pv,T.dL.map oX.pv,T.lI.map sN.pv,T.ae.map bn.pv,T.aU.map bg.pv,T.cm.map gw.pv,T.bL.map gn.pv,T.paths.map Path.pv,T.aB.map ba.pv,T.aZ,T.within,T.cap,())) T.ae.length (Pd T) (no:=some (.bool false)) (fin:=some (.bool true)) (fun k hk rec=>?_) (fun rec=>?_) ?_ rfl).trans ?_
   ·have h1:(k:Int)<(T.ae.length:Int):=by omega
    simp only[zk,AT,BY,h1,IT,ab,IS,AI hk,No,U,lZ,ah,af (show k<9223372036854775807 by omega),Pd]
   ·simp only[zk,AT,BY,alk,Wi]
   ·have:41<rounds:=by decide
    omega
   ·cases(List.range T.ae.length).any (Pd T)<;>rfl
  ·simp only[alZ,amY,alI]at hb;obtain⟨k,hk,rfl⟩:=List.mem_iff_getElem.1 hy;have:=hb k hk;unfold Pd at this;rw[AI hk]at this;simp at this;omega
def MY(T:aj)(k:Nat):Bool:=match T.aU[k]? with|some f=>dD f&&decide (IntKind.i64.wrap ((IntKind.i64.wrap (f.t1-f.t0)).tdiv f.every)>40)|none=>false
theorem YD(T:aj):∃b,qT [T.pv]=some (.bool b)∧(b=true→pH T):=by
 obtain⟨b,hb,hB⟩:=afH T;simp only[qT,Ba,Mm,Mn,Mo,Mp,Mq,Mr,Ms,Mt,Mu,Mv,Mw,yO,yP,yQ,ah,asInt,asBool,IT,U,PX,hb];cases b with
 |false=>exact⟨false,rfl,fun h=>by cases h⟩
 |true=>
  have hF:=hB rfl;simp only[alc,IN,Wi];refine⟨!(List.range T.aU.length).any (MY T),?_,fun _=>hF⟩;refine(cQ (fun k=>((k:Int),T.stops.map Stop.pv,T.ai.map az.pv,T.dL.map oX.pv,T.lI.map sN.pv,T.ae.map bn.pv,T.aU.map bg.pv,T.cm.map gw.pv,T.bL.map gn.pv,T.paths.map Path.pv,T.aB.map ba.pv,T.aZ,T.within,T.cap,())) T.aU.length (MY T) (no:=some (.bool false)) (fin:=some (.bool true)) (fun k hk rec=>?_) (fun rec=>?_) ?_ rfl).trans ?_
  ·have h1:(k:Int)<(T.aU.length:Int):=by omega
   have hl:=hF.aU;simp only[uY,AT,BY,h1,IT,ab,IS,AI hk,No,U,pe,sO,sP,sQ,zA,ze,asInt,asBool,af (show k<9223372036854775807 by omega),MY];generalize T.aU[k]=f;cases hs:dD f with
   |false=>simp only[cond_false,U,IN,Wi,amS]
   |true=>obtain⟨g1,g2,g3,g4,g5⟩:=(fg f).1 hs;simp only[cond_true,acB (show¬f.every=0 by omega),U,ama]
  ·simp only[uY,AT,BY,alk,Wi]
  ·have:=hF.aU;have:71<rounds:=by decide
   omega
  ·cases(List.range T.aU.length).any (MY T)<;>rfl
def cA(T:aj):Prop:=∀q,q<10→(wb T q).2=0
theorem GG(T:aj):∃p i e,bu ((List.range 10).findSome? (we T)) (some (ow 0 0 0))=some (ow p i e)∧(e=0→cA T):=by
 cases h:(List.range 10).findSome? (we T)with
 |none=>
  refine⟨0,0,0,rfl,fun _ q hq=>?_⟩;have:=amP.1 h q (alI.2 hq);unfold we at this;split at this
  ·assumption
  ·cases this
 |some r=>
  obtain⟨q,hq,hr⟩:=alX h;unfold we at hr;split at hr
  ·cases hr
  ·rename_i cC;simp only[By]at hr;exact⟨_,_,_,hr.symm,fun e=>absurd e cC⟩
def Da(l:List aY)(e:Int):PV:=.aG [.rs 8 (l.map aY.pv),.int .i64 e]
theorem V8(l:List aY):∃m e,FY l=Da m e∧(e=0→m=l∧l.length≤1024)∧(e≠0→m=[]):=by
 unfold FY;by_cases h:l.length>1024
 ·exact⟨[],5,by rw[T0 h];rfl,(fun e=>by cases e),fun _=>rfl⟩
 ·exact⟨l,0,by rw[acB h];rfl,(fun _=>⟨rfl,by omega⟩),fun h=>absurd rfl h⟩
theorem aaB(T:aj)(hT:pH T)(gT:T.Ok)(day to:Int)(n:Nat)(h0:0≤day)(h1:day+n≤100000)(h8:n≤8)(hto:to=day+n-1):aX.run (mz aX) (to,day,pI T ([],()))=some (FY (bA T day n)):=by
 refine aK (fun(k:Nat)=>(to,day+(k:Int),pI T ((bA T day k).map aY.pv,()))) n (fun k hk rec=>?_) (fun rec=>?_) ?_ ?_
 ·have hc:day+(k:Int)≤to:=by omega
  have hl1:=EJ T hT day k;have hl2:=Bu T hT (day+k);have bF:=Js ((bA T day k).map aY.pv++(cU T (day+k)).map aY.pv) (by rw[aln,BY,BY];omega);simp only[pI];simp only[mz,AT,hc,IT,PX,Um T hT gT,U,ah,qR,alP];rw[T0 bF,aW (show-9223372036854775808≤day+(k:Int)+1 by omega) (by omega),show day+(k:Int)+1=day+((k+1:Nat):Int) by omega]
 ·have hc:¬day+(n:Int)≤to:=by omega
  simp only[mz,pI,AT,hc,Wi,BY];unfold FY;by_cases h:(bA T day n).length>1024
  ·rw[T0 h,T0 (by omega)];rfl
  ·rw[acB h,acB (by omega)]
 ·have:9<rounds:=by decide
  omega
 ·simp[bA,pI]
theorem Ou(T:aj)(hT:pH T)(gT:T.Ok)(a b:Int):∃l e,lW [T.pv,.int .i64 a,.int .i64 b]=some (Da l e)∧pk [T.pv,.int .i64 a,.int .i64 b]=some (Da l e)∧(e=0→cA T∧kR a=true∧kR b=true∧a≤b∧b-a<8∧l=bA T a (b-a+1).toNat∧l.length≤1024)∧(e≠0→l=[]):=by
 obtain⟨p,i,e,hw,hv⟩:=GG T;have hp:=IX T gT hT.small;have hr:=Lf T gT hT.small;rw[hw]at hp hr;simp only[lW,vJ,pk,zd,Mm,Mn,Mo,Mp,Mq,Mr,Ms,Mt,Mu,Mv,Mw,yO,yP,yQ,ah,asInt,IT,U,PX,hp,hr,ow,bR,aiK,alh,Nat.reduceAdd,adz,aiJ,dy,O2,vT,asBool,aL];by_cases he:e=0
 ·subst he;simp only[alB,alc,IN,Wi];by_cases hd:(!kR a|| !kR b||decide (b<a))=true
  ·simp only[hd,IT];exact⟨[],11,rfl,rfl,(fun h=>by cases h),fun _=>rfl⟩
  ·simp only[hd,Wi];simp only[aly,alZ,AT,anY,Bool.not_eq_false]at hd;obtain⟨⟨ha,hb⟩,sX⟩:=hd;have hda:=(rH a).1 ha;have hdb:=(rH b).1 hb;rw[aW (show-9223372036854775808≤b-a by omega) (by omega)];by_cases h8:b-a≥8
   ·simp only[h8,alB,IT];exact⟨[],5,rfl,rfl,(fun h=>by cases h),fun _=>rfl⟩
   ·obtain⟨n,hn⟩:∃n:Nat,(b-a+1).toNat=n:=⟨_,rfl⟩;have hdp:=V7 T hT gT a n hda.1 (by omega) b (by omega);have Ai:=aaB T hT gT a b n hda.1 (by omega) (by omega) (by omega);simp only[pI]at Ai;simp only[h8,alw,IN,Wi,hdp,Ai,U];obtain⟨m,e,hme,hm,hm0⟩:=V8 (bA T a n);rw[hme];refine⟨m,e,?_,rfl,fun h=>?_,hm0⟩
    ·simp only[Da,bR,aiK,alh,Nat.reduceAdd,IT,U,adz,aiJ]
    ·obtain⟨h1,h2⟩:=hm h;exact⟨hv rfl,ha,hb,by omega,by omega,by rw[hn,h1],by rw[h1];exact h2⟩
 ·simp only[he,alw,alA,IT];exact⟨[],e,rfl,rfl,(fun h=>absurd h he),fun _=>rfl⟩
theorem Pe(x y:aF):bM [cell x.pv 0,cell x.pv 1,cell x.pv 2,cell x.pv 3,cell x.pv 4] [cell y.pv 0,cell y.pv 1,cell y.pv 2,cell y.pv 3,cell y.pv 4]=decide (x=y):=by obtain⟨a1,a2,a3,a4,a5⟩:=x;obtain⟨b1,b2,b3,b4,b5⟩:=y;simp[cell,aF.pv,PV.cells,bM,Ab.peq];rw[alE];simp[ani]
theorem Jv{a b:List aF}(hl:a.length=b.length):(if(List.range a.length).any (fun k=> !decide (a[k]?=b[k]?))=true then some (PV.bool false)else some (PV.bool true))=some (PV.bool (decide (a=b))):=by
 by_cases h:a=b
 ·subst h;simp
 ·rw[T0]
  ·simp[h]
  ·rw[amx];refine al7 fun hn=>h (alL fun k=>?_);by_cases hk:k<a.length
   ·refine al7 fun he=>hn ⟨k,alI.2 hk,by simp[he]⟩
   ·rw[ams (by omega),ams (by omega)]
theorem RN(a b:List aF)(ha:a.length≤maxLen):j8 [.rs 5 (a.map aF.pv),.rs 5 (b.map aF.pv)]=some (.bool (decide (a=b))):=by
 have hm:=al;simp only[j8,sA,ah,IT,U,BY,dy];by_cases hl:a.length=b.length
 ·rw[acB (by simp[hl])];refine(cQ (fun k=>(a.map aF.pv,b.map aF.pv,(k:Int),())) a.length (fun k=> !decide (a[k]?=b[k]?)) (no:=some (.bool false)) (fin:=some (.bool true)) (fun k hk rec=>?_) (fun rec=>?_) ?_ rfl).trans (Jv hl)
  ·have h1:(k:Int)<(a.length:Int):=by omega
   have hkb:k<b.length:=by omega
   simp only[ng,AT,BY,h1,IT,ab,IS,AI hk,AI hkb,No,U,af (show k<9223372036854775807 by omega),By];rw[T0 ⟨rfl,rfl⟩,Pe]
  ·simp only[ng,AT,BY,alk,Wi]
  ·have:=aq;omega
 ·rw[T0 (by simp;omega)];have:¬a=b:=fun e=>hl (by rw[e]);simp[this]
theorem acu(x y:aY):x=y↔x.bp=y.bp∧x.day=y.day∧x.inst=y.inst∧x.id=y.id∧x.bV=y.bV∧x.free=y.free∧x.wS=y.wS∧x.calls=y.calls:=by cases x;cases y;simp
theorem Pf(x y:aY):(decide (x.bp=y.bp)&&decide (x.day=y.day)&&decide (x.inst=y.inst)&&decide (x.id=y.id)&&decide (x.bV=y.bV)&&decide (x.free=y.free)&&decide (x.wS=y.wS)&&decide (x.calls=y.calls))=decide (x=y):=by rw[alE];simp only[ale,AT,acu,ani]
theorem aaC(x y:aY)(hx:x.calls.length≤maxLen):mA [x.pv,y.pv]=some (.bool (decide (x=y))):=by simp only[mA,xh,VA,Ev,De,J4,Oz,Rg,VB,Rh,Ce,asInt,aT,asBool,ah,IT,U,RN x.calls y.calls hx,bt,cd];rw[Pf]
variable{T:aj}{day:Int}
theorem Jw(hT:pH T){i:Nat}{r:aY}(h:r∈cY T day i):r.calls.length≤40:=by
 unfold cY at h;split at h
 ·rename_i x hx;have yg:=hT.small x (alf hx);unfold dB at h;split at h
  ·cases h
  ·split at h
   ·simp only[ami]at h;subst h;simpa[bT]using yg
   ·obtain⟨k,_,rfl⟩:=alC.1 h;simp only[bT,BY];exact alH (vX _ _) yg
 ·cases h
theorem CC(hT:pH T){r:aY}(h:r∈cU T day):r.calls.length≤40:=by obtain⟨i,_,hi⟩:=alS.1 h;exact Jw hT hi
theorem AM(hT:pH T){n:Nat}{r:aY}(h:r∈bA T day n):r.calls.length≤40:=by obtain⟨i,_,hi⟩:=alS.1 h;exact CC hT hi
theorem aiF(x:bn):PV.agg [cell x.pv 0,cell x.pv 1,cell x.pv 2,cell x.pv 3,cell x.pv 4]=x.pv:=rfl
theorem Hf{d:Int}(h:kR d=true):fp d=d*86400∧0≤fp d∧fp d≤3155673600:=by grind [rH,fp,aW]
theorem jH(f:Nat→Int)(n:Nat)(h:(bJ f n).2=0)(k:Nat)(hk:k<n):f k=0:=by
 unfold bJ at h;cases hf:(List.range n).findSome? (fun k=>if f k=0 then none else some ((k:Int),f k))with
 |none=>simp_all
 |some x=>rw[hf]at h;obtain⟨j,_,hj⟩:=alX hf;grind
theorem GW{c:aF}{p:Option aF}{stops low high:Int}(h:Ej c p stops low high=0):0≤c.stop∧c.stop<stops∧low≤c.arr∧c.arr≤c.dep∧c.dep≤high∧∀q,p=some q→q.dep≤c.arr∧q.stop≠c.stop:=by unfold Ej at h;grind
structure afI(T:aj)(i:Nat)(x:bn):Prop where
 id:x.id∉(T.ae.map bn.id).take i
 two:2≤x.calls.length
 most:x.calls.length≤32
 call:∀(k:Nat)(c:aF),x.calls[k]?=some c→0≤c.stop∧c.stop<(T.stops.length:Int)∧0≤c.arr∧c.arr≤c.dep∧c.dep≤172800
 step:∀(k:Nat)(c d:aF),x.calls[k]?=some c→x.calls[k+1]?=some d→c.dep≤d.arr∧c.stop≠d.stop
variable{T:aj}{x:bn}
theorem kA(hV:cA T){i:Nat}(hx:T.ae[i]?=some x):afI T i x:=by
 have h4:(mf T.ae T.stops.length T.ai.length T.dL.length).2=0:=hV 4 (by omega);unfold mf at h4;split at h4
 ·omega
 ·have hi:i<T.ae.length:=(OF.1 hx).1;have he:=jH _ _ h4 i hi;unfold yM at he;rw[hx]at he;simp only at he;split at he
  ·omega
  ·split at he
   ·omega
   ·rename_i hid;split at he
    ·omega
    ·unfold gf at he;split at he
     ·omega
     ·rename_i hlen;simp only[aly,AT,anY]at hlen;have hc:∀(k:Nat)(c:aF),x.calls[k]?=some c→Ej c (Ek x.calls k) T.stops.length 0 172800=0:=fun k c hc=>by grind [jH,vH]
      refine⟨hid,by omega,by omega,fun k c h=>?_,fun k c d h h'=>?_⟩
      ·have:=GW (hc k c h);omega
      ·have:=(GW (hc (k+1) d h')).2.2.2.2.2 c h;omega
theorem abW(hV:cA T){i j:Nat}{y:bn}(hx:T.ae[i]?=some x)(hy:T.ae[j]?=some y)(h:x.id=y.id):i=j:=by
 have key:∀{i j:Nat}{x y:bn},T.ae[i]?=some x→T.ae[j]?=some y→x.id=y.id→¬i<j:=fun{i j x y}hx hy h St=>by refine(kA hV hy).id ?_;rw[als];refine⟨i,?_⟩;simp_all
 grind
theorem RO(hV:cA T){k:Nat}{f:bg}(hf:T.aU[k]?=some f):0≤f.bp∧f.bp<(T.ae.length:Int)∧dD f=true∧fitsAt T.ae f=true:=by
 have h5:(qU T.aU T.ae).2=0:=hV 5 (by omega);unfold qU at h5;split at h5
 ·omega
 ·have hk:k<T.aU.length:=(OF.1 hf).1;have he:=jH _ _ h5 k hk;unfold wg at he;grind
theorem IL(c:aF)(l:List aF)(s:Int):lH (c::l) s=0↔∀(k:Nat)(x:aF),(c::l)[k]?=some x→0≤x.arr-c.dep+s∧x.arr-c.dep+s≤172800∧0≤x.dep-c.dep+s∧x.dep-c.dep+s≤172800:=by
 show(if(List.range (c::l).length).all (gk (c::l) c.dep s)=true then(0:Int)else 10)=0↔_;have e:(if(List.range (c::l).length).all (gk (c::l) c.dep s)=true then(0:Int)else 10)=0↔(List.range (c::l).length).all (gk (c::l) c.dep s)=true:=by simp
 rw[e,al1];constructor
 ·intro h k x hx;have:=h k (alI.2 (OF.1 hx).1);simp_all[gk,kOk,rO,ale,AT]
 ·intro h k hk;unfold gk;cases hx:(c::l)[k]? with
  |none=>rfl
  |some x=>have:=h k x hx;simp_all[kOk,rO,ale,AT]
theorem Q2(hV:cA T){i:Nat}(hx:T.ae[i]?=some x){s:Int}(hs:s∈instI T.aU i):lH x.calls s=0:=by
 obtain⟨f,hf,hfi,hsf⟩:=(instI_mem _ _ _).1 hs;obtain⟨k,hk⟩:=als.1 hf;obtain⟨_,_,UK,nQ⟩:=RO hV hk;have LX:T.ae[f.bp.toNat]?=some x:=by simp_all
 unfold fitsAt at nQ;rw[LX]at nQ;have ht:=kA hV hx;rw[jJ f UK]at hsf;obtain⟨j,hj,rfl⟩:=alC.1 hsf;have PT:=alI.1 hj;have hsb:=(fg f).1 UK;have hc:=pd f UK;have hle:(j:Int)≤db f-1:=by omega
 have hm:(j:Int)*f.every≤(db f-1)*f.every:=amB hle (by omega);have hm0:0≤(j:Int)*f.every:=anz (by omega) (by omega);have adm:zB f=f.t0+(db f-1)*f.every:=rfl;cases hl:x.calls with
 |nil=>have:=ht.two;simp_all
 |cons c l=>replace nQ:Bv x f=true:=nQ;unfold Bv at nQ;rw[hl]at nQ;simp only[ale,AT]at nQ;grind [lH,zl,zB,IL]
end Go.Ab.Tt
