import Derived.Test.YtmbihgjlollbeaaGreatTtP1
import Derived.Test.YtmbihgjlollbeaaGreatAbLib
namespace Go.Ab.Tt
set_option linter.unusedVariables false
def OD(d:Int):Bool:=decide (0≤d)&&decide (d≤36524)
theorem Dl(d:Int):ez [.int .i64 d]=some (.bool (OD d)):=by simp only[ez,vI,asInt,IS,aa,bE,OD]
set_option maxRecDepth 100000
theorem aid(x:sG):cell x.pv 2=.bool x.added:=rfl
def wkT(c:pL)(w:Int):Bool:=if w=0 then c.w0 else if w=1 then c.w1 else if w=2 then c.w2 else if w=3 then c.w3 else if w=4 then c.w4 else if w=5 then c.w5 else c.w6
def JF(i d:Int)(e:sG):Bool:=decide (e.xo=i)&&decide (e.day=d)
def L8(c:pL)(xs:List sG)(i d:Int):Int:=match xs.find? (JF i d)with
 |some e=>if e.added=true then 2 else 3
 |none=>if(decide (d<c.F9)||decide (d>c.Ga))=true then 5 else if wkT c ((d+5).tmod 7)=true then 1 else 4
def A2(cs:List pL)(xs:List sG)(i d:Int):Int:=if OD d=false then 0 else if i<0 then 0 else match cs[i.toNat]? with
 |some c=>L8 c xs i d
 |none=>0
theorem QT(d:Int)(h:OD d=true):IntKind.i64.wrap (d+5)=d+5∧0≤(d+5).tmod 7∧(d+5).tmod 7<7:=by unfold OD at h;simp only[OF,AT]at h;grind [aY,Int.tmod_eq_emod_of_nonneg]
theorem JG(d:Int)(h:OD d=true):ob [.int .i64 d]=some (.aP [.int .i64 ((d+5).tmod 7),.bool true]):=by obtain⟨h1,_⟩:=QT d h;simp only[ob,vJ,asInt,IS,aa,Dl,asBool,h,aji,cQ,S3,h1]
theorem aaa(c:pL)(w:Int)(h0:0≤w)(h7:w<7)(k:Bool→Option PV):(if au w 7∧0<1 then[cell c.pv 0,cell c.pv 1,cell c.pv 2,cell c.pv 3,cell c.pv 4,cell c.pv 5,cell c.pv 6,cell c.pv 7,cell c.pv 8,cell c.pv 9][1+w.toNat*1]?.bind fun p=>(asBool p).bind k else none)=k (wkT c w):=by
 rw[GW ⟨⟨h0,h7⟩,by omega⟩];have:w=0∨w=1∨w=2∨w=3∨w=4∨w=5∨w=6:=by omega
 rcases this with rfl|rfl|rfl|rfl|rfl|rfl|rfl<;>rfl
theorem OE{A:Type}(p:A→Bool)(g:A→Option PV)(l:List A)(fin:Option PV):ca ((List.range l.length).findSome? fun k=>(l[k]?).bind fun x=>if p x=true then some (g x)else none) fin=match l.find? p with|some x=>g x|none=>fin:=by rw[Cl];cases l.find? p<;>rfl
theorem Dd(cs:List pL)(hc:cs.length≤maxLen)(xs:List sG)(hx:xs.length≤maxLen)(i d:Int):gB [.rs 10 (cs.map pL.pv),.rs 3 (xs.map sG.pv),.int .i64 i,.int .i64 d]=some (.int .i64 (A2 cs xs i d)):=by
 have hm:=aQ;simp only[gB,qi,aw,asInt,IS,aa,bh,Dl,asBool,BY];unfold A2;by_cases hi:i<0
 ·simp_all
 by_cases hn:i≥(cs.length:Int)
 ·simp_all
 simp only[hi,hn,ajz,akM,cond_false,aa];cases hd:OD d with
 |false=>rfl
 |true=>
  obtain⟨n,rfl⟩:∃n:Nat,i=n:=⟨i.toNat,by omega⟩;have bT:n<cs.length:=by omega
  obtain⟨w1,w2,w3⟩:=QT d hd;simp only[Bool.or_self,aji,cQ,S3,aN,IN,cO bT,ajg,aa,ajI,ajk];generalize cs[n]=c;refine(br (fun k=>((n:Int),d,5,xs.map sG.pv,(xs.length:Int),(k:Int),cell c.pv 0,cell c.pv 1,cell c.pv 2,cell c.pv 3,cell c.pv 4,cell c.pv 5,cell c.pv 6,cell c.pv 7,cell c.pv 8,cell c.pv 9,())) xs.length (fun k=>(xs[k]?).bind fun x=>if JF n d x=true then some (some (.int .i64 (if x.added=true then 2 else 3)))else none) (fin:=some (.int .i64 (if(decide (d<c.F9)||decide (d>c.Ga))=true then 5 else if wkT c ((d+5).tmod 7)=true then 1 else 4))) (fun k hk rec=>?_) (fun rec=>?_) ?_ rfl).trans ?_
  ·have h1:(k:Int)<(xs.length:Int):=by omega
   simp only[mH,AT,h1,IS,aN,IN,cO hk,ajg,aa,agu,agv,aid,asInt,asBool,bh,al (show k<9223372036854775807 by omega),pI];unfold JF;generalize xs[k]=x;by_cases e1:x.xo=n<;>by_cases e2:x.day=d<;>simp[e1,e2,ca];cases x.added<;>rfl
  ·have hw:=aaa c ((d+5).tmod 7) w2 w3 (fun b=>if b=true then some (PV.int .i64 1)else some (PV.int .i64 4));simp only[mH,AT,ajG,S3,adn,ado,asInt,IS,aa,JG d hd,dq,ajj,ajs,Nat.reduceAdd,ajf,ajh,asBool,show((5:Int)==3)=false from rfl,cond_false,bh];simp only[adn,ado,asBool]at hw;grind
  ·have:=bu;omega
  ·rw[OE (JF n d) (fun x=>some (.int .i64 (if x.added=true then 2 else 3)))];unfold L8;grind
def AY(cs:List pL)(xs:List sG)(i d:Int):Bool:=decide (A2 cs xs i d=1)||decide (A2 cs xs i d=2)
theorem K4(cs:List pL)(hc:cs.length≤maxLen)(xs:List sG)(hx:xs.length≤maxLen)(i d:Int):j1 [.rs 10 (cs.map pL.pv),.rs 3 (xs.map sG.pv),.int .i64 i,.int .i64 d]=some (.bool (AY cs xs i d)):=by simp only[j1,qj,aw,asInt,IS,aa,Dd cs hc xs hx,bh,jw,AY]
def yb(t:Int)(l:List Int):Nat→Nat
 |0=>0
 |k+1=>if l.getD k 0>t then yb t l k else k+1
def Ao(t:Int)(l:List Int):List Int:=l.take (yb t l l.length)++t::l.drop (yb t l l.length)
theorem JH(t:Int)(l:List Int):∀k,yb t l k≤k
 |0=>ajo _
 |k+1=>by
  unfold yb;split
  ·simp[alJ,JH]
  omega
theorem XK(t:Int)(l:List Int):(Ao t l).length=l.length+1:=by grind [JH,Ao]
theorem XL(t x:Int)(l:List Int):x∈Ao t l↔x=t∨x∈l:=by grind [Ao,yb,List.take_append_drop]
structure Lnk where
 a:Int
 ac:Int
 b:Int
 bc:Int
 stay:Bool
 deriving DecidableEq
def Lnk.pv(x:Lnk):PV:=.agg [.int .i64 x.a,.int .i64 x.ac,.int .i64 x.b,.int .i64 x.bc,.bool x.stay]
def eS(f:bf):List Int:=if eF f=true then(List.range (fH f).toNat).map fun(j:Nat)=>f.t0+(j:Int)*f.every else[]
def instF(l:List Int)(f:bf):List Int:=(eS f).foldl (fun l t=>Ao t l) l
def instI(fs:List bf)(i:Int):List Int:=(fs.filter fun f=>decide (f.bR=i)).foldl instF []
def AZ(l:List aR)(s:Int):List aR:=if qu l s=0 then l.map fun k=>ME k ((l.map aR.dep).headD 0) s else[]
def ec.key(r:ec):Int×Int×Int:=(r.bR,r.day,r.inst)
set_option linter.unusedSimpArgs false
def gC(l:List Int)(d:Int)(k:Nat):List Int:=l.take k++d::l.drop k
theorem Dm(l:List Int)(d:Int)(k:Nat)(h:k≤l.length):(gC l d k).length=l.length+1:=by simp[gC];omega
theorem Dn(l:List Int)(d:Int)(k j:Nat)(h:k≤l.length)(hj:j<k):(gC l d k)[j]?=l[j]?:=by simp_all[gC,aj4,akI]
theorem Gb(l:List Int)(d:Int)(k:Nat)(h:k≤l.length):(gC l d k)[k]?=some d:=by simp_all[gC,ajX,aki]
theorem Dp(l:List Int)(d x:Int)(k:Nat)(h:k≤l.length):(gC l d k).set k x=gC l x k:=by simp_all[gC,List.set_append,aki]
theorem JI(l:List Int)(k:Nat)(h:k<l.length):gC l l[k] (k+1)=gC l l[k] k:=by unfold gC;rw[ajq h,aj8 h,ajD];rfl
theorem QU(t:Int)(l:List Int):∀n k,yb t l n≤k→k<n→l.getD k 0>t
 |0,k,_,h=>absurd h (by omega)
 |n+1,k,h1,h2=>by
  unfold yb at h1;split at h1
  ·rename_i hg;by_cases e:k=n
   ·subst e;omega
   ·exact QU t l n k h1 (by omega)
  omega
theorem Ie(t:Int)(l:List Int):∀n,yb t l n=0∨∃k,yb t l n=k+1∧¬l.getD k 0>t
 |0=>.inl rfl
 |n+1=>by
  unfold yb;split
  ·exact Ie t l n
  simp_all
def OG(t:Int)(l:List Int)(k:Nat):Int:=if k=l.length then t else l.getD k 0
theorem QV(l:List Int)(k:Nat):(l.map iv)[k]?=l[k]?.map iv:=IN ..
theorem QW(l:List Int)(k:Nat)(x:Int):(l.map iv).set k (.int .i64 x)=(l.set k x).map iv:=by rw[List.map_set];rfl
theorem Ig(k:Nat)(h:k+1≤9223372036854775807):IntKind.i64.wrap (((k+1:Nat):Int)-1)=(k:Int):=by grind [aY]
theorem XM(l:List Int)(k:Nat)(h:k<l.length):l.getD k 0=l[k]:=by simp_all
theorem OH(Bp)(t tr len i:Int)(es:List PV)(c0 c1 c2:PV)(ev:Int)(l:List Int)(hl:l.length<4611686018427387904):bn.run (dM Bp) (t,(l.length:Int),t,tr,es,len,i,c0,c1,c2,.int .i64 ev,(l++[t]).map iv,())=Bp (IntKind.i64.wrap (t+ev),tr,es,len,i,c0,c1,c2,.int .i64 ev,(Ao t l).map iv,()):=by
 have hp:=JH t l l.length;refine aZ (fun j=>(t,((l.length-j:Nat):Int),t,tr,es,len,i,c0,c1,c2,.int .i64 ev,(gC l (OG t l (l.length-j)) (l.length-j)).map iv,())) (l.length-yb t l l.length) (fun j hj rec=>?_) (fun rec=>?_) ?_ ?_
 ·obtain⟨k,hk⟩:∃k,l.length-j=k+1:=⟨l.length-j-1,by omega⟩;have Nk:k<l.length:=by omega
  have hgt:l[k]>t:=by have:=QU t l l.length k (by omega) Nk;simp_all
  have hlen:=Dm l (OG t l (k+1)) (k+1) (by omega);have adp:=Dn l (OG t l (k+1)) (k+1) k (by omega) (by omega);have UX:=Gb l (OG t l (k+1)) (k+1) (by omega);have hd:OG t l k=l[k]:=by unfold OG;grind
  have sL:=Dp l (OG t l (k+1)) l[k] (k+1) (by omega);rw[JI l k Nk]at sL;have e2:l.length-(j+1)=k:=by omega
  have r1:au (k:Int) (l.length+1):=kC _ _ (by omega);have r2:au ((k+1:Nat):Int) (l.length+1):=kC _ _ (by omega);simp only[hk,e2];simp only[dM,show decide (((k+1:Nat):Int)>0)=true by simp,cond_true,Ig k (by omega),BY,hlen,GW r1,GW r2,ajk,QV,adp,cO Nk,ajg,aa,iv,cell,PV.cells,ajf,asInt,IS,show decide (l[k]>t)=true by simpa using hgt,UX];rw[QW,sL,hd]
 ·have e0:l.length-(l.length-yb t l l.length)=yb t l l.length:=by omega
  simp only[e0];generalize hpp:yb t l l.length=p at*;have hlen:=Dm l (OG t l p) p hp;have UX:=Gb l (OG t l p) p hp;have sL:=Dp l (OG t l p) t p hp;have r1:au (p:Int) (l.length+1):=kC _ _ (by omega);have KU:(Ao t l).map iv=((gC l (OG t l p) p).map iv).set p (.int .i64 t):=by grind [QW,Ao,gC]
  rw[KU];have stop:yb t l l.length=0∨∃k,yb t l l.length=k+1∧¬l.getD k 0>t:=Ie t l l.length;rw[hpp]at stop;rcases stop with h0|⟨k,hk,hng⟩
  ·subst h0;have r1':au (0:Int) (l.length+1):=r1;have aie:(List.map iv (gC l (OG t l 0) 0))[(0:Int).toNat]?=some (iv (OG t l 0)):=by rfl
   simp only[dM,Int.natCast_zero,show decide ((0:Int)>0)=false from rfl,cond_false,aa,cQ,S3,BY,hlen,GW r1',aie,asInt,IS];rfl
  ·subst hk;have Nk:k<l.length:=by omega
   rw[XM l k Nk]at hng;have adp:=Dn l (OG t l (k+1)) (k+1) k (by omega) (by omega);have r0:au (k:Int) (l.length+1):=kC _ _ (by omega);simp only[dM,show decide (((k+1:Nat):Int)>0)=true by simp,cond_true,Ig k (by omega),BY,hlen,GW r0,GW r1,ajk,QV,adp,cO Nk,ajg,aa,iv,cell,PV.cells,ajf,asInt,IS,show decide (l[k]>t)=false by simpa using hng,cQ,S3,UX]
 ·grind [bu,maxLen,decide]
 ·simp[gC,OG]
theorem lU(x:bf)(h:eF x=true):eS x=(List.range (fH x).toNat).map fun(j:Nat)=>x.t0+(j:Int)*x.every:=by unfold eS;rw[GW h]
theorem Gc(x:bf)(h:eF x=false):eS x=[]:=by simp_all[eS,No]
theorem L9(x:bf):(eS x).length≤172800:=by
 unfold eS;split
 ·simp_all[ub]
 simp
theorem Ma(s:List Int):∀l:List Int,(s.foldl (fun l t=>Ao t l) l).length=l.length+s.length:=by
 induction s with
 |nil=>simp
 |cons t s ih=>grind [XK,List.length_cons]
theorem instF_len(l:List Int)(f:bf):(instF l f).length≤l.length+172800:=by simp[instF,Ma,L9]
theorem SZ(fs:List bf):∀l:List Int,(fs.foldl instF l).length≤l.length+172800*fs.length:=by
 induction fs with
 |nil=>simp
 |cons f fs ih=>grind [instF,instF_len,List.length_cons]
theorem Mb(S1)(x:bf)(h:eF x=true)(tr len i:Int)(es:List PV)(l:List Int)(hl:l.length≤1000000000):bn.run (fy bn S1) (x.t0,tr,es,len,i,.int .i64 x.bR,.int .i64 x.t0,.int .i64 x.t1,.int .i64 x.every,l.map iv,())=S1 (tr,es,len,IntKind.i64.wrap (i+1),(instF l x).map iv,()):=by
 have hc:=ub x h;have Tu:=JJ x h;obtain⟨h1,h2,h3,h4,h5⟩:=(iL x).1 h;have uf:∀k,k≤(fH x).toNat→((eS x).take k).length=k:=fun k hk=>by rw[lU x h];simp;omega
 refine aZ (fun k=>(x.t0+(k:Int)*x.every,tr,es,len,i,.int .i64 x.bR,.int .i64 x.t0,.int .i64 x.t1,.int .i64 x.every,(((eS x).take k).foldl (fun l t=>Ao t l) l).map iv,())) (fH x).toNat (fun k hk rec=>?_) (fun rec=>?_) ?_ ?_
 ·have Rz:(k:Int)≤fH x-1:=by omega
  have CZ:(k:Int)*x.every≤(fH x-1)*x.every:=akL Rz (by omega);have GC:0≤(k:Int)*x.every:=alG (by omega) (by omega);have bT:x.t0+(k:Int)*x.every<x.t1:=by omega
  have aje:((k+1:Nat):Int)*x.every=(k:Int)*x.every+x.every:=by grind
  have hw:IntKind.i64.wrap (x.t0+(k:Int)*x.every+x.every)=x.t0+((k+1:Nat):Int)*x.every:=by grind [aY]
  have RB:=Ma ((eS x).take k) l;rw[uf k (by omega)]at RB;have hs:(eS x).take (k+1)=(eS x).take k++[x.t0+(k:Int)*x.every]:=by rw[lU x h,←ak9,←ak9,List.take_range,List.take_range,aki (by omega),aki (by omega),akU,aku];rfl
  have P4:((eS x).take (k+1)).foldl (fun l t=>Ao t l) l=Ao (x.t0+(k:Int)*x.every) (((eS x).take k).foldl (fun l t=>Ao t l) l):=by simp_all
  generalize ((eS x).take k).foldl (fun l t=>Ao t l) l=lk at RB P4;have fg:(lk.map iv++[PV.int .i64 (x.t0+(k:Int)*x.every)]).length*8≤ah∧0<8:=by grind [decide,List.length_append,List.length_map,List.length_cons,List.length_nil,ah]
  simp only[fy,asInt,IS,aa,AT,bT,GW fg,BY];rw[show lk.map iv++[PV.int .i64 (x.t0+(k:Int)*x.every)]=(lk++[x.t0+(k:Int)*x.every]).map iv by simp[iv],OH _ _ _ _ _ _ _ _ _ _ lk (by omega),hw,P4]
 ·have he:(((fH x).toNat:Nat):Int)*x.every=fH x*x.every:=by grind
  have bT:¬x.t0+(((fH x).toNat:Nat):Int)*x.every<x.t1:=by omega
  have wa:(eS x).take (fH x).toNat=eS x:=ajM (by rw[lU x h];simp);simp only[fy,asInt,IS,aa,AT,No bT,wa];rfl
 ·grind [rounds,decide]
 simp
theorem CA{A:Type}(p:A→Bool)(l:List A)(k:Nat)(h:k<l.length):(l.take (k+1)).filter p=(l.take k).filter p++if p l[k]=true then[l[k]]else[]:=by rw[ajq h,List.filter_append];grind
def instK(fs:List bf)(i:Int)(k:Nat):List Int:=((fs.take k).filter fun f=>decide (f.bR=i)).foldl instF []
theorem instK_len(fs:List bf)(i:Int)(k:Nat)(hf:fs.length≤1000):(instK fs i k).length≤172800000:=by grind [instK,SZ,decide,Nat.le_trans,List.length_filter_le,List.length_nil]
theorem instK_succ(fs:List bf)(i:Int)(k:Nat)(h:k<fs.length):instK fs i (k+1)=if fs[k].bR=i then instF (instK fs i k) fs[k]else instK fs i k:=by grind [instK,CA]
theorem instF_un(l:List Int)(f:bf)(h:eF f=false):instF l f=l:=by unfold instF;rw[Gc f h];rfl
theorem instI_K(fs:List bf)(i:Int):instI fs i=instK fs i fs.length:=by unfold instI instK;simp
theorem R0(fs:List bf)(hf:fs.length≤1000)(i:Int):gg [.rs 4 (fs.map bf.pv),.int .i64 i]=some (.rs 1 ((instI fs i).map iv)):=by
 simp only[gg,lK,aw,asInt,IS,aa,BY];rw[instI_K];refine aZ (fun k=>(i,fs.map bf.pv,(fs.length:Int),(k:Int),(instK fs i k).map iv,())) fs.length (fun k hk rec=>?_) (fun rec=>?_) ?_ ?_
 ·have h1:(k:Int)<(fs.length:Int):=by omega
  have hl:=instK_len fs i k hf;rw[instK_succ fs i k hk];simp only[jo,AT,h1,IS,aN,IN,cO hk,ajg,aa,zy,BC,BD,BE,asInt,pI,Mc,Dq,asBool,al (show k<9223372036854775807 by omega)];by_cases e:fs[k].bR=i
  ·simp only[e,ajx,aji,cQ,S3,IS];cases hs:eF fs[k]with
   |false=>simp_all[ajC,IS,instF_un]
   |true=>simp only[aji,cQ,S3];grind [Mb,bf.pv,instK,al]
  simp_all
 ·simp[jo,AT,ajG,S3]
 ·grind [rounds,decide]
 rfl
theorem R1(x:bL)(hx:x.Ok)(start:Int)(hs:iQ start)(S2:x.calls.length≤40):dd [x.pv,.int .i64 start]=some (.aP [.rs 5 ((AZ x.calls start).map aR.pv),.int .i64 (qu x.calls start)]):=by
 have hm:=aQ;have BF:∀y∈x.calls,y.Ok:=hx.calls.2;simp only[dd,me,QX,Gd,Ge,Gf,Ih,Dr,bG,aw,asInt,asBool,IS,aa,BY];generalize x.calls=l at S2 BF⊢;cases l with
 |nil=>rfl
 |cons c l=>
  generalize hl:c::l=cs at S2 BF⊢;have Kv:cs[0]?=some c:=by rw[←hl];rfl
  have ff:0<cs.length:=by rw[←hl];simp
  have hcE:qu cs start=if(List.range cs.length).all (oc cs c.dep start)=true then 0 else 10:=by rw[←hl];rfl
  have XN:c.Ok:=BF c (by rw[←hl];simp);have cJ:((cs.length:Int)==0)=false:=by grind
  have Zn:fM (cs.map aR.pv) 0=some c.pv:=by have:=aN (cs.map aR.pv) 0;simp_all
  have fg:0≤(cs.length:Int)∧(cs.length:Int)≤(cs.length:Int)∧(cs.length:Int).toNat*32≤ah∧0<32∧0<5:=by grind [decide,ah]
  rw[cJ,Zn];simp only[cQ,S3,aa,Di,asInt,IS,GW fg,aj1,ajk,ajM (amh (BY _)),BY];rw[alT (by simp),akl,BY];have OI:0≤(cs.length:Int)∧(cs.length:Int)≤(cs.length:Int)∧cs.length*32≤ah∧0<32∧0<5:=fg;have XO:bn.run dw (start,c.dep,(cs.length:Int),0,cs.map aR.pv,())=ca ((List.range cs.length).findSome? fun k=>if oc cs c.dep start k=true then none else some (some (.aP [.rs 5 [],.int .i64 10]))) (some (.aP [.rs 5 (BG cs (fun x=>ME x c.dep start) cs.length),.int .i64 0])):=by
   refine br (fun k=>(start,c.dep,(cs.length:Int),(k:Int),BG cs (fun x=>ME x c.dep start) k,())) cs.length _ (fun k hk rec=>?_) (fun rec=>?_) ?_ ?_
   ·have h1:(k:Int)<(cs.length:Int):=by omega
    have Aq:cs[k].Ok:=BF _ (ajm hk);obtain⟨n1,e1,q1⟩:=BH cs[k].arr c.dep start Aq.arr XN.dep hs;obtain⟨n2,e2,q2⟩:=BH cs[k].dep c.dep start Aq.dep XN.dep hs;have hlen:=Md cs (fun x=>ME x c.dep start) k (by omega);have eX:=Me cs (fun x=>ME x c.dep start) k hk;have sL:=Mf cs (fun x=>ME x c.dep start) k hk;have hr:au (k:Int) cs.length:=kC k _ hk;have aif:oc cs c.dep start k=(Ap cs[k].arr c.dep start&&Ap cs[k].dep c.dep start):=by unfold oc;rw[cO hk];rfl
    have IM:∀X,((BG cs (fun x=>ME x c.dep start) k).set k X)[k]?=some X:=fun X=>by simp_all
    simp only[dw,AT,h1,IS,hlen,GW hr,ajk,eX,aa,FW,LB,Di,XP,XQ,asInt,e1,e2,dq,asBool,ajj,ajs,Nat.reduceAdd,ajf,ajh,akX,IM,Mg,over,alY,al (show k<9223372036854775807 by omega)];grind [Ap,start,ca,ME,aR.pv]
   ·simp[dw,AT,ajG,S3]
   ·grind [rounds,decide]
   rfl
  have hF:AZ cs start=if(List.range cs.length).all (oc cs c.dep start)=true then cs.map (fun x=>ME x c.dep start)else[]:=by unfold AZ;rw[hcE,show(cs.map aR.dep).headD 0=c.dep by rw[←hl];rfl];simp
  rw[GW OI,XO,ye,hcE,hF];by_cases wa:(List.range cs.length).all (oc cs c.dep start)=true
  ·simp_all[GW,ca,BG,ak8,alf]
  simp_all[No,ca]
theorem GU(x:bf)(t:Int)(h:t∈eS x):0≤t∧t≤172800:=by
 cases hs:eF x with
 |false=>rw[Gc x hs]at h;cases h
 |true=>
  rw[lU x hs]at h;obtain⟨j,hj,rfl⟩:=ajy.1 h;have hj:=aj5.1 hj;have Tu:=JJ x hs;have hc:=ub x hs;obtain⟨h1,h2,h3,h4,h5⟩:=(iL x).1 hs;have Rz:(j:Int)≤fH x-1:=by omega
  have CZ:(j:Int)*x.every≤(fH x-1)*x.every:=akL Rz (by omega);have GC:0≤(j:Int)*x.every:=alG (by omega) (by omega);omega
theorem JK(t:Int)(s:List Int):∀l:List Int,t∈s.foldl (fun l t=>Ao t l) l↔t∈l∨t∈s:=by
 induction s with
 |nil=>simp
 |cons a s ih=>grind [XL]
theorem GV(t:Int)(fs:List bf):∀l:List Int,t∈fs.foldl instF l↔t∈l∨∃f∈fs,t∈eS f:=by
 induction fs with
 |nil=>simp
 |cons f fs ih=>intro l;rw[alp,ih];unfold instF;rw[JK];grind
theorem instI_mem(fs:List bf)(i t:Int):t∈instI fs i↔∃f∈fs,f.bR=i∧t∈eS f:=by unfold instI;rw[GV];grind
theorem instI_range(fs:List bf)(i t:Int)(h:t∈instI fs i):0≤t∧t≤172800:=by obtain⟨f,_,_,h3⟩:=(instI_mem fs i t).1 h;exact GU f t h3
def PK(T:ak)(k:Nat):Bool:=match T.ag[k]? with|some x=>decide ((x.calls.length:Int)>40)|none=>false
def tC(T:ak):Prop:=∀q,q<10→(BI T q).2=0
theorem K8(T:ak):∃p i e,ca ((List.range 10).findSome? (s8 T)) (some (vr 0 0 0))=some (vr p i e)∧(e=0→tC T):=by
 cases h:(List.range 10).findSome? (s8 T)with
 |none=>
  refine⟨0,0,0,rfl,fun _ q hq=>?_⟩;have:=List.findSome?_eq_none_iff.1 h q (aj5.2 hq);unfold s8 at this;split at this
  ·assumption
  ·cases this
 |some r=>
  obtain⟨q,hq,hr⟩:=ajS h;unfold s8 at hr;split at hr
  ·cases hr
  ·rename_i cJ;simp only[cN]at hr;exact⟨_,_,_,hr.symm,fun e=>absurd e cJ⟩
theorem CB(f:Nat→Int)(n:Nat)(h:(cW f n).2=0)(k:Nat)(hk:k<n):f k=0:=by
 unfold cW at h;cases hf:(List.range n).findSome? (fun k=>if f k=0 then none else some ((k:Int),f k))with
 |none=>simp_all
 |some x=>rw[hf]at h;obtain⟨j,_,hj⟩:=ajS hf;grind
theorem Dt{c:aR}{p:Option aR}{stops low high:Int}(h:HO c p stops low high=0):0≤c.stop∧c.stop<stops∧low≤c.arr∧c.arr≤c.dep∧c.dep≤high∧∀q,p=some q→q.dep≤c.arr∧q.stop≠c.stop:=by unfold HO at h;grind
structure adq(T:ak)(i:Nat)(x:bL):Prop where
 id:x.id∉(T.ag.map bL.id).take i
 two:2≤x.calls.length
 most:x.calls.length≤32
 call:∀(k:Nat)(c:aR),x.calls[k]?=some c→0≤c.stop∧c.stop<(T.stops.length:Int)∧0≤c.arr∧c.arr≤c.dep∧c.dep≤172800
 step:∀(k:Nat)(c d:aR),x.calls[k]?=some c→x.calls[k+1]?=some d→c.dep≤d.arr∧c.stop≠d.stop
variable{T:ak}{x:bL}
theorem Gg(hV:tC T){i:Nat}(hx:T.ag[i]?=some x):adq T i x:=by
 have h4:(vM T.ag T.stops.length T.ar.length T.eM.length).2=0:=hV 4 (by omega);unfold vM at h4;split at h4
 ·omega
 ·have hi:i<T.ag.length:=(By.1 hx).1;have he:=CB _ _ h4 i hi;unfold JL at he;rw[hx]at he;simp only at he;split at he
  ·omega
  ·split at he
   ·omega
   ·rename_i hid;split at he
    ·omega
    ·unfold jT at he;split at he
     ·omega
     ·rename_i hlen;simp only[ajt,AT,ami]at hlen;have hc:∀(k:Nat)(c:aR),x.calls[k]?=some c→HO c (P8 x.calls k) T.stops.length 0 172800=0:=fun k c hc=>by grind [CB,vv]
      refine⟨hid,by omega,by omega,fun k c h=>?_,fun k c d h h'=>?_⟩
      ·have:=Dt (hc k c h);omega
      ·have:=(Dt (hc (k+1) d h')).2.2.2.2.2 c h;omega
theorem Zm(hV:tC T){i j:Nat}{y:bL}(hx:T.ag[i]?=some x)(hy:T.ag[j]?=some y)(h:x.id=y.id):i=j:=by
 have key:∀{i j:Nat}{x y:bL},T.ag[i]?=some x→T.ag[j]?=some y→x.id=y.id→¬i<j:=fun{i j x y}hx hy h To=>by refine(Gg hV hy).id ?_;rw[ajH];refine⟨i,?_⟩;simp_all
 grind
theorem OJ(hV:tC T){k:Nat}{f:bf}(hf:T.cj[k]?=some f):0≤f.bR∧f.bR<(T.ag.length:Int)∧eF f=true∧fitsAt T.ag f=true:=by
 have h5:(vN T.cj T.ag).2=0:=hV 5 (by omega);unfold vN at h5;split at h5
 ·omega
 ·have hk:k<T.cj.length:=(By.1 hf).1;have he:=CB _ _ h5 k hk;unfold yT at he;grind
theorem OK(c:aR)(l:List aR)(s:Int):qu (c::l) s=0↔∀(k:Nat)(x:aR),(c::l)[k]?=some x→0≤x.arr-c.dep+s∧x.arr-c.dep+s≤172800∧0≤x.dep-c.dep+s∧x.dep-c.dep+s≤172800:=by
 show(if(List.range (c::l).length).all (oc (c::l) c.dep s)=true then(0:Int)else 10)=0↔_;have e:(if(List.range (c::l).length).all (oc (c::l) c.dep s)=true then(0:Int)else 10)=0↔(List.range (c::l).length).all (oc (c::l) c.dep s)=true:=by simp
 rw[e,ajO];constructor
 ·intro h k x hx;have:=h k (aj5.2 (By.1 hx).1);simp_all[oc,kOk,Ap,OF,AT]
 ·intro h k hk;unfold oc;cases hx:(c::l)[k]? with
  |none=>rfl
  |some x=>have:=h k x hx;simp_all[kOk,Ap,OF,AT]
theorem Ny(hV:tC T){i:Nat}(hx:T.ag[i]?=some x){s:Int}(hs:s∈instI T.cj i):qu x.calls s=0:=by
 obtain⟨f,hf,hfi,hsf⟩:=(instI_mem _ _ _).1 hs;obtain⟨k,hk⟩:=ajH.1 hf;obtain⟨_,_,Rq,mo⟩:=OJ hV hk;have IG:T.ag[f.bR.toNat]?=some x:=by simp_all
 unfold fitsAt at mo;rw[IG]at mo;have ht:=Gg hV hx;rw[lU f Rq]at hsf;obtain⟨j,hj,rfl⟩:=ajy.1 hsf;have Yl:=aj5.1 hj;have hsb:=(iL f).1 Rq;have hc:=ub f Rq;have hle:(j:Int)≤fH f-1:=by omega
 have hm:(j:Int)*f.every≤(fH f-1)*f.every:=akL hle (by omega);have hm0:0≤(j:Int)*f.every:=alG (by omega) (by omega);have aa5:zz f=f.t0+(fH f-1)*f.every:=rfl;cases hl:x.calls with
 |nil=>have:=ht.two;simp_all
 |cons c l=>replace mo:Gh x f=true:=mo;unfold Gh at mo;rw[hl]at mo;simp only[OF,AT]at mo;grind [qu,vO,zz,OK]
end Go.Ab.Tt
