import Derived.Test.YtoaknfoobjnjgaaGreatTtP1
import Derived.Test.YtoaknfoobjnjgaaGreatAbLib
set_option linter.all false
namespace Go.Ab.Tt
def rz(d:Int):Bool:=decide (0≤d)&&decide (d≤36524)
theorem uV(d:Int):cg [.int .i64 d]=some (.bool (rz d)):=by simp only[cg,ud,asInt,IS,U,bL,rz]
theorem ry(d:Int):rz d=true↔0≤d∧d≤36524:=by simp[rz]
set_option maxRecDepth 100000
theorem aml(x:yE):cell x.pv 2=.bool x.added:=rfl
def wkT(c:wb)(w:Int):Bool:=if w=0 then c.w0 else if w=1 then c.w1 else if w=2 then c.w2 else if w=3 then c.w3 else if w=4 then c.w4 else if w=5 then c.w5 else c.w6
def MO(i d:Int)(e:yE):Bool:=decide (e.AX=i)&&decide (e.day=d)
def PB(c:wb)(xs:List yE)(i d:Int):Int:=match xs.find? (MO i d)with
 |some e=>if e.added=true then 2 else 3
 |none=>if(decide (d<c.IF)||decide (d>c.IG))=true then 5 else if wkT c ((d+5).tmod 7)=true then 1 else 4
def Gk(cs:List wb)(xs:List yE)(i d:Int):Int:=if rz d=false then 0 else if i<0 then 0 else match cs[i.toNat]? with
 |some c=>PB c xs i d
 |none=>0
theorem Uf(d:Int)(h:rz d=true):IntKind.i64.wrap (d+5)=d+5∧0≤(d+5).tmod 7∧(d+5).tmod 7<7:=by unfold rz at h;simp only[OF,te]at h;grind [bp,Int.tmod_eq_emod_of_nonneg]
theorem MP(d:Int)(h:rz d=true):pM [.int .i64 d]=some (.aV [.int .i64 ((d+5).tmod 7),.bool true]):=by obtain⟨h1,_⟩:=Uf d h;simp only[pM,xS,asInt,IS,U,uV,asBool,h,ag0,tc,PS,h1]
theorem adO(c:wb)(w:Int)(h0:0≤w)(h7:w<7)(k:Bool→Option PV):(if aC w 7∧0<1 then[cell c.pv 0,cell c.pv 1,cell c.pv 2,cell c.pv 3,cell c.pv 4,cell c.pv 5,cell c.pv 6,cell c.pv 7,cell c.pv 8,cell c.pv 9][1+w.toNat*1]?.bind fun p=>(asBool p).bind k else none)=k (wkT c w):=by
 rw[BY ⟨⟨h0,h7⟩,by omega⟩];have:w=0∨w=1∨w=2∨w=3∨w=4∨w=5∨w=6:=by omega
 rcases this with rfl|rfl|rfl|rfl|rfl|rfl|rfl<;>rfl
theorem R2{A:Type}(p:A→Bool)(g:A→Option PV)(l:List A)(fin:Option PV):bP ((List.range l.length).findSome? fun k=>(l[k]?).bind fun x=>if p x=true then some (g x)else none) fin=match l.find? p with|some x=>g x|none=>fin:=by rw[KY];cases l.find? p<;>rfl
theorem PC(cs:List wb)(hc:cs.length≤maxLen)(xs:List yE)(hx:xs.length≤maxLen)(i d:Int):kF [.rs 10 (cs.map wb.pv),.rs 3 (xs.map yE.pv),.int .i64 i,.int .i64 d]=some (.int .i64 (Gk cs xs i d)):=by
 have hm:=aL;simp only[kF,rT,ak,asInt,IS,U,aT,uV,asBool,By];unfold Gk;by_cases hi:i<0
 ·simp_all
 by_cases hn:i≥(cs.length:Int)
 ·simp_all
 simp only[hi,hn,anJ,aoL,cond_false,U];cases hd:rz d with
 |false=>rfl
 |true=>
  obtain⟨n,rfl⟩:∃n:Nat,i=n:=⟨i.toNat,by omega⟩;have bK:n<cs.length:=by omega
  obtain⟨w1,w2,w3⟩:=Uf d hd;simp only[Bool.or_self,ag0,tc,PS,af,AT,ta bK,No,U,anE,agY];generalize cs[n]=c;refine(aO (fun k=>((n:Int),d,5,xs.map yE.pv,(xs.length:Int),(k:Int),cell c.pv 0,cell c.pv 1,cell c.pv 2,cell c.pv 3,cell c.pv 4,cell c.pv 5,cell c.pv 6,cell c.pv 7,cell c.pv 8,cell c.pv 9,())) xs.length (fun k=>(xs[k]?).bind fun x=>if MO n d x=true then some (some (.int .i64 (if x.added=true then 2 else 3)))else none) (fin:=some (.int .i64 (if(decide (d<c.IF)||decide (d>c.IG))=true then 5 else if wkT c ((d+5).tmod 7)=true then 1 else 4))) (fun k hk rec=>?_) (fun rec=>?_) ?_ rfl).trans ?_
  ·have h1:(k:Int)<(xs.length:Int):=by omega
   simp only[nE,te,h1,IS,af,AT,ta hk,No,U,ake,akf,aml,asInt,asBool,aT,ah (show k<9223372036854775807 by omega),gd];unfold MO;generalize xs[k]=x;by_cases e1:x.AX=n<;>by_cases e2:x.day=d<;>simp[e1,e2,bP];cases x.added<;>rfl
  ·have hw:=adO c ((d+5).tmod 7) w2 w3 (fun b=>if b=true then some (PV.int .i64 1)else some (PV.int .i64 4));simp only[nE,te,anN,PS,agR,agS,asInt,IS,U,MP d hd,cz,alx,anx,Nat.reduceAdd,aki,amr,asBool,show((5:Int)==3)=false from rfl,cond_false,aT];simp only[agR,agS,asBool]at hw;grind
  ·have:=aN;omega
  ·rw[R2 (MO n d) (fun x=>some (.int .i64 (if x.added=true then 2 else 3)))];unfold PB;grind
def Dq(cs:List wb)(xs:List yE)(i d:Int):Bool:=decide (Gk cs xs i d=1)||decide (Gk cs xs i d=2)
theorem FH(cs:List wb)(hc:cs.length≤maxLen)(xs:List yE)(hx:xs.length≤maxLen)(i d:Int):gZ [.rs 10 (cs.map wb.pv),.rs 3 (xs.map yE.pv),.int .i64 i,.int .i64 d]=some (.bool (Dq cs xs i d)):=by simp only[gZ,rU,ak,asInt,IS,U,PC cs hc xs hx,aT,dY,Dq]
def zW(t:Int)(l:List Int):Nat→Nat
 |0=>0
 |k+1=>if l.getD k 0>t then zW t l k else k+1
def Cp(t:Int)(l:List Int):List Int:=l.take (zW t l l.length)++t::l.drop (zW t l l.length)
theorem MQ(t:Int)(l:List Int):∀k,zW t l k≤k
 |0=>anz _
 |k+1=>by
  unfold zW;split
  ·simp[Nat.le_succ_of_le,MQ]
  omega
theorem abK(t:Int)(l:List Int):(Cp t l).length=l.length+1:=by grind [MQ,Cp]
theorem abL(t x:Int)(l:List Int):x∈Cp t l↔x=t∨x∈l:=by grind [Cp,zW,List.take_append_drop]
def B2(by':Int)(k:ai):ai:={k with arr:=IntKind.i64.wrap (k.arr+by'),dep:=IntKind.i64.wrap (k.dep+by')}
def jM(day:Int):Int:=IntKind.i64.wrap (day*86400)
def fi(x:bY)(i day k:Int)(cs:List ai):aX:=⟨i,day,k,x.id,x.aY,x.free,false,cs.map (B2 (jM day))⟩
def fx(f:bC):List Int:=if fG f=true then(List.range (ir f).toNat).map fun(j:Nat)=>f.t0+(j:Int)*f.every else[]
def instF(l:List Int)(f:bC):List Int:=(fx f).foldl (fun l t=>Cp t l) l
def instI(fs:List bC)(i:Int):List Int:=(fs.filter fun f=>decide (f.aZ=i)).foldl instF []
def cd(l:List ai)(s:Int):List ai:=if se l s=0 then l.map fun k=>Ni k ((l.map ai.dep).headD 0) s else[]
def eL(T:ao)(i:Nat)(x:bY)(day:Int):List aX:=
 if Dq T.gR T.ru x.AX day=false then[]else
 if B5 T.bm i=false then[fi x i day 0 x.calls]else
 (List.range (instI T.bm i).length).map fun(k:Nat)=>fi x i day k (cd x.calls ((instI T.bm i).getD k 0))
def eT(T:ao)(day:Int)(i:Nat):List aX:=match T.aj[i]? with
 |some x=>eL T i x day
 |none=>[]
def gv(T:ao)(day:Int):List aX:=(List.range T.aj.length).flatMap (eT T day)
def bU(T:ao)(day:Int)(n:Nat):List aX:=(List.range n).flatMap fun(d:Nat)=>gv T (day+d)
variable{T:ao}{day:Int}{r:aX}
theorem MR{i:Nat}{x:bY}(h:r∈eL T i x day):∃(k:Nat)(cs:List ai),r=fi x i day k cs:=by
 unfold eL at h;split at h
 ·cases h
 ·split at h
  ·exact⟨0,_,by simpa using h⟩
  grind
theorem at_mem{i:Nat}(h:r∈eT T day i):∃(x:bY)(k:Nat)(cs:List ai),T.aj[i]?=some x∧r=fi x i day k cs:=by grind [eT,MR]
def aX.key(r:aX):Int×Int×Int:=(r.aZ,r.day,r.inst)
theorem Jt(T:ao)(i:Nat)(x:bY)(day:Int):(eL T i x day).Pairwise fun r s=>r.inst≠s.inst:=by
 unfold eL;split
 ·simp
 grind [List.Pairwise.imp_of_mem,List.nodup_range,fi]
theorem adP(T:ao)(day:Int)(i:Nat):(eT T day i).Pairwise fun r s=>r.inst≠s.inst:=by
 unfold eT;split
 ·exact Jt ..
 simp
theorem MS(T:ao)(day:Int):(gv T day).Pairwise fun r s=>r.key≠s.key:=by unfold gv;rw[aoD];refine⟨fun i _=>(adP T day i).imp fun h e=>h (congrArg (fun k=>k.2.2) e),?_⟩;refine aom (R:=fun a b=>a≠b) (fun{a b}_ _ h r hr s hs e=>?_) apC;obtain⟨x,k,cs,_,rfl⟩:=at_mem hr;obtain⟨y,k',I6,_,rfl⟩:=at_mem hs;grind [aX.key,fi,Prod.mk.injEq]
theorem zX(h:r∈gv T day):r.day=day:=by obtain⟨i,_,hr⟩:=an3.1 h;obtain⟨x,k,cs,_,rfl⟩:=at_mem hr;rfl
theorem Bj(T:ao)(day:Int)(n:Nat):(bU T day n).Pairwise fun r s=>r.key≠s.key:=by unfold bU;rw[aoD];refine⟨fun d _=>MS T _,?_⟩;refine aom (R:=fun a b=>a≠b) (fun{a b}_ _ h r hr s hs e=>?_) apC;have h1:=zX hr;have h2:=zX hs;have:r.day=s.day:=congrArg (fun k=>k.2.1) e;omega
theorem Gd:r∈gv T day↔∃(i:Nat)(x:bY),T.aj[i]?=some x∧r.aZ=i∧r∈eL T i x day:=by
 unfold gv;rw[an3];constructor
 ·rintro⟨i,hi,hr⟩;obtain⟨x,k,cs,hx,e⟩:=at_mem hr;unfold eT at hr;rw[hx]at hr;exact⟨i,x,hx,by rw[e];rfl,hr⟩
 ·rintro⟨i,x,hx,_,hr⟩;refine⟨i,an0.2 (IN.1 hx).1,?_⟩;simp_all[eT]
def hU(l:List Int)(d:Int)(k:Nat):List Int:=l.take k++d::l.drop k
theorem FI(l:List Int)(d:Int)(k:Nat)(h:k≤l.length):(hU l d k).length=l.length+1:=by simp[hU];omega
theorem FJ(l:List Int)(d:Int)(k j:Nat)(h:k≤l.length)(hj:j<k):(hU l d k)[j]?=l[j]?:=by simp_all[hU,aoz,aoO]
theorem IH(l:List Int)(d:Int)(k:Nat)(h:k≤l.length):(hU l d k)[k]?=some d:=by simp_all[hU,aov,aoM]
theorem FK(l:List Int)(d x:Int)(k:Nat)(h:k≤l.length):(hU l d k).set k x=hU l x k:=by simp_all[hU,List.set_append,aoM]
theorem MT(l:List Int)(k:Nat)(h:k<l.length):hU l l[k] (k+1)=hU l l[k] k:=by unfold hU;rw[anw h,aoj h,an1];rfl
theorem Ug(t:Int)(l:List Int):∀n k,zW t l n≤k→k<n→l.getD k 0>t
 |0,k,_,h=>absurd h (by omega)
 |n+1,k,h1,h2=>by
  unfold zW at h1;split at h1
  ·rename_i hg;by_cases e:k=n
   ·subst e;omega
   ·exact Ug t l n k h1 (by omega)
  omega
theorem KZ(t:Int)(l:List Int):∀n,zW t l n=0∨∃k,zW t l n=k+1∧¬l.getD k 0>t
 |0=>.inl rfl
 |n+1=>by
  unfold zW;split
  ·exact KZ t l n
  simp_all
def R3(t:Int)(l:List Int)(k:Nat):Int:=if k=l.length then t else l.getD k 0
theorem Gl(l:List Int)(k:Nat):(l.map iv)[k]?=l[k]?.map iv:=AT ..
theorem Uh(l:List Int)(k:Nat)(x:Int):(l.map iv).set k (.int .i64 x)=(l.set k x).map iv:=by rw[apq];rfl
theorem K0(k:Nat)(h:k+1≤9223372036854775807):IntKind.i64.wrap (((k+1:Nat):Int)-1)=(k:Int):=by grind [bp]
theorem II(l:List Int)(k:Nat)(h:k<l.length):l.getD k 0=l[k]:=by simp_all
theorem R4(Ui)(t tr len i:Int)(es:List PV)(c0 c1 c2:PV)(ev:Int)(l:List Int)(hl:l.length<4611686018427387904):bd.run (ee Ui) (t,(l.length:Int),t,tr,es,len,i,c0,c1,c2,.int .i64 ev,(l++[t]).map iv,())=Ui (IntKind.i64.wrap (t+ev),tr,es,len,i,c0,c1,c2,.int .i64 ev,(Cp t l).map iv,()):=by
 have hp:=MQ t l l.length;refine bh (fun j=>(t,((l.length-j:Nat):Int),t,tr,es,len,i,c0,c1,c2,.int .i64 ev,(hU l (R3 t l (l.length-j)) (l.length-j)).map iv,())) (l.length-zW t l l.length) (fun j hj rec=>?_) (fun rec=>?_) ?_ ?_
 ·obtain⟨k,hk⟩:∃k,l.length-j=k+1:=⟨l.length-j-1,by omega⟩;have kh:k<l.length:=by omega
  have hgt:l[k]>t:=by have:=Ug t l l.length k (by omega) kh;simp_all
  have hlen:=FI l (R3 t l (k+1)) (k+1) (by omega);have abd:=FJ l (R3 t l (k+1)) (k+1) k (by omega) (by omega);have Qk:=IH l (R3 t l (k+1)) (k+1) (by omega);have hd:R3 t l k=l[k]:=by unfold R3;grind
  have uy:=FK l (R3 t l (k+1)) l[k] (k+1) (by omega);rw[MT l k kh]at uy;have e2:l.length-(j+1)=k:=by omega
  have r1:aC (k:Int) (l.length+1):=k8 _ _ (by omega);have r2:aC ((k+1:Nat):Int) (l.length+1):=k8 _ _ (by omega);simp only[hk,e2];simp only[ee,show decide (((k+1:Nat):Int)>0)=true by simp,cond_true,K0 k (by omega),By,hlen,BY r1,BY r2,agY,Gl,abd,ta kh,No,U,iv,cell,PV.cells,aki,asInt,IS,show decide (l[k]>t)=true by simpa using hgt,Qk];rw[Uh,uy,hd]
 ·have e0:l.length-(l.length-zW t l l.length)=zW t l l.length:=by omega
  simp only[e0];generalize hpp:zW t l l.length=p at*;have hlen:=FI l (R3 t l p) p hp;have Qk:=IH l (R3 t l p) p hp;have uy:=FK l (R3 t l p) t p hp;have r1:aC (p:Int) (l.length+1):=k8 _ _ (by omega);have Ej:(Cp t l).map iv=((hU l (R3 t l p) p).map iv).set p (.int .i64 t):=by grind [Uh,Cp,hU]
  rw[Ej];have stop:zW t l l.length=0∨∃k,zW t l l.length=k+1∧¬l.getD k 0>t:=KZ t l l.length;rw[hpp]at stop;rcases stop with h0|⟨k,hk,hng⟩
  ·subst h0;have r1':aC (0:Int) (l.length+1):=r1;have amm:(List.map iv (hU l (R3 t l 0) 0))[(0:Int).toNat]?=some (iv (R3 t l 0)):=by rfl
   simp only[ee,Int.natCast_zero,show decide ((0:Int)>0)=false from rfl,cond_false,U,tc,PS,By,hlen,BY r1',amm,asInt,IS];rfl
  ·subst hk;have kh:k<l.length:=by omega
   rw[II l k kh]at hng;have abd:=FJ l (R3 t l (k+1)) (k+1) k (by omega) (by omega);have r0:aC (k:Int) (l.length+1):=k8 _ _ (by omega);simp only[ee,show decide (((k+1:Nat):Int)>0)=true by simp,cond_true,K0 k (by omega),By,hlen,BY r0,BY r1,agY,Gl,abd,ta kh,No,U,iv,cell,PV.cells,aki,asInt,IS,show decide (l[k]>t)=false by simpa using hng,tc,PS,Qk]
 ·grind [aN,maxLen,decide]
 ·simp[hU,R3]
theorem mr(x:bC)(h:fG x=true):fx x=(List.range (ir x).toNat).map fun(j:Nat)=>x.t0+(j:Int)*x.every:=by unfold fx;rw[BY h]
theorem IJ(x:bC)(h:fG x=false):fx x=[]:=by simp_all[fx,IT]
theorem PD(x:bC):(fx x).length≤172800:=by
 unfold fx;split
 ·simp_all[xY]
 simp
theorem PE(s:List Int):∀l:List Int,(s.foldl (fun l t=>Cp t l) l).length=l.length+s.length:=by
 induction s with
 |nil=>simp
 |cons t s ih=>grind [abK,List.length_cons]
theorem instF_len(l:List Int)(f:bC):(instF l f).length≤l.length+172800:=by simp[instF,PE,PD]
theorem Wq(fs:List bC):∀l:List Int,(fs.foldl instF l).length≤l.length+172800*fs.length:=by
 induction fs with
 |nil=>simp
 |cons f fs ih=>grind [instF,instF_len,List.length_cons]
theorem PF(Wr)(x:bC)(h:fG x=true)(tr len i:Int)(es:List PV)(l:List Int)(hl:l.length≤1000000000):bd.run (fQ bd Wr) (x.t0,tr,es,len,i,.int .i64 x.aZ,.int .i64 x.t0,.int .i64 x.t1,.int .i64 x.every,l.map iv,())=Wr (tr,es,len,IntKind.i64.wrap (i+1),(instF l x).map iv,()):=by
 have hc:=xY x h;have Oh:=MU x h;obtain⟨h1,h2,h3,h4,h5⟩:=(jl x).1 h;have gw:∀k,k≤(ir x).toNat→((fx x).take k).length=k:=fun k hk=>by rw[mr x h];simp;omega
 refine bh (fun k=>(x.t0+(k:Int)*x.every,tr,es,len,i,.int .i64 x.aZ,.int .i64 x.t0,.int .i64 x.t1,.int .i64 x.every,(((fx x).take k).foldl (fun l t=>Cp t l) l).map iv,())) (ir x).toNat (fun k hk rec=>?_) (fun rec=>?_) ?_ ?_
 ·have NS:(k:Int)≤ir x-1:=by omega
  have uI:(k:Int)*x.every≤(ir x-1)*x.every:=ao9 NS (by omega);have G2:0≤(k:Int)*x.every:=aqb (by omega) (by omega);have bK:x.t0+(k:Int)*x.every<x.t1:=by omega
  have anr:((k+1:Nat):Int)*x.every=(k:Int)*x.every+x.every:=by grind
  have hw:IntKind.i64.wrap (x.t0+(k:Int)*x.every+x.every)=x.t0+((k+1:Nat):Int)*x.every:=by grind [bp]
  have QQ:=PE ((fx x).take k) l;rw[gw k (by omega)]at QQ;have hs:(fx x).take (k+1)=(fx x).take k++[x.t0+(k:Int)*x.every]:=by rw[mr x h,←aps,←aps,List.take_range,List.take_range,aoM (by omega),aoM (by omega),aot,anU];rfl
  have Bn:((fx x).take (k+1)).foldl (fun l t=>Cp t l) l=Cp (x.t0+(k:Int)*x.every) (((fx x).take k).foldl (fun l t=>Cp t l) l):=by simp_all
  generalize ((fx x).take k).foldl (fun l t=>Cp t l) l=lk at QQ Bn;have cr:(lk.map iv++[PV.int .i64 (x.t0+(k:Int)*x.every)]).length*8≤aa∧0<8:=by grind [decide,List.length_append,List.length_map,List.length_cons,List.length_nil,aa]
  simp only[fQ,asInt,IS,U,te,bK,BY cr,By];rw[show lk.map iv++[PV.int .i64 (x.t0+(k:Int)*x.every)]=(lk++[x.t0+(k:Int)*x.every]).map iv by simp[iv],R4 _ _ _ _ _ _ _ _ _ _ lk (by omega),hw,Bn]
 ·have he:(((ir x).toNat:Nat):Int)*x.every=ir x*x.every:=by grind
  have bK:¬x.t0+(((ir x).toNat:Nat):Int)*x.every<x.t1:=by omega
  have uz:(fx x).take (ir x).toNat=fx x:=anZ (by rw[mr x h];simp);simp only[fQ,asInt,IS,U,te,IT bK,uz];rfl
 ·grind [rounds,decide]
 simp
theorem EH{A:Type}(p:A→Bool)(l:List A)(k:Nat)(h:k<l.length):(l.take (k+1)).filter p=(l.take k).filter p++if p l[k]=true then[l[k]]else[]:=by rw[anw h,aoG];grind
def instK(fs:List bC)(i:Int)(k:Nat):List Int:=((fs.take k).filter fun f=>decide (f.aZ=i)).foldl instF []
theorem instK_len(fs:List bC)(i:Int)(k:Nat)(hf:fs.length≤1000):(instK fs i k).length≤172800000:=by grind [instK,Wq,decide,Nat.le_trans,List.length_filter_le,List.length_nil]
theorem instK_succ(fs:List bC)(i:Int)(k:Nat)(h:k<fs.length):instK fs i (k+1)=if fs[k].aZ=i then instF (instK fs i k) fs[k]else instK fs i k:=by grind [instK,EH]
theorem instF_un(l:List Int)(f:bC)(h:fG f=false):instF l f=l:=by unfold instF;rw[IJ f h];rfl
theorem instI_K(fs:List bC)(i:Int):instI fs i=instK fs i fs.length:=by unfold instI instK;simp
theorem K1(fs:List bC)(hf:fs.length≤1000)(i:Int):eN [.rs 4 (fs.map bC.pv),.int .i64 i]=some (.rs 1 ((instI fs i).map iv)):=by
 simp only[eN,l9,ak,asInt,IS,U,By];rw[instI_K];refine bh (fun k=>(i,fs.map bC.pv,(fs.length:Int),(k:Int),(instK fs i k).map iv,())) fs.length (fun k hk rec=>?_) (fun rec=>?_) ?_ ?_
 ·have h1:(k:Int)<(fs.length:Int):=by omega
  have hl:=instK_len fs i k hf;rw[instK_succ fs i k hk];simp only[jP,te,h1,IS,af,AT,ta hk,No,U,Bo,Dr,Dt,Du,asInt,gd,K2,FL,asBool,ah (show k<9223372036854775807 by omega)];by_cases e:fs[k].aZ=i
  ·simp only[e,anR,ag0,tc,PS,IS];cases hs:fG fs[k]with
   |false=>simp_all[anM,IS,instF_un]
   |true=>simp only[ag0,tc,PS];grind [PF,bC.pv,instK,ah]
  simp_all
 ·simp[jP,te,anN,PS]
 ·grind [rounds,decide]
 rfl
theorem K3(x:bY)(hx:x.Ok)(start:Int)(hs:mc start)(MV:x.calls.length≤40):cw [x.pv,.int .i64 start]=some (.aV [.rs 5 ((cd x.calls start).map ai.pv),.int .i64 (se x.calls start)]):=by
 have hm:=aL;have Dv:∀y∈x.calls,y.Ok:=hx.calls.2;simp only[cw,mM,Uj,Bp,Bq,Br,Dw,yA,bt,ak,asInt,asBool,IS,U,By];generalize x.calls=l at MV Dv⊢;cases l with
 |nil=>rfl
 |cons c l=>
  generalize hl:c::l=cs at MV Dv⊢;have hc0:cs[0]?=some c:=by rw[←hl];rfl
  have eO:0<cs.length:=by rw[←hl];simp
  have hcE:se cs start=if(List.range cs.length).all (pN cs c.dep start)=true then 0 else 10:=by rw[←hl];rfl
  have abM:c.Ok:=Dv c (by rw[←hl];simp);have cy:((cs.length:Int)==0)=false:=by grind
  have hix:yB (cs.map ai.pv) 0=some c.pv:=by have:=af (cs.map ai.pv) 0;simp_all
  have cr:0≤(cs.length:Int)∧(cs.length:Int)≤(cs.length:Int)∧(cs.length:Int).toNat*32≤aa∧0<32∧0<5:=by grind [decide,aa]
  rw[cy,hix];simp only[tc,PS,U,uW,asInt,IS,BY cr,aoc,agY,anZ (aqT (By _)),By];rw[aqs (by simp),aof,By];have R5:0≤(cs.length:Int)∧(cs.length:Int)≤(cs.length:Int)∧cs.length*32≤aa∧0<32∧0<5:=cr;have abN:bd.run dM (start,c.dep,(cs.length:Int),0,cs.map ai.pv,())=bP ((List.range cs.length).findSome? fun k=>if pN cs c.dep start k=true then none else some (some (.aV [.rs 5 [],.int .i64 10]))) (some (.aV [.rs 5 (Dx cs (fun x=>Ni x c.dep start) cs.length),.int .i64 0])):=by
   refine aO (fun k=>(start,c.dep,(cs.length:Int),(k:Int),Dx cs (fun x=>Ni x c.dep start) k,())) cs.length _ (fun k hk rec=>?_) (fun rec=>?_) ?_ ?_
   ·have h1:(k:Int)<(cs.length:Int):=by omega
    have yJ:cs[k].Ok:=Dv _ (agZ hk);obtain⟨n1,e1,q1⟩:=Dy cs[k].arr c.dep start yJ.arr abM.dep hs;obtain⟨n2,e2,q2⟩:=Dy cs[k].dep c.dep start yJ.dep abM.dep hs;have hlen:=PG cs (fun x=>Ni x c.dep start) k (by omega);have eE:=PH cs (fun x=>Ni x c.dep start) k hk;have uy:=PI cs (fun x=>Ni x c.dep start) k hk;have hr:aC (k:Int) cs.length:=k8 k _ hk;have amn:pN cs c.dep start k=(Cq cs[k].arr c.dep start&&Cq cs[k].dep c.dep start):=by unfold pN;rw[ta hk];rfl
    have Lz:∀X,((Dx cs (fun x=>Ni x c.dep start) k).set k X)[k]?=some X:=fun X=>by simp_all
    simp only[dM,te,h1,IS,hlen,BY hr,agY,eE,U,zu,zw,uW,Uk,Ul,asInt,e1,e2,cz,asBool,alx,anx,Nat.reduceAdd,aki,amr,aoA,Lz,PJ,over,aoS,ah (show k<9223372036854775807 by omega)];grind [Cq,start,bP,Ni,ai.pv]
   ·simp[dM,te,anN,PS]
   ·grind [rounds,decide]
   rfl
  have hF:cd cs start=if(List.range cs.length).all (pN cs c.dep start)=true then cs.map (fun x=>Ni x c.dep start)else[]:=by unfold cd;rw[hcE,show(cs.map ai.dep).headD 0=c.dep by rw[←hl];rfl];simp
  rw[BY R5,abN,zY,hcE,hF];by_cases uz:(List.range cs.length).all (pN cs c.dep start)=true
  ·simp_all[BY,bP,Dx,ao8,apN]
  simp_all[IT,bP]
def Gm{X:Type}(T:ao)(x:X):=(T.stops.map Stop.pv,T.ae.map az.pv,T.gR.map wb.pv,T.ru.map yE.pv,T.aj.map bY.pv,T.bm.map bC.pv,T.dn.map kN.pv,T.cH.map jT.pv,T.paths.map Path.pv,T.av.map aS.pv,T.aQ,T.within,T.cap,x)
structure vA(T:ao):Prop where
 aj:T.aj.length≤40
 bm:T.bm.length≤70
 gR:T.gR.length≤70
 ru:T.ru.length≤70
 dn:T.dn.length≤140
 cH:T.cH.length≤140
 small:Small T
theorem xZ(l:List ai)(n:Int)(hl:l.length≤1000):hZ [.rs 5 (l.map ai.pv),.int .i64 n]=some (.rs 5 ((l.map (B2 n)).map ai.pv)):=by
 simp only[hZ,Cg,ak,asInt,IS,U,By];refine bh (fun k=>(n,l.map ai.pv,(l.length:Int),(k:Int),((l.take k).map (B2 n)).map ai.pv,())) l.length (fun k hk rec=>?_) (fun rec=>?_) ?_ rfl
 ·have h1:(k:Int)<(l.length:Int):=by omega
  have cr:∀X:PV,((((l.take k).map (B2 n)).map ai.pv)++[X]).length*32≤aa∧0<32:=fun X=>by refine⟨?_,by omega⟩;grind [List.length_append,List.length_map,List.length_take,List.length_cons,List.length_nil,aa]
  simp only[vX,te,h1,IS,af,AT,ta hk,No,U,zu,zw,uW,Uk,Ul,asInt,BY (cr _),ah (show k<9223372036854775807 by omega)];rw[anw hk,anU,anU];rfl
 ·simp[vX,te,anN,PS,aoe]
 grind [rounds,decide]
theorem Ju(x:bC)(t:Int)(h:t∈fx x):0≤t∧t≤172800:=by
 cases hs:fG x with
 |false=>rw[IJ x hs]at h;cases h
 |true=>
  rw[mr x hs]at h;obtain⟨j,hj,rfl⟩:=anG.1 h;have hj:=an0.1 hj;have Oh:=MU x hs;have hc:=xY x hs;obtain⟨h1,h2,h3,h4,h5⟩:=(jl x).1 hs;have NS:(j:Int)≤ir x-1:=by omega
  have uI:(j:Int)*x.every≤(ir x-1)*x.every:=ao9 NS (by omega);have G2:0≤(j:Int)*x.every:=aqb (by omega) (by omega);omega
theorem MW(t:Int)(s:List Int):∀l:List Int,t∈s.foldl (fun l t=>Cp t l) l↔t∈l∨t∈s:=by
 induction s with
 |nil=>simp
 |cons a s ih=>grind [abL]
theorem Jv(t:Int)(fs:List bC):∀l:List Int,t∈fs.foldl instF l↔t∈l∨∃f∈fs,t∈fx f:=by
 induction fs with
 |nil=>simp
 |cons f fs ih=>grind [instF,MW]
theorem instI_mem(fs:List bC)(i t:Int):t∈instI fs i↔∃f∈fs,f.aZ=i∧t∈fx f:=by grind [instI,Jv]
theorem instI_range(fs:List bC)(i t:Int)(h:t∈instI fs i):0≤t∧t≤172800:=by obtain⟨f,_,_,h3⟩:=(instI_mem fs i t).1 h;exact Ju f t h3
theorem instI_len(fs:List bC)(hf:fs.length≤1000)(i:Int):(instI fs i).length≤172800000:=by simp_all[instI_K,instK_len]
theorem zZ(l:List ai)(s:Int):(cd l s).length≤l.length:=by unfold cd;split<;>simp
def bJ(T:ao)(day:Int)(k:Nat):List aX:=(List.range k).flatMap (eT T day)
theorem Bs(T:ao)(day:Int)(k:Nat):bJ T day (k+1)=bJ T day k++eT T day k:=by simp[bJ,aot,apc]
theorem Ws(T:ao)(day:Int):gv T day=bJ T day T.aj.length:=rfl
theorem Bt(T:ao)(day:Int)(n:Nat):bU T day (n+1)=bU T day n++gv T (day+n):=by simp[bU,aot,apc]
theorem abO(l:List PV)(h:l.length≤1000000000000):l.length*80≤aa∧0<80:=⟨by unfold aa;omega,by omega⟩
theorem wV{R:Type}(g:Nat→Nat)(hg:∀k,g k≤g (k+1))(h0:g 0≤1024)(r:R):∀n,(List.range n).findSome? (fun k=>if g (k+1)>1024 then some r else none)=if g n>1024 then some r else none
 |0=>by simp;omega
 |n+1=>by rw[aot,aqu,wV g hg h0 r n];grind
theorem Dz(g:Nat→Nat)(hg:∀k,g k≤g (k+1))(h0:g 0≤1024){R:Type}(r:R)(n:Nat)(h:∀j,j<n→(if g (j+1)>1024 then some r else none)=none):g n≤1024:=by
 cases n with
 |zero=>omega
 |succ n=>simp_all
def qV:PV:=.aV [.rs 8 [],.int .i64 5]
def PK:Nat→Int
 |0=>0
 |k+1=>k
def DA(x:bY)(day:Int)(s:List Int):Nat→List PV
 |0=>[]
 |k+1=>((cd x.calls (s.getD k 0)).map (B2 (jM day))).map ai.pv
theorem agT(vc dt)(day n to Wt nt i:Int)(es:List PV)(c0 c1 c2 c3 c4:PV)(a b c:Int)(id:Bytes)(r:Int)(f cn:Bool)(cs:List PV)(z0 z1 z2 z3 z4 z5 z6 z7 z8 z9:List PV)(y0 y1 y2:Int)(ov:List PV):lM bd vc (day,es,n,n,to,Wt,nt,i,c0,c1,c2,c3,c4,a,b,c,id,r,f,cn,cs,z0,z1,z2,z3,z4,z5,z6,z7,z8,z9,y0,y1,y2,ov,()) dt=if decide ((ov.length:Int)>1024)=true then some (.aV [.rs 8 [],.int .i64 5])else vc (to,Wt,nt,IntKind.i64.wrap (i+1),z0,z1,z2,z3,z4,z5,z6,z7,z8,z9,y0,y1,y2,ov,()):=by
 have hn:¬decide (n<n)=true:=by simp
 simp[lM,IT]
theorem abP(vc dt)(day n k to Wt nt i:Int)(es:List PV)(c0 c1 c2 c3 c4:PV)(a b c:Int)(id:Bytes)(r:Int)(f cn:Bool)(cs:List PV)(z0 z1 z2 z3 z4 z5 z6 z7 z8 z9:List PV)(y0 y1 y2:Int)(ov:List PV)(hk:k<n)(p:PV)(hp:yB es k=some p)(t:Int)(ht:cell p 0=.int .i64 t)(fc sc:List PV)(e:Int)(hf:cw [.agg [c0,c1,c2,c3,c4],.int .i64 t]=some (.aV [.rs 5 fc,.int .i64 e]))(hs:hZ [.rs 5 fc,.int .i64 (IntKind.i64.wrap (day*86400))]=some (.rs 5 sc))(cr:(ov++[PV.agg [.int .i64 a,.int .i64 b,.int .i64 k,.str id,.int .i64 r,.bool f,.bool cn,.rs 5 sc]]).length*80≤aa∧0<80):lM bd vc (day,es,n,k,to,Wt,nt,i,c0,c1,c2,c3,c4,a,b,c,id,r,f,cn,cs,z0,z1,z2,z3,z4,z5,z6,z7,z8,z9,y0,y1,y2,ov,()) dt=if(!decide (((ov++[PV.agg [.int .i64 a,.int .i64 b,.int .i64 k,.str id,.int .i64 r,.bool f,.bool cn,.rs 5 sc]]).length:Int)≤1024))=true then(if decide (((ov++[PV.agg [.int .i64 a,.int .i64 b,.int .i64 k,.str id,.int .i64 r,.bool f,.bool cn,.rs 5 sc]]).length:Int)>1024)=true then some (.aV [.rs 8 [],.int .i64 5])else vc (to,Wt,nt,IntKind.i64.wrap (i+1),z0,z1,z2,z3,z4,z5,z6,z7,z8,z9,y0,y1,y2,ov++[PV.agg [.int .i64 a,.int .i64 b,.int .i64 k,.str id,.int .i64 r,.bool f,.bool cn,.rs 5 sc]],()))else dt (day,es,n,IntKind.i64.wrap (k+1),to,Wt,nt,i,c0,c1,c2,c3,c4,a,b,k,id,r,f,cn,sc,z0,z1,z2,z3,z4,z5,z6,z7,z8,z9,y0,y1,y2,ov++[PV.agg [.int .i64 a,.int .i64 b,.int .i64 k,.str id,.int .i64 r,.bool f,.bool cn,.rs 5 sc]],()):=by have hkd:decide (k<n)=true:=aoR hk;simp only[lM,hkd,IS,hp,U,ht,hf,hs,cz,ak,asInt,alx,anx,Nat.reduceAdd,aki,amr,BY cr]
set_option maxHeartbeats 1000000 in
theorem R6(T:ao)(hT:vA T)(jq:T.Ok)(to day:Int)(i:Nat)(x:bY)(hx:T.aj[i]?=some x)(vc)(s:List Int)(hs:∀t∈s,0≤t∧t≤172800)(I5:s.length≤172800000)(o:List aX)(ho:o.length≤1024):bd.run (lM bd vc) (day,s.map iv,(s.length:Int),0,to,day,(T.aj.length:Int),(i:Int),cell x.pv 0,cell x.pv 1,cell x.pv 2,cell x.pv 3,cell x.pv 4,(i:Int),day,0,x.id,x.aY,x.free,false,[],Gm T (o.map aX.pv,()))=if o.length+s.length>1024 then some qV else vc (to,day,(T.aj.length:Int),IntKind.i64.wrap ((i:Int)+1),Gm T ((o++(List.range s.length).map fun(k:Nat)=>fi x i day k (cd x.calls (s.getD k 0))).map aX.pv,())):=by
 have HF:x∈T.aj:=amq hx;have YY:=jq.aj.2 x HF;have MV:=hT.small x HF;refine(qW (fun k=>(day,s.map iv,(s.length:Int),(k:Int),to,day,(T.aj.length:Int),(i:Int),cell x.pv 0,cell x.pv 1,cell x.pv 2,cell x.pv 3,cell x.pv 4,(i:Int),day,PK k,x.id,x.aY,x.free,false,DA x day s k,Gm T ((o++(List.range k).map fun(k:Nat)=>fi x i day k (cd x.calls (s.getD k 0))).map aX.pv,()))) s.length (fun k=>if(fun j=>o.length+j) (k+1)>1024 then some (some qV)else none) (fin:=vc (to,day,(T.aj.length:Int),IntKind.i64.wrap ((i:Int)+1),Gm T ((o++(List.range s.length).map fun(k:Nat)=>fi x i day k (cd x.calls (s.getD k 0))).map aX.pv,()))) (fun k hk MX rec=>?_) (fun MX rec=>?_) ?_ ?_).trans ?_
 ·have hle:o.length+k≤1024:=Dz (fun j=>o.length+j) (fun k=>by simp) ho (some qV) k MX;have h1:(k:Int)<(s.length:Int):=by omega
  have ci:∀n:Int,cell (iv n) 0=.int .i64 n:=fun _=>rfl;have hr:=hs s[k] (agZ hk);have qB:=zZ x.calls s[k];have WS:s.getD k 0=s[k]:=II s k hk;have agU:mc s[k]:=(eY _).2 (by omega);have Bn:(o++(List.range (k+1)).map fun(k:Nat)=>fi x i day k (cd x.calls (s.getD k 0))).map aX.pv=(o++(List.range k).map fun(k:Nat)=>fi x i day k (cd x.calls (s.getD k 0))).map aX.pv++[(fi x i day k (cd x.calls s[k])).pv]:=by simp_all[aot,anU,anB,apo,an1]
  have hlC:DA x day s (k+1)=((cd x.calls s[k]).map (B2 (jM day))).map ai.pv:=by simp only[DA,WS]
  have hlen:((o++(List.range k).map fun(k:Nat)=>fi x i day k (cd x.calls (s.getD k 0))).map aX.pv++[PV.agg [.int .i64 (i:Int),.int .i64 day,.int .i64 (k:Int),.str x.id,.int .i64 x.aY,.bool x.free,.bool false,.rs 5 (((cd x.calls s[k]).map (B2 (IntKind.i64.wrap (day*86400)))).map ai.pv)]]).length=o.length+(k+1):=by simp
  have cr:=abO ((o++(List.range k).map fun(k:Nat)=>fi x i day k (cd x.calls (s.getD k 0))).map aX.pv++[PV.agg [.int .i64 (i:Int),.int .i64 day,.int .i64 (k:Int),.str x.id,.int .i64 x.aY,.bool x.free,.bool false,.rs 5 (((cd x.calls s[k]).map (B2 (IntKind.i64.wrap (day*86400)))).map ai.pv)]]) (by omega);rw[Bn,hlC];generalize (o++(List.range k).map fun(k:Nat)=>fi x i day k (cd x.calls (s.getD k 0))).map aX.pv=ov at hlen cr;refine(abP vc rec day s.length k to day T.aj.length i (s.map iv) (cell x.pv 0) (cell x.pv 1) (cell x.pv 2) (cell x.pv 3) (cell x.pv 4) i day (PK k) x.id x.aY x.free false (DA x day s k) (T.stops.map Stop.pv) (T.ae.map az.pv) (T.gR.map wb.pv) (T.ru.map yE.pv) (T.aj.map bY.pv) (T.bm.map bC.pv) (T.dn.map kN.pv) (T.cH.map jT.pv) (T.paths.map Path.pv) (T.av.map aS.pv) T.aQ T.within T.cap ov h1 (iv s[k]) (by rw[af,Gl,ta hk];rfl) s[k] rfl _ _ _ (K3 x YY s[k] agU MV) (xZ _ _ (show(cd x.calls s[k]).length≤1000 by omega)) cr).trans ?_;rw[ah (show k<9223372036854775807 by omega)];simp only[hlen];by_cases hb:o.length+(k+1)>1024
  ·rw[BY (show(!decide (((o.length+(k+1):Nat):Int)≤1024))=true by simp;omega),BY (show decide (((o.length+(k+1):Nat):Int)>1024)=true from aoR (by omega)),BY hb];rfl
  ·rw[IT (show¬(!decide (((o.length+(k+1):Nat):Int)≤1024))=true by simp;omega),IT hb];rfl
 ·have hle:o.length+s.length≤1024:=Dz (fun j=>o.length+j) (fun k=>by simp) ho (some qV) s.length MX;have hlen:((o++(List.range s.length).map fun(k:Nat)=>fi x i day k (cd x.calls (s.getD k 0))).map aX.pv).length=o.length+s.length:=by simp
  refine(agT vc rec day s.length to day T.aj.length i (s.map iv) (cell x.pv 0) (cell x.pv 1) (cell x.pv 2) (cell x.pv 3) (cell x.pv 4) i day (PK s.length) x.id x.aY x.free false (DA x day s s.length) (T.stops.map Stop.pv) (T.ae.map az.pv) (T.gR.map wb.pv) (T.ru.map yE.pv) (T.aj.map bY.pv) (T.bm.map bC.pv) (T.dn.map kN.pv) (T.cH.map jT.pv) (T.paths.map Path.pv) (T.av.map aS.pv) T.aQ T.within T.cap _).trans ?_;rw[hlen,IT (show¬decide (((o.length+s.length:Nat):Int)>1024)=true by grind)];rfl
 ·grind [rounds,decide]
 ·simp[List.range_zero,apo,aof,PK,DA,Int.natCast_zero]
 ·rw[wV (fun j=>o.length+j) (fun k=>by simp) ho];by_cases hb:o.length+s.length>1024
  ·rw[BY hb,BY hb];rfl
  ·rw[IT hb,IT hb];rfl
set_option maxHeartbeats 1000000 in
theorem abQ(T:ao)(hT:vA T)(jq:T.Ok)(to day:Int)(PL)(o:List aX)(ho:o.length≤1024):bd.run (sG bd PL) (to,day,(T.aj.length:Int),0,Gm T (o.map aX.pv,()))=if o.length+(gv T day).length>1024 then some qV else PL (to,IntKind.i64.wrap (day+1),Gm T ((o++gv T day).map aX.pv,())):=by
 have UK:T.gR.length≤maxLen:=anW hT.gR (by decide);have hem:T.ru.length≤maxLen:=anW hT.ru (by decide);have hfm:T.bm.length≤maxLen:=anW hT.bm (by decide);have SV:T.bm.length≤1000:=by have:=hT.bm;omega
 have uI:∀k,(fun j=>o.length+(bJ T day j).length) k≤(fun j=>o.length+(bJ T day j).length) (k+1):=fun k=>by simp[Bs,anD]
 have h00:(fun j=>o.length+(bJ T day j).length) 0≤1024:=by simpa[bJ]using ho
 rw[Ws];refine(qW (fun i=>(to,day,(T.aj.length:Int),(i:Int),Gm T ((o++bJ T day i).map aX.pv,()))) T.aj.length (fun k=>if(fun j=>o.length+(bJ T day j).length) (k+1)>1024 then some (some qV)else none) (fin:=PL (to,IntKind.i64.wrap (day+1),Gm T ((o++bJ T day T.aj.length).map aX.pv,()))) (fun i hi MX rec=>?_) (fun MX rec=>?_) ?_ ?_).trans ?_
 ·have hle:o.length+(bJ T day i).length≤1024:=Dz _ uI h00 (some qV) i MX;have h1:(i:Int)<(T.aj.length:Int):=by omega
  have hx:T.aj[i]?=some T.aj[i]:=ta hi;have HF:T.aj[i]∈T.aj:=agZ hi;have MV:=hT.small _ HF;have ht:=hT.aj;generalize hxx:T.aj[i]=x at*;have Qk:eT T day i=eL T i x day:=by unfold eT;rw[hx]
  have Nc:((o++bJ T day i).map aX.pv).length=o.length+(bJ T day i).length:=by simp
  simp only[Bs,Qk];simp only[sG,Gm,te,h1,IS,af,AT,hx,No,U,Bp,Bq,Br,Dw,yA,asInt,ak,bt,FH T.gR UK T.ru hem,asBool,Nc];unfold eL;cases hA:Dq T.gR T.ru x.AX day with
  |false=>simp only[anM,IS,aof,anx,apn,ah (show i<9223372036854775807 by omega)];rw[IT (show¬((o.length+(bJ T day i).length:Nat):Int)>1024 by omega),IT (by omega)];rfl
  |true=>
   simp only[ag0,tc,PS,anE,IK T.bm hfm,U,asBool];cases hR:B5 T.bm i with
   |false=>
    have hl1:((o++bJ T day i).map aX.pv++[PV.agg [.int .i64 (i:Int),.int .i64 day,.int .i64 0,.str x.id,.int .i64 x.aY,.bool x.free,.bool false,.rs 5 ((x.calls.map (B2 (IntKind.i64.wrap (day*86400)))).map ai.pv)]]).length=o.length+(bJ T day i).length+1:=by grind
    have cr:=abO ((o++bJ T day i).map aX.pv++[PV.agg [.int .i64 (i:Int),.int .i64 day,.int .i64 0,.str x.id,.int .i64 x.aY,.bool x.free,.bool false,.rs 5 ((x.calls.map (B2 (IntKind.i64.wrap (day*86400)))).map ai.pv)]]) (by omega);have Bn:(o++(bJ T day i++[fi x i day 0 x.calls])).map aX.pv=(o++bJ T day i).map aX.pv++[(fi x i day 0 x.calls).pv]:=by simp
    simp only[anM,IS,xZ _ _ (show x.calls.length≤1000 by omega),U,BY cr,ah (show i<9223372036854775807 by omega),Bn];simp only[hl1,anD,alx,anx,aoy];by_cases hb:o.length+(bJ T day i).length+1>1024
    ·rw[BY (show decide (((o.length+(bJ T day i).length+1:Nat):Int)>1024)=true from aoR (by omega)),BY (show o.length+((bJ T day i).length+1)>1024 by omega)];rfl
    ·rw[IT (show¬decide (((o.length+(bJ T day i).length+1:Nat):Int)>1024)=true by grind),IT (show¬o.length+((bJ T day i).length+1)>1024 by omega)];rfl
   |true=>
    simp only[ag0,tc,PS,IS,anE,K1 T.bm SV,ak,U,By,anD,List.length_range];have hl2:(o++bJ T day i).length≤1024:=by simp;omega
    have:=R6 T hT jq to day i x hx rec (instI T.bm i) (fun t ht=>instI_range _ _ t ht) (instI_len _ SV _) (o++bJ T day i) hl2;simp only[Gm,Bp,Bq,Br,Dw,yA,anD]at this;rw[this,ah (show i<9223372036854775807 by omega),an1];by_cases hb:o.length+(bJ T day i).length+(instI T.bm i).length>1024
    ·rw[BY hb,BY (show o.length+((bJ T day i).length+(instI T.bm i).length)>1024 by omega)];rfl
    ·rw[IT hb,IT (show¬o.length+((bJ T day i).length+(instI T.bm i).length)>1024 by omega)];rfl
 ·simp[sG,Gm,te,anN,PS]
 ·have:=hT.aj;grind [rounds,decide]
 ·simp[bJ]
 ·rw[wV _ uI h00];by_cases hb:o.length+(bJ T day T.aj.length).length>1024
  ·rw[BY hb,BY hb];rfl
  ·rw[IT hb,IT hb];rfl
def MY(l:List aX):PV:=if l.length>1024 then qV else .aV [.rs 8 (l.map aX.pv),.int .i64 0]
theorem VG(T:ao)(hT:vA T)(jq:T.Ok)(day:Int)(n:Nat)(h0:0≤day)(h1:day+n≤100000)(to:Int)(hto:to=day+n-1):vd [T.pv,.int .i64 day,.int .i64 to]=some (MY (bU T day n)):=by
 simp only[vd,EF,Y0,Y1,Y2,Y3,Y4,Y5,Y6,Y7,Y8,Y9,Za,HY,HZ,H3,ak,asInt,IS,U];have uI:∀k,(fun j=>(bU T day j).length) k≤(fun j=>(bU T day j).length) (k+1):=fun k=>by simp[Bt,anD]
 have h00:(fun j=>(bU T day j).length) 0≤1024:=by simp[bU]
 refine(qW (fun(k:Nat)=>(to,day+(k:Int),Gm T ((bU T day k).map aX.pv,()))) n (fun k=>if(fun j=>(bU T day j).length) (k+1)>1024 then some (some qV)else none) (fin:=some (.aV [.rs 8 ((bU T day n).map aX.pv),.int .i64 0])) (fun k hk MX rec=>?_) (fun MX rec=>?_) ?_ ?_).trans ?_
 ·have hle:(bU T day k).length≤1024:=Dz _ uI h00 (some qV) k MX;have hc:day+(k:Int)≤to:=by omega
  have:=abQ T hT jq to (day+k) rec (bU T day k) hle;simp only[Gm]at this;simp only[yb,Gm,te,hc,IS,By,this,Bt,anD];rw[bp (show-9223372036854775808≤day+(k:Int)+1 by omega) (by omega),show day+(k:Int)+1=day+((k+1:Nat):Int) by omega];by_cases hb:(bU T day k).length+(gv T (day+k)).length>1024
  ·rw[BY hb,BY hb];rfl
  ·rw[IT hb,IT hb];rfl
 ·have hc:¬day+(n:Int)≤to:=by omega
  simp only[yb,Gm,te,hc,PS]
 ·grind [rounds,decide]
 ·simp[bU,Gm]
 ·rw[wV _ uI h00];unfold MY;by_cases hb:(bU T day n).length>1024
  ·rw[BY hb,BY hb];rfl
  ·rw[IT hb,IT hb];rfl
def Um(T:ao)(k:Nat):Bool:=match T.aj[k]? with|some x=>decide ((x.calls.length:Int)>40)|none=>false
theorem agV(T:ao):∃b,ve [T.pv]=some (.bool b)∧(b=true→vA T):=by
 simp only[ve,EG,Y0,Y1,Y2,Y3,Y4,Y5,Y6,Y7,Y8,Y9,Za,HY,HZ,H3,ak,asInt,IS,U,aT,By];split
 ·simp
 ·rename_i h;simp only[anH,te,ap8]at h;obtain⟨⟨⟨⟨⟨⟨⟨⟨⟨h0,h1⟩,h2⟩,h3⟩,h4⟩,h5⟩,h6⟩,h7⟩,h8⟩,h9⟩:=h;refine⟨!(List.range T.aj.length).any (Um T),?_,fun hb=>⟨by omega,by omega,by omega,by omega,by omega,by omega,fun y hy=>?_⟩⟩
  ·refine(jV (fun k=>((k:Int),T.stops.map Stop.pv,T.ae.map az.pv,T.gR.map wb.pv,T.ru.map yE.pv,T.aj.map bY.pv,T.bm.map bC.pv,T.dn.map kN.pv,T.cH.map jT.pv,T.paths.map Path.pv,T.av.map aS.pv,T.aQ,T.within,T.cap,())) T.aj.length (Um T) (no:=some (.bool false)) (fin:=some (.bool true)) (fun k hk rec=>?_) (fun rec=>?_) ?_ rfl).trans ?_
   ·have h1:(k:Int)<(T.aj.length:Int):=by omega
    simp only[ye,te,By,h1,IS,af,AT,ta hk,No,U,yA,ak,ah (show k<9223372036854775807 by omega),Um]
   ·simp[ye,te,By,anN,PS]
   ·grind [rounds,decide]
   grind
  ·simp only[anT,aoK,an0]at hb;obtain⟨k,hk,rfl⟩:=apW.1 hy;grind [Um,List.getElem?_eq_getElem]
def R7(T:ao)(k:Nat):Bool:=match T.bm[k]? with|some f=>fG f&&decide (IntKind.i64.wrap ((IntKind.i64.wrap (f.t1-f.t0)).tdiv f.every)>40)|none=>false
theorem YV(T:ao):∃b,qX [T.pv]=some (.bool b)∧(b=true→vA T):=by
 obtain⟨b,hb,hB⟩:=agV T;simp only[qX,zS,Y0,Y1,Y2,Y3,Y4,Y5,Y6,Y7,Y8,Y9,Za,HY,HZ,H3,ak,asInt,asBool,IS,U,ttE,hb];cases b with
 |false=>simp
 |true=>
  have hF:=hB rfl;simp only[ag0,tc,PS];refine⟨!(List.range T.bm.length).any (R7 T),?_,fun _=>hF⟩;refine(jV (fun k=>((k:Int),T.stops.map Stop.pv,T.ae.map az.pv,T.gR.map wb.pv,T.ru.map yE.pv,T.aj.map bY.pv,T.bm.map bC.pv,T.dn.map kN.pv,T.cH.map jT.pv,T.paths.map Path.pv,T.av.map aS.pv,T.aQ,T.within,T.cap,())) T.bm.length (R7 T) (no:=some (.bool false)) (fin:=some (.bool true)) (fun k hk rec=>?_) (fun rec=>?_) ?_ rfl).trans ?_
  ·have h1:(k:Int)<(T.bm.length:Int):=by omega
   have hl:=hF.bm;simp only[uq,te,By,h1,IS,af,AT,ta hk,No,U,Bo,Dr,Dt,Du,K2,R8,asInt,asBool,ah (show k<9223372036854775807 by omega),R7];generalize T.bm[k]=f;cases hs:fG f with
   |false=>rfl
   |true=>obtain⟨g1,g2,g3,g4,g5⟩:=(jl f).1 hs;grind
  ·simp[uq,te,By,anN,PS]
  ·have:=hF.bm;grind [rounds,decide]
  grind
def dE(T:ao):Prop:=∀q,q<10→(DB T q).2=0
theorem Fl(T:ao):∃p i e,bP ((List.range 10).findSome? (AG T)) (some (vC 0 0 0))=some (vC p i e)∧(e=0→dE T):=by
 cases h:(List.range 10).findSome? (AG T)with
 |none=>refine⟨0,0,0,rfl,fun _ q hq=>?_⟩;simp_all[AG]
 |some r=>
  obtain⟨q,hq,hr⟩:=an4 h;unfold AG at hr;split at hr
  ·cases hr
  ·rename_i cy;simp only[tb]at hr;exact⟨_,_,_,hr.symm,fun e=>absurd e cy⟩
def Mg(l:List aX)(e:Int):PV:=.aV [.rs 8 (l.map aX.pv),.int .i64 e]
theorem VH(l:List aX):∃m e,MY l=Mg m e∧(e=0→m=l∧l.length≤1024)∧(e≠0→m=[]):=by
 unfold MY;by_cases h:l.length>1024
 ·exact⟨[],5,by rw[BY h];rfl,(fun e=>by omega),fun _=>rfl⟩
 ·exact⟨l,0,by rw[IT h];rfl,(fun _=>⟨rfl,by omega⟩),fun h=>absurd rfl h⟩
theorem abR(x y:ai):bR [cell x.pv 0,cell x.pv 1,cell x.pv 2,cell x.pv 3,cell x.pv 4] [cell y.pv 0,cell y.pv 1,cell y.pv 2,cell y.pv 3,cell y.pv 4]=decide (x=y):=by obtain⟨a1,a2,a3,a4,a5⟩:=x;obtain⟨b1,b2,b3,b4,b5⟩:=y;simp[cell,ai.pv,PV.cells,bR,Ab.peq];rfl
theorem R9{a b:List ai}(hl:a.length=b.length):(if(List.range a.length).any (fun k=> !decide (a[k]?=b[k]?))=true then some (PV.bool false)else some (PV.bool true))=some (PV.bool (decide (a=b))):=by
 by_cases h:a=b
 ·subst h;simp
 ·rw[BY]
  ·simp[h]
  ·rw[aoX];refine aqd fun hn=>h (anX fun k=>?_);grind
theorem adQ(x y:aX):x=y↔x.aZ=y.aZ∧x.day=y.day∧x.inst=y.inst∧x.id=y.id∧x.aY=y.aY∧x.free=y.free∧x.rr=y.rr∧x.calls=y.calls:=by cases x;cases y;simp
theorem abS(x y:aX):(decide (x.aZ=y.aZ)&&decide (x.day=y.day)&&decide (x.inst=y.inst)&&decide (x.id=y.id)&&decide (x.aY=y.aY)&&decide (x.free=y.free)&&decide (x.rr=y.rr)&&decide (x.calls=y.calls))=decide (x=y):=by rw[anS];simp[OF,te,adQ,apP]
variable{T:ao}{day:Int}
theorem IL(hT:vA T){i:Nat}{r:aX}(h:r∈eT T day i):r.calls.length≤40:=by
 unfold eT at h;split at h
 ·rename_i x hx;have MV:=hT.small x (amq hx);unfold eL at h;split at h
  ·cases h
  ·split at h
   ·simp_all[aoq,fi]
   ·obtain⟨k,_,rfl⟩:=anG.1 h;grind [fi,List.length_map,Nat.le_trans,zZ]
 ·cases h
theorem Jw(hT:vA T){r:aX}(h:r∈gv T day):r.calls.length≤40:=by obtain⟨i,_,hi⟩:=an3.1 h;exact IL hT hi
theorem zm(hT:vA T){n:Nat}{r:aX}(h:r∈bU T day n):r.calls.length≤40:=by obtain⟨i,_,hi⟩:=an3.1 h;exact Jw hT hi
theorem akg(x:bY):PV.agg [cell x.pv 0,cell x.pv 1,cell x.pv 2,cell x.pv 3,cell x.pv 4]=x.pv:=rfl
theorem Me{d:Int}(h:rz d=true):jM d=d*86400∧0≤jM d∧jM d≤3155673600:=by grind [ry,jM,bp]
theorem j3(f:Nat→Int)(n:Nat)(h:(bM f n).2=0)(k:Nat)(hk:k<n):f k=0:=by
 unfold bM at h;cases hf:(List.range n).findSome? (fun k=>if f k=0 then none else some ((k:Int),f k))with
 |none=>simp_all
 |some x=>rw[hf]at h;obtain⟨j,_,hj⟩:=an4 hf;grind
theorem FM{c:ai}{p:Option ai}{stops low high:Int}(h:kr c p stops low high=0):0≤c.stop∧c.stop<stops∧low≤c.arr∧c.arr≤c.dep∧c.dep≤high∧∀q,p=some q→q.dep≤c.arr∧q.stop≠c.stop:=by unfold kr at h;grind
structure agW(T:ao)(i:Nat)(x:bY):Prop where
 id:x.id∉(T.aj.map bY.id).take i
 two:2≤x.calls.length
 most:x.calls.length≤32
 call:∀(k:Nat)(c:ai),x.calls[k]?=some c→0≤c.stop∧c.stop<(T.stops.length:Int)∧0≤c.arr∧c.arr≤c.dep∧c.dep≤172800
 step:∀(k:Nat)(c d:ai),x.calls[k]?=some c→x.calls[k+1]?=some d→c.dep≤d.arr∧c.stop≠d.stop
variable{T:ao}{x:bY}
theorem qm(hV:dE T){i:Nat}(hx:T.aj[i]?=some x):agW T i x:=by
 have h4:(sA T.aj T.stops.length T.ae.length T.gR.length).2=0:=hV 4 (by omega);unfold sA at h4;split at h4
 ·omega
 ·have hi:i<T.aj.length:=(IN.1 hx).1;have he:=j3 _ _ h4 i hi;unfold Gc at he;rw[hx]at he;simp only at he;split at he
  ·omega
  ·split at he
   ·omega
   ·rename_i hid;split at he
    ·omega
    ·unfold bD at he;split at he
     ·omega
     ·rename_i hlen;simp only[anH,te,ap8]at hlen;have hc:∀(k:Nat)(c:ai),x.calls[k]?=some c→kr c (ku x.calls k) T.stops.length 0 172800=0:=fun k c hc=>by grind [j3,mD]
      refine⟨hid,by omega,by omega,fun k c h=>?_,fun k c d h h'=>?_⟩
      ·have:=FM (hc k c h);omega
      ·have:=(FM (hc (k+1) d h')).2.2.2.2.2 c h;omega
theorem adn(hV:dE T){i j:Nat}{y:bY}(hx:T.aj[i]?=some x)(hy:T.aj[j]?=some y)(h:x.id=y.id):i=j:=by
 have key:∀{i j:Nat}{x y:bY},T.aj[i]?=some x→T.aj[j]?=some y→x.id=y.id→¬i<j:=fun{i j x y}hx hy h XC=>by refine(qm hV hy).id ?_;rw[anI];refine⟨i,?_⟩;simp_all
 grind
theorem Sa(hV:dE T){k:Nat}{f:bC}(hf:T.bm[k]?=some f):0≤f.aZ∧f.aZ<(T.aj.length:Int)∧fG f=true∧fitsAt T.aj f=true:=by
 have h5:(yf T.bm T.aj).2=0:=hV 5 (by omega);unfold yf at h5;split at h5
 ·omega
 ·have hk:k<T.bm.length:=(IN.1 hf).1;have he:=j3 _ _ h5 k hk;unfold AH at he;grind
theorem H5(c:ai)(l:List ai)(s:Int):se (c::l) s=0↔∀(k:Nat)(x:ai),(c::l)[k]?=some x→0≤x.arr-c.dep+s∧x.arr-c.dep+s≤172800∧0≤x.dep-c.dep+s∧x.dep-c.dep+s≤172800:=by
 show(if(List.range (c::l).length).all (pN (c::l) c.dep s)=true then(0:Int)else 10)=0↔_;have e:(if(List.range (c::l).length).all (pN (c::l) c.dep s)=true then(0:Int)else 10)=0↔(List.range (c::l).length).all (pN (c::l) c.dep s)=true:=by simp
 rw[e,an7];constructor
 ·intro h k x hx;have:=h k (an0.2 (IN.1 hx).1);simp_all[pN,kOk,Cq,OF,te]
 ·intro h k hk;unfold pN;cases hx:(c::l)[k]? with
  |none=>rfl
  |some x=>have:=h k x hx;simp_all[kOk,Cq,OF,te]
theorem Ru(hV:dE T){i:Nat}(hx:T.aj[i]?=some x){s:Int}(hs:s∈instI T.bm i):se x.calls s=0:=by
 obtain⟨f,hf,hfi,hsf⟩:=(instI_mem _ _ _).1 hs;obtain⟨k,hk⟩:=anI.1 hf;obtain⟨_,_,UO,oB⟩:=Sa hV hk;have Lr:T.aj[f.aZ.toNat]?=some x:=by simp_all
 unfold fitsAt at oB;rw[Lr]at oB;have ht:=qm hV hx;rw[mr f UO]at hsf;obtain⟨j,hj,rfl⟩:=anG.1 hsf;have Nh:=an0.1 hj;have hsb:=(jl f).1 UO;have hc:=xY f UO;have hle:(j:Int)≤ir f-1:=by omega
 have hm:(j:Int)*f.every≤(ir f-1)*f.every:=ao9 hle (by omega);have hm0:0≤(j:Int)*f.every:=aqb (by omega) (by omega);have aib:Bu f=f.t0+(ir f-1)*f.every:=rfl;cases hl:x.calls with
 |nil=>have:=ht.two;simp_all
 |cons c l=>replace oB:IM x f=true:=oB;unfold IM at oB;rw[hl]at oB;simp only[OF,te]at oB;grind [se,yg,Bu,H5]
end Go.Ab.Tt
