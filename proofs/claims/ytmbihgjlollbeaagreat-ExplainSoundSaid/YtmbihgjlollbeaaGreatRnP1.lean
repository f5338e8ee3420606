import Derived.Test.YtmbihgjlollbeaaGreatTtP1
import Derived.Test.YtmbihgjlollbeaaGreatAbLib
namespace Go.Ab.Tt
set_option linter.all false
def Px(d:Int):Bool:=decide (0≤d)&&decide (d≤36524)
theorem DD(d:Int):eD [.int .i64 d]=some (.bool (Px d)):=by simp only[eD,wg,asInt,Ko,U,bF,Px]
set_option maxRecDepth 100000
theorem ai9(x:tg):cell x.pv 2=.bool x.added:=rfl
def wkT(c:qd)(w:Int):Bool:=if w=0 then c.w0 else if w=1 then c.w1 else if w=2 then c.w2 else if w=3 then c.w3 else if w=4 then c.w4 else if w=5 then c.w5 else c.w6
def Kg(i d:Int)(e:tg):Bool:=decide (e.xX=i)&&decide (e.day=d)
def F3(c:qd)(xs:List tg)(i d:Int):Int:=match xs.find? (Kg i d)with
 |some e=>if e.added=true then 2 else 3
 |none=>if(decide (d<c.GI)||decide (d>c.GJ))=true then 5 else if wkT c ((d+5).tmod 7)=true then 1 else 4
def zj(cs:List qd)(xs:List tg)(i d:Int):Int:=if Px d=false then 0 else if i<0 then 0 else match cs[i.toNat]? with
 |some c=>F3 c xs i d
 |none=>0
theorem RZ(d:Int)(h:Px d=true):IntKind.i64.wrap (d+5)=d+5∧0≤(d+5).tmod 7∧(d+5).tmod 7<7:=by unfold Px at h;simp only[No,AT]at h;grind [aY,Int.tmod_eq_emod_of_nonneg]
theorem Kh(d:Int)(h:Px d=true):oz [.int .i64 d]=some (.aO [.int .i64 ((d+5).tmod 7),.bool true]):=by obtain⟨h1,_⟩:=RZ d h;simp only[oz,wh,asInt,Ko,U,DD,asBool,h,akf,cQ,abp,h1]
theorem abo(c:qd)(w:Int)(h0:0≤w)(h7:w<7)(k:Bool→Option PV):(if an w 7∧0<1 then[cell c.pv 0,cell c.pv 1,cell c.pv 2,cell c.pv 3,cell c.pv 4,cell c.pv 5,cell c.pv 6,cell c.pv 7,cell c.pv 8,cell c.pv 9][1+w.toNat*1]?.bind fun p=>(asBool p).bind k else none)=k (wkT c w):=by
 rw[AI ⟨⟨h0,h7⟩,by omega⟩];have:w=0∨w=1∨w=2∨w=3∨w=4∨w=5∨w=6:=by omega
 rcases this with rfl|rfl|rfl|rfl|rfl|rfl|rfl<;>rfl
theorem Py{A:Type}(p:A→Bool)(g:A→Option PV)(l:List A)(fin:Option PV):ca ((List.range l.length).findSome? fun k=>(l[k]?).bind fun x=>if p x=true then some (g x)else none) fin=match l.find? p with|some x=>g x|none=>fin:=by rw[CB];cases l.find? p<;>rfl
theorem Du(cs:List qd)(hc:cs.length≤maxLen)(xs:List tg)(hx:xs.length≤maxLen)(i d:Int):gH [.rs 10 (cs.map qd.pv),.rs 3 (xs.map tg.pv),.int .i64 i,.int .i64 d]=some (.int .i64 (zj cs xs i d)):=by
 have hm:=aT;simp only[gH,qz,aw,asInt,Ko,U,bf,DD,asBool,BY];unfold zj;by_cases hi:i<0
 ·simp_all
 by_cases hn:i≥(cs.length:Int)
 ·simp_all
 simp only[hi,hn,akw,alJ,cond_false,U];cases hd:Px d with
 |false=>rfl
 |true=>
  obtain⟨n,rfl⟩:∃n:Nat,i=n:=⟨i.toNat,by omega⟩;have bZ:n<cs.length:=by omega
  obtain⟨w1,w2,w3⟩:=RZ d hd;simp only[Bool.or_self,akf,cQ,abp,aM,IT,cN bZ,akb,U,akD,akc];generalize cs[n]=c;refine(br (fun k=>((n:Int),d,5,xs.map tg.pv,(xs.length:Int),(k:Int),cell c.pv 0,cell c.pv 1,cell c.pv 2,cell c.pv 3,cell c.pv 4,cell c.pv 5,cell c.pv 6,cell c.pv 7,cell c.pv 8,cell c.pv 9,())) xs.length (fun k=>(xs[k]?).bind fun x=>if Kg n d x=true then some (some (.int .i64 (if x.added=true then 2 else 3)))else none) (fin:=some (.int .i64 (if(decide (d<c.GI)||decide (d>c.GJ))=true then 5 else if wkT c ((d+5).tmod 7)=true then 1 else 4))) (fun k hk rec=>?_) (fun rec=>?_) ?_ rfl).trans ?_
  ·have h1:(k:Int)<(xs.length:Int):=by omega
   simp only[mU,AT,h1,Ko,aM,IT,cN hk,akb,U,ahu,ahv,ai9,asInt,asBool,bf,aj (show k<9223372036854775807 by omega),pW];unfold Kg;generalize xs[k]=x;by_cases e1:x.xX=n<;>by_cases e2:x.day=d<;>simp[e1,e2,ca];cases x.added<;>rfl
  ·have hw:=abo c ((d+5).tmod 7) w2 w3 (fun b=>if b=true then some (PV.int .i64 1)else some (PV.int .i64 4));simp only[mU,AT,akB,abp,aex,aey,asInt,Ko,U,Kh d hd,dn,akd,akm,Nat.reduceAdd,ajc,aka,asBool,show((5:Int)==3)=false from rfl,cond_false,bf];simp only[aex,aey,asBool]at hw;grind
  ·have:=bw;omega
  ·rw[Py (Kg n d) (fun x=>some (.int .i64 (if x.added=true then 2 else 3)))];unfold F3;grind
def Br(cs:List qd)(xs:List tg)(i d:Int):Bool:=decide (zj cs xs i d=1)||decide (zj cs xs i d=2)
theorem LJ(cs:List qd)(hc:cs.length≤maxLen)(xs:List tg)(hx:xs.length≤maxLen)(i d:Int):kc [.rs 10 (cs.map qd.pv),.rs 3 (xs.map tg.pv),.int .i64 i,.int .i64 d]=some (.bool (Br cs xs i d)):=by simp only[kc,qA,aw,asInt,Ko,U,Du cs hc xs hx,bf,iG,Br]
def yK(t:Int)(l:List Int):Nat→Nat
 |0=>0
 |k+1=>if l.getD k 0>t then yK t l k else k+1
def AS(t:Int)(l:List Int):List Int:=l.take (yK t l l.length)++t::l.drop (yK t l l.length)
theorem Ki(t:Int)(l:List Int):∀k,yK t l k≤k
 |0=>akk _
 |k+1=>by
  unfold yK;split
  ·simp[amG,Ki]
  omega
theorem YQ(t:Int)(l:List Int):(AS t l).length=l.length+1:=by grind [Ki,AS]
theorem YR(t x:Int)(l:List Int):x∈AS t l↔x=t∨x∈l:=by grind [AS,yK,List.take_append_drop]
structure Lnk where
 a:Int
 ac:Int
 b:Int
 bc:Int
 stay:Bool
 deriving DecidableEq
def Lnk.pv(x:Lnk):PV:=.agg [.int .i64 x.a,.int .i64 x.ac,.int .i64 x.b,.int .i64 x.bc,.bool x.stay]
def eX(f:bg):List Int:=if eI f=true then(List.range (fO f).toNat).map fun(j:Nat)=>f.t0+(j:Int)*f.every else[]
def instF(l:List Int)(f:bg):List Int:=(eX f).foldl (fun l t=>AS t l) l
def instI(fs:List bg)(i:Int):List Int:=(fs.filter fun f=>decide (f.bO=i)).foldl instF []
def Bs(l:List aQ)(s:Int):List aQ:=if qI l s=0 then l.map fun k=>Nj k ((l.map aQ.dep).headD 0) s else[]
def dL.key(r:dL):Int×Int×Int:=(r.bO,r.day,r.inst)
def gI(l:List Int)(d:Int)(k:Nat):List Int:=l.take k++d::l.drop k
theorem DE(l:List Int)(d:Int)(k:Nat)(h:k≤l.length):(gI l d k).length=l.length+1:=by simp[gI];omega
theorem DF(l:List Int)(d:Int)(k j:Nat)(h:k≤l.length)(hj:j<k):(gI l d k)[j]?=l[j]?:=by simp_all[gI,ak1,alD]
theorem GK(l:List Int)(d:Int)(k:Nat)(h:k≤l.length):(gI l d k)[k]?=some d:=by simp_all[gI,akX,ald]
theorem DG(l:List Int)(d x:Int)(k:Nat)(h:k≤l.length):(gI l d k).set k x=gI l x k:=by simp_all[gI,List.set_append,ald]
theorem Kj(l:List Int)(k:Nat)(h:k<l.length):gI l l[k] (k+1)=gI l l[k] k:=by unfold gI;rw[akr h,ak0 h,akh];rfl
theorem R0(t:Int)(l:List Int):∀n k,yK t l n≤k→k<n→l.getD k 0>t
 |0,k,_,h=>absurd h (by omega)
 |n+1,k,h1,h2=>by
  unfold yK at h1;split at h1
  ·rename_i hg;by_cases e:k=n
   ·subst e;omega
   ·exact R0 t l n k h1 (by omega)
  omega
theorem IK(t:Int)(l:List Int):∀n,yK t l n=0∨∃k,yK t l n=k+1∧¬l.getD k 0>t
 |0=>.inl rfl
 |n+1=>by
  unfold yK;split
  ·exact IK t l n
  simp_all
def Pz(t:Int)(l:List Int)(k:Nat):Int:=if k=l.length then t else l.getD k 0
theorem R1(l:List Int)(k:Nat):(l.map iv)[k]?=l[k]?.map iv:=IT ..
theorem R2(l:List Int)(k:Nat)(x:Int):(l.map iv).set k (.int .i64 x)=(l.set k x).map iv:=by rw[anh];rfl
theorem IL(k:Nat)(h:k+1≤9223372036854775807):IntKind.i64.wrap (((k+1:Nat):Int)-1)=(k:Int):=by grind [aY]
theorem YS(l:List Int)(k:Nat)(h:k<l.length):l.getD k 0=l[k]:=by simp_all
theorem PA(BI)(t tr len i:Int)(es:List PV)(c0 c1 c2:PV)(ev:Int)(l:List Int)(hl:l.length<4611686018427387904):bk.run (dQ BI) (t,(l.length:Int),t,tr,es,len,i,c0,c1,c2,.int .i64 ev,(l++[t]).map iv,())=BI (IntKind.i64.wrap (t+ev),tr,es,len,i,c0,c1,c2,.int .i64 ev,(AS t l).map iv,()):=by
 have hp:=Ki t l l.length;refine ba (fun j=>(t,((l.length-j:Nat):Int),t,tr,es,len,i,c0,c1,c2,.int .i64 ev,(gI l (Pz t l (l.length-j)) (l.length-j)).map iv,())) (l.length-yK t l l.length) (fun j hj rec=>?_) (fun rec=>?_) ?_ ?_
 ·obtain⟨k,hk⟩:∃k,l.length-j=k+1:=⟨l.length-j-1,by omega⟩;have N0:k<l.length:=by omega
  have hgt:l[k]>t:=by have:=R0 t l l.length k (by omega) N0;simp_all
  have hlen:=DE l (Pz t l (k+1)) (k+1) (by omega);have aez:=DF l (Pz t l (k+1)) (k+1) k (by omega) (by omega);have S3:=GK l (Pz t l (k+1)) (k+1) (by omega);have hd:Pz t l k=l[k]:=by unfold Pz;grind
  have qY:=DG l (Pz t l (k+1)) l[k] (k+1) (by omega);rw[Kj l k N0]at qY;have e2:l.length-(j+1)=k:=by omega
  have r1:an (k:Int) (l.length+1):=kL _ _ (by omega);have r2:an ((k+1:Nat):Int) (l.length+1):=kL _ _ (by omega);simp only[hk,e2];simp only[dQ,show decide (((k+1:Nat):Int)>0)=true by simp,cond_true,IL k (by omega),BY,hlen,AI r1,AI r2,akc,R1,aez,cN N0,akb,U,iv,cell,PV.cells,ajc,asInt,Ko,show decide (l[k]>t)=true by simpa using hgt,S3];rw[R2,qY,hd]
 ·have e0:l.length-(l.length-yK t l l.length)=yK t l l.length:=by omega
  simp only[e0];generalize hpp:yK t l l.length=p at*;have hlen:=DE l (Pz t l p) p hp;have S3:=GK l (Pz t l p) p hp;have qY:=DG l (Pz t l p) t p hp;have r1:an (p:Int) (l.length+1):=kL _ _ (by omega);have Ly:(AS t l).map iv=((gI l (Pz t l p) p).map iv).set p (.int .i64 t):=by grind [R2,AS,gI]
  rw[Ly];have stop:yK t l l.length=0∨∃k,yK t l l.length=k+1∧¬l.getD k 0>t:=IK t l l.length;rw[hpp]at stop;rcases stop with h0|⟨k,hk,hng⟩
  ·subst h0;have r1':an (0:Int) (l.length+1):=r1;have aja:(List.map iv (gI l (Pz t l 0) 0))[(0:Int).toNat]?=some (iv (Pz t l 0)):=by rfl
   simp only[dQ,Int.natCast_zero,show decide ((0:Int)>0)=false from rfl,cond_false,U,cQ,abp,BY,hlen,AI r1',aja,asInt,Ko];rfl
  ·subst hk;have N0:k<l.length:=by omega
   rw[YS l k N0]at hng;have aez:=DF l (Pz t l (k+1)) (k+1) k (by omega) (by omega);have r0:an (k:Int) (l.length+1):=kL _ _ (by omega);simp only[dQ,show decide (((k+1:Nat):Int)>0)=true by simp,cond_true,IL k (by omega),BY,hlen,AI r0,AI r1,akc,R1,aez,cN N0,akb,U,iv,cell,PV.cells,ajc,asInt,Ko,show decide (l[k]>t)=false by simpa using hng,cQ,abp,S3]
 ·grind [bw,maxLen,decide]
 ·simp[gI,Pz]
theorem l9(x:bg)(h:eI x=true):eX x=(List.range (fO x).toNat).map fun(j:Nat)=>x.t0+(j:Int)*x.every:=by unfold eX;rw[AI h]
theorem GL(x:bg)(h:eI x=false):eX x=[]:=by simp_all[eX,IS]
theorem ML(x:bg):(eX x).length≤172800:=by
 unfold eX;split
 ·simp_all[uB]
 simp
theorem MM(s:List Int):∀l:List Int,(s.foldl (fun l t=>AS t l) l).length=l.length+s.length:=by
 induction s with
 |nil=>simp
 |cons t s ih=>grind [YQ,List.length_cons]
theorem instF_len(l:List Int)(f:bg):(instF l f).length≤l.length+172800:=by simp[instF,MM,ML]
theorem T7(fs:List bg):∀l:List Int,(fs.foldl instF l).length≤l.length+172800*fs.length:=by
 induction fs with
 |nil=>simp
 |cons f fs ih=>grind [instF,instF_len,List.length_cons]
theorem MN(T8)(x:bg)(h:eI x=true)(tr len i:Int)(es:List PV)(l:List Int)(hl:l.length≤1000000000):bk.run (fG bk T8) (x.t0,tr,es,len,i,.int .i64 x.bO,.int .i64 x.t0,.int .i64 x.t1,.int .i64 x.every,l.map iv,())=T8 (tr,es,len,IntKind.i64.wrap (i+1),(instF l x).map iv,()):=by
 have hc:=uB x h;have Uy:=Kk x h;obtain⟨h1,h2,h3,h4,h5⟩:=(iR x).1 h;have vp:∀k,k≤(fO x).toNat→((eX x).take k).length=k:=fun k hk=>by rw[l9 x h];simp;omega
 refine ba (fun k=>(x.t0+(k:Int)*x.every,tr,es,len,i,.int .i64 x.bO,.int .i64 x.t0,.int .i64 x.t1,.int .i64 x.every,(((eX x).take k).foldl (fun l t=>AS t l) l).map iv,())) (fO x).toNat (fun k hk rec=>?_) (fun rec=>?_) ?_ ?_
 ·have SF:(k:Int)≤fO x-1:=by omega
  have Dg:(k:Int)*x.every≤(fO x-1)*x.every:=alH SF (by omega);have G8:0≤(k:Int)*x.every:=amz (by omega) (by omega);have bZ:x.t0+(k:Int)*x.every<x.t1:=by omega
  have aj9:((k+1:Nat):Int)*x.every=(k:Int)*x.every+x.every:=by grind
  have hw:IntKind.i64.wrap (x.t0+(k:Int)*x.every+x.every)=x.t0+((k+1:Nat):Int)*x.every:=by grind [aY]
  have SG:=MM ((eX x).take k) l;rw[vp k (by omega)]at SG;have hs:(eX x).take (k+1)=(eX x).take k++[x.t0+(k:Int)*x.every]:=by rw[l9 x h,←al8,←al8,List.take_range,List.take_range,ald (by omega),ald (by omega),al6,akZ];rfl
  have Q7:((eX x).take (k+1)).foldl (fun l t=>AS t l) l=AS (x.t0+(k:Int)*x.every) (((eX x).take k).foldl (fun l t=>AS t l) l):=by simp_all
  generalize ((eX x).take k).foldl (fun l t=>AS t l) l=lk at SG Q7;have fm:(lk.map iv++[PV.int .i64 (x.t0+(k:Int)*x.every)]).length*8≤ae∧0<8:=by grind [decide,List.length_append,List.length_map,List.length_cons,List.length_nil,ae]
  simp only[fG,asInt,Ko,U,AT,bZ,AI fm,BY];rw[show lk.map iv++[PV.int .i64 (x.t0+(k:Int)*x.every)]=(lk++[x.t0+(k:Int)*x.every]).map iv by simp[iv],PA _ _ _ _ _ _ _ _ _ _ lk (by omega),hw,Q7]
 ·have he:(((fO x).toNat:Nat):Int)*x.every=fO x*x.every:=by grind
  have bZ:¬x.t0+(((fO x).toNat:Nat):Int)*x.every<x.t1:=by omega
  have zu:(eX x).take (fO x).toNat=eX x:=akE (by rw[l9 x h];simp);simp only[fG,asInt,Ko,U,AT,IS bZ,zu];rfl
 ·grind [rounds,decide]
 simp
theorem CS{A:Type}(p:A→Bool)(l:List A)(k:Nat)(h:k<l.length):(l.take (k+1)).filter p=(l.take k).filter p++if p l[k]=true then[l[k]]else[]:=by rw[akr h,List.filter_append];grind
def instK(fs:List bg)(i:Int)(k:Nat):List Int:=((fs.take k).filter fun f=>decide (f.bO=i)).foldl instF []
theorem instK_len(fs:List bg)(i:Int)(k:Nat)(hf:fs.length≤1000):(instK fs i k).length≤172800000:=by grind [instK,T7,decide,Nat.le_trans,List.length_filter_le,List.length_nil]
theorem instK_succ(fs:List bg)(i:Int)(k:Nat)(h:k<fs.length):instK fs i (k+1)=if fs[k].bO=i then instF (instK fs i k) fs[k]else instK fs i k:=by grind [instK,CS]
theorem instF_un(l:List Int)(f:bg)(h:eI f=false):instF l f=l:=by unfold instF;rw[GL f h];rfl
theorem instI_K(fs:List bg)(i:Int):instI fs i=instK fs i fs.length:=by unfold instI instK;simp
theorem Ta(fs:List bg)(hf:fs.length≤1000)(i:Int):gk [.rs 4 (fs.map bg.pv),.int .i64 i]=some (.rs 1 ((instI fs i).map iv)):=by
 simp only[gk,lU,aw,asInt,Ko,U,BY];rw[instI_K];refine ba (fun k=>(i,fs.map bg.pv,(fs.length:Int),(k:Int),(instK fs i k).map iv,())) fs.length (fun k hk rec=>?_) (fun rec=>?_) ?_ ?_
 ·have h1:(k:Int)<(fs.length:Int):=by omega
  have hl:=instK_len fs i k hf;rw[instK_succ fs i k hk];simp only[jy,AT,h1,Ko,aM,IT,cN hk,akb,U,Aa,BU,BV,BW,asInt,pW,MO,DH,asBool,aj (show k<9223372036854775807 by omega)];by_cases e:fs[k].bO=i
  ·simp only[e,akv,akf,cQ,abp,Ko];cases hs:eI fs[k]with
   |false=>simp_all[akz,Ko,instF_un]
   |true=>simp only[akf,cQ,abp];grind [MN,bg.pv,instK,aj]
  simp_all
 ·simp[jy,AT,akB,abp]
 ·grind [rounds,decide]
 rfl
theorem Tb(x:bK)(hx:x.Ok)(start:Int)(hs:eP start)(T9:x.calls.length≤40):df [x.pv,.int .i64 start]=some (.aO [.rs 5 ((Bs x.calls start).map aQ.pv),.int .i64 (qI x.calls start)]):=by
 have hm:=aT;have BX:∀y∈x.calls,y.Ok:=hx.calls.2;simp only[df,mA,R3,GM,GN,GO,IM,DJ,bu,aw,asInt,asBool,Ko,U,BY];generalize x.calls=l at T9 BX⊢;cases l with
 |nil=>rfl
 |cons c l=>
  generalize hl:c::l=cs at T9 BX⊢;have K7:cs[0]?=some c:=by rw[←hl];rfl
  have fl:0<cs.length:=by rw[←hl];simp
  have hcE:qI cs start=if(List.range cs.length).all (oA cs c.dep start)=true then 0 else 10:=by rw[←hl];rfl
  have YT:c.Ok:=BX c (by rw[←hl];simp);have cK:((cs.length:Int)==0)=false:=by grind
  have hix:fj (cs.map aQ.pv) 0=some c.pv:=by have:=aM (cs.map aQ.pv) 0;simp_all
  have fm:0≤(cs.length:Int)∧(cs.length:Int)≤(cs.length:Int)∧(cs.length:Int).toNat*32≤ae∧0<32∧0<5:=by grind [decide,ae]
  rw[cK,hix];simp only[cQ,abp,U,DA,asInt,Ko,AI fm,akW,akc,akE (anc (BY _)),BY];rw[amO (by simp),akP,BY];have PB:0≤(cs.length:Int)∧(cs.length:Int)≤(cs.length:Int)∧cs.length*32≤ae∧0<32∧0<5:=fm;have YU:bk.run dx (start,c.dep,(cs.length:Int),0,cs.map aQ.pv,())=ca ((List.range cs.length).findSome? fun k=>if oA cs c.dep start k=true then none else some (some (.aO [.rs 5 [],.int .i64 10]))) (some (.aO [.rs 5 (BZ cs (fun x=>Nj x c.dep start) cs.length),.int .i64 0])):=by
   refine br (fun k=>(start,c.dep,(cs.length:Int),(k:Int),BZ cs (fun x=>Nj x c.dep start) k,())) cs.length _ (fun k hk rec=>?_) (fun rec=>?_) ?_ ?_
   ·have h1:(k:Int)<(cs.length:Int):=by omega
    have AV:cs[k].Ok:=BX _ (aki hk);obtain⟨n1,e1,q1⟩:=B0 cs[k].arr c.dep start AV.arr YT.dep hs;obtain⟨n2,e2,q2⟩:=B0 cs[k].dep c.dep start AV.dep YT.dep hs;have hlen:=MP cs (fun x=>Nj x c.dep start) k (by omega);have fe:=MQ cs (fun x=>Nj x c.dep start) k hk;have qY:=MR cs (fun x=>Nj x c.dep start) k hk;have hr:an (k:Int) cs.length:=kL k _ hk;have ajb:oA cs c.dep start k=(AU cs[k].arr c.dep start&&AU cs[k].dep c.dep start):=by unfold oA;rw[cN hk];rfl
    have Jl:∀X,((BZ cs (fun x=>Nj x c.dep start) k).set k X)[k]?=some X:=fun X=>by simp_all
    simp only[dx,AT,h1,Ko,hlen,AI hr,akc,fe,U,Gu,Mh,DA,YV,YW,asInt,e1,e2,dn,asBool,akd,akm,Nat.reduceAdd,ajc,aka,alS,Jl,MS,over,amX,aj (show k<9223372036854775807 by omega)];grind [AU,start,ca,Nj,aQ.pv]
   ·simp[dx,AT,akB,abp]
   ·grind [rounds,decide]
   rfl
  have hF:Bs cs start=if(List.range cs.length).all (oA cs c.dep start)=true then cs.map (fun x=>Nj x c.dep start)else[]:=by unfold Bs;rw[hcE,show(cs.map aQ.dep).headD 0=c.dep by rw[←hl];rfl];simp
  rw[AI PB,YU,yL,hcE,hF];by_cases zu:(List.range cs.length).all (oA cs c.dep start)=true
  ·simp_all[AI,ca,BZ,al5,amb]
  simp_all[IS,ca]
theorem Hj(x:bg)(t:Int)(h:t∈eX x):0≤t∧t≤172800:=by
 cases hs:eI x with
 |false=>rw[GL x hs]at h;cases h
 |true=>
  rw[l9 x hs]at h;obtain⟨j,hj,rfl⟩:=akt.1 h;have hj:=akS.1 hj;have Uy:=Kk x hs;have hc:=uB x hs;obtain⟨h1,h2,h3,h4,h5⟩:=(iR x).1 hs;have SF:(j:Int)≤fO x-1:=by omega
  have Dg:(j:Int)*x.every≤(fO x-1)*x.every:=alH SF (by omega);have G8:0≤(j:Int)*x.every:=amz (by omega) (by omega);omega
theorem Km(t:Int)(s:List Int):∀l:List Int,t∈s.foldl (fun l t=>AS t l) l↔t∈l∨t∈s:=by
 induction s with
 |nil=>simp
 |cons a s ih=>grind [YR]
theorem Hk(t:Int)(fs:List bg):∀l:List Int,t∈fs.foldl instF l↔t∈l∨∃f∈fs,t∈eX f:=by
 induction fs with
 |nil=>simp
 |cons f fs ih=>intro l;rw[amn,ih];unfold instF;rw[Km];grind
theorem instI_mem(fs:List bg)(i t:Int):t∈instI fs i↔∃f∈fs,f.bO=i∧t∈eX f:=by unfold instI;rw[Hk];grind
theorem instI_range(fs:List bg)(i t:Int)(h:t∈instI fs i):0≤t∧t≤172800:=by obtain⟨f,_,_,h3⟩:=(instI_mem fs i t).1 h;exact Hj f t h3
def QD(T:ak)(k:Nat):Bool:=match T.ag[k]? with|some x=>decide ((x.calls.length:Int)>40)|none=>false
def tZ(T:ak):Prop:=∀q,q<10→(B1 T q).2=0
theorem LO(T:ak):∃p i e,ca ((List.range 10).findSome? (tG T)) (some (vO 0 0 0))=some (vO p i e)∧(e=0→tZ T):=by
 cases h:(List.range 10).findSome? (tG T)with
 |none=>
  refine⟨0,0,0,rfl,fun _ q hq=>?_⟩;have:=List.findSome?_eq_none_iff.1 h q (akS.2 hq);unfold tG at this;split at this
  ·assumption
  ·cases this
 |some r=>
  obtain⟨q,hq,hr⟩:=akM h;unfold tG at hr;split at hr
  ·cases hr
  ·rename_i cK;simp only[cO]at hr;exact⟨_,_,_,hr.symm,fun e=>absurd e cK⟩
theorem CT(f:Nat→Int)(n:Nat)(h:(cX f n).2=0)(k:Nat)(hk:k<n):f k=0:=by
 unfold cX at h;cases hf:(List.range n).findSome? (fun k=>if f k=0 then none else some ((k:Int),f k))with
 |none=>simp_all
 |some x=>rw[hf]at h;obtain⟨j,_,hj⟩:=akM hf;grind
theorem DK{c:aQ}{p:Option aQ}{stops low high:Int}(h:Il c p stops low high=0):0≤c.stop∧c.stop<stops∧low≤c.arr∧c.arr≤c.dep∧c.dep≤high∧∀q,p=some q→q.dep≤c.arr∧q.stop≠c.stop:=by unfold Il at h;grind
structure aeA(T:ak)(i:Nat)(x:bK):Prop where
 id:x.id∉(T.ag.map bK.id).take i
 two:2≤x.calls.length
 most:x.calls.length≤32
 call:∀(k:Nat)(c:aQ),x.calls[k]?=some c→0≤c.stop∧c.stop<(T.stops.length:Int)∧0≤c.arr∧c.arr≤c.dep∧c.dep≤172800
 step:∀(k:Nat)(c d:aQ),x.calls[k]?=some c→x.calls[k+1]?=some d→c.dep≤d.arr∧c.stop≠d.stop
variable{T:ak}{x:bK}
theorem GP(hV:tZ T){i:Nat}(hx:T.ag[i]?=some x):aeA T i x:=by
 have h4:(wo T.ag T.stops.length T.au.length T.eR.length).2=0:=hV 4 (by omega);unfold wo at h4;split at h4
 ·omega
 ·have hi:i<T.ag.length:=(By.1 hx).1;have he:=CT _ _ h4 i hi;unfold Kn at he;rw[hx]at he;simp only at he;split at he
  ·omega
  ·split at he
   ·omega
   ·rename_i hid;split at he
    ·omega
    ·unfold j3 at he;split at he
     ·omega
     ·rename_i hlen;simp only[akp,AT,ana]at hlen;have hc:∀(k:Nat)(c:aQ),x.calls[k]?=some c→Il c (Rb x.calls k) T.stops.length 0 172800=0:=fun k c hc=>by grind [CT,vS]
      refine⟨hid,by omega,by omega,fun k c h=>?_,fun k c d h h'=>?_⟩
      ·have:=DK (hc k c h);omega
      ·have:=(DK (hc (k+1) d h')).2.2.2.2.2 c h;omega
theorem aal(hV:tZ T){i j:Nat}{y:bK}(hx:T.ag[i]?=some x)(hy:T.ag[j]?=some y)(h:x.id=y.id):i=j:=by
 have key:∀{i j:Nat}{x y:bK},T.ag[i]?=some x→T.ag[j]?=some y→x.id=y.id→¬i<j:=fun{i j x y}hx hy h Uu=>by refine(GP hV hy).id ?_;rw[akC];refine⟨i,?_⟩;simp_all
 grind
theorem PC(hV:tZ T){k:Nat}{f:bg}(hf:T.ck[k]?=some f):0≤f.bO∧f.bO<(T.ag.length:Int)∧eI f=true∧fitsAt T.ag f=true:=by
 have h5:(wq T.ck T.ag).2=0:=hV 5 (by omega);unfold wq at h5;split at h5
 ·omega
 ·have hk:k<T.ck.length:=(By.1 hf).1;have he:=CT _ _ h5 k hk;unfold zr at he;grind
theorem PD(c:aQ)(l:List aQ)(s:Int):qI (c::l) s=0↔∀(k:Nat)(x:aQ),(c::l)[k]?=some x→0≤x.arr-c.dep+s∧x.arr-c.dep+s≤172800∧0≤x.dep-c.dep+s∧x.dep-c.dep+s≤172800:=by
 show(if(List.range (c::l).length).all (oA (c::l) c.dep s)=true then(0:Int)else 10)=0↔_;have e:(if(List.range (c::l).length).all (oA (c::l) c.dep s)=true then(0:Int)else 10)=0↔(List.range (c::l).length).all (oA (c::l) c.dep s)=true:=by simp
 rw[e,akJ];constructor
 ·intro h k x hx;have:=h k (akS.2 (By.1 hx).1);simp_all[oA,kOk,AU,No,AT]
 ·intro h k hk;unfold oA;cases hx:(c::l)[k]? with
  |none=>rfl
  |some x=>have:=h k x hx;simp_all[kOk,AU,No,AT]
theorem Ob(hV:tZ T){i:Nat}(hx:T.ag[i]?=some x){s:Int}(hs:s∈instI T.ck i):qI x.calls s=0:=by
 obtain⟨f,hf,hfi,hsf⟩:=(instI_mem _ _ _).1 hs;obtain⟨k,hk⟩:=akC.1 hf;obtain⟨_,_,Sx,mH⟩:=PC hV hk;have Jf:T.ag[f.bO.toNat]?=some x:=by simp_all
 unfold fitsAt at mH;rw[Jf]at mH;have ht:=GP hV hx;rw[l9 f Sx]at hsf;obtain⟨j,hj,rfl⟩:=akt.1 hsf;have Zq:=akS.1 hj;have hsb:=(iR f).1 Sx;have hc:=uB f Sx;have hle:(j:Int)≤fO f-1:=by omega
 have hm:(j:Int)*f.every≤(fO f-1)*f.every:=alH hle (by omega);have hm0:0≤(j:Int)*f.every:=amz (by omega) (by omega);have acs:Ac f=f.t0+(fO f-1)*f.every:=rfl;cases hl:x.calls with
 |nil=>have:=ht.two;simp_all
 |cons c l=>replace mH:GQ x f=true:=mH;unfold GQ at mH;rw[hl]at mH;simp only[No,AT]at mH;grind [qI,wu,Ac,PD]
end Go.Ab.Tt
