import Derived.Test.YtoaknfoobjnjgaaGreatRnP1
import Derived.Test.YtoaknfoobjnjgaaGreatNkP2
namespace Go.Ab.Tt
set_option maxRecDepth 100000
set_option linter.all false
theorem QG(a b:List aJ)(ha:a.length≤maxLen):tQ [.rs 5 (a.map aJ.pv),.rs 5 (b.map aJ.pv)]=some (.bool (decide (a=b))):=by
 have hm:=ar;simp only[tQ,DS,ah,BY,U,te,fb];by_cases hl:a.length=b.length
 ·rw[QU (by simp[hl])];refine(eI (fun k=>(b.map aJ.pv,a.map aJ.pv,(a.length:Int),(k:Int),())) a.length (fun k=> !decide (a[k]?=b[k]?)) (no:=some (.bool false)) (fin:=some (.bool true)) (fun k hk rec=>?_) (fun rec=>?_) ?_ rfl).trans (Ki hl)
  ·have h1:(k:Int)<(a.length:Int):=by omega
   have hkb:k<b.length:=by omega
   simp only[xM,tc,h1,BY,af,AT,ta hk,ta hkb,IS,U,ag (show k<9223372036854775807 by omega),tb];rw[No ⟨rfl,rfl⟩,QE]
  ·simp[xM,tc,an6,OF]
  ·have:=aF;omega
 ·rw[No (by simp;omega)];have:¬a=b:=fun e=>hl (by rw[e]);simp[this]
theorem MC(x y:bg)(hx:x.calls.length≤maxLen):sg [x.pv,y.pv]=some (.bool (decide (x=y))):=by simp only[sg,Gn,SI,ET,EU,NP,SJ,SK,Xr,Xs,EV,asInt,aZ,asBool,ah,BY,U,QG x.calls y.calls hx,bI,cZ];rw[QF]
theorem aeo(l:List bg)(r:bg):(List.range l.length).any (fun k=>decide (l[k]?=some r))=decide (r∈l):=by simp[lQ,aoa,aoJ]
def cN(T:aj)(r:bg):Bool:=lC r.day&&decide (r∈dq T r.day)
theorem X9(T:aj)(hT:ot T)(gg:T.Ok)(r:bg):rn [T.pv,r.pv]=some (.bool (cN T r)):=by
 simp only[rn,B0,NC,ND,NF,NG,NH,NI,NJ,NK,NL,NM,NN,zn,zo,zp,SI,ET,EU,NP,SJ,SK,Xr,Xs,EV,ah,asInt,aZ,asBool,BY,U,Ri,Qt];unfold cN;cases hd:lC r.day with
 |false=>rfl
 |true=>
  have hl:=B4 T hT r.day;simp only[alk,AI,OF,Wd T hT gg r.day,U,ah,BY,ao4];refine(eI (fun k=>((dq T r.day).map bg.pv,(k:Int),r.bn,r.day,r.inst,r.id,r.bX,r.free,r.Bh,r.calls.map aJ.pv,())) (dq T r.day).length (fun k=>decide ((dq T r.day)[k]?=some r)) (no:=some (.bool true)) (fin:=some (.bool false)) (fun k hk rec=>?_) (fun rec=>?_) ?_ rfl).trans ?_
  ·have h1:(k:Int)<((dq T r.day).length:Int):=by omega
   have hs:=acC (dq T r.day)[k] r (aov (Df hT (an7 hk)) (by decide));rw[show r.pv=.agg [.int .i64 r.bn,.int .i64 r.day,.int .i64 r.inst,.str r.id,.int .i64 r.bX,.bool r.free,.bool r.Bh,.rs 5 (r.calls.map aJ.pv)]from rfl]at hs;simp only[vr,tc,te,h1,BY,af,AT,ta hk,IS,U,aar,hs,asBool,tb,ag (show k<9223372036854775807 by omega)]
  ·simp[vr,tc,te,an6,OF]
  ·grind [rounds,decide]
  ·rw[aeo];grind
theorem acD(x:bj)(SE:x.Ok)(Ar:x.calls.length≤40)(i day:Int)(r:bg)(s:List Int)(hs:∀t∈s,0≤t∧t≤172800)(KK:s.length≤172800000):aV.run lS (day,s.map iv,(s.length:Int),0,r.bn,r.day,r.inst,r.id,r.bX,r.free,r.Bh,r.calls.map aJ.pv,false,cell x.pv 0,cell x.pv 1,cell x.pv 2,cell x.pv 3,cell x.pv 4,i,day,0,x.id,x.bX,x.free,false,[],())=some (.bool (decide (r∈(List.range s.length).map fun(k:Nat)=>bY x i day k (bl x.calls (s.getD k 0))))):=by
 refine(eI (fun k=>(day,s.map iv,(s.length:Int),(k:Int),r.bn,r.day,r.inst,r.id,r.bX,r.free,r.Bh,r.calls.map aJ.pv,false,cell x.pv 0,cell x.pv 1,cell x.pv 2,cell x.pv 3,cell x.pv 4,i,day,QC k,x.id,x.bX,x.free,false,Fh x day s k,())) s.length (fun k=>decide (bY x i day k (bl x.calls (s.getD k 0))=r)) (no:=some (.bool true)) (fin:=some (.bool false)) (fun k hk rec=>?_) (fun rec=>?_) ?_ rfl).trans ?_
 ·have h1:(k:Int)<(s.length:Int):=by omega
  have ci:∀n:Int,cell (iv n) 0=.int .i64 n:=fun _=>rfl;have hr:=hs s[k] (an7 hk);have qn:=wB x.calls s[k];have W0:s.getD k 0=s[k]:=B3 s k hk;have ah0:qj s[k]:=(dU _).2 (by omega);have hlC:Fh x day s (k+1)=((bl x.calls s[k]).map (yC (fP day))).map aJ.pv:=by simp only[Fh,W0]
  have hfc:=MA x SE s[k] ah0 Ar;rw[←ale x]at hfc;have hsh:=zT (bl x.calls s[k]) (fP day) (by omega);have WX:=MC (bY x i day k (bl x.calls s[k])) r (aov (show _≤40 by grind [bY,List.length_map]) (by decide));rw[show r.pv=.agg [.int .i64 r.bn,.int .i64 r.day,.int .i64 r.inst,.str r.id,.int .i64 r.bX,.bool r.free,.bool r.Bh,.rs 5 (r.calls.map aJ.pv)]from rfl,show(bY x i day k (bl x.calls s[k])).pv=.agg [.int .i64 i,.int .i64 day,.int .i64 k,.str x.id,.int .i64 x.bX,.bool x.free,.bool false,.rs 5 (((bl x.calls s[k]).map (yC (fP day))).map aJ.pv)]from rfl]at WX;rw[hlC,W0];unfold fP at hsh WX;simp only[lS,tc,h1,BY,af,tN,ta hk,IS,U,ci,asInt,hfc,bN,ah,alx,an5,Nat.reduceAdd,aev,ali,hsh,WX,asBool,ari,ag (show k<9223372036854775807 by omega)];by_cases he:bY x i day k (bl x.calls s[k])=r
  ·rw[No he,he];simp
  ·rw[QU he];simp only[he,aoo];rfl
 ·simp[lS,tc,an6,OF]
 ·grind [rounds,decide]
 grind
theorem La(T:aj)(hT:ot T)(gg:T.Ok)(r:bg):jT [T.pv,r.pv]=some (.bool (cN T r)):=by
 have hkn:cN T r=(lC r.day&&decide (r∈dq T r.day)):=rfl;simp only[jT,xD,NC,ND,NF,NG,NH,NI,NJ,NK,NL,NM,NN,zn,zo,zp,SI,ET,EU,NP,SJ,SK,Xr,Xs,EV,ah,asInt,aZ,asBool,BY,U,te,aT,wx];rw[hkn];by_cases hr:(decide (r.bn<0)||decide (r.bn≥(T.ae.length:Int)))=true
 ·have A1:¬r∈dq T r.day:=fun hm=>by obtain⟨i,x,hx,hi,_⟩:=H3.1 hm;grind
  simp_all
 ·simp only[aoZ]at hr;simp only[hr,apO];cases hd:lC r.day with
  |false=>rfl
  |true=>
   simp only[aoC,aoP]at hr;obtain⟨i,hi⟩:∃i:Nat,r.bn=i:=⟨r.bn.toNat,by omega⟩;have I0:i<T.ae.length:=by omega
   obtain⟨x,hxx⟩:∃x,T.ae[i]=x:=⟨_,rfl⟩;have hx:T.ae[i]?=some x:=by simp_all
   have Ec:x∈T.ae:=an4 hx;have bk:(r∈dq T r.day)↔r∈dx T i x r.day:=by grind [H3]
   have am5:=Ht T.dK gg.dK.1 T.mc gg.mc.1 x.xK r.day;have kF:=Kh T.aU gg.aU.1 (i:Int);have Z5:=Mz T.aU (aov hT.aU (by omega)) (i:Int);simp only[alk,U,cond_false,AI,OF,hi,af,AT,hx,IS,qy,rY,qz,vp,mC,asInt,aZ,asBool,ah,BY,am5,kF,Z5,ao4];cases ha:wy T.dK T.mc x.xK r.day with
   |false=>
    have ht:dx T i x r.day=[]:=by unfold dx;rw[No ha]
    simp_all
   |true=>
    simp only[alk,AI,OF];cases hrp:qM T.aU i with
    |false=>
     have ht:dx T i x r.day=[bY x i r.day 0 x.calls]:=by simp_all[dx,QU,No]
     have hm':decide (r∈dq T r.day)=decide (bY x i r.day 0 x.calls=r):=aqn.2 (by grind);rw[hm'];have hsh:=zT x.calls (fP r.day) (aov (hT.small x Ec) (by omega));have WX:=MC (bY x i r.day 0 x.calls) r (aov (show _≤40 by simp only[bY,te];exact hT.small x Ec) (by decide));rw[show r.pv=.agg [.int .i64 r.bn,.int .i64 r.day,.int .i64 r.inst,.str r.id,.int .i64 r.bX,.bool r.free,.bool r.Bh,.rs 5 (r.calls.map aJ.pv)]from rfl,show(bY x i r.day 0 x.calls).pv=.agg [.int .i64 i,.int .i64 r.day,.int .i64 0,.str x.id,.int .i64 x.bX,.bool x.free,.bool false,.rs 5 ((x.calls.map (yC (fP r.day))).map aJ.pv)]from rfl,hi]at WX;simp_all[fP,aoj,BY,U,ah,asBool]
    |true=>
     have ht:dx T i x r.day=(List.range (instI T.aU i).length).map fun(k:Nat)=>bY x i r.day k (bl x.calls ((instI T.aU i).getD k 0)):=by simp_all[dx,QU]
     have hm':decide (r∈dq T r.day)=decide (r∈(List.range (instI T.aU i).length).map fun(k:Nat)=>bY x i r.day k (bl x.calls ((instI T.aU i).getD k 0))):=aqn.2 (by rw[bk,ht]);rw[hm'];simp only[alk,AI,OF];have:=acD x (gg.ae.2 x Ec) (hT.small x Ec) i r.day r (instI T.aU i) (fun t ht=>instI_range _ _ _ ht) (instI_len _ (aov hT.aU (by omega)) _);rw[hi]at this;simp only[te];exact this
def k3(k:Int×Int×Int):PV:=.agg [.int .i64 k.1,.int .i64 k.2.1,.int .i64 k.2.2]
theorem acE(a b:Int×Int×Int):bO (k3 a).cells (k3 b).cells=decide (a=b):=by obtain⟨a1,a2,a3⟩:=a;obtain⟨b1,b2,b3⟩:=b;rw[aoy];simp[k3,PV.cells,bO,peq]
def kat(l:List bg)(k:Int×Int×Int)(i:Nat):Bool:=match l[i]? with|some r=>decide (r.key=k)|none=>false
def gz(l:List bg)(k:Int×Int×Int)(n:Nat):Option Nat:=(List.range n).find? (kat l k)
def Lb(l:List bg)(n:Nat):List (PV×PV):=(List.range n).filterMap fun(i:Nat)=>(l[i]?).map fun(r:bg)=>(k3 r.key,PV.int .i64 (i:Int))
theorem GC(l:List bg)(n:Nat)(h:n<l.length):Lb l (n+1)=Lb l n++[(k3 l[n].key,.int .i64 (n:Int))]:=by simp_all[Lb,aoQ,List.filterMap_append,ta]
theorem Kk(l:List bg)(k)(n:Nat):gz l k (n+1)=(gz l k n).or (if kat l k n=true then some n else none):=by unfold gz;rw[aoQ,List.find?_append,aqs,List.find?_nil];grind
theorem acF(k:PV)(a:List (PV×PV))(b:List (PV×PV)):ml k (a++b)=(ml k a||ml k b):=by
 induction a with
 |nil=>rfl
 |cons x a ih=>simp_all[apt,ml,Bool.or_assoc]
theorem Ya(k z:PV)(a:List (PV×PV))(b:List (PV×PV)):bS k z (a++b)=if ml k a=true then bS k z a else bS k z b:=by
 induction a with
 |nil=>rfl
 |cons x a ih=>grind [bS,ml,bO]
theorem acG(k v:PV)(a:List (PV×PV))(h:ml k a=false):dd k v a=a++[(k,v)]:=by
 induction a with
 |nil=>rfl
 |cons x a ih=>simp_all[ml,aoC,dd,AI,OF,apt]
theorem Ia{l:List bg}{k}{n:Nat}(h:n<l.length):kat l k n=decide (l[n].key=k):=by grind [kat,List.getElem?_eq_getElem]
theorem yM(l:List bg)(k):∀n,n≤l.length→ml (k3 k) (Lb l n)=(gz l k n).isSome
 |0,_=>rfl
 |n+1,h=>by rw[GC l n h,acF,yM l k n (by omega),Kk,Ia h];simp only[ml,acE,ao5];grind
theorem GD(l:List bg)(k)(z:PV):∀n,n≤l.length→bS (k3 k) z (Lb l n)=match gz l k n with|some i=>.int .i64 (i:Int)|none=>z
 |0,_=>rfl
 |n+1,h=>by rw[GC l n h,Ya,yM l k n (by omega),GD l k z n (by omega),Kk,Ia h];simp only[bS,acE];have hd:decide (k=l[n].key)=decide (l[n].key=k):=aqn.2 eq_comm;grind [gz]
theorem acH(m:List (PV×PV)):(m.map fun x=>x.fst).zip (m.map fun x=>x.snd)=m:=by
 induction m with
 |nil=>rfl
 |cons x m ih=>simp_all
def CP(T:aj)(l:List bg)(i:Nat):Option Int:=match l[i]? with
 |some r=>if cN T r=false then some 9 else if(gz l r.key i).isSome=true then some 6 else none
 |none=>none
def Km(T:aj)(l:List bg):Option Int:=(List.range l.length).findSome? (CP T l)
def mpv(l:List bg):PV:=.rm 253 ((Lb l l.length).map fun x=>x.fst) ((Lb l l.length).map fun x=>x.snd)
theorem Tv(T:aj)(hT:ot T)(gg:T.Ok)(l:List bg)(hl:l.length≤maxLen):tR [T.pv,.rs 8 (l.map bg.pv)]=some (match Km T l with|some e=>.aI [.od,.int .i64 e]|none=>.aI [mpv l,.int .i64 0]):=by
 have hm:=ar;simp only[tR,DT,NC,ND,NF,NG,NH,NI,NJ,NK,NL,NM,NN,zn,zo,zp,ah,asInt,BY,U,te];refine(aB (fun k=>(l.map bg.pv,(l.length:Int),(k:Int),sd T (Lb l k,()))) l.length (fun k=>(CP T l k).map fun e=>some (.aI [.od,.int .i64 e])) (fin:=some (.aI [mpv l,.int .i64 0])) (fun k hk rec=>?_) (fun rec=>?_) ?_ ?_).trans ?_
 ·have h1:(k:Int)<(l.length:Int):=by omega
  have ho:jT [T.pv,PV.agg [.int .i64 l[k].bn,.int .i64 l[k].day,.int .i64 l[k].inst,cell l[k].pv 3,cell l[k].pv 4,cell l[k].pv 5,cell l[k].pv 6,cell l[k].pv 7]]=_:=La T hT gg l[k];have hb:CP T l k=if cN T l[k]=false then some 9 else if(gz l l[k].key k).isSome=true then some 6 else none:=by grind [CP,List.getElem?_eq_getElem]
  have tD:∀r:bg,PV.agg [.int .i64 r.bn,.int .i64 r.day,.int .i64 r.inst]=k3 r.key:=fun _=>rfl;have ko:(asInt .i64 (match gz l l[k].key k with|some i=>.int .i64 (i:Int)|none=>PV.int .i64 0))=some (match gz l l[k].key k with|some i=>(i:Int)|none=>0):=by cases gz l l[k].key k<;>rfl
  simp only[sd];simp only[xN,tc,h1,BY,af,AT,ta hk,IS,U,Ri,aar,ho,asBool,ET,EU,NP,asInt,tD,GD l _ _ k (aqj hk),yM l _ k (aqj hk),ag (show k<9223372036854775807 by omega)];rw[hb];cases cN T l[k]with
  |false=>rfl
  |true=>
   simp only[alk,AI,OF,aod];cases hf:gz l l[k].key k with
   |some i=>rfl
   |none=>
    have A1:ml (k3 l[k].key) (Lb l k)=false:=by rw[yM l _ k (aqj hk),hf];rfl
    rw[acG _ _ _ A1,←GC l k hk];rfl
 ·simp only[xN,sd,tc,an6,OF];rfl
 ·have:=aF;omega
 ·rfl
 ·unfold Km;have:∀L:List Nat,(L.findSome? fun k=>(CP T l k).map fun e=>some (PV.aI [.od,.int .i64 e]))=(L.findSome? (CP T l)).map fun e=>some (PV.aI [.od,.int .i64 e]):=fun L=>by
   induction L with
   |nil=>rfl
   |cons a L ih=>grind
  rw[this];cases(List.range l.length).findSome? (CP T l)<;>rfl
variable{T:aj}
theorem CA(hV:cz T){x:gC}(hx:x∈T.cw):ob x.a x.b T.ae.length=false∧gS T.aU x.a x.b=false:=by
 obtain⟨k,hk⟩:=aoh.1 hx;have h6:(pj T.cw T.ae T.aU).2=0:=hV 6 (by omega);unfold pj at h6;by_cases h:T.cw.length>128
 ·simp_all
 ·rw[QU h]at h6;have he:=jX _ _ h6 k (IN.1 hk).1;unfold Bn at he;grind
theorem Ea(hV:cz T){g:gD}(hg:g∈T.bM):∃(i j:Nat)(p q:bj),g.a=i∧g.b=j∧T.ae[i]?=some p∧T.ae[j]?=some q∧qM T.aU g.a=false∧qM T.aU g.b=false∧kc p.calls q.calls g.stop=true:=by
 obtain⟨k,hk⟩:=aoh.1 hg;have h7:(kz T.bM T.ae T.aU T.stops.length).2=0:=hV 7 (by omega);unfold kz at h7;by_cases h:T.bM.length>128
 ·simp_all
 ·rw[QU h]at h7;have he:=jX _ _ h7 k (IN.1 hk).1;unfold wK at he;rw[hk]at he;simp only at he;by_cases h1:(ob g.a g.b T.ae.length|| !CQ g.stop T.stops.length)=true
  ·simp_all
  ·rw[QU h1]at he;by_cases h2:gS T.aU g.a g.b=true
   ·simp_all
   ·rw[QU h2]at he;simp only[aon,aq5,aoZ]at h1;obtain⟨i,j,hi,hj,I0,tf⟩:=zB g.a g.b T.ae h1.1;have hp:T.ae[g.a.toNat]?=some T.ae[i]:=by simp_all
    have hq:T.ae[g.b.toNat]?=some T.ae[j]:=by simp_all
    rw[hp,hq]at he;simp only at he;have hr:qM T.aU g.a=false∧qM T.aU g.b=false:=by simp_all[gS]
    grind
theorem qN{r:bg}(hk:cN T r=true)(hr:qM T.aU r.bn=false):lC r.day=true∧∃(i:Nat)(x:bj),r.bn=i∧T.ae[i]?=some x∧r=bY x i r.day 0 x.calls:=by unfold cN at hk;rw[aeu,tc]at hk;obtain⟨i,x,hx,hi,hm⟩:=H3.1 hk.2;refine⟨hk.1,i,x,hi,hx,?_⟩;unfold dx at hm;grind
theorem Yb(D s:Int)(l:List aJ):vt (l.map (yC D)) s=vt l s:=by funext k;unfold vt;rw[AT];cases l[k]? <;>rfl
theorem Yc(D s:Int)(l:List aJ):sX (l.map (yC D)) s=sX l s:=by funext k;unfold sX;rw[AT,te];cases l[k]? <;>rfl
theorem QH(hV:cz T){i j:Nat}{p q:bj}(hp:T.ae[i]?=some p)(hq:T.ae[j]?=some q){d:Int}(hd:lC d=true)(s:Int):kc (p.calls.map (yC (fP d))) (q.calls.map (yC (fP d))) s=kc p.calls q.calls s:=by
 obtain⟨_,hD0,hD1⟩:=HZ hd;have tp:=kR hV hp;have tq:=kR hV hq;unfold kc;rw[Yb,Yc,te,te];cases(List.range p.calls.length).find? (vt p.calls s)with
 |none=>rfl
 |some a=>
  cases(List.range q.calls.length).find? (sX q.calls s)with
  |none=>rfl
  |some b=>
   simp only[YR,AT];cases ha:p.calls[a]? with
   |none=>rfl
   |some x=>
    cases hb:q.calls[b]? with
    |none=>rfl
    |some y=>have hx:=tp.call a x ha;have hy:=tq.call b y hb;have e1:(yC (fP d) x).arr=x.arr+fP d:=aY (by omega) (by omega);have e2:(yC (fP d) y).dep=y.dep+fP d:=aY (by omega) (by omega);simp_all
def mI(a b:List aJ)(s:Int):Int×Int:=match(List.range a.length).find? (vt a s)with
 |none=>(0,0)
 |some i=>match(List.range b.length).find? (sX b s)with
  |none=>(0,0)
  |some k=>if YR a b i k=true then((i:Int),(k:Int))else(0,0)
theorem QI(a b:List aJ)(s:Int):wL a b s=.aI [.int .i64 (mI a b s).1,.int .i64 (mI a b s).2,.bool (kc a b s)]:=by
 unfold wL mI kc;cases(List.range a.length).find? (vt a s)with
 |none=>rfl
 |some i=>
  cases(List.range b.length).find? (sX b s)with
  |none=>rfl
  |some k=>grind [QJ,YR]
def cF(T:aj)(l:List bg)(a:Nat)(r:bg):Option aR:=(dN T.cw r.bn).bind fun n=>(gz l (n,r.day,0) l.length).map fun(b:Nat)=>(⟨(a:Int),(r.calls.length:Int)-1,(b:Int),0,true⟩:aR)
def mz(T:aj)(l:List bg)(a:Nat)(r:bg)(g:gD):Option aR:=
 if g.a=r.bn then(gz l (g.b,r.day,0) l.length).bind fun b=>(l[b]?).bind fun q=>
  if kc r.calls q.calls g.stop=false∨cF T l a r=some ⟨a,(mI r.calls q.calls g.stop).1,b,(mI r.calls q.calls g.stop).2,true⟩then none
  else some ⟨a,(mI r.calls q.calls g.stop).1,b,(mI r.calls q.calls g.stop).2,false⟩
 else none
def fS(T:aj)(l:List bg)(a:Nat)(r:bg):List aR:=(cF T l a r).toList++T.bM.filterMap (mz T l a r)
variable{l:List bg}
theorem uQ{k}{b:Nat}(h:gz l k l.length=some b):b<l.length∧∃r,l[b]?=some r∧r.key=k:=by grind [gz,List.mem_of_find?_eq_some,kat,List.getElem?_eq_getElem]
theorem B6{A B:Type}(f:A→Option B)(l:List A)(k:Nat)(h:k<l.length):(l.take (k+1)).filterMap f=(l.take k).filterMap f++(f l[k]).toList:=by grind [List.take_succ_eq_append_getElem]
theorem aep(s:aR)(a i b k:Int):bO [PV.int .i64 s.a,.int .i64 s.ac,.int .i64 s.b,.int .i64 s.bc,.bool s.stay] [PV.int .i64 a,.int .i64 i,.int .i64 b,.int .i64 k,.bool true]=decide (s=⟨a,i,b,k,true⟩):=by obtain⟨s0,s1,s2,s3,s4⟩:=s;rw[aoy];simp[bO,peq]
def Yd(s:Option aR):aR:=s.getD ⟨-1,0,0,0,false⟩
theorem ah3(s:Option aR)(a:Nat)(i b k:Int):decide (Yd s=⟨a,i,b,k,true⟩)=decide (s=some ⟨a,i,b,k,true⟩):=by
 refine aqn.2 ?_;cases s with
 |none=>simp[Yd]
 |some x=>simp[Yd]
theorem Ol(l:List PV)(h:l.length≤1000000):l.length*40≤ab∧0<40:=⟨by unfold ab;omega,by omega⟩
theorem Kn(o:Option aR):o.toList.length≤1:=by simp
theorem Tw{A B:Type}(f:A→Option B)(l:List A):(l.filterMap f).length≤l.length:=List.length_filterMap_le f l
def lkI(o:Option Nat):Int:=match o with|some i=>(i:Int)|none=>0
theorem Ko(l:List bg)(k):bS (k3 k) (.int .i64 0) (Lb l l.length)=.int .i64 (lkI (gz l k l.length)):=by rw[GD l k _ _ (aoa _)];cases gz l k l.length<;>rfl
theorem QK(i:Nat):lkI (some i)=(i:Int):=rfl
theorem aeq(T:aj)(hT:ot T)(l:List bg)(hl:l.length≤1024)(hc:∀r∈l,r.calls.length≤40)(a:Nat)(r:bg)(ha:l[a]?=some r):aV.run (kV aV) (l.map bg.pv,mpv l,(a:Int),T.bM.map gD.pv,(T.bM.length:Int),0,(cF T l a r).toList.map aR.pv,cell r.pv 0,cell r.pv 1,cell r.pv 2,cell r.pv 3,cell r.pv 4,cell r.pv 5,cell r.pv 6,cell r.pv 7,(Yd (cF T l a r)).a,(Yd (cF T l a r)).ac,(Yd (cF T l a r)).b,(Yd (cF T l a r)).bc,(Yd (cF T l a r)).stay,())=some (.rs 5 ((fS T l a r).map aR.pv)):=by
 have alg:=hT.bM;have Sa:=hc r (an4 ha);have hs1:=Kn (cF T l a r);obtain⟨st,fo⟩:∃st,cF T l a r=st:=⟨_,rfl⟩;refine aM (fun(k:Nat)=>(l.map bg.pv,mpv l,(a:Int),T.bM.map gD.pv,(T.bM.length:Int),(k:Int),((cF T l a r).toList++(T.bM.take k).filterMap (mz T l a r)).map aR.pv,cell r.pv 0,cell r.pv 1,cell r.pv 2,cell r.pv 3,cell r.pv 4,cell r.pv 5,cell r.pv 6,cell r.pv 7,(Yd (cF T l a r)).a,(Yd (cF T l a r)).ac,(Yd (cF T l a r)).b,(Yd (cF T l a r)).bc,(Yd (cF T l a r)).stay,())) T.bM.length (fun k hk rec=>?_) (fun rec=>?_) ?_ ?_
 ·have h1:(k:Int)<(T.bM.length:Int):=by omega
  obtain⟨g,hg⟩:∃g,T.bM[k]=g:=⟨_,rfl⟩;have tD:PV.agg [.int .i64 g.b,.int .i64 r.day,.int .i64 0]=k3 (g.b,r.day,0):=rfl;have KA:=Tw (mz T l a r) (T.bM.take k);rw[aoz]at KA;have bw:∀X:PV,(((cF T l a r).toList++(T.bM.take k).filterMap (mz T l a r)).map aR.pv++[X]).length*40≤ab∧0<40:=fun X=>Ol _ (by grind);have qx:((cF T l a r).toList++(T.bM.take (k+1)).filterMap (mz T l a r)).map aR.pv=((cF T l a r).toList++(T.bM.take k).filterMap (mz T l a r)).map aR.pv++(mz T l a r g).toList.map aR.pv:=by simp_all[B6,aow,aos]
  rw[qx];generalize ((cF T l a r).toList++(T.bM.take k).filterMap (mz T l a r)).map aR.pv=ov at bw;simp only[kV,tc,h1,BY,af,AT,ta hk,hg,IS,U,QL,QM,QN,ET,EU,EV,asInt,ah,mpv,cJ,acH,tD,Ko,yM l _ _ (aoa _),fb];unfold mz;by_cases hga:g.a=r.bn
  ·simp only[hga,aot,alk,cond_false,U,BY];cases hf:gz l (g.b,r.day,0) l.length with
   |none=>simp only[apS,aoj,BY,Option.bind_none,apr,ape,aoM,ag (show k<9223372036854775807 by omega)]
   |some b=>
    obtain⟨Rh,q,hq,R8⟩:=uQ hf;have hqc:=hc q (an4 hq);have hmp:=Kp r.calls q.calls (aov Sa (by decide)) (aqA hqc (by decide)) g.stop;rw[QI]at hmp;simp only[aqa,QK,alk,AI,OF,af,AT,hq,IS,U,EV,ah,BY,hmp,bN,asInt,asBool,alx,an5,Nat.reduceAdd,aev,ali,aep,ah3,aoe];cases hm:kc r.calls q.calls g.stop with
    |false=>simp only[aoj,cond_true,U,BY,true_or,apr,ape,aoM,ag (show k<9223372036854775807 by omega)]
    |true=>
     simp only[alk,cond_false,U,aod,false_or,tc];by_cases he:cF T l a r=some ⟨a,(mI r.calls q.calls g.stop).1,b,(mI r.calls q.calls g.stop).2,true⟩
     ·rw[No he,No he];grind [Option.toList_none,ag]
     ·rw[QU he,QU he];have hrm:=bw (PV.agg [.int .i64 (a:Int),.int .i64 (mI r.calls q.calls g.stop).1,.int .i64 (b:Int),.int .i64 (mI r.calls q.calls g.stop).2,.bool false]);refine(No hrm).trans ?_;rw[ag (show k<9223372036854775807 by omega)];rfl
  ·simp only[hga,aoo,aoj,cond_true,U,BY,OF,apr,ape,aoM,ag (show k<9223372036854775807 by omega)]
 ·simp[kV,tc,an6,OF,aoJ,fS]
 ·grind [rounds,decide]
 simp
theorem aer(T:aj)(hT:ot T)(gg:T.Ok)(l:List bg)(hl:l.length≤1024)(hc:∀r∈l,r.calls.length≤40)(a:Nat)(r:bg)(ha:l[a]?=some r):CG [T.pv,.rs 8 (l.map bg.pv),mpv l,.int .i64 a]=some (.rs 5 ((fS T l a r).map aR.pv)):=by
 have Sa:=hc r (an4 ha);have Au:=aeq T hT l hl hc a r ha;have qx:=GF T.cw gg.cw.1 r.bn;simp only[CG,Od,NC,ND,NF,NG,NH,NI,NJ,NK,NL,NM,NN,zn,zo,zp,ah,asInt,BY,U,mpv,cJ,af,AT,ha,IS,ET,EU,EV,qx];unfold cF at Au;cases hn:dN T.cw r.bn with
 |none=>rw[hn]at Au;simp only[nM,bN,asInt,asBool,alx,an5,Nat.reduceAdd,BY,U,aev,ali,AI,OF,te];exact Au
 |some n=>
  rw[hn]at Au;have tD:PV.agg [.int .i64 n,.int .i64 r.day,.int .i64 0]=k3 (n,r.day,0):=rfl;simp only[nM,bN,asInt,asBool,alx,an5,Nat.reduceAdd,BY,U,aev,ali,acH,tD,Ko,yM l _ _ (aoa _)];simp only[aoe]at Au;cases hf:gz l (n,r.day,0) l.length with
  |none=>rw[hf]at Au;simp only[apS,AI,OF,U,te];exact Au
  |some b=>rw[hf]at Au;have hw:IntKind.i64.wrap ((r.calls.length:Int)-1)=(r.calls.length:Int)-1:=aY (by omega) (by omega);simp only[aqa,QK,BY,U,ah,te,hw];exact Au
def QO(l:List bg)(n d:Int)(i:Nat):Bool:=match l[i]? with|some r=>decide (r.bn=n)&&decide (r.day=d)|none=>false
theorem ah4(l:List bg)(hl:l.length≤maxLen)(n d:Int):lT [.rs 8 (l.map bg.pv),.int .i64 n,.int .i64 d]=some (.int .i64 (Av ((List.range l.length).find? (QO l n d)))):=by
 have hm:=ar;simp only[lT,D5,ah,asInt,BY,U];refine(aB (fun k=>(l.map bg.pv,n,d,(k:Int),())) l.length (fun k=>if QO l n d k=true then some (some (.int .i64 (k:Int)))else none) (fin:=some (.int .i64 (-1))) (fun k hk rec=>?_) (fun rec=>?_) ?_ rfl).trans ?_
 ·have h1:(k:Int)<(l.length:Int):=by omega
  have ht:QO l n d k=(decide (l[k].bn=n)&&decide (l[k].day=d)):=by grind [QO,List.getElem?_eq_getElem]
  simp only[xO,tc,te,h1,BY,af,AT,ta hk,IS,U,ET,EU,asInt,cZ,bI,ag (show k<9223372036854775807 by omega),ht];cases(decide (l[k].bn=n)&&decide (l[k].day=d))<;>rfl
 ·simp[xO,tc,te,an6,OF]
 ·have:=aF;omega
 ·rw[gZ (QO l n d) (fun k=>some (PV.int .i64 (k:Int)))];cases(List.range l.length).find? (QO l n d)<;>rfl
variable{n:Int}
theorem ah5(hk:∀r∈l,cN T r=true){d:Int}(hn:qM T.aU n=false):QO l n d=kat l (n,d,0):=by
 funext i;unfold QO kat;cases h:l[i]? with
 |none=>rfl
 |some r=>
  simp only;rw[aoy,aeu,tc,tc,tc];unfold bg.key;simp only[afu];constructor
  ·rintro⟨h1,h2⟩;obtain⟨_,j,x,_,_,e⟩:=qN (hk r (an4 h)) (by rw[h1];omega);exact⟨h1,h2,by rw[e];rfl⟩
  omega
theorem QP(hl:l.length≤maxLen)(hk:∀r∈l,cN T r=true)(d:Int)(hn:qM T.aU n=false):lT [.rs 8 (l.map bg.pv),.int .i64 n,.int .i64 d]=some (.int .i64 (Av (gz l (n,d,0) l.length))):=by rw[ah4 l hl,ah5 hk hn];rfl
theorem QQ{a:Nat}{r:bg}{b:Nat}{i k:Int}(hb:gz l (n,r.day,0) l.length=some b):cF T l a r=some ⟨a,i,b,k,true⟩↔dN T.cw r.bn=some n∧i=(r.calls.length:Int)-1∧k=0:=by
 unfold cF;constructor
 ·intro h;obtain⟨m,hm,h⟩:=By.1 h;obtain⟨b',jn,h⟩:=alj.1 h;simp only[aR.mk.injEq,true_and,ark]at h;have e:b'=b:=by omega
  subst e;obtain⟨_,q,hq,Zv⟩:=uQ hb;obtain⟨_,q',IM,OC⟩:=uQ jn;simp_all
 simp_all
theorem acI(hV:cz T){t:Int}(h:dN T.cw t=some n):qM T.aU n=false:=by unfold dN at h;obtain⟨x,hx,rfl⟩:=alj.1 h;have:=(CA hV (apm hx)).2;simp_all[gS,aoC]
theorem Ye(T:aj)(hT:ot T)(hV:cz T)(l:List bg)(hl:l.length≤1024)(hk:∀r∈l,cN T r=true)(hc:∀r∈l,r.calls.length≤40)(a:Nat)(r:bg)(ha:l[a]?=some r)(nx:Int)(ok:Bool)(hnx:∀x,(ok&&decide (nx=x))=decide (dN T.cw r.bn=some x)):aV.run (j1 aV) (l.map bg.pv,(a:Int),nx,ok,0,sd T ((cF T l a r).toList.map aR.pv,cell r.pv 0,cell r.pv 1,cell r.pv 2,cell r.pv 3,cell r.pv 4,cell r.pv 5,cell r.pv 6,cell r.pv 7,()))=some (.rs 5 ((fS T l a r).map aR.pv)):=by
 have alg:=hT.bM;have hrm:=an4 ha;have Sa:=hc r hrm;have hs1:=Kn (cF T l a r);refine aM (fun(k:Nat)=>(l.map bg.pv,(a:Int),nx,ok,(k:Int),sd T (((cF T l a r).toList++(T.bM.take k).filterMap (mz T l a r)).map aR.pv,cell r.pv 0,cell r.pv 1,cell r.pv 2,cell r.pv 3,cell r.pv 4,cell r.pv 5,cell r.pv 6,cell r.pv 7,()))) T.bM.length (fun k xU rec=>?_) (fun rec=>?_) ?_ ?_
 ·have h1:(k:Int)<(T.bM.length:Int):=by omega
  obtain⟨g,hg⟩:∃g,T.bM[k]=g:=⟨_,rfl⟩;have th:g∈T.bM:=hg▸an7 xU;obtain⟨gi,gj,gp,gq,hgi,hgj,hgp,hgq,hra,hrb,hmt⟩:=Ea hV th;have KA:=Tw (mz T l a r) (T.bM.take k);rw[aoz]at KA;have bw:∀X:PV,(((cF T l a r).toList++(T.bM.take k).filterMap (mz T l a r)).map aR.pv++[X]).length*40≤ab∧0<40:=fun X=>Ol _ (by grind);have qx:((cF T l a r).toList++(T.bM.take (k+1)).filterMap (mz T l a r)).map aR.pv=((cF T l a r).toList++(T.bM.take k).filterMap (mz T l a r)).map aR.pv++(mz T l a r g).toList.map aR.pv:=by simp_all[B6,aow,aos]
  rw[qx];generalize ((cF T l a r).toList++(T.bM.take k).filterMap (mz T l a r)).map aR.pv=ov at bw;simp only[sd];simp only[j1,tc,te,h1,BY,af,AT,ta xU,hg,IS,U,QL,QM,QN,ET,EU,EV,asInt,ah,fb];unfold mz;by_cases hga:g.a=r.bn
  ·have hfk:=QP (T:=T) (aov hl (by decide)) hk r.day hrb;simp only[hga,aot,alk,AI,OF,BY,hfk,U];cases hf:gz l (g.b,r.day,0) l.length with
   |none=>
    have acJ:(Av (none:Option Nat))<0:=by decide
    simp only[acJ,BY,Option.bind_none,apr,ape,aoM,ag (show k<9223372036854775807 by omega)]
   |some b=>
    obtain⟨Rh,q,hq,R8⟩:=uQ hf;have hqm:=an4 hq;have hqc:=hc q hqm;have hmp:=MD r.calls q.calls (aqA Sa (by decide)) (aqA hqc (by decide)) g.stop;have hqt:q.bn=g.b∧q.day=r.day:=by simp_all[bg.key,afu]
    have hmB:kc r.calls q.calls g.stop=true:=by
     obtain⟨hd,i1,x1,hi1,WB,e1⟩:=qN (hk r hrm) (by rw[←hga];omega);obtain⟨_,i2,x2,hi2,T7,e2⟩:=qN (hk q hqm) (by rw[hqt.1];omega);have:i1=gi:=by omega
     subst this;have:i2=gj:=by omega
     subst this;rw[hgp]at WB;cases WB;rw[hgq]at T7;cases T7;have c1:r.calls=gp.calls.map (yC (fP r.day)):=by rw[e1];rfl
     have c2:q.calls=gq.calls.map (yC (fP r.day)):=by rw[←hqt.2,e2];rfl
     grind [QH]
    rw[QI,hmB]at hmp;have hnn:¬(b:Int)<0:=by omega
    have hio:Av (some b)=(b:Int):=rfl;have hw:IntKind.i64.wrap ((r.calls.length:Int)-1)=(r.calls.length:Int)-1:=aY (by omega) (by omega);simp only[hnn,OF,hio,af,AT,hq,IS,U,EV,ah,BY,hmp,bN,asInt,asBool,alx,an5,Nat.reduceAdd,aev,ali,aoe,cZ,bI,hnx,te,hw,hmB,aod,false_or];by_cases he:cF T l a r=some ⟨a,(mI r.calls q.calls g.stop).1,b,(mI r.calls q.calls g.stop).2,true⟩
    ·have h3:=(QQ hf).1 he;have hye:(decide (dN T.cw r.bn=some g.b)&&decide ((mI r.calls q.calls g.stop).1=(r.calls.length:Int)-1)&&decide ((mI r.calls q.calls g.stop).2=0))=true:=by simp_all
     rw[No he,No hye];grind [Option.toList_none,ag]
    ·have bU:¬(decide (dN T.cw r.bn=some g.b)&&decide ((mI r.calls q.calls g.stop).1=(r.calls.length:Int)-1)&&decide ((mI r.calls q.calls g.stop).2=0))=true:=by intro h;simp only[aeu,tc]at h;grind [QQ]
     rw[QU he,QU bU];have hrm:=bw (PV.agg [.int .i64 (a:Int),.int .i64 (mI r.calls q.calls g.stop).1,.int .i64 (b:Int),.int .i64 (mI r.calls q.calls g.stop).2,.bool false]);refine(No hrm).trans ?_;rw[ag (show k<9223372036854775807 by omega)];rfl
  ·simp only[hga,aoo,aoj,BY,OF,apr,ape,aoM,ag (show k<9223372036854775807 by omega)]
 ·simp only[j1,sd,tc,te,an6,OF,aoJ,fS]
 ·grind [rounds,decide]
 simp
theorem acK(T:aj)(hT:ot T)(gg:T.Ok)(hV:cz T)(l:List bg)(hl:l.length≤1024)(hk:∀r∈l,cN T r=true)(hc:∀r∈l,r.calls.length≤40)(a:Nat)(r:bg)(ha:l[a]?=some r):tS [T.pv,.rs 8 (l.map bg.pv),.int .i64 a]=some (.rs 5 ((fS T l a r).map aR.pv)):=by
 have Sa:=hc r (an4 ha);have qx:=QR T.cw gg.cw.1 r.bn;have Au:=Ye T hT hV l hl hk hc a r ha;simp only[tS,D6,NC,ND,NF,NG,NH,NI,NJ,NK,NL,NM,NN,zn,zo,zp,ah,asInt,BY,U,af,AT,ha,IS,ET,EU,EV,qx];cases hn:dN T.cw r.bn with
 |none=>
  have:=Au 0 false (fun x=>by simp_all);have fo:cF T l a r=none:=by unfold cF;rw[hn];rfl
  rw[fo]at this;simp only[nM,bN,asInt,asBool,alx,an5,Nat.reduceAdd,BY,U,aev,ali,AI,OF];exact this
 |some n=>
  have:=Au n true (fun x=>by rw[hn];simp);have hfk:=QP (T:=T) (aov hl (by decide)) hk r.day (acI hV hn);simp only[nM,bN,asInt,asBool,alx,an5,Nat.reduceAdd,BY,U,aev,ali,hfk];cases hf:gz l (n,r.day,0) l.length with
  |none=>
   have fo:cF T l a r=none:=by unfold cF;simp_all
   rw[fo]at this;have acJ:¬Av (none:Option Nat)≥0:=by decide
   simp only[acJ,aoo,AI,OF];exact this
  |some b=>
   have hw:IntKind.i64.wrap ((r.calls.length:Int)-1)=(r.calls.length:Int)-1:=aY (by omega) (by omega);have fo:cF T l a r=some ⟨a,(r.calls.length:Int)-1,b,0,true⟩:=by unfold cF;simp_all
   rw[fo]at this;have eY:Av (some b)≥0:=by show(b:Int)≥0;omega
   simp only[eY,aot,BY,ah,U,te,hw];exact this
def lE(T:aj)(l:List bg)(a:Nat):List aR:=match l[a]? with|some r=>fS T l a r|none=>[]
def aN(T:aj)(l:List bg)(n:Nat):List aR:=(List.range n).flatMap (lE T l)
theorem ir(T:aj)(l:List bg)(n:Nat):aN T l (n+1)=aN T l n++lE T l n:=by simp[aN,aoQ,apQ]
theorem QS(T:aj)(hT:ot T)(l:List bg)(a:Nat):(lE T l a).length≤141:=by
 unfold lE;cases l[a]? with
 |none=>simp
 |some r=>simp only[fS,aob];have h1:=Kn (cF T l a r);have h2:=Tw (mz T l a r) T.bM;have:=hT.bM;omega
theorem Aa(T:aj)(hT:ot T)(l:List bg):∀n,(aN T l n).length≤141*n
 |0=>by simp[aN]
 |n+1=>by rw[ir,aob];have:=Aa T hT l n;have:=QS T hT l n;omega
def im(m:List aR)(e:Int):PV:=.aI [.rs 5 (m.map aR.pv),.int .i64 e]
def F7(T:aj)(l:List bg):PV:=match Km T l with
 |some e=>im [] e
 |none=>if(aN T l l.length).length>1024 then im [] 5 else im (aN T l l.length) 0
theorem acL(T:aj)(hT:ot T)(gg:T.Ok)(l:List bg)(hl:l.length≤1024)(hc:∀r∈l,r.calls.length≤40):aV.run (mD aV) (l.map bg.pv,mpv l,(l.length:Int),0,sd T ([],()))=some (if(aN T l l.length).length>1024 then im [] 5 else im (aN T l l.length) 0):=by
 refine(aB (fun k=>(l.map bg.pv,mpv l,(l.length:Int),(k:Int),sd T ((aN T l k).map aR.pv,()))) l.length (fun k=>if(fun j=>(aN T l j).length) (k+1)>1024 then some (some (im [] 5))else none) (fin:=some (im (aN T l l.length) 0)) (fun k hk rec=>?_) (fun rec=>?_) ?_ ?_).trans ?_
 ·have h1:(k:Int)<(l.length:Int):=by omega
  have W9:=aer T hT gg l hl hc k l[k] (ta hk);have HY:lE T l k=fS T l k l[k]:=by grind [lE,List.getElem?_eq_getElem]
  have hlen:=Aa T hT l (k+1);have bw:=Ol ((aN T l k).map aR.pv++(fS T l k l[k]).map aR.pv) (by grind [ir,List.length_append,List.length_map]);have YH:((aN T l k).map aR.pv++(fS T l k l[k]).map aR.pv).length=(aN T l (k+1)).length:=by rw[ir,HY];simp
  simp only[sd];simp only[mD,tc,h1,BY,Ri,W9,U,ah];have hmp:(aN T l (k+1)).map aR.pv=(aN T l k).map aR.pv++(fS T l k l[k]).map aR.pv:=by rw[ir,HY,aos]
  rw[No bw,YH,←hmp];by_cases hb:(aN T l (k+1)).length>1024
  ·rw[No (show(((aN T l (k+1)).length:Nat):Int)>1024 by omega),No hb];rfl
  ·rw[QU (show¬(((aN T l (k+1)).length:Nat):Int)>1024 by omega),QU hb,ag (show k<9223372036854775807 by omega)];rfl
 ·simp only[mD,sd,tc,an6,OF];rfl
 ·grind [rounds,decide]
 ·rfl
 ·rw[yL (fun j=>(aN T l j).length) (fun k=>by grind [aN,ir,List.length_append]) (by simp[aN])];by_cases hb:(aN T l l.length).length>1024
  ·rw[No hb,No hb];rfl
  ·rw[QU hb,QU hb];rfl
theorem SH(T:aj)(hT:ot T)(gg:T.Ok)(l:List bg)(hl:l.length≤1024)(hc:∀r∈l,r.calls.length≤40)(p i e:Int)(hw:dW [T.pv]=some (oX p i e)):tT [T.pv,.rs 8 (l.map bg.pv)]=some (if e=0 then F7 T l else im [] e):=by
 have acM:=Tv T hT gg l (aov hl (by decide));have ah6:¬((l.length:Int)>1024):=by omega
 simp only[tT,DV,NC,ND,NF,NG,NH,NI,NJ,NK,NL,NM,NN,zn,zo,zp,ah,asInt,BY,U,Ri,hw,oX,bN,alx,an5,Nat.reduceAdd,aev,ali,fb,te,tc,ah6,OF,acM];by_cases he:e=0
 ·simp only[he,aot,alk,AI,OF,BY];unfold F7;cases hx:Km T l with
  |some e'=>
   have bU:e'≠0:=by obtain⟨k,_,hk⟩:=aoK hx;grind [CP,decide]
   simp only[U,cJ,alx,an5,Nat.reduceAdd,BY,aev,ali,bU,aoo,aoj];rfl
  |none=>have ho:=acL T hT gg l hl hc;simp only[sd]at ho;simp only[U,mpv,cJ,alx,an5,Nat.reduceAdd,BY,aev,ali,aot,alk,AI,OF];exact ho
 ·simp only[he,aoo,aoj,BY,OF];rfl
theorem Yf(l:List bg)(k)(n:Nat):(List.range n).any (kat l k)=(gz l k n).isSome:=by unfold gz;grind
theorem aes(T:aj)(hT:ot T)(gg:T.Ok)(hV:cz T)(l:List bg)(hl:l.length≤1024)(hk:∀r∈l,cN T r=true)(hc:∀r∈l,r.calls.length≤40):aV.run (pR aV) (l.map bg.pv,0,sd T ([],()))=some (if(aN T l l.length).length>1024 then im [] 5 else im (aN T l l.length) 0):=by
 refine aM (fun(k:Nat)=>(l.map bg.pv,(k:Int),sd T ((aN T l k).map aR.pv,()))) l.length (fun k xU rec=>?_) (fun rec=>?_) ?_ ?_
 ·have h1:(k:Int)<(l.length:Int):=by omega
  have W9:=acK T hT gg hV l hl hk hc k l[k] (ta xU);have HY:lE T l k=fS T l k l[k]:=by simp_all[lE,ta]
  have hlen:=Aa T hT l (k+1);have bw:=Ol ((aN T l k).map aR.pv++(fS T l k l[k]).map aR.pv) (by grind [ir,List.length_append,List.length_map]);simp only[sd];simp only[pR,tc,te,h1,BY,Ri,W9,U,ah];rw[No bw,ir,HY,aos,ag (show k<9223372036854775807 by omega)]
 ·simp only[pR,sd,tc,te,an6,OF];by_cases hb:(aN T l l.length).length>1024
  ·rw[No hb,No (by omega)];rfl
  ·rw[QU hb,QU (by omega)];rfl
 ·grind [rounds,decide]
 rfl
theorem Yg{T:aj}{l:List bg}(h:Km T l=none):∀r∈l,cN T r=true:=fun r hr=>by obtain⟨k,hk⟩:=aoh.1 hr;unfold Km at h;have:=apX.1 h k (aoA.2 (IN.1 hk).1);unfold CP at this;grind
theorem Xo(T:aj)(hT:ot T)(gg:T.Ok)(l:List bg)(hl:l.length≤1024)(hc:∀r∈l,r.calls.length≤40)(p i e:Int)(hw:j2 [T.pv]=some (oX p i e))(hV:e=0→cz T):rq [T.pv,.rs 8 (l.map bg.pv)]=some (if e=0 then F7 T l else im [] e):=by
 have ah6:¬((l.length:Int)>1024):=by omega
 simp only[rq,B1,NC,ND,NF,NG,NH,NI,NJ,NK,NL,NM,NN,zn,zo,zp,ah,asInt,BY,U,Ri,hw,oX,bN,alx,an5,Nat.reduceAdd,aev,ali,fb,te,tc,ah6,OF];by_cases he:e=0
 ·simp only[he,aot,alk,AI,OF,BY];refine(jZ (fun k=>(l.map bg.pv,(k:Int),sd T ())) l.length (fun k=>(CP T l k).map fun e=>some (im [] e)) (fin:=some (if(aN T l l.length).length>1024 then im [] 5 else im (aN T l l.length) 0)) (fun k hk _ rec=>?_) (fun K9 rec=>?_) ?_ rfl).trans ?_
  ·have h1:(k:Int)<(l.length:Int):=by omega
   have hb:CP T l k=if cN T l[k]=false then some 9 else if(gz l l[k].key k).isSome=true then some 6 else none:=by grind [CP,List.getElem?_eq_getElem]
   have hkn:=X9 T hT gg l[k];simp only[sd];simp only[vu,tc,te,h1,BY,af,AT,ta hk,IS,U,Ri,aar,hkn,asBool];rw[hb];cases cN T l[k]with
   |false=>rfl
   |true=>
    simp only[alk,AI,OF,aod];refine(eI (fun j=>(l.map bg.pv,(k:Int),(j:Int),sd T ())) k (kat l l[k].key) (no:=some (im [] 6)) (fin:=rec (l.map bg.pv,((k+1:Nat):Int),sd T ())) (fun j hj am6=>?_) (fun am6=>?_) ?_ rfl).trans ?_
    ·have h2:(j:Int)<(k:Int):=by omega
     have tf:j<l.length:=by omega
     have am7:kat l l[k].key j=(decide (l[j].bn=l[k].bn)&&decide (l[j].day=l[k].day)&&decide (l[j].inst=l[k].inst)):=by rw[Ia tf];unfold bg.key;grind
     simp only[sd];simp only[vv,tc,h2,BY,af,AT,ta hk,ta tf,IS,U,ET,EU,NP,asInt,cZ,bI,ag (show j<9223372036854775807 by omega),am7];rfl
    ·simp only[vv,sd,tc,an6,OF,ag (show k<9223372036854775807 by omega)]
    ·grind [rounds,decide]
    ·rw[Yf];cases(gz l l[k].key k).isSome<;>rfl
  ·have hn:Km T l=none:=by simp_all[Km,apX]
   have ho:=aes T hT gg (hV he) l hl (Yg hn) hc;simp_all[sd,vu,tc,te,an6,OF]
  ·grind [rounds,decide]
  ·unfold F7 Km;have:∀L:List Nat,(L.findSome? fun k=>(CP T l k).map fun e=>some (im [] e))=(L.findSome? (CP T l)).map fun e=>some (im [] e):=fun L=>by
    induction L with
    |nil=>rfl
    |cons a L ih=>grind
   rw[this];cases(List.range l.length).findSome? (CP T l)<;>rfl
 ·simp only[he,aoo,aoj,BY,OF];rfl
structure Tx(l:List bg)(x:aR):Prop where
 ends:∃(a b:Nat)(r q:bg)(i k:Nat)(c d:aJ),x.a=a∧x.b=b∧a≠b∧l[a]?=some r∧l[b]?=some q∧r.day=q.day∧x.ac=i∧x.bc=k∧r.calls[i]?=some c∧q.calls[k]?=some d∧c.stop=d.stop∧¬d.dep<c.arr∧(x.stay=true→i+1=r.calls.length∧k=0)
def aR.key(x:aR):Int×Int×Int×Int:=(x.a,x.ac,x.b,x.bc)
theorem acN{a b:List aJ}{s:Int}(h:kc a b s=true):∃(i k:Nat)(c d:aJ),mI a b s=((i:Int),(k:Int))∧a[i]?=some c∧b[k]?=some d∧c.stop=s∧d.stop=s∧¬d.dep<c.arr:=by
 unfold kc at h;unfold mI;cases hi:(List.range a.length).find? (vt a s)with
 |none=>rw[hi]at h;cases h
 |some i=>
  rw[hi]at h;simp only at h⊢;cases hk:(List.range b.length).find? (sX b s)with
  |none=>rw[hk]at h;cases h
  |some k=>rw[hk]at h;simp only at h⊢;rw[No h];have h1:=List.find?_some hi;have h2:=List.find?_some hk;unfold vt at h1;unfold sX at h2;unfold YR at h;grind
variable{a:Nat}{T:aj}{l:List bg}{r:bg}{x:aR}
theorem H4(hV:cz T)(hk:∀r∈l,cN T r=true)(ha:l[a]?=some r)(hx:cF T l a r=some x):Tx l x∧x.a=a∧x.stay=true:=by
 unfold cF at hx;obtain⟨n,hn,hx⟩:=By.1 hx;obtain⟨b,hb,hx⟩:=alj.1 hx;obtain⟨Rh,q,hq,R8⟩:=uQ hb;have T4:=hn;unfold dN at T4;obtain⟨y,hy,hyb⟩:=alj.1 T4;have hym:=apm hy;have hya:y.a=r.bn:=by grind
 obtain⟨hp,kF⟩:=CA hV hym;obtain⟨gi,gj,hgi,hgj,I0,tf⟩:=zB y.a y.b T.ae hp;have bU:y.a≠y.b:=by simp_all[ob,aoC,aoP]
 have hra:qM T.aU y.a=false∧qM T.aU y.b=false:=by simp_all[gS]
 simp only[bg.key,afu]at R8;obtain⟨hd,i1,x1,hi1,WB,e1⟩:=qN (hk r (an4 ha)) (by simp_all);obtain⟨_,i2,x2,hi2,T7,e2⟩:=qN (hk q (an4 hq)) (by grind);have c1:r.calls=x1.calls.map (yC (fP r.day)):=by rw[e1];rfl
 have c2:q.calls=x2.calls.map (yC (fP r.day)):=by rw[←R8.2.1,e2];rfl
 obtain⟨kk,xU⟩:=aoh.1 hym;have aet:si x1 x2=0:=by
  have h6:(pj T.cw T.ae T.aU).2=0:=hV 6 (by omega);unfold pj at h6;by_cases h:T.cw.length>128
  ·grind
  ·rw[QU h]at h6;have he:=jX _ _ h6 kk (IN.1 xU).1;unfold Bn at he;grind
 have tp:=kR hV WB;have tq:=kR hV T7;obtain⟨_,hD0,hD1⟩:=HZ hd;have hl1:x1.calls.length-1<x1.calls.length:=by have:=tp.two;omega
 have hl2:0<x2.calls.length:=by have:=tq.two;omega
 have g1:=ta hl1;have g2:=ta hl2;unfold si at aet;by_cases Nk:(!decide (x1.xK=x2.xK))=true
 ·grind
 ·rw[QU Nk,g1,g2]at aet;simp only at aet;by_cases hs:(!decide (x1.calls[x1.calls.length-1].stop=x2.calls[0].stop))=true
  ·grind
  ·rw[QU hs]at aet;by_cases ht:x2.calls[0].dep<x1.calls[x1.calls.length-1].arr
   ·omega
   ·have hy1:=tp.call _ _ g1;have hy2:=tq.call _ _ g2;have w1:(yC (fP r.day) x1.calls[x1.calls.length-1]).arr=x1.calls[x1.calls.length-1].arr+fP r.day:=aY (by omega) (by omega);have w2:(yC (fP r.day) x2.calls[0]).dep=x2.calls[0].dep+fP r.day:=aY (by omega) (by omega);have W4:r.calls.length=x1.calls.length:=by rw[c1,te]
    have htw:=tp.two;subst hx;refine⟨⟨a,b,r,q,x1.calls.length-1,0,yC (fP r.day) x1.calls[x1.calls.length-1],yC (fP r.day) x2.calls[0],rfl,rfl,?_,ha,hq,R8.2.1.symm,?_,rfl,?_,?_,?_,?_,fun _=>⟨by omega,rfl⟩⟩,rfl,rfl⟩
    ·grind
    ·simp only[W4];omega
    ·grind
    ·grind
    ·have:x1.calls[x1.calls.length-1].stop=x2.calls[0].stop:=by simpa using hs
     exact this
    omega
theorem Fi(hV:cz T)(ha:l[a]?=some r){g:gD}(hg:g∈T.bM)(hx:mz T l a r g=some x):Tx l x∧x.a=a∧g.a=r.bn∧cF T l a r≠some {x with stay:=true}∧∃(b i:Nat)(q:bg)(c:aJ),x.b=b∧l[b]?=some q∧g.b=q.bn∧x.ac=i∧r.calls[i]?=some c∧c.stop=g.stop:=by
 obtain⟨gi,gj,gp,gq,hgi,hgj,_,_,_,_,_⟩:=Ea hV hg;have bU:g.a≠g.b:=by
  obtain⟨k,hk⟩:=aoh.1 hg;have h7:(kz T.bM T.ae T.aU T.stops.length).2=0:=hV 7 (by omega);unfold kz at h7;by_cases h:T.bM.length>128
  ·simp_all
  ·rw[QU h]at h7;have he:=jX _ _ h7 k (IN.1 hk).1;unfold wK at he;rw[hk]at he;simp only at he;by_cases h1:(ob g.a g.b T.ae.length|| !CQ g.stop T.stops.length)=true
   ·simp_all
   simp_all[aon,aq5,aoZ,ob,aoC,aoP]
 unfold mz at hx;by_cases hga:g.a=r.bn
 ·rw[No hga]at hx;obtain⟨b,hb,hx⟩:=By.1 hx;obtain⟨q,hq,hx⟩:=By.1 hx;obtain⟨_,q',IM,R8⟩:=uQ hb;rw[hq]at IM;cases IM;simp only[bg.key,afu]at R8;by_cases hc:kc r.calls q.calls g.stop=false∨cF T l a r=some ⟨a,(mI r.calls q.calls g.stop).1,b,(mI r.calls q.calls g.stop).2,true⟩
  ·simp_all
  ·rw[QU hc]at hx;rw[aq5]at hc;obtain⟨i,k,c,d,hm,hci,hdk,M7,Z2,ht⟩:=acN (show kc r.calls q.calls g.stop=true by simpa using hc.1);rw[hm]at hx hc;simp only[tb]at hx;subst hx;refine⟨⟨a,b,r,q,i,k,c,d,rfl,rfl,?_,ha,hq,R8.2.1.symm,rfl,rfl,hci,hdk,by omega,ht,fun h=>by cases h⟩,rfl,hga,hc.2,b,i,q,c,rfl,hq,R8.1.symm,rfl,hci,M7⟩;grind
 simp_all
theorem QT(hV:cz T):T.bM.Pairwise fun g h=>g≠h:=by
 rw[aoH];intro i j hi hj Zq e;have h7:(kz T.bM T.ae T.aU T.stops.length).2=0:=hV 7 (by omega);unfold kz at h7;by_cases h:T.bM.length>128
 ·simp_all
 ·rw[QU h]at h7;have he:=jX _ _ h7 j hj;unfold wK at he;rw[ta hj]at he;simp only at he;obtain⟨gi,gj,gp,gq,hgi,hgj,hgp,hgq,hra,hrb,hmt⟩:=Ea hV (an7 hj);have t1:T.ae[T.bM[j].a.toNat]?=some gp:=by simp_all
  have t2:T.ae[T.bM[j].b.toNat]?=some gq:=by simp_all
  by_cases h1:(ob T.bM[j].a T.bM[j].b T.ae.length|| !CQ T.bM[j].stop T.stops.length)=true
  ·simp_all
  ·rw[QU h1]at he;by_cases h2:gS T.aU T.bM[j].a T.bM[j].b=true
   ·simp_all
   ·rw[QU h2,t1,t2]at he;simp only at he;rw[QU (by simp[hmt])]at he;have bk:T.bM[j]∈T.bM.take j:=by rw[←e,aoh];exact⟨i,by simp_all⟩
    simp_all
theorem Om(hV:cz T)(hk:∀r∈l,cN T r=true)(ha:l[a]?=some r):(fS T l a r).Pairwise fun x y=>x.key≠y.key:=by
 unfold fS;rw[ao2];refine⟨?_,?_,?_⟩
 ·simp
 ·rw[List.pairwise_filterMap];refine aoW (R:=fun g h=>g≠h) (fun{g h}hg hh bU x hx y hy e=>?_) (QT hV);obtain⟨_,_,hga,_,b,i,q,c,hb,hq,hgb,hi,hc,M7⟩:=Fi hV ha hg hx;obtain⟨_,_,an0,_,b',i',q',c',jn,IM,an1,l8,hc',an2⟩:=Fi hV ha hh hy;simp only[aR.key,afu]at e;have eb:b=b':=by omega
  have ei:i=i':=by omega
  subst eb;subst ei;rw[hq]at IM;cases IM;rw[hc]at hc';cases hc';apply bU;obtain⟨g1,g2,g3⟩:=g;obtain⟨k1,k2,k3⟩:=h;simp_all
 ·intro x hx y hy e;obtain⟨g,hg,hy⟩:=apT.1 hy;obtain⟨_,hya,_,KL,_⟩:=Fi hV ha hg hy;have IL:cF T l a r=some x:=by simp_all
  obtain⟨_,hxa,an3⟩:=H4 hV hk ha IL;apply KL;rw[IL];simp only[aR.key,afu]at e;obtain⟨x1,x2,x3,x4,x5⟩:=x;simp_all
theorem Uy(hV:cz T)(hk:∀r∈l,cN T r=true){n:Nat}(hx:x∈aN T l n):Tx l x:=by
 obtain⟨a,_,hx⟩:=aoE.1 hx;unfold lE at hx;cases ha:l[a]? with
 |none=>rw[ha]at hx;cases hx
 |some r=>
  rw[ha]at hx;simp only[fS,aol,apT]at hx;rcases hx with hx|⟨g,hg,hx⟩
  ·grind [cF,Option.toList_some,List.mem_singleton,H4]
  ·exact(Fi hV ha hg hx).1
theorem alh(hV:cz T)(hk:∀r∈l,cN T r=true)(hx:x∈lE T l a):x.a=a:=by
 unfold lE at hx;cases ha:l[a]? with
 |none=>rw[ha]at hx;cases hx
 |some r=>
  rw[ha]at hx;simp only[fS,aol,apT]at hx;rcases hx with hx|⟨g,hg,hx⟩
  ·cases hs:cF T l a r with
   |none=>rw[hs]at hx;cases hx
   |some z=>rw[hs]at hx;simp only[aqB,apg]at hx;subst hx;exact(H4 hV hk ha hs).2.1
  ·exact(Fi hV ha hg hx).2.1
theorem aaG(hV:cz T)(hk:∀r∈l,cN T r=true)(n:Nat):(aN T l n).Pairwise fun x y=>x.key≠y.key:=by
 unfold aN;rw[apc];refine⟨fun a _=>?_,?_⟩
 ·unfold lE;cases ha:l[a]? with
  |none=>simp
  |some r=>exact Om hV hk ha
 ·refine aoW (R:=fun a b=>a≠b) (fun{a b}_ _ h x hx y hy e=>?_) ap7;have h1:=alh hV hk hx;have h2:=alh hV hk hy;have:x.a=y.a:=congrArg (fun k=>k.1) e;omega
theorem DF{a b:Int}(ha:lC a=true)(hb:lC b=true){n:Nat}(hn:a+n≤b+1)(hr:r∈bx T a n):cN T r=true:=by obtain⟨d,hd,hr⟩:=aoE.1 hr;have ajb:=B2 hr;have hdl:=aoA.1 hd;have h1:=(rR a).1 ha;have h2:=(rR b).1 hb;unfold cN;rw[aeu,tc,ajb];grind [rR]
theorem SF{a b:Int}(ha:lC a=true)(hb:lC b=true){n:Nat}(hn:a+n≤b+1):Km T (bx T a n)=none:=by
 unfold Km;rw[apX];intro k hk;have uF:=aoA.1 hk;unfold CP;rw[ta uF];simp only;rw[DF ha hb hn (an7 uF)];have A1:gz (bx T a n) (bx T a n)[k].key k=none:=by unfold gz;rw[ap9];intro j hj;have hjk:=aoA.1 hj;have hp:=aoH.1 (Da T a n) j k (by omega) uF hjk;grind [Ia]
 rw[A1];simp
end Go.Ab.Tt
