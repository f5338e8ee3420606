import Derived.Test.YteddgaennnfacaaGreatRnP1
import Derived.Test.YteddgaennnfacaaGreatNkP2
namespace Go.Ab.Tt
set_option maxRecDepth 100000
set_option linter.all false
theorem Pg(a b:List aF)(ha:a.length≤maxLen):tn [.rs 5 (a.map aF.pv),.rs 5 (b.map aF.pv)]=some (.bool (decide (a=b))):=by
 have hm:=al;simp only[tn,Dp,ah,IT,U,BY,dy];by_cases hl:a.length=b.length
 ·rw[acB (by simp[hl])];refine(cQ (fun k=>(b.map aF.pv,a.map aF.pv,(a.length:Int),(k:Int),())) a.length (fun k=> !decide (a[k]?=b[k]?)) (no:=some (.bool false)) (fin:=some (.bool true)) (fun k hk rec=>?_) (fun rec=>?_) ?_ rfl).trans (Jv hl)
  ·have h1:(k:Int)<(a.length:Int):=by omega
   have hkb:k<b.length:=by omega
   simp only[xm,AT,h1,IT,ab,IS,AI hk,AI hkb,No,U,af (show k<9223372036854775807 by omega),By];rw[T0 ⟨rfl,rfl⟩,Pe]
  ·simp only[xm,AT,alk,Wi]
  ·have:=aq;omega
 ·rw[T0 (by simp;omega)];have:¬a=b:=fun e=>hl (by rw[e]);simp[this]
theorem Ly(x y:aY)(hx:x.calls.length≤maxLen):rR [x.pv,y.pv]=some (.bool (decide (x=y))):=by simp only[rR,FK,VA,Ev,De,J4,Oz,Rg,VB,Rh,Ce,asInt,aT,asBool,ah,IT,U,Pg x.calls y.calls hx,bt,cd];rw[Pf]
theorem acv(l:List aY)(r:aY):(List.range l.length).any (fun k=>decide (l[k]?=some r))=decide (r∈l):=by have:=gB l l.length (alz _) r;rwa[alT]at this
def cJ(T:aj)(r:aY):Bool:=kR r.day&&decide (r∈cU T r.day)
theorem V9(T:aj)(hT:pH T)(gT:T.Ok)(r:aY):qV [T.pv,r.pv]=some (.bool (cJ T r)):=by
 simp only[qV,Bq,Mm,Mn,Mo,Mp,Mq,Mr,Ms,Mt,Mu,Mv,Mw,yO,yP,yQ,VA,Ev,De,J4,Oz,Rg,VB,Rh,Ce,ah,asInt,aT,asBool,IT,U,PX,O2];unfold cJ;cases hd:kR r.day with
 |false=>rfl
 |true=>
  have hl:=Bu T hT r.day;simp only[alc,IN,Wi,Um T hT gT r.day,U,ah,IT,ama];refine(cQ (fun k=>((cU T r.day).map aY.pv,(k:Int),r.bp,r.day,r.inst,r.id,r.bV,r.free,r.wS,r.calls.map aF.pv,())) (cU T r.day).length (fun k=>decide ((cU T r.day)[k]?=some r)) (no:=some (.bool true)) (fin:=some (.bool false)) (fun k hk rec=>?_) (fun rec=>?_) ?_ rfl).trans ?_
  ·have h1:(k:Int)<((cU T r.day).length:Int):=by omega
   have hs:=aaC (cU T r.day)[k] r (alH (CC hT (alj hk)) (by decide));rw[show r.pv=.agg [.int .i64 r.bp,.int .i64 r.day,.int .i64 r.inst,.str r.id,.int .i64 r.bV,.bool r.free,.bool r.wS,.rs 5 (r.calls.map aF.pv)]from rfl]at hs;simp only[uZ,AT,BY,h1,IT,ab,IS,AI hk,No,U,ael,hs,asBool,By,af (show k<9223372036854775807 by omega)]
  ·simp only[uZ,AT,BY,alk,Wi]
  ·have:6912000001<rounds:=by decide
   omega
  ·rw[acv];cases decide (r∈cU T r.day)<;>rfl
theorem aaD(x:bn)(Rb:x.Ok)(yg:x.calls.length≤40)(i day:Int)(r:aY)(s:List Int)(hs:∀t∈s,0≤t∧t≤172800)(JW:s.length≤172800000):aX.run lj (day,s.map iv,(s.length:Int),0,r.bp,r.day,r.inst,r.id,r.bV,r.free,r.wS,r.calls.map aF.pv,false,cell x.pv 0,cell x.pv 1,cell x.pv 2,cell x.pv 3,cell x.pv 4,i,day,0,x.id,x.bV,x.free,false,[],())=some (.bool (decide (r∈(List.range s.length).map fun(k:Nat)=>bT x i day k (bh x.calls (s.getD k 0))))):=by
 refine(cQ (fun k=>(day,s.map iv,(s.length:Int),(k:Int),r.bp,r.day,r.inst,r.id,r.bV,r.free,r.wS,r.calls.map aF.pv,false,cell x.pv 0,cell x.pv 1,cell x.pv 2,cell x.pv 3,cell x.pv 4,i,day,Pb k,x.id,x.bV,x.free,false,EL x day s k,())) s.length (fun k=>decide (bT x i day k (bh x.calls (s.getD k 0))=r)) (no:=some (.bool true)) (fin:=some (.bool false)) (fun k hk rec=>?_) (fun rec=>?_) ?_ rfl).trans ?_
 ·have h1:(k:Int)<(s.length:Int):=by omega
  have ci:∀n:Int,cell (iv n) 0=.int .i64 n:=fun _=>rfl;have hr:=hs s[k] (alj hk);have xJ:=vX x.calls s[k];have Qy:s.getD k 0=s[k]:=Bt s k hk;have afG:oz s[k]:=(dS _).2 (by omega);have hlC:EL x day s (k+1)=((bh x.calls s[k]).map (wI (fp day))).map aF.pv:=by simp only[EL,Qy]
  have hfc:=Lw x Rb s[k] afG yg;rw[←aiF x]at hfc;have hsh:=zf (bh x.calls s[k]) (fp day) (by omega);have Qx:=Ly (bT x i day k (bh x.calls s[k])) r (alH (show _≤40 by simp only[bT,BY];omega) (by decide));rw[show r.pv=.agg [.int .i64 r.bp,.int .i64 r.day,.int .i64 r.inst,.str r.id,.int .i64 r.bV,.bool r.free,.bool r.wS,.rs 5 (r.calls.map aF.pv)]from rfl,show(bT x i day k (bh x.calls s[k])).pv=.agg [.int .i64 i,.int .i64 day,.int .i64 k,.str x.id,.int .i64 x.bV,.bool x.free,.bool false,.rs 5 (((bh x.calls s[k]).map (wI (fp day))).map aF.pv)]from rfl]at Qx;rw[hlC,Qy];unfold fp at hsh Qx;simp only[lj,AT,h1,IT,ab,tg,AI hk,No,U,ci,asInt,hfc,bR,ah,aiK,alh,Nat.reduceAdd,adz,aiJ,hsh,Qx,asBool,aov,af (show k<9223372036854775807 by omega)];by_cases he:bT x i day k (bh x.calls s[k])=r
  ·rw[T0 he,he];simp
  ·rw[acB he];simp only[he,alw];rfl
 ·simp only[lj,AT,alk,Wi]
 ·have:172800001<rounds:=by decide
  omega
 ·have e:(List.range s.length).any (fun k=>decide (bT x i day k (bh x.calls (s.getD k 0))=r))=decide (r∈(List.range s.length).map fun(k:Nat)=>bT x i day k (bh x.calls (s.getD k 0))):=by rw[alE,amx,AT,alC];simp only[AT]
  rw[e];cases decide (r∈(List.range s.length).map fun(k:Nat)=>bT x i day k (bh x.calls (s.getD k 0)))<;>rfl
theorem Kc(T:aj)(hT:pH T)(gT:T.Ok)(r:aY):jF [T.pv,r.pv]=some (.bool (cJ T r)):=by
 have hkn:cJ T r=(kR r.day&&decide (r∈cU T r.day)):=rfl;simp only[jF,wZ,Mm,Mn,Mo,Mp,Mq,Mr,Ms,Mt,Mu,Mv,Mw,yO,yP,yQ,VA,Ev,De,J4,Oz,Rg,VB,Rh,Ce,ah,asInt,aT,asBool,IT,U,BY,aL,vT];rw[hkn];by_cases hr:(decide (r.bp<0)||decide (r.bp≥(T.ae.length:Int)))=true
 ·have zT:¬r∈cU T r.day:=fun hm=>by obtain⟨i,x,hx,hi,_⟩:=Hg.1 hm;have:=(OF.1 hx).1;simp only[aly,AT]at hr;omega
  rw[amX zT,Bool.and_false];simp only[hr,aoa,IT]
 ·simp only[amf]at hr;simp only[hr,ana];cases hd:kR r.day with
  |false=>rfl
  |true=>
   simp only[alG,alN]at hr;obtain⟨i,hi⟩:∃i:Nat,r.bp=i:=⟨r.bp.toNat,by omega⟩;have Fc:i<T.ae.length:=by omega
   obtain⟨x,hxx⟩:∃x,T.ae[i]=x:=⟨_,rfl⟩;have hx:T.ae[i]?=some x:=by rw[AI Fc,hxx]
   have Lj:x∈T.ae:=alf hx;have bk:(r∈cU T r.day)↔r∈dB T i x r.day:=by
    rw[Hg];constructor
    ·rintro⟨j,y,hy,hj,hm⟩;have:i=j:=by omega
     subst this;rw[hx]at hy;cases hy;exact hm
    ·exact fun hm=>⟨i,x,hx,hi,hm⟩
   have akd:=GQ T.dL gT.dL.1 T.lI gT.lI.1 x.vU r.day;have gL:=Ju T.aU gT.aU.1 (i:Int);have ad3:=Lv T.aU (alH hT.aU (by decide)) (i:Int);simp only[alc,U,cond_false,IN,Wi,hi,ab,IS,hx,No,pN,rN,pO,uX,lZ,asInt,aT,asBool,ah,IT,akd,gL,ad3,ama];cases ha:te T.dL T.lI x.vU r.day with
   |false=>
    have ht:dB T i x r.day=[]:=by unfold dB;rw[T0 ha]
    have WL:decide (r∈cU T r.day)=false:=amX (by rw[bk,ht];simp);rw[WL];rfl
   |true=>
    simp only[alc,IN,Wi];cases hrp:pZ T.aU i with
    |false=>
     have ht:dB T i x r.day=[bT x i r.day 0 x.calls]:=by unfold dB;rw[acB (by simp[ha]),T0 hrp]
     have WL:decide (r∈cU T r.day)=decide (bT x i r.day 0 x.calls=r):=am5.2 (by rw[bk,ht,ami];exact eq_comm);rw[WL];have hsh:=zf x.calls (fp r.day) (alH (hT.small x Lj) (by decide));have Qx:=Ly (bT x i r.day 0 x.calls) r (alH (show _≤40 by simp only[bT,BY];exact hT.small x Lj) (by decide));rw[show r.pv=.agg [.int .i64 r.bp,.int .i64 r.day,.int .i64 r.inst,.str r.id,.int .i64 r.bV,.bool r.free,.bool r.wS,.rs 5 (r.calls.map aF.pv)]from rfl,show(bT x i r.day 0 x.calls).pv=.agg [.int .i64 i,.int .i64 r.day,.int .i64 0,.str x.id,.int .i64 x.bV,.bool x.free,.bool false,.rs 5 ((x.calls.map (wI (fp r.day))).map aF.pv)]from rfl,hi]at Qx;unfold fp at hsh Qx;simp only[alA,IT,hsh,U,ah,Qx,asBool]
    |true=>
     have ht:dB T i x r.day=(List.range (instI T.aU i).length).map fun(k:Nat)=>bT x i r.day k (bh x.calls ((instI T.aU i).getD k 0)):=by unfold dB;rw[acB (by simp[ha]),acB (by simp[hrp])]
     have WL:decide (r∈cU T r.day)=decide (r∈(List.range (instI T.aU i).length).map fun(k:Nat)=>bT x i r.day k (bh x.calls ((instI T.aU i).getD k 0))):=am5.2 (by rw[bk,ht]);rw[WL];simp only[alc,IN,Wi];have:=aaD x (gT.ae.2 x Lj) (hT.small x Lj) i r.day r (instI T.aU i) (fun t ht=>instI_range _ _ _ ht) (instI_len _ (alH hT.aU (by decide)) _);rw[hi]at this;simp only[BY];exact this
def k3(k:Int×Int×Int):PV:=.agg [.int .i64 k.1,.int .i64 k.2.1,.int .i64 k.2.2]
theorem aaE(a b:Int×Int×Int):bM (k3 a).cells (k3 b).cells=decide (a=b):=by obtain⟨a1,a2,a3⟩:=a;obtain⟨b1,b2,b3⟩:=b;rw[alE];simp[k3,PV.cells,bM,peq]
def kat(l:List aY)(k:Int×Int×Int)(i:Nat):Bool:=match l[i]? with|some r=>decide (r.key=k)|none=>false
def gb(l:List aY)(k:Int×Int×Int)(n:Nat):Option Nat:=(List.range n).find? (kat l k)
def Ke(l:List aY)(n:Nat):List (PV×PV):=(List.range n).filterMap fun(i:Nat)=>(l[i]?).map fun(r:aY)=>(k3 r.key,PV.int .i64 (i:Int))
theorem FZ(l:List aY)(n:Nat)(h:n<l.length):Ke l (n+1)=Ke l n++[(k3 l[n].key,.int .i64 (n:Int))]:=by unfold Ke;rw[amc,aof];simp[AI h]
theorem Jx(l:List aY)(k)(n:Nat):gb l k (n+1)=(gb l k n).or (if kat l k n=true then some n else none):=by unfold gb;rw[amc,anW,anu,aoo];congr 1;cases kat l k n<;>rfl
theorem aaF(k:PV)(a:List (PV×PV))(b:List (PV×PV)):lM k (a++b)=(lM k a||lM k b):=by
 induction a with
 |nil=>rfl
 |cons x a ih=>obtain⟨u,v⟩:=x;simp only[amv,lM,ih,Bool.or_assoc]
theorem Wa(k z:PV)(a:List (PV×PV))(b:List (PV×PV)):bS k z (a++b)=if lM k a=true then bS k z a else bS k z b:=by
 induction a with
 |nil=>rfl
 |cons x a ih=>
  obtain⟨u,v⟩:=x;simp only[amv,bS,lM,ih];by_cases h:bM k.cells u.cells=true
  ·simp[h]
  ·simp[h]
theorem aaG(k v:PV)(a:List (PV×PV))(h:lM k a=false):dm k v a=a++[(k,v)]:=by
 induction a with
 |nil=>rfl
 |cons x a ih=>obtain⟨u,w⟩:=x;simp only[lM,alG]at h;simp only[dm,h.1,IN,Wi,ih h.2,amv]
theorem Ho{l:List aY}{k}{n:Nat}(h:n<l.length):kat l k n=decide (l[n].key=k):=by unfold kat;rw[AI h]
theorem ye(l:List aY)(k):∀n,n≤l.length→lM (k3 k) (Ke l n)=(gb l k n).isSome
 |0,_=>rfl
 |n+1,h=>by rw[FZ l n h,aaF,ye l k n (by omega),Jx,Ho h];simp only[lM,aaE,amg];have hd:decide (k=l[n].key)=decide (l[n].key=k):=am5.2 eq_comm;rw[hd];cases gb l k n<;>by_cases e:l[n].key=k<;>simp[e]
theorem F0(l:List aY)(k)(z:PV):∀n,n≤l.length→bS (k3 k) z (Ke l n)=match gb l k n with|some i=>.int .i64 (i:Int)|none=>z
 |0,_=>rfl
 |n+1,h=>by rw[FZ l n h,Wa,ye l k n (by omega),F0 l k z n (by omega),Jx,Ho h];simp only[bS,aaE];have hd:decide (k=l[n].key)=decide (l[n].key=k):=am5.2 eq_comm;rw[hd];cases gb l k n<;>by_cases e:l[n].key=k<;>simp[e]
theorem aaH(m:List (PV×PV)):(m.map fun x=>x.fst).zip (m.map fun x=>x.snd)=m:=by
 induction m with
 |nil=>rfl
 |cons x m ih=>simp only[alu,anS,ih]
def zP(T:aj)(l:List aY)(i:Nat):Option Int:=match l[i]? with
 |some r=>if cJ T r=false then some 9 else if(gb l r.key i).isSome=true then some 6 else none
 |none=>none
def Jy(T:aj)(l:List aY):Option Int:=(List.range l.length).findSome? (zP T l)
def mpv(l:List aY):PV:=.rm 191 ((Ke l l.length).map fun x=>x.fst) ((Ke l l.length).map fun x=>x.snd)
theorem RP(T:aj)(hT:pH T)(gT:T.Ok)(l:List aY)(hl:l.length≤maxLen):tt [T.pv,.rs 8 (l.map aY.pv)]=some (match Jy T l with|some e=>.aG [.rr,.int .i64 e]|none=>.aG [mpv l,.int .i64 0]):=by
 have hm:=al;simp only[tt,Dq,Mm,Mn,Mo,Mp,Mq,Mr,Ms,Mt,Mu,Mv,Mw,yO,yP,yQ,ah,asInt,IT,U,BY];refine(au (fun k=>(l.map aY.pv,(l.length:Int),(k:Int),pI T (Ke l k,()))) l.length (fun k=>(zP T l k).map fun e=>some (.aG [.rr,.int .i64 e])) (fin:=some (.aG [mpv l,.int .i64 0])) (fun k hk rec=>?_) (fun rec=>?_) ?_ ?_).trans ?_
 ·have h1:(k:Int)<(l.length:Int):=by omega
  have ho:jF [T.pv,PV.agg [.int .i64 l[k].bp,.int .i64 l[k].day,.int .i64 l[k].inst,cell l[k].pv 3,cell l[k].pv 4,cell l[k].pv 5,cell l[k].pv 6,cell l[k].pv 7]]=_:=Kc T hT gT l[k];have hb:zP T l k=if cJ T l[k]=false then some 9 else if(gb l l[k].key k).isSome=true then some 6 else none:=by unfold zP;rw[AI hk]
  have sW:∀r:aY,PV.agg [.int .i64 r.bp,.int .i64 r.day,.int .i64 r.inst]=k3 r.key:=fun _=>rfl;have jY:(asInt .i64 (match gb l l[k].key k with|some i=>.int .i64 (i:Int)|none=>PV.int .i64 0))=some (match gb l l[k].key k with|some i=>(i:Int)|none=>0):=by cases gb l l[k].key k<;>rfl
  simp only[pI];simp only[xn,AT,h1,IT,ab,IS,AI hk,No,U,PX,ael,ho,asBool,Ev,De,J4,asInt,sW,F0 l _ _ k (ann hk),ye l _ k (ann hk),af (show k<9223372036854775807 by omega)];rw[hb];cases cJ T l[k]with
  |false=>rfl
  |true=>
   simp only[alc,IN,Wi,alp];cases hf:gb l l[k].key k with
   |some i=>rfl
   |none=>
    have zT:lM (k3 l[k].key) (Ke l k)=false:=by rw[ye l _ k (ann hk),hf];rfl
    rw[aaG _ _ _ zT,←FZ l k hk];rfl
 ·simp only[xn,pI,AT,alk,Wi];rfl
 ·have:=aq;omega
 ·rfl
 ·unfold Jy;have:∀L:List Nat,(L.findSome? fun k=>(zP T l k).map fun e=>some (PV.aG [.rr,.int .i64 e]))=(L.findSome? (zP T l)).map fun e=>some (PV.aG [.rr,.int .i64 e]):=fun L=>by
   induction L with
   |nil=>rfl
   |cons a L ih=>simp only[al8];cases zP T l a<;>simp[ih]
  rw[this];cases(List.range l.length).findSome? (zP T l)<;>rfl
variable{T:aj}
theorem BX(hV:cA T){x:gw}(hx:x∈T.cm):lR x.a x.b T.ae.length=false∧gg T.aU x.a x.b=false:=by
 obtain⟨k,hk⟩:=als.1 hx;have h6:(og T.cm T.ae T.aU).2=0:=hV 6 (by decide);unfold og at h6;by_cases h:T.cm.length>128
 ·rw[T0 h]at h6;cases h6
 ·rw[acB h]at h6;have he:=jH _ _ h6 k (OF.1 hk).1;unfold AE at he;rw[hk]at he;simp only at he;by_cases h1:lR x.a x.b T.ae.length=true
  ·rw[T0 h1]at he;cases he
  ·rw[acB h1]at he;by_cases h2:gg T.aU x.a x.b=true
   ·rw[T0 h2]at he;cases he
   ·exact⟨by simpa using h1,by simpa using h2⟩
theorem DG(hV:cA T){g:gn}(hg:g∈T.bL):∃(i j:Nat)(p q:bn),g.a=i∧g.b=j∧T.ae[i]?=some p∧T.ae[j]?=some q∧pZ T.aU g.a=false∧pZ T.aU g.b=false∧js p.calls q.calls g.stop=true:=by
 obtain⟨k,hk⟩:=als.1 hg;have h7:(j9 T.bL T.ae T.aU T.stops.length).2=0:=hV 7 (by decide);unfold j9 at h7;by_cases h:T.bL.length>128
 ·rw[T0 h]at h7;cases h7
 ·rw[acB h]at h7;have he:=jH _ _ h7 k (OF.1 hk).1;unfold wh at he;rw[hk]at he;simp only at he;by_cases h1:(lR g.a g.b T.ae.length|| !Cg g.stop T.stops.length)=true
  ·rw[T0 h1]at he;cases he
  ·rw[acB h1]at he;by_cases h2:gg T.aU g.a g.b=true
   ·rw[T0 h2]at he;cases he
   ·rw[acB h2]at he;simp only[aly,anY,amf]at h1;obtain⟨i,j,hi,hj,Fc,rz⟩:=yN g.a g.b T.ae h1.1;have hp:T.ae[g.a.toNat]?=some T.ae[i]:=by rw[hi,ali,AI Fc]
    have hq:T.ae[g.b.toNat]?=some T.ae[j]:=by rw[hj,ali,AI rz]
    rw[hp,hq]at he;simp only at he;have hr:pZ T.aU g.a=false∧pZ T.aU g.b=false:=by unfold gg at h2;simpa using h2
    refine⟨i,j,_,_,hi,hj,AI Fc,AI rz,hr.1,hr.2,?_⟩;by_cases h3:js T.ae[i].calls T.ae[j].calls g.stop=false
    ·rw[T0 h3]at he;cases he
    ·simpa using h3
theorem qe{r:aY}(hk:cJ T r=true)(hr:pZ T.aU r.bp=false):kR r.day=true∧∃(i:Nat)(x:bn),r.bp=i∧T.ae[i]?=some x∧r=bT x i r.day 0 x.calls:=by
 unfold cJ at hk;rw[ale,AT]at hk;obtain⟨i,x,hx,hi,hm⟩:=Hg.1 hk.2;refine⟨hk.1,i,x,hi,hx,?_⟩;unfold dB at hm;by_cases ha:te T.dL T.lI x.vU r.day=false
 ·rw[T0 ha]at hm;cases hm
 ·rw[acB ha,T0 (by rw[←hi];exact hr)]at hm;simpa using hm
theorem Wb(D s:Int)(l:List aF):u7 (l.map (wI D)) s=u7 l s:=by funext k;unfold u7;rw[IS];cases l[k]? <;>rfl
theorem Wc(D s:Int)(l:List aF):sD (l.map (wI D)) s=sD l s:=by funext k;unfold sD;rw[IS,BY];cases l[k]? <;>rfl
theorem Ph(hV:cA T){i j:Nat}{p q:bn}(hp:T.ae[i]?=some p)(hq:T.ae[j]?=some q){d:Int}(hd:kR d=true)(s:Int):js (p.calls.map (wI (fp d))) (q.calls.map (wI (fp d))) s=js p.calls q.calls s:=by
 obtain⟨_,hD0,hD1⟩:=Hf hd;have tp:=kA hV hp;have tq:=kA hV hq;unfold js;rw[Wb,Wc,BY,BY];cases(List.range p.calls.length).find? (u7 p.calls s)with
 |none=>rfl
 |some a=>
  cases(List.range q.calls.length).find? (sD q.calls s)with
  |none=>rfl
  |some b=>
   simp only[WS,IS];cases ha:p.calls[a]? with
   |none=>rfl
   |some x=>
    cases hb:q.calls[b]? with
    |none=>rfl
    |some y=>have hx:=tp.call a x ha;have hy:=tq.call b y hb;have e1:(wI (fp d) x).arr=x.arr+fp d:=aW (by omega) (by omega);have e2:(wI (fp d) y).dep=y.dep+fp d:=aW (by omega) (by omega);show(!decide ((wI (fp d) y).dep<(wI (fp d) x).arr))= !decide (y.dep<x.arr);congr 1;exact am5.2 (by rw[e1,e2];omega)
def mI(a b:List aF)(s:Int):Int×Int:=match(List.range a.length).find? (u7 a s)with
 |none=>(0,0)
 |some i=>match(List.range b.length).find? (sD b s)with
  |none=>(0,0)
  |some k=>if WS a b i k=true then((i:Int),(k:Int))else(0,0)
theorem Pj(a b:List aF)(s:Int):wj a b s=.aG [.int .i64 (mI a b s).1,.int .i64 (mI a b s).2,.bool (js a b s)]:=by
 unfold wj mI js;cases(List.range a.length).find? (u7 a s)with
 |none=>rfl
 |some i=>
  cases(List.range b.length).find? (sD b s)with
  |none=>rfl
  |some k=>simp only[Pk];cases h:WS a b i k<;>simp
def cy(T:aj)(l:List aY)(a:Nat)(r:aY):Option aP:=(dM T.cm r.bp).bind fun n=>(gb l (n,r.day,0) l.length).map fun(b:Nat)=>(⟨(a:Int),(r.calls.length:Int)-1,(b:Int),0,true⟩:aP)
def lS(T:aj)(l:List aY)(a:Nat)(r:aY)(g:gn):Option aP:=
 if g.a=r.bp then(gb l (g.b,r.day,0) l.length).bind fun b=>(l[b]?).bind fun q=>
  if js r.calls q.calls g.stop=false∨cy T l a r=some ⟨a,(mI r.calls q.calls g.stop).1,b,(mI r.calls q.calls g.stop).2,true⟩then none
  else some ⟨a,(mI r.calls q.calls g.stop).1,b,(mI r.calls q.calls g.stop).2,false⟩
 else none
def fG(T:aj)(l:List aY)(a:Nat)(r:aY):List aP:=(cy T l a r).toList++T.bL.filterMap (lS T l a r)
variable{l:List aY}
theorem ur{k}{b:Nat}(h:gb l k l.length=some b):b<l.length∧∃r,l[b]?=some r∧r.key=k:=by unfold gb at h;have h1:=alI.1 (amz h);have h2:=am9 h;unfold kat at h2;rw[AI h1]at h2;exact⟨h1,_,AI h1,by simpa using h2⟩
theorem Bw{A B:Type}(f:A→Option B)(l:List A)(k:Nat)(h:k<l.length):(l.take (k+1)).filterMap f=(l.take k).filterMap f++(f l[k]).toList:=by rw[alx h,aof];cases hf:f l[k]<;>simp[hf]
theorem acw(s:aP)(a i b k:Int):bM [PV.int .i64 s.a,.int .i64 s.ac,.int .i64 s.b,.int .i64 s.bc,.bool s.stay] [PV.int .i64 a,.int .i64 i,.int .i64 b,.int .i64 k,.bool true]=decide (s=⟨a,i,b,k,true⟩):=by obtain⟨s0,s1,s2,s3,s4⟩:=s;rw[alE];simp[bM,peq]
def Wd(s:Option aP):aP:=s.getD ⟨-1,0,0,0,false⟩
theorem afJ(s:Option aP)(a:Nat)(i b k:Int):decide (Wd s=⟨a,i,b,k,true⟩)=decide (s=some ⟨a,i,b,k,true⟩):=by
 refine am5.2 ?_;cases s with
 |none=>simp[Wd]
 |some x=>simp[Wd]
theorem MZ(l:List PV)(h:l.length≤1000000):l.length*40≤ag∧0<40:=⟨by unfold ag;omega,by decide⟩
theorem Jz(o:Option aP):o.toList.length≤1:=by cases o<;>simp
theorem RQ{A B:Type}(f:A→Option B)(l:List A):(l.filterMap f).length≤l.length:=List.length_filterMap_le f l
def lkI(o:Option Nat):Int:=match o with|some i=>(i:Int)|none=>0
theorem JA(l:List aY)(k):bS (k3 k) (.int .i64 0) (Ke l l.length)=.int .i64 (lkI (gb l k l.length)):=by rw[F0 l k _ _ (alz _)];cases gb l k l.length<;>rfl
theorem Pl(i:Nat):lkI (some i)=(i:Int):=rfl
theorem acx(T:aj)(hT:pH T)(l:List aY)(hl:l.length≤1024)(hc:∀r∈l,r.calls.length≤40)(a:Nat)(r:aY)(ha:l[a]?=some r):aX.run (kC aX) (l.map aY.pv,mpv l,(a:Int),T.bL.map gn.pv,(T.bL.length:Int),0,(cy T l a r).toList.map aP.pv,cell r.pv 0,cell r.pv 1,cell r.pv 2,cell r.pv 3,cell r.pv 4,cell r.pv 5,cell r.pv 6,cell r.pv 7,(Wd (cy T l a r)).a,(Wd (cy T l a r)).ac,(Wd (cy T l a r)).b,(Wd (cy T l a r)).bc,(Wd (cy T l a r)).stay,())=some (.rs 5 ((fG T l a r).map aP.pv)):=by
 have aiG:=hT.bL;have U8:=hc r (alf ha);have hs1:=Jz (cy T l a r);obtain⟨st,nO⟩:∃st,cy T l a r=st:=⟨_,rfl⟩;refine aK (fun(k:Nat)=>(l.map aY.pv,mpv l,(a:Int),T.bL.map gn.pv,(T.bL.length:Int),(k:Int),((cy T l a r).toList++(T.bL.take k).filterMap (lS T l a r)).map aP.pv,cell r.pv 0,cell r.pv 1,cell r.pv 2,cell r.pv 3,cell r.pv 4,cell r.pv 5,cell r.pv 6,cell r.pv 7,(Wd (cy T l a r)).a,(Wd (cy T l a r)).ac,(Wd (cy T l a r)).b,(Wd (cy T l a r)).bc,(Wd (cy T l a r)).stay,())) T.bL.length (fun k hk rec=>?_) (fun rec=>?_) ?_ ?_
 ·have h1:(k:Int)<(T.bL.length:Int):=by omega
  obtain⟨g,hg⟩:∃g,T.bL[k]=g:=⟨_,rfl⟩;have sW:PV.agg [.int .i64 g.b,.int .i64 r.day,.int .i64 0]=k3 (g.b,r.day,0):=rfl;have hfl:=RQ (lS T l a r) (T.bL.take k);rw[alF]at hfl;have bF:∀X:PV,(((cy T l a r).toList++(T.bL.take k).filterMap (lS T l a r)).map aP.pv++[X]).length*40≤ag∧0<40:=fun X=>MZ _ (by simp only[aln,BY,aiK,alh];omega);have pM:((cy T l a r).toList++(T.bL.take (k+1)).filterMap (lS T l a r)).map aP.pv=((cy T l a r).toList++(T.bL.take k).filterMap (lS T l a r)).map aP.pv++(lS T l a r g).toList.map aP.pv:=by rw[Bw _ _ _ hk,←alJ,alP,hg]
  rw[pM];generalize ((cy T l a r).toList++(T.bL.take k).filterMap (lS T l a r)).map aP.pv=ov at bF;simp only[kC,AT,h1,IT,ab,IS,AI hk,hg,No,U,Pm,Pn,Po,Ev,De,Ce,asInt,ah,mpv,cM,aaH,sW,JA,ye l _ _ (alz _),dy];unfold lS;by_cases We:g.a=r.bp
  ·simp only[We,alB,alc,cond_false,U,IT];cases hf:gb l (g.b,r.day,0) l.length with
   |none=>simp only[am6,alA,IT,Option.bind_none,amD,amk,alO,af (show k<9223372036854775807 by omega)]
   |some b=>
    obtain⟨PU,q,hq,JN⟩:=ur hf;have hqc:=hc q (alf hq);have hmp:=JB r.calls q.calls (alH U8 (by decide)) (anR hqc (by decide)) g.stop;rw[Pj]at hmp;simp only[anq,Pl,alc,IN,Wi,ab,IS,hq,No,U,Ce,ah,IT,hmp,bR,asInt,asBool,aiK,alh,Nat.reduceAdd,adz,aiJ,acw,afJ,alr];cases hm:js r.calls q.calls g.stop with
    |false=>simp only[alA,cond_true,U,IT,true_or,amD,amk,alO,af (show k<9223372036854775807 by omega)]
    |true=>
     simp only[alc,cond_false,U,alp,false_or,AT];by_cases he:cy T l a r=some ⟨a,(mI r.calls q.calls g.stop).1,b,(mI r.calls q.calls g.stop).2,true⟩
     ·rw[T0 he,T0 he];simp only[amD,amk,alO,af (show k<9223372036854775807 by omega)]
     ·rw[acB he,acB he];have hrm:=bF (PV.agg [.int .i64 (a:Int),.int .i64 (mI r.calls q.calls g.stop).1,.int .i64 (b:Int),.int .i64 (mI r.calls q.calls g.stop).2,.bool false]);refine(T0 hrm).trans ?_;rw[af (show k<9223372036854775807 by omega)];rfl
  ·simp only[We,alw,alA,cond_true,U,IT,Wi,amD,amk,alO,af (show k<9223372036854775807 by omega)]
 ·simp only[kC,AT,alk,Wi,alT,fG]
 ·have:141<rounds:=by decide
  omega
 ·simp
theorem acy(T:aj)(hT:pH T)(gT:T.Ok)(l:List aY)(hl:l.length≤1024)(hc:∀r∈l,r.calls.length≤40)(a:Nat)(r:aY)(ha:l[a]?=some r):Ca [T.pv,.rs 8 (l.map aY.pv),mpv l,.int .i64 a]=some (.rs 5 ((fG T l a r).map aP.pv)):=by
 have U8:=hc r (alf ha);have zC:=acx T hT l hl hc a r ha;have pM:=F1 T.cm gT.cm.1 r.bp;simp only[Ca,MR,Mm,Mn,Mo,Mp,Mq,Mr,Ms,Mt,Mu,Mv,Mw,yO,yP,yQ,ah,asInt,IT,U,mpv,cM,ab,IS,ha,No,Ev,De,Ce,pM];unfold cy at zC;cases hn:dM T.cm r.bp with
 |none=>rw[hn]at zC;simp only[nh,bR,asInt,asBool,aiK,alh,Nat.reduceAdd,IT,U,adz,aiJ,IN,Wi,BY];exact zC
 |some n=>
  rw[hn]at zC;have sW:PV.agg [.int .i64 n,.int .i64 r.day,.int .i64 0]=k3 (n,r.day,0):=rfl;simp only[nh,bR,asInt,asBool,aiK,alh,Nat.reduceAdd,IT,U,adz,aiJ,aaH,sW,JA,ye l _ _ (alz _)];simp only[alr]at zC;cases hf:gb l (n,r.day,0) l.length with
  |none=>rw[hf]at zC;simp only[am6,IN,Wi,U,BY];exact zC
  |some b=>rw[hf]at zC;have hw:IntKind.i64.wrap ((r.calls.length:Int)-1)=(r.calls.length:Int)-1:=aW (by omega) (by omega);simp only[anq,Pl,IT,U,ah,BY,hw];exact zC
def Pp(l:List aY)(n d:Int)(i:Nat):Bool:=match l[i]? with|some r=>decide (r.bp=n)&&decide (r.day=d)|none=>false
theorem afK(l:List aY)(hl:l.length≤maxLen)(n d:Int):ll [.rs 8 (l.map aY.pv),.int .i64 n,.int .i64 d]=some (.int .i64 (zD ((List.range l.length).find? (Pp l n d)))):=by
 have hm:=al;simp only[ll,DB,ah,asInt,IT,U];refine(au (fun k=>(l.map aY.pv,n,d,(k:Int),())) l.length (fun k=>if Pp l n d k=true then some (some (.int .i64 (k:Int)))else none) (fin:=some (.int .i64 (-1))) (fun k hk rec=>?_) (fun rec=>?_) ?_ rfl).trans ?_
 ·have h1:(k:Int)<(l.length:Int):=by omega
  have ht:Pp l n d k=(decide (l[k].bp=n)&&decide (l[k].day=d)):=by unfold Pp;rw[AI hk]
  simp only[xo,AT,BY,h1,IT,ab,IS,AI hk,No,U,Ev,De,asInt,cd,bt,af (show k<9223372036854775807 by omega),ht];cases(decide (l[k].bp=n)&&decide (l[k].day=d))<;>rfl
 ·simp only[xo,AT,BY,alk,Wi]
 ·have:=aq;omega
 ·rw[fM (Pp l n d) (fun k=>some (PV.int .i64 (k:Int)))];cases(List.range l.length).find? (Pp l n d)<;>rfl
variable{n:Int}
theorem afL(hk:∀r∈l,cJ T r=true){d:Int}(hn:pZ T.aU n=false):Pp l n d=kat l (n,d,0):=by
 funext i;unfold Pp kat;cases h:l[i]? with
 |none=>rfl
 |some r=>
  simp only;rw[alE,ale,AT,AT,AT];unfold aY.key;simp only[akj];constructor
  ·rintro⟨h1,h2⟩;obtain⟨_,j,x,_,_,e⟩:=qe (hk r (alf h)) (by rw[h1];exact hn);exact⟨h1,h2,by rw[e];rfl⟩
  ·rintro⟨h1,h2,_⟩;exact⟨h1,h2⟩
theorem Pq(hl:l.length≤maxLen)(hk:∀r∈l,cJ T r=true)(d:Int)(hn:pZ T.aU n=false):ll [.rs 8 (l.map aY.pv),.int .i64 n,.int .i64 d]=some (.int .i64 (zD (gb l (n,d,0) l.length))):=by rw[afK l hl,afL hk hn];rfl
theorem Pr{a:Nat}{r:aY}{b:Nat}{i k:Int}(hb:gb l (n,r.day,0) l.length=some b):cy T l a r=some ⟨a,i,b,k,true⟩↔dM T.cm r.bp=some n∧i=(r.calls.length:Int)-1∧k=0:=by
 unfold cy;constructor
 ·intro h;obtain⟨m,hm,h⟩:=M1.1 h;obtain⟨b',je,h⟩:=alg.1 h;simp only[aP.mk.injEq,true_and,aot]at h;have e:b'=b:=by omega
  subst e;obtain⟨_,q,hq,Qo⟩:=ur hb;obtain⟨_,q',NI,L5⟩:=ur je;rw[hq]at NI;cases NI;rw[Qo]at L5;simp only[akj,aot]at L5;exact⟨by rw[hm,L5],h.1.symm,h.2.2.symm⟩
 ·rintro⟨h1,h2,h3⟩;rw[h1,alr,hb,h2,h3];rfl
theorem aaI(hV:cA T){t:Int}(h:dM T.cm t=some n):pZ T.aU n=false:=by unfold dM at h;obtain⟨x,hx,rfl⟩:=alg.1 h;have:=(BX hV (amz hx)).2;unfold gg at this;rw[alG]at this;exact this.2
theorem Wf(T:aj)(hT:pH T)(hV:cA T)(l:List aY)(hl:l.length≤1024)(hk:∀r∈l,cJ T r=true)(hc:∀r∈l,r.calls.length≤40)(a:Nat)(r:aY)(ha:l[a]?=some r)(nx:Int)(ok:Bool)(hnx:∀x,(ok&&decide (nx=x))=decide (dM T.cm r.bp=some x)):aX.run (jL aX) (l.map aY.pv,(a:Int),nx,ok,0,pI T ((cy T l a r).toList.map aP.pv,cell r.pv 0,cell r.pv 1,cell r.pv 2,cell r.pv 3,cell r.pv 4,cell r.pv 5,cell r.pv 6,cell r.pv 7,()))=some (.rs 5 ((fG T l a r).map aP.pv)):=by
 have aiG:=hT.bL;have hrm:=alf ha;have U8:=hc r hrm;have hs1:=Jz (cy T l a r);refine aK (fun(k:Nat)=>(l.map aY.pv,(a:Int),nx,ok,(k:Int),pI T (((cy T l a r).toList++(T.bL.take k).filterMap (lS T l a r)).map aP.pv,cell r.pv 0,cell r.pv 1,cell r.pv 2,cell r.pv 3,cell r.pv 4,cell r.pv 5,cell r.pv 6,cell r.pv 7,()))) T.bL.length (fun k vv rec=>?_) (fun rec=>?_) ?_ ?_
 ·have h1:(k:Int)<(T.bL.length:Int):=by omega
  obtain⟨g,hg⟩:∃g,T.bL[k]=g:=⟨_,rfl⟩;have sL:g∈T.bL:=hg▸alj vv;obtain⟨gi,gj,gp,gq,PW,hgj,hgp,hgq,hra,hrb,hmt⟩:=DG hV sL;have hfl:=RQ (lS T l a r) (T.bL.take k);rw[alF]at hfl;have bF:∀X:PV,(((cy T l a r).toList++(T.bL.take k).filterMap (lS T l a r)).map aP.pv++[X]).length*40≤ag∧0<40:=fun X=>MZ _ (by simp only[aln,BY,aiK,alh];omega);have pM:((cy T l a r).toList++(T.bL.take (k+1)).filterMap (lS T l a r)).map aP.pv=((cy T l a r).toList++(T.bL.take k).filterMap (lS T l a r)).map aP.pv++(lS T l a r g).toList.map aP.pv:=by rw[Bw _ _ _ vv,←alJ,alP,hg]
  rw[pM];generalize ((cy T l a r).toList++(T.bL.take k).filterMap (lS T l a r)).map aP.pv=ov at bF;simp only[pI];simp only[jL,AT,BY,h1,IT,ab,IS,AI vv,hg,No,U,Pm,Pn,Po,Ev,De,Ce,asInt,ah,dy];unfold lS;by_cases We:g.a=r.bp
  ·have hfk:=Pq (T:=T) (alH hl (by decide)) hk r.day hrb;simp only[We,alB,alc,IN,Wi,IT,hfk,U];cases hf:gb l (g.b,r.day,0) l.length with
   |none=>
    have VI:(zD (none:Option Nat))<0:=by decide
    simp only[VI,IT,Option.bind_none,amD,amk,alO,af (show k<9223372036854775807 by omega)]
   |some b=>
    obtain⟨PU,q,hq,JN⟩:=ur hf;have hqm:=alf hq;have hqc:=hc q hqm;have hmp:=Lz r.calls q.calls (anR U8 (by decide)) (anR hqc (by decide)) g.stop;have hqt:q.bp=g.b∧q.day=r.day:=by simp only[aY.key,akj]at JN;exact⟨JN.1,JN.2.1⟩
    have hmB:js r.calls q.calls g.stop=true:=by
     obtain⟨hd,i1,x1,WN,hx1,e1⟩:=qe (hk r hrm) (by rw[←We];exact hra);obtain⟨_,i2,x2,hi2,hx2,e2⟩:=qe (hk q hqm) (by rw[hqt.1];exact hrb);have:i1=gi:=by omega
     subst this;have:i2=gj:=by omega
     subst this;rw[hgp]at hx1;cases hx1;rw[hgq]at hx2;cases hx2;have c1:r.calls=gp.calls.map (wI (fp r.day)):=by rw[e1];rfl
     have c2:q.calls=gq.calls.map (wI (fp r.day)):=by rw[←hqt.2,e2];rfl
     rw[c1,c2,Ph hV hgp hgq hd];exact hmt
    rw[Pj,hmB]at hmp;have hnn:¬(b:Int)<0:=by omega
    have hio:zD (some b)=(b:Int):=rfl;have hw:IntKind.i64.wrap ((r.calls.length:Int)-1)=(r.calls.length:Int)-1:=aW (by omega) (by omega);simp only[hnn,Wi,hio,ab,IS,hq,No,U,Ce,ah,IT,hmp,bR,asInt,asBool,aiK,alh,Nat.reduceAdd,adz,aiJ,alr,cd,bt,hnx,BY,hw,hmB,alp,false_or];by_cases he:cy T l a r=some ⟨a,(mI r.calls q.calls g.stop).1,b,(mI r.calls q.calls g.stop).2,true⟩
    ·have h3:=(Pr hf).1 he;have hye:(decide (dM T.cm r.bp=some g.b)&&decide ((mI r.calls q.calls g.stop).1=(r.calls.length:Int)-1)&&decide ((mI r.calls q.calls g.stop).2=0))=true:=by simp only[ale,AT];exact⟨⟨h3.1,h3.2.1⟩,h3.2.2⟩
     rw[T0 he,T0 hye];simp only[amD,amk,alO,af (show k<9223372036854775807 by omega)]
    ·have cC:¬(decide (dM T.cm r.bp=some g.b)&&decide ((mI r.calls q.calls g.stop).1=(r.calls.length:Int)-1)&&decide ((mI r.calls q.calls g.stop).2=0))=true:=by intro h;simp only[ale,AT]at h;exact he ((Pr hf).2 ⟨h.1.1,h.1.2,h.2⟩)
     rw[acB he,acB cC];have hrm:=bF (PV.agg [.int .i64 (a:Int),.int .i64 (mI r.calls q.calls g.stop).1,.int .i64 (b:Int),.int .i64 (mI r.calls q.calls g.stop).2,.bool false]);refine(T0 hrm).trans ?_;rw[af (show k<9223372036854775807 by omega)];rfl
  ·simp only[We,alw,alA,IT,Wi,amD,amk,alO,af (show k<9223372036854775807 by omega)]
 ·simp only[jL,pI,AT,BY,alk,Wi,alT,fG]
 ·have:141<rounds:=by decide
  omega
 ·simp[pI]
theorem aaJ(T:aj)(hT:pH T)(gT:T.Ok)(hV:cA T)(l:List aY)(hl:l.length≤1024)(hk:∀r∈l,cJ T r=true)(hc:∀r∈l,r.calls.length≤40)(a:Nat)(r:aY)(ha:l[a]?=some r):tu [T.pv,.rs 8 (l.map aY.pv),.int .i64 a]=some (.rs 5 ((fG T l a r).map aP.pv)):=by
 have U8:=hc r (alf ha);have pM:=Ps T.cm gT.cm.1 r.bp;have zC:=Wf T hT hV l hl hk hc a r ha;simp only[tu,DC,Mm,Mn,Mo,Mp,Mq,Mr,Ms,Mt,Mu,Mv,Mw,yO,yP,yQ,ah,asInt,IT,U,ab,IS,ha,No,Ev,De,Ce,pM];cases hn:dM T.cm r.bp with
 |none=>
  have:=zC 0 false (fun x=>by rw[hn];exact(amX (by simp)).symm);have nO:cy T l a r=none:=by unfold cy;rw[hn];rfl
  rw[nO]at this;simp only[nh,bR,asInt,asBool,aiK,alh,Nat.reduceAdd,IT,U,adz,aiJ,IN,Wi];exact this
 |some n=>
  have:=zC n true (fun x=>by rw[hn];simp);have hfk:=Pq (T:=T) (alH hl (by decide)) hk r.day (aaI hV hn);simp only[nh,bR,asInt,asBool,aiK,alh,Nat.reduceAdd,IT,U,adz,aiJ,hfk];cases hf:gb l (n,r.day,0) l.length with
  |none=>
   have nO:cy T l a r=none:=by unfold cy;rw[hn,alr,hf];rfl
   rw[nO]at this;have VI:¬zD (none:Option Nat)≥0:=by decide
   simp only[VI,alw,IN,Wi];exact this
  |some b=>
   have hw:IntKind.i64.wrap ((r.calls.length:Int)-1)=(r.calls.length:Int)-1:=aW (by omega) (by omega);have nO:cy T l a r=some ⟨a,(r.calls.length:Int)-1,b,0,true⟩:=by unfold cy;rw[hn,alr,hf];rfl
   rw[nO]at this;have ez:zD (some b)≥0:=by show(b:Int)≥0;omega
   simp only[ez,alB,IT,ah,U,BY,hw];exact this
def kS(T:aj)(l:List aY)(a:Nat):List aP:=match l[a]? with|some r=>fG T l a r|none=>[]
def aR(T:aj)(l:List aY)(n:Nat):List aP:=(List.range n).flatMap (kS T l)
theorem gQ(T:aj)(l:List aY)(n:Nat):aR T l (n+1)=aR T l n++kS T l n:=by simp[aR,amc,am3]
theorem Pt(T:aj)(hT:pH T)(l:List aY)(a:Nat):(kS T l a).length≤141:=by
 unfold kS;cases l[a]? with
 |none=>simp
 |some r=>simp only[fG,aln];have h1:=Jz (cy T l a r);have h2:=RQ (lS T l a r) T.bL;have:=hT.bL;omega
theorem zm(T:aj)(hT:pH T)(l:List aY):∀n,(aR T l n).length≤141*n
 |0=>by simp[aR]
 |n+1=>by rw[gQ,aln];have:=zm T hT l n;have:=Pt T hT l n;omega
def gO(m:List aP)(e:Int):PV:=.aG [.rs 5 (m.map aP.pv),.int .i64 e]
def FA(T:aj)(l:List aY):PV:=match Jy T l with
 |some e=>gO [] e
 |none=>if(aR T l l.length).length>1024 then gO [] 5 else gO (aR T l l.length) 0
theorem aaK(T:aj)(hT:pH T)(gT:T.Ok)(l:List aY)(hl:l.length≤1024)(hc:∀r∈l,r.calls.length≤40):aX.run (l0 aX) (l.map aY.pv,mpv l,(l.length:Int),0,pI T ([],()))=some (if(aR T l l.length).length>1024 then gO [] 5 else gO (aR T l l.length) 0):=by
 refine(au (fun k=>(l.map aY.pv,mpv l,(l.length:Int),(k:Int),pI T ((aR T l k).map aP.pv,()))) l.length (fun k=>if(fun j=>(aR T l j).length) (k+1)>1024 then some (some (gO [] 5))else none) (fin:=some (gO (aR T l l.length) 0)) (fun k hk rec=>?_) (fun rec=>?_) ?_ ?_).trans ?_
 ·have h1:(k:Int)<(l.length:Int):=by omega
  have hof:=acy T hT gT l hl hc k l[k] (AI hk);have GA:kS T l k=fG T l k l[k]:=by unfold kS;rw[AI hk]
  have hlen:=zm T hT l (k+1);have bF:=MZ ((aR T l k).map aP.pv++(fG T l k l[k]).map aP.pv) (by rw[gQ,aln,GA]at hlen;simp only[aln,BY];omega);have WK:((aR T l k).map aP.pv++(fG T l k l[k]).map aP.pv).length=(aR T l (k+1)).length:=by rw[gQ,GA];simp
  simp only[pI];simp only[l0,AT,h1,IT,PX,hof,U,ah];have hmp:(aR T l (k+1)).map aP.pv=(aR T l k).map aP.pv++(fG T l k l[k]).map aP.pv:=by rw[gQ,GA,alP]
  rw[T0 bF,WK,←hmp];by_cases hb:(aR T l (k+1)).length>1024
  ·rw[T0 (show(((aR T l (k+1)).length:Nat):Int)>1024 by omega),T0 hb];rfl
  ·rw[acB (show¬(((aR T l (k+1)).length:Nat):Int)>1024 by omega),acB hb,af (show k<9223372036854775807 by omega)];rfl
 ·simp only[l0,pI,AT,alk,Wi];rfl
 ·have:1025<rounds:=by decide
  omega
 ·simp[pI,aR]
 ·rw[yb (fun j=>(aR T l j).length) (fun k=>by show(aR T l k).length≤(aR T l (k+1)).length;rw[gQ,aln];omega) (by simp[aR])];by_cases hb:(aR T l l.length).length>1024
  ·rw[T0 hb,T0 hb];rfl
  ·rw[acB hb,acB hb];rfl
theorem Re(T:aj)(hT:pH T)(gT:T.Ok)(l:List aY)(hl:l.length≤1024)(hc:∀r∈l,r.calls.length≤40)(p i e:Int)(hw:dW [T.pv]=some (ow p i e)):tv [T.pv,.rs 8 (l.map aY.pv)]=some (if e=0 then FA T l else gO [] e):=by
 have aaL:=RP T hT gT l (alH hl (by decide));have afM:¬((l.length:Int)>1024):=by omega
 simp only[tv,Dt,Mm,Mn,Mo,Mp,Mq,Mr,Ms,Mt,Mu,Mv,Mw,yO,yP,yQ,ah,asInt,IT,U,PX,hw,ow,bR,aiK,alh,Nat.reduceAdd,adz,aiJ,dy,BY,AT,afM,Wi,aaL];by_cases he:e=0
 ·simp only[he,alB,alc,IN,Wi,IT];unfold FA;cases hx:Jy T l with
  |some e'=>
   have cC:e'≠0:=by
    obtain⟨k,_,hk⟩:=alX hx;unfold zP at hk;split at hk
    ·split at hk
     ·cases hk;decide
     ·split at hk
      ·cases hk;decide
      ·cases hk
    ·cases hk
   simp only[U,cM,aiK,alh,Nat.reduceAdd,IT,adz,aiJ,cC,alw,alA];rfl
  |none=>have ho:=aaK T hT gT l hl hc;simp only[pI]at ho;simp only[U,mpv,cM,aiK,alh,Nat.reduceAdd,IT,adz,aiJ,alB,alc,IN,Wi];exact ho
 ·simp only[he,alw,alA,IT,Wi];rfl
theorem Wg(l:List aY)(k)(n:Nat):(List.range n).any (kat l k)=(gb l k n).isSome:=by unfold gb;rw[alE,amx,List.find?_isSome]
theorem acz(T:aj)(hT:pH T)(gT:T.Ok)(hV:cA T)(l:List aY)(hl:l.length≤1024)(hk:∀r∈l,cJ T r=true)(hc:∀r∈l,r.calls.length≤40):aX.run (pn aX) (l.map aY.pv,0,pI T ([],()))=some (if(aR T l l.length).length>1024 then gO [] 5 else gO (aR T l l.length) 0):=by
 refine aK (fun(k:Nat)=>(l.map aY.pv,(k:Int),pI T ((aR T l k).map aP.pv,()))) l.length (fun k vv rec=>?_) (fun rec=>?_) ?_ ?_
 ·have h1:(k:Int)<(l.length:Int):=by omega
  have hof:=aaJ T hT gT hV l hl hk hc k l[k] (AI vv);have GA:kS T l k=fG T l k l[k]:=by unfold kS;rw[AI vv]
  have hlen:=zm T hT l (k+1);have bF:=MZ ((aR T l k).map aP.pv++(fG T l k l[k]).map aP.pv) (by rw[gQ,aln,GA]at hlen;simp only[aln,BY];omega);simp only[pI];simp only[pn,AT,BY,h1,IT,PX,hof,U,ah];rw[T0 bF,gQ,GA,alP,af (show k<9223372036854775807 by omega)]
 ·simp only[pn,pI,AT,BY,alk,Wi];by_cases hb:(aR T l l.length).length>1024
  ·rw[T0 hb,T0 (by omega)];rfl
  ·rw[acB hb,acB (by omega)];rfl
 ·have:1025<rounds:=by decide
  omega
 ·simp[pI,aR]
theorem Wh{T:aj}{l:List aY}(h:Jy T l=none):∀r∈l,cJ T r=true:=fun r hr=>by
 obtain⟨k,hk⟩:=als.1 hr;unfold Jy at h;have:=amP.1 h k (alI.2 (OF.1 hk).1);unfold zP at this;rw[hk]at this;simp only at this;cases hkn:cJ T r with
 |true=>rfl
 |false=>rw[hkn]at this;cases this
theorem Vs(T:aj)(hT:pH T)(gT:T.Ok)(l:List aY)(hl:l.length≤1024)(hc:∀r∈l,r.calls.length≤40)(p i e:Int)(hw:jM [T.pv]=some (ow p i e))(hV:e=0→cA T):qW [T.pv,.rs 8 (l.map aY.pv)]=some (if e=0 then FA T l else gO [] e):=by
 have afM:¬((l.length:Int)>1024):=by omega
 simp only[qW,Br,Mm,Mn,Mo,Mp,Mq,Mr,Ms,Mt,Mu,Mv,Mw,yO,yP,yQ,ah,asInt,IT,U,PX,hw,ow,bR,aiK,alh,Nat.reduceAdd,adz,aiJ,dy,BY,AT,afM,Wi];by_cases he:e=0
 ·simp only[he,alB,alc,IN,Wi,IT];refine(jK (fun k=>(l.map aY.pv,(k:Int),pI T ())) l.length (fun k=>(zP T l k).map fun e=>some (gO [] e)) (fin:=some (if(aR T l l.length).length>1024 then gO [] 5 else gO (aR T l l.length) 0)) (fun k hk _ rec=>?_) (fun Jt rec=>?_) ?_ rfl).trans ?_
  ·have h1:(k:Int)<(l.length:Int):=by omega
   have hb:zP T l k=if cJ T l[k]=false then some 9 else if(gb l l[k].key k).isSome=true then some 6 else none:=by unfold zP;rw[AI hk]
   have hkn:=V9 T hT gT l[k];simp only[pI];simp only[u9,AT,BY,h1,IT,ab,IS,AI hk,No,U,PX,ael,hkn,asBool];rw[hb];cases cJ T l[k]with
   |false=>rfl
   |true=>
    simp only[alc,IN,Wi,alp];refine(cQ (fun j=>(l.map aY.pv,(k:Int),(j:Int),pI T ())) k (kat l l[k].key) (no:=some (gO [] 6)) (fin:=rec (l.map aY.pv,((k+1:Nat):Int),pI T ())) (fun j hj ake=>?_) (fun ake=>?_) ?_ rfl).trans ?_
    ·have h2:(j:Int)<(k:Int):=by omega
     have rz:j<l.length:=by omega
     have akf:kat l l[k].key j=(decide (l[j].bp=l[k].bp)&&decide (l[j].day=l[k].day)&&decide (l[j].inst=l[k].inst)):=by rw[Ho rz];unfold aY.key;rw[alE];simp[ani]
     simp only[pI];simp only[va,AT,h2,IT,ab,IS,AI hk,AI rz,No,U,Ev,De,J4,asInt,cd,bt,af (show j<9223372036854775807 by omega),akf];rfl
    ·simp only[va,pI,AT,alk,Wi,af (show k<9223372036854775807 by omega)]
    ·have:1025<rounds:=by decide
     omega
    ·rw[Wg];cases(gb l l[k].key k).isSome<;>rfl
  ·have hn:Jy T l=none:=by unfold Jy;rw[amP];intro k hk;have:=Jt k (alI.1 hk);simpa using this
   have ho:=acz T hT gT (hV he) l hl (Wh hn) hc;simp only[pI]at ho;simp only[u9,pI,AT,BY,alk,Wi,ho]
  ·have:1025<rounds:=by decide
   omega
  ·unfold FA Jy;have:∀L:List Nat,(L.findSome? fun k=>(zP T l k).map fun e=>some (gO [] e))=(L.findSome? (zP T l)).map fun e=>some (gO [] e):=fun L=>by
    induction L with
    |nil=>rfl
    |cons a L ih=>simp only[al8];cases zP T l a<;>simp[ih]
   rw[this];cases(List.range l.length).findSome? (zP T l)<;>rfl
 ·simp only[he,alw,alA,IT,Wi];rfl
structure RR(l:List aY)(x:aP):Prop where
 ends:∃(a b:Nat)(r q:aY)(i k:Nat)(c d:aF),x.a=a∧x.b=b∧a≠b∧l[a]?=some r∧l[b]?=some q∧r.day=q.day∧x.ac=i∧x.bc=k∧r.calls[i]?=some c∧q.calls[k]?=some d∧c.stop=d.stop∧¬d.dep<c.arr∧(x.stay=true→i+1=r.calls.length∧k=0)
def aP.key(x:aP):Int×Int×Int×Int:=(x.a,x.ac,x.b,x.bc)
theorem aaM{a b:List aF}{s:Int}(h:js a b s=true):∃(i k:Nat)(c d:aF),mI a b s=((i:Int),(k:Int))∧a[i]?=some c∧b[k]?=some d∧c.stop=s∧d.stop=s∧¬d.dep<c.arr:=by
 unfold js at h;unfold mI;cases hi:(List.range a.length).find? (u7 a s)with
 |none=>rw[hi]at h;cases h
 |some i=>
  rw[hi]at h;simp only at h⊢;cases hk:(List.range b.length).find? (sD b s)with
  |none=>rw[hk]at h;cases h
  |some k=>
   rw[hk]at h;simp only at h⊢;rw[T0 h];have h1:=am9 hi;have h2:=am9 hk;unfold u7 at h1;unfold sD at h2;unfold WS at h;cases ha:a[i]? with
   |none=>rw[ha]at h1;simp at h1
   |some c=>
    cases hb:b[k]? with
    |none=>rw[hb]at h2;simp at h2
    |some d=>rw[ha]at h1;rw[hb]at h2;rw[ha,hb]at h;simp only[ale,AT,alZ,alN]at h1 h2 h;exact⟨i,k,c,d,rfl,ha,hb,h1.2.1,h2.2.1,h⟩
variable{a:Nat}{T:aj}{l:List aY}{r:aY}{x:aP}
theorem Hh(hV:cA T)(hk:∀r∈l,cJ T r=true)(ha:l[a]?=some r)(hx:cy T l a r=some x):RR l x∧x.a=a∧x.stay=true:=by
 unfold cy at hx;obtain⟨n,hn,hx⟩:=M1.1 hx;obtain⟨b,hb,hx⟩:=alg.1 hx;obtain⟨PU,q,hq,JN⟩:=ur hb;have Nc:=hn;unfold dM at Nc;obtain⟨y,hy,hyb⟩:=alg.1 Nc;have hym:=amz hy;have Vk:y.a=r.bp:=by simpa using am9 hy
 obtain⟨hp,gL⟩:=BX hV hym;obtain⟨gi,gj,PW,hgj,Fc,rz⟩:=yN y.a y.b T.ae hp;have cC:y.a≠y.b:=by unfold lR at hp;simp only[alG,alN]at hp;exact hp.2
 have hra:pZ T.aU y.a=false∧pZ T.aU y.b=false:=by unfold gg at gL;simpa using gL
 simp only[aY.key,akj]at JN;obtain⟨hd,i1,x1,WN,hx1,e1⟩:=qe (hk r (alf ha)) (by rw[←Vk];exact hra.1);obtain⟨_,i2,x2,hi2,hx2,e2⟩:=qe (hk q (alf hq)) (by rw[JN.1,←hyb];exact hra.2);have c1:r.calls=x1.calls.map (wI (fp r.day)):=by rw[e1];rfl
 have c2:q.calls=x2.calls.map (wI (fp r.day)):=by rw[←JN.2.1,e2];rfl
 obtain⟨kk,vv⟩:=als.1 hym;have Kf:po x1 x2=0:=by
  have h6:(og T.cm T.ae T.aU).2=0:=hV 6 (by decide);unfold og at h6;by_cases h:T.cm.length>128
  ·rw[T0 h]at h6;cases h6
  ·rw[acB h]at h6;have he:=jH _ _ h6 kk (OF.1 vv).1;unfold AE at he;rw[vv]at he;simp only at he;rw[acB (by simp[hp]),acB (by simp[gL])]at he;have t1:T.ae[y.a.toNat]?=some x1:=by rw[Vk,WN,ali];exact hx1
   have t2:T.ae[y.b.toNat]?=some x2:=by rw[hyb,←JN.1,hi2,ali];exact hx2
   rw[t1,t2]at he;simp only at he;by_cases hz:po x1 x2=0
   ·exact hz
   ·rw[acB hz]at he;exact absurd he hz
 have tp:=kA hV hx1;have tq:=kA hV hx2;obtain⟨_,hD0,hD1⟩:=Hf hd;have hl1:x1.calls.length-1<x1.calls.length:=by have:=tp.two;omega
 have hl2:0<x2.calls.length:=by have:=tq.two;omega
 have g1:=AI hl1;have g2:=AI hl2;unfold po at Kf;by_cases X6:(!decide (x1.vU=x2.vU))=true
 ·rw[T0 X6]at Kf;cases Kf
 ·rw[acB X6,g1,g2]at Kf;simp only at Kf;by_cases hs:(!decide (x1.calls[x1.calls.length-1].stop=x2.calls[0].stop))=true
  ·rw[T0 hs]at Kf;cases Kf
  ·rw[acB hs]at Kf;by_cases ht:x2.calls[0].dep<x1.calls[x1.calls.length-1].arr
   ·rw[T0 ht]at Kf;cases Kf
   ·have hy1:=tp.call _ _ g1;have hy2:=tq.call _ _ g2;have w1:(wI (fp r.day) x1.calls[x1.calls.length-1]).arr=x1.calls[x1.calls.length-1].arr+fp r.day:=aW (by omega) (by omega);have w2:(wI (fp r.day) x2.calls[0]).dep=x2.calls[0].dep+fp r.day:=aW (by omega) (by omega);have hrl:r.calls.length=x1.calls.length:=by rw[c1,BY]
    have htw:=tp.two;subst hx;refine⟨⟨a,b,r,q,x1.calls.length-1,0,wI (fp r.day) x1.calls[x1.calls.length-1],wI (fp r.day) x2.calls[0],rfl,rfl,?_,ha,hq,JN.2.1.symm,?_,rfl,?_,?_,?_,?_,fun _=>⟨by omega,rfl⟩⟩,rfl,rfl⟩
    ·intro e;subst e;rw[ha]at hq;cases hq;exact cC (by rw[Vk,hyb];exact JN.1)
    ·simp only[hrl];omega
    ·rw[c1,IS,g1];rfl
    ·rw[c2,IS,g2];rfl
    ·have:x1.calls[x1.calls.length-1].stop=x2.calls[0].stop:=by simpa using hs
     exact this
    ·rw[w1,w2];omega
theorem EM(hV:cA T)(ha:l[a]?=some r){g:gn}(hg:g∈T.bL)(hx:lS T l a r g=some x):RR l x∧x.a=a∧g.a=r.bp∧cy T l a r≠some {x with stay:=true}∧∃(b i:Nat)(q:aY)(c:aF),x.b=b∧l[b]?=some q∧g.b=q.bp∧x.ac=i∧r.calls[i]?=some c∧c.stop=g.stop:=by
 obtain⟨gi,gj,gp,gq,PW,hgj,_,_,_,_,_⟩:=DG hV hg;have cC:g.a≠g.b:=by
  obtain⟨k,hk⟩:=als.1 hg;have h7:(j9 T.bL T.ae T.aU T.stops.length).2=0:=hV 7 (by decide);unfold j9 at h7;by_cases h:T.bL.length>128
  ·rw[T0 h]at h7;cases h7
  ·rw[acB h]at h7;have he:=jH _ _ h7 k (OF.1 hk).1;unfold wh at he;rw[hk]at he;simp only at he;by_cases h1:(lR g.a g.b T.ae.length|| !Cg g.stop T.stops.length)=true
   ·rw[T0 h1]at he;cases he
   ·simp only[aly,anY,amf]at h1;have:=h1.1;unfold lR at this;simp only[alG,alN]at this;exact this.2
 unfold lS at hx;by_cases We:g.a=r.bp
 ·rw[T0 We]at hx;obtain⟨b,hb,hx⟩:=M1.1 hx;obtain⟨q,hq,hx⟩:=M1.1 hx;obtain⟨_,q',NI,JN⟩:=ur hb;rw[hq]at NI;cases NI;simp only[aY.key,akj]at JN;by_cases hc:js r.calls q.calls g.stop=false∨cy T l a r=some ⟨a,(mI r.calls q.calls g.stop).1,b,(mI r.calls q.calls g.stop).2,true⟩
  ·rw[T0 hc]at hx;cases hx
  ·rw[acB hc]at hx;rw[anY]at hc;obtain⟨i,k,c,d,hm,hci,hdk,JZ,hds,ht⟩:=aaM (show js r.calls q.calls g.stop=true by simpa using hc.1);rw[hm]at hx hc;simp only[By]at hx;subst hx;refine⟨⟨a,b,r,q,i,k,c,d,rfl,rfl,?_,ha,hq,JN.2.1.symm,rfl,rfl,hci,hdk,by rw[JZ,hds],ht,fun h=>by cases h⟩,rfl,We,hc.2,b,i,q,c,rfl,hq,JN.1.symm,rfl,hci,JZ⟩;intro e;subst e;rw[ha]at hq;cases hq;exact cC (by rw[We,JN.1])
 ·rw[acB We]at hx;cases hx
theorem Pu(hV:cA T):T.bL.Pairwise fun g h=>g≠h:=by
 rw[alW];intro i j hi hj St e;have h7:(j9 T.bL T.ae T.aU T.stops.length).2=0:=hV 7 (by decide);unfold j9 at h7;by_cases h:T.bL.length>128
 ·rw[T0 h]at h7;cases h7
 ·rw[acB h]at h7;have he:=jH _ _ h7 j hj;unfold wh at he;rw[AI hj]at he;simp only at he;obtain⟨gi,gj,gp,gq,PW,hgj,hgp,hgq,hra,hrb,hmt⟩:=DG hV (alj hj);have t1:T.ae[T.bL[j].a.toNat]?=some gp:=by rw[PW,ali];exact hgp
  have t2:T.ae[T.bL[j].b.toNat]?=some gq:=by rw[hgj,ali];exact hgq
  by_cases h1:(lR T.bL[j].a T.bL[j].b T.ae.length|| !Cg T.bL[j].stop T.stops.length)=true
  ·rw[T0 h1]at he;cases he
  ·rw[acB h1]at he;by_cases h2:gg T.aU T.bL[j].a T.bL[j].b=true
   ·rw[T0 h2]at he;cases he
   ·rw[acB h2,t1,t2]at he;simp only at he;rw[acB (by simp[hmt])]at he;have bk:T.bL[j]∈T.bL.take j:=by rw[←e,als];exact⟨i,by rw[amj St,AI hi]⟩
    rw[T0 bk]at he;cases he
theorem M0(hV:cA T)(hk:∀r∈l,cJ T r=true)(ha:l[a]?=some r):(fG T l a r).Pairwise fun x y=>x.key≠y.key:=by
 unfold fG;rw[aml];refine⟨?_,?_,?_⟩
 ·cases cy T l a r<;>simp
 ·rw[List.pairwise_filterMap];refine ame (R:=fun g h=>g≠h) (fun{g h}hg hh cC x hx y hy e=>?_) (Pu hV);obtain⟨_,_,We,_,b,i,q,c,hb,hq,hgb,hi,hc,JZ⟩:=EM hV ha hg hx;obtain⟨_,_,akg,_,b',i',q',c',je,NI,akh,sI,hc',aki⟩:=EM hV ha hh hy;simp only[aP.key,akj]at e;have eb:b=b':=by omega
  have ei:i=i':=by omega
  subst eb;subst ei;rw[hq]at NI;cases NI;rw[hc]at hc';cases hc';apply cC;obtain⟨g1,g2,g3⟩:=g;obtain⟨k1,k2,k3⟩:=h;simp only at We akg hgb akh JZ aki;rw[gn.mk.injEq];exact⟨by omega,by omega,by omega⟩
 ·intro x hx y hy e;obtain⟨g,hg,hy⟩:=am7.1 hy;obtain⟨_,Vk,_,LV,_⟩:=EM hV ha hg hy;have HV:cy T l a r=some x:=by
   cases hs:cy T l a r with
   |none=>rw[hs]at hx;cases hx
   |some z=>rw[hs]at hx;simp only[anr,ami]at hx;rw[hx]
  obtain⟨_,hxa,aiH⟩:=Hh hV hk ha HV;apply LV;rw[HV];simp only[aP.key,akj]at e;obtain⟨x1,x2,x3,x4,x5⟩:=x;obtain⟨y1,y2,y3,y4,y5⟩:=y;simp only at e aiH;obtain⟨e1,e2,e3,e4⟩:=e;subst e1;subst e2;subst e3;subst e4;subst aiH;rfl
theorem SQ(hV:cA T)(hk:∀r∈l,cJ T r=true){n:Nat}(hx:x∈aR T l n):RR l x:=by
 obtain⟨a,_,hx⟩:=alS.1 hx;unfold kS at hx;cases ha:l[a]? with
 |none=>rw[ha]at hx;cases hx
 |some r=>
  rw[ha]at hx;simp only[fG,alM,am7]at hx;rcases hx with hx|⟨g,hg,hx⟩
  ·cases hs:cy T l a r with
   |none=>rw[hs]at hx;cases hx
   |some z=>rw[hs]at hx;simp only[anr,ami]at hx;subst hx;exact(Hh hV hk ha hs).1
  ·exact(EM hV ha hg hx).1
theorem aiI(hV:cA T)(hk:∀r∈l,cJ T r=true)(hx:x∈kS T l a):x.a=a:=by
 unfold kS at hx;cases ha:l[a]? with
 |none=>rw[ha]at hx;cases hx
 |some r=>
  rw[ha]at hx;simp only[fG,alM,am7]at hx;rcases hx with hx|⟨g,hg,hx⟩
  ·cases hs:cy T l a r with
   |none=>rw[hs]at hx;cases hx
   |some z=>rw[hs]at hx;simp only[anr,ami]at hx;subst hx;exact(Hh hV hk ha hs).2.1
  ·exact(EM hV ha hg hx).2.1
theorem Yv(hV:cA T)(hk:∀r∈l,cJ T r=true)(n:Nat):(aR T l n).Pairwise fun x y=>x.key≠y.key:=by
 unfold aR;rw[amu];refine⟨fun a _=>?_,?_⟩
 ·unfold kS;cases ha:l[a]? with
  |none=>simp
  |some r=>exact M0 hV hk ha
 ·refine ame (R:=fun a b=>a≠b) (fun{a b}_ _ h x hx y hy e=>?_) ank;have h1:=aiI hV hk hx;have h2:=aiI hV hk hy;have:x.a=y.a:=congrArg (fun k=>k.1) e;omega
theorem Db{a b:Int}(ha:kR a=true)(hb:kR b=true){n:Nat}(hn:a+n≤b+1)(hr:r∈bA T a n):cJ T r=true:=by obtain⟨d,hd,hr⟩:=alS.1 hr;have agF:=Bs hr;have hdl:=alI.1 hd;have h1:=(rH a).1 ha;have h2:=(rH b).1 hb;unfold cJ;rw[ale,AT,agF];exact⟨(rH _).2 (by omega),hr⟩
theorem Rc{a b:Int}(ha:kR a=true)(hb:kR b=true){n:Nat}(hn:a+n≤b+1):Jy T (bA T a n)=none:=by
 unfold Jy;rw[amP];intro k hk;have yf:=alI.1 hk;unfold zP;rw[AI yf];simp only;rw[Db ha hb hn (alj yf)];have zT:gb (bA T a n) (bA T a n)[k].key k=none:=by unfold gb;rw[anp];intro j hj;have hjk:=alI.1 hj;have hp:=alW.1 (Cz T a n) j k (by omega) yf hjk;rw[Ho (by omega)];simpa using hp
 rw[zT];simp
end Go.Ab.Tt
