import Derived.Test.YtmbihgjlollbeaaGreatNkP2
namespace Go.Ab.Tt
set_option maxRecDepth 100000
set_option linter.all false
structure bx where
 cr:Bool
 run:Int
 ca:Int
 bC:Int
 src:Int
 dst:Int
 dep:Int
 arr:Int
 stay:Bool
 deriving DecidableEq
def bx.pv(x:bx):PV:=.agg [.bool x.cr,.int .i64 x.run,.int .i64 x.ca,.int .i64 x.bC,.int .i64 x.src,.int .i64 x.dst,.int .i64 x.dep,.int .i64 x.arr,.bool x.stay]
structure bx.fR(M:Nat)(x:bx):Prop where
 run:jM x.run
 ca:jM x.ca
 bC:jM x.bC
 src:jM x.src
 dst:jM x.dst
 dep:jM x.dep
 arr:jM x.arr
abbrev bx.Ok(x:bx):Prop:=x.fR maxLen
theorem mq(x:bx):asAgg 9 x.pv=some ():=rfl
theorem aaF(x:bx):PV.agg [cell x.pv 0,cell x.pv 1,cell x.pv 2,cell x.pv 3,cell x.pv 4,cell x.pv 5,cell x.pv 6,cell x.pv 7,cell x.pv 8]=x.pv:=rfl
theorem ana(x:bx):PV.agg [.bool x.cr,.int .i64 x.run,.int .i64 x.ca,.int .i64 x.bC,.int .i64 x.src,.int .i64 x.dst,.int .i64 x.dep,.int .i64 x.arr,.bool x.stay]=x.pv:=rfl
theorem jK(x:bx):Ab.asBool (cell x.pv 0)=some x.cr:=rfl
theorem kS(x:bx):Ab.asInt .i64 (cell x.pv 1)=some x.run:=rfl
theorem kR(x:bx):Ab.asInt .i64 (cell x.pv 2)=some x.ca:=rfl
theorem mj(x:bx):Ab.asInt .i64 (cell x.pv 3)=some x.bC:=rfl
theorem kQ(x:bx):Ab.asInt .i64 (cell x.pv 4)=some x.src:=rfl
theorem mi(x:bx):Ab.asInt .i64 (cell x.pv 5)=some x.dst:=rfl
theorem kj(x:bx):Ab.asInt .i64 (cell x.pv 6)=some x.dep:=rfl
theorem kn(x:bx):Ab.asInt .i64 (cell x.pv 7)=some x.arr:=rfl
theorem iW(x:bx):Ab.asBool (cell x.pv 8)=some x.stay:=rfl
structure iJ where
 src:Int
 dst:Int
 time:Int
 back:Bool
 b9:Int
 walk:Int
 free:Bool
 rG:Bool
 bP:Int
 HQ:Bool
 deriving DecidableEq
def iJ.pv(x:iJ):PV:=.agg [.int .i64 x.src,.int .i64 x.dst,.int .i64 x.time,.bool x.back,.int .i64 x.b9,.int .i64 x.walk,.bool x.free,.bool x.rG,.int .i64 x.bP,.bool x.HQ]
structure iJ.fR(M:Nat)(x:iJ):Prop where
 src:jM x.src
 dst:jM x.dst
 time:jM x.time
 b9:jM x.b9
 walk:jM x.walk
 bP:jM x.bP
abbrev iJ.Ok(x:iJ):Prop:=x.fR maxLen
theorem Bd(x:iJ):asAgg 10 x.pv=some ():=rfl
theorem He(x:iJ):PV.agg [.int .i64 x.src,.int .i64 x.dst,.int .i64 x.time,.bool x.back,.int .i64 x.b9,.int .i64 x.walk,.bool x.free,.bool x.rG,.int .i64 x.bP,.bool x.HQ]=x.pv:=rfl
theorem Be(x:iJ):Ab.asInt .i64 (cell x.pv 0)=some x.src:=rfl
theorem Bf(x:iJ):Ab.asInt .i64 (cell x.pv 1)=some x.dst:=rfl
theorem Bg(x:iJ):Ab.asInt .i64 (cell x.pv 2)=some x.time:=rfl
theorem Bh(x:iJ):Ab.asBool (cell x.pv 3)=some x.back:=rfl
theorem Bi(x:iJ):Ab.asInt .i64 (cell x.pv 4)=some x.b9:=rfl
theorem Bj(x:iJ):Ab.asInt .i64 (cell x.pv 5)=some x.walk:=rfl
theorem Bk(x:iJ):Ab.asBool (cell x.pv 6)=some x.free:=rfl
theorem Bl(x:iJ):Ab.asBool (cell x.pv 7)=some x.rG:=rfl
theorem Bm(x:iJ):Ab.asInt .i64 (cell x.pv 8)=some x.bP:=rfl
theorem Bn(x:iJ):Ab.asBool (cell x.pv 9)=some x.HQ:=rfl
def Kh(l:List bx):PV:=.agg [.rs 9 (l.map bx.pv)]
theorem jA(l:List bx):asAgg 1 (Kh l)=some ():=rfl
theorem j0(l:List bx):ao 9 (cell (Kh l) 0)=some (l.map bx.pv):=rfl
theorem jF(l:List bx):PV.agg [.rs 9 (l.map bx.pv)]=Kh l:=rfl
structure iZ where
 prod:Int
 fst:Int
 lst:Int
 jL:Int
 deriving DecidableEq
def iZ.pv(x:iZ):PV:=.agg [.int .i64 x.prod,.int .i64 x.fst,.int .i64 x.lst,.int .i64 x.jL]
def iL(N:an)(q:iJ)(l:List bx)(i:Int):PV:=.agg [.rs 4 (N.stops.map Stop.pv),.rs 3 (N.aj.map ax.pv),.rs 8 (N.runs.map cy.pv),.rs 5 (N.aH.map bq.pv),.rs 4 (N.paths.map Path.pv),.rs 6 (N.aK.map aM.pv),.int .i64 N.bn,.int .i64 N.within,.int .i64 N.cap,.int .i64 q.src,.int .i64 q.dst,.int .i64 q.time,.bool q.back,.int .i64 q.b9,.int .i64 q.walk,.bool q.free,.bool q.rG,.int .i64 q.bP,.bool q.HQ,.rs 9 (l.map bx.pv),.int .i64 i]
section
variable (N:an) (q:iJ) (l:List bx) (i:Int)
theorem QF:asAgg 21 (iL N q l i)=some ():=rfl
theorem U4:PV.agg [.rs 4 (N.stops.map Stop.pv),.rs 3 (N.aj.map ax.pv),.rs 8 (N.runs.map cy.pv),.rs 5 (N.aH.map bq.pv),.rs 4 (N.paths.map Path.pv),.rs 6 (N.aK.map aM.pv),.int .i64 N.bn,.int .i64 N.within,.int .i64 N.cap,.int .i64 q.src,.int .i64 q.dst,.int .i64 q.time,.bool q.back,.int .i64 q.b9,.int .i64 q.walk,.bool q.free,.bool q.rG,.int .i64 q.bP,.bool q.HQ,.rs 9 (l.map bx.pv),.int .i64 i]=iL N q l i:=rfl
theorem QG:ao 4 (cell (iL N q l i) 0)=some (N.stops.map Stop.pv):=rfl
theorem QH:ao 3 (cell (iL N q l i) 1)=some (N.aj.map ax.pv):=rfl
theorem QI:ao 8 (cell (iL N q l i) 2)=some (N.runs.map cy.pv):=rfl
theorem QJ:ao 5 (cell (iL N q l i) 3)=some (N.aH.map bq.pv):=rfl
theorem QK:ao 4 (cell (iL N q l i) 4)=some (N.paths.map Path.pv):=rfl
theorem QL:ao 6 (cell (iL N q l i) 5)=some (N.aK.map aM.pv):=rfl
theorem QM:Ab.asInt .i64 (cell (iL N q l i) 6)=some N.bn:=rfl
theorem QN:Ab.asInt .i64 (cell (iL N q l i) 7)=some N.within:=rfl
theorem QO:Ab.asInt .i64 (cell (iL N q l i) 8)=some N.cap:=rfl
theorem QP:Ab.asInt .i64 (cell (iL N q l i) 9)=some q.src:=rfl
theorem Cd:Ab.asInt .i64 (cell (iL N q l i) 10)=some q.dst:=rfl
theorem Ce:Ab.asInt .i64 (cell (iL N q l i) 11)=some q.time:=rfl
theorem Cf:Ab.asBool (cell (iL N q l i) 12)=some q.back:=rfl
theorem Cg:Ab.asInt .i64 (cell (iL N q l i) 13)=some q.b9:=rfl
theorem Ch:Ab.asInt .i64 (cell (iL N q l i) 14)=some q.walk:=rfl
theorem Ci:Ab.asBool (cell (iL N q l i) 15)=some q.free:=rfl
theorem Cj:Ab.asBool (cell (iL N q l i) 16)=some q.rG:=rfl
theorem Ck:Ab.asInt .i64 (cell (iL N q l i) 17)=some q.bP:=rfl
theorem Cl:Ab.asBool (cell (iL N q l i) 18)=some q.HQ:=rfl
theorem Cm:ao 9 (cell (iL N q l i) 19)=some (l.map bx.pv):=rfl
theorem Cn:Ab.asInt .i64 (cell (iL N q l i) 20)=some i:=rfl
end
theorem aI(n:Int):Ab.asInt .i64 (.int .i64 n)=some n:=rfl
theorem aB(b:Bool):Ab.asBool (.bool b)=some b:=rfl
theorem aS(n:Nat)(l:List PV):Ab.ao n (.rs n l)=some l:=by simp[ao]
theorem ads{A:Type}(f:A→PV)(l:List A)(i:Int):dA (l.map f) i=(if 0≤i then l[i.toNat]? else none).map f:=by unfold dA;grind
theorem bp{A:Type}(f:A→PV)(l:List A)(k:Nat)(hk:k<l.length):dA (l.map f) (k:Int)=some (f l[k]):=by rw[ag,AT,cN hk];rfl
theorem C7{n:Nat}(h:n≤9223372036854775807):IntKind.i64.wrap ((n:Int)-1)=(n:Int)-1:=aZ (by omega) (by omega)
def FV(n a b:Int):Bool:=decide (n≥a)&&decide (n≤b)
theorem F2(n a b:Int):bI [.int .i64 n,.int .i64 a,.int .i64 b]=some (.bool (FV n a b)):=by simp[bI,tZ,aI,U,aJ,FV]
theorem adt(n a b:Int):eV [.int .i64 n,.int .i64 a,.int .i64 b]=some (.bool (FV n a b)):=by simp[eV,LZ,aI,U,aJ,FV]
def qOk(n:Int)(q:iJ):Bool:=FV q.src 0 (n-1)&&FV q.dst 0 (n-1)&&FV q.time 0 3155932800&&FV q.b9 0 8&&FV q.walk 0 86400&&FV q.bP 0 255&& !(q.HQ&&q.back)
def Fg(N:an)(q:iJ):Int:=if(tY N).2.2=0 then(if qOk N.stops.length q=true then 0 else 22)else 21
theorem ag8(N:an)(q:iJ)(h:N.Ok)(hp:N.paths.length≤4096):dJ [N.pv,q.pv]=some (.int .i64 (Fg N q)):=by have hm:=ai;have hs:=h.stops.1;simp only[dJ,jc,lj,ll,lq,lr,lu,lv,lx,ly,lz,lA,Bd,Be,Bf,Bg,Bh,Bi,Bj,Bk,Bl,Bm,Bn,U,pU,F1 N h hp];simp only[iT,cg,aqP,ase,BY,U,abm,ahH,aI,AI,C7 (asT hs hm),F2,aB,aJ,ay];unfold Fg qOk;grind
theorem anb(n:Nat)(hn:n≤9223372036854775807)(q:iJ):kr [.int .i64 n,q.pv]=some (.bool (qOk n q)):=by simp only[kr,rZ,Bd,Be,Bf,Bg,Bh,Bi,Bj,Bk,Bl,Bm,Bn,U,aI,C7 hn,adt,aB,aJ,ay];rfl
theorem RZ(N:an)(h:N.Ok)(hp:N.paths.length≤4096):nS [N.pv]=some (.bool (decide ((tY N).2.2=0))):=by simp only[nS,C8,lj,ll,lq,lr,lu,lv,lx,ly,lz,lA,U,pU,aaG N h hp];rfl
theorem ajA(N:an)(q:iJ)(h:N.Ok)(hp:N.paths.length≤4096):ku [N.pv,q.pv]=some (.int .i64 (Fg N q)):=by have hm:=ai;have hs:=h.stops.1;simp only[ku,sa,lj,ll,lq,lr,lu,lv,lx,ly,lz,lA,Bd,Be,Bf,Bg,Bh,Bi,Bj,Bk,Bl,Bm,Bn,U,pU,He,RZ N h hp,AI,anb _ (asT hs hm),aB];unfold Fg;grind
structure vN(N:an):Prop where
 ok:N.Ok
 paths:N.paths.length≤4096
 res:(tY N).2.2=0
variable{N:an}
theorem vN.parts(h:vN N):(fE N.stops).2=0∧(eM N.aj).2=0∧(cJ N.aK N.bn N.within N.cap).2=0:=by have h:=h.res;unfold tY at h;grind
theorem vN.stop(h:vN N):∀s∈N.stops,0≤s.ua∧s.ua<16∧0≤s.change∧s.change≤3600:=by
 intro s hs;obtain⟨k,hk,rfl⟩:=atn hs;have h1:=h.parts.1;unfold fE at h1;split at h1
 ·omega
 ·have:=(sb _ _).1 h1 k hk;unfold Hg at this;grind
theorem vN.dF(h:vN N):∀s∈N.aj,0≤s.mode∧s.mode<8:=by
 intro s hs;obtain⟨k,hk,rfl⟩:=atn hs;have h1:=h.parts.2.1;unfold eM at h1;split at h1
 ·omega
 ·have:=(sb _ _).1 h1 k hk;unfold C9 at this;grind
theorem vN.run(h:vN N):∀r∈N.runs,∃t,N.aj[r.dF.toNat]?=some t∧0≤r.dF∧t∈N.aj:=by
 intro r hr;obtain⟨k,hk,rfl⟩:=atn hr;have:=L2 h.res k hk;unfold oP at this;rw[cN hk]at this;simp only at this;split at this
 ·omega
 ·split at this
  ·omega
  ·split at this
   ·omega
   ·split at this
    ·omega
    simp_all
theorem vN.call(h:vN N):∀r∈N.runs,∀c∈r.calls,∃s,N.stops[c.stop.toNat]?=some s∧0≤c.stop∧s∈N.stops:=by
 intro r hr c hc;obtain⟨k,hk,rfl⟩:=atn hc;have:=R0 (Da h.res r hr) k hk;unfold vi at this;rw[cN hk]at this;simp only at this;unfold JA at this;split at this
 ·omega
 simp_all
theorem aV{A:Type}(f:A→PV){l:List A}{i:Int}{a:A}(h0:0≤i)(h:l[i.toNat]?=some a):dA (l.map f) i=some (f a):=by rw[ads,IN h0,h];rfl
def tW(N:an)(x:bx):Option cy:=if 0≤x.run then N.runs[x.run.toNat]? else none
def exB(N:an)(x:bx):Bool:=match tW N x with
 |some r=>decide (x.ca≥0)&&decide (x.ca<x.bC)&&decide (x.bC<(r.calls.length:Int))
 |none=>false
structure ub(N:an)(x:bx)(r:cy)(t:ax)(a b:aY):Prop where
 run:N.runs[x.run.toNat]?=some r
 pB:0≤x.run
 dF:N.aj[r.dF.toNat]?=some t
 Iv:0≤r.dF
 ca:r.calls[x.ca.toNat]?=some a
 Is:0≤x.ca
 bC:r.calls[x.bC.toNat]?=some b
 Hh:0≤x.bC
 lt:x.ca<x.bC
 mem:r∈N.runs
 tm:t∈N.aj
theorem wG(h:vN N){x:bx}(hx:exB N x=true):∃r t a b,ub N x r t a b:=by
 unfold exB at hx;cases hr:tW N x with
 |none=>rw[hr]at hx;cases hx
 |some r=>
  rw[hr]at hx;simp only[ao9,cT]at hx;unfold tW at hr;split at hr
  ·rename_i h0;have hm:=asb hr;obtain⟨t,t1,t2,t3⟩:=h.run r hm;have ha:x.ca.toNat<r.calls.length:=by omega
   have hb:x.bC.toNat<r.calls.length:=by omega
   exact⟨r,t,_,_,⟨hr,h0,t1,t2,cN ha,by omega,cN hb,by omega,by omega,hm,t3⟩⟩
  ·cases hr
theorem L3(N:an)(x:bx):mr [N.pv,x.pv]=some (.bool (exB N x)):=by
 simp only[mr,Bq,lj,ll,lq,lr,lu,lv,lx,ly,lz,lA,mq,jK,kS,kR,mj,kQ,mi,kj,kn,iW,U,AI,ay,aJ];unfold exB tW;by_cases h0:0≤x.run
 ·rw[IN h0];by_cases h1:x.run.toNat<N.runs.length
  ·rw[cN h1,IT (by simp;omega),aV cy.pv h0 (cN h1)];simp[U,CZ,aS,AI,aJ]
  simp_all
 grind
section
variable {N:an} {q:iJ} {l:List bx} {k:Nat}
theorem uc(hk:k<l.length):aT [iL N q l k]=some l[k].pv:=by simp only[aT,mw,QF,QG,QH,QI,QJ,QK,QL,QM,QN,QO,QP,Cd,Ce,Cf,Cg,Ch,Ci,Cj,Ck,Cl,Cm,Cn,U,bp bx.pv l k hk,aaF]
theorem P2(hk:k+1<l.length)(hl:l.length≤maxLen):cn [iL N q l ((k+1:Nat):Int)]=some l[k].pv:=by have hm:=ai;simp only[cn,gX,QF,QG,QH,QI,QJ,QK,QL,QM,QN,QO,QP,Cd,Ce,Cf,Cg,Ch,Ci,Cj,Ck,Cl,Cm,Cn,U,hZ k (by omega),bp bx.pv l k (by omega),aaF]
theorem air(x:aY):PV.agg [cell x.pv 0,cell x.pv 1,cell x.pv 2,cell x.pv 3,cell x.pv 4]=x.pv:=rfl
theorem ais(x:aY):asAgg 5 x.pv=some ():=rfl
theorem adu(hk:k<l.length){r:cy}{t:ax}{a b:aY}(h:ub N l[k] r t a b):fb [iL N q l k]=some a.pv:=by simp only[fb,kv,QF,QG,QH,QI,QJ,QK,QL,QM,QN,QO,QP,Cd,Ce,Cf,Cg,Ch,Ci,Cj,Ck,Cl,Cm,Cn,U,U4,uc hk,mq,jK,kS,kR,mj,kQ,mi,kj,kn,iW,aV cy.pv h.pB h.run,CZ,aS,aV aY.pv h.Is h.ca,air]
theorem Ox(hk:k<l.length){r:cy}{t:ax}{a b:aY}(h:ub N l[k] r t a b):du [iL N q l k]=some b.pv:=by simp only[du,jP,QF,QG,QH,QI,QJ,QK,QL,QM,QN,QO,QP,Cd,Ce,Cf,Cg,Ch,Ci,Cj,Ck,Cl,Cm,Cn,U,U4,uc hk,mq,jK,kS,kR,mj,kQ,mi,kj,kn,iW,aV cy.pv h.pB h.run,CZ,aS,aV aY.pv h.Hh h.bC,air]
end
theorem wL{S R X:Type}{body:S→(S→Option R)→Option R}(st:Nat→X→S)(G:Nat→X→Option R)(n:Nat)(h:∀k,k<n→∀e rec,(∀e',rec (st (k+1) e')=G (k+1) e')→body (st k e) rec=G k e)(tQ:∀e rec,body (st n e) rec=G n e)(hn:n<rounds)(e:X){s0:S}(h0:st 0 e=s0):ba.run body s0=G 0 e:=by
 have key:∀(m j N:Nat)(e:X),j+m=n→m<N→cE body N (st j e)=G j e:=by
  intro m;induction m with
  |zero=>
   intro j N e hj hN;cases N with
   |zero=>omega
   |succ N=>simp_all[cE]
  |succ m ih=>
   intro j N e hj hN;cases N with
   |zero=>omega
   |succ N=>grind [cE]
 grind [pL,rounds]
theorem mW{A:Type}{l:List A}{k:Nat}(h:k<l.length):l.drop k=l[k]::l.drop (k+1):=atb h
def QQ(N:an)(x:bx):Bool:= !FV x.src 0 ((N.stops.length:Int)-1)|| !FV x.dst 0 ((N.stops.length:Int)-1)||(if x.cr=true then !exB N x else(x.run !=0||x.ca !=0||x.bC !=0||x.stay))
def Nr(x:bx):Bool:= !FV x.dep 0 3155932800|| !FV x.arr 0 3155932800
def wkB(x:bx)(p:Path):Bool:=decide (p.a=x.src)&&decide (p.b=x.dst)&&decide (p.fq=IntKind.i64.wrap (x.arr-x.dep))
def wk(q:iJ)(x:bx):List Path→Int→Int
 |[],e=>e
 |p::r,e=>if wkB x p=true then(if(p.free|| !q.free)=true then 0 else wk q x r 29)else wk q x r e
def Oy(N:an)(q:iJ)(i:Int):Bool:= !q.free||(match N.stops[i.toNat]? with|some s=>s.free|none=>false)
def adv(q:iJ)(t:ax):Bool:=q.bP !=0&&IntKind.i64.wrap (↑(BitVec.ofInt IntKind.i64.bits (q.bP.fdiv (2^min t.mode.toNat IntKind.i64.bits))&&&BitVec.ofInt IntKind.i64.bits 1).toNat:Int)==0
def Oz(N:an)(q:iJ)(x:bx)(r:cy)(t:ax)(a b:aY):Int:=
 if(a.stop !=x.src||b.stop !=x.dst)=true then 24 else if(a.dep !=x.dep||b.arr !=x.arr)=true then 10 else if r.aar=true then 27
 else if(q.free&& !r.free)=true then 29 else if(q.rG&& !t.rG)=true then 30 else if adv q t=true then 31
 else if(!x.stay&& !a.ca)=true then 25 else if(!x.stay&& !Oy N q x.src)=true then 29 else 0
def adw(N:an)(q:iJ)(x:bx):Int:=match tW N x with
 |some r=>match N.aj[r.dF.toNat]?,r.calls[x.ca.toNat]?,r.calls[x.bC.toNat]? with
  |some t,some a,some b=>Oz N q x r t a b
  |_,_,_=>0
 |none=>0
theorem R1{N:an}{q:iJ}{x:bx}{r:cy}{t:ax}{a b:aY}(h:ub N x r t a b):adw N q x=Oz N q x r t a b:=by unfold adw tW;rw[IN h.pB,h.run];simp only[h.dF,h.ca,h.bC]
def oM(N:an)(q:iJ)(x:bx):Int:=if QQ N x=true then 9 else if Nr x=true then 10 else if x.cr=true then adw N q x else wk q x N.paths 18
section
variable {N:an} {q:iJ} {l:List bx} {k:Nat}
theorem R2(h:vN N):N.stops.length≤64:=Iw h.parts.1
theorem ag9(h:vN N)(hk:k<l.length):dG [iL N q l k]=some (.int .i64 (if QQ N l[k]=true then 9 else 0)):=by
 have hs:=R2 h;simp only[dG,gb,QF,QG,QH,QI,QJ,QK,QL,QM,QN,QO,QP,Cd,Ce,Cf,Cg,Ch,Ci,Cj,Ck,Cl,Cm,Cn,U,U4,uc hk,mq,jK,kS,kR,mj,kQ,mi,kj,kn,iW,AI,C7 (show N.stops.length≤9223372036854775807 by omega),F2,aB,ay,aJ];unfold QQ;cases kM:(!FV l[k].src 0 ((N.stops.length:Int)-1)|| !FV l[k].dst 0 ((N.stops.length:Int)-1))with
 |true=>rfl
 |false=>
  rw[IT (by simp)];simp only[as5];cases hr:l[k].cr with
  |false=>grind
  |true=>
   simp only[aiI,cond_false,U,cQ,IS,cond_true,BY];have hrl:N.runs.length≤9223372036854775807:=asT h.ok.runs.1 ai;rw[C7 hrl];unfold exB tW;by_cases h0:0≤l[k].run
   ·by_cases h1:l[k].run.toNat<N.runs.length
    ·have hb:FV l[k].run 0 ((N.runs.length:Int)-1)=true:=by simp[FV];omega
     rw[hb,IN h0,cN h1,aV cy.pv h0 (cN h1)];simp only[U,CZ,aS,AI,aiI,as5,cond_false];grind
    ·have hb:FV l[k].run 0 ((N.runs.length:Int)-1)=false:=by simp[FV];omega
     simp_all
   ·have hb:FV l[k].run 0 ((N.runs.length:Int)-1)=false:=by simp[FV];omega
    rw[hb,IT h0];rfl
theorem aha(hk:k<l.length):ei [iL N q l k]=some (.int .i64 (if Nr l[k]=true then 10 else 0)):=by simp only[ei,iM,QF,QG,QH,QI,QJ,QK,QL,QM,QN,QO,QP,Cd,Ce,Cf,Cg,Ch,Ci,Cj,Ck,Cl,Cm,Cn,U,U4,uc hk,mq,jK,kS,kR,mj,kQ,mi,kj,kn,iW,F2,aB,ay];unfold Nr;grind
theorem WZ(i:Int)(s:Stop)(h0:0≤i)(hs:N.stops[i.toNat]?=some s)(c:Int):dY [iL N q l c,.int .i64 i]=some (.bool (Oy N q i)):=by simp only[dY,lB,QF,QG,QH,QI,QJ,QK,QL,QM,QN,QO,QP,Cd,Ce,Cf,Cg,Ch,Ci,Cj,Ck,Cl,Cm,Cn,U,aI,aV Stop.pv h0 hs];unfold Oy;rw[hs];cases q.free<;>rfl
theorem R3(i:Int)(s:Stop)(h0:0≤i)(hs:N.stops[i.toNat]?=some s):kx [N.pv,q.pv,.int .i64 i]=some (.bool (Oy N q i)):=by simp only[kx,F3,lj,ll,lq,lr,lu,lv,lx,ly,lz,lA,Bd,Be,Bf,Bg,Bh,Bi,Bj,Bk,Bl,Bm,Bn,U,aI,aV Stop.pv h0 hs];unfold Oy;rw[hs];cases q.free<;>rfl
end
theorem PI(q:iJ)(x:bx)(p:Path)(r:List Path)(e:Int):wk q x (p::r) e=if wkB x p=true then(if(p.free|| !q.free)=true then 0 else wk q x r 29)else wk q x r e:=rfl
section
variable {N:an} {q:iJ} {l:List bx} {k:Nat}
theorem ahb(h:vN N)(hk:k<l.length):fG [iL N q l k]=some (.int .i64 (if l[k].cr=true then 0 else wk q l[k] N.paths 18)):=by
 have hp:=h.paths;simp only[fG,lC,QF,QG,QH,QI,QJ,QK,QL,QM,QN,QO,QP,Cd,Ce,Cf,Cg,Ch,Ci,Cj,Ck,Cl,Cm,Cn,U,U4,uc hk,mq,jK,kS,kR,mj,kQ,mi,kj,kn,iW,AI];by_cases hr:l[k].cr=true
 ·simp_all
 ·rw[IT hr,IT hr];refine wL (fun j e=>(e,N.paths.map Path.pv,(N.paths.length:Int),(j:Int),N.stops.map Stop.pv,N.aj.map ax.pv,N.runs.map cy.pv,N.aH.map bq.pv,N.paths.map Path.pv,N.aK.map aM.pv,N.bn,N.within,N.cap,q.src,q.dst,q.time,q.back,q.b9,q.walk,q.free,q.rG,q.bP,q.HQ,l.map bx.pv,(k:Int),cell l[k].pv 0,cell l[k].pv 1,cell l[k].pv 2,cell l[k].pv 3,cell l[k].pv 4,cell l[k].pv 5,cell l[k].pv 6,cell l[k].pv 7,cell l[k].pv 8,())) (fun j e=>some (PV.int .i64 (wk q l[k] (N.paths.drop j) e))) N.paths.length (fun j hj e rec iV=>?_) (fun e rec=>?_) (by unfold rounds;omega) 18 rfl
  ·unfold iN;dsimp only;have arO:∀e',_:=iV;rw[IN (by simp;omega),bp Path.pv N.paths j hj];simp only[U,Hi,Hj,L4,Hk,aI,aB,mq,jK,kS,kR,mj,kQ,mi,kj,kn,iW,aJ,ay,ab (show j<9223372036854775807 by omega),iV];rw[mW hj,show(N.paths[j].a==l[k].src&&N.paths[j].b==l[k].dst&&N.paths[j].fq==IntKind.i64.wrap (l[k].arr-l[k].dep))=wkB l[k] N.paths[j] by rfl];grind [PI,wkB]
  ·unfold iN;dsimp only;rw[IT (by simp),as3];rfl
theorem adx(h:vN N)(x:bx):vj [N.pv,q.pv,x.pv]=some (.int .i64 (wk q x N.paths 18)):=by
 have hp:=h.paths;simp only[vj,F4,lj,ll,lq,lr,lu,lv,lx,ly,lz,lA,Bd,Be,Bf,Bg,Bh,Bi,Bj,Bk,Bl,Bm,Bn,mq,jK,kS,kR,mj,kQ,mi,kj,kn,iW,U];refine wL (fun j e=>(e,(j:Int),N.stops.map Stop.pv,N.aj.map ax.pv,N.runs.map cy.pv,N.aH.map bq.pv,N.paths.map Path.pv,N.aK.map aM.pv,N.bn,N.within,N.cap,q.src,q.dst,q.time,q.back,q.b9,q.walk,q.free,q.rG,q.bP,q.HQ,x.cr,x.run,x.ca,x.bC,x.src,x.dst,x.dep,x.arr,x.stay,())) (fun j e=>some (PV.int .i64 (wk q x (N.paths.drop j) e))) N.paths.length (fun j hj e rec iV=>?_) (fun e rec=>?_) (by unfold rounds;omega) 18 rfl
 ·unfold zq;dsimp only;rw[IN (by simp;omega),bp Path.pv N.paths j hj];simp only[U,Hi,Hj,L4,Hk,aI,aB,aJ,ay,ab (show j<9223372036854775807 by omega),iV];rw[mW hj,PI];simp only[wkB,bne,bX];grind
 ·unfold zq;dsimp only;rw[IT (by simp),as3];rfl
theorem LQ(x:aY):Ab.asInt .i64 (cell x.pv 0)=some x.stop:=rfl
theorem ady(x:aY):Ab.asInt .i64 (cell x.pv 1)=some x.arr:=rfl
theorem UH(x:aY):Ab.asInt .i64 (cell x.pv 2)=some x.dep:=rfl
theorem adz(x:aY):Ab.asBool (cell x.pv 3)=some x.ca:=rfl
theorem adA(x:aY):Ab.asBool (cell x.pv 4)=some x.bC:=rfl
theorem ED(x:ax):Ab.asInt .i64 (cell x.pv 1)=some x.mode:=rfl
theorem W0(x:ax):Ab.asBool (cell x.pv 2)=some x.rG:=rfl
theorem ifI(c:Prop)[Decidable c](a b:Int):some (PV.int .i64 (if c then a else b))=if c then some (PV.int .i64 a)else some (PV.int .i64 b):=by split<;>rfl
theorem ahc(h:vN N)(hk:k<l.length)(hr:l[k].cr=true){r:cy}{t:ax}{a b:aY}(hx:ub N l[k] r t a b){s:Stop}(hs:N.stops[l[k].src.toNat]?=some s)(Jx:0≤l[k].src):cX [iL N q l k]=some (.int .i64 (Oz N q l[k] r t a b)):=by have hm:=(h.dF t hx.tm).1;simp only[cX,gQ,QF,QG,QH,QI,QJ,QK,QL,QM,QN,QO,QP,Cd,Ce,Cf,Cg,Ch,Ci,Cj,Ck,Cl,Cm,Cn,U,U4,uc hk,mq,jK,kS,kR,mj,kQ,mi,kj,kn,iW,hr,aiI,cQ,IS,aV cy.pv hx.pB hx.run,JX,UC,UD,aI,aB,aV ax.pv hx.Iv hx.dF,adu hk hx,Ox hk hx,ais,LQ,ady,UH,adz,ED,W0,ay,aJ,WZ _ s Jx hs];rw[IT (show¬t.mode<0 by omega)];simp[aJ,U,Oz,adv,ifI]
end
section
variable {N:an} {q:iJ} {l:List bx} {k:Nat}
theorem adB(hk:k<l.length)(hr:l[k].cr=false):cX [iL N q l k]=some (.int .i64 0):=by simp only[cX,gQ,QF,QG,QH,QI,QJ,QK,QL,QM,QN,QO,QP,Cd,Ce,Cf,Cg,Ch,Ci,Cj,Ck,Cl,Cm,Cn,U,U4,uc hk,mq,jK,kS,kR,mj,kQ,mi,kj,kn,iW,hr,asr,BY]
theorem lh{x:bx}(h:QQ N x=false):(∃s,N.stops[x.src.toNat]?=some s∧0≤x.src∧s∈N.stops)∧(∃s,N.stops[x.dst.toNat]?=some s∧0≤x.dst∧s∈N.stops)∧(x.cr=true→exB N x=true)∧(x.cr=false→x.stay=false):=by
 unfold QQ at h;simp only[asE,as0,FV,ao9,cT]at h;obtain⟨⟨⟨a1,a2⟩,b1,b2⟩,c⟩:=h;have h1:x.src.toNat<N.stops.length:=by omega
 have h2:x.dst.toNat<N.stops.length:=by omega
 refine⟨⟨_,cN h1,by omega,ar9 h1⟩,⟨_,cN h2,by omega,ar9 h2⟩,fun hr=>?_,fun hr=>?_⟩
 ·simp_all
 simp_all
theorem ajB(h:vN N)(hk:k<l.length):gd [iL N q l k]=some (.int .i64 (oM N q l[k])):=by
 simp only[gd,my,QF,QG,QH,QI,QJ,QK,QL,QM,QN,QO,QP,Cd,Ce,Cf,Cg,Ch,Ci,Cj,Ck,Cl,Cm,Cn,U,U4,ag9 h hk,aI];unfold oM;cases hl:QQ N l[k]with
 |true=>rfl
 |false=>
  obtain⟨⟨s,hs,Jx,_⟩,_,hx,uJ⟩:=lh hl;simp only[cQ,IS,aha hk,U,aI];rw[IT (by simp)];cases hmo:Nr l[k]with
  |true=>rfl
  |false=>
   simp only[cQ,IS,ahb h hk,U,aI];rw[IT (by simp)];cases hr:l[k].cr with
   |true=>obtain⟨r,t,a,b,kO⟩:=wG h (hx hr);simp only[BY,ahc h hk hr kO hs Jx,U,aI,R1 kO];simp_all
   |false=>simp only[cQ,IS,adB hk hr,U,aI];simp_all
theorem adC(h:vN N){x:bx}{r:cy}{t:ax}{a b:aY}(hx:ub N x r t a b){s:Stop}(hs:N.stops[x.src.toNat]?=some s)(Jx:0≤x.src):vk [N.pv,q.pv,x.pv]=some (.int .i64 (Oz N q x r t a b)):=by have hm:=(h.dF t hx.tm).1;simp only[vk,F5,lj,ll,lq,lr,lu,lv,lx,ly,lz,lA,Bd,Be,Bf,Bg,Bh,Bi,Bj,Bk,Bl,Bm,Bn,mq,jK,kS,kR,mj,kQ,mi,kj,kn,iW,U,pU,He,aV cy.pv hx.pB hx.run,JX,UC,UD,CZ,aI,aB,aS,aV aY.pv hx.Is hx.ca,aV aY.pv hx.Hh hx.bC,aV ax.pv hx.Iv hx.dF,LQ,ady,UH,adz,ED,W0,ay,aJ,R3 _ s Jx hs];rw[IT (show¬t.mode<0 by omega)];simp[aJ,U,Oz,adv,ifI]
theorem ahd(h:vN N)(x:bx):mX [N.pv,q.pv,x.pv]=some (.int .i64 (oM N q x)):=by
 have hs:=R2 h;simp only[mX,wM,lj,ll,lq,lr,lu,lv,lx,ly,lz,lA,Bd,Be,Bf,Bg,Bh,Bi,Bj,Bk,Bl,Bm,Bn,mq,jK,kS,kR,mj,kQ,mi,kj,kn,iW,U,pU,He,ana,AI,C7 (show N.stops.length≤9223372036854775807 by omega),adt,aB,ay,aJ,L3];unfold oM;have hc:(!FV x.src 0 ((N.stops.length:Int)-1)|| !FV x.dst 0 ((N.stops.length:Int)-1))=true∨(!FV x.src 0 ((N.stops.length:Int)-1)|| !FV x.dst 0 ((N.stops.length:Int)-1))=false:=by grind
 rcases hc with hc|hc
 ·rw[IN hc,IN (by unfold QQ;rw[hc];rfl)]
 ·rw[IT (by simp[hc])];have hl:QQ N x=((x.cr&& !exB N x)||(!x.cr&&(x.run !=0||x.ca !=0||x.bC !=0||x.stay))):=by grind [QQ]
  rw[←hl];cases hlb:QQ N x with
  |true=>rfl
  |false=>
   obtain⟨⟨s,hs,Jx,_⟩,_,hx,uJ⟩:=lh hlb;simp only[cQ,IS];unfold Nr;cases(!FV x.dep 0 3155932800|| !FV x.arr 0 3155932800)with
   |true=>rfl
   |false=>
    simp only[cQ,IS];cases hr:x.cr with
    |true=>
     obtain⟨r,t,a,b,kO⟩:=wG h (hx hr);have hxf:PV.agg [.bool true,.int .i64 x.run,.int .i64 x.ca,.int .i64 x.bC,.int .i64 x.src,.int .i64 x.dst,.int .i64 x.dep,.int .i64 x.arr,.bool x.stay]=x.pv:=by rw[←hr];rfl
     simp only[BY,hxf,adC h kO hs Jx,U,aI,R1 kO]
    |false=>
     have hxf:PV.agg [.bool false,.int .i64 x.run,.int .i64 x.ca,.int .i64 x.bC,.int .i64 x.src,.int .i64 x.dst,.int .i64 x.dep,.int .i64 x.arr,.bool x.stay]=x.pv:=by rw[←hr];rfl
     simp_all[cQ,IS,adx,U,aI]
end
def lkB(a b:bx)(stay:Bool)(k:bq):Bool:=(k.a==a.run)&&(k.ac==a.bC)&&(k.b==b.run)&&(k.bc==b.ca)&&(k.stay==stay)
def Fe(N:an)(a b:bx)(stay:Bool):Bool:=N.aH.any (lkB a b stay)
def Hb(N:an)(i:Int):Int:=match N.stops[i.toNat]? with|some s=>s.change|none=>0
def Bc(N:an)(q:iJ)(l:List bx)(x:bx):Int:=
 if(x.src !=q.src)=true then 24 else if x.stay=true then 19
 else if(!x.cr&&(match l[1]? with|some y=>y.cr&&y.dep !=x.arr|none=>false))=true then 10
 else if(!x.cr&&decide (l.length=1)&&(if q.back=true then x.arr !=q.time else x.dep !=q.time))=true then 10
 else if(!q.back&&decide (x.dep<q.time))=true then 10
 else if(!q.back&&q.HQ&&x.cr&&decide (x.dep<IntKind.i64.wrap (q.time+Hb N q.src)))=true then 28 else 0
def wF(N:an)(a b:bx):Int:=
 if(b.src !=a.dst)=true then 24 else if(!a.cr&& !b.cr)=true then 32 else if(b.stay&&(!a.cr|| !Fe N a b true))=true then 19
 else if(b.stay&&decide (b.dep<a.arr))=true then 10 else if(!b.cr&&b.dep !=a.arr)=true then 10 else 0
def vd(N:an)(a b:bx):Int:=
 if(!b.cr||b.stay)=true then 0 else if(!a.cr)=true then(if decide (b.dep<a.arr)=true then 28 else 0)
 else if(decide (b.dep≥IntKind.i64.wrap (a.arr+Hb N b.src))||(decide (b.dep≥a.arr)&&Fe N a b false))=true then 0 else 28
def alB(N:an)(x:bx):Bool:=match tW N x with
 |some r=>(match r.calls[x.bC.toNat]? with|some b=>b.bC|none=>false)
 |none=>false
def L5(N:an)(q:iJ)(l:List bx)(k:Nat)(x:bx):Int:=if(!x.cr||(match l[k+1]? with|some y=>y.stay|none=>false))=true then 0 else if(!alB N x)=true then 26 else if(!Oy N q x.dst)=true then 29 else 0
def eU(N:an)(q:iJ)(l:List bx)(k:Nat):Int:=match l[k]? with
 |none=>0
 |some x=>if oM N q x=0 then
   (let e:=if k=0 then Bc N q l x else match l[k-1]? with
    |some a=>if wF N a x=0 then vd N a x else wF N a x
    |none=>0
   if e=0 then L5 N q l k x else e)
  else oM N q x
section
variable {N:an} {q:iJ} {l:List bx} {k:Nat}
theorem OA(h:vN N)(hk:k+1<l.length)(hl:l.length≤maxLen)(st:Bool):dw [iL N q l ((k+1:Nat):Int),.bool st]=some (.bool (Fe N l[k] l[k+1] st)):=by
 have hm:=ai;have hr:=aw;have TC:=h.ok.aH.1;simp only[dw,jQ,QF,QG,QH,QI,QJ,QK,QL,QM,QN,QO,QP,Cd,Ce,Cf,Cg,Ch,Ci,Cj,Ck,Cl,Cm,Cn,U,U4,aB,P2 hk hl,uc hk,mq,AI];refine wL (fun j(_:Unit)=>(st,N.aH.map bq.pv,(N.aH.length:Int),(j:Int),cell l[k].pv 0,cell l[k].pv 1,cell l[k].pv 2,cell l[k].pv 3,cell l[k].pv 4,cell l[k].pv 5,cell l[k].pv 6,cell l[k].pv 7,cell l[k].pv 8,cell l[k+1].pv 0,cell l[k+1].pv 1,cell l[k+1].pv 2,cell l[k+1].pv 3,cell l[k+1].pv 4,cell l[k+1].pv 5,cell l[k+1].pv 6,cell l[k+1].pv 7,cell l[k+1].pv 8,())) (fun j _=>some (PV.bool ((N.aH.drop j).any (lkB l[k] l[k+1] st)))) N.aH.length (fun j hj e rec iV=>?_) (fun e rec=>?_) (by omega) () rfl
 ·unfold gE;dsimp only;rw[IN (by simp;omega),bp bq.pv N.aH j hj];simp only[U,L6,R4,link2,R5,OB,aI,aB,mq,jK,kS,kR,mj,kQ,mi,kj,kn,iW,aJ,ab (show j<9223372036854775807 by omega),iV ()];rw[mW hj,at5];have hc:(N.aH[j].stay==st&&N.aH[j].a==l[k].run&&N.aH[j].ac==l[k].bC&&N.aH[j].b==l[k+1].run&&N.aH[j].bc==l[k+1].ca)=lkB l[k] l[k+1] st N.aH[j]:=by unfold lkB;grind
  grind
 ·unfold gE;simp
theorem U5(h:vN N)(a b:bx)(st:Bool):mz [N.pv,a.pv,b.pv,.bool st]=some (.bool (Fe N a b st)):=by
 have hm:=ai;have hr:=aw;have TC:=h.ok.aH.1;simp only[mz,Br,lj,ll,lq,lr,lu,lv,lx,ly,lz,lA,mq,jK,kS,kR,mj,kQ,mi,kj,kn,iW,U,aB];refine wL (fun j(_:Unit)=>(st,(j:Int),N.stops.map Stop.pv,N.aj.map ax.pv,N.runs.map cy.pv,N.aH.map bq.pv,N.paths.map Path.pv,N.aK.map aM.pv,N.bn,N.within,N.cap,a.cr,a.run,a.ca,a.bC,a.src,a.dst,a.dep,a.arr,a.stay,b.cr,b.run,b.ca,b.bC,b.src,b.dst,b.dep,b.arr,b.stay,())) (fun j _=>some (PV.bool ((N.aH.drop j).any (lkB a b st)))) N.aH.length (fun j hj e rec iV=>?_) (fun e rec=>?_) (by omega) () rfl
 ·unfold ud;dsimp only;rw[IN (by simp;omega),bp bq.pv N.aH j hj];simp only[U,L6,R4,link2,R5,OB,aI,aB,aJ,ab (show j<9223372036854775807 by omega),iV ()];grind [mW,lkB]
 ·unfold ud;simp
end
theorem Ir(x:Stop):Ab.asInt .i64 (cell x.pv 3)=some x.change:=rfl
theorem Hl{A:Type}(f:A→PV)(l:List A)(k:Nat):dA (l.map f) (k:Int)=(l[k]?).map f:=by rw[ag,AT]
section
variable {N:an} {q:iJ} {l:List bx} {k:Nat}
theorem FW{i:Int}{s:Stop}(hs:N.stops[i.toNat]?=some s):Hb N i=s.change:=by unfold Hb;rw[hs]
theorem R6(l:List bx):dA (l.map bx.pv) 1=(l[1]?).map bx.pv:=Hl bx.pv l 1
theorem aaH(hk:0<k):cM [iL N q l k]=some (.int .i64 0):=by simp only[cM,gf,QF,QG,QH,QI,QJ,QK,QL,QM,QN,QO,QP,Cd,Ce,Cf,Cg,Ch,Ci,Cj,Ck,Cl,Cm,Cn,U];simp_all
theorem adD(hk:0<l.length)(hl:QQ N l[0]=false):cM [iL N q l ((0:Nat):Int)]=some (.int .i64 (Bc N q l l[0])):=by
 obtain⟨⟨s,hs,Jx,_⟩,_⟩:=lh hl;simp only[cM,gf,QF,QG,QH,QI,QJ,QK,QL,QM,QN,QO,QP,Cd,Ce,Cf,Cg,Ch,Ci,Cj,Ck,Cl,Cm,Cn,U,U4,uc hk,mq,jK,kS,kR,mj,kQ,mi,kj,kn,iW,AI,R6,aJ,ay,bX];rw[IT (by simp)];unfold Bc;simp only[ifI];by_cases hc:l[0].src=q.src
 ·rw[←hc,aV Stop.pv Jx hs,FW hs];simp only[U,Ir,aub,cQ,IS];have h1:(decide ((l.length:Int)=1))=decide (l.length=1):=by grind
  rw[h1];cases uJ:l[0].stay with
  |true=>rfl
  |false=>
   simp only[cQ,IS];cases h2:l[1]? with
   |none=>
    have hlen:l.length=1:=by grind
    simp only[hlen,asq,aiI,aJ,U,auc,cond_false,Option.map_none,as7];grind
   |some y=>
    have hlen:¬l.length=1:=by grind
    simp only[hlen,ass,asr,aJ,U,as7,auc,No,mq,jK,kS,kR,mj,kQ,mi,kj,kn,iW,cond_false];grind
 simp_all
theorem adE:dZ [iL N q l ((0:Nat):Int)]=some (.int .i64 0):=by rfl
theorem ahe(h:vN N)(hk:k+1<l.length)(hl:l.length≤maxLen):dZ [iL N q l ((k+1:Nat):Int)]=some (.int .i64 (wF N l[k] l[k+1])):=by simp only[dZ,lD,QF,QG,QH,QI,QJ,QK,QL,QM,QN,QO,QP,Cd,Ce,Cf,Cg,Ch,Ci,Cj,Ck,Cl,Cm,Cn,U,U4,P2 hk hl,uc hk,mq,jK,kS,kR,mj,kQ,mi,kj,kn,iW,OA h hk hl,aB,aJ,ay];rw[IT (by simp;omega)];unfold wF;simp only[ifI]
theorem U6:dx [iL N q l ((0:Nat):Int)]=some (.int .i64 0):=by rfl
theorem aaI(h:vN N)(hk:k+1<l.length)(hl:l.length≤maxLen)(hs:QQ N l[k+1]=false):dx [iL N q l ((k+1:Nat):Int)]=some (.int .i64 (vd N l[k] l[k+1])):=by
 obtain⟨⟨s,hs,Jx,_⟩,_⟩:=lh hs;simp only[dx,jR,QF,QG,QH,QI,QJ,QK,QL,QM,QN,QO,QP,Cd,Ce,Cf,Cg,Ch,Ci,Cj,Ck,Cl,Cm,Cn,U,U4,P2 hk hl,uc hk,mq,jK,kS,kR,mj,kQ,mi,kj,kn,iW,OA h hk hl,aB,aJ,ay,aV Stop.pv Jx hs,Ir];have h0:(((k+1:Nat):Int)==0)=false:=by rfl
 rw[h0];unfold vd;simp only[ifI,FW hs,NK,asr,cond_true];grind
theorem R7(h:vN N)(hk:k<l.length)(hl:l.length≤maxLen)(hs:QQ N l[k]=false):fe [iL N q l k]=some (.int .i64 (L5 N q l k l[k])):=by
 have hm:=ai;obtain⟨_,⟨s,hs,Jx,_⟩,hx,_⟩:=lh hs;simp only[fe,ky,QF,QG,QH,QI,QJ,QK,QL,QM,QN,QO,QP,Cd,Ce,Cf,Cg,Ch,Ci,Cj,Ck,Cl,Cm,Cn,U,U4,uc hk,mq,jK,kS,kR,mj,kQ,mi,kj,kn,iW,AI,ab (show k<9223372036854775807 by omega),Hl];unfold L5;cases hr:l[k].cr with
 |false=>rfl
 |true=>
  obtain⟨r,t,a,b,kO⟩:=wG h (hx hr);have N6:alB N l[k]=b.bC:=by unfold alB tW;rw[IN kO.pB,kO.run];simp only[kO.bC]
  have uJ:(bif decide (((k+1:Nat):Int)<(l.length:Int))then(Option.map bx.pv l[k+1]?).bind fun p=>(Ab.asBool (cell p 8)).bind fun b=>some b else some false)=some (match l[k+1]? with|some y=>y.stay|none=>false):=by
   by_cases cd:k+1<l.length
   ·rw[cN cd];simp only[No,U,iW];grind
   grind
  simp only[aiI,as5,cond_false,uJ,U,Ox hk kO,ais,adA,aI,WZ _ s Jx hs,aB,N6,ifI]<;>rfl
theorem adF(h:vN N)(hk:k<l.length)(hl:l.length≤maxLen):ff [iL N q l k]=some (.int .i64 (eU N q l k)):=by
 simp only[ff,kz,QF,QG,QH,QI,QJ,QK,QL,QM,QN,QO,QP,Cd,Ce,Cf,Cg,Ch,Ci,Cj,Ck,Cl,Cm,Cn,U,U4,ajB h hk,aI];unfold eU;rw[cN hk];simp only;by_cases h0:oM N q l[k]=0
 ·have TG:QQ N l[k]=false:=by unfold oM at h0;grind
  rw[IT (by simp[h0]),IN h0];cases k with
  |zero=>simp only[adD hk TG,U,aI,adE,U6,R7 h hk hl TG,BY];grind
  |succ k=>
   have B1:l[k+1-1]?=some l[k]:=by simp
   simp only[aaH (N:=N) (q:=q) (l:=l) (Nat.succ_pos k),U,aI,ahe h hk hl,aaI h hk hl TG,R7 h hk hl TG,B1];grind
 simp_all
end
section
variable {N:an} {q:iJ} {l:List bx} {k:Nat}
theorem aaJ(l:List bx):dA (l.map bx.pv) 0=(l[0]?).map bx.pv:=Hl bx.pv l 0
theorem aaK(hk:0<l.length)(hl:QQ N l[0]=false)(hq:(q.HQ&&q.back)=false):sN [N.pv,q.pv,Kh l]=some (.int .i64 (Bc N q l l[0])):=by
 obtain⟨⟨s,hs,Jx,_⟩,_⟩:=lh hl;simp only[sN,Db,lj,ll,lq,lr,lu,lv,lx,ly,lz,lA,Bd,Be,Bf,Bg,Bh,Bi,Bj,Bk,Bl,Bm,Bn,jA,j0,U,aaJ,cN hk,No,mq,jK,kS,kR,mj,kQ,mi,kj,kn,iW,AI,R6,aJ,ay,bX];unfold Bc;simp only[ifI];by_cases hc:l[0].src=q.src
 ·rw[←hc,aV Stop.pv Jx hs,FW hs];simp only[U,Ir,aub,cQ,IS];have h1:(decide ((l.length:Int)=1))=decide (l.length=1):=by grind
  have h3:(decide ((l.length:Int)>1))= !decide (l.length=1):=by grind
  rw[h1,h3];cases uJ:l[0].stay with
  |true=>rfl
  |false=>
   simp only[cQ,IS];cases h2:l[1]? with
   |none=>
    have hlen:l.length=1:=by grind
    simp only[hlen,asq,aiI,aJ,U,auc,cond_false,Option.map_none,as7];grind
   |some y=>
    have hlen:¬l.length=1:=by grind
    simp only[hlen,ass,asr,aJ,U,as7,auc,No,mq,jK,kS,kR,mj,kQ,mi,kj,kn,iW,cond_false];grind
 simp_all
theorem U7(h:vN N){a b:bx}(hb:QQ N b=false):qp [N.pv,a.pv,b.pv]=some (.int .i64 (if wF N a b=0 then vd N a b else wF N a b)):=by
 obtain⟨⟨s,hs,Jx,_⟩,_,_,uJ⟩:=lh hb;simp only[qp,Bs,lj,ll,lq,lr,lu,lv,lx,ly,lz,lA,mq,jK,kS,kR,mj,kQ,mi,kj,kn,iW,U,pU,ana,U5 h,aB,aJ,ay];unfold wF vd;by_cases hc:b.src=a.dst
 ·rw[IT (by simp[hc]),←hc,aV Stop.pv Jx hs,FW hs];simp only[U,Ir,aub,cQ,IS,ay];grind
 grind
theorem ajC(h:vN N)(hk:k<l.length)(hl:l.length≤maxLen)(hq:(q.HQ&&q.back)=false):Bt [N.pv,q.pv,Kh l,.int .i64 k]=some (.int .i64 (eU N q l k)):=by
 have hm:=ai;simp only[Bt,L7,lj,ll,lq,lr,lu,lv,lx,ly,lz,lA,Bd,Be,Bf,Bg,Bh,Bi,Bj,Bk,Bl,Bm,Bn,jA,j0,U,aI,bp bx.pv l k hk,aaF,pU,He,ahd h,AI,ab (show k<9223372036854775807 by omega),Hl];unfold eU;rw[cN hk];simp only;by_cases h0:oM N q l[k]=0
 ·have TG:QQ N l[k]=false:=by unfold oM at h0;grind
  obtain⟨_,⟨s,hs,Jx,_⟩,hx,_⟩:=lh TG;have JB:(bif (((k+1:Nat):Int)==(l.length:Int))then some true else(Option.map bx.pv l[k+1]?).bind fun p=>(Ab.asBool (cell p 8)).bind fun b=>some !b)=some !(match l[k+1]? with|some y=>y.stay|none=>false):=by
   by_cases cd:k+1<l.length
   ·rw[cN cd];simp only[No,U,iW];grind
   grind
  have adG:((bif l[k].cr then(bif (((k+1:Nat):Int)==(l.length:Int))then some true else(Option.map bx.pv l[k+1]?).bind fun p=>(Ab.asBool (cell p 8)).bind fun b=>some !b).bind fun r=>some r else some false).bind fun r33=>if r33=true then(Ab.asInt .i64 (cell l[k].pv 1)).bind fun n34=>(dA (N.runs.map cy.pv) n34).bind fun p35=>(ao 5 (cell p35 7)).bind fun aqs=>(Ab.asInt .i64 (cell l[k].pv 3)).bind fun n37=>(dA aqs n37).bind fun p38=>(Ab.asBool (cell p38 4)).bind fun b39=>if(!b39)=true then some (PV.int .i64 26)else(Ab.asInt .i64 (cell l[k].pv 5)).bind fun n40=>(kx [N.pv,q.pv,PV.int .i64 n40]).bind fun r41=>(Ab.asBool r41).bind fun b42=>if(!b42)=true then some (PV.int .i64 29)else some (PV.int .i64 0)else some (PV.int .i64 0))=some (PV.int .i64 (L5 N q l k l[k])):=by
   unfold L5;rw[JB];cases hr:l[k].cr with
   |false=>rfl
   |true=>
    obtain⟨r,t,a,b,kO⟩:=wG h (hx hr);have N6:alB N l[k]=b.bC:=by unfold alB tW;rw[IN kO.pB,kO.run];simp only[kO.bC]
    simp only[cond_true,U,mq,jK,kS,kR,mj,kQ,mi,kj,kn,iW,aV cy.pv kO.pB kO.run,CZ,aS,aV aY.pv kO.Hh kO.bC,adA,R3 _ s Jx hs,aB,N6,ifI,aiI,as5];grind
  rw[IT (by simp[h0]),IN h0];cases k with
  |zero=>
   rw[IN (by simp),IN rfl];simp only[jF,aaK hk TG hq,U,aI];by_cases h1:Bc N q l l[0]=0
   ·rw[IT (by simp[h1]),IN h1,←adG];rfl
   simp_all
  |succ k=>
   have B1:l[k+1-1]?=some l[k]:=by simp
   rw[IT (by simp;omega),IT (show¬k+1=0 by omega),hZ k (by omega),B1];simp only[bp bx.pv l k (by omega),U,aaF,U7 h TG,aI];by_cases h1:(if wF N l[k] l[k+1]=0 then vd N l[k] l[k+1]else wF N l[k] l[k+1])=0
   ·rw[IT (by simp[h1]),IN h1,←adG];rfl
   simp_all
 simp_all
end
theorem nT{S R X:Type}{body:S→(S→Option R)→Option R}(st:Nat→X→S)(G:Nat→X→Option R)(I:Nat→X→Prop)(n:Nat)(h:∀k,k<n→∀e rec,I k e→(∀e',I (k+1) e'→rec (st (k+1) e')=G (k+1) e')→body (st k e) rec=G k e)(tQ:∀e rec,I n e→body (st n e) rec=G n e)(hn:n<rounds)(e:X)(he:I 0 e){s0:S}(h0:st 0 e=s0):ba.run body s0=G 0 e:=by
 have key:∀(m j N:Nat)(e:X),j+m=n→m<N→I j e→cE body N (st j e)=G j e:=by
  intro m;induction m with
  |zero=>
   intro j N e hj hN hi;cases N with
   |zero=>omega
   |succ N=>simp_all[cE]
  |succ m ih=>
   intro j N e hj hN hi;cases N with
   |zero=>omega
   |succ N=>grind [cE]
 grind [pL,rounds]
def OC(f:Nat→Int):Nat→Nat→Nat
 |0,k=>k
 |m+1,k=>if f k=0 then OC f m (k+1)else k
theorem R8(f:Nat→Int){n j:Nat}(h:j<n):OC f (n-j) j=if f j=0 then OC f (n-(j+1)) (j+1)else j:=by
 have:n-j=(n-(j+1))+1:=by omega
 rw[this];rfl
theorem R9(f:Nat→Int):∀m k,k≤OC f m k∧OC f m k≤k+m∧(OC f m k<k+m→f (OC f m k)≠0)∧∀j,k≤j→j<OC f m k→f j=0
 |0,k=>⟨aso _,aso _,fun h=>absurd h (by simp[OC]),fun j h1 h2=>by simp[OC]at h2;omega⟩
 |m+1,k=>by
  unfold OC;split
  ·rename_i h0;obtain⟨a,b,c,d⟩:=R9 f m (k+1);refine⟨by omega,by omega,fun h=>c (by omega),fun j h1 h2=>?_⟩;by_cases e:j=k
   ·rw[e];exact h0
   ·exact d j (by omega) h2
  ·rename_i h0;exact⟨by omega,by omega,fun _=>h0,fun j h1 h2=>by omega⟩
def eAt(f:Nat→Int)(n k:Nat):Int:=if k<n then f k else 0
def Sa(N:an)(q:iJ)(l:List bx):Nat:=OC (eU N q l) l.length 0
def Fh(N:an)(q:iJ)(l:List bx):Int:=eAt (eU N q l) l.length (Sa N q l)
theorem FX{N:an}{q:iJ}{l:List bx}:Fh N q l=0↔∀k,k<l.length→eU N q l k=0:=by obtain⟨_,b,c,d⟩:=R9 (eU N q l) l.length 0;unfold Fh eAt Sa;grind
section
variable {N:an} {q:iJ} {l:List bx}
theorem ahf(h:vN N)(hl:l.length≤maxLen):og [N.pv,q.pv,Kh l]=some (.aG [.int .i64 (Sa N q l),.int .i64 (Fh N q l)]):=by
 have hm:=ai;have hr:=aw;simp only[og,zr,lj,ll,lq,lr,lu,lv,lx,ly,lz,lA,Bd,Be,Bf,Bg,Bh,Bi,Bj,Bk,Bl,Bm,Bn,jA,j0,U];refine(wL (fun j(_:Unit)=>(l.map bx.pv,N.stops.map Stop.pv,N.aj.map ax.pv,N.runs.map cy.pv,N.aH.map bq.pv,N.paths.map Path.pv,N.aK.map aM.pv,N.bn,N.within,N.cap,q.src,q.dst,q.time,q.back,q.b9,q.walk,q.free,q.rG,q.bP,q.HQ,l.map bx.pv,(j:Int),())) (fun j _=>some (PV.aG [.int .i64 ((OC (eU N q l) (l.length-j) j:Nat):Int),.int .i64 (eAt (eU N q l) l.length (OC (eU N q l) (l.length-j) j))])) l.length (fun j hj e rec iV=>?_) (fun e rec=>?_) (by omega) () rfl).trans (by rfl)
 ·unfold sc;dsimp only;rw[IN (by simp;omega)];simp only[U4,adF h hj hl,U,aI,ab (show j<9223372036854775807 by omega),iV (),R8 _ hj];by_cases h0:eU N q l j=0
  ·simp_all
  simp_all[IN,IT,eAt]
 ·unfold sc;dsimp only;rw[IT (by simp),aui];simp[OC,eAt,AI,Nat.lt_irrefl,IS]
end
def gV(x:bx):Bool:=x.cr&& !x.stay
def wlB(x:bx):Bool:= !x.cr&&decide (x.dep≥0)&&decide (x.dep≤x.arr)&&decide (x.arr-x.dep≤14400)
def M7:List bx→Int→Int
 |[],s=>s
 |x::r,s=>if wlB x=true then M7 r (s+(x.arr-x.dep))else M7 r s
theorem Sb(x:bx)(r:List bx)(s:Int):M7 (x::r) s=if wlB x=true then M7 r (s+(x.arr-x.dep))else M7 r s:=rfl
theorem Ki{n:Int}(h:jM n): -9223372036854775808≤n∧n≤9223372036854775807:=by simp_all[sy,IntKind.min,IntKind.max,IntKind.signed,IntKind.bits]
theorem W2(x:Int):IntKind.i64.wrap x=(x+9223372036854775808)%18446744073709551616-9223372036854775808:=by simp only[IntKind.wrap,IntKind.signed,IntKind.bits];simp;omega
theorem Sc(l:List bx)(hl:l.length≤1000000)(ho:∀x∈l,x.Ok):jO [Kh l]=some (.int .i64 (M7 l 0)):=by
 simp only[jO,Bu,jA,j0,U,AI];refine nT (fun j s=>(s,l.map bx.pv,(l.length:Int),(j:Int),())) (fun j s=>some (PV.int .i64 (M7 (l.drop j) s))) (fun j s=>0≤s∧s≤14400*(j:Int)) l.length (fun j hj s rec hi iV=>?_) (fun s rec hi=>?_) (by unfold rounds;omega) 0 (by simp) rfl
 ·have hx:=ho _ (ar9 hj);have hd:=Ki hx.dep;have ha:=Ki hx.arr;unfold ue;dsimp only;rw[IN (by simp;omega),bp bx.pv l j hj,mW hj,Sb];simp only[U,mq,jK,kS,kR,mj,kQ,mi,kj,kn,iW,ay,ab (show j<9223372036854775807 by omega)];by_cases c:wlB l[j]=true
  ·have c':=c;unfold wlB at c';simp only[ao9,asI,cT]at c';have hw:IntKind.i64.wrap (l[j].arr-l[j].dep)=l[j].arr-l[j].dep:=aZ (by omega) (by omega);rw[hw,IT (by simp[c'.1.1.1];omega),IN c,aZ (by omega) (by omega)];exact iV _ (by omega)
  ·rw[IT c];have c':(l[j].cr||decide (l[j].dep<0)||decide (l[j].arr<l[j].dep)||decide (IntKind.i64.wrap (l[j].arr-l[j].dep)>14400))=true:=by
    unfold wlB at c;cases hr:l[j].cr with
    |true=>rfl
    |false=>rw[hr]at c;simp only[asr,asX,ao9,cT,not_and]at c;simp only[as5,asu,cT];grind [aZ]
   grind
 ·unfold ue;dsimp only;rw[IT (by simp),as3];rfl
theorem OD(l:List bx)(hl:l.length≤1000000)(ho:∀x∈l,x.Ok):qq [Kh l]=some (.int .i64 (M7 l 0)):=by
 simp only[qq,F6,jA,j0,U];refine nT (fun j s=>(s,(j:Int),l.map bx.pv,())) (fun j s=>some (PV.int .i64 (M7 (l.drop j) s))) (fun j s=>0≤s∧s≤14400*(j:Int)) l.length (fun j hj s rec hi iV=>?_) (fun s rec hi=>?_) (by unfold rounds;omega) 0 (by simp) rfl
 ·have hx:=ho _ (ar9 hj);have hd:=Ki hx.dep;have ha:=Ki hx.arr;unfold zs;dsimp only;rw[IN (by simp;omega),bp bx.pv l j hj,mW hj,Sb];simp only[U,mq,jK,kS,kR,mj,kQ,mi,kj,kn,iW,aJ,ab (show j<9223372036854775807 by omega)];have hc:(!l[j].cr&&decide (l[j].dep≥0)&&decide (l[j].dep≤l[j].arr)&&decide (IntKind.i64.wrap (l[j].arr-l[j].dep)≤14400))=wlB l[j]:=by grind [wlB,aZ]
  rw[hc];by_cases c:wlB l[j]=true
  ·have c':=c;unfold wlB at c';simp only[ao9,asI,cT]at c';have hw:IntKind.i64.wrap (IntKind.i64.wrap (s+l[j].arr)-l[j].dep)=s+(l[j].arr-l[j].dep):=by rw[W2,W2];omega
   grind
  grind
 ·unfold zs;dsimp only;rw[IT (by simp),as3];rfl
end Go.Ab.Tt
