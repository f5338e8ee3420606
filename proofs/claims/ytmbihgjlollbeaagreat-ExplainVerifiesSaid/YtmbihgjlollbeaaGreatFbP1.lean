import Derived.Test.YtmbihgjlollbeaaGreatNkP2
namespace Go.Ab.Tt
set_option maxRecDepth 100000
set_option linter.all false
structure bx where
 cu:Bool
 run:Int
 ca:Int
 bC:Int
 src:Int
 dst:Int
 dep:Int
 arr:Int
 stay:Bool
 deriving DecidableEq
def bx.pv(x:bx):PV:=.agg [.bool x.cu,.int .i64 x.run,.int .i64 x.ca,.int .i64 x.bC,.int .i64 x.src,.int .i64 x.dst,.int .i64 x.dep,.int .i64 x.arr,.bool x.stay]
structure bx.fB(M:Nat)(x:bx):Prop where
 run:jN x.run
 ca:jN x.ca
 bC:jN x.bC
 src:jN x.src
 dst:jN x.dst
 dep:jN x.dep
 arr:jN x.arr
abbrev bx.Ok(x:bx):Prop:=x.fB maxLen
theorem mw(x:bx):asAgg 9 x.pv=some ():=rfl
theorem aaM(x:bx):PV.agg [cell x.pv 0,cell x.pv 1,cell x.pv 2,cell x.pv 3,cell x.pv 4,cell x.pv 5,cell x.pv 6,cell x.pv 7,cell x.pv 8]=x.pv:=rfl
theorem ank(x:bx):PV.agg [.bool x.cu,.int .i64 x.run,.int .i64 x.ca,.int .i64 x.bC,.int .i64 x.src,.int .i64 x.dst,.int .i64 x.dep,.int .i64 x.arr,.bool x.stay]=x.pv:=rfl
theorem jL(x:bx):Ab.asBool (cell x.pv 0)=some x.cu:=rfl
theorem lj(x:bx):Ab.asInt .i64 (cell x.pv 1)=some x.run:=rfl
theorem lh(x:bx):Ab.asInt .i64 (cell x.pv 2)=some x.ca:=rfl
theorem ml(x:bx):Ab.asInt .i64 (cell x.pv 3)=some x.bC:=rfl
theorem lf(x:bx):Ab.asInt .i64 (cell x.pv 4)=some x.src:=rfl
theorem mj(x:bx):Ab.asInt .i64 (cell x.pv 5)=some x.dst:=rfl
theorem ko(x:bx):Ab.asInt .i64 (cell x.pv 6)=some x.dep:=rfl
theorem kq(x:bx):Ab.asInt .i64 (cell x.pv 7)=some x.arr:=rfl
theorem iX(x:bx):Ab.asBool (cell x.pv 8)=some x.stay:=rfl
structure iI where
 src:Int
 dst:Int
 time:Int
 back:Bool
 b8:Int
 walk:Int
 free:Bool
 rI:Bool
 bQ:Int
 HU:Bool
 deriving DecidableEq
def iI.pv(x:iI):PV:=.agg [.int .i64 x.src,.int .i64 x.dst,.int .i64 x.time,.bool x.back,.int .i64 x.b8,.int .i64 x.walk,.bool x.free,.bool x.rI,.int .i64 x.bQ,.bool x.HU]
structure iI.fB(M:Nat)(x:iI):Prop where
 src:jN x.src
 dst:jN x.dst
 time:jN x.time
 b8:jN x.b8
 walk:jN x.walk
 bQ:jN x.bQ
abbrev iI.Ok(x:iI):Prop:=x.fB maxLen
theorem zs(x:iI):asAgg 10 x.pv=some ():=rfl
theorem EX(x:iI):PV.agg [.int .i64 x.src,.int .i64 x.dst,.int .i64 x.time,.bool x.back,.int .i64 x.b8,.int .i64 x.walk,.bool x.free,.bool x.rI,.int .i64 x.bQ,.bool x.HU]=x.pv:=rfl
theorem zt(x:iI):Ab.asInt .i64 (cell x.pv 0)=some x.src:=rfl
theorem zu(x:iI):Ab.asInt .i64 (cell x.pv 1)=some x.dst:=rfl
theorem zw(x:iI):Ab.asInt .i64 (cell x.pv 2)=some x.time:=rfl
theorem zx(x:iI):Ab.asBool (cell x.pv 3)=some x.back:=rfl
theorem zy(x:iI):Ab.asInt .i64 (cell x.pv 4)=some x.b8:=rfl
theorem zz(x:iI):Ab.asInt .i64 (cell x.pv 5)=some x.walk:=rfl
theorem zA(x:iI):Ab.asBool (cell x.pv 6)=some x.free:=rfl
theorem zB(x:iI):Ab.asBool (cell x.pv 7)=some x.rI:=rfl
theorem zC(x:iI):Ab.asInt .i64 (cell x.pv 8)=some x.bQ:=rfl
theorem zD(x:iI):Ab.asBool (cell x.pv 9)=some x.HU:=rfl
def Kr(l:List bx):PV:=.agg [.rs 9 (l.map bx.pv)]
theorem jA(l:List bx):asAgg 1 (Kr l)=some ():=rfl
theorem j0(l:List bx):ao 9 (cell (Kr l) 0)=some (l.map bx.pv):=rfl
theorem jF(l:List bx):PV.agg [.rs 9 (l.map bx.pv)]=Kr l:=rfl
structure iY where
 prod:Int
 fst:Int
 lst:Int
 jM:Int
 deriving DecidableEq
def iY.pv(x:iY):PV:=.agg [.int .i64 x.prod,.int .i64 x.fst,.int .i64 x.lst,.int .i64 x.jM]
def iN(N:an)(q:iI)(l:List bx)(i:Int):PV:=.agg [.rs 4 (N.stops.map Stop.pv),.rs 3 (N.aj.map ax.pv),.rs 8 (N.runs.map cy.pv),.rs 5 (N.aH.map bq.pv),.rs 4 (N.paths.map Path.pv),.rs 6 (N.aK.map aM.pv),.int .i64 N.bp,.int .i64 N.within,.int .i64 N.cap,.int .i64 q.src,.int .i64 q.dst,.int .i64 q.time,.bool q.back,.int .i64 q.b8,.int .i64 q.walk,.bool q.free,.bool q.rI,.int .i64 q.bQ,.bool q.HU,.rs 9 (l.map bx.pv),.int .i64 i]
section
variable (N:an) (q:iI) (l:List bx) (i:Int)
theorem QL:asAgg 21 (iN N q l i)=some ():=rfl
theorem Vc:PV.agg [.rs 4 (N.stops.map Stop.pv),.rs 3 (N.aj.map ax.pv),.rs 8 (N.runs.map cy.pv),.rs 5 (N.aH.map bq.pv),.rs 4 (N.paths.map Path.pv),.rs 6 (N.aK.map aM.pv),.int .i64 N.bp,.int .i64 N.within,.int .i64 N.cap,.int .i64 q.src,.int .i64 q.dst,.int .i64 q.time,.bool q.back,.int .i64 q.b8,.int .i64 q.walk,.bool q.free,.bool q.rI,.int .i64 q.bQ,.bool q.HU,.rs 9 (l.map bx.pv),.int .i64 i]=iN N q l i:=rfl
theorem QM:ao 4 (cell (iN N q l i) 0)=some (N.stops.map Stop.pv):=rfl
theorem QN:ao 3 (cell (iN N q l i) 1)=some (N.aj.map ax.pv):=rfl
theorem QO:ao 8 (cell (iN N q l i) 2)=some (N.runs.map cy.pv):=rfl
theorem QP:ao 5 (cell (iN N q l i) 3)=some (N.aH.map bq.pv):=rfl
theorem QQ:ao 4 (cell (iN N q l i) 4)=some (N.paths.map Path.pv):=rfl
theorem QR:ao 6 (cell (iN N q l i) 5)=some (N.aK.map aM.pv):=rfl
theorem QS:Ab.asInt .i64 (cell (iN N q l i) 6)=some N.bp:=rfl
theorem QT:Ab.asInt .i64 (cell (iN N q l i) 7)=some N.within:=rfl
theorem QU:Ab.asInt .i64 (cell (iN N q l i) 8)=some N.cap:=rfl
theorem QV:Ab.asInt .i64 (cell (iN N q l i) 9)=some q.src:=rfl
theorem Ch:Ab.asInt .i64 (cell (iN N q l i) 10)=some q.dst:=rfl
theorem Ci:Ab.asInt .i64 (cell (iN N q l i) 11)=some q.time:=rfl
theorem Cj:Ab.asBool (cell (iN N q l i) 12)=some q.back:=rfl
theorem Ck:Ab.asInt .i64 (cell (iN N q l i) 13)=some q.b8:=rfl
theorem Cl:Ab.asInt .i64 (cell (iN N q l i) 14)=some q.walk:=rfl
theorem Cm:Ab.asBool (cell (iN N q l i) 15)=some q.free:=rfl
theorem Cn:Ab.asBool (cell (iN N q l i) 16)=some q.rI:=rfl
theorem Co:Ab.asInt .i64 (cell (iN N q l i) 17)=some q.bQ:=rfl
theorem Cp:Ab.asBool (cell (iN N q l i) 18)=some q.HU:=rfl
theorem Cq:ao 9 (cell (iN N q l i) 19)=some (l.map bx.pv):=rfl
theorem Cr:Ab.asInt .i64 (cell (iN N q l i) 20)=some i:=rfl
end
theorem aI(n:Int):Ab.asInt .i64 (.int .i64 n)=some n:=rfl
theorem aB(b:Bool):Ab.asBool (.bool b)=some b:=rfl
theorem aS(n:Nat)(l:List PV):Ab.ao n (.rs n l)=some l:=by simp[ao]
theorem adH{A:Type}(f:A→PV)(l:List A)(i:Int):dB (l.map f) i=(if 0≤i then l[i.toNat]? else none).map f:=by unfold dB;grind
theorem bn{A:Type}(f:A→PV)(l:List A)(k:Nat)(hk:k<l.length):dB (l.map f) (k:Int)=some (f l[k]):=by rw[ag,AT,cN hk];rfl
theorem Db{n:Nat}(h:n≤9223372036854775807):IntKind.i64.wrap ((n:Int)-1)=(n:Int)-1:=aZ (by omega) (by omega)
def F0(n a b:Int):Bool:=decide (n≥a)&&decide (n≤b)
theorem F7(n a b:Int):bI [.int .i64 n,.int .i64 a,.int .i64 b]=some (.bool (F0 n a b)):=by simp[bI,uf,aI,U,aJ,F0]
theorem adI(n a b:Int):eV [.int .i64 n,.int .i64 a,.int .i64 b]=some (.bool (F0 n a b)):=by simp[eV,L6,aI,U,aJ,F0]
def qOk(n:Int)(q:iI):Bool:=F0 q.src 0 (n-1)&&F0 q.dst 0 (n-1)&&F0 q.time 0 3155932800&&F0 q.b8 0 8&&F0 q.walk 0 86400&&F0 q.bQ 0 255&& !(q.HU&&q.back)
def Fk(N:an)(q:iI):Int:=if(ue N).2.2=0 then(if qOk N.stops.length q=true then 0 else 22)else 21
theorem aho(N:an)(q:iI)(h:N.Ok)(hp:N.paths.length≤4096):dK [N.pv,q.pv]=some (.int .i64 (Fk N q)):=by have hm:=ai;have hs:=h.stops.1;simp only[dK,jd,ku,kv,kx,ky,kz,kA,kB,kC,kD,kE,zs,zt,zu,zw,zx,zy,zz,zA,zB,zC,zD,U,oN,F6 N h hp];simp only[iU,cn,amo,asi,BY,U,O6,T1,aI,AI,Db (asZ hs hm),F7,aB,aJ,az];unfold Fk qOk;grind
theorem anl(n:Nat)(hn:n≤9223372036854775807)(q:iI):kG [.int .i64 n,q.pv]=some (.bool (qOk n q)):=by simp only[kG,sc,zs,zt,zu,zw,zx,zy,zz,zA,zB,zC,zD,U,aI,Db hn,adI,aB,aJ,az];rfl
theorem R9(N:an)(h:N.Ok)(hp:N.paths.length≤4096):nS [N.pv]=some (.bool (decide ((ue N).2.2=0))):=by simp only[nS,Dc,ku,kv,kx,ky,kz,kA,kB,kC,kD,kE,U,oN,aaN N h hp];rfl
theorem ajH(N:an)(q:iI)(h:N.Ok)(hp:N.paths.length≤4096):kH [N.pv,q.pv]=some (.int .i64 (Fk N q)):=by have hm:=ai;have hs:=h.stops.1;simp only[kH,sd,ku,kv,kx,ky,kz,kA,kB,kC,kD,kE,zs,zt,zu,zw,zx,zy,zz,zA,zB,zC,zD,U,oN,EX,R9 N h hp,AI,anl _ (asZ hs hm),aB];unfold Fk;grind
structure vS(N:an):Prop where
 ok:N.Ok
 paths:N.paths.length≤4096
 res:(ue N).2.2=0
variable{N:an}
theorem vS.parts(h:vS N):(fH N.stops).2=0∧(eN N.aj).2=0∧(cJ N.aK N.bp N.within N.cap).2=0:=by have h:=h.res;unfold ue at h;grind
theorem vS.stop(h:vS N):∀s∈N.stops,0≤s.ug∧s.ug<16∧0≤s.change∧s.change≤3600:=by
 intro s hs;obtain⟨k,hk,rfl⟩:=ats hs;have h1:=h.parts.1;unfold fH at h1;split at h1
 ·omega
 ·have:=(se _ _).1 h1 k hk;unfold Hl at this;grind
theorem vS.dG(h:vS N):∀s∈N.aj,0≤s.mode∧s.mode<8:=by
 intro s hs;obtain⟨k,hk,rfl⟩:=ats hs;have h1:=h.parts.2.1;unfold eN at h1;split at h1
 ·omega
 ·have:=(se _ _).1 h1 k hk;unfold Dd at this;grind
theorem vS.run(h:vS N):∀r∈N.runs,∃t,N.aj[r.dG.toNat]?=some t∧0≤r.dG∧t∈N.aj:=by
 intro r hr;obtain⟨k,hk,rfl⟩:=ats hr;have:=L7 h.res k hk;unfold oQ at this;rw[cN hk]at this;simp only at this;split at this
 ·omega
 ·split at this
  ·omega
  ·split at this
   ·omega
   ·split at this
    ·omega
    simp_all
theorem vS.call(h:vS N):∀r∈N.runs,∀c∈r.calls,∃s,N.stops[c.stop.toNat]?=some s∧0≤c.stop∧s∈N.stops:=by
 intro r hr c hc;obtain⟨k,hk,rfl⟩:=ats hc;have:=Sa (De h.res r hr) k hk;unfold vp at this;rw[cN hk]at this;simp only at this;unfold JH at this;split at this
 ·omega
 simp_all
theorem aV{A:Type}(f:A→PV){l:List A}{i:Int}{a:A}(h0:0≤i)(h:l[i.toNat]?=some a):dB (l.map f) i=some (f a):=by rw[adH,IN h0,h];rfl
def ub(N:an)(x:bx):Option cy:=if 0≤x.run then N.runs[x.run.toNat]? else none
def exB(N:an)(x:bx):Bool:=match ub N x with
 |some r=>decide (x.ca≥0)&&decide (x.ca<x.bC)&&decide (x.bC<(r.calls.length:Int))
 |none=>false
structure uh(N:an)(x:bx)(r:cy)(t:ax)(a b:aY):Prop where
 run:N.runs[x.run.toNat]?=some r
 pC:0≤x.run
 dG:N.aj[r.dG.toNat]?=some t
 IC:0≤r.dG
 ca:r.calls[x.ca.toNat]?=some a
 Iz:0≤x.ca
 bC:r.calls[x.bC.toNat]?=some b
 Hm:0≤x.bC
 lt:x.ca<x.bC
 mem:r∈N.runs
 tm:t∈N.aj
theorem wM(h:vS N){x:bx}(hx:exB N x=true):∃r t a b,uh N x r t a b:=by
 unfold exB at hx;cases hr:ub N x with
 |none=>rw[hr]at hx;cases hx
 |some r=>
  rw[hr]at hx;simp only[amm,cT]at hx;unfold ub at hr;split at hr
  ·rename_i h0;have hm:=aqY hr;obtain⟨t,t1,t2,t3⟩:=h.run r hm;have ha:x.ca.toNat<r.calls.length:=by omega
   have hb:x.bC.toNat<r.calls.length:=by omega
   exact⟨r,t,_,_,⟨hr,h0,t1,t2,cN ha,by omega,cN hb,by omega,by omega,hm,t3⟩⟩
  ·cases hr
theorem L8(N:an)(x:bx):my [N.pv,x.pv]=some (.bool (exB N x)):=by
 simp only[my,Bu,ku,kv,kx,ky,kz,kA,kB,kC,kD,kE,mw,jL,lj,lh,ml,lf,mj,ko,kq,iX,U,AI,az,aJ];unfold exB ub;by_cases h0:0≤x.run
 ·rw[IN h0];by_cases h1:x.run.toNat<N.runs.length
  ·rw[cN h1,IS (by simp;omega),aV cy.pv h0 (cN h1)];simp[U,C4,aS,AI,aJ]
  simp_all
 grind
section
variable {N:an} {q:iI} {l:List bx} {k:Nat}
theorem ui(hk:k<l.length):aT [iN N q l k]=some l[k].pv:=by simp only[aT,mz,QL,QM,QN,QO,QP,QQ,QR,QS,QT,QU,QV,Ch,Ci,Cj,Ck,Cl,Cm,Cn,Co,Cp,Cq,Cr,U,bn bx.pv l k hk,aaM]
theorem P8(hk:k+1<l.length)(hl:l.length≤maxLen):cm [iN N q l ((k+1:Nat):Int)]=some l[k].pv:=by have hm:=ai;simp only[cm,gY,QL,QM,QN,QO,QP,QQ,QR,QS,QT,QU,QV,Ch,Ci,Cj,Ck,Cl,Cm,Cn,Co,Cp,Cq,Cr,U,ic k (by omega),bn bx.pv l k (by omega),aaM]
theorem aiG(x:aY):PV.agg [cell x.pv 0,cell x.pv 1,cell x.pv 2,cell x.pv 3,cell x.pv 4]=x.pv:=rfl
theorem aiH(x:aY):asAgg 5 x.pv=some ():=rfl
theorem adJ(hk:k<l.length){r:cy}{t:ax}{a b:aY}(h:uh N l[k] r t a b):fe [iN N q l k]=some a.pv:=by simp only[fe,kJ,QL,QM,QN,QO,QP,QQ,QR,QS,QT,QU,QV,Ch,Ci,Cj,Ck,Cl,Cm,Cn,Co,Cp,Cq,Cr,U,Vc,ui hk,mw,jL,lj,lh,ml,lf,mj,ko,kq,iX,aV cy.pv h.pC h.run,C4,aS,aV aY.pv h.Iz h.ca,aiG]
theorem OC(hk:k<l.length){r:cy}{t:ax}{a b:aY}(h:uh N l[k] r t a b):dw [iN N q l k]=some b.pv:=by simp only[dw,jQ,QL,QM,QN,QO,QP,QQ,QR,QS,QT,QU,QV,Ch,Ci,Cj,Ck,Cl,Cm,Cn,Co,Cp,Cq,Cr,U,Vc,ui hk,mw,jL,lj,lh,ml,lf,mj,ko,kq,iX,aV cy.pv h.pC h.run,C4,aS,aV aY.pv h.Hm h.bC,aiG]
end
theorem wQ{S R X:Type}{body:S→(S→Option R)→Option R}(st:Nat→X→S)(G:Nat→X→Option R)(n:Nat)(h:∀k,k<n→∀e rec,(∀e',rec (st (k+1) e')=G (k+1) e')→body (st k e) rec=G k e)(tV:∀e rec,body (st n e) rec=G n e)(hn:n<rounds)(e:X){s0:S}(h0:st 0 e=s0):bd.run body s0=G 0 e:=by
 have key:∀(m j N:Nat)(e:X),j+m=n→m<N→cE body N (st j e)=G j e:=by
  intro m;induction m with
  |zero=>
   intro j N e hj hN;cases N with
   |zero=>omega
   |succ N=>simp_all[cE]
  |succ m ih=>
   intro j N e hj hN;cases N with
   |zero=>omega
   |succ N=>grind [cE]
 grind [pM,rounds]
theorem mX{A:Type}{l:List A}{k:Nat}(h:k<l.length):l.drop k=l[k]::l.drop (k+1):=ate h
def QW(N:an)(x:bx):Bool:= !F0 x.src 0 ((N.stops.length:Int)-1)|| !F0 x.dst 0 ((N.stops.length:Int)-1)||(if x.cu=true then !exB N x else(x.run !=0||x.ca !=0||x.bC !=0||x.stay))
def Nv(x:bx):Bool:= !F0 x.dep 0 3155932800|| !F0 x.arr 0 3155932800
def wkB(x:bx)(p:Path):Bool:=decide (p.a=x.src)&&decide (p.b=x.dst)&&decide (p.fq=IntKind.i64.wrap (x.arr-x.dep))
def wk(q:iI)(x:bx):List Path→Int→Int
 |[],e=>e
 |p::r,e=>if wkB x p=true then(if(p.free|| !q.free)=true then 0 else wk q x r 29)else wk q x r e
def OD(N:an)(q:iI)(i:Int):Bool:= !q.free||(match N.stops[i.toNat]? with|some s=>s.free|none=>false)
def adK(q:iI)(t:ax):Bool:=q.bQ !=0&&IntKind.i64.wrap (↑(BitVec.ofInt IntKind.i64.bits (q.bQ.fdiv (2^min t.mode.toNat IntKind.i64.bits))&&&BitVec.ofInt IntKind.i64.bits 1).toNat:Int)==0
def OE(N:an)(q:iI)(x:bx)(r:cy)(t:ax)(a b:aY):Int:=
 if(a.stop !=x.src||b.stop !=x.dst)=true then 24 else if(a.dep !=x.dep||b.arr !=x.arr)=true then 10 else if r.aay=true then 27
 else if(q.free&& !r.free)=true then 29 else if(q.rI&& !t.rI)=true then 30 else if adK q t=true then 31
 else if(!x.stay&& !a.ca)=true then 25 else if(!x.stay&& !OD N q x.src)=true then 29 else 0
def adL(N:an)(q:iI)(x:bx):Int:=match ub N x with
 |some r=>match N.aj[r.dG.toNat]?,r.calls[x.ca.toNat]?,r.calls[x.bC.toNat]? with
  |some t,some a,some b=>OE N q x r t a b
  |_,_,_=>0
 |none=>0
theorem Sb{N:an}{q:iI}{x:bx}{r:cy}{t:ax}{a b:aY}(h:uh N x r t a b):adL N q x=OE N q x r t a b:=by unfold adL ub;rw[IN h.pC,h.run];simp only[h.dG,h.ca,h.bC]
def oM(N:an)(q:iI)(x:bx):Int:=if QW N x=true then 9 else if Nv x=true then 10 else if x.cu=true then adL N q x else wk q x N.paths 18
section
variable {N:an} {q:iI} {l:List bx} {k:Nat}
theorem Sc(h:vS N):N.stops.length≤64:=ID h.parts.1
theorem ahp(h:vS N)(hk:k<l.length):dH [iN N q l k]=some (.int .i64 (if QW N l[k]=true then 9 else 0)):=by
 have hs:=Sc h;simp only[dH,gf,QL,QM,QN,QO,QP,QQ,QR,QS,QT,QU,QV,Ch,Ci,Cj,Ck,Cl,Cm,Cn,Co,Cp,Cq,Cr,U,Vc,ui hk,mw,jL,lj,lh,ml,lf,mj,ko,kq,iX,AI,Db (show N.stops.length≤9223372036854775807 by omega),F7,aB,az,aJ];unfold QW;cases kY:(!F0 l[k].src 0 ((N.stops.length:Int)-1)|| !F0 l[k].dst 0 ((N.stops.length:Int)-1))with
 |true=>rfl
 |false=>
  rw[IS (by simp)];simp only[atb];cases hr:l[k].cu with
  |false=>grind
  |true=>
   simp only[ahX,cond_false,U,cQ,IT,cond_true,BY];have hrl:N.runs.length≤9223372036854775807:=asZ h.ok.runs.1 ai;rw[Db hrl];unfold exB ub;by_cases h0:0≤l[k].run
   ·by_cases h1:l[k].run.toNat<N.runs.length
    ·have hb:F0 l[k].run 0 ((N.runs.length:Int)-1)=true:=by simp[F0];omega
     rw[hb,IN h0,cN h1,aV cy.pv h0 (cN h1)];simp only[U,C4,aS,AI,ahX,atb,cond_false];grind
    ·have hb:F0 l[k].run 0 ((N.runs.length:Int)-1)=false:=by simp[F0];omega
     simp_all
   ·have hb:F0 l[k].run 0 ((N.runs.length:Int)-1)=false:=by simp[F0];omega
    rw[hb,IS h0];rfl
theorem ahq(hk:k<l.length):ei [iN N q l k]=some (.int .i64 (if Nv l[k]=true then 10 else 0)):=by simp only[ei,iO,QL,QM,QN,QO,QP,QQ,QR,QS,QT,QU,QV,Ch,Ci,Cj,Ck,Cl,Cm,Cn,Co,Cp,Cq,Cr,U,Vc,ui hk,mw,jL,lj,lh,ml,lf,mj,ko,kq,iX,F7,aB,az];unfold Nv;grind
theorem W9(i:Int)(s:Stop)(h0:0≤i)(hs:N.stops[i.toNat]?=some s)(c:Int):dZ [iN N q l c,.int .i64 i]=some (.bool (OD N q i)):=by simp only[dZ,lC,QL,QM,QN,QO,QP,QQ,QR,QS,QT,QU,QV,Ch,Ci,Cj,Ck,Cl,Cm,Cn,Co,Cp,Cq,Cr,U,aI,aV Stop.pv h0 hs];unfold OD;rw[hs];cases q.free<;>rfl
theorem Sd(i:Int)(s:Stop)(h0:0≤i)(hs:N.stops[i.toNat]?=some s):kK [N.pv,q.pv,.int .i64 i]=some (.bool (OD N q i)):=by simp only[kK,F8,ku,kv,kx,ky,kz,kA,kB,kC,kD,kE,zs,zt,zu,zw,zx,zy,zz,zA,zB,zC,zD,U,aI,aV Stop.pv h0 hs];unfold OD;rw[hs];cases q.free<;>rfl
end
theorem PQ(q:iI)(x:bx)(p:Path)(r:List Path)(e:Int):wk q x (p::r) e=if wkB x p=true then(if(p.free|| !q.free)=true then 0 else wk q x r 29)else wk q x r e:=rfl
section
variable {N:an} {q:iI} {l:List bx} {k:Nat}
theorem ahr(h:vS N)(hk:k<l.length):fI [iN N q l k]=some (.int .i64 (if l[k].cu=true then 0 else wk q l[k] N.paths 18)):=by
 have hp:=h.paths;simp only[fI,lD,QL,QM,QN,QO,QP,QQ,QR,QS,QT,QU,QV,Ch,Ci,Cj,Ck,Cl,Cm,Cn,Co,Cp,Cq,Cr,U,Vc,ui hk,mw,jL,lj,lh,ml,lf,mj,ko,kq,iX,AI];by_cases hr:l[k].cu=true
 ·simp_all
 ·rw[IS hr,IS hr];refine wQ (fun j e=>(e,N.paths.map Path.pv,(N.paths.length:Int),(j:Int),N.stops.map Stop.pv,N.aj.map ax.pv,N.runs.map cy.pv,N.aH.map bq.pv,N.paths.map Path.pv,N.aK.map aM.pv,N.bp,N.within,N.cap,q.src,q.dst,q.time,q.back,q.b8,q.walk,q.free,q.rI,q.bQ,q.HU,l.map bx.pv,(k:Int),cell l[k].pv 0,cell l[k].pv 1,cell l[k].pv 2,cell l[k].pv 3,cell l[k].pv 4,cell l[k].pv 5,cell l[k].pv 6,cell l[k].pv 7,cell l[k].pv 8,())) (fun j e=>some (PV.int .i64 (wk q l[k] (N.paths.drop j) e))) N.paths.length (fun j hj e rec iW=>?_) (fun e rec=>?_) (by unfold rounds;omega) 18 rfl
  ·unfold iP;dsimp only;have arX:∀e',_:=iW;rw[IN (by simp;omega),bn Path.pv N.paths j hj];simp only[U,Hn,Ho,L9,Hq,aI,aB,mw,jL,lj,lh,ml,lf,mj,ko,kq,iX,aJ,az,ab (show j<9223372036854775807 by omega),iW];rw[mX hj,show(N.paths[j].a==l[k].src&&N.paths[j].b==l[k].dst&&N.paths[j].fq==IntKind.i64.wrap (l[k].arr-l[k].dep))=wkB l[k] N.paths[j] by rfl];grind [PQ,wkB]
  ·unfold iP;dsimp only;rw[IS (by simp),as9];rfl
theorem adM(h:vS N)(x:bx):vq [N.pv,q.pv,x.pv]=some (.int .i64 (wk q x N.paths 18)):=by
 have hp:=h.paths;simp only[vq,F9,ku,kv,kx,ky,kz,kA,kB,kC,kD,kE,zs,zt,zu,zw,zx,zy,zz,zA,zB,zC,zD,mw,jL,lj,lh,ml,lf,mj,ko,kq,iX,U];refine wQ (fun j e=>(e,(j:Int),N.stops.map Stop.pv,N.aj.map ax.pv,N.runs.map cy.pv,N.aH.map bq.pv,N.paths.map Path.pv,N.aK.map aM.pv,N.bp,N.within,N.cap,q.src,q.dst,q.time,q.back,q.b8,q.walk,q.free,q.rI,q.bQ,q.HU,x.cu,x.run,x.ca,x.bC,x.src,x.dst,x.dep,x.arr,x.stay,())) (fun j e=>some (PV.int .i64 (wk q x (N.paths.drop j) e))) N.paths.length (fun j hj e rec iW=>?_) (fun e rec=>?_) (by unfold rounds;omega) 18 rfl
 ·unfold zH;dsimp only;rw[IN (by simp;omega),bn Path.pv N.paths j hj];simp only[U,Hn,Ho,L9,Hq,aI,aB,aJ,az,ab (show j<9223372036854775807 by omega),iW];rw[mX hj,PQ];simp only[wkB,bne,bT];grind
 ·unfold zH;dsimp only;rw[IS (by simp),as9];rfl
theorem LX(x:aY):Ab.asInt .i64 (cell x.pv 0)=some x.stop:=rfl
theorem adN(x:aY):Ab.asInt .i64 (cell x.pv 1)=some x.arr:=rfl
theorem UQ(x:aY):Ab.asInt .i64 (cell x.pv 2)=some x.dep:=rfl
theorem adO(x:aY):Ab.asBool (cell x.pv 3)=some x.ca:=rfl
theorem adP(x:aY):Ab.asBool (cell x.pv 4)=some x.bC:=rfl
theorem EG(x:ax):Ab.asInt .i64 (cell x.pv 1)=some x.mode:=rfl
theorem Xa(x:ax):Ab.asBool (cell x.pv 2)=some x.rI:=rfl
theorem ifI(c:Prop)[Decidable c](a b:Int):some (PV.int .i64 (if c then a else b))=if c then some (PV.int .i64 a)else some (PV.int .i64 b):=by split<;>rfl
theorem ahs(h:vS N)(hk:k<l.length)(hr:l[k].cu=true){r:cy}{t:ax}{a b:aY}(hx:uh N l[k] r t a b){s:Stop}(hs:N.stops[l[k].src.toNat]?=some s)(JF:0≤l[k].src):cZ [iN N q l k]=some (.int .i64 (OE N q l[k] r t a b)):=by have hm:=(h.dG t hx.tm).1;simp only[cZ,gR,QL,QM,QN,QO,QP,QQ,QR,QS,QT,QU,QV,Ch,Ci,Cj,Ck,Cl,Cm,Cn,Co,Cp,Cq,Cr,U,Vc,ui hk,mw,jL,lj,lh,ml,lf,mj,ko,kq,iX,hr,ahX,cQ,IT,aV cy.pv hx.pC hx.run,J4,UL,UM,aI,aB,aV ax.pv hx.IC hx.dG,adJ hk hx,OC hk hx,aiH,LX,adN,UQ,adO,EG,Xa,az,aJ,W9 _ s JF hs];rw[IS (show¬t.mode<0 by omega)];simp[aJ,U,OE,adK,ifI]
end
section
variable {N:an} {q:iI} {l:List bx} {k:Nat}
theorem adQ(hk:k<l.length)(hr:l[k].cu=false):cZ [iN N q l k]=some (.int .i64 0):=by simp only[cZ,gR,QL,QM,QN,QO,QP,QQ,QR,QS,QT,QU,QV,Ch,Ci,Cj,Ck,Cl,Cm,Cn,Co,Cp,Cq,Cr,U,Vc,ui hk,mw,jL,lj,lh,ml,lf,mj,ko,kq,iX,hr,asw,BY]
theorem lB{x:bx}(h:QW N x=false):(∃s,N.stops[x.src.toNat]?=some s∧0≤x.src∧s∈N.stops)∧(∃s,N.stops[x.dst.toNat]?=some s∧0≤x.dst∧s∈N.stops)∧(x.cu=true→exB N x=true)∧(x.cu=false→x.stay=false):=by
 unfold QW at h;simp only[asK,as6,F0,amm,cT]at h;obtain⟨⟨⟨a1,a2⟩,b1,b2⟩,c⟩:=h;have h1:x.src.toNat<N.stops.length:=by omega
 have h2:x.dst.toNat<N.stops.length:=by omega
 refine⟨⟨_,cN h1,by omega,aqW h1⟩,⟨_,cN h2,by omega,aqW h2⟩,fun hr=>?_,fun hr=>?_⟩
 ·simp_all
 simp_all
theorem ajI(h:vS N)(hk:k<l.length):gg [iN N q l k]=some (.int .i64 (oM N q l[k])):=by
 simp only[gg,mA,QL,QM,QN,QO,QP,QQ,QR,QS,QT,QU,QV,Ch,Ci,Cj,Ck,Cl,Cm,Cn,Co,Cp,Cq,Cr,U,Vc,ahp h hk,aI];unfold oM;cases hl:QW N l[k]with
 |true=>rfl
 |false=>
  obtain⟨⟨s,hs,JF,_⟩,_,hx,uQ⟩:=lB hl;simp only[cQ,IT,ahq hk,U,aI];rw[IS (by simp)];cases hmo:Nv l[k]with
  |true=>rfl
  |false=>
   simp only[cQ,IT,ahr h hk,U,aI];rw[IS (by simp)];cases hr:l[k].cu with
   |true=>obtain⟨r,t,a,b,k8⟩:=wM h (hx hr);simp only[BY,ahs h hk hr k8 hs JF,U,aI,Sb k8];simp_all
   |false=>simp only[cQ,IT,adQ hk hr,U,aI];simp_all
theorem adR(h:vS N){x:bx}{r:cy}{t:ax}{a b:aY}(hx:uh N x r t a b){s:Stop}(hs:N.stops[x.src.toNat]?=some s)(JF:0≤x.src):vr [N.pv,q.pv,x.pv]=some (.int .i64 (OE N q x r t a b)):=by have hm:=(h.dG t hx.tm).1;simp only[vr,Ga,ku,kv,kx,ky,kz,kA,kB,kC,kD,kE,zs,zt,zu,zw,zx,zy,zz,zA,zB,zC,zD,mw,jL,lj,lh,ml,lf,mj,ko,kq,iX,U,oN,EX,aV cy.pv hx.pC hx.run,J4,UL,UM,C4,aI,aB,aS,aV aY.pv hx.Iz hx.ca,aV aY.pv hx.Hm hx.bC,aV ax.pv hx.IC hx.dG,LX,adN,UQ,adO,EG,Xa,az,aJ,Sd _ s JF hs];rw[IS (show¬t.mode<0 by omega)];simp[aJ,U,OE,adK,ifI]
theorem aht(h:vS N)(x:bx):mY [N.pv,q.pv,x.pv]=some (.int .i64 (oM N q x)):=by
 have hs:=Sc h;simp only[mY,wR,ku,kv,kx,ky,kz,kA,kB,kC,kD,kE,zs,zt,zu,zw,zx,zy,zz,zA,zB,zC,zD,mw,jL,lj,lh,ml,lf,mj,ko,kq,iX,U,oN,EX,ank,AI,Db (show N.stops.length≤9223372036854775807 by omega),adI,aB,az,aJ,L8];unfold oM;have hc:(!F0 x.src 0 ((N.stops.length:Int)-1)|| !F0 x.dst 0 ((N.stops.length:Int)-1))=true∨(!F0 x.src 0 ((N.stops.length:Int)-1)|| !F0 x.dst 0 ((N.stops.length:Int)-1))=false:=by grind
 rcases hc with hc|hc
 ·rw[IN hc,IN (by unfold QW;rw[hc];rfl)]
 ·rw[IS (by simp[hc])];have hl:QW N x=((x.cu&& !exB N x)||(!x.cu&&(x.run !=0||x.ca !=0||x.bC !=0||x.stay))):=by grind [QW]
  rw[←hl];cases hlb:QW N x with
  |true=>rfl
  |false=>
   obtain⟨⟨s,hs,JF,_⟩,_,hx,uQ⟩:=lB hlb;simp only[cQ,IT];unfold Nv;cases(!F0 x.dep 0 3155932800|| !F0 x.arr 0 3155932800)with
   |true=>rfl
   |false=>
    simp only[cQ,IT];cases hr:x.cu with
    |true=>
     obtain⟨r,t,a,b,k8⟩:=wM h (hx hr);have hxf:PV.agg [.bool true,.int .i64 x.run,.int .i64 x.ca,.int .i64 x.bC,.int .i64 x.src,.int .i64 x.dst,.int .i64 x.dep,.int .i64 x.arr,.bool x.stay]=x.pv:=by rw[←hr];rfl
     simp only[BY,hxf,adR h k8 hs JF,U,aI,Sb k8]
    |false=>
     have hxf:PV.agg [.bool false,.int .i64 x.run,.int .i64 x.ca,.int .i64 x.bC,.int .i64 x.src,.int .i64 x.dst,.int .i64 x.dep,.int .i64 x.arr,.bool x.stay]=x.pv:=by rw[←hr];rfl
     simp_all[cQ,IT,adM,U,aI]
end
def lkB(a b:bx)(stay:Bool)(k:bq):Bool:=(k.a==a.run)&&(k.ac==a.bC)&&(k.b==b.run)&&(k.bc==b.ca)&&(k.stay==stay)
def Fi(N:an)(a b:bx)(stay:Bool):Bool:=N.aH.any (lkB a b stay)
def Hg(N:an)(i:Int):Int:=match N.stops[i.toNat]? with|some s=>s.change|none=>0
def Bq(N:an)(q:iI)(l:List bx)(x:bx):Int:=
 if(x.src !=q.src)=true then 24 else if x.stay=true then 19
 else if(!x.cu&&(match l[1]? with|some y=>y.cu&&y.dep !=x.arr|none=>false))=true then 10
 else if(!x.cu&&decide (l.length=1)&&(if q.back=true then x.arr !=q.time else x.dep !=q.time))=true then 10
 else if(!q.back&&decide (x.dep<q.time))=true then 10
 else if(!q.back&&q.HU&&x.cu&&decide (x.dep<IntKind.i64.wrap (q.time+Hg N q.src)))=true then 28 else 0
def wL(N:an)(a b:bx):Int:=
 if(b.src !=a.dst)=true then 24 else if(!a.cu&& !b.cu)=true then 32 else if(b.stay&&(!a.cu|| !Fi N a b true))=true then 19
 else if(b.stay&&decide (b.dep<a.arr))=true then 10 else if(!b.cu&&b.dep !=a.arr)=true then 10 else 0
def vj(N:an)(a b:bx):Int:=
 if(!b.cu||b.stay)=true then 0 else if(!a.cu)=true then(if decide (b.dep<a.arr)=true then 28 else 0)
 else if(decide (b.dep≥IntKind.i64.wrap (a.arr+Hg N b.src))||(decide (b.dep≥a.arr)&&Fi N a b false))=true then 0 else 28
def alB(N:an)(x:bx):Bool:=match ub N x with
 |some r=>(match r.calls[x.bC.toNat]? with|some b=>b.bC|none=>false)
 |none=>false
def Ma(N:an)(q:iI)(l:List bx)(k:Nat)(x:bx):Int:=if(!x.cu||(match l[k+1]? with|some y=>y.stay|none=>false))=true then 0 else if(!alB N x)=true then 26 else if(!OD N q x.dst)=true then 29 else 0
def eU(N:an)(q:iI)(l:List bx)(k:Nat):Int:=match l[k]? with
 |none=>0
 |some x=>if oM N q x=0 then
   (let e:=if k=0 then Bq N q l x else match l[k-1]? with
    |some a=>if wL N a x=0 then vj N a x else wL N a x
    |none=>0
   if e=0 then Ma N q l k x else e)
  else oM N q x
section
variable {N:an} {q:iI} {l:List bx} {k:Nat}
theorem OG(h:vS N)(hk:k+1<l.length)(hl:l.length≤maxLen)(st:Bool):dx [iN N q l ((k+1:Nat):Int),.bool st]=some (.bool (Fi N l[k] l[k+1] st)):=by
 have hm:=ai;have hr:=aw;have TL:=h.ok.aH.1;simp only[dx,jR,QL,QM,QN,QO,QP,QQ,QR,QS,QT,QU,QV,Ch,Ci,Cj,Ck,Cl,Cm,Cn,Co,Cp,Cq,Cr,U,Vc,aB,P8 hk hl,ui hk,mw,AI];refine wQ (fun j(_:Unit)=>(st,N.aH.map bq.pv,(N.aH.length:Int),(j:Int),cell l[k].pv 0,cell l[k].pv 1,cell l[k].pv 2,cell l[k].pv 3,cell l[k].pv 4,cell l[k].pv 5,cell l[k].pv 6,cell l[k].pv 7,cell l[k].pv 8,cell l[k+1].pv 0,cell l[k+1].pv 1,cell l[k+1].pv 2,cell l[k+1].pv 3,cell l[k+1].pv 4,cell l[k+1].pv 5,cell l[k+1].pv 6,cell l[k+1].pv 7,cell l[k+1].pv 8,())) (fun j _=>some (PV.bool ((N.aH.drop j).any (lkB l[k] l[k+1] st)))) N.aH.length (fun j hj e rec iW=>?_) (fun e rec=>?_) (by omega) () rfl
 ·unfold gF;dsimp only;rw[IN (by simp;omega),bn bq.pv N.aH j hj];simp only[U,Mb,Se,link2,Sf,OH,aI,aB,mw,jL,lj,lh,ml,lf,mj,ko,kq,iX,aJ,ab (show j<9223372036854775807 by omega),iW ()];rw[mX hj,aud];have hc:(N.aH[j].stay==st&&N.aH[j].a==l[k].run&&N.aH[j].ac==l[k].bC&&N.aH[j].b==l[k+1].run&&N.aH[j].bc==l[k+1].ca)=lkB l[k] l[k+1] st N.aH[j]:=by unfold lkB;grind
  grind
 ·unfold gF;simp
theorem Vd(h:vS N)(a b:bx)(st:Bool):mB [N.pv,a.pv,b.pv,.bool st]=some (.bool (Fi N a b st)):=by
 have hm:=ai;have hr:=aw;have TL:=h.ok.aH.1;simp only[mB,Bv,ku,kv,kx,ky,kz,kA,kB,kC,kD,kE,mw,jL,lj,lh,ml,lf,mj,ko,kq,iX,U,aB];refine wQ (fun j(_:Unit)=>(st,(j:Int),N.stops.map Stop.pv,N.aj.map ax.pv,N.runs.map cy.pv,N.aH.map bq.pv,N.paths.map Path.pv,N.aK.map aM.pv,N.bp,N.within,N.cap,a.cu,a.run,a.ca,a.bC,a.src,a.dst,a.dep,a.arr,a.stay,b.cu,b.run,b.ca,b.bC,b.src,b.dst,b.dep,b.arr,b.stay,())) (fun j _=>some (PV.bool ((N.aH.drop j).any (lkB a b st)))) N.aH.length (fun j hj e rec iW=>?_) (fun e rec=>?_) (by omega) () rfl
 ·unfold uj;dsimp only;rw[IN (by simp;omega),bn bq.pv N.aH j hj];simp only[U,Mb,Se,link2,Sf,OH,aI,aB,aJ,ab (show j<9223372036854775807 by omega),iW ()];grind [mX,lkB]
 ·unfold uj;simp
end
theorem Iy(x:Stop):Ab.asInt .i64 (cell x.pv 3)=some x.change:=rfl
theorem Hr{A:Type}(f:A→PV)(l:List A)(k:Nat):dB (l.map f) (k:Int)=(l[k]?).map f:=by rw[ag,AT]
section
variable {N:an} {q:iI} {l:List bx} {k:Nat}
theorem F1{i:Int}{s:Stop}(hs:N.stops[i.toNat]?=some s):Hg N i=s.change:=by unfold Hg;rw[hs]
theorem Sg(l:List bx):dB (l.map bx.pv) 1=(l[1]?).map bx.pv:=Hr bx.pv l 1
theorem aaO(hk:0<k):cP [iN N q l k]=some (.int .i64 0):=by simp only[cP,gh,QL,QM,QN,QO,QP,QQ,QR,QS,QT,QU,QV,Ch,Ci,Cj,Ck,Cl,Cm,Cn,Co,Cp,Cq,Cr,U];simp_all
theorem adS(hk:0<l.length)(hl:QW N l[0]=false):cP [iN N q l ((0:Nat):Int)]=some (.int .i64 (Bq N q l l[0])):=by
 obtain⟨⟨s,hs,JF,_⟩,_⟩:=lB hl;simp only[cP,gh,QL,QM,QN,QO,QP,QQ,QR,QS,QT,QU,QV,Ch,Ci,Cj,Ck,Cl,Cm,Cn,Co,Cp,Cq,Cr,U,Vc,ui hk,mw,jL,lj,lh,ml,lf,mj,ko,kq,iX,AI,Sg,aJ,az,bT];rw[IS (by simp)];unfold Bq;simp only[ifI];by_cases hc:l[0].src=q.src
 ·rw[←hc,aV Stop.pv JF hs,F1 hs];simp only[U,Iy,auh,cQ,IT];have h1:(decide ((l.length:Int)=1))=decide (l.length=1):=by grind
  rw[h1];cases uQ:l[0].stay with
  |true=>rfl
  |false=>
   simp only[cQ,IT];cases h2:l[1]? with
   |none=>
    have hlen:l.length=1:=by grind
    simp only[hlen,asv,ahX,aJ,U,aui,cond_false,Option.map_none,atc];grind
   |some y=>
    have hlen:¬l.length=1:=by grind
    simp only[hlen,asx,asw,aJ,U,atc,aui,No,mw,jL,lj,lh,ml,lf,mj,ko,kq,iX,cond_false];grind
 simp_all
theorem adT:ea [iN N q l ((0:Nat):Int)]=some (.int .i64 0):=by rfl
theorem ahu(h:vS N)(hk:k+1<l.length)(hl:l.length≤maxLen):ea [iN N q l ((k+1:Nat):Int)]=some (.int .i64 (wL N l[k] l[k+1])):=by simp only[ea,lE,QL,QM,QN,QO,QP,QQ,QR,QS,QT,QU,QV,Ch,Ci,Cj,Ck,Cl,Cm,Cn,Co,Cp,Cq,Cr,U,Vc,P8 hk hl,ui hk,mw,jL,lj,lh,ml,lf,mj,ko,kq,iX,OG h hk hl,aB,aJ,az];rw[IS (by simp;omega)];unfold wL;simp only[ifI]
theorem Ve:dy [iN N q l ((0:Nat):Int)]=some (.int .i64 0):=by rfl
theorem aaP(h:vS N)(hk:k+1<l.length)(hl:l.length≤maxLen)(hs:QW N l[k+1]=false):dy [iN N q l ((k+1:Nat):Int)]=some (.int .i64 (vj N l[k] l[k+1])):=by
 obtain⟨⟨s,hs,JF,_⟩,_⟩:=lB hs;simp only[dy,jS,QL,QM,QN,QO,QP,QQ,QR,QS,QT,QU,QV,Ch,Ci,Cj,Ck,Cl,Cm,Cn,Co,Cp,Cq,Cr,U,Vc,P8 hk hl,ui hk,mw,jL,lj,lh,ml,lf,mj,ko,kq,iX,OG h hk hl,aB,aJ,az,aV Stop.pv JF hs,Iy];have h0:(((k+1:Nat):Int)==0)=false:=by rfl
 rw[h0];unfold vj;simp only[ifI,F1 hs,NO,asw,cond_true];grind
theorem Si(h:vS N)(hk:k<l.length)(hl:l.length≤maxLen)(hs:QW N l[k]=false):ff [iN N q l k]=some (.int .i64 (Ma N q l k l[k])):=by
 have hm:=ai;obtain⟨_,⟨s,hs,JF,_⟩,hx,_⟩:=lB hs;simp only[ff,kL,QL,QM,QN,QO,QP,QQ,QR,QS,QT,QU,QV,Ch,Ci,Cj,Ck,Cl,Cm,Cn,Co,Cp,Cq,Cr,U,Vc,ui hk,mw,jL,lj,lh,ml,lf,mj,ko,kq,iX,AI,ab (show k<9223372036854775807 by omega),Hr];unfold Ma;cases hr:l[k].cu with
 |false=>rfl
 |true=>
  obtain⟨r,t,a,b,k8⟩:=wM h (hx hr);have Oa:alB N l[k]=b.bC:=by unfold alB ub;rw[IN k8.pC,k8.run];simp only[k8.bC]
  have uQ:(bif decide (((k+1:Nat):Int)<(l.length:Int))then(Option.map bx.pv l[k+1]?).bind fun p=>(Ab.asBool (cell p 8)).bind fun b=>some b else some false)=some (match l[k+1]? with|some y=>y.stay|none=>false):=by
   by_cases cd:k+1<l.length
   ·rw[cN cd];simp only[No,U,iX];grind
   grind
  simp only[ahX,atb,cond_false,uQ,U,OC hk k8,aiH,adP,aI,W9 _ s JF hs,aB,Oa,ifI]<;>rfl
theorem adU(h:vS N)(hk:k<l.length)(hl:l.length≤maxLen):fg [iN N q l k]=some (.int .i64 (eU N q l k)):=by
 simp only[fg,kM,QL,QM,QN,QO,QP,QQ,QR,QS,QT,QU,QV,Ch,Ci,Cj,Ck,Cl,Cm,Cn,Co,Cp,Cq,Cr,U,Vc,ajI h hk,aI];unfold eU;rw[cN hk];simp only;by_cases h0:oM N q l[k]=0
 ·have TP:QW N l[k]=false:=by unfold oM at h0;grind
  rw[IS (by simp[h0]),IN h0];cases k with
  |zero=>simp only[adS hk TP,U,aI,adT,Ve,Si h hk hl TP,BY];grind
  |succ k=>
   have B5:l[k+1-1]?=some l[k]:=by simp
   simp only[aaO (N:=N) (q:=q) (l:=l) (Nat.succ_pos k),U,aI,ahu h hk hl,aaP h hk hl TP,Si h hk hl TP,B5];grind
 simp_all
end
section
variable {N:an} {q:iI} {l:List bx} {k:Nat}
theorem aaQ(l:List bx):dB (l.map bx.pv) 0=(l[0]?).map bx.pv:=Hr bx.pv l 0
theorem aaR(hk:0<l.length)(hl:QW N l[0]=false)(hq:(q.HU&&q.back)=false):sS [N.pv,q.pv,Kr l]=some (.int .i64 (Bq N q l l[0])):=by
 obtain⟨⟨s,hs,JF,_⟩,_⟩:=lB hl;simp only[sS,Df,ku,kv,kx,ky,kz,kA,kB,kC,kD,kE,zs,zt,zu,zw,zx,zy,zz,zA,zB,zC,zD,jA,j0,U,aaQ,cN hk,No,mw,jL,lj,lh,ml,lf,mj,ko,kq,iX,AI,Sg,aJ,az,bT];unfold Bq;simp only[ifI];by_cases hc:l[0].src=q.src
 ·rw[←hc,aV Stop.pv JF hs,F1 hs];simp only[U,Iy,auh,cQ,IT];have h1:(decide ((l.length:Int)=1))=decide (l.length=1):=by grind
  have h3:(decide ((l.length:Int)>1))= !decide (l.length=1):=by grind
  rw[h1,h3];cases uQ:l[0].stay with
  |true=>rfl
  |false=>
   simp only[cQ,IT];cases h2:l[1]? with
   |none=>
    have hlen:l.length=1:=by grind
    simp only[hlen,asv,ahX,aJ,U,aui,cond_false,Option.map_none,atc];grind
   |some y=>
    have hlen:¬l.length=1:=by grind
    simp only[hlen,asx,asw,aJ,U,atc,aui,No,mw,jL,lj,lh,ml,lf,mj,ko,kq,iX,cond_false];grind
 simp_all
theorem Vf(h:vS N){a b:bx}(hb:QW N b=false):qu [N.pv,a.pv,b.pv]=some (.int .i64 (if wL N a b=0 then vj N a b else wL N a b)):=by
 obtain⟨⟨s,hs,JF,_⟩,_,_,uQ⟩:=lB hb;simp only[qu,Bw,ku,kv,kx,ky,kz,kA,kB,kC,kD,kE,mw,jL,lj,lh,ml,lf,mj,ko,kq,iX,U,oN,ank,Vd h,aB,aJ,az];unfold wL vj;by_cases hc:b.src=a.dst
 ·rw[IS (by simp[hc]),←hc,aV Stop.pv JF hs,F1 hs];simp only[U,Iy,auh,cQ,IT,az];grind
 grind
theorem ajJ(h:vS N)(hk:k<l.length)(hl:l.length≤maxLen)(hq:(q.HU&&q.back)=false):Bx [N.pv,q.pv,Kr l,.int .i64 k]=some (.int .i64 (eU N q l k)):=by
 have hm:=ai;simp only[Bx,Mc,ku,kv,kx,ky,kz,kA,kB,kC,kD,kE,zs,zt,zu,zw,zx,zy,zz,zA,zB,zC,zD,jA,j0,U,aI,bn bx.pv l k hk,aaM,oN,EX,aht h,AI,ab (show k<9223372036854775807 by omega),Hr];unfold eU;rw[cN hk];simp only;by_cases h0:oM N q l[k]=0
 ·have TP:QW N l[k]=false:=by unfold oM at h0;grind
  obtain⟨_,⟨s,hs,JF,_⟩,hx,_⟩:=lB TP;have JI:(bif (((k+1:Nat):Int)==(l.length:Int))then some true else(Option.map bx.pv l[k+1]?).bind fun p=>(Ab.asBool (cell p 8)).bind fun b=>some !b)=some !(match l[k+1]? with|some y=>y.stay|none=>false):=by
   by_cases cd:k+1<l.length
   ·rw[cN cd];simp only[No,U,iX];grind
   grind
  have adV:((bif l[k].cu then(bif (((k+1:Nat):Int)==(l.length:Int))then some true else(Option.map bx.pv l[k+1]?).bind fun p=>(Ab.asBool (cell p 8)).bind fun b=>some !b).bind fun r=>some r else some false).bind fun r33=>if r33=true then(Ab.asInt .i64 (cell l[k].pv 1)).bind fun n34=>(dB (N.runs.map cy.pv) n34).bind fun p35=>(ao 5 (cell p35 7)).bind fun aqz=>(Ab.asInt .i64 (cell l[k].pv 3)).bind fun n37=>(dB aqz n37).bind fun p38=>(Ab.asBool (cell p38 4)).bind fun b39=>if(!b39)=true then some (PV.int .i64 26)else(Ab.asInt .i64 (cell l[k].pv 5)).bind fun n40=>(kK [N.pv,q.pv,PV.int .i64 n40]).bind fun r41=>(Ab.asBool r41).bind fun b42=>if(!b42)=true then some (PV.int .i64 29)else some (PV.int .i64 0)else some (PV.int .i64 0))=some (PV.int .i64 (Ma N q l k l[k])):=by
   unfold Ma;rw[JI];cases hr:l[k].cu with
   |false=>rfl
   |true=>
    obtain⟨r,t,a,b,k8⟩:=wM h (hx hr);have Oa:alB N l[k]=b.bC:=by unfold alB ub;rw[IN k8.pC,k8.run];simp only[k8.bC]
    simp only[cond_true,U,mw,jL,lj,lh,ml,lf,mj,ko,kq,iX,aV cy.pv k8.pC k8.run,C4,aS,aV aY.pv k8.Hm k8.bC,adP,Sd _ s JF hs,aB,Oa,ifI,ahX,atb];grind
  rw[IS (by simp[h0]),IN h0];cases k with
  |zero=>
   rw[IN (by simp),IN rfl];simp only[jF,aaR hk TP hq,U,aI];by_cases h1:Bq N q l l[0]=0
   ·rw[IS (by simp[h1]),IN h1,←adV];rfl
   simp_all
  |succ k=>
   have B5:l[k+1-1]?=some l[k]:=by simp
   rw[IS (by simp;omega),IS (show¬k+1=0 by omega),ic k (by omega),B5];simp only[bn bx.pv l k (by omega),U,aaM,Vf h TP,aI];by_cases h1:(if wL N l[k] l[k+1]=0 then vj N l[k] l[k+1]else wL N l[k] l[k+1])=0
   ·rw[IS (by simp[h1]),IN h1,←adV];rfl
   simp_all
 simp_all
end
theorem nT{S R X:Type}{body:S→(S→Option R)→Option R}(st:Nat→X→S)(G:Nat→X→Option R)(I:Nat→X→Prop)(n:Nat)(h:∀k,k<n→∀e rec,I k e→(∀e',I (k+1) e'→rec (st (k+1) e')=G (k+1) e')→body (st k e) rec=G k e)(tV:∀e rec,I n e→body (st n e) rec=G n e)(hn:n<rounds)(e:X)(he:I 0 e){s0:S}(h0:st 0 e=s0):bd.run body s0=G 0 e:=by
 have key:∀(m j N:Nat)(e:X),j+m=n→m<N→I j e→cE body N (st j e)=G j e:=by
  intro m;induction m with
  |zero=>
   intro j N e hj hN hi;cases N with
   |zero=>omega
   |succ N=>simp_all[cE]
  |succ m ih=>
   intro j N e hj hN hi;cases N with
   |zero=>omega
   |succ N=>grind [cE]
 grind [pM,rounds]
def OI(f:Nat→Int):Nat→Nat→Nat
 |0,k=>k
 |m+1,k=>if f k=0 then OI f m (k+1)else k
theorem Sj(f:Nat→Int){n j:Nat}(h:j<n):OI f (n-j) j=if f j=0 then OI f (n-(j+1)) (j+1)else j:=by
 have:n-j=(n-(j+1))+1:=by omega
 rw[this];rfl
theorem Sk(f:Nat→Int):∀m k,k≤OI f m k∧OI f m k≤k+m∧(OI f m k<k+m→f (OI f m k)≠0)∧∀j,k≤j→j<OI f m k→f j=0
 |0,k=>⟨ast _,ast _,fun h=>absurd h (by simp[OI]),fun j h1 h2=>by simp[OI]at h2;omega⟩
 |m+1,k=>by
  unfold OI;split
  ·rename_i h0;obtain⟨a,b,c,d⟩:=Sk f m (k+1);refine⟨by omega,by omega,fun h=>c (by omega),fun j h1 h2=>?_⟩;by_cases e:j=k
   ·rw[e];exact h0
   ·exact d j (by omega) h2
  ·rename_i h0;exact⟨by omega,by omega,fun _=>h0,fun j h1 h2=>by omega⟩
def eAt(f:Nat→Int)(n k:Nat):Int:=if k<n then f k else 0
def Sl(N:an)(q:iI)(l:List bx):Nat:=OI (eU N q l) l.length 0
def Fl(N:an)(q:iI)(l:List bx):Int:=eAt (eU N q l) l.length (Sl N q l)
theorem F2{N:an}{q:iI}{l:List bx}:Fl N q l=0↔∀k,k<l.length→eU N q l k=0:=by obtain⟨_,b,c,d⟩:=Sk (eU N q l) l.length 0;unfold Fl eAt Sl;grind
section
variable {N:an} {q:iI} {l:List bx}
theorem ahv(h:vS N)(hl:l.length≤maxLen):og [N.pv,q.pv,Kr l]=some (.aG [.int .i64 (Sl N q l),.int .i64 (Fl N q l)]):=by
 have hm:=ai;have hr:=aw;simp only[og,zI,ku,kv,kx,ky,kz,kA,kB,kC,kD,kE,zs,zt,zu,zw,zx,zy,zz,zA,zB,zC,zD,jA,j0,U];refine(wQ (fun j(_:Unit)=>(l.map bx.pv,N.stops.map Stop.pv,N.aj.map ax.pv,N.runs.map cy.pv,N.aH.map bq.pv,N.paths.map Path.pv,N.aK.map aM.pv,N.bp,N.within,N.cap,q.src,q.dst,q.time,q.back,q.b8,q.walk,q.free,q.rI,q.bQ,q.HU,l.map bx.pv,(j:Int),())) (fun j _=>some (PV.aG [.int .i64 ((OI (eU N q l) (l.length-j) j:Nat):Int),.int .i64 (eAt (eU N q l) l.length (OI (eU N q l) (l.length-j) j))])) l.length (fun j hj e rec iW=>?_) (fun e rec=>?_) (by omega) () rfl).trans (by rfl)
 ·unfold sf;dsimp only;rw[IN (by simp;omega)];simp only[Vc,adU h hj hl,U,aI,ab (show j<9223372036854775807 by omega),iW (),Sj _ hj];by_cases h0:eU N q l j=0
  ·simp_all
  simp_all[IN,IS,eAt]
 ·unfold sf;dsimp only;rw[IS (by simp),aun];simp[OI,eAt,AI,Nat.lt_irrefl,IT]
end
def gW(x:bx):Bool:=x.cu&& !x.stay
def wlB(x:bx):Bool:= !x.cu&&decide (x.dep≥0)&&decide (x.dep≤x.arr)&&decide (x.arr-x.dep≤14400)
def Nb:List bx→Int→Int
 |[],s=>s
 |x::r,s=>if wlB x=true then Nb r (s+(x.arr-x.dep))else Nb r s
theorem Sn(x:bx)(r:List bx)(s:Int):Nb (x::r) s=if wlB x=true then Nb r (s+(x.arr-x.dep))else Nb r s:=rfl
theorem Ks{n:Int}(h:jN n): -9223372036854775808≤n∧n≤9223372036854775807:=by simp_all[sC,IntKind.min,IntKind.max,IntKind.signed,IntKind.bits]
theorem Xb(x:Int):IntKind.i64.wrap x=(x+9223372036854775808)%18446744073709551616-9223372036854775808:=by simp only[IntKind.wrap,IntKind.signed,IntKind.bits];simp;omega
theorem Sq(l:List bx)(hl:l.length≤1000000)(ho:∀x∈l,x.Ok):jP [Kr l]=some (.int .i64 (Nb l 0)):=by
 simp only[jP,Bz,jA,j0,U,AI];refine nT (fun j s=>(s,l.map bx.pv,(l.length:Int),(j:Int),())) (fun j s=>some (PV.int .i64 (Nb (l.drop j) s))) (fun j s=>0≤s∧s≤14400*(j:Int)) l.length (fun j hj s rec hi iW=>?_) (fun s rec hi=>?_) (by unfold rounds;omega) 0 (by simp) rfl
 ·have hx:=ho _ (aqW hj);have hd:=Ks hx.dep;have ha:=Ks hx.arr;unfold uk;dsimp only;rw[IN (by simp;omega),bn bx.pv l j hj,mX hj,Sn];simp only[U,mw,jL,lj,lh,ml,lf,mj,ko,kq,iX,az,ab (show j<9223372036854775807 by omega)];by_cases c:wlB l[j]=true
  ·have c':=c;unfold wlB at c';simp only[amm,asO,cT]at c';have hw:IntKind.i64.wrap (l[j].arr-l[j].dep)=l[j].arr-l[j].dep:=aZ (by omega) (by omega);rw[hw,IS (by simp[c'.1.1.1];omega),IN c,aZ (by omega) (by omega)];exact iW _ (by omega)
  ·rw[IS c];have c':(l[j].cu||decide (l[j].dep<0)||decide (l[j].arr<l[j].dep)||decide (IntKind.i64.wrap (l[j].arr-l[j].dep)>14400))=true:=by
    unfold wlB at c;cases hr:l[j].cu with
    |true=>rfl
    |false=>rw[hr]at c;simp only[asw,as0,amm,cT,not_and]at c;simp only[atb,asz,cT];grind [aZ]
   grind
 ·unfold uk;dsimp only;rw[IS (by simp),as9];rfl
theorem OJ(l:List bx)(hl:l.length≤1000000)(ho:∀x∈l,x.Ok):qv [Kr l]=some (.int .i64 (Nb l 0)):=by
 simp only[qv,Gb,jA,j0,U];refine nT (fun j s=>(s,(j:Int),l.map bx.pv,())) (fun j s=>some (PV.int .i64 (Nb (l.drop j) s))) (fun j s=>0≤s∧s≤14400*(j:Int)) l.length (fun j hj s rec hi iW=>?_) (fun s rec hi=>?_) (by unfold rounds;omega) 0 (by simp) rfl
 ·have hx:=ho _ (aqW hj);have hd:=Ks hx.dep;have ha:=Ks hx.arr;unfold zJ;dsimp only;rw[IN (by simp;omega),bn bx.pv l j hj,mX hj,Sn];simp only[U,mw,jL,lj,lh,ml,lf,mj,ko,kq,iX,aJ,ab (show j<9223372036854775807 by omega)];have hc:(!l[j].cu&&decide (l[j].dep≥0)&&decide (l[j].dep≤l[j].arr)&&decide (IntKind.i64.wrap (l[j].arr-l[j].dep)≤14400))=wlB l[j]:=by grind [wlB,aZ]
  rw[hc];by_cases c:wlB l[j]=true
  ·have c':=c;unfold wlB at c';simp only[amm,asO,cT]at c';have hw:IntKind.i64.wrap (IntKind.i64.wrap (s+l[j].arr)-l[j].dep)=s+(l[j].arr-l[j].dep):=by rw[Xb,Xb];omega
   grind
  grind
 ·unfold zJ;dsimp only;rw[IS (by simp),as9];rfl
end Go.Ab.Tt
