import Derived.Test.YtmbihgjlollbeaaGreatNkP2
namespace Go.Ab.Tt
set_option maxRecDepth 100000
set_option linter.unusedVariables false
set_option linter.unusedSimpArgs false
structure bp where
 cL:Bool
 run:Int
 ea:Int
 bV:Int
 src:Int
 dst:Int
 dep:Int
 arr:Int
 stay:Bool
 deriving DecidableEq
def bp.pv(x:bp):PV:=.agg [.bool x.cL,.int .i64 x.run,.int .i64 x.ea,.int .i64 x.bV,.int .i64 x.src,.int .i64 x.dst,.int .i64 x.dep,.int .i64 x.arr,.bool x.stay]
structure bp.eZ(M:Nat)(x:bp):Prop where
 run:iQ x.run
 ea:iQ x.ea
 bV:iQ x.bV
 src:iQ x.src
 dst:iQ x.dst
 dep:iQ x.dep
 arr:iQ x.arr
abbrev bp.Ok(x:bp):Prop:=x.eZ maxLen
theorem tJ(x:bp):asAgg 9 x.pv=some ():=rfl
theorem ab8(x:bp):PV.agg [cell x.pv 0,cell x.pv 1,cell x.pv 2,cell x.pv 3,cell x.pv 4,cell x.pv 5,cell x.pv 6,cell x.pv 7,cell x.pv 8]=x.pv:=rfl
theorem rX(x:bp):Ab.asBool (cell x.pv 0)=some x.cL:=rfl
theorem sT(x:bp):Ab.asInt .i64 (cell x.pv 1)=some x.run:=rfl
theorem sQ(x:bp):Ab.asInt .i64 (cell x.pv 2)=some x.ea:=rfl
theorem tG(x:bp):Ab.asInt .i64 (cell x.pv 3)=some x.bV:=rfl
theorem sP(x:bp):Ab.asInt .i64 (cell x.pv 4)=some x.src:=rfl
theorem tF(x:bp):Ab.asInt .i64 (cell x.pv 5)=some x.dst:=rfl
theorem sR(x:bp):Ab.asInt .i64 (cell x.pv 6)=some x.dep:=rfl
theorem sS(x:bp):Ab.asInt .i64 (cell x.pv 7)=some x.arr:=rfl
theorem pU(x:bp):Ab.asBool (cell x.pv 8)=some x.stay:=rfl
structure gm where
 src:Int
 dst:Int
 time:Int
 back:Bool
 cB:Int
 walk:Int
 free:Bool
 sO:Bool
 cq:Int
 I4:Bool
 deriving DecidableEq
def gm.pv(x:gm):PV:=.agg [.int .i64 x.src,.int .i64 x.dst,.int .i64 x.time,.bool x.back,.int .i64 x.cB,.int .i64 x.walk,.bool x.free,.bool x.sO,.int .i64 x.cq,.bool x.I4]
structure gm.eZ(M:Nat)(x:gm):Prop where
 src:iQ x.src
 dst:iQ x.dst
 time:iQ x.time
 cB:iQ x.cB
 walk:iQ x.walk
 cq:iQ x.cq
abbrev gm.Ok(x:gm):Prop:=x.eZ maxLen
theorem Sc(x:gm):asAgg 10 x.pv=some ():=rfl
theorem ab5(x:gm):PV.agg [.int .i64 x.src,.int .i64 x.dst,.int .i64 x.time,.bool x.back,.int .i64 x.cB,.int .i64 x.walk,.bool x.free,.bool x.sO,.int .i64 x.cq,.bool x.I4]=x.pv:=rfl
theorem Sd(x:gm):Ab.asInt .i64 (cell x.pv 0)=some x.src:=rfl
theorem Se(x:gm):Ab.asInt .i64 (cell x.pv 1)=some x.dst:=rfl
theorem Sf(x:gm):Ab.asInt .i64 (cell x.pv 2)=some x.time:=rfl
theorem Sg(x:gm):Ab.asBool (cell x.pv 3)=some x.back:=rfl
theorem Si(x:gm):Ab.asInt .i64 (cell x.pv 4)=some x.cB:=rfl
theorem Sj(x:gm):Ab.asInt .i64 (cell x.pv 5)=some x.walk:=rfl
theorem Sk(x:gm):Ab.asBool (cell x.pv 6)=some x.free:=rfl
theorem Sl(x:gm):Ab.asBool (cell x.pv 7)=some x.sO:=rfl
theorem Sn(x:gm):Ab.asInt .i64 (cell x.pv 8)=some x.cq:=rfl
theorem Sq(x:gm):Ab.asBool (cell x.pv 9)=some x.I4:=rfl
def PN(l:List bp):PV:=.agg [.rs 9 (l.map bp.pv)]
theorem jA(l:List bp):asAgg 1 (PN l)=some ():=rfl
theorem j0(l:List bp):aw 9 (cell (PN l) 0)=some (l.map bp.pv):=rfl
theorem jF(l:List bp):PV.agg [.rs 9 (l.map bp.pv)]=PN l:=rfl
structure mW where
 prod:Int
 fst:Int
 lst:Int
 jy:Int
 deriving DecidableEq
def mW.pv(x:mW):PV:=.agg [.int .i64 x.prod,.int .i64 x.fst,.int .i64 x.lst,.int .i64 x.jy]
def gJ(N:ae)(q:gm)(l:List bp)(i:Int):PV:=.agg [.rs 4 (N.stops.map Stop.pv),.rs 3 (N.ar.map aT.pv),.rs 8 (N.runs.map ec.pv),.rs 5 (N.bj.map bA.pv),.rs 4 (N.paths.map Path.pv),.rs 6 (N.ba.map aV.pv),.int .i64 N.bY,.int .i64 N.within,.int .i64 N.cap,.int .i64 q.src,.int .i64 q.dst,.int .i64 q.time,.bool q.back,.int .i64 q.cB,.int .i64 q.walk,.bool q.free,.bool q.sO,.int .i64 q.cq,.bool q.I4,.rs 9 (l.map bp.pv),.int .i64 i]
section
variable (N:ae) (q:gm) (l:List bp) (i:Int)
theorem JV:asAgg 21 (gJ N q l i)=some ():=rfl
theorem N0:PV.agg [.rs 4 (N.stops.map Stop.pv),.rs 3 (N.ar.map aT.pv),.rs 8 (N.runs.map ec.pv),.rs 5 (N.bj.map bA.pv),.rs 4 (N.paths.map Path.pv),.rs 6 (N.ba.map aV.pv),.int .i64 N.bY,.int .i64 N.within,.int .i64 N.cap,.int .i64 q.src,.int .i64 q.dst,.int .i64 q.time,.bool q.back,.int .i64 q.cB,.int .i64 q.walk,.bool q.free,.bool q.sO,.int .i64 q.cq,.bool q.I4,.rs 9 (l.map bp.pv),.int .i64 i]=gJ N q l i:=rfl
theorem JW:aw 4 (cell (gJ N q l i) 0)=some (N.stops.map Stop.pv):=rfl
theorem JX:aw 3 (cell (gJ N q l i) 1)=some (N.ar.map aT.pv):=rfl
theorem JY:aw 8 (cell (gJ N q l i) 2)=some (N.runs.map ec.pv):=rfl
theorem JZ:aw 5 (cell (gJ N q l i) 3)=some (N.bj.map bA.pv):=rfl
theorem J0:aw 4 (cell (gJ N q l i) 4)=some (N.paths.map Path.pv):=rfl
theorem J1:aw 6 (cell (gJ N q l i) 5)=some (N.ba.map aV.pv):=rfl
theorem J2:Ab.asInt .i64 (cell (gJ N q l i) 6)=some N.bY:=rfl
theorem J3:Ab.asInt .i64 (cell (gJ N q l i) 7)=some N.within:=rfl
theorem J4:Ab.asInt .i64 (cell (gJ N q l i) 8)=some N.cap:=rfl
theorem J5:Ab.asInt .i64 (cell (gJ N q l i) 9)=some q.src:=rfl
theorem wj:Ab.asInt .i64 (cell (gJ N q l i) 10)=some q.dst:=rfl
theorem wm:Ab.asInt .i64 (cell (gJ N q l i) 11)=some q.time:=rfl
theorem wo:Ab.asBool (cell (gJ N q l i) 12)=some q.back:=rfl
theorem wq:Ab.asInt .i64 (cell (gJ N q l i) 13)=some q.cB:=rfl
theorem wu:Ab.asInt .i64 (cell (gJ N q l i) 14)=some q.walk:=rfl
theorem wv:Ab.asBool (cell (gJ N q l i) 15)=some q.free:=rfl
theorem wx:Ab.asBool (cell (gJ N q l i) 16)=some q.sO:=rfl
theorem wy:Ab.asInt .i64 (cell (gJ N q l i) 17)=some q.cq:=rfl
theorem wz:Ab.asBool (cell (gJ N q l i) 18)=some q.I4:=rfl
theorem wA:aw 9 (cell (gJ N q l i) 19)=some (l.map bp.pv):=rfl
theorem wB:Ab.asInt .i64 (cell (gJ N q l i) 20)=some i:=rfl
end
theorem aI(n:Int):Ab.asInt .i64 (.int .i64 n)=some n:=rfl
theorem aB(b:Bool):Ab.asBool (.bool b)=some b:=rfl
theorem aS(n:Nat)(l:List PV):Ab.aw n (.rs n l)=some l:=by simp[aw]
theorem Vx{A:Type}(f:A→PV)(l:List A)(i:Int):fM (l.map f) i=(if 0≤i then l[i.toNat]? else none).map f:=by unfold fM;grind
theorem bN{A:Type}(f:A→PV)(l:List A)(k:Nat)(hk:k<l.length):fM (l.map f) (k:Int)=some (f l[k]):=by rw[aN,IN,cO hk];rfl
theorem FD{n:Nat}(h:n≤9223372036854775807):IntKind.i64.wrap ((n:Int)-1)=(n:Int)-1:=aY (by omega) (by omega)
def Fu(n a b:Int):Bool:=decide (n≥a)&&decide (n≤b)
theorem Aa(n a b:Int):bk [.int .i64 n,.int .i64 a,.int .i64 b]=some (.bool (Fu n a b)):=by simp[bk,pW,aI,aa,bE,Fu]
def qOk(n:Int)(q:gm):Bool:=Fu q.src 0 (n-1)&&Fu q.dst 0 (n-1)&&Fu q.time 0 3155932800&&Fu q.cB 0 8&&Fu q.walk 0 86400&&Fu q.cq 0 255&& !(q.I4&&q.back)
def FE(N:ae)(q:gm):Int:=if(vt N).2.2=0 then(if qOk N.stops.length q=true then 0 else 22)else 21
theorem ZC(N:ae)(q:gm)(h:N.Ok)(hp:N.paths.length≤4096):dg [N.pv,q.pv]=some (.int .i64 (FE N q)):=by have hm:=aQ;have hs:=h.stops.1;simp only[dg,gQ,A8,A9,Ba,Bb,Bc,Bd,Be,Bf,Bg,Bh,Sc,Sd,Se,Sf,Sg,Si,Sj,Sk,Sl,Sn,Sq,aa,La,zZ N h hp];simp only[xx,dq,ajj,ajs,IS,aa,ajf,ajh,aI,BY,FD (ajQ hs hm),Aa,aB,bE,bh];unfold FE qOk;grind
structure wh(N:ae):Prop where
 ok:N.Ok
 paths:N.paths.length≤4096
 res:(vt N).2.2=0
variable{N:ae}
theorem wh.parts(h:wh N):(kU N.stops).2=0∧(kv N.ar).2=0∧(kV N.ba N.bY N.within N.cap).2=0:=by have h:=h.res;unfold vt at h;grind
theorem wh.stop(h:wh N):∀s∈N.stops,0≤s.Bj∧s.Bj<16∧0≤s.change∧s.change≤3600:=by
 intro s hs;obtain⟨k,hk,rfl⟩:=akq hs;have h1:=h.parts.1;unfold kU at h1;split at h1
 ·omega
 ·have:=(oI _ _).1 h1 k hk;unfold Jj at this;grind
theorem wh.fh(h:wh N):∀s∈N.ar,0≤s.mode∧s.mode<8:=by
 intro s hs;obtain⟨k,hk,rfl⟩:=akq hs;have h1:=h.parts.2.1;unfold kv at h1;split at h1
 ·omega
 ·have:=(oI _ _).1 h1 k hk;unfold FF at this;grind
theorem wh.run(h:wh N):∀r∈N.runs,∃t,N.ar[r.fh.toNat]?=some t∧0≤r.fh∧t∈N.ar:=by
 intro r hr;obtain⟨k,hk,rfl⟩:=akq hr;have:=FG h.res k hk;unfold pX at this;rw[cO hk]at this;simp only at this;split at this
 ·omega
 ·split at this
  ·omega
  ·split at this
   ·omega
   ·split at this
    ·omega
    simp_all
theorem wh.call(h:wh N):∀r∈N.runs,∀c∈r.calls,∃s,N.stops[c.stop.toNat]?=some s∧0≤c.stop∧s∈N.stops:=by
 intro r hr c hc;obtain⟨k,hk,rfl⟩:=akq hc;have:=Lh (Df h.res r hr) k hk;unfold vv at this;rw[cO hk]at this;simp only at this;unfold HO at this;split at this
 ·omega
 simp_all
theorem bI{A:Type}(f:A→PV){l:List A}{i:Int}{a:A}(h0:0≤i)(h:l[i.toNat]?=some a):fM (l.map f) i=some (f a):=by rw[Vx,GW h0,h];rfl
def tE(N:ae)(x:bp):Option ec:=if 0≤x.run then N.runs[x.run.toNat]? else none
def exB(N:ae)(x:bp):Bool:=match tE N x with
 |some r=>decide (x.ea≥0)&&decide (x.ea<x.bV)&&decide (x.bV<(r.calls.length:Int))
 |none=>false
structure tK(N:ae)(x:bp)(r:ec)(t:aT)(a b:aR):Prop where
 run:N.runs[x.run.toNat]?=some r
 wg:0≤x.run
 fh:N.ar[r.fh.toNat]?=some t
 N1:0≤r.fh
 ea:r.calls[x.ea.toNat]?=some a
 ND:0≤x.ea
 bV:r.calls[x.bV.toNat]?=some b
 PQ:0≤x.bV
 lt:x.ea<x.bV
 mem:r∈N.runs
 tm:t∈N.ar
theorem zX(h:wh N){x:bp}(hx:exB N x=true):∃r t a b,tK N x r t a b:=by
 unfold exB at hx;cases hr:tE N x with
 |none=>rw[hr]at hx;cases hx
 |some r=>
  rw[hr]at hx;simp only[OF,AT]at hx;unfold tE at hr;split at hr
  ·rename_i h0;have hm:=agx hr;obtain⟨t,t1,t2,t3⟩:=h.run r hm;have ha:x.ea.toNat<r.calls.length:=by omega
   have hb:x.bV.toNat<r.calls.length:=by omega
   exact⟨r,t,_,_,⟨hr,h0,t1,t2,cO ha,by omega,cO hb,by omega,by omega,hm,t3⟩⟩
  ·cases hr
section
variable {N:ae} {q:gm} {l:List bp} {k:Nat}
theorem pY(hk:k<l.length):aF [gJ N q l k]=some l[k].pv:=by simp only[aF,kx,JV,JW,JX,JY,JZ,J0,J1,J2,J3,J4,J5,wj,wm,wo,wq,wu,wv,wx,wy,wz,wA,wB,aa,bN bp.pv l k hk,ab8]
theorem Jk(hk:k+1<l.length)(hl:l.length≤maxLen):bQ [gJ N q l ((k+1:Nat):Int)]=some l[k].pv:=by have hm:=aQ;simp only[bQ,gh,JV,JW,JX,JY,JZ,J0,J1,J2,J3,J4,J5,wj,wm,wo,wq,wu,wv,wx,wy,wz,wA,wB,aa,oG k (by omega),bN bp.pv l k (by omega),ab8]
theorem aaQ(x:aR):PV.agg [cell x.pv 0,cell x.pv 1,cell x.pv 2,cell x.pv 3,cell x.pv 4]=x.pv:=rfl
theorem aaR(x:aR):asAgg 5 x.pv=some ():=rfl
theorem Vy(hk:k<l.length){r:ec}{t:aT}{a b:aR}(h:tK N l[k] r t a b):eo [gJ N q l k]=some a.pv:=by simp only[eo,jf,JV,JW,JX,JY,JZ,J0,J1,J2,J3,J4,J5,wj,wm,wo,wq,wu,wv,wx,wy,wz,wA,wB,aa,N0,pY hk,tJ,rX,sT,sQ,tG,sP,tF,sR,sS,pU,bI ec.pv h.wg h.run,I2,aS,bI aR.pv h.ND h.ea,aaQ]
theorem HP(hk:k<l.length){r:ec}{t:aT}{a b:aR}(h:tK N l[k] r t a b):cS [gJ N q l k]=some b.pv:=by simp only[cS,iE,JV,JW,JX,JY,JZ,J0,J1,J2,J3,J4,J5,wj,wm,wo,wq,wu,wv,wx,wy,wz,wA,wB,aa,N0,pY hk,tJ,rX,sT,sQ,tG,sP,tF,sR,sS,pU,bI ec.pv h.wg h.run,I2,aS,bI aR.pv h.PQ h.bV,aaQ]
end
theorem Bk{S R X:Type}{body:S→(S→Option R)→Option R}(st:Nat→X→S)(G:Nat→X→Option R)(n:Nat)(h:∀k,k<n→∀e rec,(∀e',rec (st (k+1) e')=G (k+1) e')→body (st k e) rec=G k e)(rr:∀e rec,body (st n e) rec=G n e)(hn:n<rounds)(e:X){s0:S}(h0:st 0 e=s0):bn.run body s0=G 0 e:=by
 have key:∀(m j N:Nat)(e:X),j+m=n→m<N→cA body N (st j e)=G j e:=by
  intro m;induction m with
  |zero=>
   intro j N e hj hN;cases N with
   |zero=>omega
   |succ N=>simp_all[cA]
  |succ m ih=>
   intro j N e hj hN;cases N with
   |zero=>omega
   |succ N=>grind [cA]
 grind [nd,rounds]
theorem vw{A:Type}{l:List A}{k:Nat}(h:k<l.length):l.drop k=l[k]::l.drop (k+1):=aj8 h
def Vz(N:ae)(x:bp):Bool:= !Fu x.src 0 ((N.stops.length:Int)-1)|| !Fu x.dst 0 ((N.stops.length:Int)-1)||(if x.cL=true then !exB N x else(x.run !=0||x.ea !=0||x.bV !=0||x.stay))
def I6(x:bp):Bool:= !Fu x.dep 0 3155932800|| !Fu x.arr 0 3155932800
def wkB(x:bp)(p:Path):Bool:=decide (p.a=x.src)&&decide (p.b=x.dst)&&decide (p.jx=IntKind.i64.wrap (x.arr-x.dep))
def wk(q:gm)(x:bp):List Path→Int→Int
 |[],e=>e
 |p::r,e=>if wkB x p=true then(if(p.free|| !q.free)=true then 0 else wk q x r 29)else wk q x r e
def PR(N:ae)(q:gm)(i:Int):Bool:= !q.free||(match N.stops[i.toNat]? with|some s=>s.free|none=>false)
def aaS(q:gm)(t:aT):Bool:=q.cq !=0&&IntKind.i64.wrap (↑(BitVec.ofInt IntKind.i64.bits (q.cq.fdiv (2^min t.mode.toNat IntKind.i64.bits))&&&BitVec.ofInt IntKind.i64.bits 1).toNat:Int)==0
def PS(N:ae)(q:gm)(x:bp)(r:ec)(t:aT)(a b:aR):Int:=
 if(a.stop !=x.src||b.stop !=x.dst)=true then 24 else if(a.dep !=x.dep||b.arr !=x.arr)=true then 10 else if r.ab9=true then 27
 else if(q.free&& !r.free)=true then 29 else if(q.sO&& !t.sO)=true then 30 else if aaS q t=true then 31
 else if(!x.stay&& !a.ea)=true then 25 else if(!x.stay&& !PR N q x.src)=true then 29 else 0
def VA(N:ae)(q:gm)(x:bp):Int:=match tE N x with
 |some r=>match N.ar[r.fh.toNat]?,r.calls[x.ea.toNat]?,r.calls[x.bV.toNat]? with
  |some t,some a,some b=>PS N q x r t a b
  |_,_,_=>0
 |none=>0
theorem VB{N:ae}{q:gm}{x:bp}{r:ec}{t:aT}{a b:aR}(h:tK N x r t a b):VA N q x=PS N q x r t a b:=by unfold VA tE;rw[GW h.wg,h.run];simp only[h.fh,h.ea,h.bV]
def rW(N:ae)(q:gm)(x:bp):Int:=if Vz N x=true then 9 else if I6 x=true then 10 else if x.cL=true then VA N q x else wk q x N.paths 18
section
variable {N:ae} {q:gm} {l:List bp} {k:Nat}
theorem VC(h:wh N):N.stops.length≤64:=HQ h.parts.1
theorem ZD(h:wh N)(hk:k<l.length):db [gJ N q l k]=some (.int .i64 (if Vz N l[k]=true then 9 else 0)):=by
 have hs:=VC h;simp only[db,fq,JV,JW,JX,JY,JZ,J0,J1,J2,J3,J4,J5,wj,wm,wo,wq,wu,wv,wx,wy,wz,wA,wB,aa,N0,pY hk,tJ,rX,sT,sQ,tG,sP,tF,sR,sS,pU,BY,FD (show N.stops.length≤9223372036854775807 by omega),Aa,aB,bh,bE];unfold Vz;cases pR:(!Fu l[k].src 0 ((N.stops.length:Int)-1)|| !Fu l[k].dst 0 ((N.stops.length:Int)-1))with
 |true=>rfl
 |false=>
  rw[No (by simp)];simp only[akr];cases hr:l[k].cL with
  |false=>grind
  |true=>
   simp only[aji,cond_false,aa,cQ,S3,cond_true,IS];have hrl:N.runs.length≤9223372036854775807:=ajQ h.ok.runs.1 aQ;rw[FD hrl];unfold exB tE;by_cases h0:0≤l[k].run
   ·by_cases h1:l[k].run.toNat<N.runs.length
    ·have hb:Fu l[k].run 0 ((N.runs.length:Int)-1)=true:=by simp[Fu];omega
     rw[hb,GW h0,cO h1,bI ec.pv h0 (cO h1)];simp only[aa,I2,aS,BY,aji,akr,cond_false];grind
    ·have hb:Fu l[k].run 0 ((N.runs.length:Int)-1)=false:=by simp[Fu];omega
     simp_all
   ·have hb:Fu l[k].run 0 ((N.runs.length:Int)-1)=false:=by simp[Fu];omega
    rw[hb,No h0];rfl
theorem ZE(hk:k<l.length):dK [gJ N q l k]=some (.int .i64 (if I6 l[k]=true then 10 else 0)):=by simp only[dK,gK,JV,JW,JX,JY,JZ,J0,J1,J2,J3,J4,J5,wj,wm,wo,wq,wu,wv,wx,wy,wz,wA,wB,aa,N0,pY hk,tJ,rX,sT,sQ,tG,sP,tF,sR,sS,pU,Aa,aB,bh];unfold I6;grind
theorem PT(i:Int)(s:Stop)(h0:0≤i)(hs:N.stops[i.toNat]?=some s)(c:Int):dB [gJ N q l c,.int .i64 i]=some (.bool (PR N q i)):=by simp only[dB,jH,JV,JW,JX,JY,JZ,J0,J1,J2,J3,J4,J5,wj,wm,wo,wq,wu,wv,wx,wy,wz,wA,wB,aa,aI,bI Stop.pv h0 hs];unfold PR;rw[hs];cases q.free<;>rfl
end
theorem Pz(q:gm)(x:bp)(p:Path)(r:List Path)(e:Int):wk q x (p::r) e=if wkB x p=true then(if(p.free|| !q.free)=true then 0 else wk q x r 29)else wk q x r e:=rfl
section
variable {N:ae} {q:gm} {l:List bp} {k:Nat}
theorem ZF(h:wh N)(hk:k<l.length):eP [gJ N q l k]=some (.int .i64 (if l[k].cL=true then 0 else wk q l[k] N.paths 18)):=by
 have hp:=h.paths;simp only[eP,jI,JV,JW,JX,JY,JZ,J0,J1,J2,J3,J4,J5,wj,wm,wo,wq,wu,wv,wx,wy,wz,wA,wB,aa,N0,pY hk,tJ,rX,sT,sQ,tG,sP,tF,sR,sS,pU,BY];by_cases hr:l[k].cL=true
 ·simp_all
 ·rw[No hr,No hr];refine Bk (fun j e=>(e,N.paths.map Path.pv,(N.paths.length:Int),(j:Int),N.stops.map Stop.pv,N.ar.map aT.pv,N.runs.map ec.pv,N.bj.map bA.pv,N.paths.map Path.pv,N.ba.map aV.pv,N.bY,N.within,N.cap,q.src,q.dst,q.time,q.back,q.cB,q.walk,q.free,q.sO,q.cq,q.I4,l.map bp.pv,(k:Int),cell l[k].pv 0,cell l[k].pv 1,cell l[k].pv 2,cell l[k].pv 3,cell l[k].pv 4,cell l[k].pv 5,cell l[k].pv 6,cell l[k].pv 7,cell l[k].pv 8,())) (fun j e=>some (PV.int .i64 (wk q l[k] (N.paths.drop j) e))) N.paths.length (fun j hj e rec qL=>?_) (fun e rec=>?_) (by unfold rounds;omega) 18 rfl
  ·unfold gL;dsimp only;have aiT:∀e',_:=qL;rw[GW (by simp;omega),bN Path.pv N.paths j hj];simp only[aa,PU,PW,PX,PY,aI,aB,tJ,rX,sT,sQ,tG,sP,tF,sR,sS,pU,bE,bh,al (show j<9223372036854775807 by omega),qL];rw[vw hj,show(N.paths[j].a==l[k].src&&N.paths[j].b==l[k].dst&&N.paths[j].jx==IntKind.i64.wrap (l[k].arr-l[k].dep))=wkB l[k] N.paths[j] by rfl];grind [Pz,wkB]
  ·unfold gL;dsimp only;rw[No (by simp),akP];rfl
theorem NA(x:aR):Ab.asInt .i64 (cell x.pv 0)=some x.stop:=rfl
theorem aca(x:aR):Ab.asInt .i64 (cell x.pv 1)=some x.arr:=rfl
theorem U9(x:aR):Ab.asInt .i64 (cell x.pv 2)=some x.dep:=rfl
theorem acb(x:aR):Ab.asBool (cell x.pv 3)=some x.ea:=rfl
theorem acd(x:aR):Ab.asBool (cell x.pv 4)=some x.bV:=rfl
theorem Jl(x:aT):Ab.asInt .i64 (cell x.pv 1)=some x.mode:=rfl
theorem ZG(x:aT):Ab.asBool (cell x.pv 2)=some x.sO:=rfl
theorem ifI(c:Prop)[Decidable c](a b:Int):some (PV.int .i64 (if c then a else b))=if c then some (PV.int .i64 a)else some (PV.int .i64 b):=by split<;>rfl
theorem ZH(h:wh N)(hk:k<l.length)(hr:l[k].cL=true){r:ec}{t:aT}{a b:aR}(hx:tK N l[k] r t a b){s:Stop}(hs:N.stops[l[k].src.toNat]?=some s)(PD:0≤l[k].src):cC [gJ N q l k]=some (.int .i64 (PS N q l[k] r t a b)):=by have hm:=(h.fh t hx.tm).1;simp only[cC,gd,JV,JW,JX,JY,JZ,J0,J1,J2,J3,J4,J5,wj,wm,wo,wq,wu,wv,wx,wy,wz,wA,wB,aa,N0,pY hk,tJ,rX,sT,sQ,tG,sP,tF,sR,sS,pU,hr,aji,cQ,S3,bI ec.pv hx.wg hx.run,RZ,abX,abY,aI,aB,bI aT.pv hx.N1 hx.fh,Vy hk hx,HP hk hx,aaR,NA,aca,U9,acb,Jl,ZG,bh,bE,PT _ s PD hs];rw[No (show¬t.mode<0 by omega)];simp[bE,aa,PS,aaS,ifI]
end
section
variable {N:ae} {q:gm} {l:List bp} {k:Nat}
theorem VD(hk:k<l.length)(hr:l[k].cL=false):cC [gJ N q l k]=some (.int .i64 0):=by simp only[cC,gd,JV,JW,JX,JY,JZ,J0,J1,J2,J3,J4,J5,wj,wm,wo,wq,wu,wv,wx,wy,wz,wA,wB,aa,N0,pY hk,tJ,rX,sT,sQ,tG,sP,tF,sR,sS,pU,hr,ajC,IS]
theorem pT{x:bp}(h:Vz N x=false):(∃s,N.stops[x.src.toNat]?=some s∧0≤x.src∧s∈N.stops)∧(∃s,N.stops[x.dst.toNat]?=some s∧0≤x.dst∧s∈N.stops)∧(x.cL=true→exB N x=true)∧(x.cL=false→x.stay=false):=by
 unfold Vz at h;simp only[ajT,akg,Fu,OF,AT]at h;obtain⟨⟨⟨a1,a2⟩,b1,b2⟩,c⟩:=h;have h1:x.src.toNat<N.stops.length:=by omega
 have h2:x.dst.toNat<N.stops.length:=by omega
 refine⟨⟨_,cO h1,by omega,ajm h1⟩,⟨_,cO h2,by omega,ajm h2⟩,fun hr=>?_,fun hr=>?_⟩
 ·simp_all
 simp_all
theorem ace(h:wh N)(hk:k<l.length):fu [gJ N q l k]=some (.int .i64 (rW N q l[k])):=by
 simp only[fu,ky,JV,JW,JX,JY,JZ,J0,J1,J2,J3,J4,J5,wj,wm,wo,wq,wu,wv,wx,wy,wz,wA,wB,aa,N0,ZD h hk,aI];unfold rW;cases hl:Vz N l[k]with
 |true=>rfl
 |false=>
  obtain⟨⟨s,hs,PD,_⟩,_,hx,uf⟩:=pT hl;simp only[cQ,S3,ZE hk,aa,aI];rw[No (by simp)];cases hmo:I6 l[k]with
  |true=>rfl
  |false=>
   simp only[cQ,S3,ZF h hk,aa,aI];rw[No (by simp)];cases hr:l[k].cL with
   |true=>obtain⟨r,t,a,b,pB⟩:=zX h (hx hr);simp only[IS,ZH h hk hr pB hs PD,aa,aI,VB pB];simp_all
   |false=>simp only[cQ,S3,VD hk hr,aa,aI];simp_all
end
def lkB(a b:bp)(stay:Bool)(k:bA):Bool:=(k.a==a.run)&&(k.ac==a.bV)&&(k.b==b.run)&&(k.bc==b.ea)&&(k.stay==stay)
def Da(N:ae)(a b:bp)(stay:Bool):Bool:=N.bj.any (lkB a b stay)
def Db(N:ae)(i:Int):Int:=match N.stops[i.toNat]? with|some s=>s.change|none=>0
def Ck(N:ae)(q:gm)(l:List bp)(x:bp):Int:=
 if(x.src !=q.src)=true then 24 else if x.stay=true then 19
 else if(!x.cL&&(match l[1]? with|some y=>y.cL&&y.dep !=x.arr|none=>false))=true then 10
 else if(!x.cL&&decide (l.length=1)&&(if q.back=true then x.arr !=q.time else x.dep !=q.time))=true then 10
 else if(!q.back&&decide (x.dep<q.time))=true then 10
 else if(!q.back&&q.I4&&x.cL&&decide (x.dep<IntKind.i64.wrap (q.time+Db N q.src)))=true then 28 else 0
def zr(N:ae)(a b:bp):Int:=
 if(b.src !=a.dst)=true then 24 else if(!a.cL&& !b.cL)=true then 32 else if(b.stay&&(!a.cL|| !Da N a b true))=true then 19
 else if(b.stay&&decide (b.dep<a.arr))=true then 10 else if(!b.cL&&b.dep !=a.arr)=true then 10 else 0
def yL(N:ae)(a b:bp):Int:=
 if(!b.cL||b.stay)=true then 0 else if(!a.cL)=true then(if decide (b.dep<a.arr)=true then 28 else 0)
 else if(decide (b.dep≥IntKind.i64.wrap (a.arr+Db N b.src))||(decide (b.dep≥a.arr)&&Da N a b false))=true then 0 else 28
def alB(N:ae)(x:bp):Bool:=match tE N x with
 |some r=>(match r.calls[x.bV.toNat]? with|some b=>b.bV|none=>false)
 |none=>false
def N2(N:ae)(q:gm)(l:List bp)(k:Nat)(x:bp):Int:=if(!x.cL||(match l[k+1]? with|some y=>y.stay|none=>false))=true then 0 else if(!alB N x)=true then 26 else if(!PR N q x.dst)=true then 29 else 0
def nq(N:ae)(q:gm)(l:List bp)(k:Nat):Int:=match l[k]? with
 |none=>0
 |some x=>if rW N q x=0 then
   (let e:=if k=0 then Ck N q l x else match l[k-1]? with
    |some a=>if zr N a x=0 then yL N a x else zr N a x
    |none=>0
   if e=0 then N2 N q l k x else e)
  else rW N q x
section
variable {N:ae} {q:gm} {l:List bp} {k:Nat}
theorem HR(h:wh N)(hk:k+1<l.length)(hl:l.length≤maxLen)(st:Bool):cU [gJ N q l ((k+1:Nat):Int),.bool st]=some (.bool (Da N l[k] l[k+1] st)):=by
 have hm:=aQ;have hr:=bu;have Rl:=h.ok.bj.1;simp only[cU,iF,JV,JW,JX,JY,JZ,J0,J1,J2,J3,J4,J5,wj,wm,wo,wq,wu,wv,wx,wy,wz,wA,wB,aa,N0,aB,Jk hk hl,pY hk,tJ,BY];refine Bk (fun j(_:Unit)=>(st,N.bj.map bA.pv,(N.bj.length:Int),(j:Int),cell l[k].pv 0,cell l[k].pv 1,cell l[k].pv 2,cell l[k].pv 3,cell l[k].pv 4,cell l[k].pv 5,cell l[k].pv 6,cell l[k].pv 7,cell l[k].pv 8,cell l[k+1].pv 0,cell l[k+1].pv 1,cell l[k+1].pv 2,cell l[k+1].pv 3,cell l[k+1].pv 4,cell l[k+1].pv 5,cell l[k+1].pv 6,cell l[k+1].pv 7,cell l[k+1].pv 8,())) (fun j _=>some (PV.bool ((N.bj.drop j).any (lkB l[k] l[k+1] st)))) N.bj.length (fun j hj e rec qL=>?_) (fun e rec=>?_) (by omega) () rfl
 ·unfold fT;dsimp only;rw[GW (by simp;omega),bN bA.pv N.bj j hj];simp only[aa,aaT,aaU,link2,aaV,aaW,aI,aB,tJ,rX,sT,sQ,tG,sP,tF,sR,sS,pU,bE,al (show j<9223372036854775807 by omega),qL ()];rw[vw hj,alb];have hc:(N.bj[j].stay==st&&N.bj[j].a==l[k].run&&N.bj[j].ac==l[k].bV&&N.bj[j].b==l[k+1].run&&N.bj[j].bc==l[k+1].ea)=lkB l[k] l[k+1] st N.bj[j]:=by unfold lkB;grind
  grind
 ·unfold fT;simp
end
theorem NC(x:Stop):Ab.asInt .i64 (cell x.pv 3)=some x.change:=rfl
theorem Li{A:Type}(f:A→PV)(l:List A)(k:Nat):fM (l.map f) (k:Int)=(l[k]?).map f:=by rw[aN,IN]
section
variable {N:ae} {q:gm} {l:List bp} {k:Nat}
theorem I7{i:Int}{s:Stop}(hs:N.stops[i.toNat]?=some s):Db N i=s.change:=by unfold Db;rw[hs]
theorem VE(l:List bp):fM (l.map bp.pv) 1=(l[1]?).map bp.pv:=Li bp.pv l 1
theorem St(hk:0<k):cp [gJ N q l k]=some (.int .i64 0):=by simp only[cp,fv,JV,JW,JX,JY,JZ,J0,J1,J2,J3,J4,J5,wj,wm,wo,wq,wu,wv,wx,wy,wz,wA,wB,aa];simp_all
theorem VF(hk:0<l.length)(hl:Vz N l[0]=false):cp [gJ N q l ((0:Nat):Int)]=some (.int .i64 (Ck N q l l[0])):=by
 obtain⟨⟨s,hs,PD,_⟩,_⟩:=pT hl;simp only[cp,fv,JV,JW,JX,JY,JZ,J0,J1,J2,J3,J4,J5,wj,wm,wo,wq,wu,wv,wx,wy,wz,wA,wB,aa,N0,pY hk,tJ,rX,sT,sQ,tG,sP,tF,sR,sS,pU,BY,VE,bE,bh,jw];rw[No (by simp)];unfold Ck;simp only[ifI];by_cases hc:l[0].src=q.src
 ·rw[←hc,bI Stop.pv PD hs,I7 hs];simp only[aa,NC,bne_self_eq_false,cQ,S3];have h1:(decide ((l.length:Int)=1))=decide (l.length=1):=by grind
  rw[h1];cases uf:l[0].stay with
  |true=>rfl
  |false=>
   simp only[cQ,S3];cases h2:l[1]? with
   |none=>
    have hlen:l.length=1:=by grind
    simp only[hlen,ajx,aji,bE,aa,Bool.and_false,cond_false,Option.map_none,akw];grind
   |some y=>
    have hlen:¬l.length=1:=by grind
    simp only[hlen,ajz,ajC,bE,aa,akw,Bool.and_false,ajg,tJ,rX,sT,sQ,tG,sP,tF,sR,sS,pU,cond_false];grind
 simp_all
theorem VG:dC [gJ N q l ((0:Nat):Int)]=some (.int .i64 0):=by rfl
theorem ZI(h:wh N)(hk:k+1<l.length)(hl:l.length≤maxLen):dC [gJ N q l ((k+1:Nat):Int)]=some (.int .i64 (zr N l[k] l[k+1])):=by simp only[dC,jJ,JV,JW,JX,JY,JZ,J0,J1,J2,J3,J4,J5,wj,wm,wo,wq,wu,wv,wx,wy,wz,wA,wB,aa,N0,Jk hk hl,pY hk,tJ,rX,sT,sQ,tG,sP,tF,sR,sS,pU,HR h hk hl,aB,bE,bh];rw[No (by simp;omega)];unfold zr;simp only[ifI]
theorem N3:cV [gJ N q l ((0:Nat):Int)]=some (.int .i64 0):=by rfl
theorem Su(h:wh N)(hk:k+1<l.length)(hl:l.length≤maxLen)(hs:Vz N l[k+1]=false):cV [gJ N q l ((k+1:Nat):Int)]=some (.int .i64 (yL N l[k] l[k+1])):=by
 obtain⟨⟨s,hs,PD,_⟩,_⟩:=pT hs;simp only[cV,iG,JV,JW,JX,JY,JZ,J0,J1,J2,J3,J4,J5,wj,wm,wo,wq,wu,wv,wx,wy,wz,wA,wB,aa,N0,Jk hk hl,pY hk,tJ,rX,sT,sQ,tG,sP,tF,sR,sS,pU,HR h hk hl,aB,bE,bh,bI Stop.pv PD hs,NC];have h0:(((k+1:Nat):Int)==0)=false:=by rfl
 rw[h0];unfold yL;simp only[ifI,I7 hs,G7,ajC,cond_true];grind
theorem Lj(h:wh N)(hk:k<l.length)(hl:l.length≤maxLen)(hs:Vz N l[k]=false):ep [gJ N q l k]=some (.int .i64 (N2 N q l k l[k])):=by
 have hm:=aQ;obtain⟨_,⟨s,hs,PD,_⟩,hx,_⟩:=pT hs;simp only[ep,jg,JV,JW,JX,JY,JZ,J0,J1,J2,J3,J4,J5,wj,wm,wo,wq,wu,wv,wx,wy,wz,wA,wB,aa,N0,pY hk,tJ,rX,sT,sQ,tG,sP,tF,sR,sS,pU,BY,al (show k<9223372036854775807 by omega),Li];unfold N2;cases hr:l[k].cL with
 |false=>rfl
 |true=>
  obtain⟨r,t,a,b,pB⟩:=zX h (hx hr);have MA:alB N l[k]=b.bV:=by unfold alB tE;rw[GW pB.wg,pB.run];simp only[pB.bV]
  have uf:(bif decide (((k+1:Nat):Int)<(l.length:Int))then(Option.map bp.pv l[k+1]?).bind fun p=>(Ab.asBool (cell p 8)).bind fun b=>some b else some false)=some (match l[k+1]? with|some y=>y.stay|none=>false):=by
   by_cases bT:k+1<l.length
   ·rw[cO bT];simp only[ajg,aa,pU];grind
   grind
  simp only[aji,akr,cond_false,uf,aa,HP hk pB,aaR,acd,aI,PT _ s PD hs,aB,MA,ifI]<;>rfl
theorem VH(h:wh N)(hk:k<l.length)(hl:l.length≤maxLen):er [gJ N q l k]=some (.int .i64 (nq N q l k)):=by
 simp only[er,jh,JV,JW,JX,JY,JZ,J0,J1,J2,J3,J4,J5,wj,wm,wo,wq,wu,wv,wx,wy,wz,wA,wB,aa,N0,ace h hk,aI];unfold nq;rw[cO hk];simp only;by_cases h0:rW N q l[k]=0
 ·have Yo:Vz N l[k]=false:=by unfold rW at h0;grind
  rw[No (by simp[h0]),GW h0];cases k with
  |zero=>simp only[VF hk Yo,aa,aI,VG,N3,Lj h hk hl Yo,IS];grind
  |succ k=>
   have Aq:l[k+1-1]?=some l[k]:=by simp
   simp only[St (N:=N) (q:=q) (l:=l) (Nat.succ_pos k),aa,aI,ZI h hk hl,Su h hk hl Yo,Lj h hk hl Yo,Aq];grind
 simp_all
end
section
variable {N:ae} {q:gm} {l:List bp} {k:Nat}
end
theorem Bl{S R X:Type}{body:S→(S→Option R)→Option R}(st:Nat→X→S)(G:Nat→X→Option R)(I:Nat→X→Prop)(n:Nat)(h:∀k,k<n→∀e rec,I k e→(∀e',I (k+1) e'→rec (st (k+1) e')=G (k+1) e')→body (st k e) rec=G k e)(rr:∀e rec,I n e→body (st n e) rec=G n e)(hn:n<rounds)(e:X)(he:I 0 e){s0:S}(h0:st 0 e=s0):bn.run body s0=G 0 e:=by
 have key:∀(m j N:Nat)(e:X),j+m=n→m<N→I j e→cA body N (st j e)=G j e:=by
  intro m;induction m with
  |zero=>
   intro j N e hj hN hi;cases N with
   |zero=>omega
   |succ N=>simp_all[cA]
  |succ m ih=>
   intro j N e hj hN hi;cases N with
   |zero=>omega
   |succ N=>grind [cA]
 grind [nd,rounds]
def N4(f:Nat→Int):Nat→Nat→Nat
 |0,k=>k
 |m+1,k=>if f k=0 then N4 f m (k+1)else k
theorem VI(f:Nat→Int){n j:Nat}(h:j<n):N4 f (n-j) j=if f j=0 then N4 f (n-(j+1)) (j+1)else j:=by
 have:n-j=(n-(j+1))+1:=by omega
 rw[this];rfl
theorem Lk(f:Nat→Int):∀m k,k≤N4 f m k∧N4 f m k≤k+m∧(N4 f m k<k+m→f (N4 f m k)≠0)∧∀j,k≤j→j<N4 f m k→f j=0
 |0,k=>⟨ajo _,ajo _,fun h=>absurd h (by simp[N4]),fun j h1 h2=>by simp[N4]at h2;omega⟩
 |m+1,k=>by
  unfold N4;split
  ·rename_i h0;obtain⟨a,b,c,d⟩:=Lk f m (k+1);refine⟨by omega,by omega,fun h=>c (by omega),fun j h1 h2=>?_⟩;by_cases e:j=k
   ·rw[e];exact h0
   ·exact d j (by omega) h2
  ·rename_i h0;exact⟨by omega,by omega,fun _=>h0,fun j h1 h2=>by omega⟩
def eAt(f:Nat→Int)(n k:Nat):Int:=if k<n then f k else 0
def PZ(N:ae)(q:gm)(l:List bp):Nat:=N4 (nq N q l) l.length 0
def FH(N:ae)(q:gm)(l:List bp):Int:=eAt (nq N q l) l.length (PZ N q l)
theorem Fy{N:ae}{q:gm}{l:List bp}:FH N q l=0↔∀k,k<l.length→nq N q l k=0:=by obtain⟨_,b,c,d⟩:=Lk (nq N q l) l.length 0;unfold FH eAt PZ;grind
section
variable {N:ae} {q:gm} {l:List bp}
theorem ZJ(h:wh N)(hl:l.length≤maxLen):l5 [N.pv,q.pv,PN l]=some (.aP [.int .i64 (PZ N q l),.int .i64 (FH N q l)]):=by
 have hm:=aQ;have hr:=bu;simp only[l5,tL,A8,A9,Ba,Bb,Bc,Bd,Be,Bf,Bg,Bh,Sc,Sd,Se,Sf,Sg,Si,Sj,Sk,Sl,Sn,Sq,jA,j0,aa];refine(Bk (fun j(_:Unit)=>(l.map bp.pv,N.stops.map Stop.pv,N.ar.map aT.pv,N.runs.map ec.pv,N.bj.map bA.pv,N.paths.map Path.pv,N.ba.map aV.pv,N.bY,N.within,N.cap,q.src,q.dst,q.time,q.back,q.cB,q.walk,q.free,q.sO,q.cq,q.I4,l.map bp.pv,(j:Int),())) (fun j _=>some (PV.aP [.int .i64 ((N4 (nq N q l) (l.length-j) j:Nat):Int),.int .i64 (eAt (nq N q l) l.length (N4 (nq N q l) (l.length-j) j))])) l.length (fun j hj e rec qL=>?_) (fun e rec=>?_) (by omega) () rfl).trans (by rfl)
 ·unfold oJ;dsimp only;rw[GW (by simp;omega)];simp only[N0,VH h hj hl,aa,aI,al (show j<9223372036854775807 by omega),qL (),VI _ hj];by_cases h0:nq N q l j=0
  ·simp_all
  simp_all[GW,No,eAt]
 ·unfold oJ;dsimp only;rw[No (by simp),alE];simp[N4,eAt,BY,Nat.lt_irrefl,S3]
end
def dG(x:bp):Bool:=x.cL&& !x.stay
def wlB(x:bp):Bool:= !x.cL&&decide (x.dep≥0)&&decide (x.dep≤x.arr)&&decide (x.arr-x.dep≤14400)
def NF:List bp→Int→Int
 |[],s=>s
 |x::r,s=>if wlB x=true then NF r (s+(x.arr-x.dep))else NF r s
theorem VJ(x:bp)(r:List bp)(s:Int):NF (x::r) s=if wlB x=true then NF r (s+(x.arr-x.dep))else NF r s:=rfl
theorem P0{n:Int}(h:iQ n): -9223372036854775808≤n∧n≤9223372036854775807:=by simp_all[oX,IntKind.min,IntKind.max,IntKind.signed,IntKind.bits]
theorem Ll(l:List bp)(hl:l.length≤1000000)(ho:∀x∈l,x.Ok):iD [PN l]=some (.int .i64 (NF l 0)):=by
 simp only[iD,vz,jA,j0,aa,BY];refine Bl (fun j s=>(s,l.map bp.pv,(l.length:Int),(j:Int),())) (fun j s=>some (PV.int .i64 (NF (l.drop j) s))) (fun j s=>0≤s∧s≤14400*(j:Int)) l.length (fun j hj s rec hi qL=>?_) (fun s rec hi=>?_) (by unfold rounds;omega) 0 (by simp) rfl
 ·have hx:=ho _ (ajm hj);have hd:=P0 hx.dep;have ha:=P0 hx.arr;unfold pZ;dsimp only;rw[GW (by simp;omega),bN bp.pv l j hj,vw hj,VJ];simp only[aa,tJ,rX,sT,sQ,tG,sP,tF,sR,sS,pU,bh,al (show j<9223372036854775807 by omega)];by_cases c:wlB l[j]=true
  ·have c':=c;unfold wlB at c';simp only[OF,ajN,AT]at c';have hw:IntKind.i64.wrap (l[j].arr-l[j].dep)=l[j].arr-l[j].dep:=aY (by omega) (by omega);rw[hw,No (by simp[c'.1.1.1];omega),GW c,aY (by omega) (by omega)];exact qL _ (by omega)
  ·rw[No c];have c':(l[j].cL||decide (l[j].dep<0)||decide (l[j].arr<l[j].dep)||decide (IntKind.i64.wrap (l[j].arr-l[j].dep)>14400))=true:=by
    unfold wlB at c;cases hr:l[j].cL with
    |true=>rfl
    |false=>rw[hr]at c;simp only[ajC,aj3,OF,AT,not_and]at c;simp only[akr,ajt,AT];grind [aY]
   grind
 ·unfold pZ;dsimp only;rw[No (by simp),akP];rfl
end Go.Ab.Tt
