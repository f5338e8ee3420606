import Derived.Test.YtmbihgjlollbeaaGreatNkP2
namespace Go.Ab.Tt
set_option maxRecDepth 100000
set_option linter.all false
structure bp where
 dK:Bool
 run:Int
 dY:Int
 bQ:Int
 src:Int
 dst:Int
 dep:Int
 arr:Int
 stay:Bool
 deriving DecidableEq
def bp.pv(x:bp):PV:=.agg [.bool x.dK,.int .i64 x.run,.int .i64 x.dY,.int .i64 x.bQ,.int .i64 x.src,.int .i64 x.dst,.int .i64 x.dep,.int .i64 x.arr,.bool x.stay]
structure bp.fg(M:Nat)(x:bp):Prop where
 run:eP x.run
 dY:eP x.dY
 bQ:eP x.bQ
 src:eP x.src
 dst:eP x.dst
 dep:eP x.dep
 arr:eP x.arr
abbrev bp.Ok(x:bp):Prop:=x.fg maxLen
theorem sM(x:bp):asAgg 9 x.pv=some ():=rfl
theorem aaR(x:bp):PV.agg [cell x.pv 0,cell x.pv 1,cell x.pv 2,cell x.pv 3,cell x.pv 4,cell x.pv 5,cell x.pv 6,cell x.pv 7,cell x.pv 8]=x.pv:=rfl
theorem rf(x:bp):Ab.asBool (cell x.pv 0)=some x.dK:=rfl
theorem rn(x:bp):Ab.asInt .i64 (cell x.pv 1)=some x.run:=rfl
theorem re(x:bp):Ab.asInt .i64 (cell x.pv 2)=some x.dY:=rfl
theorem sF(x:bp):Ab.asInt .i64 (cell x.pv 3)=some x.bQ:=rfl
theorem q9(x:bp):Ab.asInt .i64 (cell x.pv 4)=some x.src:=rfl
theorem sE(x:bp):Ab.asInt .i64 (cell x.pv 5)=some x.dst:=rfl
theorem ri(x:bp):Ab.asInt .i64 (cell x.pv 6)=some x.dep:=rfl
theorem rj(x:bp):Ab.asInt .i64 (cell x.pv 7)=some x.arr:=rfl
theorem pX(x:bp):Ab.asBool (cell x.pv 8)=some x.stay:=rfl
structure gy where
 src:Int
 dst:Int
 time:Int
 back:Bool
 cB:Int
 walk:Int
 free:Bool
 tw:Bool
 cr:Int
 JA:Bool
 deriving DecidableEq
def gy.pv(x:gy):PV:=.agg [.int .i64 x.src,.int .i64 x.dst,.int .i64 x.time,.bool x.back,.int .i64 x.cB,.int .i64 x.walk,.bool x.free,.bool x.tw,.int .i64 x.cr,.bool x.JA]
structure gy.fg(M:Nat)(x:gy):Prop where
 src:eP x.src
 dst:eP x.dst
 time:eP x.time
 cB:eP x.cB
 walk:eP x.walk
 cr:eP x.cr
abbrev gy.Ok(x:gy):Prop:=x.fg maxLen
theorem Oo(x:gy):asAgg 10 x.pv=some ():=rfl
theorem Ws(x:gy):PV.agg [.int .i64 x.src,.int .i64 x.dst,.int .i64 x.time,.bool x.back,.int .i64 x.cB,.int .i64 x.walk,.bool x.free,.bool x.tw,.int .i64 x.cr,.bool x.JA]=x.pv:=rfl
theorem Oq(x:gy):Ab.asInt .i64 (cell x.pv 0)=some x.src:=rfl
theorem Ot(x:gy):Ab.asInt .i64 (cell x.pv 1)=some x.dst:=rfl
theorem Ou(x:gy):Ab.asInt .i64 (cell x.pv 2)=some x.time:=rfl
theorem Ov(x:gy):Ab.asBool (cell x.pv 3)=some x.back:=rfl
theorem Ow(x:gy):Ab.asInt .i64 (cell x.pv 4)=some x.cB:=rfl
theorem Ox(x:gy):Ab.asInt .i64 (cell x.pv 5)=some x.walk:=rfl
theorem Oy(x:gy):Ab.asBool (cell x.pv 6)=some x.free:=rfl
theorem Oz(x:gy):Ab.asBool (cell x.pv 7)=some x.tw:=rfl
theorem OA(x:gy):Ab.asInt .i64 (cell x.pv 8)=some x.cr:=rfl
theorem OB(x:gy):Ab.asBool (cell x.pv 9)=some x.JA:=rfl
def QS(l:List bp):PV:=.agg [.rs 9 (l.map bp.pv)]
theorem jA(l:List bp):asAgg 1 (QS l)=some ():=rfl
theorem j0(l:List bp):aw 9 (cell (QS l) 0)=some (l.map bp.pv):=rfl
theorem jF(l:List bp):PV.agg [.rs 9 (l.map bp.pv)]=QS l:=rfl
structure oG where
 prod:Int
 fst:Int
 lst:Int
 jU:Int
 deriving DecidableEq
def oG.pv(x:oG):PV:=.agg [.int .i64 x.prod,.int .i64 x.fst,.int .i64 x.lst,.int .i64 x.jU]
def gO(N:ab)(q:gy)(l:List bp)(i:Int):PV:=.agg [.rs 4 (N.stops.map Stop.pv),.rs 3 (N.au.map aV.pv),.rs 8 (N.runs.map dL.pv),.rs 5 (N.bj.map bB.pv),.rs 4 (N.paths.map Path.pv),.rs 6 (N.aP.map aR.pv),.int .i64 N.bX,.int .i64 N.within,.int .i64 N.cap,.int .i64 q.src,.int .i64 q.dst,.int .i64 q.time,.bool q.back,.int .i64 q.cB,.int .i64 q.walk,.bool q.free,.bool q.tw,.int .i64 q.cr,.bool q.JA,.rs 9 (l.map bp.pv),.int .i64 i]
section
variable (N:ab) (q:gy) (l:List bp) (i:Int)
theorem Ky:asAgg 21 (gO N q l i)=some ():=rfl
theorem OX:PV.agg [.rs 4 (N.stops.map Stop.pv),.rs 3 (N.au.map aV.pv),.rs 8 (N.runs.map dL.pv),.rs 5 (N.bj.map bB.pv),.rs 4 (N.paths.map Path.pv),.rs 6 (N.aP.map aR.pv),.int .i64 N.bX,.int .i64 N.within,.int .i64 N.cap,.int .i64 q.src,.int .i64 q.dst,.int .i64 q.time,.bool q.back,.int .i64 q.cB,.int .i64 q.walk,.bool q.free,.bool q.tw,.int .i64 q.cr,.bool q.JA,.rs 9 (l.map bp.pv),.int .i64 i]=gO N q l i:=rfl
theorem Kz:aw 4 (cell (gO N q l i) 0)=some (N.stops.map Stop.pv):=rfl
theorem KA:aw 3 (cell (gO N q l i) 1)=some (N.au.map aV.pv):=rfl
theorem KB:aw 8 (cell (gO N q l i) 2)=some (N.runs.map dL.pv):=rfl
theorem KC:aw 5 (cell (gO N q l i) 3)=some (N.bj.map bB.pv):=rfl
theorem KD:aw 4 (cell (gO N q l i) 4)=some (N.paths.map Path.pv):=rfl
theorem KE:aw 6 (cell (gO N q l i) 5)=some (N.aP.map aR.pv):=rfl
theorem KF:Ab.asInt .i64 (cell (gO N q l i) 6)=some N.bX:=rfl
theorem KG:Ab.asInt .i64 (cell (gO N q l i) 7)=some N.within:=rfl
theorem KH:Ab.asInt .i64 (cell (gO N q l i) 8)=some N.cap:=rfl
theorem KI:Ab.asInt .i64 (cell (gO N q l i) 9)=some q.src:=rfl
theorem wU:Ab.asInt .i64 (cell (gO N q l i) 10)=some q.dst:=rfl
theorem wV:Ab.asInt .i64 (cell (gO N q l i) 11)=some q.time:=rfl
theorem wW:Ab.asBool (cell (gO N q l i) 12)=some q.back:=rfl
theorem wX:Ab.asInt .i64 (cell (gO N q l i) 13)=some q.cB:=rfl
theorem wY:Ab.asInt .i64 (cell (gO N q l i) 14)=some q.walk:=rfl
theorem wZ:Ab.asBool (cell (gO N q l i) 15)=some q.free:=rfl
theorem xb:Ab.asBool (cell (gO N q l i) 16)=some q.tw:=rfl
theorem xc:Ab.asInt .i64 (cell (gO N q l i) 17)=some q.cr:=rfl
theorem xd:Ab.asBool (cell (gO N q l i) 18)=some q.JA:=rfl
theorem xe:aw 9 (cell (gO N q l i) 19)=some (l.map bp.pv):=rfl
theorem xf:Ab.asInt .i64 (cell (gO N q l i) 20)=some i:=rfl
end
theorem aI(n:Int):Ab.asInt .i64 (.int .i64 n)=some n:=rfl
theorem aB(b:Bool):Ab.asBool (.bool b)=some b:=rfl
theorem aS(n:Nat)(l:List PV):Ab.aw n (.rs n l)=some l:=by simp[aw]
theorem WE{A:Type}(f:A→PV)(l:List A)(i:Int):fj (l.map f) i=(if 0≤i then l[i.toNat]? else none).map f:=by unfold fj;grind
theorem bS{A:Type}(f:A→PV)(l:List A)(k:Nat)(hk:k<l.length):fj (l.map f) (k:Int)=some (f l[k]):=by rw[aM,IT,cN hk];rfl
theorem Gc{n:Nat}(h:n≤9223372036854775807):IntKind.i64.wrap ((n:Int)-1)=(n:Int)-1:=aY (by omega) (by omega)
def FV(n a b:Int):Bool:=decide (n≥a)&&decide (n≤b)
theorem AE(n a b:Int):bl [.int .i64 n,.int .i64 a,.int .i64 b]=some (.bool (FV n a b)):=by simp[bl,qq,aI,U,bF,FV]
def qOk(n:Int)(q:gy):Bool:=FV q.src 0 (n-1)&&FV q.dst 0 (n-1)&&FV q.time 0 3155932800&&FV q.cB 0 8&&FV q.walk 0 86400&&FV q.cr 0 255&& !(q.JA&&q.back)
def Gd(N:ab)(q:gy):Int:=if(qp N).2.2=0 then(if qOk N.stops.length q=true then 0 else 22)else 21
theorem aaT(N:ab)(q:gy)(h:N.Ok)(hp:N.paths.length≤4096):dm [N.pv,q.pv]=some (.int .i64 (Gd N q)):=by have hm:=aT;have hs:=h.stops.1;simp only[dm,gU,wK,wL,wM,wN,wO,wP,wQ,wR,wS,wT,Oo,Oq,Ot,Ou,Ov,Ow,Ox,Oy,Oz,OA,OB,U,DX,vR N h hp];simp only[wB,dn,akd,akm,Ko,U,ajc,aka,aI,BY,Gc (akT hs hm),AE,aB,bF,bf];unfold Gd qOk;grind
structure uE(N:ab):Prop where
 ok:N.Ok
 paths:N.paths.length≤4096
 res:(qp N).2.2=0
variable{N:ab}
theorem uE.parts(h:uE N):(jX N.stops).2=0∧(kE N.au).2=0∧(jY N.aP N.bX N.within N.cap).2=0:=by have h:=h.res;unfold qp at h;grind
theorem uE.stop(h:uE N):∀s∈N.stops,0≤s.BC∧s.BC<16∧0≤s.change∧s.change≤3600:=by
 intro s hs;obtain⟨k,hk,rfl⟩:=ali hs;have h1:=h.parts.1;unfold jX at h1;split at h1
 ·omega
 ·have:=(kD _ _).1 h1 k hk;unfold El at this;grind
theorem uE.fo(h:uE N):∀s∈N.au,0≤s.mode∧s.mode<8:=by
 intro s hs;obtain⟨k,hk,rfl⟩:=ali hs;have h1:=h.parts.2.1;unfold kE at h1;split at h1
 ·omega
 ·have:=(kD _ _).1 h1 k hk;unfold Ge at this;grind
theorem uE.run(h:uE N):∀r∈N.runs,∃t,N.au[r.fo.toNat]?=some t∧0≤r.fo∧t∈N.au:=by
 intro r hr;obtain⟨k,hk,rfl⟩:=ali hr;have:=AD h.res k hk;unfold oU at this;rw[cN hk]at this;simp only at this;split at this
 ·omega
 ·split at this
  ·omega
  ·split at this
   ·omega
   ·split at this
    ·omega
    simp_all
theorem uE.call(h:uE N):∀r∈N.runs,∀c∈r.calls,∃s,N.stops[c.stop.toNat]?=some s∧0≤c.stop∧s∈N.stops:=by
 intro r hr c hc;obtain⟨k,hk,rfl⟩:=ali hc;have:=LZ (Dx h.res r hr) k hk;unfold vS at this;rw[cN hk]at this;simp only at this;unfold Il at this;split at this
 ·omega
 simp_all
theorem bn{A:Type}(f:A→PV){l:List A}{i:Int}{a:A}(h0:0≤i)(h:l[i.toNat]?=some a):fj (l.map f) i=some (f a):=by rw[WE,AI h0,h];rfl
def vb(N:ab)(x:bp):Option dL:=if 0≤x.run then N.runs[x.run.toNat]? else none
def exB(N:ab)(x:bp):Bool:=match vb N x with
 |some r=>decide (x.dY≥0)&&decide (x.dY<x.bQ)&&decide (x.bQ<(r.calls.length:Int))
 |none=>false
structure ue(N:ab)(x:bp)(r:dL)(t:aV)(a b:aQ):Prop where
 run:N.runs[x.run.toNat]?=some r
 wI:0≤x.run
 fo:N.au[r.fo.toNat]?=some t
 OY:0≤r.fo
 dY:r.calls[x.dY.toNat]?=some a
 Og:0≤x.dY
 bQ:r.calls[x.bQ.toNat]?=some b
 QU:0≤x.bQ
 lt:x.dY<x.bQ
 mem:r∈N.runs
 tm:t∈N.au
theorem CA(h:uE N){x:bp}(hx:exB N x=true):∃r t a b,ue N x r t a b:=by
 unfold exB at hx;cases hr:vb N x with
 |none=>rw[hr]at hx;cases hx
 |some r=>
  rw[hr]at hx;simp only[No,AT]at hx;unfold vb at hr;split at hr
  ·rename_i h0;have hm:=aeB hr;obtain⟨t,t1,t2,t3⟩:=h.run r hm;have ha:x.dY.toNat<r.calls.length:=by omega
   have hb:x.bQ.toNat<r.calls.length:=by omega
   exact⟨r,t,_,_,⟨hr,h0,t1,t2,cN ha,by omega,cN hb,by omega,by omega,hm,t3⟩⟩
  ·cases hr
section
variable {N:ab} {q:gy} {l:List bp} {k:Nat}
theorem qt(hk:k<l.length):aF [gO N q l k]=some l[k].pv:=by simp only[aF,kF,Ky,Kz,KA,KB,KC,KD,KE,KF,KG,KH,KI,wU,wV,wW,wX,wY,wZ,xb,xc,xd,xe,xf,U,bS bp.pv l k hk,aaR]
theorem JV(hk:k+1<l.length)(hl:l.length≤maxLen):bP [gO N q l ((k+1:Nat):Int)]=some l[k].pv:=by have hm:=aT;simp only[bP,gm,Ky,Kz,KA,KB,KC,KD,KE,KF,KG,KH,KI,wU,wV,wW,wX,wY,wZ,xb,xc,xd,xe,xf,U,rM k (by omega),bS bp.pv l k (by omega),aaR]
theorem acb(x:aQ):PV.agg [cell x.pv 0,cell x.pv 1,cell x.pv 2,cell x.pv 3,cell x.pv 4]=x.pv:=rfl
theorem acd(x:aQ):asAgg 5 x.pv=some ():=rfl
theorem WG(hk:k<l.length){r:dL}{t:aV}{a b:aQ}(h:ue N l[k] r t a b):ey [gO N q l k]=some a.pv:=by simp only[ey,jo,Ky,Kz,KA,KB,KC,KD,KE,KF,KG,KH,KI,wU,wV,wW,wX,wY,wZ,xb,xc,xd,xe,xf,U,OX,qt hk,sM,rf,rn,re,sF,q9,sE,ri,rj,pX,bn dL.pv h.wI h.run,Hb,aS,bn aQ.pv h.Og h.dY,acb]
theorem Im(hk:k<l.length){r:dL}{t:aV}{a b:aQ}(h:ue N l[k] r t a b):cU [gO N q l k]=some b.pv:=by simp only[cU,iK,Ky,Kz,KA,KB,KC,KD,KE,KF,KG,KH,KI,wU,wV,wW,wX,wY,wZ,xb,xc,xd,xe,xf,U,OX,qt hk,sM,rf,rn,re,sF,q9,sE,ri,rj,pX,bn dL.pv h.wI h.run,Hb,aS,bn aQ.pv h.QU h.bQ,acb]
end
theorem BD{S R X:Type}{body:S→(S→Option R)→Option R}(st:Nat→X→S)(G:Nat→X→Option R)(n:Nat)(h:∀k,k<n→∀e rec,(∀e',rec (st (k+1) e')=G (k+1) e')→body (st k e) rec=G k e)(rZ:∀e rec,body (st n e) rec=G n e)(hn:n<rounds)(e:X){s0:S}(h0:st 0 e=s0):bk.run body s0=G 0 e:=by
 have key:∀(m j N:Nat)(e:X),j+m=n→m<N→cg body N (st j e)=G j e:=by
  intro m;induction m with
  |zero=>
   intro j N e hj hN;cases N with
   |zero=>omega
   |succ N=>simp_all[cg]
  |succ m ih=>
   intro j N e hj hN;cases N with
   |zero=>omega
   |succ N=>grind [cg]
 grind [mb,rounds]
theorem vT{A:Type}{l:List A}{k:Nat}(h:k<l.length):l.drop k=l[k]::l.drop (k+1):=ak0 h
def WH(N:ab)(x:bp):Bool:= !FV x.src 0 ((N.stops.length:Int)-1)|| !FV x.dst 0 ((N.stops.length:Int)-1)||(if x.dK=true then !exB N x else(x.run !=0||x.dY !=0||x.bQ !=0||x.stay))
def JC(x:bp):Bool:= !FV x.dep 0 3155932800|| !FV x.arr 0 3155932800
def wkB(x:bp)(p:Path):Bool:=decide (p.a=x.src)&&decide (p.b=x.dst)&&decide (p.jD=IntKind.i64.wrap (x.arr-x.dep))
def wk(q:gy)(x:bp):List Path→Int→Int
 |[],e=>e
 |p::r,e=>if wkB x p=true then(if(p.free|| !q.free)=true then 0 else wk q x r 29)else wk q x r e
def QV(N:ab)(q:gy)(i:Int):Bool:= !q.free||(match N.stops[i.toNat]? with|some s=>s.free|none=>false)
def ace(q:gy)(t:aV):Bool:=q.cr !=0&&IntKind.i64.wrap (↑(BitVec.ofInt IntKind.i64.bits (q.cr.fdiv (2^min t.mode.toNat IntKind.i64.bits))&&&BitVec.ofInt IntKind.i64.bits 1).toNat:Int)==0
def QW(N:ab)(q:gy)(x:bp)(r:dL)(t:aV)(a b:aQ):Int:=
 if(a.stop !=x.src||b.stop !=x.dst)=true then 24 else if(a.dep !=x.dep||b.arr !=x.arr)=true then 10 else if r.adp=true then 27
 else if(q.free&& !r.free)=true then 29 else if(q.tw&& !t.tw)=true then 30 else if ace q t=true then 31
 else if(!x.stay&& !a.dY)=true then 25 else if(!x.stay&& !QV N q x.src)=true then 29 else 0
def WI(N:ab)(q:gy)(x:bp):Int:=match vb N x with
 |some r=>match N.au[r.fo.toNat]?,r.calls[x.dY.toNat]?,r.calls[x.bQ.toNat]? with
  |some t,some a,some b=>QW N q x r t a b
  |_,_,_=>0
 |none=>0
theorem WJ{N:ab}{q:gy}{x:bp}{r:dL}{t:aV}{a b:aQ}(h:ue N x r t a b):WI N q x=QW N q x r t a b:=by unfold WI vb;rw[AI h.wI,h.run];simp only[h.fo,h.dY,h.bQ]
def sC(N:ab)(q:gy)(x:bp):Int:=if WH N x=true then 9 else if JC x=true then 10 else if x.dK=true then WI N q x else wk q x N.paths 18
section
variable {N:ab} {q:gy} {l:List bp} {k:Nat}
theorem WK(h:uE N):N.stops.length≤64:=Io h.parts.1
theorem aaU(h:uE N)(hk:k<l.length):dc [gO N q l k]=some (.int .i64 (if WH N l[k]=true then 9 else 0)):=by
 have hs:=WK h;simp only[dc,fB,Ky,Kz,KA,KB,KC,KD,KE,KF,KG,KH,KI,wU,wV,wW,wX,wY,wZ,xb,xc,xd,xe,xf,U,OX,qt hk,sM,rf,rn,re,sF,q9,sE,ri,rj,pX,BY,Gc (show N.stops.length≤9223372036854775807 by omega),AE,aB,bf,bF];unfold WH;cases qk:(!FV l[k].src 0 ((N.stops.length:Int)-1)|| !FV l[k].dst 0 ((N.stops.length:Int)-1))with
 |true=>rfl
 |false=>
  rw[IS (by simp)];simp only[alj];cases hr:l[k].dK with
  |false=>grind
  |true=>
   simp only[akf,cond_false,U,cQ,abp,cond_true,Ko];have hrl:N.runs.length≤9223372036854775807:=akT h.ok.runs.1 aT;rw[Gc hrl];unfold exB vb;by_cases h0:0≤l[k].run
   ·by_cases h1:l[k].run.toNat<N.runs.length
    ·have hb:FV l[k].run 0 ((N.runs.length:Int)-1)=true:=by simp[FV];omega
     rw[hb,AI h0,cN h1,bn dL.pv h0 (cN h1)];simp only[U,Hb,aS,BY,akf,alj,cond_false];grind
    ·have hb:FV l[k].run 0 ((N.runs.length:Int)-1)=false:=by simp[FV];omega
     simp_all
   ·have hb:FV l[k].run 0 ((N.runs.length:Int)-1)=false:=by simp[FV];omega
    rw[hb,IS h0];rfl
theorem aaV(hk:k<l.length):dO [gO N q l k]=some (.int .i64 (if JC l[k]=true then 10 else 0)):=by simp only[dO,gP,Ky,Kz,KA,KB,KC,KD,KE,KF,KG,KH,KI,wU,wV,wW,wX,wY,wZ,xb,xc,xd,xe,xf,U,OX,qt hk,sM,rf,rn,re,sF,q9,sE,ri,rj,pX,AE,aB,bf];unfold JC;grind
theorem QX(i:Int)(s:Stop)(h0:0≤i)(hs:N.stops[i.toNat]?=some s)(c:Int):dE [gO N q l c,.int .i64 i]=some (.bool (QV N q i)):=by simp only[dE,jK,Ky,Kz,KA,KB,KC,KD,KE,KF,KG,KH,KI,wU,wV,wW,wX,wY,wZ,xb,xc,xd,xe,xf,U,aI,bn Stop.pv h0 hs];unfold QV;rw[hs];cases q.free<;>rfl
end
theorem Qt(q:gy)(x:bp)(p:Path)(r:List Path)(e:Int):wk q x (p::r) e=if wkB x p=true then(if(p.free|| !q.free)=true then 0 else wk q x r 29)else wk q x r e:=rfl
section
variable {N:ab} {q:gy} {l:List bp} {k:Nat}
theorem aaW(h:uE N)(hk:k<l.length):eU [gO N q l k]=some (.int .i64 (if l[k].dK=true then 0 else wk q l[k] N.paths 18)):=by
 have hp:=h.paths;simp only[eU,jL,Ky,Kz,KA,KB,KC,KD,KE,KF,KG,KH,KI,wU,wV,wW,wX,wY,wZ,xb,xc,xd,xe,xf,U,OX,qt hk,sM,rf,rn,re,sF,q9,sE,ri,rj,pX,BY];by_cases hr:l[k].dK=true
 ·simp_all
 ·rw[IS hr,IS hr];refine BD (fun j e=>(e,N.paths.map Path.pv,(N.paths.length:Int),(j:Int),N.stops.map Stop.pv,N.au.map aV.pv,N.runs.map dL.pv,N.bj.map bB.pv,N.paths.map Path.pv,N.aP.map aR.pv,N.bX,N.within,N.cap,q.src,q.dst,q.time,q.back,q.cB,q.walk,q.free,q.tw,q.cr,q.JA,l.map bp.pv,(k:Int),cell l[k].pv 0,cell l[k].pv 1,cell l[k].pv 2,cell l[k].pv 3,cell l[k].pv 4,cell l[k].pv 5,cell l[k].pv 6,cell l[k].pv 7,cell l[k].pv 8,())) (fun j e=>some (PV.int .i64 (wk q l[k] (N.paths.drop j) e))) N.paths.length (fun j hj e rec q7=>?_) (fun e rec=>?_) (by unfold rounds;omega) 18 rfl
  ·unfold gQ;dsimp only;have ajO:∀e',_:=q7;rw[AI (by simp;omega),bS Path.pv N.paths j hj];simp only[U,QY,QZ,Q0,Q1,aI,aB,sM,rf,rn,re,sF,q9,sE,ri,rj,pX,bF,bf,aj (show j<9223372036854775807 by omega),q7];rw[vT hj,show(N.paths[j].a==l[k].src&&N.paths[j].b==l[k].dst&&N.paths[j].jD==IntKind.i64.wrap (l[k].arr-l[k].dep))=wkB l[k] N.paths[j] by rfl];grind [Qt,wkB]
  ·unfold gQ;dsimp only;rw[IS (by simp),alM];rfl
theorem Od(x:aQ):Ab.asInt .i64 (cell x.pv 0)=some x.stop:=rfl
theorem adq(x:aQ):Ab.asInt .i64 (cell x.pv 1)=some x.arr:=rfl
theorem Wf(x:aQ):Ab.asInt .i64 (cell x.pv 2)=some x.dep:=rfl
theorem adr(x:aQ):Ab.asBool (cell x.pv 3)=some x.dY:=rfl
theorem ads(x:aQ):Ab.asBool (cell x.pv 4)=some x.bQ:=rfl
theorem JW(x:aV):Ab.asInt .i64 (cell x.pv 1)=some x.mode:=rfl
theorem aaX(x:aV):Ab.asBool (cell x.pv 2)=some x.tw:=rfl
theorem ifI(c:Prop)[Decidable c](a b:Int):some (PV.int .i64 (if c then a else b))=if c then some (PV.int .i64 a)else some (PV.int .i64 b):=by split<;>rfl
theorem aaY(h:uE N)(hk:k<l.length)(hr:l[k].dK=true){r:dL}{t:aV}{a b:aQ}(hx:ue N l[k] r t a b){s:Stop}(hs:N.stops[l[k].src.toNat]?=some s)(Qw:0≤l[k].src):cC [gO N q l k]=some (.int .i64 (QW N q l[k] r t a b)):=by have hm:=(h.fo t hx.tm).1;simp only[cC,gi,Ky,Kz,KA,KB,KC,KD,KE,KF,KG,KH,KI,wU,wV,wW,wX,wY,wZ,xb,xc,xd,xe,xf,U,OX,qt hk,sM,rf,rn,re,sF,q9,sE,ri,rj,pX,hr,akf,cQ,abp,bn dL.pv hx.wI hx.run,Oa,aap,aaq,aI,aB,bn aV.pv hx.OY hx.fo,WG hk hx,Im hk hx,acd,Od,adq,Wf,adr,JW,aaX,bf,bF,QX _ s Qw hs];rw[IS (show¬t.mode<0 by omega)];simp[bF,U,QW,ace,ifI]
end
section
variable {N:ab} {q:gy} {l:List bp} {k:Nat}
theorem WL(hk:k<l.length)(hr:l[k].dK=false):cC [gO N q l k]=some (.int .i64 0):=by simp only[cC,gi,Ky,Kz,KA,KB,KC,KD,KE,KF,KG,KH,KI,wU,wV,wW,wX,wY,wZ,xb,xc,xd,xe,xf,U,OX,qt hk,sM,rf,rn,re,sF,q9,sE,ri,rj,pX,hr,akz,Ko]
theorem sD{x:bp}(h:WH N x=false):(∃s,N.stops[x.src.toNat]?=some s∧0≤x.src∧s∈N.stops)∧(∃s,N.stops[x.dst.toNat]?=some s∧0≤x.dst∧s∈N.stops)∧(x.dK=true→exB N x=true)∧(x.dK=false→x.stay=false):=by
 unfold WH at h;simp only[akN,ala,FV,No,AT]at h;obtain⟨⟨⟨a1,a2⟩,b1,b2⟩,c⟩:=h;have h1:x.src.toNat<N.stops.length:=by omega
 have h2:x.dst.toNat<N.stops.length:=by omega
 refine⟨⟨_,cN h1,by omega,aki h1⟩,⟨_,cN h2,by omega,aki h2⟩,fun hr=>?_,fun hr=>?_⟩
 ·simp_all
 simp_all
theorem adt(h:uE N)(hk:k<l.length):fC [gO N q l k]=some (.int .i64 (sC N q l[k])):=by
 simp only[fC,kG,Ky,Kz,KA,KB,KC,KD,KE,KF,KG,KH,KI,wU,wV,wW,wX,wY,wZ,xb,xc,xd,xe,xf,U,OX,aaU h hk,aI];unfold sC;cases hl:WH N l[k]with
 |true=>rfl
 |false=>
  obtain⟨⟨s,hs,Qw,_⟩,_,hx,vp⟩:=sD hl;simp only[cQ,abp,aaV hk,U,aI];rw[IS (by simp)];cases hmo:JC l[k]with
  |true=>rfl
  |false=>
   simp only[cQ,abp,aaW h hk,U,aI];rw[IS (by simp)];cases hr:l[k].dK with
   |true=>obtain⟨r,t,a,b,pP⟩:=CA h (hx hr);simp only[Ko,aaY h hk hr pP hs Qw,U,aI,WJ pP];simp_all
   |false=>simp only[cQ,abp,WL hk hr,U,aI];simp_all
end
def lkB(a b:bp)(stay:Bool)(k:bB):Bool:=(k.a==a.run)&&(k.ac==a.bQ)&&(k.b==b.run)&&(k.bc==b.dY)&&(k.stay==stay)
def Dt(N:ab)(a b:bp)(stay:Bool):Bool:=N.bj.any (lkB a b stay)
def Bv(N:ab)(i:Int):Int:=match N.stops[i.toNat]? with|some s=>s.change|none=>0
def Cz(N:ab)(q:gy)(l:List bp)(x:bp):Int:=
 if(x.src !=q.src)=true then 24 else if x.stay=true then 19
 else if(!x.dK&&(match l[1]? with|some y=>y.dK&&y.dep !=x.arr|none=>false))=true then 10
 else if(!x.dK&&decide (l.length=1)&&(if q.back=true then x.arr !=q.time else x.dep !=q.time))=true then 10
 else if(!q.back&&decide (x.dep<q.time))=true then 10
 else if(!q.back&&q.JA&&x.dK&&decide (x.dep<IntKind.i64.wrap (q.time+Bv N q.src)))=true then 28 else 0
def zU(N:ab)(a b:bp):Int:=
 if(b.src !=a.dst)=true then 24 else if(!a.dK&& !b.dK)=true then 32 else if(b.stay&&(!a.dK|| !Dt N a b true))=true then 19
 else if(b.stay&&decide (b.dep<a.arr))=true then 10 else if(!b.dK&&b.dep !=a.arr)=true then 10 else 0
def zk(N:ab)(a b:bp):Int:=
 if(!b.dK||b.stay)=true then 0 else if(!a.dK)=true then(if decide (b.dep<a.arr)=true then 28 else 0)
 else if(decide (b.dep≥IntKind.i64.wrap (a.arr+Bv N b.src))||(decide (b.dep≥a.arr)&&Dt N a b false))=true then 0 else 28
def alB(N:ab)(x:bp):Bool:=match vb N x with
 |some r=>(match r.calls[x.bQ.toNat]? with|some b=>b.bQ|none=>false)
 |none=>false
def OZ(N:ab)(q:gy)(l:List bp)(k:Nat)(x:bp):Int:=if(!x.dK||(match l[k+1]? with|some y=>y.stay|none=>false))=true then 0 else if(!alB N x)=true then 26 else if(!QV N q x.dst)=true then 29 else 0
def nF(N:ab)(q:gy)(l:List bp)(k:Nat):Int:=match l[k]? with
 |none=>0
 |some x=>if sC N q x=0 then
   (let e:=if k=0 then Cz N q l x else match l[k-1]? with
    |some a=>if zU N a x=0 then zk N a x else zU N a x
    |none=>0
   if e=0 then OZ N q l k x else e)
  else sC N q x
section
variable {N:ab} {q:gy} {l:List bp} {k:Nat}
theorem Ip(h:uE N)(hk:k+1<l.length)(hl:l.length≤maxLen)(st:Bool):cV [gO N q l ((k+1:Nat):Int),.bool st]=some (.bool (Dt N l[k] l[k+1] st)):=by
 have hm:=aT;have hr:=bw;have St:=h.ok.bj.1;simp only[cV,iL,Ky,Kz,KA,KB,KC,KD,KE,KF,KG,KH,KI,wU,wV,wW,wX,wY,wZ,xb,xc,xd,xe,xf,U,OX,aB,JV hk hl,qt hk,sM,BY];refine BD (fun j(_:Unit)=>(st,N.bj.map bB.pv,(N.bj.length:Int),(j:Int),cell l[k].pv 0,cell l[k].pv 1,cell l[k].pv 2,cell l[k].pv 3,cell l[k].pv 4,cell l[k].pv 5,cell l[k].pv 6,cell l[k].pv 7,cell l[k].pv 8,cell l[k+1].pv 0,cell l[k+1].pv 1,cell l[k+1].pv 2,cell l[k+1].pv 3,cell l[k+1].pv 4,cell l[k+1].pv 5,cell l[k+1].pv 6,cell l[k+1].pv 7,cell l[k+1].pv 8,())) (fun j _=>some (PV.bool ((N.bj.drop j).any (lkB l[k] l[k+1] st)))) N.bj.length (fun j hj e rec q7=>?_) (fun e rec=>?_) (by omega) () rfl
 ·unfold fY;dsimp only;rw[AI (by simp;omega),bS bB.pv N.bj j hj];simp only[U,acf,acg,link2,ach,aci,aI,aB,sM,rf,rn,re,sF,q9,sE,ri,rj,pX,bF,aj (show j<9223372036854775807 by omega),q7 ()];rw[vT hj,al7];have hc:(N.bj[j].stay==st&&N.bj[j].a==l[k].run&&N.bj[j].ac==l[k].bQ&&N.bj[j].b==l[k+1].run&&N.bj[j].bc==l[k+1].dY)=lkB l[k] l[k+1] st N.bj[j]:=by unfold lkB;grind
  grind
 ·unfold fY;simp
end
theorem Of(x:Stop):Ab.asInt .i64 (cell x.pv 3)=some x.change:=rfl
theorem L2{A:Type}(f:A→PV)(l:List A)(k:Nat):fj (l.map f) (k:Int)=(l[k]?).map f:=by rw[aM,IT]
section
variable {N:ab} {q:gy} {l:List bp} {k:Nat}
theorem FW{i:Int}{s:Stop}(hs:N.stops[i.toNat]?=some s):Bv N i=s.change:=by unfold Bv;rw[hs]
theorem WM(l:List bp):fj (l.map bp.pv) 1=(l[1]?).map bp.pv:=L2 bp.pv l 1
theorem TC(hk:0<k):cq [gO N q l k]=some (.int .i64 0):=by simp only[cq,fD,Ky,Kz,KA,KB,KC,KD,KE,KF,KG,KH,KI,wU,wV,wW,wX,wY,wZ,xb,xc,xd,xe,xf,U];simp_all
theorem WN(hk:0<l.length)(hl:WH N l[0]=false):cq [gO N q l ((0:Nat):Int)]=some (.int .i64 (Cz N q l l[0])):=by
 obtain⟨⟨s,hs,Qw,_⟩,_⟩:=sD hl;simp only[cq,fD,Ky,Kz,KA,KB,KC,KD,KE,KF,KG,KH,KI,wU,wV,wW,wX,wY,wZ,xb,xc,xd,xe,xf,U,OX,qt hk,sM,rf,rn,re,sF,q9,sE,ri,rj,pX,BY,WM,bF,bf,iG];rw[IS (by simp)];unfold Cz;simp only[ifI];by_cases hc:l[0].src=q.src
 ·rw[←hc,bn Stop.pv Qw hs,FW hs];simp only[U,Of,bne_self_eq_false,cQ,abp];have h1:(decide ((l.length:Int)=1))=decide (l.length=1):=by grind
  rw[h1];cases vp:l[0].stay with
  |true=>rfl
  |false=>
   simp only[cQ,abp];cases h2:l[1]? with
   |none=>
    have hlen:l.length=1:=by grind
    simp only[hlen,akv,akf,bF,U,am4,cond_false,Option.map_none,aln];grind
   |some y=>
    have hlen:¬l.length=1:=by grind
    simp only[hlen,akw,akz,bF,U,aln,am4,akb,sM,rf,rn,re,sF,q9,sE,ri,rj,pX,cond_false];grind
 simp_all
theorem WO:dF [gO N q l ((0:Nat):Int)]=some (.int .i64 0):=by rfl
theorem aaZ(h:uE N)(hk:k+1<l.length)(hl:l.length≤maxLen):dF [gO N q l ((k+1:Nat):Int)]=some (.int .i64 (zU N l[k] l[k+1])):=by simp only[dF,jM,Ky,Kz,KA,KB,KC,KD,KE,KF,KG,KH,KI,wU,wV,wW,wX,wY,wZ,xb,xc,xd,xe,xf,U,OX,JV hk hl,qt hk,sM,rf,rn,re,sF,q9,sE,ri,rj,pX,Ip h hk hl,aB,bF,bf];rw[IS (by simp;omega)];unfold zU;simp only[ifI]
theorem O0:cW [gO N q l ((0:Nat):Int)]=some (.int .i64 0):=by rfl
theorem TD(h:uE N)(hk:k+1<l.length)(hl:l.length≤maxLen)(hs:WH N l[k+1]=false):cW [gO N q l ((k+1:Nat):Int)]=some (.int .i64 (zk N l[k] l[k+1])):=by
 obtain⟨⟨s,hs,Qw,_⟩,_⟩:=sD hs;simp only[cW,iM,Ky,Kz,KA,KB,KC,KD,KE,KF,KG,KH,KI,wU,wV,wW,wX,wY,wZ,xb,xc,xd,xe,xf,U,OX,JV hk hl,qt hk,sM,rf,rn,re,sF,q9,sE,ri,rj,pX,Ip h hk hl,aB,bF,bf,bn Stop.pv Qw hs,Of];have h0:(((k+1:Nat):Int)==0)=false:=by rfl
 rw[h0];unfold zk;simp only[ifI,FW hs,Hv,akz,cond_true];grind
theorem L3(h:uE N)(hk:k<l.length)(hl:l.length≤maxLen)(hs:WH N l[k]=false):ez [gO N q l k]=some (.int .i64 (OZ N q l k l[k])):=by
 have hm:=aT;obtain⟨_,⟨s,hs,Qw,_⟩,hx,_⟩:=sD hs;simp only[ez,jq,Ky,Kz,KA,KB,KC,KD,KE,KF,KG,KH,KI,wU,wV,wW,wX,wY,wZ,xb,xc,xd,xe,xf,U,OX,qt hk,sM,rf,rn,re,sF,q9,sE,ri,rj,pX,BY,aj (show k<9223372036854775807 by omega),L2];unfold OZ;cases hr:l[k].dK with
 |false=>rfl
 |true=>
  obtain⟨r,t,a,b,pP⟩:=CA h (hx hr);have Nc:alB N l[k]=b.bQ:=by unfold alB vb;rw[AI pP.wI,pP.run];simp only[pP.bQ]
  have vp:(bif decide (((k+1:Nat):Int)<(l.length:Int))then(Option.map bp.pv l[k+1]?).bind fun p=>(Ab.asBool (cell p 8)).bind fun b=>some b else some false)=some (match l[k+1]? with|some y=>y.stay|none=>false):=by
   by_cases bZ:k+1<l.length
   ·rw[cN bZ];simp only[akb,U,pX];grind
   grind
  simp only[akf,alj,cond_false,vp,U,Im hk pP,acd,ads,aI,QX _ s Qw hs,aB,Nc,ifI]<;>rfl
theorem WQ(h:uE N)(hk:k<l.length)(hl:l.length≤maxLen):eA [gO N q l k]=some (.int .i64 (nF N q l k)):=by
 simp only[eA,jr,Ky,Kz,KA,KB,KC,KD,KE,KF,KG,KH,KI,wU,wV,wW,wX,wY,wZ,xb,xc,xd,xe,xf,U,OX,adt h hk,aI];unfold nF;rw[cN hk];simp only;by_cases h0:sC N q l[k]=0
 ·have Jt:WH N l[k]=false:=by unfold sC at h0;grind
  rw[IS (by simp[h0]),AI h0];cases k with
  |zero=>simp only[WN hk Jt,U,aI,WO,O0,L3 h hk hl Jt,Ko];grind
  |succ k=>
   have AV:l[k+1-1]?=some l[k]:=by simp
   simp only[TC (N:=N) (q:=q) (l:=l) (Nat.succ_pos k),U,aI,aaZ h hk hl,TD h hk hl Jt,L3 h hk hl Jt,AV];grind
 simp_all
end
section
variable {N:ab} {q:gy} {l:List bp} {k:Nat}
end
theorem BE{S R X:Type}{body:S→(S→Option R)→Option R}(st:Nat→X→S)(G:Nat→X→Option R)(I:Nat→X→Prop)(n:Nat)(h:∀k,k<n→∀e rec,I k e→(∀e',I (k+1) e'→rec (st (k+1) e')=G (k+1) e')→body (st k e) rec=G k e)(rZ:∀e rec,I n e→body (st n e) rec=G n e)(hn:n<rounds)(e:X)(he:I 0 e){s0:S}(h0:st 0 e=s0):bk.run body s0=G 0 e:=by
 have key:∀(m j N:Nat)(e:X),j+m=n→m<N→I j e→cg body N (st j e)=G j e:=by
  intro m;induction m with
  |zero=>
   intro j N e hj hN hi;cases N with
   |zero=>omega
   |succ N=>simp_all[cg]
  |succ m ih=>
   intro j N e hj hN hi;cases N with
   |zero=>omega
   |succ N=>grind [cg]
 grind [mb,rounds]
def O1(f:Nat→Int):Nat→Nat→Nat
 |0,k=>k
 |m+1,k=>if f k=0 then O1 f m (k+1)else k
theorem WR(f:Nat→Int){n j:Nat}(h:j<n):O1 f (n-j) j=if f j=0 then O1 f (n-(j+1)) (j+1)else j:=by
 have:n-j=(n-(j+1))+1:=by omega
 rw[this];rfl
theorem L4(f:Nat→Int):∀m k,k≤O1 f m k∧O1 f m k≤k+m∧(O1 f m k<k+m→f (O1 f m k)≠0)∧∀j,k≤j→j<O1 f m k→f j=0
 |0,k=>⟨akk _,akk _,fun h=>absurd h (by simp[O1]),fun j h1 h2=>by simp[O1]at h2;omega⟩
 |m+1,k=>by
  unfold O1;split
  ·rename_i h0;obtain⟨a,b,c,d⟩:=L4 f m (k+1);refine⟨by omega,by omega,fun h=>c (by omega),fun j h1 h2=>?_⟩;by_cases e:j=k
   ·rw[e];exact h0
   ·exact d j (by omega) h2
  ·rename_i h0;exact⟨by omega,by omega,fun _=>h0,fun j h1 h2=>by omega⟩
def eAt(f:Nat→Int)(n k:Nat):Int:=if k<n then f k else 0
def Q2(N:ab)(q:gy)(l:List bp):Nat:=O1 (nF N q l) l.length 0
def Gf(N:ab)(q:gy)(l:List bp):Int:=eAt (nF N q l) l.length (Q2 N q l)
theorem FZ{N:ab}{q:gy}{l:List bp}:Gf N q l=0↔∀k,k<l.length→nF N q l k=0:=by obtain⟨_,b,c,d⟩:=L4 (nF N q l) l.length 0;unfold Gf eAt Q2;grind
section
variable {N:ab} {q:gy} {l:List bp}
theorem aa0(h:uE N)(hl:l.length≤maxLen):ml [N.pv,q.pv,QS l]=some (.aO [.int .i64 (Q2 N q l),.int .i64 (Gf N q l)]):=by
 have hm:=aT;have hr:=bw;simp only[ml,uf,wK,wL,wM,wN,wO,wP,wQ,wR,wS,wT,Oo,Oq,Ot,Ou,Ov,Ow,Ox,Oy,Oz,OA,OB,jA,j0,U];refine(BD (fun j(_:Unit)=>(l.map bp.pv,N.stops.map Stop.pv,N.au.map aV.pv,N.runs.map dL.pv,N.bj.map bB.pv,N.paths.map Path.pv,N.aP.map aR.pv,N.bX,N.within,N.cap,q.src,q.dst,q.time,q.back,q.cB,q.walk,q.free,q.tw,q.cr,q.JA,l.map bp.pv,(j:Int),())) (fun j _=>some (PV.aO [.int .i64 ((O1 (nF N q l) (l.length-j) j:Nat):Int),.int .i64 (eAt (nF N q l) l.length (O1 (nF N q l) (l.length-j) j))])) l.length (fun j hj e rec q7=>?_) (fun e rec=>?_) (by omega) () rfl).trans (by rfl)
 ·unfold oX;dsimp only;rw[AI (by simp;omega)];simp only[OX,WQ h hj hl,U,aI,aj (show j<9223372036854775807 by omega),q7 (),WR _ hj];by_cases h0:nF N q l j=0
  ·simp_all
  simp_all[AI,IS,eAt]
 ·unfold oX;dsimp only;rw[IS (by simp),amt];simp[O1,eAt,BY,Nat.lt_irrefl,abp]
end
def l0(x:bp):Bool:=x.dK&& !x.stay
def wlB(x:bp):Bool:= !x.dK&&decide (x.dep≥0)&&decide (x.dep≤x.arr)&&decide (x.arr-x.dep≤14400)
def Oh:List bp→Int→Int
 |[],s=>s
 |x::r,s=>if wlB x=true then Oh r (s+(x.arr-x.dep))else Oh r s
theorem WS(x:bp)(r:List bp)(s:Int):Oh (x::r) s=if wlB x=true then Oh r (s+(x.arr-x.dep))else Oh r s:=rfl
theorem Q3{n:Int}(h:eP n): -9223372036854775808≤n∧n≤9223372036854775807:=by simp_all[mc,IntKind.min,IntKind.max,IntKind.signed,IntKind.bits]
theorem L5(l:List bp)(hl:l.length≤1000000)(ho:∀x∈l,x.Ok):iJ [QS l]=some (.int .i64 (Oh l 0)):=by
 simp only[iJ,vU,jA,j0,U,BY];refine BE (fun j s=>(s,l.map bp.pv,(l.length:Int),(j:Int),())) (fun j s=>some (PV.int .i64 (Oh (l.drop j) s))) (fun j s=>0≤s∧s≤14400*(j:Int)) l.length (fun j hj s rec hi q7=>?_) (fun s rec hi=>?_) (by unfold rounds;omega) 0 (by simp) rfl
 ·have hx:=ho _ (aki hj);have hd:=Q3 hx.dep;have ha:=Q3 hx.arr;unfold qu;dsimp only;rw[AI (by simp;omega),bS bp.pv l j hj,vT hj,WS];simp only[U,sM,rf,rn,re,sF,q9,sE,ri,rj,pX,bf,aj (show j<9223372036854775807 by omega)];by_cases c:wlB l[j]=true
  ·have c':=c;unfold wlB at c';simp only[No,akK,AT]at c';have hw:IntKind.i64.wrap (l[j].arr-l[j].dep)=l[j].arr-l[j].dep:=aY (by omega) (by omega);rw[hw,IS (by simp[c'.1.1.1];omega),AI c,aY (by omega) (by omega)];exact q7 _ (by omega)
  ·rw[IS c];have c':(l[j].dK||decide (l[j].dep<0)||decide (l[j].arr<l[j].dep)||decide (IntKind.i64.wrap (l[j].arr-l[j].dep)>14400))=true:=by
    unfold wlB at c;cases hr:l[j].dK with
    |true=>rfl
    |false=>rw[hr]at c;simp only[akz,ak4,No,AT,not_and]at c;simp only[alj,akp,AT];grind [aY]
   grind
 ·unfold qu;dsimp only;rw[IS (by simp),alM];rfl
end Go.Ab.Tt
