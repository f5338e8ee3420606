import Derived.Test.YtanikidijjaohaaGreatNkP2
namespace Go.Ab.Tt
set_option maxRecDepth 100000
set_option linter.unusedVariables false
set_option linter.unusedSimpArgs false
structure aT where
 bJ:Bool
 run:Int
 cw:Int
 br:Int
 src:Int
 dst:Int
 dep:Int
 arr:Int
 stay:Bool
 deriving DecidableEq
def aT.pv(x:aT):PV:=.agg [.bool x.bJ,.int .i64 x.run,.int .i64 x.cw,.int .i64 x.br,.int .i64 x.src,.int .i64 x.dst,.int .i64 x.dep,.int .i64 x.arr,.bool x.stay]
structure aT.lu(M:Nat)(x:aT):Prop where
 run:lM x.run
 cw:lM x.cw
 br:lM x.br
 src:lM x.src
 dst:lM x.dst
 dep:lM x.dep
 arr:lM x.arr
abbrev aT.Ok(x:aT):Prop:=x.lu maxLen
theorem iR(x:aT):asAgg 9 x.pv=some ():=rfl
theorem Qz(x:aT):PV.agg [cell x.pv 0,cell x.pv 1,cell x.pv 2,cell x.pv 3,cell x.pv 4,cell x.pv 5,cell x.pv 6,cell x.pv 7,cell x.pv 8]=x.pv:=rfl
theorem acm(x:aT):PV.agg [.bool x.bJ,.int .i64 x.run,.int .i64 x.cw,.int .i64 x.br,.int .i64 x.src,.int .i64 x.dst,.int .i64 x.dep,.int .i64 x.arr,.bool x.stay]=x.pv:=rfl
theorem gS(x:aT):Ab.asBool (cell x.pv 0)=some x.bJ:=rfl
theorem iS(x:aT):Ab.asInt .i64 (cell x.pv 1)=some x.run:=rfl
theorem iT(x:aT):Ab.asInt .i64 (cell x.pv 2)=some x.cw:=rfl
theorem jg(x:aT):Ab.asInt .i64 (cell x.pv 3)=some x.br:=rfl
theorem jh(x:aT):Ab.asInt .i64 (cell x.pv 4)=some x.src:=rfl
theorem iC(x:aT):Ab.asInt .i64 (cell x.pv 5)=some x.dst:=rfl
theorem iD(x:aT):Ab.asInt .i64 (cell x.pv 6)=some x.dep:=rfl
theorem gT(x:aT):Ab.asInt .i64 (cell x.pv 7)=some x.arr:=rfl
theorem gU(x:aT):Ab.asBool (cell x.pv 8)=some x.stay:=rfl
structure gZ where
 src:Int
 dst:Int
 time:Int
 back:Bool
 bQ:Int
 walk:Int
 free:Bool
 qq:Bool
 bK:Int
 vW:Bool
 deriving DecidableEq
def gZ.pv(x:gZ):PV:=.agg [.int .i64 x.src,.int .i64 x.dst,.int .i64 x.time,.bool x.back,.int .i64 x.bQ,.int .i64 x.walk,.bool x.free,.bool x.qq,.int .i64 x.bK,.bool x.vW]
structure gZ.lu(M:Nat)(x:gZ):Prop where
 src:lM x.src
 dst:lM x.dst
 time:lM x.time
 bQ:lM x.bQ
 walk:lM x.walk
 bK:lM x.bK
abbrev gZ.Ok(x:gZ):Prop:=x.lu maxLen
theorem pJ(x:gZ):asAgg 10 x.pv=some ():=rfl
theorem ahI(x:gZ):PV.agg [cell x.pv 0,cell x.pv 1,cell x.pv 2,cell x.pv 3,cell x.pv 4,cell x.pv 5,cell x.pv 6,cell x.pv 7,cell x.pv 8,cell x.pv 9]=x.pv:=rfl
theorem vX(x:gZ):PV.agg [.int .i64 x.src,.int .i64 x.dst,.int .i64 x.time,.bool x.back,.int .i64 x.bQ,.int .i64 x.walk,.bool x.free,.bool x.qq,.int .i64 x.bK,.bool x.vW]=x.pv:=rfl
theorem qt(x:gZ):Ab.asInt .i64 (cell x.pv 0)=some x.src:=rfl
theorem qu(x:gZ):Ab.asInt .i64 (cell x.pv 1)=some x.dst:=rfl
theorem qv(x:gZ):Ab.asInt .i64 (cell x.pv 2)=some x.time:=rfl
theorem qw(x:gZ):Ab.asBool (cell x.pv 3)=some x.back:=rfl
theorem qx(x:gZ):Ab.asInt .i64 (cell x.pv 4)=some x.bQ:=rfl
theorem qy(x:gZ):Ab.asInt .i64 (cell x.pv 5)=some x.walk:=rfl
theorem qz(x:gZ):Ab.asBool (cell x.pv 6)=some x.free:=rfl
theorem qA(x:gZ):Ab.asBool (cell x.pv 7)=some x.qq:=rfl
theorem qB(x:gZ):Ab.asInt .i64 (cell x.pv 8)=some x.bK:=rfl
theorem qC(x:gZ):Ab.asBool (cell x.pv 9)=some x.vW:=rfl
def fP(l:List aT):PV:=.agg [.rs 9 (l.map aT.pv)]
theorem jA(l:List aT):asAgg 1 (fP l)=some ():=rfl
theorem j0(l:List aT):aP 9 (cell (fP l) 0)=some (l.map aT.pv):=rfl
theorem jF(l:List aT):PV.agg [.rs 9 (l.map aT.pv)]=fP l:=rfl
def ij(N:ab)(q:gZ)(l:List aT)(i:Int):PV:=.agg [.rs 4 (N.stops.map Stop.pv),.rs 3 (N.aj.map ay.pv),.rs 8 (N.runs.map da.pv),.rs 5 (N.au.map ba.pv),.rs 4 (N.paths.map Path.pv),.rs 6 (N.aL.map aA.pv),.int .i64 N.bk,.int .i64 N.within,.int .i64 N.cap,.int .i64 q.src,.int .i64 q.dst,.int .i64 q.time,.bool q.back,.int .i64 q.bQ,.int .i64 q.walk,.bool q.free,.bool q.qq,.int .i64 q.bK,.bool q.vW,.rs 9 (l.map aT.pv),.int .i64 i]
section
variable (N:ab) (q:gZ) (l:List aT) (i:Int)
theorem Il:asAgg 21 (ij N q l i)=some ():=rfl
theorem QA:PV.agg [.rs 4 (N.stops.map Stop.pv),.rs 3 (N.aj.map ay.pv),.rs 8 (N.runs.map da.pv),.rs 5 (N.au.map ba.pv),.rs 4 (N.paths.map Path.pv),.rs 6 (N.aL.map aA.pv),.int .i64 N.bk,.int .i64 N.within,.int .i64 N.cap,.int .i64 q.src,.int .i64 q.dst,.int .i64 q.time,.bool q.back,.int .i64 q.bQ,.int .i64 q.walk,.bool q.free,.bool q.qq,.int .i64 q.bK,.bool q.vW,.rs 9 (l.map aT.pv),.int .i64 i]=ij N q l i:=rfl
theorem Im:aP 4 (cell (ij N q l i) 0)=some (N.stops.map Stop.pv):=rfl
theorem Io:aP 3 (cell (ij N q l i) 1)=some (N.aj.map ay.pv):=rfl
theorem Ip:aP 8 (cell (ij N q l i) 2)=some (N.runs.map da.pv):=rfl
theorem Iq:aP 5 (cell (ij N q l i) 3)=some (N.au.map ba.pv):=rfl
theorem Ir:aP 4 (cell (ij N q l i) 4)=some (N.paths.map Path.pv):=rfl
theorem Is:aP 6 (cell (ij N q l i) 5)=some (N.aL.map aA.pv):=rfl
theorem It:Ab.asInt .i64 (cell (ij N q l i) 6)=some N.bk:=rfl
theorem Iu:Ab.asInt .i64 (cell (ij N q l i) 7)=some N.within:=rfl
theorem Iv:Ab.asInt .i64 (cell (ij N q l i) 8)=some N.cap:=rfl
theorem Iw:Ab.asInt .i64 (cell (ij N q l i) 9)=some q.src:=rfl
theorem uH:Ab.asInt .i64 (cell (ij N q l i) 10)=some q.dst:=rfl
theorem uI:Ab.asInt .i64 (cell (ij N q l i) 11)=some q.time:=rfl
theorem uJ:Ab.asBool (cell (ij N q l i) 12)=some q.back:=rfl
theorem uK:Ab.asInt .i64 (cell (ij N q l i) 13)=some q.bQ:=rfl
theorem uL:Ab.asInt .i64 (cell (ij N q l i) 14)=some q.walk:=rfl
theorem uM:Ab.asBool (cell (ij N q l i) 15)=some q.free:=rfl
theorem uN:Ab.asBool (cell (ij N q l i) 16)=some q.qq:=rfl
theorem uO:Ab.asInt .i64 (cell (ij N q l i) 17)=some q.bK:=rfl
theorem uP:Ab.asBool (cell (ij N q l i) 18)=some q.vW:=rfl
theorem uQ:aP 9 (cell (ij N q l i) 19)=some (l.map aT.pv):=rfl
theorem uR:Ab.asInt .i64 (cell (ij N q l i) 20)=some i:=rfl
end
theorem aI(n:Int):Ab.asInt .i64 (.int .i64 n)=some n:=rfl
theorem aB(b:Bool):Ab.asBool (.bool b)=some b:=rfl
theorem aS(n:Nat)(l:List PV):Ab.aP n (.rs n l)=some l:=by simp[aP]
theorem Xy{A:Type}(f:A→PV)(l:List A)(i:Int):aD (l.map f) i=(if 0≤i then l[i.toNat]? else none).map f:=by
 unfold aD;split
 ·rw[IT]
 ·rfl
theorem bA{A:Type}(f:A→PV)(l:List A)(k:Nat)(hk:k<l.length):aD (l.map f) (k:Int)=some (f l[k]):=by rw[aW,IT,AI hk];rfl
theorem pK{n:Nat}(h:n≤9223372036854775807):IntKind.i64.wrap ((n:Int)-1)=(n:Int)-1:=bE (by omega) (by omega)
def qR(n a b:Int):Bool:=decide (n≥a)&&decide (n≤b)
theorem Ap(n a b:Int):bm [.int .i64 n,.int .i64 a,.int .i64 b]=some (.bool (qR n a b)):=by simp only[bm,qo,aI,U,bf,qR]
theorem Xz(n a b:Int):ef [.int .i64 n,.int .i64 a,.int .i64 b]=some (.bool (qR n a b)):=by simp only[ef,FZ,aI,U,bf,qR]
def qOk(n:Int)(q:gZ):Bool:=qR q.src 0 (n-1)&&qR q.dst 0 (n-1)&&qR q.time 0 3155932800&&qR q.bQ 0 8&&qR q.walk 0 86400&&qR q.bK 0 255&& !(q.vW&&q.back)
def oz(N:ab)(q:gZ):Int:=if(lE N).2.2=0 then(if qOk N.stops.length q=true then 0 else 22)else 21
theorem SV(N:ab)(q:gZ)(h:N.Ok)(hp:N.paths.length≤4096):dx [N.pv,q.pv]=some (.int .i64 (oz N q)):=by
 have hm:=bg;have hs:=h.stops.1;simp only[dx,lD,gw,gx,gy,gz,gA,gB,gC,gD,gE,gF,pJ,qt,qu,qv,qw,qx,qy,qz,qA,qB,qC,U,jj,F4 N h hp];simp only[iw,cZ,ajv,ajQ,aaV,U,ajE,ajD,aI,OF,pK (ajP hs hm),Ap,aB,bf,aY];unfold oz qOk;by_cases h0:(lE N).2.2=0
 ·rw[BK h0,h0];cases qR q.src 0 (N.stops.length-1)<;>cases qR q.dst 0 (N.stops.length-1)<;>cases qR q.time 0 3155932800<;>cases qR q.bQ 0 8<;>cases qR q.walk 0 86400<;>cases qR q.bK 0 255<;>cases q.vW<;>cases q.back<;>rfl
 ·rw[IN h0,BK (by simpa using h0)]
theorem aen(n:Nat)(hn:n≤9223372036854775807)(q:gZ):gd [.int .i64 n,q.pv]=some (.bool (qOk n q)):=by simp only[gd,oN,pJ,qt,qu,qv,qw,qx,qy,qz,qA,qB,qC,U,aI,pK hn,Xz,aB,bf,aY];unfold qOk;cases qR q.src 0 (n-1)<;>cases qR q.dst 0 (n-1)<;>cases qR q.time 0 3155932800<;>cases qR q.bQ 0 8<;>cases qR q.walk 0 86400<;>cases qR q.bK 0 255<;>cases q.vW<;>cases q.back<;>rfl
theorem F5(N:ab)(h:N.Ok)(hp:N.paths.length≤4096):il [N.pv]=some (.bool (decide ((lE N).2.2=0))):=by simp only[il,xV,gw,gx,gy,gz,gA,gB,gC,gD,gE,gF,U,jj,UG N h hp];simp only[iw,cZ,ajv,ajQ,aaV,U,ajE,ajD,aI,fa]
theorem XA(N:ab)(q:gZ)(h:N.Ok)(hp:N.paths.length≤4096):eH [N.pv,q.pv]=some (.int .i64 (oz N q)):=by
 have hm:=bg;have hs:=h.stops.1;simp only[eH,oP,gw,gx,gy,gz,gA,gB,gC,gD,gE,gF,pJ,qt,qu,qv,qw,qx,qy,qz,qA,qB,qC,U,jj,vX,F5 N h hp,OF,aen _ (ajP hs hm),aB];unfold oz;by_cases h0:(lE N).2.2=0
 ·rw[BK h0];simp only[h0];cases qOk N.stops.length q<;>rfl
 ·rw[IN h0];simp[h0]
structure jI(N:ab):Prop where
 ok:N.Ok
 paths:N.paths.length≤4096
 res:(lE N).2.2=0
variable{N:ab}
theorem jI.parts(h:jI N):(iF N.stops).2=0∧(gV N.aj).2=0∧(du N.aL N.bk N.within N.cap).2=0:=by
 have h:=h.res;unfold lE at h;by_cases h1:(iF N.stops).2=0
 ·rw[BK h1]at h;by_cases h2:(gV N.aj).2=0
  ·rw[BK h2]at h;by_cases h3:(q7 N.runs N.stops.length N.aj.length).2=0
   ·rw[BK h3]at h;by_cases h4:(kG N.runs N.au).2=0
    ·rw[BK h4]at h;by_cases h5:(cM N.paths N.stops.length).2=0
     ·rw[BK h5]at h;by_cases h6:(du N.aL N.bk N.within N.cap).2=0
      ·exact⟨h1,h2,h6⟩
      ·rw[IN h6]at h;exact absurd h h6
     ·rw[IN h5]at h;exact absurd h h5
    ·rw[IN h4]at h;exact absurd h h4
   ·rw[IN h3]at h;exact absurd h h3
  ·rw[IN h2]at h;exact absurd h h2
 ·rw[IN h1]at h;exact absurd h h1
theorem jI.stop(h:jI N):∀s∈N.stops,0≤s.qD∧s.qD<16∧0≤s.change∧s.change≤3600:=by
 intro s hs;obtain⟨k,hk,rfl⟩:=akn hs;have h1:=h.parts.1;unfold iF at h1;split at h1
 ·cases h1
 ·have:=(kH _ _).1 h1 k hk;unfold Ep at this;rw[AI hk]at this;simp only at this;split at this
  ·cases this
  ·split at this
   ·cases this
   ·split at this
    ·cases this
    ·rename_i hb;simp only[ajA,I5,amD]at hb;omega
theorem jI.eR(h:jI N):∀s∈N.aj,0≤s.mode∧s.mode<8:=by
 intro s hs;obtain⟨k,hk,rfl⟩:=akn hs;have h1:=h.parts.2.1;unfold gV at h1;split at h1
 ·cases h1
 ·have:=(kH _ _).1 h1 k hk;unfold Bj at this;rw[AI hk]at this;simp only at this;split at this
  ·cases this
  ·split at this
   ·cases this
   ·split at this
    ·cases this
    ·rename_i hb;simp only[amu,T1,I5]at hb;exact hb
theorem jI.run(h:jI N):∀r∈N.runs,∃t,N.aj[r.eR.toNat]?=some t∧0≤r.eR∧t∈N.aj:=by
 intro r hr;obtain⟨k,hk,rfl⟩:=akn hr;have:=F6 h.res k hk;unfold lF at this;rw[AI hk]at this;simp only at this;split at this
 ·cases this
 ·split at this
  ·cases this
  ·split at this
   ·cases this
   ·split at this
    ·cases this
    ·rename_i hb;simp only[ajA,I5,amD]at hb;have cd:(N.runs[k].eR).toNat<N.aj.length:=by omega
     exact⟨_,AI cd,by omega,ajz cd⟩
theorem jI.call(h:jI N):∀r∈N.runs,∀c∈r.calls,∃s,N.stops[c.stop.toNat]?=some s∧0≤c.stop∧s∈N.stops:=by
 intro r hr c hc;obtain⟨k,hk,rfl⟩:=akn hc;have:=LW (xY h.res r hr) k hk;unfold vY at this;rw[AI hk]at this;simp only at this;unfold SX at this;split at this
 ·cases this
 ·rename_i hb;simp only[ajA,I5,amD]at hb;have cd:(r.calls[k].stop).toNat<N.stops.length:=by omega
  exact⟨_,AI cd,by omega,ajz cd⟩
theorem bj{A:Type}(f:A→PV){l:List A}{i:Int}{a:A}(h0:0≤i)(h:l[i.toNat]?=some a):aD (l.map f) i=some (f a):=by rw[Xy,BK h0,h];rfl
def y5(N:ab)(x:aT):Option da:=if 0≤x.run then N.runs[x.run.toNat]? else none
def XB(N:ab)(x:aT):Bool:=match y5 N x with
 |some r=>decide (x.cw≥0)&&decide (x.cw<x.br)&&decide (x.br<(r.calls.length:Int))
 |none=>false
structure qE(N:ab)(x:aT)(r:da)(t:ay)(a b:bV):Prop where
 run:N.runs[x.run.toNat]?=some r
 vZ:0≤x.run
 eR:N.aj[r.eR.toNat]?=some t
 Cr:0≤r.eR
 cw:r.calls[x.cw.toNat]?=some a
 J4:0≤x.cw
 br:r.calls[x.br.toNat]?=some b
 Bk:0≤x.br
 lt:x.cw<x.br
 mem:r∈N.runs
 tm:t∈N.aj
theorem Aq(h:jI N){x:aT}(hx:XB N x=true):∃r t a b,qE N x r t a b:=by
 unfold XB at hx;cases hr:y5 N x with
 |none=>rw[hr]at hx;cases hx
 |some r=>
  rw[hr]at hx;simp only[T1,I5]at hx;unfold y5 at hr;split at hr
  ·rename_i h0;have hm:=ah3 hr;obtain⟨t,t1,t2,t3⟩:=h.run r hm;have ha:x.cw.toNat<r.calls.length:=by omega
   have hb:x.br.toNat<r.calls.length:=by omega
   exact⟨r,t,_,_,⟨hr,h0,t1,t2,AI ha,by omega,AI hb,by omega,by omega,hm,t3⟩⟩
  ·cases hr
theorem F7(N:ab)(x:aT):iU [N.pv,x.pv]=some (.bool (XB N x)):=by
 simp only[iU,vI,gw,gx,gy,gz,gA,gB,gC,gD,gE,gF,iR,gS,iS,iT,jg,jh,iC,iD,gT,gU,U,OF,aY,bf];unfold XB y5;by_cases h0:0≤x.run
 ·rw[BK h0];by_cases h1:x.run.toNat<N.runs.length
  ·rw[AI h1,IN (by simp;omega),bj da.pv h0 (AI h1)];simp only[U,Ar,aS,OF,bf]
  ·rw[ajr (by omega),BK (by simp;omega)]
 ·rw[IN h0,BK (by simp;omega)]
section
variable {N:ab} {q:gZ} {l:List aT} {k:Nat}
theorem qF(hk:k<l.length):aG [ij N q l k]=some l[k].pv:=by simp only[aG,kD,Il,Im,Io,Ip,Iq,Ir,Is,It,Iu,Iv,Iw,uH,uI,uJ,uK,uL,uM,uN,uO,uP,uQ,uR,U,bA aT.pv l k hk,Qz]
theorem J5(hk:k+1<l.length)(hl:l.length≤maxLen):bN [ij N q l ((k+1:Nat):Int)]=some l[k].pv:=by have hm:=bg;simp only[bN,gH,Il,Im,Io,Ip,Iq,Ir,Is,It,Iu,Iv,Iw,uH,uI,uJ,uK,uL,uM,uN,uO,uP,uQ,uR,U,mU k (by omega),bA aT.pv l k (by omega),Qz]
theorem abp(x:bV):PV.agg [cell x.pv 0,cell x.pv 1,cell x.pv 2,cell x.pv 3,cell x.pv 4]=x.pv:=rfl
theorem abq(x:bV):asAgg 5 x.pv=some ():=rfl
theorem XC(hk:k<l.length){r:da}{t:ay}{a b:bV}(h:qE N l[k] r t a b):dz [ij N q l k]=some a.pv:=by simp only[dz,jx,Il,Im,Io,Ip,Iq,Ir,Is,It,Iu,Iv,Iw,uH,uI,uJ,uK,uL,uM,uN,uO,uP,uQ,uR,U,QA,qF hk,iR,gS,iS,iT,jg,jh,iC,iD,gT,gU,bj da.pv h.vZ h.run,Ar,aS,bj bV.pv h.J4 h.cw,abp]
theorem Ix(hk:k<l.length){r:da}{t:ay}{a b:bV}(h:qE N l[k] r t a b):cG [ij N q l k]=some b.pv:=by simp only[cG,iQ,Il,Im,Io,Ip,Iq,Ir,Is,It,Iu,Iv,Iw,uH,uI,uJ,uK,uL,uM,uN,uO,uP,uQ,uR,U,QA,qF hk,iR,gS,iS,iT,jg,jh,iC,iD,gT,gU,bj da.pv h.vZ h.run,Ar,aS,bj bV.pv h.Bk h.br,abp]
end
theorem kJ{S R X:Type}{body:S→(S→Option R)→Option R}(st:Nat→X→S)(G:Nat→X→Option R)(n:Nat)(h:∀k,k<n→∀e rec,(∀e',rec (st (k+1) e')=G (k+1) e')→body (st k e) rec=G k e)(oG:∀e rec,body (st n e) rec=G n e)(hn:n<rounds)(e:X){s0:S}(h0:st 0 e=s0):bn.run body s0=G 0 e:=by
 have key:∀(m j N:Nat)(e:X),j+m=n→m<N→cR body N (st j e)=G j e:=by
  intro m;induction m with
  |zero=>
   intro j N e hj hN;cases N with
   |zero=>omega
   |succ N=>
    simp only[cR];have:j=n:=by omega
    subst this;exact oG _ _
  |succ m ih=>
   intro j N e hj hN;cases N with
   |zero=>omega
   |succ N=>simp only[cR];exact h j (by omega) e _ fun e'=>ih (j+1) N e' (by omega) (by omega)
 rw[←h0,mi];exact key n 0 rounds e (by omega) hn
theorem dv{A:Type}{l:List A}{k:Nat}(h:k<l.length):l.drop k=l[k]::l.drop (k+1):=alg h
def DD(N:ab)(x:aT):Bool:= !qR x.src 0 ((N.stops.length:Int)-1)|| !qR x.dst 0 ((N.stops.length:Int)-1)||(if x.bJ=true then !XB N x else(x.run !=0||x.cw !=0||x.br !=0||x.stay))
def LX(x:aT):Bool:= !qR x.dep 0 3155932800|| !qR x.arr 0 3155932800
def wkB(x:aT)(p:Path):Bool:=decide (p.a=x.src)&&decide (p.b=x.dst)&&decide (p.ez=IntKind.i64.wrap (x.arr-x.dep))
def wk(q:gZ)(x:aT):List Path→Int→Int
 |[],e=>e
 |p::r,e=>if wkB x p=true then(if(p.free|| !q.free)=true then 0 else wk q x r 29)else wk q x r e
def Iy(N:ab)(q:gZ)(i:Int):Bool:= !q.free||(match N.stops[i.toNat]? with|some s=>s.free|none=>false)
def XD(q:gZ)(t:ay):Bool:=q.bK !=0&&IntKind.i64.wrap (↑(BitVec.ofInt IntKind.i64.bits (q.bK.fdiv (2^min t.mode.toNat IntKind.i64.bits))&&&BitVec.ofInt IntKind.i64.bits 1).toNat:Int)==0
def F8(N:ab)(q:gZ)(x:aT)(r:da)(t:ay)(a b:bV):Int:=
 if(a.stop !=x.src||b.stop !=x.dst)=true then 24 else if(a.dep !=x.dep||b.arr !=x.arr)=true then 10 else if r.XE=true then 27
 else if(q.free&& !r.free)=true then 29 else if(q.qq&& !t.qq)=true then 30 else if XD q t=true then 31
 else if(!x.stay&& !a.cw)=true then 25 else if(!x.stay&& !Iy N q x.src)=true then 29 else 0
def XF(N:ab)(q:gZ)(x:aT):Int:=match y5 N x with
 |some r=>match N.aj[r.eR.toNat]?,r.calls[x.cw.toNat]?,r.calls[x.br.toNat]? with
  |some t,some a,some b=>F8 N q x r t a b
  |_,_,_=>0
 |none=>0
theorem LY{N:ab}{q:gZ}{x:aT}{r:da}{t:ay}{a b:bV}(h:qE N x r t a b):XF N q x=F8 N q x r t a b:=by unfold XF y5;rw[BK h.vZ,h.run];simp only[h.eR,h.cw,h.br]
def oQ(N:ab)(q:gZ)(x:aT):Int:=if DD N x=true then 9 else if LX x=true then 10 else if x.bJ=true then XF N q x else wk q x N.paths 18
section
variable {N:ab} {q:gZ} {l:List aT} {k:Nat}
theorem LZ(h:jI N):N.stops.length≤64:=Cs h.parts.1
theorem aah(h:jI N)(hk:k<l.length):cE [ij N q l k]=some (.int .i64 (if DD N l[k]=true then 9 else 0)):=by
 have hs:=LZ h;simp only[cE,fH,Il,Im,Io,Ip,Iq,Ir,Is,It,Iu,Iv,Iw,uH,uI,uJ,uK,uL,uM,uN,uO,uP,uQ,uR,U,QA,qF hk,iR,gS,iS,iT,jg,jh,iC,iD,gT,gU,OF,pK (show N.stops.length≤9223372036854775807 by omega),Ap,aB,aY,bf];unfold DD;cases oq:(!qR l[k].src 0 ((N.stops.length:Int)-1)|| !qR l[k].dst 0 ((N.stops.length:Int)-1))with
 |true=>rw[BK rfl];rfl
 |false=>
  rw[IN (by simp)];simp only[akz];cases hr:l[k].bJ with
  |false=>simp only[ajT,cond_true,U,By,abG,cond_false];cases(l[k].run !=0||l[k].cw !=0||l[k].br !=0||l[k].stay)<;>rfl
  |true=>
   simp only[ajx,cond_false,U,By,abG,cond_true,aaV];have Z4:N.runs.length≤9223372036854775807:=ajP h.ok.runs.1 bg;rw[pK Z4];unfold XB y5;by_cases h0:0≤l[k].run
   ·by_cases h1:l[k].run.toNat<N.runs.length
    ·have hb:qR l[k].run 0 ((N.runs.length:Int)-1)=true:=by simp[qR];omega
     rw[hb,BK h0,AI h1,bj da.pv h0 (AI h1)];simp only[U,Ar,aS,OF,ajx,akz,cond_false];by_cases c1:l[k].cw<0<;>by_cases c2:l[k].cw≥l[k].br<;>by_cases c3:l[k].br≥(N.runs[l[k].run.toNat].calls.length:Int)<;>simp[c1,c2,c3]<;>omega
    ·have hb:qR l[k].run 0 ((N.runs.length:Int)-1)=false:=by simp[qR];omega
     rw[hb,BK h0,ajr (by omega)];rfl
   ·have hb:qR l[k].run 0 ((N.runs.length:Int)-1)=false:=by simp[qR];omega
    rw[hb,IN h0];rfl
theorem aai(hk:k<l.length):db [ij N q l k]=some (.int .i64 (if LX l[k]=true then 10 else 0)):=by simp only[db,ig,Il,Im,Io,Ip,Iq,Ir,Is,It,Iu,Iv,Iw,uH,uI,uJ,uK,uL,uM,uN,uO,uP,uQ,uR,U,QA,qF hk,iR,gS,iS,iT,jg,jh,iC,iD,gT,gU,Ap,aB,aY];unfold LX;cases qR l[k].dep 0 3155932800<;>cases qR l[k].arr 0 3155932800<;>rfl
theorem SY(i:Int)(s:Stop)(h0:0≤i)(hs:N.stops[i.toNat]?=some s)(c:Int):c7 [ij N q l c,.int .i64 i]=some (.bool (Iy N q i)):=by simp only[c7,jZ,Il,Im,Io,Ip,Iq,Ir,Is,It,Iu,Iv,Iw,uH,uI,uJ,uK,uL,uM,uN,uO,uP,uQ,uR,U,aI,bj Stop.pv h0 hs];unfold Iy;rw[hs];cases q.free<;>rfl
theorem L2(i:Int)(s:Stop)(h0:0≤i)(hs:N.stops[i.toNat]?=some s):gW [N.pv,q.pv,.int .i64 i]=some (.bool (Iy N q i)):=by simp only[gW,Ae,gw,gx,gy,gz,gA,gB,gC,gD,gE,gF,pJ,qt,qu,qv,qw,qx,qy,qz,qA,qB,qC,U,aI,bj Stop.pv h0 hs];unfold Iy;rw[hs];cases q.free<;>rfl
end
theorem SZ(q:gZ)(x:aT)(p:Path)(r:List Path)(e:Int):wk q x (p::r) e=if wkB x p=true then(if(p.free|| !q.free)=true then 0 else wk q x r 29)else wk q x r e:=rfl
section
variable {N:ab} {q:gZ} {l:List aT} {k:Nat}
theorem aaj(h:jI N)(hk:k<l.length):dK [ij N q l k]=some (.int .i64 (if l[k].bJ=true then 0 else wk q l[k] N.paths 18)):=by
 have hp:=h.paths;simp only[dK,j1,Il,Im,Io,Ip,Iq,Ir,Is,It,Iu,Iv,Iw,uH,uI,uJ,uK,uL,uM,uN,uO,uP,uQ,uR,U,QA,qF hk,iR,gS,iS,iT,jg,jh,iC,iD,gT,gU,OF];by_cases hr:l[k].bJ=true
 ·rw[BK hr,BK hr]
 ·rw[IN hr,IN hr];refine kJ (fun j e=>(e,N.paths.map Path.pv,(N.paths.length:Int),(j:Int),N.stops.map Stop.pv,N.aj.map ay.pv,N.runs.map da.pv,N.au.map ba.pv,N.paths.map Path.pv,N.aL.map aA.pv,N.bk,N.within,N.cap,q.src,q.dst,q.time,q.back,q.bQ,q.walk,q.free,q.qq,q.bK,q.vW,l.map aT.pv,(k:Int),cell l[k].pv 0,cell l[k].pv 1,cell l[k].pv 2,cell l[k].pv 3,cell l[k].pv 4,cell l[k].pv 5,cell l[k].pv 6,cell l[k].pv 7,cell l[k].pv 8,())) (fun j e=>some (PV.int .i64 (wk q l[k] (N.paths.drop j) e))) N.paths.length (fun j hj e rec cA=>?_) (fun e rec=>?_) (by unfold rounds;omega) 18 rfl
  ·unfold im;dsimp only;have ai9:∀e',_:=cA;rw[BK (by simp;omega),bA Path.pv N.paths j hj];simp only[U,DE,DF,F9,Ga,aI,aB,iR,gS,iS,iT,jg,jh,iC,iD,gT,gU,bf,aY,ag (show j<9223372036854775807 by omega),cA];rw[dv hj,show(N.paths[j].a==l[k].src&&N.paths[j].b==l[k].dst&&N.paths[j].ez==IntKind.i64.wrap (l[k].arr-l[k].dep))=wkB l[k] N.paths[j] by unfold wkB;simp only[fa]];rw[SZ];cases wkB l[k] N.paths[j]<;>cases(N.paths[j].free|| !q.free)<;>simp
  ·unfold im;dsimp only;rw[IN (by simp),ajS];rfl
theorem XG(h:jI N)(x:aT):nv [N.pv,q.pv,x.pv]=some (.int .i64 (wk q x N.paths 18)):=by
 have hp:=h.paths;simp only[nv,Al,gw,gx,gy,gz,gA,gB,gC,gD,gE,gF,pJ,qt,qu,qv,qw,qx,qy,qz,qA,qB,qC,iR,gS,iS,iT,jg,jh,iC,iD,gT,gU,U];refine kJ (fun j e=>(e,(j:Int),N.stops.map Stop.pv,N.aj.map ay.pv,N.runs.map da.pv,N.au.map ba.pv,N.paths.map Path.pv,N.aL.map aA.pv,N.bk,N.within,N.cap,q.src,q.dst,q.time,q.back,q.bQ,q.walk,q.free,q.qq,q.bK,q.vW,x.bJ,x.run,x.cw,x.br,x.src,x.dst,x.dep,x.arr,x.stay,())) (fun j e=>some (PV.int .i64 (wk q x (N.paths.drop j) e))) N.paths.length (fun j hj e rec cA=>?_) (fun e rec=>?_) (by unfold rounds;omega) 18 rfl
 ·unfold tY;dsimp only;rw[BK (by simp;omega),bA Path.pv N.paths j hj];simp only[U,DE,DF,F9,Ga,aI,aB,bf,aY,ag (show j<9223372036854775807 by omega),cA];rw[dv hj,SZ];simp only[wkB,bne,fa];by_cases c1:N.paths[j].a=x.src<;>by_cases c2:N.paths[j].b=x.dst<;>by_cases c3:N.paths[j].ez=IntKind.i64.wrap (x.arr-x.dep)<;>cases N.paths[j].free<;>cases q.free<;>simp[c1,c2,c3]
 ·unfold tY;dsimp only;rw[IN (by simp),ajS];rfl
theorem Ct(x:bV):Ab.asInt .i64 (cell x.pv 0)=some x.stop:=rfl
theorem QB(x:bV):Ab.asInt .i64 (cell x.pv 1)=some x.arr:=rfl
theorem J6(x:bV):Ab.asInt .i64 (cell x.pv 2)=some x.dep:=rfl
theorem XH(x:bV):Ab.asBool (cell x.pv 3)=some x.cw:=rfl
theorem XI(x:bV):Ab.asBool (cell x.pv 4)=some x.br:=rfl
theorem yT(x:ay):Ab.asInt .i64 (cell x.pv 1)=some x.mode:=rfl
theorem S1(x:ay):Ab.asBool (cell x.pv 2)=some x.qq:=rfl
theorem ifI(c:Prop)[Decidable c](a b:Int):some (PV.int .i64 (if c then a else b))=if c then some (PV.int .i64 a)else some (PV.int .i64 b):=by split<;>rfl
theorem aak(h:jI N)(hk:k<l.length)(hr:l[k].bJ=true){r:da}{t:ay}{a b:bV}(hx:qE N l[k] r t a b){s:Stop}(hs:N.stops[l[k].src.toNat]?=some s)(Hk:0≤l[k].src):cy [ij N q l k]=some (.int .i64 (F8 N q l[k] r t a b)):=by have hm:=(h.eR t hx.tm).1;simp only[cy,gr,Il,Im,Io,Ip,Iq,Ir,Is,It,Iu,Iv,Iw,uH,uI,uJ,uK,uL,uM,uN,uO,uP,uQ,uR,U,QA,qF hk,iR,gS,iS,iT,jg,jh,iC,iD,gT,gU,hr,ajx,By,abG,bj da.pv hx.vZ hx.run,L3,acn,aco,aI,aB,bj ay.pv hx.Cr hx.eR,XC hk hx,Ix hk hx,abq,Ct,QB,J6,XH,yT,S1,aY,bf,SY _ s Hk hs];rw[IN (show¬t.mode<0 by omega)];simp only[bf,U];unfold F8 XD;simp only[ifI]
end
section
variable {N:ab} {q:gZ} {l:List aT} {k:Nat}
theorem XJ(hk:k<l.length)(hr:l[k].bJ=false):cy [ij N q l k]=some (.int .i64 0):=by simp only[cy,gr,Il,Im,Io,Ip,Iq,Ir,Is,It,Iu,Iv,Iw,uH,uI,uJ,uK,uL,uM,uN,uO,uP,uQ,uR,U,QA,qF hk,iR,gS,iS,iT,jg,jh,iC,iD,gT,gU,hr,ajT,aaV]
theorem su{x:aT}(h:DD N x=false):(∃s,N.stops[x.src.toNat]?=some s∧0≤x.src∧s∈N.stops)∧(∃s,N.stops[x.dst.toNat]?=some s∧0≤x.dst∧s∈N.stops)∧(x.bJ=true→XB N x=true)∧(x.bJ=false→x.stay=false):=by
 unfold DD at h;simp only[akg,akL,qR,T1,I5]at h;obtain⟨⟨⟨a1,a2⟩,b1,b2⟩,c⟩:=h;have h1:x.src.toNat<N.stops.length:=by omega
 have h2:x.dst.toNat<N.stops.length:=by omega
 refine⟨⟨_,AI h1,by omega,ajz h1⟩,⟨_,AI h2,by omega,ajz h2⟩,fun hr=>?_,fun hr=>?_⟩
 ·rw[BK hr]at c;simpa using c
 ·rw[IN (by simp[hr])]at c;simp only[akg]at c;exact c.2
theorem acp(h:jI N)(hk:k<l.length):eg [ij N q l k]=some (.int .i64 (oQ N q l[k])):=by
 simp only[eg,kF,Il,Im,Io,Ip,Iq,Ir,Is,It,Iu,Iv,Iw,uH,uI,uJ,uK,uL,uM,uN,uO,uP,uQ,uR,U,QA,aah h hk,aI];unfold oQ;cases hl:DD N l[k]with
 |true=>rfl
 |false=>
  obtain⟨⟨s,hs,Hk,_⟩,_,hx,ov⟩:=su hl;simp only[By,abG,aai hk,U,aI];rw[IN (by decide)];cases hmo:LX l[k]with
  |true=>rfl
  |false=>
   simp only[By,abG,aaj h hk,U,aI];rw[IN (by decide)];cases hr:l[k].bJ with
   |true=>
    obtain⟨r,t,a,b,jw⟩:=Aq h (hx hr);simp only[aaV,aak h hk hr jw hs Hk,U,aI,LY jw];rw[IN (by decide)];by_cases c:F8 N q l[k] r t a b=0
    ·rw[IN (by simp[c]),c]
    ·rw[BK (by simpa using c)]
   |false=>
    simp only[By,abG,XJ hk hr,U,aI];by_cases c:wk q l[k] N.paths 18=0
    ·rw[IN (by simp[c]),IN (by decide),c]
    ·rw[BK (by simpa using c)]
theorem XK(h:jI N){x:aT}{r:da}{t:ay}{a b:bV}(hx:qE N x r t a b){s:Stop}(hs:N.stops[x.src.toNat]?=some s)(Hk:0≤x.src):ny [N.pv,q.pv,x.pv]=some (.int .i64 (F8 N q x r t a b)):=by have hm:=(h.eR t hx.tm).1;simp only[ny,Ag,gw,gx,gy,gz,gA,gB,gC,gD,gE,gF,pJ,qt,qu,qv,qw,qx,qy,qz,qA,qB,qC,iR,gS,iS,iT,jg,jh,iC,iD,gT,gU,U,jj,vX,bj da.pv hx.vZ hx.run,L3,acn,aco,Ar,aI,aB,aS,bj bV.pv hx.J4 hx.cw,bj bV.pv hx.Bk hx.br,bj ay.pv hx.Cr hx.eR,Ct,QB,J6,XH,yT,S1,aY,bf,L2 _ s Hk hs];rw[IN (show¬t.mode<0 by omega)];simp only[bf,U];unfold F8 XD;simp only[ifI]
theorem aal(h:jI N)(x:aT):iV [N.pv,q.pv,x.pv]=some (.int .i64 (oQ N q x)):=by
 have hs:=LZ h;simp only[iV,sq,gw,gx,gy,gz,gA,gB,gC,gD,gE,gF,pJ,qt,qu,qv,qw,qx,qy,qz,qA,qB,qC,iR,gS,iS,iT,jg,jh,iC,iD,gT,gU,U,jj,vX,acm,OF,pK (show N.stops.length≤9223372036854775807 by omega),Xz,aB,aY,bf,F7];unfold oQ;have hc:(!qR x.src 0 ((N.stops.length:Int)-1)|| !qR x.dst 0 ((N.stops.length:Int)-1))=true∨(!qR x.src 0 ((N.stops.length:Int)-1)|| !qR x.dst 0 ((N.stops.length:Int)-1))=false:=by cases(!qR x.src 0 ((N.stops.length:Int)-1)|| !qR x.dst 0 ((N.stops.length:Int)-1))<;>simp
 rcases hc with hc|hc
 ·rw[BK hc,BK (by unfold DD;rw[hc];rfl)]
 ·rw[IN (by simp[hc])];have hl:DD N x=((x.bJ&& !XB N x)||(!x.bJ&&(x.run !=0||x.cw !=0||x.br !=0||x.stay))):=by unfold DD;rw[hc];cases x.bJ<;>simp
  rw[←hl];cases hlb:DD N x with
  |true=>rfl
  |false=>
   obtain⟨⟨s,hs,Hk,_⟩,_,hx,ov⟩:=su hlb;simp only[By,abG];unfold LX;cases(!qR x.dep 0 3155932800|| !qR x.arr 0 3155932800)with
   |true=>rfl
   |false=>
    simp only[By,abG];cases hr:x.bJ with
    |true=>
     obtain⟨r,t,a,b,jw⟩:=Aq h (hx hr);have hxf:PV.agg [.bool true,.int .i64 x.run,.int .i64 x.cw,.int .i64 x.br,.int .i64 x.src,.int .i64 x.dst,.int .i64 x.dep,.int .i64 x.arr,.bool x.stay]=x.pv:=by rw[←hr];rfl
     simp only[aaV,hxf,XK h jw hs Hk,U,aI,LY jw]
    |false=>
     have hxf:PV.agg [.bool false,.int .i64 x.run,.int .i64 x.cw,.int .i64 x.br,.int .i64 x.src,.int .i64 x.dst,.int .i64 x.dep,.int .i64 x.arr,.bool x.stay]=x.pv:=by rw[←hr];rfl
     simp only[By,abG,hxf,XG h,U,aI]
end
def lkB(a b:aT)(stay:Bool)(k:ba):Bool:=(k.a==a.run)&&(k.ac==a.br)&&(k.b==b.run)&&(k.bc==b.cw)&&(k.stay==stay)
def Gb(N:ab)(a b:aT)(stay:Bool):Bool:=N.au.any (lkB a b stay)
def S2(N:ab)(i:Int):Int:=match N.stops[i.toNat]? with|some s=>s.change|none=>0
def wa(N:ab)(q:gZ)(l:List aT)(x:aT):Int:=
 if(x.src !=q.src)=true then 24 else if x.stay=true then 19
 else if(!x.bJ&&(match l[1]? with|some y=>y.bJ&&y.dep !=x.arr|none=>false))=true then 10
 else if(!x.bJ&&decide (l.length=1)&&(if q.back=true then x.arr !=q.time else x.dep !=q.time))=true then 10
 else if(!q.back&&decide (x.dep<q.time))=true then 10
 else if(!q.back&&q.vW&&x.bJ&&decide (x.dep<IntKind.i64.wrap (q.time+S2 N q.src)))=true then 28 else 0
def oA(N:ab)(a b:aT):Int:=
 if(b.src !=a.dst)=true then 24 else if(!a.bJ&& !b.bJ)=true then 32 else if(b.stay&&(!a.bJ|| !Gb N a b true))=true then 19
 else if(b.stay&&decide (b.dep<a.arr))=true then 10 else if(!b.bJ&&b.dep !=a.arr)=true then 10 else 0
def q8(N:ab)(a b:aT):Int:=
 if(!b.bJ||b.stay)=true then 0 else if(!a.bJ)=true then(if decide (b.dep<a.arr)=true then 28 else 0)
 else if(decide (b.dep≥IntKind.i64.wrap (a.arr+S2 N b.src))||(decide (b.dep≥a.arr)&&Gb N a b false))=true then 0 else 28
def alB(N:ab)(x:aT):Bool:=match y5 N x with
 |some r=>(match r.calls[x.br.toNat]? with|some b=>b.br|none=>false)
 |none=>false
def As(N:ab)(q:gZ)(l:List aT)(k:Nat)(x:aT):Int:=if(!x.bJ||(match l[k+1]? with|some y=>y.stay|none=>false))=true then 0 else if(!alB N x)=true then 26 else if(!Iy N q x.dst)=true then 29 else 0
def cn(N:ab)(q:gZ)(l:List aT)(k:Nat):Int:=match l[k]? with
 |none=>0
 |some x=>if oQ N q x=0 then
   (let e:=if k=0 then wa N q l x else match l[k-1]? with
    |some a=>if oA N a x=0 then q8 N a x else oA N a x
    |none=>0
   if e=0 then As N q l k x else e)
  else oQ N q x
section
variable {N:ab} {q:gZ} {l:List aT} {k:Nat}
theorem Iz(h:jI N)(hk:k+1<l.length)(hl:l.length≤maxLen)(st:Bool):cH [ij N q l ((k+1:Nat):Int),.bool st]=some (.bool (Gb N l[k] l[k+1] st)):=by
 have hm:=bg;have hr:=bp;have HX:=h.ok.au.1;simp only[cH,iP,Il,Im,Io,Ip,Iq,Ir,Is,It,Iu,Iv,Iw,uH,uI,uJ,uK,uL,uM,uN,uO,uP,uQ,uR,U,QA,aB,J5 hk hl,qF hk,iR,OF];refine kJ (fun j(_:Unit)=>(st,N.au.map ba.pv,(N.au.length:Int),(j:Int),cell l[k].pv 0,cell l[k].pv 1,cell l[k].pv 2,cell l[k].pv 3,cell l[k].pv 4,cell l[k].pv 5,cell l[k].pv 6,cell l[k].pv 7,cell l[k].pv 8,cell l[k+1].pv 0,cell l[k+1].pv 1,cell l[k+1].pv 2,cell l[k+1].pv 3,cell l[k+1].pv 4,cell l[k+1].pv 5,cell l[k+1].pv 6,cell l[k+1].pv 7,cell l[k+1].pv 8,())) (fun j _=>some (PV.bool ((N.au.drop j).any (lkB l[k] l[k+1] st)))) N.au.length (fun j hj e rec cA=>?_) (fun e rec=>?_) (by omega) () rfl
 ·unfold gf;dsimp only;rw[BK (by simp;omega),bA ba.pv N.au j hj];simp only[U,Gd,L4,link2,L5,IA,aI,aB,iR,gS,iS,iT,jg,jh,iC,iD,gT,gU,bf,ag (show j<9223372036854775807 by omega),cA ()];rw[dv hj,akM];have hc:(N.au[j].stay==st&&N.au[j].a==l[k].run&&N.au[j].ac==l[k].br&&N.au[j].b==l[k+1].run&&N.au[j].bc==l[k+1].cw)=lkB l[k] l[k+1] st N.au[j]:=by unfold lkB;cases(N.au[j].stay==st)<;>cases(N.au[j].a==l[k].run)<;>cases(N.au[j].ac==l[k].br)<;>cases(N.au[j].b==l[k+1].run)<;>cases(N.au[j].bc==l[k+1].cw)<;>rfl
  rw[hc];cases lkB l[k] l[k+1] st N.au[j]<;>simp
 ·unfold gf;dsimp only;rw[IN (by simp),ajS];rfl
theorem QC(h:jI N)(a b:aT)(st:Bool):iW [N.pv,a.pv,b.pv,.bool st]=some (.bool (Gb N a b st)):=by
 have hm:=bg;have hr:=bp;have HX:=h.ok.au.1;simp only[iW,vQ,gw,gx,gy,gz,gA,gB,gC,gD,gE,gF,iR,gS,iS,iT,jg,jh,iC,iD,gT,gU,U,aB];refine kJ (fun j(_:Unit)=>(st,(j:Int),N.stops.map Stop.pv,N.aj.map ay.pv,N.runs.map da.pv,N.au.map ba.pv,N.paths.map Path.pv,N.aL.map aA.pv,N.bk,N.within,N.cap,a.bJ,a.run,a.cw,a.br,a.src,a.dst,a.dep,a.arr,a.stay,b.bJ,b.run,b.cw,b.br,b.src,b.dst,b.dep,b.arr,b.stay,())) (fun j _=>some (PV.bool ((N.au.drop j).any (lkB a b st)))) N.au.length (fun j hj e rec cA=>?_) (fun e rec=>?_) (by omega) () rfl
 ·unfold qG;dsimp only;rw[BK (by simp;omega),bA ba.pv N.au j hj];simp only[U,Gd,L4,link2,L5,IA,aI,aB,bf,ag (show j<9223372036854775807 by omega),cA ()];rw[dv hj,akM];show(if lkB a b st N.au[j]=true then _ else _)=_;cases lkB a b st N.au[j]<;>simp
 ·unfold qG;dsimp only;rw[IN (by simp),ajS];rfl
end
theorem J7(x:Stop):Ab.asInt .i64 (cell x.pv 3)=some x.change:=rfl
theorem xZ{A:Type}(f:A→PV)(l:List A)(k:Nat):aD (l.map f) (k:Int)=(l[k]?).map f:=by rw[aW,IT]
section
variable {N:ab} {q:gZ} {l:List aT} {k:Nat}
theorem J8{i:Int}{s:Stop}(hs:N.stops[i.toNat]?=some s):S2 N i=s.change:=by unfold S2;rw[hs]
theorem L6(l:List aT):aD (l.map aT.pv) 1=(l[1]?).map aT.pv:=xZ aT.pv l 1
theorem UH(hk:0<k):cm [ij N q l k]=some (.int .i64 0):=by simp only[cm,fG,Il,Im,Io,Ip,Iq,Ir,Is,It,Iu,Iv,Iw,uH,uI,uJ,uK,uL,uM,uN,uO,uP,uQ,uR,U];rw[BK (by simp;omega)]
theorem XL(hk:0<l.length)(hl:DD N l[0]=false):cm [ij N q l ((0:Nat):Int)]=some (.int .i64 (wa N q l l[0])):=by
 obtain⟨⟨s,hs,Hk,_⟩,_⟩:=su hl;simp only[cm,fG,Il,Im,Io,Ip,Iq,Ir,Is,It,Iu,Iv,Iw,uH,uI,uJ,uK,uL,uM,uN,uO,uP,uQ,uR,U,QA,qF hk,iR,gS,iS,iT,jg,jh,iC,iD,gT,gU,OF,L6,bf,aY,fa];rw[IN (by simp)];unfold wa;simp only[ifI];by_cases hc:l[0].src=q.src
 ·rw[←hc,bj Stop.pv Hk hs,J8 hs];simp only[U,J7,alM,By,abG];have h1:(decide ((l.length:Int)=1))=decide (l.length=1):=by by_cases h:l.length=1<;>simp[h]<;>omega
  rw[h1];cases ov:l[0].stay with
  |true=>rfl
  |false=>
   simp only[By,abG];cases h2:l[1]? with
   |none=>
    have hlen:l.length=1:=by have:=amp.1 h2;omega
    simp only[hlen,ajW,ajx,bf,U,amn,cond_false,Option.map_none,akY];cases l[0].bJ<;>cases q.back<;>cases q.vW<;>simp
   |some y=>
    have hlen:¬l.length=1:=by have:=(IS.1 h2).1;omega
    simp only[hlen,ajU,ajT,bf,U,akY,amn,ah5,iR,gS,iS,iT,jg,jh,iC,iD,gT,gU,cond_false];cases l[0].bJ<;>cases q.back<;>cases q.vW<;>simp<;>cases y.bJ<;>simp
 ·rw[BK (by simpa using hc),BK (by simpa using hc)]
theorem XM:cz [ij N q l ((0:Nat):Int)]=some (.int .i64 0):=by simp only[cz,gu,Il,Im,Io,Ip,Iq,Ir,Is,It,Iu,Iv,Iw,uH,uI,uJ,uK,uL,uM,uN,uO,uP,uQ,uR,U];rw[BK (by simp)]
theorem aam(h:jI N)(hk:k+1<l.length)(hl:l.length≤maxLen):cz [ij N q l ((k+1:Nat):Int)]=some (.int .i64 (oA N l[k] l[k+1])):=by simp only[cz,gu,Il,Im,Io,Ip,Iq,Ir,Is,It,Iu,Iv,Iw,uH,uI,uJ,uK,uL,uM,uN,uO,uP,uQ,uR,U,QA,J5 hk hl,qF hk,iR,gS,iS,iT,jg,jh,iC,iD,gT,gU,Iz h hk hl,aB,bf,aY];rw[IN (by simp;omega)];unfold oA;simp only[ifI]
theorem QD:bW [ij N q l ((0:Nat):Int)]=some (.int .i64 0):=by simp only[bW,fk,Il,Im,Io,Ip,Iq,Ir,Is,It,Iu,Iv,Iw,uH,uI,uJ,uK,uL,uM,uN,uO,uP,uQ,uR,U];rfl
theorem UI(h:jI N)(hk:k+1<l.length)(hl:l.length≤maxLen)(hs:DD N l[k+1]=false):bW [ij N q l ((k+1:Nat):Int)]=some (.int .i64 (q8 N l[k] l[k+1])):=by
 obtain⟨⟨s,hs,Hk,_⟩,_⟩:=su hs;simp only[bW,fk,Il,Im,Io,Ip,Iq,Ir,Is,It,Iu,Iv,Iw,uH,uI,uJ,uK,uL,uM,uN,uO,uP,uQ,uR,U,QA,J5 hk hl,qF hk,iR,gS,iS,iT,jg,jh,iC,iD,gT,gU,Iz h hk hl,aB,bf,aY,bj Stop.pv Hk hs,J7];have h0:(((k+1:Nat):Int)==0)=false:=by simp;omega
 rw[h0];unfold q8;simp only[ifI,J8 hs,Hz,ajT,cond_true];cases l[k+1].bJ<;>cases l[k+1].stay<;>rfl
theorem L7(h:jI N)(hk:k<l.length)(hl:l.length≤maxLen)(hs:DD N l[k]=false):dA [ij N q l k]=some (.int .i64 (As N q l k l[k])):=by
 have hm:=bg;obtain⟨_,⟨s,hs,Hk,_⟩,hx,_⟩:=su hs;simp only[dA,jz,Il,Im,Io,Ip,Iq,Ir,Is,It,Iu,Iv,Iw,uH,uI,uJ,uK,uL,uM,uN,uO,uP,uQ,uR,U,QA,qF hk,iR,gS,iS,iT,jg,jh,iC,iD,gT,gU,OF,ag (show k<9223372036854775807 by omega),xZ];unfold As;cases hr:l[k].bJ with
 |false=>rfl
 |true=>
  obtain⟨r,t,a,b,jw⟩:=Aq h (hx hr);have Jo:alB N l[k]=b.br:=by unfold alB y5;rw[BK jw.vZ,jw.run];simp only[jw.br]
  have ov:(bif decide (((k+1:Nat):Int)<(l.length:Int))then(Option.map aT.pv l[k+1]?).bind fun p=>(Ab.asBool (cell p 8)).bind fun b=>some b else some false)=some (match l[k+1]? with|some y=>y.stay|none=>false):=by
   by_cases cd:k+1<l.length
   ·rw[AI cd];simp only[ah5,U,gU];rw[akE (show((k+1:Nat):Int)<(l.length:Int) by omega)];rfl
   ·rw[ajr (by omega),akd (show¬((k+1:Nat):Int)<(l.length:Int) by omega)];rfl
  simp only[ajx,akz,cond_false,ov,U,Ix hk jw,abq,XI,aI,SY _ s Hk hs,aB,Jo,ifI];try (cases l[k+1]? <;>rfl)
theorem XN(h:jI N)(hk:k<l.length)(hl:l.length≤maxLen):dB [ij N q l k]=some (.int .i64 (cn N q l k)):=by
 simp only[dB,jy,Il,Im,Io,Ip,Iq,Ir,Is,It,Iu,Iv,Iw,uH,uI,uJ,uK,uL,uM,uN,uO,uP,uQ,uR,U,QA,acp h hk,aI];unfold cn;rw[AI hk];simp only;by_cases h0:oQ N q l[k]=0
 ·have Ob:DD N l[k]=false:=by
   unfold oQ at h0;cases hb:DD N l[k]with
   |false=>rfl
   |true=>rw[hb,BK rfl]at h0;cases h0
  rw[IN (by simp[h0]),BK h0];cases k with
  |zero=>
   simp only[XL hk Ob,U,aI,XM,QD,L7 h hk hl Ob,aaV];by_cases h1:wa N q l l[0]=0
   ·rw[IN (by simp[h1]),BK h1,IN (by decide),IN (by decide)];by_cases h2:As N q l 0 l[0]=0
    ·rw[IN (by simp[h2]),h2]
    ·rw[BK (by simpa using h2)]
   ·rw[BK (by simpa using h1),IN h1]
  |succ k=>
   have Dk:l[k+1-1]?=some l[k]:=by rw[ak3];exact AI (by omega)
   simp only[UH (N:=N) (q:=q) (l:=l) (Nat.succ_pos k),U,aI,aam h hk hl,UI h hk hl Ob,L7 h hk hl Ob,Dk];rw[IN (by decide),IN (show¬k+1=0 by omega)];by_cases h1:oA N l[k] l[k+1]=0
   ·rw[IN (by simp[h1])];simp only[h1,aaV];by_cases h3:q8 N l[k] l[k+1]=0
    ·rw[IN (by simp[h3]),BK h3];by_cases h2:As N q l (k+1) l[k+1]=0
     ·rw[IN (by simp[h2]),h2]
     ·rw[BK (by simpa using h2)]
    ·rw[BK (by simpa using h3),IN h3]
   ·rw[BK (by simpa using h1)];simp only[h1,abG]
 ·rw[BK (by simpa using h0),IN h0]
end
section
variable {N:ab} {q:gZ} {l:List aT} {k:Nat}
theorem UJ(l:List aT):aD (l.map aT.pv) 0=(l[0]?).map aT.pv:=xZ aT.pv l 0
theorem UK(hk:0<l.length)(hl:DD N l[0]=false)(hq:(q.vW&&q.back)=false):lQ [N.pv,q.pv,fP l]=some (.int .i64 (wa N q l l[0])):=by
 obtain⟨⟨s,hs,Hk,_⟩,_⟩:=su hl;simp only[lQ,xJ,gw,gx,gy,gz,gA,gB,gC,gD,gE,gF,pJ,qt,qu,qv,qw,qx,qy,qz,qA,qB,qC,jA,j0,U,UJ,AI hk,ah5,iR,gS,iS,iT,jg,jh,iC,iD,gT,gU,OF,L6,bf,aY,fa];unfold wa;simp only[ifI];by_cases hc:l[0].src=q.src
 ·rw[←hc,bj Stop.pv Hk hs,J8 hs];simp only[U,J7,alM,By,abG];have h1:(decide ((l.length:Int)=1))=decide (l.length=1):=by by_cases h:l.length=1<;>simp[h]<;>omega
  have h3:(decide ((l.length:Int)>1))= !decide (l.length=1):=by by_cases h:l.length=1<;>simp[h]<;>omega
  rw[h1,h3];cases ov:l[0].stay with
  |true=>rfl
  |false=>
   simp only[By,abG];cases h2:l[1]? with
   |none=>
    have hlen:l.length=1:=by have:=amp.1 h2;omega
    simp only[hlen,ajW,ajx,bf,U,amn,cond_false,Option.map_none,akY];cases l[0].bJ<;>cases hb:q.back<;>cases hg:q.vW<;>simp[hb,hg]at hq⊢
   |some y=>
    have hlen:¬l.length=1:=by have:=(IS.1 h2).1;omega
    simp only[hlen,ajU,ajT,bf,U,akY,amn,ah5,iR,gS,iS,iT,jg,jh,iC,iD,gT,gU,cond_false];cases l[0].bJ<;>cases hb:q.back<;>cases hg:q.vW<;>simp[hb,hg]at hq⊢<;>cases y.bJ<;>simp
 ·rw[BK (by simpa using hc),BK (by simpa using hc)]
theorem Ge(h:jI N){a b:aT}(hb:DD N b=false):fb [N.pv,a.pv,b.pv]=some (.int .i64 (if oA N a b=0 then q8 N a b else oA N a b)):=by
 obtain⟨⟨s,hs,Hk,_⟩,_,_,ov⟩:=su hb;simp only[fb,vV,gw,gx,gy,gz,gA,gB,gC,gD,gE,gF,iR,gS,iS,iT,jg,jh,iC,iD,gT,gU,U,jj,acm,QC h,aB,bf,aY];unfold oA q8;by_cases hc:b.src=a.dst
 ·rw[IN (by simp[hc]),←hc,bj Stop.pv Hk hs,J8 hs];simp only[U,J7,alM,By,abG,aY];cases hr:b.bJ with
  |false=>rw[ov hr];cases a.bJ<;>simp;by_cases hd:b.dep=a.arr<;>simp[hd]
  |true=>cases b.stay<;>cases a.bJ<;>cases Gb N a b true<;>cases Gb N a b false<;>by_cases h1:b.dep<a.arr<;>by_cases h2:b.dep≥IntKind.i64.wrap (a.arr+s.change)<;>simp[h1,h2,ifI]<;>(try omega)
 ·have hn:¬a.dst=b.src:=fun e=>hc e.symm;rw[BK (by simpa using hn)];simp[hc]
theorem J9(h:jI N)(hk:k<l.length)(hl:l.length≤maxLen)(hq:(q.vW&&q.back)=false):iq [N.pv,q.pv,fP l,.int .i64 k]=some (.int .i64 (cn N q l k)):=by
 have hm:=bg;simp only[iq,F0,gw,gx,gy,gz,gA,gB,gC,gD,gE,gF,pJ,qt,qu,qv,qw,qx,qy,qz,qA,qB,qC,jA,j0,U,aI,bA aT.pv l k hk,Qz,jj,vX,aal h,OF,ag (show k<9223372036854775807 by omega),xZ];unfold cn;rw[AI hk];simp only;by_cases h0:oQ N q l[k]=0
 ·have Ob:DD N l[k]=false:=by
   unfold oQ at h0;cases hb:DD N l[k]with
   |false=>rfl
   |true=>rw[hb,BK rfl]at h0;cases h0
  obtain⟨_,⟨s,hs,Hk,_⟩,hx,_⟩:=su Ob;have uS:(bif (((k+1:Nat):Int)==(l.length:Int))then some true else(Option.map aT.pv l[k+1]?).bind fun p=>(Ab.asBool (cell p 8)).bind fun b=>some !b)=some !(match l[k+1]? with|some y=>y.stay|none=>false):=by
   by_cases cd:k+1<l.length
   ·rw[AI cd];simp only[ah5,U,gU];rw[show(((k+1:Nat):Int)==(l.length:Int))=false by simp;omega];rfl
   ·rw[ajr (by omega),show(((k+1:Nat):Int)==(l.length:Int))=true by simp;omega];rfl
  have XO:((bif l[k].bJ then(bif (((k+1:Nat):Int)==(l.length:Int))then some true else(Option.map aT.pv l[k+1]?).bind fun p=>(Ab.asBool (cell p 8)).bind fun b=>some !b).bind fun r=>some r else some false).bind fun IB=>if IB=true then(Ab.asInt .i64 (cell l[k].pv 1)).bind fun n34=>(aD (N.runs.map da.pv) n34).bind fun Zh=>(aP 5 (cell Zh 7)).bind fun XP=>(Ab.asInt .i64 (cell l[k].pv 3)).bind fun n37=>(aD XP n37).bind fun p38=>(Ab.asBool (cell p38 4)).bind fun b39=>if(!b39)=true then some (PV.int .i64 26)else(Ab.asInt .i64 (cell l[k].pv 5)).bind fun n40=>(gW [N.pv,q.pv,PV.int .i64 n40]).bind fun r41=>(Ab.asBool r41).bind fun b42=>if(!b42)=true then some (PV.int .i64 29)else some (PV.int .i64 0)else some (PV.int .i64 0))=some (PV.int .i64 (As N q l k l[k])):=by
   unfold As;rw[uS];cases hr:l[k].bJ with
   |false=>rfl
   |true=>
    obtain⟨r,t,a,b,jw⟩:=Aq h (hx hr);have Jo:alB N l[k]=b.br:=by unfold alB y5;rw[BK jw.vZ,jw.run];simp only[jw.br]
    simp only[cond_true,U,iR,gS,iS,iT,jg,jh,iC,iD,gT,gU,bj da.pv jw.vZ jw.run,Ar,aS,bj bV.pv jw.Bk jw.br,XI,L2 _ s Hk hs,aB,Jo,ifI,ajx,akz];cases l[k+1]? with
    |none=>rfl
    |some y=>by_cases hy:y.stay=true<;>simp[hy]
  rw[IN (by simp[h0]),BK h0];cases k with
  |zero=>
   rw[BK (by simp),BK rfl];simp only[jF,UK hk Ob hq,U,aI];by_cases h1:wa N q l l[0]=0
   ·rw[IN (by simp[h1]),BK h1,←XO];simp only[iR,gS,iS,iT,jg,jh,iC,iD,gT,gU,U]
   ·rw[BK (by simpa using h1),IN h1]
  |succ k=>
   have Dk:l[k+1-1]?=some l[k]:=by rw[ak3];exact AI (by omega)
   rw[IN (by simp;omega),IN (show¬k+1=0 by omega),mU k (by omega),Dk];simp only[bA aT.pv l k (by omega),U,Qz,Ge h Ob,aI];by_cases h1:(if oA N l[k] l[k+1]=0 then q8 N l[k] l[k+1]else oA N l[k] l[k+1])=0
   ·rw[IN (by simp[h1]),BK h1,←XO];simp only[iR,gS,iS,iT,jg,jh,iC,iD,gT,gU,U]
   ·rw[BK (by simpa using h1),IN h1]
 ·rw[BK (by simpa using h0),IN h0]
end
theorem dL{S R X:Type}{body:S→(S→Option R)→Option R}(st:Nat→X→S)(G:Nat→X→Option R)(I:Nat→X→Prop)(n:Nat)(h:∀k,k<n→∀e rec,I k e→(∀e',I (k+1) e'→rec (st (k+1) e')=G (k+1) e')→body (st k e) rec=G k e)(oG:∀e rec,I n e→body (st n e) rec=G n e)(hn:n<rounds)(e:X)(he:I 0 e){s0:S}(h0:st 0 e=s0):bn.run body s0=G 0 e:=by
 have key:∀(m j N:Nat)(e:X),j+m=n→m<N→I j e→cR body N (st j e)=G j e:=by
  intro m;induction m with
  |zero=>
   intro j N e hj hN hi;cases N with
   |zero=>omega
   |succ N=>
    simp only[cR];have:j=n:=by omega
    subst this;exact oG _ _ hi
  |succ m ih=>
   intro j N e hj hN hi;cases N with
   |zero=>omega
   |succ N=>simp only[cR];exact h j (by omega) e _ hi fun e' ow=>ih (j+1) N e' (by omega) (by omega) ow
 rw[←h0,mi];exact key n 0 rounds e (by omega) hn he
def Hl(f:Nat→Int):Nat→Nat→Nat
 |0,k=>k
 |m+1,k=>if f k=0 then Hl f m (k+1)else k
theorem L8(f:Nat→Int){n j:Nat}(h:j<n):Hl f (n-j) j=if f j=0 then Hl f (n-(j+1)) (j+1)else j:=by
 have:n-j=(n-(j+1))+1:=by omega
 rw[this];rfl
theorem Gf(f:Nat→Int):∀m k,k≤Hl f m k∧Hl f m k≤k+m∧(Hl f m k<k+m→f (Hl f m k)≠0)∧∀j,k≤j→j<Hl f m k→f j=0
 |0,k=>⟨ajC _,ajC _,fun h=>absurd h (by simp[Hl]),fun j h1 h2=>by simp[Hl]at h2;omega⟩
 |m+1,k=>by
  unfold Hl;split
  ·rename_i h0;obtain⟨a,b,c,d⟩:=Gf f m (k+1);refine⟨by omega,by omega,fun h=>c (by omega),fun j h1 h2=>?_⟩;by_cases e:j=k
   ·rw[e];exact h0
   ·exact d j (by omega) h2
  ·rename_i h0;exact⟨by omega,by omega,fun _=>h0,fun j h1 h2=>by omega⟩
def XQ(f:Nat→Int)(n k:Nat):Int:=if k<n then f k else 0
def Bl(N:ab)(q:gZ)(l:List aT):Nat:=Hl (cn N q l) l.length 0
def sw(N:ab)(q:gZ)(l:List aT):Int:=XQ (cn N q l) l.length (Bl N q l)
theorem Au{N:ab}{q:gZ}{l:List aT}:sw N q l=0↔∀k,k<l.length→cn N q l k=0:=by
 obtain⟨_,b,c,d⟩:=Gf (cn N q l) l.length 0;unfold sw XQ Bl;constructor
 ·intro h k hk;split at h
  ·rename_i cd;exact absurd h (c (by omega))
  ·exact d k (ama _) (by omega)
 ·intro h;split
  ·rename_i cd;exact h _ cd
  ·rfl
section
variable {N:ab} {q:gZ} {l:List aT}
theorem S3(h:jI N)(hl:l.length≤maxLen):gL [N.pv,q.pv,fP l]=some (.bu [.int .i64 (Bl N q l),.int .i64 (sw N q l)]):=by
 have hm:=bg;have hr:=bp;simp only[gL,tR,gw,gx,gy,gz,gA,gB,gC,gD,gE,gF,pJ,qt,qu,qv,qw,qx,qy,qz,qA,qB,qC,jA,j0,U];refine(kJ (fun j(_:Unit)=>(l.map aT.pv,N.stops.map Stop.pv,N.aj.map ay.pv,N.runs.map da.pv,N.au.map ba.pv,N.paths.map Path.pv,N.aL.map aA.pv,N.bk,N.within,N.cap,q.src,q.dst,q.time,q.back,q.bQ,q.walk,q.free,q.qq,q.bK,q.vW,l.map aT.pv,(j:Int),())) (fun j _=>some (PV.bu [.int .i64 ((Hl (cn N q l) (l.length-j) j:Nat):Int),.int .i64 (XQ (cn N q l) l.length (Hl (cn N q l) (l.length-j) j))])) l.length (fun j hj e rec cA=>?_) (fun e rec=>?_) (by omega) () rfl).trans (by simp only[alC];rfl)
 ·unfold oR;dsimp only;rw[BK (by simp;omega)];simp only[QA,XN h hj hl,U,aI,ag (show j<9223372036854775807 by omega),cA (),L8 _ hj];by_cases h0:cn N q l j=0
  ·rw[IN (by simp[h0]),BK h0]
  ·rw[BK (by simpa using h0),IN h0];unfold XQ;rw[BK hj]
 ·unfold oR;dsimp only;rw[IN (by simp),alm];simp only[Hl,XQ,OF,am2,abG]
end
def bl(x:aT):Bool:=x.bJ&& !x.stay
def wlB(x:aT):Bool:= !x.bJ&&decide (x.dep≥0)&&decide (x.dep≤x.arr)&&decide (x.arr-x.dep≤14400)
def KY:List aT→Int→Int
 |[],s=>s
 |x::r,s=>if wlB x=true then KY r (s+(x.arr-x.dep))else KY r s
theorem L9(x:aT)(r:List aT)(s:Int):KY (x::r) s=if wlB x=true then KY r (s+(x.arr-x.dep))else KY r s:=rfl
theorem Er{n:Int}(h:lM n): -9223372036854775808≤n∧n≤9223372036854775807:=by have h:=(nf _ _).1 h;simpa[IntKind.min,IntKind.max,IntKind.signed,IntKind.bits]using h
theorem Ka(x:Int):IntKind.i64.wrap x=(x+9223372036854775808)%18446744073709551616-9223372036854775808:=by simp only[IntKind.wrap,IntKind.signed,IntKind.bits];simp;split<;>omega
theorem Ma(l:List aT)(hl:l.length≤1000000)(ho:∀x∈l,x.Ok):iX [fP l]=some (.int .i64 (KY l 0)):=by
 simp only[iX,vO,jA,j0,U,OF];refine dL (fun j s=>(s,l.map aT.pv,(l.length:Int),(j:Int),())) (fun j s=>some (PV.int .i64 (KY (l.drop j) s))) (fun j s=>0≤s∧s≤14400*(j:Int)) l.length (fun j hj s rec hi cA=>?_) (fun s rec hi=>?_) (by unfold rounds;omega) 0 (by simp) rfl
 ·have hx:=ho _ (ajz hj);have hd:=Er hx.dep;have ha:=Er hx.arr;unfold qH;dsimp only;rw[BK (by simp;omega),bA aT.pv l j hj,dv hj,L9];simp only[U,iR,gS,iS,iT,jg,jh,iC,iD,gT,gU,aY,ag (show j<9223372036854775807 by omega)];by_cases c:wlB l[j]=true
  ·have c':=c;unfold wlB at c';simp only[T1,ajF,I5]at c';have hw:IntKind.i64.wrap (l[j].arr-l[j].dep)=l[j].arr-l[j].dep:=bE (by omega) (by omega);rw[hw,IN (by simp[c'.1.1.1];omega),BK c,bE (by omega) (by omega)];exact cA _ (by omega)
  ·rw[IN c];have c':(l[j].bJ||decide (l[j].dep<0)||decide (l[j].arr<l[j].dep)||decide (IntKind.i64.wrap (l[j].arr-l[j].dep)>14400))=true:=by
    unfold wlB at c;cases hr:l[j].bJ with
    |true=>rfl
    |false=>
     rw[hr]at c;simp only[ajT,akp,T1,I5,not_and]at c;simp only[akz,ajA,I5];by_cases h1:l[j].dep<0
     ·exact .inl (.inl h1)
     ·by_cases h2:l[j].arr<l[j].dep
      ·exact .inl (.inr h2)
      ·refine .inr ?_;rw[bE (by omega) (by omega)];have:=c ⟨by omega,by omega⟩;omega
   rw[BK c'];exact cA _ (by omega)
 ·unfold qH;dsimp only;rw[IN (by simp),ajS];rfl
theorem Cu(l:List aT)(hl:l.length≤1000000)(ho:∀x∈l,x.Ok):jB [fP l]=some (.int .i64 (KY l 0)):=by
 simp only[jB,Ah,jA,j0,U];refine dL (fun j s=>(s,(j:Int),l.map aT.pv,())) (fun j s=>some (PV.int .i64 (KY (l.drop j) s))) (fun j s=>0≤s∧s≤14400*(j:Int)) l.length (fun j hj s rec hi cA=>?_) (fun s rec hi=>?_) (by unfold rounds;omega) 0 (by simp) rfl
 ·have hx:=ho _ (ajz hj);have hd:=Er hx.dep;have ha:=Er hx.arr;unfold tZ;dsimp only;rw[BK (by simp;omega),bA aT.pv l j hj,dv hj,L9];simp only[U,iR,gS,iS,iT,jg,jh,iC,iD,gT,gU,bf,ag (show j<9223372036854775807 by omega)];have hc:(!l[j].bJ&&decide (l[j].dep≥0)&&decide (l[j].dep≤l[j].arr)&&decide (IntKind.i64.wrap (l[j].arr-l[j].dep)≤14400))=wlB l[j]:=by
   unfold wlB;by_cases h1:l[j].dep≥0
   ·by_cases h2:l[j].dep≤l[j].arr
    ·rw[bE (by omega) (by omega)]
    ·simp[h2]
   ·simp[h1]
  rw[hc];by_cases c:wlB l[j]=true
  ·have c':=c;unfold wlB at c';simp only[T1,ajF,I5]at c';have hw:IntKind.i64.wrap (IntKind.i64.wrap (s+l[j].arr)-l[j].dep)=s+(l[j].arr-l[j].dep):=by rw[Ka,Ka];omega
   rw[BK c,BK c,hw];exact cA _ (by omega)
  ·rw[IN c,IN c];exact cA _ (by omega)
 ·unfold tZ;dsimp only;rw[IN (by simp),ajS];rfl
end Go.Ab.Tt
