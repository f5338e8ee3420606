import Derived.Test.YtanikidijjaohaaGreatNkP2
namespace Go.Ab.Tt
set_option maxRecDepth 100000
set_option linter.unusedVariables false
set_option linter.unusedSimpArgs false
structure cA where
 dr:Bool
 run:Int
 da:Int
 bq:Int
 src:Int
 dst:Int
 dep:Int
 arr:Int
 stay:Bool
 deriving DecidableEq
def cA.pv(x:cA):PV:=.agg [.bool x.dr,.int .i64 x.run,.int .i64 x.da,.int .i64 x.bq,.int .i64 x.src,.int .i64 x.dst,.int .i64 x.dep,.int .i64 x.arr,.bool x.stay]
structure cA.jR(M:Nat)(x:cA):Prop where
 run:lT x.run
 da:lT x.da
 bq:lT x.bq
 src:lT x.src
 dst:lT x.dst
 dep:lT x.dep
 arr:lT x.arr
abbrev cA.Ok(x:cA):Prop:=x.jR maxLen
theorem iy(x:cA):asAgg 9 x.pv=some ():=rfl
theorem Rn(x:cA):PV.agg [cell x.pv 0,cell x.pv 1,cell x.pv 2,cell x.pv 3,cell x.pv 4,cell x.pv 5,cell x.pv 6,cell x.pv 7,cell x.pv 8]=x.pv:=rfl
theorem abK(x:cA):PV.agg [.bool x.dr,.int .i64 x.run,.int .i64 x.da,.int .i64 x.bq,.int .i64 x.src,.int .i64 x.dst,.int .i64 x.dep,.int .i64 x.arr,.bool x.stay]=x.pv:=rfl
theorem iA(x:cA):Ab.asBool (cell x.pv 0)=some x.dr:=rfl
theorem iH(x:cA):Ab.asInt .i64 (cell x.pv 1)=some x.run:=rfl
theorem iI(x:cA):Ab.asInt .i64 (cell x.pv 2)=some x.da:=rfl
theorem iJ(x:cA):Ab.asInt .i64 (cell x.pv 3)=some x.bq:=rfl
theorem iK(x:cA):Ab.asInt .i64 (cell x.pv 4)=some x.src:=rfl
theorem iL(x:cA):Ab.asInt .i64 (cell x.pv 5)=some x.dst:=rfl
theorem iM(x:cA):Ab.asInt .i64 (cell x.pv 6)=some x.dep:=rfl
theorem iN(x:cA):Ab.asInt .i64 (cell x.pv 7)=some x.arr:=rfl
theorem gY(x:cA):Ab.asBool (cell x.pv 8)=some x.stay:=rfl
structure lf where
 src:Int
 dst:Int
 time:Int
 back:Bool
 cH:Int
 walk:Int
 free:Bool
 uC:Bool
 bM:Int
 B8:Bool
 deriving DecidableEq
def lf.pv(x:lf):PV:=.agg [.int .i64 x.src,.int .i64 x.dst,.int .i64 x.time,.bool x.back,.int .i64 x.cH,.int .i64 x.walk,.bool x.free,.bool x.uC,.int .i64 x.bM,.bool x.B8]
structure lf.jR(M:Nat)(x:lf):Prop where
 src:lT x.src
 dst:lT x.dst
 time:lT x.time
 cH:lT x.cH
 walk:lT x.walk
 bM:lT x.bM
abbrev lf.Ok(x:lf):Prop:=x.jR maxLen
theorem uD(x:lf):asAgg 10 x.pv=some ():=rfl
theorem ae0(x:lf):PV.agg [cell x.pv 0,cell x.pv 1,cell x.pv 2,cell x.pv 3,cell x.pv 4,cell x.pv 5,cell x.pv 6,cell x.pv 7,cell x.pv 8,cell x.pv 9]=x.pv:=rfl
theorem DF(x:lf):PV.agg [.int .i64 x.src,.int .i64 x.dst,.int .i64 x.time,.bool x.back,.int .i64 x.cH,.int .i64 x.walk,.bool x.free,.bool x.uC,.int .i64 x.bM,.bool x.B8]=x.pv:=rfl
theorem vH(x:lf):Ab.asInt .i64 (cell x.pv 0)=some x.src:=rfl
theorem vI(x:lf):Ab.asInt .i64 (cell x.pv 1)=some x.dst:=rfl
theorem vJ(x:lf):Ab.asInt .i64 (cell x.pv 2)=some x.time:=rfl
theorem vK(x:lf):Ab.asBool (cell x.pv 3)=some x.back:=rfl
theorem vL(x:lf):Ab.asInt .i64 (cell x.pv 4)=some x.cH:=rfl
theorem vM(x:lf):Ab.asInt .i64 (cell x.pv 5)=some x.walk:=rfl
theorem vN(x:lf):Ab.asBool (cell x.pv 6)=some x.free:=rfl
theorem vO(x:lf):Ab.asBool (cell x.pv 7)=some x.uC:=rfl
theorem vP(x:lf):Ab.asInt .i64 (cell x.pv 8)=some x.bM:=rfl
theorem vQ(x:lf):Ab.asBool (cell x.pv 9)=some x.B8:=rfl
def BN(l:List cA):PV:=.agg [.rs 9 (l.map cA.pv)]
theorem jA(l:List cA):asAgg 1 (BN l)=some ():=rfl
theorem j0(l:List cA):aQ 9 (cell (BN l) 0)=some (l.map cA.pv):=rfl
theorem jF(l:List cA):PV.agg [.rs 9 (l.map cA.pv)]=BN l:=rfl
def gq(N:ai)(q:lf)(l:List cA)(i:Int):PV:=.agg [.rs 4 (N.stops.map Stop.pv),.rs 3 (N.av.map aG.pv),.rs 8 (N.runs.map dH.pv),.rs 5 (N.aL.map bh.pv),.rs 4 (N.paths.map Path.pv),.rs 6 (N.aT.map aF.pv),.int .i64 N.bw,.int .i64 N.within,.int .i64 N.cap,.int .i64 q.src,.int .i64 q.dst,.int .i64 q.time,.bool q.back,.int .i64 q.cH,.int .i64 q.walk,.bool q.free,.bool q.uC,.int .i64 q.bM,.bool q.B8,.rs 9 (l.map cA.pv),.int .i64 i]
section
variable (N:ai) (q:lf) (l:List cA) (i:Int)
theorem FL:asAgg 21 (gq N q l i)=some ():=rfl
theorem NA:PV.agg [.rs 4 (N.stops.map Stop.pv),.rs 3 (N.av.map aG.pv),.rs 8 (N.runs.map dH.pv),.rs 5 (N.aL.map bh.pv),.rs 4 (N.paths.map Path.pv),.rs 6 (N.aT.map aF.pv),.int .i64 N.bw,.int .i64 N.within,.int .i64 N.cap,.int .i64 q.src,.int .i64 q.dst,.int .i64 q.time,.bool q.back,.int .i64 q.cH,.int .i64 q.walk,.bool q.free,.bool q.uC,.int .i64 q.bM,.bool q.B8,.rs 9 (l.map cA.pv),.int .i64 i]=gq N q l i:=rfl
theorem FM:aQ 4 (cell (gq N q l i) 0)=some (N.stops.map Stop.pv):=rfl
theorem FN:aQ 3 (cell (gq N q l i) 1)=some (N.av.map aG.pv):=rfl
theorem FO:aQ 8 (cell (gq N q l i) 2)=some (N.runs.map dH.pv):=rfl
theorem FP:aQ 5 (cell (gq N q l i) 3)=some (N.aL.map bh.pv):=rfl
theorem FQ:aQ 4 (cell (gq N q l i) 4)=some (N.paths.map Path.pv):=rfl
theorem FT:aQ 6 (cell (gq N q l i) 5)=some (N.aT.map aF.pv):=rfl
theorem FU:Ab.asInt .i64 (cell (gq N q l i) 6)=some N.bw:=rfl
theorem FV:Ab.asInt .i64 (cell (gq N q l i) 7)=some N.within:=rfl
theorem FW:Ab.asInt .i64 (cell (gq N q l i) 8)=some N.cap:=rfl
theorem FX:Ab.asInt .i64 (cell (gq N q l i) 9)=some q.src:=rfl
theorem sM:Ab.asInt .i64 (cell (gq N q l i) 10)=some q.dst:=rfl
theorem sN:Ab.asInt .i64 (cell (gq N q l i) 11)=some q.time:=rfl
theorem sO:Ab.asBool (cell (gq N q l i) 12)=some q.back:=rfl
theorem sP:Ab.asInt .i64 (cell (gq N q l i) 13)=some q.cH:=rfl
theorem sQ:Ab.asInt .i64 (cell (gq N q l i) 14)=some q.walk:=rfl
theorem sR:Ab.asBool (cell (gq N q l i) 15)=some q.free:=rfl
theorem sS:Ab.asBool (cell (gq N q l i) 16)=some q.uC:=rfl
theorem sT:Ab.asInt .i64 (cell (gq N q l i) 17)=some q.bM:=rfl
theorem sU:Ab.asBool (cell (gq N q l i) 18)=some q.B8:=rfl
theorem sV:aQ 9 (cell (gq N q l i) 19)=some (l.map cA.pv):=rfl
theorem sW:Ab.asInt .i64 (cell (gq N q l i) 20)=some i:=rfl
end
theorem aI(n:Int):Ab.asInt .i64 (.int .i64 n)=some n:=rfl
theorem aB(b:Bool):Ab.asBool (.bool b)=some b:=rfl
theorem aS(n:Nat)(l:List PV):Ab.aQ n (.rs n l)=some l:=by simp[aQ]
theorem T8{A:Type}(f:A→PV)(l:List A)(i:Int):aM (l.map f) i=(if 0≤i then l[i.toNat]? else none).map f:=by
 unfold aM;split
 ·rw[IS]
 ·rfl
theorem cj{A:Type}(f:A→PV)(l:List A)(k:Nat)(hk:k<l.length):aM (l.map f) (k:Int)=some (f l[k]):=by rw[aV,IS,AS hk];rfl
theorem vR{n:Nat}(h:n≤9223372036854775807):IntKind.i64.wrap ((n:Int)-1)=(n:Int)-1:=br (by omega) (by omega)
def qW(n a b:Int):Bool:=decide (n≥a)&&decide (n≤b)
theorem yr(n a b:Int):bj [.int .i64 n,.int .i64 a,.int .i64 b]=some (.bool (qW n a b)):=by simp only[bj,oI,aI,U,aY,qW]
theorem T9(n a b:Int):dL [.int .i64 n,.int .i64 a,.int .i64 b]=some (.bool (qW n a b)):=by simp only[dL,DA,aI,U,aY,qW]
def Yp(n:Int)(q:lf):Bool:=qW q.src 0 (n-1)&&qW q.dst 0 (n-1)&&qW q.time 0 3155932800&&qW q.cH 0 8&&qW q.walk 0 86400&&qW q.bM 0 255&& !(q.B8&&q.back)
def uq(N:ai)(q:lf):Int:=if(nk N).2.2=0 then(if Yp N.stops.length q=true then 0 else 22)else 21
theorem WE(N:ai)(q:lf)(h:N.Ok)(hp:N.paths.length≤4096):dY [N.pv,q.pv]=some (.int .i64 (uq N q)):=by
 have hm:=bf;have hs:=h.stops.1;simp only[dY,kz,jr,js,jt,ju,jw,jx,jy,jz,jB,jC,uD,vH,vI,vJ,vK,vL,vM,vN,vO,vP,vQ,U,nY,DG N h hp];simp only[gv,cO,agU,ahg,T1,U,agL,agH,aI,T0,vR (ahl hs hm),yr,aB,aY,aZ];unfold uq Yp;by_cases h0:(nk N).2.2=0
 ·rw[BY h0,h0];cases qW q.src 0 (N.stops.length-1)<;>cases qW q.dst 0 (N.stops.length-1)<;>cases qW q.time 0 3155932800<;>cases qW q.cH 0 8<;>cases qW q.walk 0 86400<;>cases qW q.bM 0 255<;>cases q.B8<;>cases q.back<;>rfl
 ·rw[IN h0,BY (by simpa using h0)]
theorem abL(n:Nat)(hn:n≤9223372036854775807)(q:lf):fD [.int .i64 n,q.pv]=some (.bool (Yp n q)):=by simp only[fD,nh,uD,vH,vI,vJ,vK,vL,vM,vN,vO,vP,vQ,U,aI,vR hn,T9,aB,aY,aZ];unfold Yp;cases qW q.src 0 (n-1)<;>cases qW q.dst 0 (n-1)<;>cases qW q.time 0 3155932800<;>cases qW q.cH 0 8<;>cases qW q.walk 0 86400<;>cases qW q.bM 0 255<;>cases q.B8<;>cases q.back<;>rfl
theorem I7(N:ai)(h:N.Ok)(hp:N.paths.length≤4096):iV [N.pv]=some (.bool (decide ((nk N).2.2=0))):=by simp only[iV,vF,jr,js,jt,ju,jw,jx,jy,jz,jB,jC,U,nY,Rp N h hp];simp only[gv,cO,agU,ahg,T1,U,agL,agH,aI,fR]
theorem ZZ(N:ai)(q:lf)(h:N.Ok)(hp:N.paths.length≤4096):fE [N.pv,q.pv]=some (.int .i64 (uq N q)):=by
 have hm:=bf;have hs:=h.stops.1;simp only[fE,nj,jr,js,jt,ju,jw,jx,jy,jz,jB,jC,uD,vH,vI,vJ,vK,vL,vM,vN,vO,vP,vQ,U,nY,DF,I7 N h hp,T0,abL _ (ahl hs hm),aB];unfold uq;by_cases h0:(nk N).2.2=0
 ·rw[BY h0];simp only[h0];cases Yp N.stops.length q<;>rfl
 ·rw[IN h0];simp[h0]
structure q8(N:ai):Prop where
 ok:N.Ok
 paths:N.paths.length≤4096
 res:(nk N).2.2=0
variable{N:ai}
theorem q8.parts(h:q8 N):(gA N.stops).2=0∧(gf N.av).2=0∧(db N.aT N.bw N.within N.cap).2=0:=by
 have h:=h.res;unfold nk at h;by_cases h1:(gA N.stops).2=0
 ·rw[BY h1]at h;by_cases h2:(gf N.av).2=0
  ·rw[BY h2]at h;by_cases h3:(pn N.runs N.stops.length N.av.length).2=0
   ·rw[BY h3]at h;by_cases h4:(me N.runs N.aL).2=0
    ·rw[BY h4]at h;by_cases h5:(cR N.paths N.stops.length).2=0
     ·rw[BY h5]at h;by_cases h6:(db N.aT N.bw N.within N.cap).2=0
      ·exact⟨h1,h2,h6⟩
      ·rw[IN h6]at h;exact absurd h h6
     ·rw[IN h5]at h;exact absurd h h5
    ·rw[IN h4]at h;exact absurd h h4
   ·rw[IN h3]at h;exact absurd h h3
  ·rw[IN h2]at h;exact absurd h h2
 ·rw[IN h1]at h;exact absurd h h1
theorem q8.stop(h:q8 N):∀s∈N.stops,0≤s.oK∧s.oK<16∧0≤s.change∧s.change≤3600:=by
 intro s hs;obtain⟨k,hk,rfl⟩:=ahT hs;have h1:=h.parts.1;unfold gA at h1;split at h1
 ·cases h1
 ·have:=(nm _ _).1 h1 k hk;unfold B9 at this;rw[AS hk]at this;simp only at this;split at this
  ·cases this
  ·split at this
   ·cases this
   ·split at this
    ·cases this
    ·rename_i hb;simp only[afk,No,ajV]at hb;omega
theorem q8.ep(h:q8 N):∀s∈N.av,0≤s.mode∧s.mode<8:=by
 intro s hs;obtain⟨k,hk,rfl⟩:=ahT hs;have h1:=h.parts.2.1;unfold gf at h1;split at h1
 ·cases h1
 ·have:=(nm _ _).1 h1 k hk;unfold zk at this;rw[AS hk]at this;simp only at this;split at this
  ·cases this
  ·split at this
   ·cases this
   ·split at this
    ·cases this
    ·rename_i hb;simp only[Bool.not_eq_false,T2,No]at hb;exact hb
theorem q8.run(h:q8 N):∀r∈N.runs,∃t,N.av[r.ep.toNat]?=some t∧0≤r.ep∧t∈N.av:=by
 intro r hr;obtain⟨k,hk,rfl⟩:=ahT hr;have:=DH h.res k hk;unfold kB at this;rw[AS hk]at this;simp only at this;split at this
 ·cases this
 ·split at this
  ·cases this
  ·split at this
   ·cases this
   ·split at this
    ·cases this
    ·rename_i hb;simp only[afk,No,ajV]at hb;have bS:(N.runs[k].ep).toNat<N.av.length:=by omega
     exact⟨_,AS bS,by omega,agQ bS⟩
theorem q8.call(h:q8 N):∀r∈N.runs,∀c∈r.calls,∃s,N.stops[c.stop.toNat]?=some s∧0≤c.stop∧s∈N.stops:=by
 intro r hr c hc;obtain⟨k,hk,rfl⟩:=ahT hc;have:=I8 (vS h.res r hr) k hk;unfold tV at this;rw[AS hk]at this;simp only at this;unfold PN at this;split at this
 ·cases this
 ·rename_i hb;simp only[afk,No,ajV]at hb;have bS:(r.calls[k].stop).toNat<N.stops.length:=by omega
  exact⟨_,AS bS,by omega,agQ bS⟩
theorem bg{A:Type}(f:A→PV){l:List A}{i:Int}{a:A}(h0:0≤i)(h:l[i.toNat]?=some a):aM (l.map f) i=some (f a):=by rw[T8,BY h0,h];rfl
def yt(N:ai)(x:cA):Option dH:=if 0≤x.run then N.runs[x.run.toNat]? else none
def VE(N:ai)(x:cA):Bool:=match yt N x with
 |some r=>decide (x.da≥0)&&decide (x.da<x.bq)&&decide (x.bq<(r.calls.length:Int))
 |none=>false
structure oL(N:ai)(x:cA)(r:dH)(t:aG)(a b:cK):Prop where
 run:N.runs[x.run.toNat]?=some r
 tW:0≤x.run
 ep:N.av[r.ep.toNat]?=some t
 Au:0≤r.ep
 da:r.calls[x.da.toNat]?=some a
 Hk:0≤x.da
 bq:r.calls[x.bq.toNat]?=some b
 zl:0≤x.bq
 lt:x.da<x.bq
 mem:r∈N.runs
 tm:t∈N.av
theorem yu(h:q8 N){x:cA}(hx:VE N x=true):∃r t a b,oL N x r t a b:=by
 unfold VE at hx;cases hr:yt N x with
 |none=>rw[hr]at hx;cases hx
 |some r=>
  rw[hr]at hx;simp only[T2,No]at hx;unfold yt at hr;split at hr
  ·rename_i h0;have hm:=aaQ hr;obtain⟨t,t1,t2,t3⟩:=h.run r hm;have ha:x.da.toNat<r.calls.length:=by omega
   have hb:x.bq.toNat<r.calls.length:=by omega
   exact⟨r,t,_,_,⟨hr,h0,t1,t2,AS ha,by omega,AS hb,by omega,by omega,hm,t3⟩⟩
  ·cases hr
theorem DJ(N:ai)(x:cA):gM [N.pv,x.pv]=some (.bool (VE N x)):=by
 simp only[gM,tJ,jr,js,jt,ju,jw,jx,jy,jz,jB,jC,iy,iA,iH,iI,iJ,iK,iL,iM,iN,gY,U,T0,aZ,aY];unfold VE yt;by_cases h0:0≤x.run
 ·rw[BY h0];by_cases h1:x.run.toNat<N.runs.length
  ·rw[AS h1,IN (by simp;omega),bg dH.pv h0 (AS h1)];simp only[U,zn,aS,T0,aY]
  ·rw[afi (by omega),BY (by simp;omega)]
 ·rw[IN h0,BY (by simp;omega)]
section
variable {N:ai} {q:lf} {l:List cA} {k:Nat}
theorem oM(hk:k<l.length):az [gq N q l k]=some l[k].pv:=by simp only[az,jP,FL,FM,FN,FO,FP,FQ,FT,FU,FV,FW,FX,sM,sN,sO,sP,sQ,sR,sS,sT,sU,sV,sW,U,cj cA.pv l k hk,Rn]
theorem Hl(hk:k+1<l.length)(hl:l.length≤maxLen):bC [gq N q l ((k+1:Nat):Int)]=some l[k].pv:=by have hm:=bf;simp only[bC,fT,FL,FM,FN,FO,FP,FQ,FT,FU,FV,FW,FX,sM,sN,sO,sP,sQ,sR,sS,sT,sU,sV,sW,U,lN k (by omega),cj cA.pv l k (by omega),Rn]
theorem Yq(x:cK):PV.agg [cell x.pv 0,cell x.pv 1,cell x.pv 2,cell x.pv 3,cell x.pv 4]=x.pv:=rfl
theorem Yr(x:cK):asAgg 5 x.pv=some ():=rfl
theorem Ua(hk:k<l.length){r:dH}{t:aG}{a b:cK}(h:oL N l[k] r t a b):dg [gq N q l k]=some a.pv:=by simp only[dg,iu,FL,FM,FN,FO,FP,FQ,FT,FU,FV,FW,FX,sM,sN,sO,sP,sQ,sR,sS,sT,sU,sV,sW,U,NA,oM hk,iy,iA,iH,iI,iJ,iK,iL,iM,iN,gY,bg dH.pv h.tW h.run,zn,aS,bg cK.pv h.Hk h.da,Yq]
theorem FY(hk:k<l.length){r:dH}{t:aG}{a b:cK}(h:oL N l[k] r t a b):cp [gq N q l k]=some b.pv:=by simp only[cp,gL,FL,FM,FN,FO,FP,FQ,FT,FU,FV,FW,FX,sM,sN,sO,sP,sQ,sR,sS,sT,sU,sV,sW,U,NA,oM hk,iy,iA,iH,iI,iJ,iK,iL,iM,iN,gY,bg dH.pv h.tW h.run,zn,aS,bg cK.pv h.zl h.bq,Yq]
end
theorem nZ{S R X:Type}{body:S→(S→Option R)→Option R}(st:Nat→X→S)(G:Nat→X→Option R)(n:Nat)(h:∀k,k<n→∀e rec,(∀e',rec (st (k+1) e')=G (k+1) e')→body (st k e) rec=G k e)(mZ:∀e rec,body (st n e) rec=G n e)(hn:n<rounds)(e:X){s0:S}(h0:st 0 e=s0):bx.run body s0=G 0 e:=by
 have key:∀(m j N:Nat)(e:X),j+m=n→m<N→cY body N (st j e)=G j e:=by
  intro m;induction m with
  |zero=>
   intro j N e hj hN;cases N with
   |zero=>omega
   |succ N=>
    simp only[cY];have:j=n:=by omega
    subst this;exact mZ _ _
  |succ m ih=>
   intro j N e hj hN;cases N with
   |zero=>omega
   |succ N=>simp only[cY];exact h j (by omega) e _ fun e'=>ih (j+1) N e' (by omega) (by omega)
 rw[←h0,lX];exact key n 0 rounds e (by omega) hn
theorem jj{A:Type}{l:List A}{k:Nat}(h:k<l.length):l.drop k=l[k]::l.drop (k+1):=aie h
def FZ(N:ai)(x:cA):Bool:= !qW x.src 0 ((N.stops.length:Int)-1)|| !qW x.dst 0 ((N.stops.length:Int)-1)||(if x.dr=true then !VE N x else(x.run !=0||x.da !=0||x.bq !=0||x.stay))
def I9(x:cA):Bool:= !qW x.dep 0 3155932800|| !qW x.arr 0 3155932800
def wkB(x:cA)(p:Path):Bool:=decide (p.a=x.src)&&decide (p.b=x.dst)&&decide (p.eS=IntKind.i64.wrap (x.arr-x.dep))
def wk(q:lf)(x:cA):List Path→Int→Int
 |[],e=>e
 |p::r,e=>if wkB x p=true then(if(p.free|| !q.free)=true then 0 else wk q x r 29)else wk q x r e
def F0(N:ai)(q:lf)(i:Int):Bool:= !q.free||(match N.stops[i.toNat]? with|some s=>s.free|none=>false)
def Ub(q:lf)(t:aG):Bool:=q.bM !=0&&IntKind.i64.wrap (↑(BitVec.ofInt IntKind.i64.bits (q.bM.fdiv (2^min t.mode.toNat IntKind.i64.bits))&&&BitVec.ofInt IntKind.i64.bits 1).toNat:Int)==0
def DK(N:ai)(q:lf)(x:cA)(r:dH)(t:aG)(a b:cK):Int:=
 if(a.stop !=x.src||b.stop !=x.dst)=true then 24 else if(a.dep !=x.dep||b.arr !=x.arr)=true then 10 else if r.Uc=true then 27
 else if(q.free&& !r.free)=true then 29 else if(q.uC&& !t.uC)=true then 30 else if Ub q t=true then 31
 else if(!x.stay&& !a.da)=true then 25 else if(!x.stay&& !F0 N q x.src)=true then 29 else 0
def Ud(N:ai)(q:lf)(x:cA):Int:=match yt N x with
 |some r=>match N.av[r.ep.toNat]?,r.calls[x.da.toNat]?,r.calls[x.bq.toNat]? with
  |some t,some a,some b=>DK N q x r t a b
  |_,_,_=>0
 |none=>0
theorem Ja{N:ai}{q:lf}{x:cA}{r:dH}{t:aG}{a b:cK}(h:oL N x r t a b):Ud N q x=DK N q x r t a b:=by unfold Ud yt;rw[BY h.tW,h.run];simp only[h.ep,h.da,h.bq]
def np(N:ai)(q:lf)(x:cA):Int:=if FZ N x=true then 9 else if I9 x=true then 10 else if x.dr=true then Ud N q x else wk q x N.paths 18
section
variable {N:ai} {q:lf} {l:List cA} {k:Nat}
theorem Jb(h:q8 N):N.stops.length≤64:=Av h.parts.1
theorem WG(h:q8 N)(hk:k<l.length):cm [gq N q l k]=some (.int .i64 (if FZ N l[k]=true then 9 else 0)):=by
 have hs:=Jb h;simp only[cm,fh,FL,FM,FN,FO,FP,FQ,FT,FU,FV,FW,FX,sM,sN,sO,sP,sQ,sR,sS,sT,sU,sV,sW,U,NA,oM hk,iy,iA,iH,iI,iJ,iK,iL,iM,iN,gY,T0,vR (show N.stops.length≤9223372036854775807 by omega),yr,aB,aZ,aY];unfold FZ;cases ov:(!qW l[k].src 0 ((N.stops.length:Int)-1)|| !qW l[k].dst 0 ((N.stops.length:Int)-1))with
 |true=>rw[BY rfl];rfl
 |false=>
  rw[IN (by simp)];simp only[ahA];cases hr:l[k].dr with
  |false=>simp only[agX,cond_true,U,AT,Xq,cond_false];cases(l[k].run !=0||l[k].da !=0||l[k].bq !=0||l[k].stay)<;>rfl
  |true=>
   simp only[afj,cond_false,U,AT,Xq,cond_true,T1];have Yd:N.runs.length≤9223372036854775807:=ahl h.ok.runs.1 bf;rw[vR Yd];unfold VE yt;by_cases h0:0≤l[k].run
   ·by_cases h1:l[k].run.toNat<N.runs.length
    ·have hb:qW l[k].run 0 ((N.runs.length:Int)-1)=true:=by simp[qW];omega
     rw[hb,BY h0,AS h1,bg dH.pv h0 (AS h1)];simp only[U,zn,aS,T0,afj,ahA,cond_false];by_cases c1:l[k].da<0<;>by_cases c2:l[k].da≥l[k].bq<;>by_cases c3:l[k].bq≥(N.runs[l[k].run.toNat].calls.length:Int)<;>simp[c1,c2,c3]<;>omega
    ·have hb:qW l[k].run 0 ((N.runs.length:Int)-1)=false:=by simp[qW];omega
     rw[hb,BY h0,afi (by omega)];rfl
   ·have hb:qW l[k].run 0 ((N.runs.length:Int)-1)=false:=by simp[qW];omega
    rw[hb,IN h0];rfl
theorem WH(hk:k<l.length):cS [gq N q l k]=some (.int .i64 (if I9 l[k]=true then 10 else 0)):=by simp only[cS,gp,FL,FM,FN,FO,FP,FQ,FT,FU,FV,FW,FX,sM,sN,sO,sP,sQ,sR,sS,sT,sU,sV,sW,U,NA,oM hk,iy,iA,iH,iI,iJ,iK,iL,iM,iN,gY,yr,aB,aZ];unfold I9;cases qW l[k].dep 0 3155932800<;>cases qW l[k].arr 0 3155932800<;>rfl
theorem PO(i:Int)(s:Stop)(h0:0≤i)(hs:N.stops[i.toNat]?=some s)(c:Int):cJ [gq N q l c,.int .i64 i]=some (.bool (F0 N q i)):=by simp only[cJ,iZ,FL,FM,FN,FO,FP,FQ,FT,FU,FV,FW,FX,sM,sN,sO,sP,sQ,sR,sS,sT,sU,sV,sW,U,aI,bg Stop.pv h0 hs];unfold F0;rw[hs];cases q.free<;>rfl
theorem Jc(i:Int)(s:Stop)(h0:0≤i)(hs:N.stops[i.toNat]?=some s):gg [N.pv,q.pv,.int .i64 i]=some (.bool (F0 N q i)):=by simp only[gg,xZ,jr,js,jt,ju,jw,jx,jy,jz,jB,jC,uD,vH,vI,vJ,vK,vL,vM,vN,vO,vP,vQ,U,aI,bg Stop.pv h0 hs];unfold F0;rw[hs];cases q.free<;>rfl
end
theorem PQ(q:lf)(x:cA)(p:Path)(r:List Path)(e:Int):wk q x (p::r) e=if wkB x p=true then(if(p.free|| !q.free)=true then 0 else wk q x r 29)else wk q x r e:=rfl
section
variable {N:ai} {q:lf} {l:List cA} {k:Nat}
theorem WI(h:q8 N)(hk:k<l.length):dy [gq N q l k]=some (.int .i64 (if l[k].dr=true then 0 else wk q l[k] N.paths 18)):=by
 have hp:=h.paths;simp only[dy,ja,FL,FM,FN,FO,FP,FQ,FT,FU,FV,FW,FX,sM,sN,sO,sP,sQ,sR,sS,sT,sU,sV,sW,U,NA,oM hk,iy,iA,iH,iI,iJ,iK,iL,iM,iN,gY,T0];by_cases hr:l[k].dr=true
 ·rw[BY hr,BY hr]
 ·rw[IN hr,IN hr];refine nZ (fun j e=>(e,N.paths.map Path.pv,(N.paths.length:Int),(j:Int),N.stops.map Stop.pv,N.av.map aG.pv,N.runs.map dH.pv,N.aL.map bh.pv,N.paths.map Path.pv,N.aT.map aF.pv,N.bw,N.within,N.cap,q.src,q.dst,q.time,q.back,q.cH,q.walk,q.free,q.uC,q.bM,q.B8,l.map cA.pv,(k:Int),cell l[k].pv 0,cell l[k].pv 1,cell l[k].pv 2,cell l[k].pv 3,cell l[k].pv 4,cell l[k].pv 5,cell l[k].pv 6,cell l[k].pv 7,cell l[k].pv 8,())) (fun j e=>some (PV.int .i64 (wk q l[k] (N.paths.drop j) e))) N.paths.length (fun j hj e rec fq=>?_) (fun e rec=>?_) (by unfold rounds;omega) 18 rfl
  ·unfold gr;dsimp only;have agp:∀e',_:=fq;rw[BY (by simp;omega),cj Path.pv N.paths j hj];simp only[U,DL,DM,F1,DN,aI,aB,iy,iA,iH,iI,iJ,iK,iL,iM,iN,gY,aY,aZ,ah (show j<9223372036854775807 by omega),fq];rw[jj hj,show(N.paths[j].a==l[k].src&&N.paths[j].b==l[k].dst&&N.paths[j].eS==IntKind.i64.wrap (l[k].arr-l[k].dep))=wkB l[k] N.paths[j] by unfold wkB;simp only[fR]];rw[PQ];cases wkB l[k] N.paths[j]<;>cases(N.paths[j].free|| !q.free)<;>simp
  ·unfold gr;dsimp only;rw[IN (by simp),ahe];rfl
theorem Ue(h:q8 N)(x:cA):mf [N.pv,q.pv,x.pv]=some (.int .i64 (wk q x N.paths 18)):=by
 have hp:=h.paths;simp only[mf,yo,jr,js,jt,ju,jw,jx,jy,jz,jB,jC,uD,vH,vI,vJ,vK,vL,vM,vN,vO,vP,vQ,iy,iA,iH,iI,iJ,iK,iL,iM,iN,gY,U];refine nZ (fun j e=>(e,(j:Int),N.stops.map Stop.pv,N.av.map aG.pv,N.runs.map dH.pv,N.aL.map bh.pv,N.paths.map Path.pv,N.aT.map aF.pv,N.bw,N.within,N.cap,q.src,q.dst,q.time,q.back,q.cH,q.walk,q.free,q.uC,q.bM,q.B8,x.dr,x.run,x.da,x.bq,x.src,x.dst,x.dep,x.arr,x.stay,())) (fun j e=>some (PV.int .i64 (wk q x (N.paths.drop j) e))) N.paths.length (fun j hj e rec fq=>?_) (fun e rec=>?_) (by unfold rounds;omega) 18 rfl
 ·unfold sc;dsimp only;rw[BY (by simp;omega),cj Path.pv N.paths j hj];simp only[U,DL,DM,F1,DN,aI,aB,aY,aZ,ah (show j<9223372036854775807 by omega),fq];rw[jj hj,PQ];simp only[wkB,bne,fR];by_cases c1:N.paths[j].a=x.src<;>by_cases c2:N.paths[j].b=x.dst<;>by_cases c3:N.paths[j].eS=IntKind.i64.wrap (x.arr-x.dep)<;>cases N.paths[j].free<;>cases q.free<;>simp[c1,c2,c3]
 ·unfold sc;dsimp only;rw[IN (by simp),ahe];rfl
theorem Hm(x:cK):Ab.asInt .i64 (cell x.pv 0)=some x.stop:=rfl
theorem Uf(x:cK):Ab.asInt .i64 (cell x.pv 1)=some x.arr:=rfl
theorem Ug(x:cK):Ab.asInt .i64 (cell x.pv 2)=some x.dep:=rfl
theorem Uh(x:cK):Ab.asBool (cell x.pv 3)=some x.da:=rfl
theorem Ui(x:cK):Ab.asBool (cell x.pv 4)=some x.bq:=rfl
theorem wN(x:aG):Ab.asInt .i64 (cell x.pv 1)=some x.mode:=rfl
theorem PR(x:aG):Ab.asBool (cell x.pv 2)=some x.uC:=rfl
theorem WJ(c:Prop)[Decidable c](a b:Int):some (PV.int .i64 (if c then a else b))=if c then some (PV.int .i64 a)else some (PV.int .i64 b):=by split<;>rfl
theorem WK(h:q8 N)(hk:k<l.length)(hr:l[k].dr=true){r:dH}{t:aG}{a b:cK}(hx:oL N l[k] r t a b){s:Stop}(hs:N.stops[l[k].src.toNat]?=some s)(EK:0≤l[k].src):bZ [gq N q l k]=some (.int .i64 (DK N q l[k] r t a b)):=by have hm:=(h.ep t hx.tm).1;simp only[bZ,fN,FL,FM,FN,FO,FP,FQ,FT,FU,FV,FW,FX,sM,sN,sO,sP,sQ,sR,sS,sT,sU,sV,sW,U,NA,oM hk,iy,iA,iH,iI,iJ,iK,iL,iM,iN,gY,hr,afj,AT,Xq,bg dH.pv hx.tW hx.run,Jd,Z0,Z1,aI,aB,bg aG.pv hx.Au hx.ep,Ua hk hx,FY hk hx,Yr,Hm,Uf,Ug,Uh,wN,PR,aZ,aY,PO _ s EK hs];rw[IN (show¬t.mode<0 by omega)];simp only[aY,U];unfold DK Ub;simp only[WJ]
end
section
variable {N:ai} {q:lf} {l:List cA} {k:Nat}
theorem Uj(hk:k<l.length)(hr:l[k].dr=false):bZ [gq N q l k]=some (.int .i64 0):=by simp only[bZ,fN,FL,FM,FN,FO,FP,FQ,FT,FU,FV,FW,FX,sM,sN,sO,sP,sQ,sR,sS,sT,sU,sV,sW,U,NA,oM hk,iy,iA,iH,iI,iJ,iK,iL,iM,iN,gY,hr,agX,T1]
theorem qz{x:cA}(h:FZ N x=false):(∃s,N.stops[x.src.toNat]?=some s∧0≤x.src∧s∈N.stops)∧(∃s,N.stops[x.dst.toNat]?=some s∧0≤x.dst∧s∈N.stops)∧(x.dr=true→VE N x=true)∧(x.dr=false→x.stay=false):=by
 unfold FZ at h;simp only[ahi,ahF,qW,T2,No]at h;obtain⟨⟨⟨a1,a2⟩,b1,b2⟩,c⟩:=h;have h1:x.src.toNat<N.stops.length:=by omega
 have h2:x.dst.toNat<N.stops.length:=by omega
 refine⟨⟨_,AS h1,by omega,agQ h1⟩,⟨_,AS h2,by omega,agQ h2⟩,fun hr=>?_,fun hr=>?_⟩
 ·rw[BY hr]at c;simpa using c
 ·rw[IN (by simp[hr])]at c;simp only[ahi]at c;exact c.2
theorem Z2(h:q8 N)(hk:k<l.length):dM [gq N q l k]=some (.int .i64 (np N q l[k])):=by
 simp only[dM,jQ,FL,FM,FN,FO,FP,FQ,FT,FU,FV,FW,FX,sM,sN,sO,sP,sQ,sR,sS,sT,sU,sV,sW,U,NA,WG h hk,aI];unfold np;cases hl:FZ N l[k]with
 |true=>rfl
 |false=>
  obtain⟨⟨s,hs,EK,_⟩,_,hx,pw⟩:=qz hl;simp only[AT,Xq,WH hk,U,aI];rw[IN (by decide)];cases hmo:I9 l[k]with
  |true=>rfl
  |false=>
   simp only[AT,Xq,WI h hk,U,aI];rw[IN (by decide)];cases hr:l[k].dr with
   |true=>
    obtain⟨r,t,a,b,iF⟩:=yu h (hx hr);simp only[T1,WK h hk hr iF hs EK,U,aI,Ja iF];rw[IN (by decide)];by_cases c:DK N q l[k] r t a b=0
    ·rw[IN (by simp[c]),c]
    ·rw[BY (by simpa using c)]
   |false=>
    simp only[AT,Xq,Uj hk hr,U,aI];by_cases c:wk q l[k] N.paths 18=0
    ·rw[IN (by simp[c]),IN (by decide),c]
    ·rw[BY (by simpa using c)]
theorem Uk(h:q8 N){x:cA}{r:dH}{t:aG}{a b:cK}(hx:oL N x r t a b){s:Stop}(hs:N.stops[x.src.toNat]?=some s)(EK:0≤x.src):mh [N.pv,q.pv,x.pv]=some (.int .i64 (DK N q x r t a b)):=by have hm:=(h.ep t hx.tm).1;simp only[mh,ye,jr,js,jt,ju,jw,jx,jy,jz,jB,jC,uD,vH,vI,vJ,vK,vL,vM,vN,vO,vP,vQ,iy,iA,iH,iI,iJ,iK,iL,iM,iN,gY,U,nY,DF,bg dH.pv hx.tW hx.run,Jd,Z0,Z1,zn,aI,aB,aS,bg cK.pv hx.Hk hx.da,bg cK.pv hx.zl hx.bq,bg aG.pv hx.Au hx.ep,Hm,Uf,Ug,Uh,wN,PR,aZ,aY,Jc _ s EK hs];rw[IN (show¬t.mode<0 by omega)];simp only[aY,U];unfold DK Ub;simp only[WJ]
theorem WL(h:q8 N)(x:cA):gN [N.pv,q.pv,x.pv]=some (.int .i64 (np N q x)):=by
 have hs:=Jb h;simp only[gN,qy,jr,js,jt,ju,jw,jx,jy,jz,jB,jC,uD,vH,vI,vJ,vK,vL,vM,vN,vO,vP,vQ,iy,iA,iH,iI,iJ,iK,iL,iM,iN,gY,U,nY,DF,abK,T0,vR (show N.stops.length≤9223372036854775807 by omega),T9,aB,aZ,aY,DJ];unfold np;have hc:(!qW x.src 0 ((N.stops.length:Int)-1)|| !qW x.dst 0 ((N.stops.length:Int)-1))=true∨(!qW x.src 0 ((N.stops.length:Int)-1)|| !qW x.dst 0 ((N.stops.length:Int)-1))=false:=by cases(!qW x.src 0 ((N.stops.length:Int)-1)|| !qW x.dst 0 ((N.stops.length:Int)-1))<;>simp
 rcases hc with hc|hc
 ·rw[BY hc,BY (by unfold FZ;rw[hc];rfl)]
 ·rw[IN (by simp[hc])];have hl:FZ N x=((x.dr&& !VE N x)||(!x.dr&&(x.run !=0||x.da !=0||x.bq !=0||x.stay))):=by unfold FZ;rw[hc];cases x.dr<;>simp
  rw[←hl];cases hlb:FZ N x with
  |true=>rfl
  |false=>
   obtain⟨⟨s,hs,EK,_⟩,_,hx,pw⟩:=qz hlb;simp only[AT,Xq];unfold I9;cases(!qW x.dep 0 3155932800|| !qW x.arr 0 3155932800)with
   |true=>rfl
   |false=>
    simp only[AT,Xq];cases hr:x.dr with
    |true=>
     obtain⟨r,t,a,b,iF⟩:=yu h (hx hr);have hxf:PV.agg [.bool true,.int .i64 x.run,.int .i64 x.da,.int .i64 x.bq,.int .i64 x.src,.int .i64 x.dst,.int .i64 x.dep,.int .i64 x.arr,.bool x.stay]=x.pv:=by rw[←hr];rfl
     simp only[T1,hxf,Uk h iF hs EK,U,aI,Ja iF]
    |false=>
     have hxf:PV.agg [.bool false,.int .i64 x.run,.int .i64 x.da,.int .i64 x.bq,.int .i64 x.src,.int .i64 x.dst,.int .i64 x.dep,.int .i64 x.arr,.bool x.stay]=x.pv:=by rw[←hr];rfl
     simp only[AT,Xq,hxf,Ue h,U,aI]
end
def Ys(a b:cA)(stay:Bool)(k:bh):Bool:=(k.a==a.run)&&(k.ac==a.bq)&&(k.b==b.run)&&(k.bc==b.da)&&(k.stay==stay)
def F2(N:ai)(a b:cA)(stay:Bool):Bool:=N.aL.any (Ys a b stay)
def PS(N:ai)(i:Int):Int:=match N.stops[i.toNat]? with|some s=>s.change|none=>0
def tX(N:ai)(q:lf)(l:List cA)(x:cA):Int:=
 if(x.src !=q.src)=true then 24 else if x.stay=true then 19
 else if(!x.dr&&(match l[1]? with|some y=>y.dr&&y.dep !=x.arr|none=>false))=true then 10
 else if(!x.dr&&decide (l.length=1)&&(if q.back=true then x.arr !=q.time else x.dep !=q.time))=true then 10
 else if(!q.back&&decide (x.dep<q.time))=true then 10
 else if(!q.back&&q.B8&&x.dr&&decide (x.dep<IntKind.i64.wrap (q.time+PS N q.src)))=true then 28 else 0
def ur(N:ai)(a b:cA):Int:=
 if(b.src !=a.dst)=true then 24 else if(!a.dr&& !b.dr)=true then 32 else if(b.stay&&(!a.dr|| !F2 N a b true))=true then 19
 else if(b.stay&&decide (b.dep<a.arr))=true then 10 else if(!b.dr&&b.dep !=a.arr)=true then 10 else 0
def tY(N:ai)(a b:cA):Int:=
 if(!b.dr||b.stay)=true then 0 else if(!a.dr)=true then(if decide (b.dep<a.arr)=true then 28 else 0)
 else if(decide (b.dep≥IntKind.i64.wrap (a.arr+PS N b.src))||(decide (b.dep≥a.arr)&&F2 N a b false))=true then 0 else 28
def alB(N:ai)(x:cA):Bool:=match yt N x with
 |some r=>(match r.calls[x.bq.toNat]? with|some b=>b.bq|none=>false)
 |none=>false
def yw(N:ai)(q:lf)(l:List cA)(k:Nat)(x:cA):Int:=if(!x.dr||(match l[k+1]? with|some y=>y.stay|none=>false))=true then 0 else if(!alB N x)=true then 26 else if(!F0 N q x.dst)=true then 29 else 0
def eT(N:ai)(q:lf)(l:List cA)(k:Nat):Int:=match l[k]? with
 |none=>0
 |some x=>if np N q x=0 then
   (let e:=if k=0 then tX N q l x else match l[k-1]? with
    |some a=>if ur N a x=0 then tY N a x else ur N a x
    |none=>0
   if e=0 then yw N q l k x else e)
  else np N q x
section
variable {N:ai} {q:lf} {l:List cA} {k:Nat}
theorem F3(h:q8 N)(hk:k+1<l.length)(hl:l.length≤maxLen)(st:Bool):cq [gq N q l ((k+1:Nat):Int),.bool st]=some (.bool (F2 N l[k] l[k+1] st)):=by
 have hm:=bf;have hr:=bk;have Fm:=h.ok.aL.1;simp only[cq,gK,FL,FM,FN,FO,FP,FQ,FT,FU,FV,FW,FX,sM,sN,sO,sP,sQ,sR,sS,sT,sU,sV,sW,U,NA,aB,Hl hk hl,oM hk,iy,T0];refine nZ (fun j(_:Unit)=>(st,N.aL.map bh.pv,(N.aL.length:Int),(j:Int),cell l[k].pv 0,cell l[k].pv 1,cell l[k].pv 2,cell l[k].pv 3,cell l[k].pv 4,cell l[k].pv 5,cell l[k].pv 6,cell l[k].pv 7,cell l[k].pv 8,cell l[k+1].pv 0,cell l[k+1].pv 1,cell l[k+1].pv 2,cell l[k+1].pv 3,cell l[k+1].pv 4,cell l[k+1].pv 5,cell l[k+1].pv 6,cell l[k+1].pv 7,cell l[k+1].pv 8,())) (fun j _=>some (PV.bool ((N.aL.drop j).any (Ys l[k] l[k+1] st)))) N.aL.length (fun j hj e rec fq=>?_) (fun e rec=>?_) (by omega) () rfl
 ·unfold fF;dsimp only;rw[BY (by simp;omega),cj bh.pv N.aL j hj];simp only[U,DO,Je,link2,Jf,F4,aI,aB,iy,iA,iH,iI,iJ,iK,iL,iM,iN,gY,aY,ah (show j<9223372036854775807 by omega),fq ()];rw[jj hj,ahG];have hc:(N.aL[j].stay==st&&N.aL[j].a==l[k].run&&N.aL[j].ac==l[k].bq&&N.aL[j].b==l[k+1].run&&N.aL[j].bc==l[k+1].da)=Ys l[k] l[k+1] st N.aL[j]:=by unfold Ys;cases(N.aL[j].stay==st)<;>cases(N.aL[j].a==l[k].run)<;>cases(N.aL[j].ac==l[k].bq)<;>cases(N.aL[j].b==l[k+1].run)<;>cases(N.aL[j].bc==l[k+1].da)<;>rfl
  rw[hc];cases Ys l[k] l[k+1] st N.aL[j]<;>simp
 ·unfold fF;dsimp only;rw[IN (by simp),ahe];rfl
theorem NB(h:q8 N)(a b:cA)(st:Bool):gO [N.pv,a.pv,b.pv,.bool st]=some (.bool (F2 N a b st)):=by
 have hm:=bf;have hr:=bk;have Fm:=h.ok.aL.1;simp only[gO,tP,jr,js,jt,ju,jw,jx,jy,jz,jB,jC,iy,iA,iH,iI,iJ,iK,iL,iM,iN,gY,U,aB];refine nZ (fun j(_:Unit)=>(st,(j:Int),N.stops.map Stop.pv,N.av.map aG.pv,N.runs.map dH.pv,N.aL.map bh.pv,N.paths.map Path.pv,N.aT.map aF.pv,N.bw,N.within,N.cap,a.dr,a.run,a.da,a.bq,a.src,a.dst,a.dep,a.arr,a.stay,b.dr,b.run,b.da,b.bq,b.src,b.dst,b.dep,b.arr,b.stay,())) (fun j _=>some (PV.bool ((N.aL.drop j).any (Ys a b st)))) N.aL.length (fun j hj e rec fq=>?_) (fun e rec=>?_) (by omega) () rfl
 ·unfold oN;dsimp only;rw[BY (by simp;omega),cj bh.pv N.aL j hj];simp only[U,DO,Je,link2,Jf,F4,aI,aB,aY,ah (show j<9223372036854775807 by omega),fq ()];rw[jj hj,ahG];show(if Ys a b st N.aL[j]=true then _ else _)=_;cases Ys a b st N.aL[j]<;>simp
 ·unfold oN;dsimp only;rw[IN (by simp),ahe];rfl
end
theorem Hn(x:Stop):Ab.asInt .i64 (cell x.pv 3)=some x.change:=rfl
theorem zo{A:Type}(f:A→PV)(l:List A)(k:Nat):aM (l.map f) (k:Int)=(l[k]?).map f:=by rw[aV,IS]
section
variable {N:ai} {q:lf} {l:List cA} {k:Nat}
theorem Ho{i:Int}{s:Stop}(hs:N.stops[i.toNat]?=some s):PS N i=s.change:=by unfold PS;rw[hs]
theorem Jg(l:List cA):aM (l.map cA.pv) 1=(l[1]?).map cA.pv:=zo cA.pv l 1
theorem Rq(hk:0<k):bV [gq N q l k]=some (.int .i64 0):=by simp only[bV,fg,FL,FM,FN,FO,FP,FQ,FT,FU,FV,FW,FX,sM,sN,sO,sP,sQ,sR,sS,sT,sU,sV,sW,U];rw[BY (by simp;omega)]
theorem Ul(hk:0<l.length)(hl:FZ N l[0]=false):bV [gq N q l ((0:Nat):Int)]=some (.int .i64 (tX N q l l[0])):=by
 obtain⟨⟨s,hs,EK,_⟩,_⟩:=qz hl;simp only[bV,fg,FL,FM,FN,FO,FP,FQ,FT,FU,FV,FW,FX,sM,sN,sO,sP,sQ,sR,sS,sT,sU,sV,sW,U,NA,oM hk,iy,iA,iH,iI,iJ,iK,iL,iM,iN,gY,T0,Jg,aY,aZ,fR];rw[IN (by simp)];unfold tX;simp only[WJ];by_cases hc:l[0].src=q.src
 ·rw[←hc,bg Stop.pv EK hs,Ho hs];simp only[U,Hn,aiH,AT,Xq];have h1:(decide ((l.length:Int)=1))=decide (l.length=1):=by by_cases h:l.length=1<;>simp[h]<;>omega
  rw[h1];cases pw:l[0].stay with
  |true=>rfl
  |false=>
   simp only[AT,Xq];cases h2:l[1]? with
   |none=>
    have hlen:l.length=1:=by have:=ajh.1 h2;omega
    simp only[hlen,ag6,afj,aY,U,ajg,cond_false,Option.map_none,ahY];cases l[0].dr<;>cases q.back<;>cases q.B8<;>simp
   |some y=>
    have hlen:¬l.length=1:=by have:=(HO.1 h2).1;omega
    simp only[hlen,agY,agX,aY,U,ahY,ajg,adN,iy,iA,iH,iI,iJ,iK,iL,iM,iN,gY,cond_false];cases l[0].dr<;>cases q.back<;>cases q.B8<;>simp<;>cases y.dr<;>simp
 ·rw[BY (by simpa using hc),BY (by simpa using hc)]
theorem Um:ca [gq N q l ((0:Nat):Int)]=some (.int .i64 0):=by simp only[ca,fO,FL,FM,FN,FO,FP,FQ,FT,FU,FV,FW,FX,sM,sN,sO,sP,sQ,sR,sS,sT,sU,sV,sW,U];rw[BY (by simp)]
theorem WM(h:q8 N)(hk:k+1<l.length)(hl:l.length≤maxLen):ca [gq N q l ((k+1:Nat):Int)]=some (.int .i64 (ur N l[k] l[k+1])):=by simp only[ca,fO,FL,FM,FN,FO,FP,FQ,FT,FU,FV,FW,FX,sM,sN,sO,sP,sQ,sR,sS,sT,sU,sV,sW,U,NA,Hl hk hl,oM hk,iy,iA,iH,iI,iJ,iK,iL,iM,iN,gY,F3 h hk hl,aB,aY,aZ];rw[IN (by simp;omega)];unfold ur;simp only[WJ]
theorem NC:bK [gq N q l ((0:Nat):Int)]=some (.int .i64 0):=by simp only[bK,eN,FL,FM,FN,FO,FP,FQ,FT,FU,FV,FW,FX,sM,sN,sO,sP,sQ,sR,sS,sT,sU,sV,sW,U];rfl
theorem Rr(h:q8 N)(hk:k+1<l.length)(hl:l.length≤maxLen)(hs:FZ N l[k+1]=false):bK [gq N q l ((k+1:Nat):Int)]=some (.int .i64 (tY N l[k] l[k+1])):=by
 obtain⟨⟨s,hs,EK,_⟩,_⟩:=qz hs;simp only[bK,eN,FL,FM,FN,FO,FP,FQ,FT,FU,FV,FW,FX,sM,sN,sO,sP,sQ,sR,sS,sT,sU,sV,sW,U,NA,Hl hk hl,oM hk,iy,iA,iH,iI,iJ,iK,iL,iM,iN,gY,F3 h hk hl,aB,aY,aZ,bg Stop.pv EK hs,Hn];have h0:(((k+1:Nat):Int)==0)=false:=by simp;omega
 rw[h0];unfold tY;simp only[WJ,Ho hs,EY,agX,cond_true];cases l[k+1].dr<;>cases l[k+1].stay<;>rfl
theorem Jh(h:q8 N)(hk:k<l.length)(hl:l.length≤maxLen)(hs:FZ N l[k]=false):dh [gq N q l k]=some (.int .i64 (yw N q l k l[k])):=by
 have hm:=bf;obtain⟨_,⟨s,hs,EK,_⟩,hx,_⟩:=qz hs;simp only[dh,iw,FL,FM,FN,FO,FP,FQ,FT,FU,FV,FW,FX,sM,sN,sO,sP,sQ,sR,sS,sT,sU,sV,sW,U,NA,oM hk,iy,iA,iH,iI,iJ,iK,iL,iM,iN,gY,T0,ah (show k<9223372036854775807 by omega),zo];unfold yw;cases hr:l[k].dr with
 |false=>rfl
 |true=>
  obtain⟨r,t,a,b,iF⟩:=yu h (hx hr);have GN:alB N l[k]=b.bq:=by unfold alB yt;rw[BY iF.tW,iF.run];simp only[iF.bq]
  have pw:(bif decide (((k+1:Nat):Int)<(l.length:Int))then(Option.map cA.pv l[k+1]?).bind fun p=>(Ab.asBool (cell p 8)).bind fun b=>some b else some false)=some (match l[k+1]? with|some y=>y.stay|none=>false):=by
   by_cases bS:k+1<l.length
   ·rw[AS bS];simp only[adN,U,gY];rw[ahy (show((k+1:Nat):Int)<(l.length:Int) by omega)];rfl
   ·rw[afi (by omega),ahf (show¬((k+1:Nat):Int)<(l.length:Int) by omega)];rfl
  simp only[afj,ahA,cond_false,pw,U,FY hk iF,Yr,Ui,aI,PO _ s EK hs,aB,GN,WJ];try (cases l[k+1]? <;>rfl)
theorem Un(h:q8 N)(hk:k<l.length)(hl:l.length≤maxLen):dm [gq N q l k]=some (.int .i64 (eT N q l k)):=by
 simp only[dm,iv,FL,FM,FN,FO,FP,FQ,FT,FU,FV,FW,FX,sM,sN,sO,sP,sQ,sR,sS,sT,sU,sV,sW,U,NA,Z2 h hk,aI];unfold eT;rw[AS hk];simp only;by_cases h0:np N q l[k]=0
 ·have PC:FZ N l[k]=false:=by
   unfold np at h0;cases hb:FZ N l[k]with
   |false=>rfl
   |true=>rw[hb,BY rfl]at h0;cases h0
  rw[IN (by simp[h0]),BY h0];cases k with
  |zero=>
   simp only[Ul hk PC,U,aI,Um,NC,Jh h hk hl PC,T1];by_cases h1:tX N q l l[0]=0
   ·rw[IN (by simp[h1]),BY h1,IN (by decide),IN (by decide)];by_cases h2:yw N q l 0 l[0]=0
    ·rw[IN (by simp[h2]),h2]
    ·rw[BY (by simpa using h2)]
   ·rw[BY (by simpa using h1),IN h1]
  |succ k=>
   have Bd:l[k+1-1]?=some l[k]:=by rw[ah1];exact AS (by omega)
   simp only[Rq (N:=N) (q:=q) (l:=l) (Nat.succ_pos k),U,aI,WM h hk hl,Rr h hk hl PC,Jh h hk hl PC,Bd];rw[IN (by decide),IN (show¬k+1=0 by omega)];by_cases h1:ur N l[k] l[k+1]=0
   ·rw[IN (by simp[h1])];simp only[h1,T1];by_cases h3:tY N l[k] l[k+1]=0
    ·rw[IN (by simp[h3]),BY h3];by_cases h2:yw N q l (k+1) l[k+1]=0
     ·rw[IN (by simp[h2]),h2]
     ·rw[BY (by simpa using h2)]
    ·rw[BY (by simpa using h3),IN h3]
   ·rw[BY (by simpa using h1)];simp only[h1,Xq]
 ·rw[BY (by simpa using h0),IN h0]
end
section
variable {N:ai} {q:lf} {l:List cA} {k:Nat}
theorem Rt(l:List cA):aM (l.map cA.pv) 0=(l[0]?).map cA.pv:=zo cA.pv l 0
theorem Ru(hk:0<l.length)(hl:FZ N l[0]=false)(hq:(q.B8&&q.back)=false):kK [N.pv,q.pv,BN l]=some (.int .i64 (tX N q l l[0])):=by
 obtain⟨⟨s,hs,EK,_⟩,_⟩:=qz hl;simp only[kK,vz,jr,js,jt,ju,jw,jx,jy,jz,jB,jC,uD,vH,vI,vJ,vK,vL,vM,vN,vO,vP,vQ,jA,j0,U,Rt,AS hk,adN,iy,iA,iH,iI,iJ,iK,iL,iM,iN,gY,T0,Jg,aY,aZ,fR];unfold tX;simp only[WJ];by_cases hc:l[0].src=q.src
 ·rw[←hc,bg Stop.pv EK hs,Ho hs];simp only[U,Hn,aiH,AT,Xq];have h1:(decide ((l.length:Int)=1))=decide (l.length=1):=by by_cases h:l.length=1<;>simp[h]<;>omega
  have h3:(decide ((l.length:Int)>1))= !decide (l.length=1):=by by_cases h:l.length=1<;>simp[h]<;>omega
  rw[h1,h3];cases pw:l[0].stay with
  |true=>rfl
  |false=>
   simp only[AT,Xq];cases h2:l[1]? with
   |none=>
    have hlen:l.length=1:=by have:=ajh.1 h2;omega
    simp only[hlen,ag6,afj,aY,U,ajg,cond_false,Option.map_none,ahY];cases l[0].dr<;>cases hb:q.back<;>cases hg:q.B8<;>simp[hb,hg]at hq⊢
   |some y=>
    have hlen:¬l.length=1:=by have:=(HO.1 h2).1;omega
    simp only[hlen,agY,agX,aY,U,ahY,ajg,adN,iy,iA,iH,iI,iJ,iK,iL,iM,iN,gY,cond_false];cases l[0].dr<;>cases hb:q.back<;>cases hg:q.B8<;>simp[hb,hg]at hq⊢<;>cases y.dr<;>simp
 ·rw[BY (by simpa using hc),BY (by simpa using hc)]
theorem ND(h:q8 N){a b:cA}(hb:FZ N b=false):jS [N.pv,a.pv,b.pv]=some (.int .i64 (if ur N a b=0 then tY N a b else ur N a b)):=by
 obtain⟨⟨s,hs,EK,_⟩,_,_,pw⟩:=qz hb;simp only[jS,tU,jr,js,jt,ju,jw,jx,jy,jz,jB,jC,iy,iA,iH,iI,iJ,iK,iL,iM,iN,gY,U,nY,abK,NB h,aB,aY,aZ];unfold ur tY;by_cases hc:b.src=a.dst
 ·rw[IN (by simp[hc]),←hc,bg Stop.pv EK hs,Ho hs];simp only[U,Hn,aiH,AT,Xq,aZ];cases hr:b.dr with
  |false=>rw[pw hr];cases a.dr<;>simp;by_cases hd:b.dep=a.arr<;>simp[hd]
  |true=>cases b.stay<;>cases a.dr<;>cases F2 N a b true<;>cases F2 N a b false<;>by_cases h1:b.dep<a.arr<;>by_cases h2:b.dep≥IntKind.i64.wrap (a.arr+s.change)<;>simp[h1,h2,WJ]<;>(try omega)
 ·have hn:¬a.dst=b.src:=fun e=>hc e.symm;rw[BY (by simpa using hn)];simp[hc]
theorem Z3(h:q8 N)(hk:k<l.length)(hl:l.length≤maxLen)(hq:(q.B8&&q.back)=false):qA [N.pv,q.pv,BN l,.int .i64 k]=some (.int .i64 (eT N q l k)):=by
 have hm:=bf;simp only[qA,DB,jr,js,jt,ju,jw,jx,jy,jz,jB,jC,uD,vH,vI,vJ,vK,vL,vM,vN,vO,vP,vQ,jA,j0,U,aI,cj cA.pv l k hk,Rn,nY,DF,WL h,T0,ah (show k<9223372036854775807 by omega),zo];unfold eT;rw[AS hk];simp only;by_cases h0:np N q l[k]=0
 ·have PC:FZ N l[k]=false:=by
   unfold np at h0;cases hb:FZ N l[k]with
   |false=>rfl
   |true=>rw[hb,BY rfl]at h0;cases h0
  obtain⟨_,⟨s,hs,EK,_⟩,hx,_⟩:=qz PC;have DP:(bif (((k+1:Nat):Int)==(l.length:Int))then some true else(Option.map cA.pv l[k+1]?).bind fun p=>(Ab.asBool (cell p 8)).bind fun b=>some !b)=some !(match l[k+1]? with|some y=>y.stay|none=>false):=by
   by_cases bS:k+1<l.length
   ·rw[AS bS];simp only[adN,U,gY];rw[show(((k+1:Nat):Int)==(l.length:Int))=false by simp;omega];rfl
   ·rw[afi (by omega),show(((k+1:Nat):Int)==(l.length:Int))=true by simp;omega];rfl
  have Uo:((bif l[k].dr then(bif (((k+1:Nat):Int)==(l.length:Int))then some true else(Option.map cA.pv l[k+1]?).bind fun p=>(Ab.asBool (cell p 8)).bind fun b=>some !b).bind fun r=>some r else some false).bind fun F5=>if F5=true then(Ab.asInt .i64 (cell l[k].pv 1)).bind fun n34=>(aM (N.runs.map dH.pv) n34).bind fun Yt=>(aQ 5 (cell Yt 7)).bind fun Up=>(Ab.asInt .i64 (cell l[k].pv 3)).bind fun n37=>(aM Up n37).bind fun Z4=>(Ab.asBool (cell Z4 4)).bind fun b39=>if(!b39)=true then some (PV.int .i64 26)else(Ab.asInt .i64 (cell l[k].pv 5)).bind fun n40=>(gg [N.pv,q.pv,PV.int .i64 n40]).bind fun Z5=>(Ab.asBool Z5).bind fun b42=>if(!b42)=true then some (PV.int .i64 29)else some (PV.int .i64 0)else some (PV.int .i64 0))=some (PV.int .i64 (yw N q l k l[k])):=by
   unfold yw;rw[DP];cases hr:l[k].dr with
   |false=>rfl
   |true=>
    obtain⟨r,t,a,b,iF⟩:=yu h (hx hr);have GN:alB N l[k]=b.bq:=by unfold alB yt;rw[BY iF.tW,iF.run];simp only[iF.bq]
    simp only[cond_true,U,iy,iA,iH,iI,iJ,iK,iL,iM,iN,gY,bg dH.pv iF.tW iF.run,zn,aS,bg cK.pv iF.zl iF.bq,Ui,Jc _ s EK hs,aB,GN,WJ,afj,ahA];cases l[k+1]? with
    |none=>rfl
    |some y=>by_cases hy:y.stay=true<;>simp[hy]
  rw[IN (by simp[h0]),BY h0];cases k with
  |zero=>
   rw[BY (by simp),BY rfl];simp only[jF,Ru hk PC hq,U,aI];by_cases h1:tX N q l l[0]=0
   ·rw[IN (by simp[h1]),BY h1,←Uo];simp only[iy,iA,iH,iI,iJ,iK,iL,iM,iN,gY,U]
   ·rw[BY (by simpa using h1),IN h1]
  |succ k=>
   have Bd:l[k+1-1]?=some l[k]:=by rw[ah1];exact AS (by omega)
   rw[IN (by simp;omega),IN (show¬k+1=0 by omega),lN k (by omega),Bd];simp only[cj cA.pv l k (by omega),U,Rn,ND h PC,aI];by_cases h1:(if ur N l[k] l[k+1]=0 then tY N l[k] l[k+1]else ur N l[k] l[k+1])=0
   ·rw[IN (by simp[h1]),BY h1,←Uo];simp only[iy,iA,iH,iI,iJ,iK,iL,iM,iN,gY,U]
   ·rw[BY (by simpa using h1),IN h1]
 ·rw[BY (by simpa using h0),IN h0]
end
theorem kL{S R X:Type}{body:S→(S→Option R)→Option R}(st:Nat→X→S)(G:Nat→X→Option R)(I:Nat→X→Prop)(n:Nat)(h:∀k,k<n→∀e rec,I k e→(∀e',I (k+1) e'→rec (st (k+1) e')=G (k+1) e')→body (st k e) rec=G k e)(mZ:∀e rec,I n e→body (st n e) rec=G n e)(hn:n<rounds)(e:X)(he:I 0 e){s0:S}(h0:st 0 e=s0):bx.run body s0=G 0 e:=by
 have key:∀(m j N:Nat)(e:X),j+m=n→m<N→I j e→cY body N (st j e)=G j e:=by
  intro m;induction m with
  |zero=>
   intro j N e hj hN hi;cases N with
   |zero=>omega
   |succ N=>
    simp only[cY];have:j=n:=by omega
    subst this;exact mZ _ _ hi
  |succ m ih=>
   intro j N e hj hN hi;cases N with
   |zero=>omega
   |succ N=>simp only[cY];exact h j (by omega) e _ hi fun e' mT=>ih (j+1) N e' (by omega) (by omega) mT
 rw[←h0,lX];exact key n 0 rounds e (by omega) hn he
def F6(f:Nat→Int):Nat→Nat→Nat
 |0,k=>k
 |m+1,k=>if f k=0 then F6 f m (k+1)else k
theorem Ji(f:Nat→Int){n j:Nat}(h:j<n):F6 f (n-j) j=if f j=0 then F6 f (n-(j+1)) (j+1)else j:=by
 have:n-j=(n-(j+1))+1:=by omega
 rw[this];rfl
theorem Jj(f:Nat→Int):∀m k,k≤F6 f m k∧F6 f m k≤k+m∧(F6 f m k<k+m→f (F6 f m k)≠0)∧∀j,k≤j→j<F6 f m k→f j=0
 |0,k=>⟨agM _,agM _,fun h=>absurd h (by simp[F6]),fun j h1 h2=>by simp[F6]at h2;omega⟩
 |m+1,k=>by
  unfold F6;split
  ·rename_i h0;obtain⟨a,b,c,d⟩:=Jj f m (k+1);refine⟨by omega,by omega,fun h=>c (by omega),fun j h1 h2=>?_⟩;by_cases e:j=k
   ·rw[e];exact h0
   ·exact d j (by omega) h2
  ·rename_i h0;exact⟨by omega,by omega,fun _=>h0,fun j h1 h2=>by omega⟩
def Uq(f:Nat→Int)(n k:Nat):Int:=if k<n then f k else 0
def F7(N:ai)(q:lf)(l:List cA):Nat:=F6 (eT N q l) l.length 0
def sX(N:ai)(q:lf)(l:List cA):Int:=Uq (eT N q l) l.length (F7 N q l)
theorem DQ{N:ai}{q:lf}{l:List cA}:sX N q l=0↔∀k,k<l.length→eT N q l k=0:=by
 obtain⟨_,b,c,d⟩:=Jj (eT N q l) l.length 0;unfold sX Uq F7;constructor
 ·intro h k hk;split at h
  ·rename_i bS;exact absurd h (c (by omega))
  ·exact d k (ajr _) (by omega)
 ·intro h;split
  ·rename_i bS;exact h _ bS
  ·rfl
section
variable {N:ai} {q:lf} {l:List cA}
theorem WN(h:q8 N)(hl:l.length≤maxLen):iO [N.pv,q.pv,BN l]=some (.bn [.int .i64 (F7 N q l),.int .i64 (sX N q l)]):=by
 have hm:=bf;have hr:=bk;simp only[iO,rW,jr,js,jt,ju,jw,jx,jy,jz,jB,jC,uD,vH,vI,vJ,vK,vL,vM,vN,vO,vP,vQ,jA,j0,U];refine(nZ (fun j(_:Unit)=>(l.map cA.pv,N.stops.map Stop.pv,N.av.map aG.pv,N.runs.map dH.pv,N.aL.map bh.pv,N.paths.map Path.pv,N.aT.map aF.pv,N.bw,N.within,N.cap,q.src,q.dst,q.time,q.back,q.cH,q.walk,q.free,q.uC,q.bM,q.B8,l.map cA.pv,(j:Int),())) (fun j _=>some (PV.bn [.int .i64 ((F6 (eT N q l) (l.length-j) j:Nat):Int),.int .i64 (Uq (eT N q l) l.length (F6 (eT N q l) (l.length-j) j))])) l.length (fun j hj e rec fq=>?_) (fun e rec=>?_) (by omega) () rfl).trans (by simp only[aiC];rfl)
 ·unfold nq;dsimp only;rw[BY (by simp;omega)];simp only[NA,Un h hj hl,U,aI,ah (show j<9223372036854775807 by omega),fq (),Ji _ hj];by_cases h0:eT N q l j=0
  ·rw[IN (by simp[h0]),BY h0]
  ·rw[BY (by simpa using h0),IN h0];unfold Uq;rw[BY hj]
 ·unfold nq;dsimp only;rw[IN (by simp),aiO];simp only[F6,Uq,T0,ajU,Xq]
end
def mi(x:cA):Bool:=x.dr&& !x.stay
def WO(x:cA):Bool:= !x.dr&&decide (x.dep≥0)&&decide (x.dep≤x.arr)&&decide (x.arr-x.dep≤14400)
def Jk:List cA→Int→Int
 |[],s=>s
 |x::r,s=>if WO x=true then Jk r (s+(x.arr-x.dep))else Jk r s
theorem Jl(x:cA)(r:List cA)(s:Int):Jk (x::r) s=if WO x=true then Jk r (s+(x.arr-x.dep))else Jk r s:=rfl
theorem Ca{n:Int}(h:lT n): -9223372036854775808≤n∧n≤9223372036854775807:=by have h:=(nF _ _).1 h;simpa[IntKind.min,IntKind.max,IntKind.signed,IntKind.bits]using h
theorem PT(x:Int):IntKind.i64.wrap x=(x+9223372036854775808)%18446744073709551616-9223372036854775808:=by simp only[IntKind.wrap,IntKind.signed,IntKind.bits];simp;split<;>omega
theorem Jm(l:List cA)(hl:l.length≤1000000)(ho:∀x∈l,x.Ok):gP [BN l]=some (.int .i64 (Jk l 0)):=by
 simp only[gP,tN,jA,j0,U,T0];refine kL (fun j s=>(s,l.map cA.pv,(l.length:Int),(j:Int),())) (fun j s=>some (PV.int .i64 (Jk (l.drop j) s))) (fun j s=>0≤s∧s≤14400*(j:Int)) l.length (fun j hj s rec hi fq=>?_) (fun s rec hi=>?_) (by unfold rounds;omega) 0 (by simp) rfl
 ·have hx:=ho _ (agQ hj);have hd:=Ca hx.dep;have ha:=Ca hx.arr;unfold oO;dsimp only;rw[BY (by simp;omega),cj cA.pv l j hj,jj hj,Jl];simp only[U,iy,iA,iH,iI,iJ,iK,iL,iM,iN,gY,aZ,ah (show j<9223372036854775807 by omega)];by_cases c:WO l[j]=true
  ·have c':=c;unfold WO at c';simp only[T2,agS,No]at c';have hw:IntKind.i64.wrap (l[j].arr-l[j].dep)=l[j].arr-l[j].dep:=br (by omega) (by omega);rw[hw,IN (by simp[c'.1.1.1];omega),BY c,br (by omega) (by omega)];exact fq _ (by omega)
  ·rw[IN c];have c':(l[j].dr||decide (l[j].dep<0)||decide (l[j].arr<l[j].dep)||decide (IntKind.i64.wrap (l[j].arr-l[j].dep)>14400))=true:=by
    unfold WO at c;cases hr:l[j].dr with
    |true=>rfl
    |false=>
     rw[hr]at c;simp only[agX,ahW,T2,No,not_and]at c;simp only[ahA,afk,No];by_cases h1:l[j].dep<0
     ·exact .inl (.inl h1)
     ·by_cases h2:l[j].arr<l[j].dep
      ·exact .inl (.inr h2)
      ·refine .inr ?_;rw[br (by omega) (by omega)];have:=c ⟨by omega,by omega⟩;omega
   rw[BY c'];exact fq _ (by omega)
 ·unfold oO;dsimp only;rw[IN (by simp),ahe];rfl
theorem F8(l:List cA)(hl:l.length≤1000000)(ho:∀x∈l,x.Ok):kg [BN l]=some (.int .i64 (Jk l 0)):=by
 simp only[kg,yf,jA,j0,U];refine kL (fun j s=>(s,(j:Int),l.map cA.pv,())) (fun j s=>some (PV.int .i64 (Jk (l.drop j) s))) (fun j s=>0≤s∧s≤14400*(j:Int)) l.length (fun j hj s rec hi fq=>?_) (fun s rec hi=>?_) (by unfold rounds;omega) 0 (by simp) rfl
 ·have hx:=ho _ (agQ hj);have hd:=Ca hx.dep;have ha:=Ca hx.arr;unfold sd;dsimp only;rw[BY (by simp;omega),cj cA.pv l j hj,jj hj,Jl];simp only[U,iy,iA,iH,iI,iJ,iK,iL,iM,iN,gY,aY,ah (show j<9223372036854775807 by omega)];have hc:(!l[j].dr&&decide (l[j].dep≥0)&&decide (l[j].dep≤l[j].arr)&&decide (IntKind.i64.wrap (l[j].arr-l[j].dep)≤14400))=WO l[j]:=by
   unfold WO;by_cases h1:l[j].dep≥0
   ·by_cases h2:l[j].dep≤l[j].arr
    ·rw[br (by omega) (by omega)]
    ·simp[h2]
   ·simp[h1]
  rw[hc];by_cases c:WO l[j]=true
  ·have c':=c;unfold WO at c';simp only[T2,agS,No]at c';have hw:IntKind.i64.wrap (IntKind.i64.wrap (s+l[j].arr)-l[j].dep)=s+(l[j].arr-l[j].dep):=by rw[PT,PT];omega
   rw[BY c,BY c,hw];exact fq _ (by omega)
  ·rw[IN c,IN c];exact fq _ (by omega)
 ·unfold sd;dsimp only;rw[IN (by simp),ahe];rfl
end Go.Ab.Tt
