import Derived.Test.YtmbihgjlollbeaaGreatNkP2
namespace Go.Ab.Tt
set_option maxRecDepth 100000
set_option linter.unusedVariables false
set_option linter.unusedSimpArgs false
structure uz where
 Ht:Bool
 run:Int
 Gy:Int
 A6:Int
 src:Int
 dst:Int
 dep:Int
 arr:Int
 stay:Bool
 deriving DecidableEq
def uz.pv(x:uz):PV:=.agg [.bool x.Ht,.int .i64 x.run,.int .i64 x.Gy,.int .i64 x.A6,.int .i64 x.src,.int .i64 x.dst,.int .i64 x.dep,.int .i64 x.arr,.bool x.stay]
structure uz.eP(M:Nat)(x:uz):Prop where
 run:gO x.run
 Gy:gO x.Gy
 A6:gO x.A6
 src:gO x.src
 dst:gO x.dst
 dep:gO x.dep
 arr:gO x.arr
abbrev uz.Ok(x:uz):Prop:=x.eP maxLen
theorem ac8(x:uz):asAgg 9 x.pv=some ():=rfl
theorem ag0(x:uz):PV.agg [cell x.pv 0,cell x.pv 1,cell x.pv 2,cell x.pv 3,cell x.pv 4,cell x.pv 5,cell x.pv 6,cell x.pv 7,cell x.pv 8]=x.pv:=rfl
theorem aaB(x:uz):Ab.asBool (cell x.pv 0)=some x.Ht:=rfl
theorem aaC(x:uz):Ab.asInt .i64 (cell x.pv 1)=some x.run:=rfl
theorem ac9(x:uz):Ab.asInt .i64 (cell x.pv 2)=some x.Gy:=rfl
theorem ada(x:uz):Ab.asInt .i64 (cell x.pv 3)=some x.A6:=rfl
theorem adb(x:uz):Ab.asInt .i64 (cell x.pv 4)=some x.src:=rfl
theorem ade(x:uz):Ab.asInt .i64 (cell x.pv 5)=some x.dst:=rfl
theorem adf(x:uz):Ab.asInt .i64 (cell x.pv 6)=some x.dep:=rfl
theorem adg(x:uz):Ab.asInt .i64 (cell x.pv 7)=some x.arr:=rfl
theorem adh(x:uz):Ab.asBool (cell x.pv 8)=some x.stay:=rfl
structure Ny where
 src:Int
 dst:Int
 time:Int
 back:Bool
 nQ:Int
 walk:Int
 free:Bool
 aaH:Bool
 uO:Int
 chg:Bool
 deriving DecidableEq
def Ny.pv(x:Ny):PV:=.agg [.int .i64 x.src,.int .i64 x.dst,.int .i64 x.time,.bool x.back,.int .i64 x.nQ,.int .i64 x.walk,.bool x.free,.bool x.aaH,.int .i64 x.uO,.bool x.chg]
structure Ny.eP(M:Nat)(x:Ny):Prop where
 src:gO x.src
 dst:gO x.dst
 time:gO x.time
 nQ:gO x.nQ
 walk:gO x.walk
 uO:gO x.uO
abbrev Ny.Ok(x:Ny):Prop:=x.eP maxLen
def jpv(l:List uz):PV:=.agg [.rs 9 (l.map uz.pv)]
theorem j0(l:List uz):ay 9 (cell (jpv l) 0)=some (l.map uz.pv):=rfl
structure Q2 where
 prod:Int
 fst:Int
 lst:Int
 uy:Int
 deriving DecidableEq
def Q2.pv(x:Q2):PV:=.agg [.int .i64 x.prod,.int .i64 x.fst,.int .i64 x.lst,.int .i64 x.uy]
section
variable (N:aR) (q:Ny) (l:List uz) (i:Int)
end
theorem aI(n:Int):Ab.asInt .i64 (.int .i64 n)=some n:=rfl
theorem aB(b:Bool):Ab.asBool (.bool b)=some b:=rfl
theorem aS(n:Nat)(l:List PV):Ab.ay n (.rs n l)=some l:=by simp[ay]
theorem VE{A:Type}(f:A→PV)(l:List A)(i:Int):az (l.map f) i=(if 0≤i then l[i.toNat]? else none).map f:=by
 unfold az;split
 ·rw[GP]
 ·rfl
theorem Vm(N:aR)(h:N.Ok)(hp:N.paths.length≤4096):kq [N.pv]=some (.bool (decide ((jV N).2.2=0))):=by simp only[kq,vU,zI,zJ,zK,zL,zM,zN,zO,zP,zQ,zR,U,Hu,SK N h hp];simp only[gp,bg,aiV,aji,IS,U,ai6,ai5,aI,gE]
structure Nt(N:aR):Prop where
 ok:N.Ok
 paths:N.paths.length≤4096
 res:(jV N).2.2=0
variable{N:aR}
theorem Nt.parts(h:Nt N):(fX N.stops).2=0∧(fZ N.aD).2=0∧(dJ N.ba N.bY N.within N.cap).2=0:=by
 have h:=h.res;unfold jV at h;by_cases h1:(fX N.stops).2=0
 ·rw[AI h1]at h;by_cases h2:(fZ N.aD).2=0
  ·rw[AI h2]at h;by_cases h3:(pg N.runs N.stops.length N.aD.length).2=0
   ·rw[AI h3]at h;by_cases h4:(ma N.runs N.bh).2=0
    ·rw[AI h4]at h;by_cases h5:(cM N.paths N.stops.length).2=0
     ·rw[AI h5]at h;by_cases h6:(dJ N.ba N.bY N.within N.cap).2=0
      ·exact⟨h1,h2,h6⟩
      ·rw[By h6]at h;exact absurd h h6
     ·rw[By h5]at h;exact absurd h h5
    ·rw[By h4]at h;exact absurd h h4
   ·rw[By h3]at h;exact absurd h h3
  ·rw[By h2]at h;exact absurd h h2
 ·rw[By h1]at h;exact absurd h h1
theorem Nt.stop(h:Nt N):∀s∈N.stops,0≤s.s5∧s.s5<16∧0≤s.change∧s.change≤3600:=by
 intro s hs;obtain⟨k,hk,rfl⟩:=ajM hs;have h1:=h.parts.1;unfold fX at h1;split at h1
 ·cases h1
 ·have:=(kP _ _).1 h1 k hk;unfold zS at this;rw[cO hk]at this;simp only at this;split at this
  ·cases this
  ·split at this
   ·cases this
   ·split at this
    ·cases this
    ·rename_i hb;simp only[aiI,IL,alD]at hb;omega
theorem Nt.lz(h:Nt N):∀s∈N.aD,0≤s.mode∧s.mode<8:=by
 intro s hs;obtain⟨k,hk,rfl⟩:=ajM hs;have h1:=h.parts.2.1;unfold fZ at h1;split at h1
 ·cases h1
 ·have:=(kP _ _).1 h1 k hk;unfold zZ at this;rw[cO hk]at this;simp only at this;split at this
  ·cases this
  ·split at this
   ·cases this
   ·split at this
    ·cases this
    ·rename_i hb;simp only[Bool.not_eq_false,No,IL]at hb;exact hb
theorem Nt.run(h:Nt N):∀r∈N.runs,∃t,N.aD[r.lz.toNat]?=some t∧0≤r.lz∧t∈N.aD:=by
 intro r hr;obtain⟨k,hk,rfl⟩:=ajM hr;have:=yD h.res k hk;unfold jm at this;rw[cO hk]at this;simp only at this;split at this
 ·cases this
 ·split at this
  ·cases this
  ·split at this
   ·cases this
   ·split at this
    ·cases this
    ·rename_i hb;simp only[aiI,IL,alD]at hb;have bT:(N.runs[k].lz).toNat<N.aD.length:=by omega
     exact⟨_,cO bT,by omega,aiZ bT⟩
theorem Nt.call(h:Nt N):∀r∈N.runs,∀c∈r.calls,∃s,N.stops[c.stop.toNat]?=some s∧0≤c.stop∧s∈N.stops:=by
 intro r hr c hc;obtain⟨k,hk,rfl⟩:=ajM hc;have:=KH (KI h.res r hr) k hk;unfold tU at this;rw[cO hk]at this;simp only at this;unfold Q8 at this;split at this
 ·cases this
 ·rename_i hb;simp only[aiI,IL,alD]at hb;have bT:(r.calls[k].stop).toNat<N.stops.length:=by omega
  exact⟨_,cO bT,by omega,aiZ bT⟩
theorem sV{A:Type}(f:A→PV){l:List A}{i:Int}{a:A}(h0:0≤i)(h:l[i.toNat]?=some a):az (l.map f) i=some (f a):=by rw[VE,AI h0,h];rfl
section
variable {N:aR} {q:Ny} {l:List uz} {k:Nat}
end
end Go.Ab.Tt
