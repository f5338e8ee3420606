import Derived.Test.YtmbihgjlollbeaaGreatFbP1
namespace Go.Ab.Tt
set_option maxRecDepth 100000
set_option linter.unusedVariables false
set_option linter.unusedSimpArgs false
def dg(n:Nat):Bytes:=if h:n<10 then[UInt8.ofNat (48+n)]else dg (n/10)++[UInt8.ofNat (48+n%10)]
termination_by n
decreasing_by omega
theorem zG{n:Nat}(h:n<10):dg n=[UInt8.ofNat (48+n)]:=by rw[dg,alB h]
theorem Nn{n:Nat}(h:¬n<10):dg n=dg (n/10)++[UInt8.ofNat (48+n%10)]:=by rw[dg,dif_neg h]
theorem Vi:∀(k n:Nat),n<10^(k+1)→(dg n).length≤k+1
 |0,n,h=>by rw[zG (by omega)];simp
 |k+1,n,h=>by
  by_cases Dq:n<10
  ·rw[zG Dq];simp
  ·rw[Nn Dq,ai1];have:=Vi k (n/10) (by rw[akP]at h;omega);simp;omega
theorem sU{n:Nat}(h:n<18446744073709551616):(dg n).length≤20:=Vi 19 n (by omega)
theorem e9(n:Nat)(h:n≤100000):bl.room n=true:=T5 n (by omega)
variable{n:Int}
theorem u64_in(h0:0≤n)(h:n<18446744073709551616):IntKind.u64.wrap n=n:=by simp only[IntKind.wrap,IntKind.signed,IntKind.bits];simp;omega
theorem u8_in(h0:0≤n)(h:n<256):IntKind.u8.wrap n=n:=by simp only[IntKind.wrap,IntKind.signed,IntKind.bits];simp;omega
theorem Ko(n:Nat):UInt8.ofNat (IntKind.u8.wrap (IntKind.u64.wrap (48+((n:Int)).tmod 10))).toNat=UInt8.ofNat (48+n%10):=by
 have:((n:Int)).tmod 10=((n%10:Nat):Int):=by rw[ajO (by omega)];omega
 rw[this,u64_in (by omega) (by omega),u8_in (by omega) (by omega),show(48:Int)+((n%10:Nat):Int)=((48+n%10:Nat):Int) by omega,aiP]
theorem QX(n:Nat):((n:Int)).tdiv 10=((n/10:Nat):Int):=by rw[akN (by omega)];omega
def rest(n:Nat):Bytes:=if n<10 then[]else dg (n/10)
theorem CO(n:Nat):dg n=rest n++[UInt8.ofNat (48+n%10)]:=by
 unfold rest;by_cases h:n<10
 ·rw[AI h,zG h,ajP h];rfl
 ·rw[By h,Nn h]
theorem B5:∀(k n:Nat)(s:Bytes)(M:Nat),n<10^(k+1)→n<18446744073709551616→s.length≤100-k→k≤40→k<M→cZ (iQ bl) M ((n:Int),s,())=some (.str (rest n++s))
 |k,n,s,0,_,_,_,_,h=>by omega
 |k,n,s,M+1,h,vf,hs,hk,hM=>by
  simp only[cZ];generalize hg:cZ (iQ bl) M=rec;unfold iQ;dsimp only;by_cases Dq:n<10
  ·rw[By (by simp;omega)];unfold rest;rw[AI Dq];rfl
  ·obtain⟨k,rfl⟩:∃j,k=j+1:=⟨k-1,by
    have:k≠0:=fun e=>by subst e;omega
    omega⟩
   rw[AI (by simp;omega),AI (e9 _ (by simp;omega)),QX,u64_in (by omega) (by omega),Ko];rw[←hg,B5 k (n/10) _ M (by rw[akP]at h;omega) (by omega) (by simp;omega) (by omega) (by omega)];rw[show rest n=dg (n/10) by unfold rest;rw[By Dq],CO (n/10),abW]
theorem A1(n:Nat)(h:n<18446744073709551616):cV [.int .u64 (n:Int)]=some (.str (dg n)):=by simp only[cV,qn,Ab.asInt,IS,U];rw[nu,Ko,B5 19 n _ rounds (by omega) h (by simp) (by omega) (by unfold rounds;omega),←CO]
def dn(n:Int):Bytes:=if n<0 then 45::dg n.natAbs else dg n.toNat
theorem qo(h:gO n): -9223372036854775808≤n∧n≤9223372036854775807:=by have h:=(lP _ _).1 h;simpa[IntKind.min,IntKind.max,IntKind.signed,IntKind.bits]using h
theorem Gp(n:Int):gO (IntKind.i64.wrap n):=by
 have e:IntKind.i64.wrap n=(n+9223372036854775808)%18446744073709551616-9223372036854775808:=by simp only[IntKind.wrap,IntKind.signed,IntKind.bits];simp;split<;>omega
 rw[e];refine(lP _ _).2 ?_;simp only[IntKind.min,IntKind.max,IntKind.signed,IntKind.bits];simp;omega
theorem eD(h:gO n):(dn n).length≤21:=by
 have:=qo h;unfold dn;split
 ·have:=sU (n:=n.natAbs) (by omega);simp;omega
 ·have:=sU (n:=n.toNat) (by omega);omega
theorem QY(h0:n<0)(h: -9223372036854775808≤n):IntKind.u64.wrap (0-IntKind.u64.wrap n)=(n.natAbs:Int):=by simp only[IntKind.wrap,IntKind.signed,IntKind.bits];simp;omega
theorem mV(h:gO n):aX [.int .i64 n]=some (.str (dn n)):=by
 have hr:=qo h;simp only[aX,ou,aI,U];unfold dn;by_cases h0:n<0
 ·have:=sU (n:=n.natAbs) (by omega);rw[AI (by simpa using h0),AI h0,QY h0 hr.1,A1 _ (by omega)];simp only[U,aG];rw[AI (e9 _ (by omega))];rfl
 ·rw[By (by simpa using h0),By h0,u64_in (by omega) (by omega),show n=((n.toNat:Nat):Int) by omega,A1 _ (by omega)];simp only[U,aG,aiP]
theorem A2{n:Nat}(h:n<10):iB [.int .i64 (n:Int)]=some (.str [UInt8.ofNat (48+n)]):=by
 have:n=0∨n=1∨n=2∨n=3∨n=4∨n=5∨n=6∨n=7∨n=8∨n=9:=by omega
 rcases this with e|e|e|e|e|e|e|e|e|e<;>subst e<;>rfl
theorem Gq:∀(k n:Nat)(s:Bytes)(M:Nat),n<10^(k+1)→n<9223372036854775808→s.length≤100-k→k≤40→k<M→cZ (kE bl) M ((n:Int),s,())=some (.str (rest n++s))
 |k,n,s,0,_,_,_,_,h=>by omega
 |k,n,s,M+1,h,vf,hs,hk,hM=>by
  simp only[cZ];generalize hg:cZ (kE bl) M=rec;unfold kE;dsimp only;by_cases Dq:n<10
  ·rw[By (by simp;omega)];unfold rest;rw[AI Dq];rfl
  ·obtain⟨k,rfl⟩:∃j,k=j+1:=⟨k-1,by
    have:k≠0:=fun e=>by subst e;omega
    omega⟩
   have ht:(((n/10:Nat):Int)).tmod 10=((n/10%10:Nat):Int):=by rw[ajO (by omega)];omega
   rw[AI (by simp;omega),QX,dU (by omega) (by omega),ht,A2 (by omega)];simp only[U,aG];rw[AI (e9 _ (by simp;omega))];rw[←hg,Gq k (n/10) _ M (by rw[akP]at h;omega) (by omega) (by simp;omega) (by omega) (by omega)];rw[show rest n=dg (n/10) by unfold rest;rw[By Dq],CO (n/10),abW]
def Kp(n:Nat):Bytes:=if n=0 then[]else dg n
theorem Np{n:Nat}(h:n≠0):Kp n=Kp (n/10)++[UInt8.ofNat (48+n%10)]:=by
 unfold Kp;rw[By h];by_cases Dq:n<10
 ·rw[zG Dq,AI (by omega),ajP Dq];rfl
 ·rw[Nn Dq,By (by omega)]
theorem Gs:∀(k n:Nat)(s:Bytes)(M:Nat),n<10^k→n≤9223372036854775808→s.length≤100-k→k≤40→k<M→cZ (kF bl) M (-(n:Int),s,())=some (.str (45::(Kp n++s)))
 |k,n,s,0,_,_,_,_,h=>by omega
 |k,n,s,M+1,h,vf,hs,hk,hM=>by
  simp only[cZ];generalize hg:cZ (kF bl) M=rec;unfold kF;dsimp only;by_cases h0:n=0
  ·subst h0;rw[By (by simp),AI (e9 _ (by omega))];rfl
  ·obtain⟨k,rfl⟩:∃j,k=j+1:=⟨k-1,by
    have:k≠0:=fun e=>by subst e;omega
    omega⟩
   have ht:IntKind.i64.wrap (0-(-(n:Int)).tmod 10)=((n%10:Nat):Int):=by rw[Int.neg_tmod,ajO (by omega),dU (by omega) (by omega)];omega
   have hd:IntKind.i64.wrap ((-(n:Int)).tdiv 10)= -((n/10:Nat):Int):=by rw[Int.neg_tdiv,akN (by omega),dU (by omega) (by omega)];omega
   rw[AI (by simp;omega),ht,hd,A2 (by omega)];simp only[U,aG];rw[AI (e9 _ (by simp;omega))];rw[←hg,Gs k (n/10) _ M (by rw[akP]at h;omega) (by omega) (by simp;omega) (by omega) (by omega),Np h0,abW]
theorem pC(h:gO n):aZ [.int .i64 n]=some (.str (dn n)):=by
 have hr:=qo h;simp only[aZ,tM,aI,U];unfold dn;by_cases h0:n<0
 ·rw[AI (by simpa using h0),AI h0,nu];have:=Gs 20 n.natAbs [] rounds (by omega) (by omega) (by simp) (by omega) (by unfold rounds;omega);rw[show-((n.natAbs:Nat):Int)=n by omega]at this;rw[this,aja];unfold Kp;rw[By (by omega)]
 ·have ht:n.tmod 10=((n.toNat%10:Nat):Int):=by rw[ajO (by omega)];omega
  rw[By (by simpa using h0),By h0,ht,A2 (by omega)];simp only[U,aG];have:=Gq 19 n.toNat [UInt8.ofNat (48+n.toNat%10)] rounds (by omega) (by omega) (by simp) (by omega) (by unfold rounds;omega);rw[show((n.toNat:Nat):Int)=n by omega]at this;rw[nu,this,←CO]
theorem XQ(h:gO n):hU [.int .i64 n]=some (.str (dg n.natAbs)):=by
 have hl:=eD h;simp only[hU,yB,aI,U,pC h,aG];by_cases h0:n<0
 ·rw[AI (by simpa using h0)];have e:dn n=45::dg n.natAbs:=by unfold dn;rw[AI h0]
  rw[e,AI (by simp;omega),aiP,ajy];rfl
 ·rw[By (by simpa using h0)];unfold dn;rw[By h0,show n.toNat=n.natAbs by omega]
@[simp] theorem SB:eO.length=4:=rfl
@[simp] theorem Kq:cj.length=8:=rfl
@[simp] theorem QZ:ek.length=13:=rfl
@[simp] theorem Zq:hZ.length=8:=rfl
@[simp] theorem Ei:bC.length=25:=rfl
@[simp] theorem Nq:dI.length=14:=rfl
@[simp] theorem TC:bf.length=11:=rfl
@[simp] theorem TD:bn.length=13:=rfl
@[simp] theorem Q0:dq.length=13:=rfl
@[simp] theorem Nr:eE.length=14:=rfl
@[simp] theorem SC:fb.length=12:=rfl
@[simp] theorem Q1:eo.length=13:=rfl
@[simp] theorem CP:ak.length=27:=rfl
@[simp] theorem TE:ll.length=11:=rfl
@[simp] theorem Ns:lX.length=14:=rfl
@[simp] theorem Ej:ck.length=23:=rfl
@[simp] theorem WO:mW.length=8:=rfl
@[simp] theorem Zr:tN.length=6:=rfl
@[simp] theorem XR:lY.length=7:=rfl
@[simp] theorem acb:Gt.length=5:=rfl
@[simp] theorem acd:aT.length=4:=rfl
@[simp] theorem SD:zH.length=10:=rfl
@[simp] theorem Zs:Hs.length=5:=rfl
@[simp] theorem XS:Ek.length=6:=rfl
structure Fact where
 kind:Int
 xG:Int
 a:Int
 b:Int
 c:Int
 deriving DecidableEq
def Fact.pv(x:Fact):PV:=.agg [.int .i64 x.kind,.int .i64 x.xG,.int .i64 x.a,.int .i64 x.b,.int .i64 x.c]
structure Fact.eP(M:Nat)(x:Fact):Prop where
 kind:gO x.kind
 xG:gO x.xG
 a:gO x.a
 b:gO x.b
 c:gO x.c
abbrev Fact.Ok(x:Fact):Prop:=x.eP maxLen
theorem Kr(x:Fact):asAgg 5 x.pv=some ():=rfl
theorem Ks(x:Fact):Ab.asInt .i64 (cell x.pv 0)=some x.kind:=rfl
theorem Kt(x:Fact):Ab.asInt .i64 (cell x.pv 1)=some x.xG:=rfl
theorem Ku(x:Fact):Ab.asInt .i64 (cell x.pv 2)=some x.a:=rfl
theorem Kv(x:Fact):Ab.asInt .i64 (cell x.pv 3)=some x.b:=rfl
theorem Kw(x:Fact):Ab.asInt .i64 (cell x.pv 4)=some x.c:=rfl
theorem Zt(x:Fact):PV.agg [.int .i64 x.kind,.int .i64 x.xG,.int .i64 x.a,.int .i64 x.b,.int .i64 x.c]=x.pv:=rfl
structure Q2.eP(M:Nat)(x:Q2):Prop where
 prod:gO x.prod
 fst:gO x.fst
 lst:gO x.lst
 uy:gO x.uy
abbrev Q2.Ok(x:Q2):Prop:=x.eP maxLen
structure Ct where
 lZ:List uz
 dep:Int
 arr:Int
 nQ:Int
 XT:Int
 walk:Int
 tix:List Q2
def Ct.pv(x:Ct):PV:=.agg [.rs 9 (x.lZ.map uz.pv),.int .i64 x.dep,.int .i64 x.arr,.int .i64 x.nQ,.int .i64 x.XT,.int .i64 x.walk,.rs 4 (x.tix.map Q2.pv)]
structure Ct.eP(M:Nat)(x:Ct):Prop where
 lZ:x.lZ.length≤M∧∀y∈x.lZ,y.eP M
 dep:gO x.dep
 arr:gO x.arr
 nQ:gO x.nQ
 XT:gO x.XT
 walk:gO x.walk
 tix:x.tix.length≤M∧∀y∈x.tix,y.eP M
abbrev Ct.Ok(x:Ct):Prop:=x.eP maxLen
theorem ac0(x:Ct):asAgg 7 x.pv=some ():=rfl
theorem ac1(x:Ct):ay 9 (cell x.pv 0)=some (x.lZ.map uz.pv):=rfl
theorem ac2(x:Ct):Ab.asInt .i64 (cell x.pv 1)=some x.dep:=rfl
theorem ac3(x:Ct):Ab.asInt .i64 (cell x.pv 2)=some x.arr:=rfl
theorem ac4(x:Ct):Ab.asInt .i64 (cell x.pv 3)=some x.nQ:=rfl
theorem ac5(x:Ct):Ab.asInt .i64 (cell x.pv 4)=some x.XT:=rfl
theorem ac6(x:Ct):Ab.asInt .i64 (cell x.pv 5)=some x.walk:=rfl
theorem ac7(x:Ct):ay 4 (cell x.pv 6)=some (x.tix.map Q2.pv):=rfl
def lq(N:aR)(x:uz)(f:Fact):Bool:=
 if f.kind=1 then x.Ht&&decide (x.run≥0)&&decide (x.run<(N.runs.length:Int))
 else if f.kind=3∨f.kind=4∨f.kind=5 then decide (f.a≥0)&&decide (f.a<(N.stops.length:Int))
 else if f.kind=8 then decide (f.a≥0)&&decide (f.a<(N.ba.length:Int))else true
theorem SE(N:aR)(x:uz)(f:Fact):gD [N.pv,x.pv,f.pv]=some (.bool (lq N x f)):=by
 simp only[gD,qp,zI,zJ,zK,zL,zM,zN,zO,zP,zQ,zR,ac8,aaB,aaC,ac9,ada,adb,ade,adf,adg,adh,Kr,Ks,Kt,Ku,Kv,Kw,U,gE,IL,ahj];unfold lq;have b2:∀a b:Bool,(bif a then some b else some false)=some (a&&b):=fun a b=>by cases a<;>rfl
 simp only[b2,U];by_cases h1:f.kind=1
 ·rw[AI h1,AI h1]
 ·rw[By h1,By h1];by_cases h3:f.kind=3
  ·rw[AI h3,AI (.inl h3)]
  ·rw[By h3];by_cases h4:f.kind=4
   ·rw[AI h4,AI (.inr (.inl h4))]
   ·rw[By h4];by_cases h5:f.kind=5
    ·rw[AI h5,AI (.inr (.inr h5))]
    ·rw[By h5,By (show¬(f.kind=3∨f.kind=4∨f.kind=5) by simp[h3,h4,h5])];by_cases h8:f.kind=8
     ·rw[AI h8,AI h8]
     ·rw[By h8,By h8]
def tO(N:aR)(i:Int):Bytes:=match N.stops[i.toNat]? with|some s=>s.id|none=>[]
def El(N:aR)(i:Int):Bytes:=match N.ba[i.toNat]? with|some s=>s.id|none=>[]
def Em(N:aR)(i:Int):Bytes×Int:=match N.runs[i.toNat]? with|some s=>(s.id,s.day)|none=>([],0)
def Vj(a:Int):Bytes:=if a=1 then ek else if a=2 then bC else dI
def Gu(r:Bytes×Int)(f:Fact):Bytes:=eO++(r.1++(cj++(dn r.2++(Vj f.a++if f.b≥0 then hZ++dn f.b else[]))))
def Kx(c:Int):Bytes:=if c>0 then[44,32]++(dg c.natAbs++dq)else if c<0 then[44,32]++(dg c.natAbs++eE)else[]
def oP(N:aR)(x:uz)(f:Fact):Bytes:=
 if f.kind=1 then Gu (Em N x.run) f
 else if f.kind=2 then bf++(dn f.a++(bn++(dn f.b++Kx f.c)))
 else if f.kind=3 then fb++tO N f.a
 else if f.kind=4 then eo++tO N f.a
 else if f.kind=5 then dn f.b++(ak++(tO N f.a++([44,32]++(dn f.c++ll))))
 else if f.kind=6 then(if f.b=1 then lX else ck++(dn f.c++mW))
 else if f.kind=7 then tN++(dn f.b++mW)
 else lY++(El N f.a++(Gt++dn f.b))
structure aaD(N:aR):Prop where
 stop:∀i,(tO N i).length≤32
 prod:∀i,(El N i).length≤32
 run:∀i,(Em N i).1.length≤32∧gO (Em N i).2
theorem yC{s:Bytes}(h:ic s=true):s.length≤32:=by unfold ic at h;simp only[No,IL]at h;omega
theorem Nt.short{N:aR}(h:Nt N):aaD N:=by
 refine⟨fun i=>?_,fun i=>?_,fun i=>?_⟩
 ·unfold tO;cases hs:N.stops[i.toNat]? with
  |none=>simp
  |some s=>
   obtain⟨hk,e⟩:=AT.1 hs;have h1:=h.parts.1;unfold fX at h1;split at h1
   ·cases h1
   ·have:=(kP _ _).1 h1 i.toNat hk;unfold zS at this;rw[hs]at this;simp only at this;split at this
    ·cases this
    ·rename_i hv;exact yC (by simpa using hv)
 ·unfold El;cases hs:N.ba[i.toNat]? with
  |none=>simp
  |some s=>
   obtain⟨hk,e⟩:=AT.1 hs;have h1:=h.parts.2.2;unfold dJ at h1;split at h1
   ·cases h1
   ·split at h1
    ·cases h1
    ·have:=(kP _ _).1 h1 i.toNat hk;unfold CQ at this;rw[hs]at this;simp only at this;split at this
     ·cases this
     ·rename_i hv;exact yC (by simpa using hv)
 ·unfold Em;cases hs:N.runs[i.toNat]? with
  |none=>exact⟨by simp,by decide⟩
  |some s=>
   obtain⟨hk,e⟩:=AT.1 hs;have:=yD h.res i.toNat hk;unfold jm at this;rw[hs]at this;simp only at this;split at this
   ·cases this
   ·rename_i hv;exact⟨yC (by simpa using hv),(h.ok.runs.2 s (abV hs)).day⟩
variable{N:aR}
theorem Ky{i:Int}(h:(decide (i≥0)&&decide (i<(N.stops.length:Int)))=true):∃s:Stop,az (N.stops.map Stop.pv) i=some s.pv∧s.id=tO N i:=by
 simp only[No,IL]at h;have hk:i.toNat<N.stops.length:=by omega
 refine⟨N.stops[i.toNat],sV Stop.pv (by omega) (cO hk),?_⟩;unfold tO;rw[cO hk]
theorem Kz{i:Int}(h:(decide (i≥0)&&decide (i<(N.ba.length:Int)))=true):∃s:bJ,az (N.ba.map bJ.pv) i=some s.pv∧s.id=El N i:=by
 simp only[No,IL]at h;have hk:i.toNat<N.ba.length:=by omega
 refine⟨N.ba[i.toNat],sV bJ.pv (by omega) (cO hk),?_⟩;unfold El;rw[cO hk]
theorem Q3{i:Int}(h:(decide (i≥0)&&decide (i<(N.runs.length:Int)))=true):∃s:fP,az (N.runs.map fP.pv) i=some s.pv∧(s.id,s.day)=Em N i:=by
 simp only[No,IL]at h;have hk:i.toNat<N.runs.length:=by omega
 refine⟨N.runs[i.toNat],sV fP.pv (by omega) (cO hk),?_⟩;unfold Em;rw[cO hk]
theorem CR(s:Stop):aG (cell s.pv 0)=some s.id:=rfl
theorem Q4(s:bJ):aG (cell s.pv 0)=some s.id:=rfl
theorem KA(s:Bytes):aG (.str s)=some s:=rfl
section
variable {N:aR} {x:uz} {f:Fact}
theorem Nu{r:fP}(hid:r.id.length≤32)(hd:gO r.day)(hf:f.Ok):fY [r.pv,f.pv]=some (.str (Gu (r.id,r.day) f)):=by
 have l1:=eD hd;have l2:=eD hf.b;simp only[fY,ov,agY,aaE,XU,XV,XW,aaF,adi,adj,Vk,aI,aB,aS,KA,Kr,Ks,Kt,Ku,Kv,Kw,U,mV hd,mV hf.b];have r1:∀n,n≤1000→bl.room n=true:=fun n h=>e9 n (by omega);rw[AI (r1 _ (by(try simp)<;>omega)),AI (r1 _ (by(try simp)<;>omega)),AI (r1 _ (by(try simp)<;>omega))];unfold Gu Vj;simp only[gE,IL];by_cases h1:f.a=1
 ·rw[AI h1,AI h1,AI (r1 _ (by(try simp)<;>omega))];by_cases hb:f.b≥0
  ·rw[AI hb,AI hb,AI (r1 _ (by(try simp)<;>omega)),AI (r1 _ (by(try simp)<;>omega))];simp only[abW]
  ·rw[By hb,By hb];simp only[abW,aja]
 ·rw[By h1,By h1];by_cases h2:f.a=2
  ·rw[AI h2,AI h2,AI (r1 _ (by(try simp)<;>omega))];by_cases hb:f.b≥0
   ·rw[AI hb,AI hb,AI (r1 _ (by(try simp)<;>omega)),AI (r1 _ (by(try simp)<;>omega))];simp only[abW]
   ·rw[By hb,By hb];simp only[abW,aja]
  ·rw[By h2,By h2,AI (r1 _ (by(try simp)<;>omega))];by_cases hb:f.b≥0
   ·rw[AI hb,AI hb,AI (r1 _ (by(try simp)<;>omega)),AI (r1 _ (by(try simp)<;>omega))];simp only[abW]
   ·rw[By hb,By hb];simp only[abW,aja]
theorem Nv{n:Int}(h:gO n)(h0:n<0):cV [.int .u64 (IntKind.u64.wrap (0-IntKind.u64.wrap n))]=some (.str (dg n.natAbs)):=by have hr:=qo h;rw[QY h0 hr.1,A1 _ (by omega)]
theorem KB(h:Nt N)(hf:f.Ok)(hr:lq N x f=true)(hk:1≤f.kind∧f.kind≤8):fA [N.pv,x.pv,f.pv]=some (.str (oP N x f)):=by
 have la:=eD hf.a;have lb:=eD hf.b;have lc:=eD hf.c;have SF:=h.short;have hci:=qo hf.c;have ld:(dg f.c.natAbs).length≤20:=sU (by omega);have r1:∀n,n≤1000→bl.room n=true:=fun n h=>e9 n (by omega);simp only[fA,mX,zI,zJ,zK,zL,zM,zN,zO,zP,zQ,zR,ac8,aaB,aaC,ac9,ada,adb,ade,adf,adg,adh,Kr,Ks,Kt,Ku,Kv,Kw,U,gE,IL,Zt,mV hf.a,mV hf.b,mV hf.c,KA];unfold lq at hr;unfold oP;by_cases h1:f.kind=1
 ·rw[AI h1]at hr⊢;simp only[No,IL]at hr;obtain⟨s,e1,e2⟩:=Q3 (N:=N) (i:=x.run) (by simp;omega);have hl:=SF.run x.run;rw[←e2]at hl;rw[AI h1,e1];simp only[U,agZ];rw[Nu hl.1 hl.2 hf];simp only[U,KA,e2]
 ·rw[By h1]at hr⊢;rw[By h1];by_cases h2:f.kind=2
  ·rw[AI h2,AI h2];rw[AI (r1 _ (by(try simp)<;>omega)),AI (r1 _ (by(try simp)<;>omega)),AI (r1 _ (by(try simp)<;>omega))];unfold Kx;by_cases c1:f.c>0
   ·have ed:dn f.c=dg f.c.natAbs:=by unfold dn;rw[By (by omega),show f.c.toNat=f.c.natAbs by omega]
    rw[AI c1,AI c1,ed,AI (r1 _ (by(try simp)<;>omega)),AI (r1 _ (by(try simp)<;>omega)),AI (r1 _ (by(try simp)<;>omega)),By (by omega)];simp only[abW]
   ·rw[By c1,By c1];by_cases c2:f.c<0
    ·rw[AI c2,AI c2,Nv hf.c c2];simp only[U,KA];rw[AI (r1 _ (by(try simp)<;>omega)),AI (r1 _ (by(try simp)<;>omega)),AI (r1 _ (by(try simp)<;>omega))];simp only[abW]
    ·rw[By c2,By c2];simp only[abW,aja]
  ·rw[By h2,By h2];have stp:f.kind=3∨f.kind=4∨f.kind=5→∃s:Stop,az (N.stops.map Stop.pv) f.a=some s.pv∧s.id=tO N f.a:=fun hh=>by rw[AI hh]at hr;exact Ky hr
   have ls:=SF.stop f.a;by_cases h3:f.kind=3
   ·obtain⟨s,e1,e2⟩:=stp (.inl h3);rw[AI h3,AI h3,e1];simp only[U,CR,e2];rw[AI (r1 _ (by(try simp)<;>omega))]
   ·rw[By h3,By h3];by_cases h4:f.kind=4
    ·obtain⟨s,e1,e2⟩:=stp (.inr (.inl h4));rw[AI h4,AI h4,e1];simp only[U,CR,e2];rw[AI (r1 _ (by(try simp)<;>omega))]
    ·rw[By h4,By h4];by_cases h5:f.kind=5
     ·obtain⟨s,e1,e2⟩:=stp (.inr (.inr h5));rw[AI h5,AI h5,AI (r1 _ (by(try simp)<;>omega)),e1];simp only[U,CR,e2];rw[AI (r1 _ (by(try simp)<;>omega)),AI (r1 _ (by(try simp)<;>omega)),AI (r1 _ (by(try simp)<;>omega)),AI (r1 _ (by(try simp)<;>omega))];simp only[abW]
     ·rw[By h5,By h5];rw[By (show¬(f.kind=3∨f.kind=4∨f.kind=5) by simp[h3,h4,h5])]at hr;by_cases h6:f.kind=6
      ·rw[AI h6,AI h6];by_cases hb:f.b=1
       ·rw[AI hb,AI hb]
       ·rw[By hb,By hb,AI (r1 _ (by(try simp)<;>omega)),AI (r1 _ (by(try simp)<;>omega))];simp only[abW]
      ·rw[By h6,By h6];by_cases h7:f.kind=7
       ·rw[AI h7,AI h7,AI (r1 _ (by(try simp)<;>omega)),AI (r1 _ (by(try simp)<;>omega))];simp only[abW]
       ·rw[By h7,By h7];have h8:f.kind=8:=by omega
        rw[AI h8]at hr;obtain⟨s,e1,e2⟩:=Kz hr;have lp:=SF.prod f.a;rw[e1];simp only[U,Q4,e2];rw[AI (r1 _ (by(try simp)<;>omega)),AI (r1 _ (by(try simp)<;>omega)),AI (r1 _ (by(try simp)<;>omega))];simp only[abW]
def Gv(N:aR)(l:List uz)(f:Fact):Bytes×Int:=
 if(jV N).2.2≠0 then([],21)else if f.kind<1∨f.kind>8 then([],1)else if f.xG<0∨f.xG≥(l.length:Int)then([],9)
 else match l[f.xG.toNat]? with
  |none=>([],9)
  |some x=>if lq N x f=true then(aT++(dn (f.xG+1)++([58,32]++oP N x f)),0)else([],9)
theorem SG(SF:aaD N)(hf:f.Ok)(i:Int):(Gu (Em N i) f).length≤200:=by
 have:=SF.run i;have l1:=eD this.2;have l2:=eD hf.b;unfold Gu;have:(Vj f.a).length≤25:=by
  unfold Vj;split;·simp
  split<;>simp
 have:(if f.b≥0 then hZ++dn f.b else[]).length≤30:=by split<;>simp<;>omega
 simp only[ai1,SB,Kq];omega
theorem SH(SF:aaD N)(hf:f.Ok):(oP N x f).length≤200:=by
 have la:=eD hf.a;have lb:=eD hf.b;have lc:=eD hf.c;have hci:=qo hf.c;have ld:(dg f.c.natAbs).length≤20:=sU (by omega);have ls:=SF.stop f.a;have lp:=SF.prod f.a;have lt:(Kx f.c).length≤40:=by
  unfold Kx;split
  ·simp<;>omega
  ·split
   ·simp<;>omega
   ·simp
 have lr:=SG (f:=f) SF hf x.run;unfold oP;split
 ·exact lr
 ·repeat' split
  all_goals (simp<;>omega)
theorem Gw{O:Ct}(hN:N.Ok)(hp:N.paths.length≤4096)(hO:O.lZ.length≤1000)(hf:f.Ok):cq [N.pv,O.pv,f.pv]=some (.aP [.str (Gv N O.lZ f).1,.int .i64 (Gv N O.lZ f).2]):=by
 simp only[cq,pf,zI,zJ,zK,zL,zM,zN,zO,zP,zQ,zR,ac0,ac1,ac2,ac3,ac4,ac5,ac6,ac7,Kr,Ks,Kt,Ku,Kv,Kw,U,Hu,Zt,En N hN hp,gp,bg,aiV,aji,IS,ai6,ai5,aI,nR,cu,ahj];unfold Gv;by_cases hz:(jV N).2.2=0
 ·have hv:Nt N:=⟨hN,hp,hz⟩;rw[By (by simp[hz]),By (show¬(jV N).2.2≠0 by simp[hz])];by_cases hk:f.kind<1∨f.kind>8
  ·rw[AI (by simpa using hk),AI hk]
  ·rw[By (by simpa using hk),By hk];by_cases hl:f.xG<0∨f.xG≥(O.lZ.length:Int)
   ·rw[AI hl,show(decide (f.xG<0)||decide (f.xG≥(O.lZ.length:Int)))=true by simpa using hl];simp[U]
   ·rw[By hl,show(decide (f.xG<0)||decide (f.xG≥(O.lZ.length:Int)))=false by simpa using hl];have bT:f.xG.toNat<O.lZ.length:=by omega
    have hx:O.lZ[f.xG.toNat]?=some O.lZ[f.xG.toNat]:=cO bT;rw[hx,sV uz.pv (by omega) hx];simp only[cond_false,U,ag0,SE,aB];generalize O.lZ[f.xG.toNat]=y;cases hr:lq N y f with
    |false=>rw[AI (by simp),By (by simp)]
    |true=>
     have hw:IntKind.i64.wrap (f.xG+1)=f.xG+1:=dU (by omega) (by omega);have hi:gO (f.xG+1):=by rw[←hw];exact Gp _
     have l1:=eD hi;have l2:=SH (x:=y) hv.short hf;rw[By (by simp),AI rfl,hw,mV hi];simp only[U,KA,KB hv hf hr (by omega)];rw[AI (e9 _ (by(try simp)<;>omega)),AI (e9 _ (by(try simp)<;>omega)),AI (e9 _ (by(try simp)<;>omega))];simp only[abW]
 ·rw[AI (by simpa using hz),AI hz]
end
section
variable {N:aR} {f:Fact}
theorem Nx{x:uz}(hk:f.kind=3∨f.kind=4∨f.kind=5):lq N x f=(decide (f.a≥0)&&decide (f.a<(N.stops.length:Int))):=by unfold lq;rw[By (by omega),AI hk]
theorem Vl(a:Int)(n:Nat):(decide (a<0)||decide (a≥(n:Int)))= !(decide (a≥0)&&decide (a<(n:Int))):=by rw[aiN];simp
theorem KC{O:Ct}(hN:N.Ok)(hp:N.paths.length≤4096)(hO:O.lZ.length≤1000)(hf:f.Ok):ep [N.pv,O.pv,f.pv]=some (.aP [.str (Gv N O.lZ f).1,.int .i64 (Gv N O.lZ f).2]):=by
 have la:=eD hf.a;have lb:=eD hf.b;have lc:=eD hf.c;have hci:=qo hf.c;have ld:(dg f.c.natAbs).length≤20:=sU (by omega);have r1:∀n,n≤1000→bl.room n=true:=fun n h=>e9 n (by omega);simp only[ep,yE,zI,zJ,zK,zL,zM,zN,zO,zP,zQ,zR,ac0,ac1,ac2,ac3,ac4,ac5,ac6,ac7,Kr,Ks,Kt,Ku,Kv,Kw,U,Hu,Vm N hN hp,aB,aI,cu,ahj,gE,IL];unfold Gv;by_cases hz:(jV N).2.2=0
 ·have hv:Nt N:=⟨hN,hp,hz⟩;have SF:=hv.short;rw[By (by simp[hz]),By (show¬(jV N).2.2≠0 by simp[hz])];by_cases hk:f.kind<1∨f.kind>8
  ·rw[AI (by simpa using hk),AI hk]
  ·rw[By (by simpa using hk),By hk];by_cases hl:f.xG<0∨f.xG≥(O.lZ.length:Int)
   ·rw[AI (by simpa using hl),AI hl]
   ·rw[By (by simpa using hl),By hl];have bT:f.xG.toNat<O.lZ.length:=by omega
    have hx:O.lZ[f.xG.toNat]?=some O.lZ[f.xG.toNat]:=cO bT;have hw:IntKind.i64.wrap (f.xG+1)=f.xG+1:=dU (by omega) (by omega);have hi:gO (f.xG+1):=by rw[←hw];exact Gp _
    have l1:=eD hi;rw[hx,sV uz.pv (by omega) hx,hw,pC hi];simp only[U,KA,pC hf.a,pC hf.b,pC hf.c,XQ hf.c,aaB,aaC];generalize O.lZ[f.xG.toNat]=y;generalize dn (f.xG+1)=D at l1;have ls:=SF.stop f.a;have lp:=SF.prod f.a;rw[AI (r1 _ (by(try simp)<;>omega)),AI (r1 _ (by(try simp)<;>omega))];have stp:∀(X:Bytes→Option PV)(v:Bytes),f.kind=3∨f.kind=4∨f.kind=5→X (tO N f.a)=some (.aP [.str (aT++(D++([58,32]++oP N y f))),.int .i64 0])→(if(decide (f.a<0)||decide (f.a≥(N.stops.length:Int)))=true then some (PV.aP [.str [],.int .i64 9])else(az (N.stops.map Stop.pv) f.a).bind fun p=>(aG (cell p 0)).bind X)=some (.aP [.str (if lq N y f=true then(aT++(D++([58,32]++oP N y f)),(0:Int))else([],9)).1,.int .i64 (if lq N y f=true then(aT++(D++([58,32]++oP N y f)),(0:Int))else([],9)).2]):=fun X v hh hX=>by
     rw[Vl,Nx hh];cases hr:(decide (f.a≥0)&&decide (f.a<(N.stops.length:Int)))with
     |false=>rw[AI (by simp),By (by simp)]
     |true=>obtain⟨s,e1,e2⟩:=Ky hr;rw[By (by simp),AI rfl,e1];simp only[U,CR,e2];exact hX
    by_cases h1:f.kind=1
    ·rw[AI h1];have b3:∀a b:Bool,(bif a then some true else some b)=some (a||b):=fun a b=>by cases a<;>rfl
     simp only[b3,U];have Fm:lq N y f=(y.Ht&&decide (y.run≥0)&&decide (y.run<(N.runs.length:Int))):=by unfold lq;rw[AI h1]
     rw[Fm,show(!y.Ht||decide (y.run<0)||decide (y.run≥(N.runs.length:Int)))= !(y.Ht&&decide (y.run≥0)&&decide (y.run<(N.runs.length:Int))) by rw[aiN];simp];cases hr:(y.Ht&&decide (y.run≥0)&&decide (y.run<(N.runs.length:Int)))with
     |false=>rw[AI (by simp),By (by simp)]
     |true=>
      have Sa:(decide (y.run≥0)&&decide (y.run<(N.runs.length:Int)))=true:=by simp only[No]at hr⊢;exact⟨hr.1.2,hr.2⟩
      obtain⟨s,e1,e2⟩:=Q3 Sa;have hru:=SF.run y.run;rw[←e2]at hru;have ldy:=eD hru.2;have hid:=hru.1;dsimp only at hid ldy;rw[By (by simp),AI rfl,e1];have r3:aG (cell s.pv 3)=some s.id:=rfl;have r4:Ab.asInt .i64 (cell s.pv 1)=some s.day:=rfl;simp only[U,r3,r4,pC hru.2,KA];rw[AI (r1 _ (by(try simp)<;>omega)),AI (r1 _ (by(try simp)<;>omega)),AI (r1 _ (by(try simp)<;>omega)),AI (r1 _ (by(try simp)<;>omega))];unfold oP Gu Vj;rw[AI h1,←e2];by_cases c1:f.a=1
      ·rw[AI c1,AI c1,AI (r1 _ (by(try simp)<;>omega))];by_cases hb:f.b≥0
       ·rw[AI hb,AI hb,AI (r1 _ (by(try simp)<;>omega)),AI (r1 _ (by(try simp)<;>omega))];simp only[abW]
       ·rw[By hb,By hb];simp only[abW,aja]
      ·rw[By c1,By c1];by_cases c2:f.a=2
       ·rw[AI c2,AI c2,AI (r1 _ (by(try simp)<;>omega))];by_cases hb:f.b≥0
        ·rw[AI hb,AI hb,AI (r1 _ (by(try simp)<;>omega)),AI (r1 _ (by(try simp)<;>omega))];simp only[abW]
        ·rw[By hb,By hb];simp only[abW,aja]
       ·rw[By c2,By c2,AI (r1 _ (by(try simp)<;>omega))];by_cases hb:f.b≥0
        ·rw[AI hb,AI hb,AI (r1 _ (by(try simp)<;>omega)),AI (r1 _ (by(try simp)<;>omega))];simp only[abW]
        ·rw[By hb,By hb];simp only[abW,aja]
    ·rw[By h1];by_cases h2:f.kind=2
     ·have Fm:lq N y f=true:=by unfold lq;rw[By h1,By (by omega),By (by omega)]
      rw[Fm,AI h2,AI rfl];unfold oP;rw[By h1,AI h2];rw[AI (r1 _ (by(try simp)<;>omega)),AI (r1 _ (by(try simp)<;>omega)),AI (r1 _ (by(try simp)<;>omega)),AI (r1 _ (by(try simp)<;>omega))];unfold Kx;by_cases c1:f.c>0
      ·rw[AI c1,AI c1,AI (r1 _ (by(try simp)<;>omega)),AI (r1 _ (by(try simp)<;>omega)),AI (r1 _ (by(try simp)<;>omega)),By (by omega)];simp only[abW]
      ·rw[By c1,By c1];by_cases c2:f.c<0
       ·rw[AI c2,AI c2,AI (r1 _ (by(try simp)<;>omega)),AI (r1 _ (by(try simp)<;>omega)),AI (r1 _ (by(try simp)<;>omega))];simp only[abW]
       ·rw[By c2,By c2];simp only[abW,aja]
     ·rw[By h2];by_cases h3:f.kind=3
      ·rw[AI h3];refine stp _ [] (.inl h3) ?_;rw[AI h3,AI (r1 _ (by(try simp)<;>omega)),AI (r1 _ (by(try simp)<;>omega))];unfold oP;rw[By h1,By h2,AI h3];simp only[abW]
      ·rw[By h3];by_cases h4:f.kind=4
       ·rw[AI h4];refine stp _ [] (.inr (.inl h4)) ?_;rw[By h3,AI h4,AI (r1 _ (by(try simp)<;>omega)),AI (r1 _ (by(try simp)<;>omega))];unfold oP;rw[By h1,By h2,By h3,AI h4];simp only[abW]
       ·rw[By h4];by_cases h5:f.kind=5
        ·rw[AI h5];refine stp _ [] (.inr (.inr h5)) ?_;rw[By h3,By h4];rw[AI (r1 _ (by(try simp)<;>omega)),AI (r1 _ (by(try simp)<;>omega)),AI (r1 _ (by(try simp)<;>omega)),AI (r1 _ (by(try simp)<;>omega)),AI (r1 _ (by(try simp)<;>omega)),AI (r1 _ (by(try simp)<;>omega))];unfold oP;rw[By h1,By h2,By h3,By h4,AI h5];simp only[abW]
        ·rw[By h5];by_cases h6:f.kind=6
         ·have Fm:lq N y f=true:=by unfold lq;rw[By h1,By (by omega),By (by omega)]
          rw[Fm,AI h6,AI rfl];unfold oP;rw[By h1,By h2,By h3,By h4,By h5,AI h6];by_cases hb:f.b=1
          ·rw[AI hb,AI hb,AI (r1 _ (by(try simp)<;>omega))];simp only[abW]
          ·rw[By hb,By hb,AI (r1 _ (by(try simp)<;>omega)),AI (r1 _ (by(try simp)<;>omega)),AI (r1 _ (by(try simp)<;>omega))];simp only[abW]
         ·rw[By h6];by_cases h7:f.kind=7
          ·have Fm:lq N y f=true:=by unfold lq;rw[By h1,By (by omega),By (by omega)]
           rw[Fm,AI h7,AI rfl];unfold oP;rw[By h1,By h2,By h3,By h4,By h5,By h6,AI h7];rw[AI (r1 _ (by(try simp)<;>omega)),AI (r1 _ (by(try simp)<;>omega)),AI (r1 _ (by(try simp)<;>omega))];simp only[abW]
          ·have h8:f.kind=8:=by omega
           have Fm:lq N y f=(decide (f.a≥0)&&decide (f.a<(N.ba.length:Int))):=by unfold lq;rw[By h1,By (by omega),AI h8]
           rw[By h7,AI h8,Vl,Fm];cases hr:(decide (f.a≥0)&&decide (f.a<(N.ba.length:Int)))with
           |false=>rw[AI (by simp),By (by simp)]
           |true=>obtain⟨s,e1,e2⟩:=Kz hr;rw[By (by simp),AI rfl,e1];unfold oP;rw[By h1,By h2,By h3,By h4,By h5,By h6,By h7];simp only[U,Q4,e2];rw[AI (r1 _ (by(try simp)<;>omega)),AI (r1 _ (by(try simp)<;>omega)),AI (r1 _ (by(try simp)<;>omega)),AI (r1 _ (by(try simp)<;>omega))];simp only[abW]
 ·rw[AI (by simpa using hz),AI hz]
end
set_option maxHeartbeats 4000000
def A3(T:fk)(N:aR)(q:Ny)(O:Ct):PV:=.agg (T.pv.cells++(N.pv.cells++(q.pv.cells++(O.pv.cells++[]))))
theorem Nz(rs:List fP)(a b l p d:List PV)(n1 n2 n3:Int)(h:rs.length≤maxLen):∃v,bl.run jn (0,a,b,rs.map fP.pv,l,p,d,n1,n2,n3,())=some (.bool v):=by
 rw[AL (st:=fun k=>((k:Int),a,b,rs.map fP.pv,l,p,d,n1,n2,n3,())) rs.length (fun k=>match rs[k]? with
  |some x=>if(x.calls.length:Int)>40 then some (some (.bool true))else none
  |none=>none) (fin:=some (.bool false)) (fun k hk rec=>?_) (fun rec=>?_) (by have:=bp;have:maxLen=9223372036854775807:=rfl;omega) (s0:=(0,a,b,rs.map fP.pv,l,p,d,n1,n2,n3,())) rfl]
 ·cases hf:(List.range rs.length).findSome? (fun k=>match rs[k]? with
  |some x=>if(x.calls.length:Int)>40 then some (some (PV.bool true))else none
  |none=>none)with
  |none=>exact⟨false,rfl⟩
  |some r=>
   obtain⟨k,_,hk⟩:=ajm hf;split at hk
   ·split at hk
    ·cases hk;exact⟨true,rfl⟩
    ·cases hk
   ·cases hk
 ·unfold jn;dsimp only;rw[ahj,AI (by simp;omega),aU,GP,cO hk];have e:ay 5 (cell (fP.pv rs[k]) 7)=some (rs[k].calls.map gq.pv):=rfl;simp only[aff,U,e,IL,ahj];split
  ·rfl
  ·rw[aO (by have:maxLen=9223372036854775807:=rfl;omega)]
 ·unfold jn;dsimp only;rw[ahj,By (by simp)]
def zT:PV:=.agg [.rs 0 [],.rs 0 [],.rs 0 [],.rs 0 [],.rs 0 [],.rs 0 [],.rs 0 [],.rs 0 [],.rs 0 [],.rs 0 [],.int .i64 0,.int .i64 0,.int .i64 0]
theorem NA(N:aR)(O:Ct):iC [zT,N.pv,O.pv]=((bif decide (((N.stops.map Stop.pv).length:Int)>12)then some true else some (decide (((N.aD.map aV.pv).length:Int)>20))).bind fun Vn=>(bif Vn then some true else some (decide (((N.runs.map fP.pv).length:Int)>40))).bind fun KD=>(bif KD then some true else some (decide (((N.bh.map bE.pv).length:Int)>60))).bind fun r49=>(bif r49 then some true else some (decide (((N.paths.map Path.pv).length:Int)>200))).bind fun Vo=>(bif Vo then some true else some (decide (((N.ba.map bJ.pv).length:Int)>20))).bind fun Vp=>(bif Vp then some true else some (decide (((O.lZ.map uz.pv).length:Int)>12))).bind fun Q5=>(bif Q5 then some true else some (decide (((O.tix.map Q2.pv).length:Int)>12))).bind fun XX=>if XX=true then some (PV.bool true)else bl.run jn (0,N.stops.map Stop.pv,N.aD.map aV.pv,N.runs.map fP.pv,N.bh.map bE.pv,N.paths.map Path.pv,N.ba.map bJ.pv,N.bY,N.within,N.cap,())):=by kernel_rfl
theorem Vq{N:aR}(O:Ct)(hN:N.Ok):∃v,iC [zT,N.pv,O.pv]=some (.bool v)∧(v=false→N.paths.length≤200∧O.lZ.length≤12):=by
 have b3:∀a b:Bool,(bif a then some true else some b)=some (a||b):=fun a b=>by cases a<;>rfl
 rw[NA];simp only[b3,U,ahj];split
 ·exact⟨true,rfl,fun h=>by cases h⟩
 ·rename_i hh;obtain⟨v,hv⟩:=Nz N.runs (N.stops.map Stop.pv) (N.aD.map aV.pv) (N.bh.map bE.pv) (N.paths.map Path.pv) (N.ba.map bJ.pv) N.bY N.within N.cap hN.runs.1;refine⟨v,hv,fun _=>?_⟩;simp only[aiI,IL]at hh;omega
theorem NB(T:fk)(N:aR)(q:Ny)(O:Ct)(f:Fact):dz [A3 T N q O,f.pv]=((iC [zT,N.pv,O.pv]).bind fun WQ=>(Ab.asBool WQ).bind fun b47=>if b47=true then(bN []).bind fun KD=>(Ab.asBool KD).bind fun b49=>some (PV.bool b49)else(cq [N.pv,O.pv,f.pv]).bind fun Vo=>(bg 2 Vo).bind fun KE=>(aG (KE.getD 0 PV.bad)).bind fun s52=>(Ab.asInt .i64 (KE.getD 1 PV.bad)).bind fun TF=>(ep [N.pv,O.pv,f.pv]).bind fun KF=>(bg 2 KF).bind fun Vr=>(aG (Vr.getD 0 PV.bad)).bind fun s56=>(Ab.asInt .i64 (Vr.getD 1 PV.bad)).bind fun n57=>(bif s52==s56 then some (TF==n57)else some false).bind fun r58=>(bif r58 then(bN []).bind fun r59=>(Ab.asBool r59).bind fun b60=>some b60 else some false).bind fun r61=>some (PV.bool r61)):=by kernel_rfl
theorem SI{T:fk}{N:aR}{q:Ny}{O:Ct}{f:Fact}(he:bN []=some (.bool true))(hN:N.Ok)(hf:f.Ok):dz [A3 T N q O,f.pv]=some (.bool true):=by
 rw[NB,he];obtain⟨v,hv,hl⟩:=Vq O hN;rw[hv];cases v with
 |true=>rfl
 |false=>obtain⟨hp,hO⟩:=hl rfl;rw[Gw hN (by omega) (by omega) hf,KC hN (by omega) (by omega) hf];have t2:∀a b:PV,bg 2 (.aP [a,b])=some [a,b]:=fun a b=>rfl;simp only[U,aB,t2,ai6,ai5,KA,aI,beq_self_eq_true,cond_true];rfl
theorem bs{α β:Type}{o:Option α}{a:α}{f:α→Option β}(h:o=some a):o.bind f=f a:=by rw[h];rfl
def xN:aR:=⟨[⟨[97],0,false,0⟩,⟨[98],0,false,0⟩],[⟨[114],0,false⟩],[⟨0,0,0,[120],0,false,false,[⟨0,160,160,true,false⟩,⟨1,200,200,false,true⟩]⟩],[],[],[⟨Ek,150,1,1,0,255⟩],0,0,0⟩
def xQ:Ny:=⟨0,1,100,false,1,0,false,false,0,false⟩
def xO:Ct:=⟨[⟨true,0,0,1,0,1,160,200,false⟩],160,200,1,150,0,[⟨0,0,0,150⟩]⟩
def xT:fk:=⟨xN.stops,xN.aD,[⟨Hs,true,true,true,true,true,true,true,0,100⟩],[],[⟨[120],0,0,false,[⟨0,100,100,true,false⟩,⟨1,140,140,false,true⟩]⟩],[],[],[],[],xN.ba,0,0,0⟩
theorem ag1:iR [xT.pv]=some (.aP [.int .i64 0,.int .i64 0,.int .i64 0]):=by kernel_rfl
theorem Vs:xN.Ok where
 stops:=⟨(by decide:2≤maxLen),fun y hy=>by simp only[xN,abX,ajQ,alj]at hy;rcases hy with rfl|rfl<;>exact⟨by decide,by decide,by decide⟩⟩
 aD:=⟨(by decide:1≤maxLen),fun y hy=>by simp only[xN,abX,ajQ,alj]at hy;subst hy;exact⟨by decide,by decide⟩⟩
 runs:=⟨(by decide:1≤maxLen),fun y hy=>by simp only[xN,abX,ajQ,alj]at hy;subst hy;refine⟨by decide,by decide,by decide,by decide,by decide,by decide,fun z hz=>?_⟩;simp only[abX,ajQ,alj]at hz;rcases hz with rfl|rfl<;>exact⟨by decide,by decide,by decide⟩⟩
 bh:=⟨by decide,fun y hy=>by cases hy⟩
 paths:=⟨by decide,fun y hy=>by cases hy⟩
 ba:=⟨(by decide:1≤maxLen),fun y hy=>by simp only[xN,abX,ajQ,alj]at hy;subst hy;exact⟨by decide,by decide,by decide,by decide,by decide,by decide⟩⟩
 bY:=by decide
 within:=by decide
 cap:=by decide
theorem Zu:dP [xN.pv]=some (gp (0,0,0)):=by rw[En xN Vs (by decide),show jV xN=(0,0,0) by decide+kernel]
theorem ag2:dZ [xN.pv,xQ.pv]=some (.int .i64 0):=by
 unfold dZ jW;iterate 21 refine(bs rfl).trans ?_
 refine(bs Zu).trans ?_;kernel_rfl
theorem ag4:iv [xN.pv,jpv xO.lZ]=some (.aP [.rs 4 [.agg [.int .i64 160,.int .i64 200,.int .i64 1,.int .i64 1]],.int .i64 0]):=by
 unfold iv sa;iterate 12 refine(bs rfl).trans ?_
 refine(bs Zu).trans ?_;kernel_rfl
theorem adk:gF [xN.pv,xQ.pv,jpv xO.lZ]=some (.aP [.agg [.int .i64 160,.int .i64 200,.int .i64 1,.int .i64 150,.int .i64 0],.rs 4 (xO.tix.map Q2.pv),.int .i64 0]):=by
 unfold gF tP;iterate 23 refine(bs rfl).trans ?_
 refine(bs ag4).trans ?_;kernel_rfl
theorem ag5{S R:Type}{body:S→(S→Option R)→Option R}{s s1:S}{r:Option R}(h0:∀rec,body s rec=rec s1)(h1:∀rec,body s1 rec=r):bl.run body s=r:=by show cZ body (18446744073709551614+1+1) s=r;rw[cZ,h0,cZ,h1]
theorem adl:jo [xN.pv,xQ.pv,jpv xO.lZ]=some (.int .i64 0):=by
 unfold jo tQ;iterate 24 refine(bs rfl).trans ?_
 refine ag5 (fun rec=>rfl) (fun rec=>?_);unfold uA;refine(By (by decide)).trans ?_;refine(bs rfl).trans ?_;refine(By (by decide)).trans ?_;refine(bs rfl).trans ?_;refine(By (by decide)).trans ?_;refine(By (by decide)).trans ?_;refine(bs (show jq _=some (.int .i64 0) by kernel_rfl)).trans ?_;refine(bs rfl).trans ?_;refine(By (by decide)).trans ?_;refine(bs adk).trans ?_;kernel_rfl
theorem ag6:gG [xN.pv,xQ.pv,jpv xO.lZ]=some (.aP [.int .i64 0,.int .i64 0]):=by
 unfold gG qq;iterate 23 refine(bs rfl).trans ?_
 refine(bs ag2).trans ?_;refine(bs rfl).trans ?_;refine(By (by decide)).trans ?_;refine(By (by decide)).trans ?_;refine(bs (a:=.aP [.int .i64 1,.int .i64 0]) (by kernel_rfl)).trans ?_;iterate 3 refine(bs rfl).trans ?_
 refine(By (by decide)).trans ?_;refine(bs adl).trans ?_;kernel_rfl
def xTP:PV:=.agg [.rs 4 (xT.stops.map Stop.pv),.rs 3 (xT.aD.map aV.pv),.rs 10 (xT.Vt.map TG.pv),.rs 0 [],.rs 5 (xT.KG.map Cu.pv),.rs 0 [],.rs 0 [],.rs 0 [],.rs 0 [],.rs 6 (xT.ba.map bJ.pv),.int .i64 0,.int .i64 0,.int .i64 0]
def xP:PV:=.agg [.rs 4 (xN.stops.map Stop.pv),.rs 3 (xN.aD.map aV.pv),.rs 8 (xN.runs.map fP.pv),.rs 0 [],.rs 0 [],.rs 6 (xN.ba.map bJ.pv),.int .i64 0,.int .i64 0,.int .i64 0]
def xF:List Fact:=[⟨1,0,1,-1,0⟩,⟨2,0,160,200,60⟩,⟨3,0,0,0,0⟩,⟨4,0,1,1,0⟩,⟨8,0,0,150,0⟩]
theorem Q6{p p1:PV}(h:p=xTP∧p1=xP∨p=xT.pv∧p1=xN.pv):fQ [p,p1,xQ.pv,xO.pv]=some (.aP [.rs 5 (xF.map Fact.pv),.int .i64 0]):=by
 rcases h with⟨rfl,rfl⟩|⟨rfl,rfl⟩
 all_goals
  unfold fQ sb;iterate 43 refine(bs rfl).trans ?_
  refine(bs ag1).trans ?_;iterate 4 refine(bs rfl).trans ?_
  refine(By (by decide)).trans ?_;refine(bs ag6).trans ?_;iterate 3 refine(bs rfl).trans ?_
  refine(By (by decide)).trans ?_;refine(bs adk).trans ?_;kernel_rfl
theorem Zv:ef [xTP,xP,xQ.pv,xO.pv,.rs 5 (xF.map Fact.pv)]=some (.bool true)∧ef [xTP,xP,xQ.pv,xO.pv,.rs 5 ((xF.take 4).map Fact.pv)]=some (.bool false):=by
 constructor;all_goals
  unfold ef qt;iterate 44 refine(bs rfl).trans ?_
  refine(bs (Q6 (.inr ⟨rfl,rfl⟩))).trans ?_;kernel_rfl
theorem aaG{f:Fact}(hf:f.Ok):cq [xP,xO.pv,f.pv]=ep [xN.pv,xO.pv,f.pv]:=by
 rw[KC Vs (by decide) (by decide) hf,←Gw Vs (by decide) (by decide) hf];unfold cq pf;iterate 24 refine(bs rfl).trans ?_
 symm;iterate 24 refine(bs rfl).trans ?_
 rfl
theorem NC(f:Fact)(h:(ep [xN.pv,xO.pv,f.pv]).isSome=true)(hf:f.Ok):cq [xP,xO.pv,f.pv]=some ((ep [xN.pv,xO.pv,f.pv]).getD .bad):=by
 rw[aaG hf];cases h':ep [xN.pv,xO.pv,f.pv]with
 |none=>rw[h']at h;cases h
 |some x=>rfl
theorem Vu:bN []=some (.bool true):=by
 unfold bN kQ;refine(bs (a:=xTP) rfl).trans ?_;refine(bs rfl).trans ?_;refine(bs (a:=xP) rfl).trans ?_;refine(bs rfl).trans ?_;refine(bs (a:=xO.pv) rfl).trans ?_;refine(bs rfl).trans ?_;refine(bs (Q6 (.inl ⟨rfl,rfl⟩))).trans ?_;iterate 3 refine(bs rfl).trans ?_
 refine(bs (a:=false) (by kernel_rfl)).trans ?_;refine(bs (a:=false) (by rw[cond_false];refine(bs Zv.1).trans ?_;rfl)).trans ?_;refine(bs (a:=false) (by rw[cond_false];refine(bs Zv.2).trans ?_;rfl)).trans ?_;refine(By (by decide)).trans ?_;refine(bs (NC ⟨1,0,1,-1,0⟩ (by kernel_rfl) ⟨by decide,by decide,by decide,by decide,by decide⟩)).trans ?_;iterate 3 refine(bs rfl).trans ?_
 refine(bs (NC ⟨2,0,160,200,60⟩ (by kernel_rfl) ⟨by decide,by decide,by decide,by decide,by decide⟩)).trans ?_;iterate 3 refine(bs rfl).trans ?_
 refine(bs (NC ⟨9,0,0,0,0⟩ (by kernel_rfl) ⟨by decide,by decide,by decide,by decide,by decide⟩)).trans ?_;kernel_rfl
theorem SJ(T:fk)(N:aR)(q:Ny)(O:Ct)(f:Fact)(hT:T.Ok)(hN:N.Ok)(hq:q.Ok)(hO:O.Ok)(hf:f.Ok):dz [A3 T N q O,f.pv]=some (.bool true):=SI Vu hN hf
end Go.Ab.Tt
