import Derived.Test.YtmbihgjlollbeaaGreatFbP1
import Derived.Test.YtmbihgjlollbeaaGreatEkO
namespace Go.Ab.Tt
set_option maxRecDepth 100000
set_option linter.all false
def dg(n:Nat):Bytes:=if h:n<10 then[UInt8.ofNat (48+n)]else dg (n/10)++[UInt8.ofNat (48+n%10)]
termination_by n
decreasing_by omega
theorem F6{n:Nat}(h:n<10):dg n=[UInt8.ofNat (48+n)]:=by rw[dg,ank h]
theorem Wy{n:Nat}(h:¬n<10):dg n=dg (n/10)++[UInt8.ofNat (48+n%10)]:=by rw[dg,dif_neg h]
theorem Wz:∀(k n:Nat),n<10^(k+1)→(dg n).length≤k+1
 |0,n,h=>by rw[F6 (by omega)];simp
 |k+1,n,h=>by
  by_cases Zn:n<10
  ·rw[F6 Zn];simp
  ·rw[Wy Zn,ako];have:=Wz k (n/10) (by rw[ani]at h;omega);simp;omega
theorem ye{n:Nat}(h:n<18446744073709551616):(dg n).length≤20:=Wz 19 n (by omega)
theorem iX(n:Nat)(h:n≤100000):bk.room n=true:=UT n (by omega)
variable{n:Int}
theorem u64_in(h0:0≤n)(h:n<18446744073709551616):IntKind.u64.wrap n=n:=by simp only[IntKind.wrap,IntKind.signed,IntKind.bits];simp;omega
theorem u8_in(h0:0≤n)(h:n<256):IntKind.u8.wrap n=n:=by simp only[IntKind.wrap,IntKind.signed,IntKind.bits];simp;omega
theorem LS(n:Nat):UInt8.ofNat (IntKind.u8.wrap (IntKind.u64.wrap (48+((n:Int)).tmod 10))).toNat=UInt8.ofNat (48+n%10):=by
 have:((n:Int)).tmod 10=((n%10:Nat):Int):=by rw[Int.tmod_eq_emod_of_nonneg (by omega)];omega
 rw[this,u64_in (by omega) (by omega),u8_in (by omega) (by omega),show(48:Int)+((n%10:Nat):Int)=((48+n%10:Nat):Int) by omega,akc]
theorem aaL(n:Nat):((n:Int)).tdiv 10=((n/10:Nat):Int):=by rw[alU (by omega)];omega
def rest(n:Nat):Bytes:=if n<10 then[]else dg (n/10)
theorem QL(n:Nat):dg n=rest n++[UInt8.ofNat (48+n%10)]:=by
 unfold rest;by_cases h:n<10
 ·rw[AI h,F6 h,alL h];rfl
 ·rw[IS h,Wy h]
theorem Dw:∀(k n:Nat)(s:Bytes)(M:Nat),n<10^(k+1)→n<18446744073709551616→s.length≤100-k→k≤40→k<M→cg (jW bk) M ((n:Int),s,())=some (.str (rest n++s))
 |k,n,s,0,_,_,_,_,h=>by omega
 |k,n,s,M+1,h,vP,hs,hk,hM=>by
  simp only[cg];generalize hg:cg (jW bk) M=rec;unfold jW;dsimp only;by_cases Zn:n<10
  ·rw[IS (by simp;omega)];unfold rest;rw[AI Zn];rfl
  ·obtain⟨k,rfl⟩:∃j,k=j+1:=⟨k-1,by
    have:k≠0:=fun e=>by subst e;omega
    omega⟩
   rw[AI (by simp;omega),AI (iX _ (by simp;omega)),aaL,u64_in (by omega) (by omega),LS];rw[←hg,Dw k (n/10) _ M (by rw[ani]at h;omega) (by omega) (by simp;omega) (by omega) (by omega)];rw[show rest n=dg (n/10) by unfold rest;rw[IS Zn],QL (n/10),akh]
theorem CD(n:Nat)(h:n<18446744073709551616):dD [.int .u64 (n:Int)]=some (.str (dg n)):=by simp only[dD,sJ,Ab.asInt,Ko,U];rw[mb,LS,Dw 19 n _ rounds (by omega) h (by simp) (by omega) (by unfold rounds;omega),←QL]
def dJ(n:Int):Bytes:=if n<0 then 45::dg n.natAbs else dg n.toNat
theorem pY(h:eP n): -9223372036854775808≤n∧n≤9223372036854775807:=by have h:=(mc _ _).1 h;simpa[IntKind.min,IntKind.max,IntKind.signed,IntKind.bits]using h
theorem rP(n:Int):eP (IntKind.i64.wrap n):=by
 have e:IntKind.i64.wrap n=(n+9223372036854775808)%18446744073709551616-9223372036854775808:=by simp only[IntKind.wrap,IntKind.signed,IntKind.bits];simp;split<;>omega
 rw[e];refine(mc _ _).2 ?_;simp only[IntKind.min,IntKind.max,IntKind.signed,IntKind.bits];simp;omega
theorem kB(h:eP n):(dJ n).length≤21:=by
 have:=pY h;unfold dJ;split
 ·have:=ye (n:=n.natAbs) (by omega);simp;omega
 ·have:=ye (n:=n.toNat) (by omega);omega
theorem QM(h0:n<0)(h: -9223372036854775808≤n):IntKind.u64.wrap (0-IntKind.u64.wrap n)=(n.natAbs:Int):=by simp only[IntKind.wrap,IntKind.signed,IntKind.bits];simp;omega
theorem oT(h:eP n):bd [.int .i64 n]=some (.str (dJ n)):=by
 have hr:=pY h;simp only[bd,qn,aI,U];unfold dJ;by_cases h0:n<0
 ·have:=ye (n:=n.natAbs) (by omega);rw[AI (by simpa using h0),AI h0,QM h0 hr.1,CD _ (by omega)];simp only[U,bu];rw[AI (iX _ (by omega))];rfl
 ·rw[IS (by simpa using h0),IS h0,u64_in (by omega) (by omega),show n=((n.toNat:Nat):Int) by omega,CD _ (by omega)];simp only[U,bu,akc]
@[simp] theorem Tw:qO.length=4:=rfl
@[simp] theorem LU:jl.length=8:=rfl
@[simp] theorem QN:l6.length=13:=rfl
@[simp] theorem ab6:rr.length=8:=rfl
@[simp] theorem F7:dN.length=25:=rfl
@[simp] theorem OJ:kC.length=14:=rfl
@[simp] theorem UA:eK.length=11:=rfl
@[simp] theorem UB:fL.length=13:=rfl
@[simp] theorem QO:jI.length=13:=rfl
@[simp] theorem OK:iH.length=14:=rfl
@[simp] theorem Tx:vQ.length=12:=rfl
@[simp] theorem QP:ud.length=13:=rfl
@[simp] theorem Ej:bU.length=27:=rfl
@[simp] theorem UC:yf.length=11:=rfl
@[simp] theorem OL:sK.length=14:=rfl
@[simp] theorem F8:fA.length=23:=rfl
@[simp] theorem Zu:vd.length=8:=rfl
@[simp] theorem ab7:Ek.length=6:=rfl
@[simp] theorem aaM:yg.length=7:=rfl
@[simp] theorem aeH:QQ.length=5:=rfl
@[simp] theorem aeI:LV.length=4:=rfl
@[simp] theorem Ty:JJ.length=10:=rfl
@[simp] theorem ab8:JK.length=5:=rfl
@[simp] theorem aaN:F9.length=6:=rfl
def oK(N:ab)(x:bp)(f:Fact):Bool:=
 if f.kind=1 then x.dK&&decide (x.run≥0)&&decide (x.run<(N.runs.length:Int))
 else if f.kind=3∨f.kind=4∨f.kind=5 then decide (f.a≥0)&&decide (f.a<(N.stops.length:Int))
 else if f.kind=8 then decide (f.a≥0)&&decide (f.a<(N.aP.length:Int))else true
theorem Tz(N:ab)(x:bp)(f:Fact):lh [N.pv,x.pv,f.pv]=some (.bool (oK N x f)):=by
 simp only[lh,sL,wK,wL,wM,wN,wO,wP,wQ,wR,wS,wT,sM,rf,rn,re,sF,q9,sE,ri,rj,pX,QG,QH,QI,QJ,LQ,QK,U,iG,AT,BY];unfold oK;have b2:∀a b:Bool,(bif a then some b else some false)=some (a&&b):=fun a b=>by cases a<;>rfl
 simp only[b2,U];by_cases h1:f.kind=1
 ·rw[AI h1,AI h1]
 ·rw[IS h1,IS h1];by_cases h3:f.kind=3
  ·rw[AI h3,AI (.inl h3)]
  ·rw[IS h3];by_cases h4:f.kind=4
   ·rw[AI h4,AI (.inr (.inl h4))]
   ·rw[IS h4];by_cases h5:f.kind=5
    ·rw[AI h5,AI (.inr (.inr h5))]
    ·rw[IS h5,IS (show¬(f.kind=3∨f.kind=4∨f.kind=5) by simp[h3,h4,h5])];by_cases h8:f.kind=8
     ·rw[AI h8,AI h8]
     ·rw[IS h8,IS h8]
def yj(N:ab)(i:Int):Bytes:=match N.stops[i.toNat]? with|some s=>s.id|none=>[]
def Ga(N:ab)(i:Int):Bytes:=match N.aP[i.toNat]? with|some s=>s.id|none=>[]
def Gb(N:ab)(i:Int):Bytes×Int:=match N.runs[i.toNat]? with|some s=>(s.id,s.day)|none=>([],0)
def aaO(a:Int):Bytes:=if a=1 then l6 else if a=2 then dN else kC
def LW(r:Bytes×Int)(f:Fact):Bytes:=qO++(r.1++(jl++(dJ r.2++(aaO f.a++if f.b≥0 then rr++dJ f.b else[]))))
def QR(c:Int):Bytes:=if c>0 then[44,32]++(dg c.natAbs++jI)else if c<0 then[44,32]++(dg c.natAbs++iH)else[]
def LX(N:ab)(x:bp)(f:Fact):Bytes:=
 if f.kind=1 then LW (Gb N x.run) f
 else if f.kind=2 then eK++(dJ f.a++(fL++(dJ f.b++QR f.c)))
 else if f.kind=3 then vQ++yj N f.a
 else if f.kind=4 then ud++yj N f.a
 else if f.kind=5 then dJ f.b++(bU++(yj N f.a++([44,32]++(dJ f.c++yf))))
 else if f.kind=6 then(if f.b=1 then sK else fA++(dJ f.c++vd))
 else if f.kind=7 then Ek++(dJ f.b++vd)
 else yg++(Ga N f.a++(QQ++dJ f.b))
structure ado(N:ab):Prop where
 stop:∀i,(yj N i).length≤32
 prod:∀i,(Ga N i).length≤32
 run:∀i,(Gb N i).1.length≤32∧eP (Gb N i).2
theorem AB{s:Bytes}(h:lR s=true):s.length≤32:=by unfold lR at h;simp only[No,AT]at h;omega
theorem uE.short{N:ab}(h:uE N):ado N:=by
 refine⟨fun i=>?_,fun i=>?_,fun i=>?_⟩
 ·unfold yj;cases hs:N.stops[i.toNat]? with
  |none=>simp
  |some s=>
   obtain⟨hk,e⟩:=By.1 hs;have h1:=h.parts.1;unfold jX at h1;split at h1
   ·cases h1
   ·have:=(kD _ _).1 h1 i.toNat hk;unfold El at this;rw[hs]at this;simp only at this;split at this
    ·cases this
    ·rename_i hv;exact AB (by simpa using hv)
 ·unfold Ga;cases hs:N.aP[i.toNat]? with
  |none=>simp
  |some s=>
   obtain⟨hk,e⟩:=By.1 hs;have h1:=h.parts.2.2;unfold jY at h1;split at h1
   ·cases h1
   ·split at h1
    ·cases h1
    ·have:=(kD _ _).1 h1 i.toNat hk;unfold Em at this;rw[hs]at this;simp only at this;split at this
     ·cases this
     ·rename_i hv;exact AB (by simpa using hv)
 ·unfold Gb;cases hs:N.runs[i.toNat]? with
  |none=>exact⟨by simp,by decide⟩
  |some s=>
   obtain⟨hk,e⟩:=By.1 hs;have:=AD h.res i.toNat hk;unfold oU at this;rw[hs]at this;simp only at this;split at this
   ·cases this
   ·rename_i hv;exact⟨AB (by simpa using hv),(h.ok.runs.2 s (aeB hs)).day⟩
variable{N:ab}
theorem WA{i:Int}(h:(decide (i≥0)&&decide (i<(N.stops.length:Int)))=true):∃s:Stop,fj (N.stops.map Stop.pv) i=some s.pv∧s.id=yj N i:=by
 simp only[No,AT]at h;have hk:i.toNat<N.stops.length:=by omega
 refine⟨N.stops[i.toNat],bn Stop.pv (by omega) (cN hk),?_⟩;unfold yj;rw[cN hk]
theorem WB{i:Int}(h:(decide (i≥0)&&decide (i<(N.aP.length:Int)))=true):∃s:aR,fj (N.aP.map aR.pv) i=some s.pv∧s.id=Ga N i:=by
 simp only[No,AT]at h;have hk:i.toNat<N.aP.length:=by omega
 refine⟨N.aP[i.toNat],bn aR.pv (by omega) (cN hk),?_⟩;unfold Ga;rw[cN hk]
theorem aaP{i:Int}(h:(decide (i≥0)&&decide (i<(N.runs.length:Int)))=true):∃s:dL,fj (N.runs.map dL.pv) i=some s.pv∧(s.id,s.day)=Gb N i:=by
 simp only[No,AT]at h;have hk:i.toNat<N.runs.length:=by omega
 refine⟨N.runs[i.toNat],bn dL.pv (by omega) (cN hk),?_⟩;unfold Gb;rw[cN hk]
theorem JL(s:Stop):bu (cell s.pv 0)=some s.id:=rfl
theorem aaQ(s:aR):bu (cell s.pv 0)=some s.id:=rfl
theorem Jy(s:Bytes):bu (.str s)=some s:=rfl
section
variable {N:ab} {x:bp} {f:Fact}
theorem OM{r:dL}(hid:r.id.length≤32)(hd:eP r.day)(hf:f.Ok):jZ [r.pv,f.pv]=some (.str (LW (r.id,r.day) f)):=by
 have l1:=kB hd;have l2:=kB hf.b;simp only[jZ,qo,adg,wI,aam,aan,aao,Oa,aap,aaq,Hb,aI,aB,aS,Jy,QG,QH,QI,QJ,LQ,QK,U,oT hd,oT hf.b];have r1:∀n,n≤1000→bk.room n=true:=fun n h=>iX n (by omega);rw[AI (r1 _ (by(try simp)<;>omega)),AI (r1 _ (by(try simp)<;>omega)),AI (r1 _ (by(try simp)<;>omega))];unfold LW aaO;simp only[iG,AT];by_cases h1:f.a=1
 ·rw[AI h1,AI h1,AI (r1 _ (by(try simp)<;>omega))];by_cases hb:f.b≥0
  ·rw[AI hb,AI hb,AI (r1 _ (by(try simp)<;>omega)),AI (r1 _ (by(try simp)<;>omega))];simp only[akh]
  ·rw[IS hb,IS hb];simp only[akh,akP]
 ·rw[IS h1,IS h1];by_cases h2:f.a=2
  ·rw[AI h2,AI h2,AI (r1 _ (by(try simp)<;>omega))];by_cases hb:f.b≥0
   ·rw[AI hb,AI hb,AI (r1 _ (by(try simp)<;>omega)),AI (r1 _ (by(try simp)<;>omega))];simp only[akh]
   ·rw[IS hb,IS hb];simp only[akh,akP]
  ·rw[IS h2,IS h2,AI (r1 _ (by(try simp)<;>omega))];by_cases hb:f.b≥0
   ·rw[AI hb,AI hb,AI (r1 _ (by(try simp)<;>omega)),AI (r1 _ (by(try simp)<;>omega))];simp only[akh]
   ·rw[IS hb,IS hb];simp only[akh,akP]
theorem ON{n:Int}(h:eP n)(h0:n<0):dD [.int .u64 (IntKind.u64.wrap (0-IntKind.u64.wrap n))]=some (.str (dg n.natAbs)):=by have hr:=pY h;rw[QM h0 hr.1,CD _ (by omega)]
theorem LY(h:uE N)(hf:f.Ok)(hr:oK N x f=true)(hk:1≤f.kind∧f.kind≤8):jm [N.pv,x.pv,f.pv]=some (.str (LX N x f)):=by
 have la:=kB hf.a;have lb:=kB hf.b;have lc:=kB hf.c;have hsh:=h.short;have hci:=pY hf.c;have ld:(dg f.c.natAbs).length≤20:=ye (by omega);have r1:∀n,n≤1000→bk.room n=true:=fun n h=>iX n (by omega);simp only[jm,oV,wK,wL,wM,wN,wO,wP,wQ,wR,wS,wT,sM,rf,rn,re,sF,q9,sE,ri,rj,pX,QG,QH,QI,QJ,LQ,QK,U,iG,AT,ab5,oT hf.a,oT hf.b,oT hf.c,Jy];unfold oK at hr;unfold LX;by_cases h1:f.kind=1
 ·rw[AI h1]at hr⊢;simp only[No,AT]at hr;obtain⟨s,e1,e2⟩:=aaP (N:=N) (i:=x.run) (by simp;omega);have hl:=hsh.run x.run;rw[←e2]at hl;rw[AI h1,e1];simp only[U,aiF];rw[OM hl.1 hl.2 hf];simp only[U,Jy,e2]
 ·rw[IS h1]at hr⊢;rw[IS h1];by_cases h2:f.kind=2
  ·rw[AI h2,AI h2];rw[AI (r1 _ (by(try simp)<;>omega)),AI (r1 _ (by(try simp)<;>omega)),AI (r1 _ (by(try simp)<;>omega))];unfold QR;by_cases c1:f.c>0
   ·have ed:dJ f.c=dg f.c.natAbs:=by unfold dJ;rw[IS (by omega),show f.c.toNat=f.c.natAbs by omega]
    rw[AI c1,AI c1,ed,AI (r1 _ (by(try simp)<;>omega)),AI (r1 _ (by(try simp)<;>omega)),AI (r1 _ (by(try simp)<;>omega)),IS (by omega)];simp only[akh]
   ·rw[IS c1,IS c1];by_cases c2:f.c<0
    ·rw[AI c2,AI c2,ON hf.c c2];simp only[U,Jy];rw[AI (r1 _ (by(try simp)<;>omega)),AI (r1 _ (by(try simp)<;>omega)),AI (r1 _ (by(try simp)<;>omega))];simp only[akh]
    ·rw[IS c2,IS c2];simp only[akh,akP]
  ·rw[IS h2,IS h2];have stp:f.kind=3∨f.kind=4∨f.kind=5→∃s:Stop,fj (N.stops.map Stop.pv) f.a=some s.pv∧s.id=yj N f.a:=fun hh=>by rw[AI hh]at hr;exact WA hr
   have ls:=hsh.stop f.a;by_cases h3:f.kind=3
   ·obtain⟨s,e1,e2⟩:=stp (.inl h3);rw[AI h3,AI h3,e1];simp only[U,JL,e2];rw[AI (r1 _ (by(try simp)<;>omega))]
   ·rw[IS h3,IS h3];by_cases h4:f.kind=4
    ·obtain⟨s,e1,e2⟩:=stp (.inr (.inl h4));rw[AI h4,AI h4,e1];simp only[U,JL,e2];rw[AI (r1 _ (by(try simp)<;>omega))]
    ·rw[IS h4,IS h4];by_cases h5:f.kind=5
     ·obtain⟨s,e1,e2⟩:=stp (.inr (.inr h5));rw[AI h5,AI h5,AI (r1 _ (by(try simp)<;>omega)),e1];simp only[U,JL,e2];rw[AI (r1 _ (by(try simp)<;>omega)),AI (r1 _ (by(try simp)<;>omega)),AI (r1 _ (by(try simp)<;>omega)),AI (r1 _ (by(try simp)<;>omega))];simp only[akh]
     ·rw[IS h5,IS h5];rw[IS (show¬(f.kind=3∨f.kind=4∨f.kind=5) by simp[h3,h4,h5])]at hr;by_cases h6:f.kind=6
      ·rw[AI h6,AI h6];by_cases hb:f.b=1
       ·rw[AI hb,AI hb]
       ·rw[IS hb,IS hb,AI (r1 _ (by(try simp)<;>omega)),AI (r1 _ (by(try simp)<;>omega))];simp only[akh]
      ·rw[IS h6,IS h6];by_cases h7:f.kind=7
       ·rw[AI h7,AI h7,AI (r1 _ (by(try simp)<;>omega)),AI (r1 _ (by(try simp)<;>omega))];simp only[akh]
       ·rw[IS h7,IS h7];have h8:f.kind=8:=by omega
        rw[AI h8]at hr;obtain⟨s,e1,e2⟩:=WB hr;have lp:=hsh.prod f.a;rw[e1];simp only[U,aaQ,e2];rw[AI (r1 _ (by(try simp)<;>omega)),AI (r1 _ (by(try simp)<;>omega)),AI (r1 _ (by(try simp)<;>omega))];simp only[akh]
def Ik(N:ab)(l:List bp)(f:Fact):Bytes×Int:=
 if(qp N).2.2≠0 then([],21)else if f.kind<1∨f.kind>8 then([],1)else if f.wJ<0∨f.wJ≥(l.length:Int)then([],9)
 else match l[f.wJ.toNat]? with
  |none=>([],9)
  |some x=>if oK N x f=true then(LV++(dJ (f.wJ+1)++([58,32]++LX N x f)),0)else([],9)
theorem TA(hsh:ado N)(hf:f.Ok)(i:Int):(LW (Gb N i) f).length≤200:=by
 have:=hsh.run i;have l1:=kB this.2;have l2:=kB hf.b;unfold LW;have:(aaO f.a).length≤25:=by
  unfold aaO;split;·simp
  split<;>simp
 have:(if f.b≥0 then rr++dJ f.b else[]).length≤30:=by split<;>simp<;>omega
 simp only[ako,Tw,LU];omega
theorem TB(hsh:ado N)(hf:f.Ok):(LX N x f).length≤200:=by
 have la:=kB hf.a;have lb:=kB hf.b;have lc:=kB hf.c;have hci:=pY hf.c;have ld:(dg f.c.natAbs).length≤20:=ye (by omega);have ls:=hsh.stop f.a;have lp:=hsh.prod f.a;have lt:(QR f.c).length≤40:=by
  unfold QR;split
  ·simp<;>omega
  ·split
   ·simp<;>omega
   ·simp
 have lr:=TA (f:=f) hsh hf x.run;unfold LX;split
 ·exact lr
 ·repeat' split
  all_goals (simp<;>omega)
theorem Tu{O:AW}(hN:N.Ok)(hp:N.paths.length≤4096)(hO:O.cp.length≤1000)(hf:f.Ok):cF [N.pv,O.pv,f.pv]=some (.aO [.str (Ik N O.cp f).1,.int .i64 (Ik N O.cp f).2]):=by
 simp only[cF,ry,wK,wL,wM,wN,wO,wP,wQ,wR,wS,wT,aaz,aaA,aaB,aaC,aaD,aaE,aaF,aaG,QG,QH,QI,QJ,LQ,QK,U,DX,ab5,vR N hN hp,wB,dn,akd,akm,Ko,ajc,aka,aI,pW,bf,BY];unfold Ik;by_cases hz:(qp N).2.2=0
 ·have hv:uE N:=⟨hN,hp,hz⟩;rw[IS (by simp[hz]),IS (show¬(qp N).2.2≠0 by simp[hz])];by_cases hk:f.kind<1∨f.kind>8
  ·rw[AI (by simpa using hk),AI hk]
  ·rw[IS (by simpa using hk),IS hk];by_cases hl:f.wJ<0∨f.wJ≥(O.cp.length:Int)
   ·rw[AI hl,show(decide (f.wJ<0)||decide (f.wJ≥(O.cp.length:Int)))=true by simpa using hl];simp[U]
   ·rw[IS hl,show(decide (f.wJ<0)||decide (f.wJ≥(O.cp.length:Int)))=false by simpa using hl];have bZ:f.wJ.toNat<O.cp.length:=by omega
    have hx:O.cp[f.wJ.toNat]?=some O.cp[f.wJ.toNat]:=cN bZ;rw[hx,bn bp.pv (by omega) hx];simp only[cond_false,U,aaR,Tz,aB];generalize O.cp[f.wJ.toNat]=y;cases hr:oK N y f with
    |false=>rw[AI (by simp),IS (by simp)]
    |true=>
     have hw:IntKind.i64.wrap (f.wJ+1)=f.wJ+1:=aY (by omega) (by omega);have hi:eP (f.wJ+1):=by rw[←hw];exact rP _
     have l1:=kB hi;have l2:=TB (x:=y) hv.short hf;rw[IS (by simp),AI rfl,hw,oT hi];simp only[U,Jy,LY hv hf hr (by omega)];rw[AI (iX _ (by(try simp)<;>omega)),AI (iX _ (by(try simp)<;>omega)),AI (iX _ (by(try simp)<;>omega))];simp only[akh]
 ·rw[AI (by simpa using hz),AI hz]
end
end Go.Ab.Tt
