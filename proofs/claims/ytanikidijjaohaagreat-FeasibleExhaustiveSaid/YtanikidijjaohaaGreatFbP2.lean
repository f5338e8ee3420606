import Derived.Test.YtanikidijjaohaaGreatFbP1
namespace Go.Ab.Tt
set_option maxRecDepth 100000
set_option linter.unusedVariables false
set_option linter.unusedSimpArgs false
variable{a:Nat}
theorem QE(h:a<18446744073709551616):(BitVec.ofInt 64 (a:Int)).toNat=a:=by rw[amU,BitVec.toNat_ofNat,alq h]
theorem IC(h:a<18446744073709551616):IntKind.u64.wrap (a:Int)=(a:Int):=by simp only[IntKind.wrap,IntKind.signed,IntKind.bits];simp;omega
theorem DG(h:a<9223372036854775808):IntKind.i64.wrap (a:Int)=(a:Int):=bE (by omega) (by omega)
theorem yb{b:Nat}(ha:a<65536)(hb:b<65536):a|||b<65536:=Nat.or_lt_two_pow (n:=16) ha hb
theorem orI{b:Nat}(ha:a<65536)(hb:b<65536):IntKind.i64.wrap ((BitVec.ofInt IntKind.i64.bits (a:Int)|||BitVec.ofInt IntKind.i64.bits (b:Int)).toNat:Int)=((a|||b:Nat):Int):=by show IntKind.i64.wrap (((BitVec.ofInt 64 (a:Int)|||BitVec.ofInt 64 (b:Int)).toNat:Nat):Int)=_;rw[BitVec.toNat_or,QE (by omega),QE (by omega)];exact DG (by have:=yb ha hb;omega)
theorem orU{b:Nat}(ha:a<65536)(hb:b<65536):IntKind.u64.wrap ((BitVec.ofInt IntKind.u64.bits (a:Int)|||BitVec.ofInt IntKind.u64.bits (b:Int)).toNat:Int)=((a|||b:Nat):Int):=by show IntKind.u64.wrap (((BitVec.ofInt 64 (a:Int)|||BitVec.ofInt 64 (b:Int)).toNat:Nat):Int)=_;rw[BitVec.toNat_or,QE (by omega),QE (by omega)];exact IC (by have:=yb ha hb;omega)
theorem nA{z:Nat}(h:z<16):2^z<65536:=(Nat.pow_lt_pow_right (a:=2) (by decide) h:2^z<2^16)
variable{z:Int}
theorem shI(h0:0≤z)(h:z<16):IntKind.i64.wrap (1*2^min z.toNat IntKind.i64.bits)=((2^z.toNat:Nat):Int):=by
 have h1:min z.toNat IntKind.i64.bits=z.toNat:=akK (by show z.toNat≤64;omega);have h2:z.toNat<16:=by omega
 rw[h1,Int.one_mul];have:=nA h2;have e:((2:Int)^z.toNat)=((2^z.toNat:Nat):Int):=by simp
 rw[e];exact DG (by omega)
theorem shU(h0:0≤z)(h:z<16):IntKind.u64.wrap (1*2^min z.toNat IntKind.u64.bits)=((2^z.toNat:Nat):Int):=by
 have h1:min z.toNat IntKind.u64.bits=z.toNat:=akK (by show z.toNat≤64;omega);have h2:z.toNat<16:=by omega
 rw[h1,Int.one_mul];have:=nA h2;have e:((2:Int)^z.toNat)=((2^z.toNat:Nat):Int):=by simp
 rw[e];exact IC (by omega)
theorem aU(n:Int):Ab.asInt .u64 (.int .u64 n)=some n:=rfl
theorem Gg(h0:0≤z)(h:z<16):k9 [.int .i64 z]=some (.int .u64 ((2^z.toNat:Nat):Int)):=by simp only[k9,Ad,aI,U,aY];rw[IN (by simp;omega),IN (by omega),shU h0 h]
theorem aan{s:Nat}(hs:s<65536)(h0:0≤z)(h:z<16):gX [.int .u64 (s:Int),.int .i64 z]=some (.int .u64 ((s|||2^z.toNat:Nat):Int)):=by simp only[gX,qp,aU,aI,U,Gg h0 h];rw[orU hs (nA (by omega))]
theorem S4(h0:0≤z)(h:z<16):pL [.rs 1 [.int .i64 z]]=some (.int .u64 ((2^z.toNat:Nat):Int)):=by
 simp only[pL,Cp,aS,U,akI];refine cj (fun k=>(((if k=0 then 0 else 2^z.toNat:Nat):Int),[PV.int .i64 z],1,(k:Int),())) 1 (fun k hk rec=>?_) (fun rec=>?_) (by unfold rounds;omega) rfl
 ·have:k=0:=by omega
  subst this;unfold wb;dsimp only;have hc:cell (PV.int .i64 z) 0=PV.int .i64 z:=rfl;have hi:aD [PV.int .i64 z] ((0:Nat):Int)=some (PV.int .i64 z):=rfl;rw[BK (by simp),hi];simp only[U,hc,aI,Gg h0 h,aU,aaV];rw[orU (by omega) (nA (by omega)),Nat.zero_or];rfl
 ·unfold wb;dsimp only;rw[IN (by simp)];rfl
def Kb(N:ab)(c:bV):Nat:=match N.stops[c.stop.toNat]? with|some s=>s.qD.toNat|none=>0
def Gh(N:ab):List bV→Nat→Nat
 |[],s=>s
 |c::r,s=>Gh N r (s|||2^Kb N c)
def qS(N:ab)(x:aT):List bV:=match y5 N x with|some r=>(r.calls.take (x.br.toNat+1)).drop x.cw.toNat|none=>[]
def Cv(N:ab)(x:aT):Nat:=Gh N (qS N x) 0
theorem XR{N:ab}(cs:List bV)(h:∀c∈cs,Kb N c<16):∀s,s<65536→Gh N cs s<65536:=by
 induction cs with
 |nil=>intro s hs;exact hs
 |cons c r ih=>intro s hs;exact ih (fun c hc=>h c (by simp[hc])) _ (yb hs (nA (h c (by simp))))
theorem XS(x:Stop):Ab.asInt .i64 (cell x.pv 1)=some x.qD:=rfl
section
variable {N:ab} {q:gZ}
variable{r:da}
theorem Cw(h:jI N)(hr:r∈N.runs){c:bV}(hc:c∈r.calls):∃s,N.stops[c.stop.toNat]?=some s∧0≤c.stop∧0≤s.qD∧s.qD<16∧Kb N c=s.qD.toNat:=by obtain⟨s,h1,h2,h3⟩:=h.call r hr c hc;obtain⟨a,b,_⟩:=h.stop s h3;exact⟨s,h1,h2,a,b,by unfold Kb;rw[h1]⟩
variable{x:aT}{t:ay}{a b:bV}
theorem ye(hx:qE N x r t a b):qS N x=(r.calls.take (x.br.toNat+1)).drop x.cw.toNat:=by unfold qS y5;rw[BK hx.vZ,hx.run]
theorem Cx(hx:qE N x r t a b):∀c∈qS N x,c∈r.calls:=by intro c hc;rw[ye hx]at hc;exact akN (ak8 hc)
theorem Cy(h:jI N)(hx:qE N x r t a b):Cv N x<65536:=XR _ (fun c hc=>by obtain⟨s,_,_,_,_,e⟩:=Cw h hx.mem (Cx hx c hc);omega) 0 (by omega)
theorem Mb(h:jI N)(hx:qE N x r t a b):jM [N.pv,x.pv]=some (.int .u64 (Cv N x:Int)):=by
 have ux:=xY h.res r hx.mem;have hlen:=(DH ux).2;have Jo:x.br.toNat<r.calls.length:=(IS.1 hx.br).1;have ha0:=hx.Bk;have hb0:=hx.J4;have cd:=hx.lt;have hw:IntKind.i64.wrap (x.br+1)=x.br+1:=bE (by omega) (by omega);simp only[jM,tO,gw,gx,gy,gz,gA,gB,gC,gD,gE,gF,iR,gS,iS,iT,jg,jh,iC,iD,gT,gU,U,bj da.pv hx.vZ hx.run,Ar,aS,hw,OF];rw[BK (by refine⟨hb0,by omega,by omega,?_⟩;simp)];have Ej:List.drop x.cw.toNat (List.take (x.br+1).toNat (r.calls.map bV.pv))=(qS N x).map bV.pv:=by rw[ye hx,show(x.br+1).toNat=x.br.toNat+1 by omega,amy,al2]
 rw[Ej,OF];have ahJ:(qS N x).length≤32:=by rw[ye hx];simp;omega
 refine dL (fun k(s:Nat)=>((s:Int),(qS N x).map bV.pv,((qS N x).length:Int),(k:Int),N.stops.map Stop.pv,N.aj.map ay.pv,N.runs.map da.pv,N.au.map ba.pv,N.paths.map Path.pv,N.aL.map aA.pv,N.bk,N.within,N.cap,())) (fun k s=>some (PV.int .u64 (Gh N ((qS N x).drop k) s:Int))) (fun k s=>s<65536) (qS N x).length (fun k hk s rec hi cA=>?_) (fun s rec hi=>?_) (by unfold rounds;omega) 0 (by omega) rfl
 ·obtain⟨st,s1,s2,s3,s4,s5⟩:=Cw h hx.mem (Cx hx _ (ajz hk));unfold oS;dsimp only;rw[BK (by simp;omega),bA bV.pv _ k hk];simp only[U,Ct,bj Stop.pv s2 s1,XS,aan hi s3 s4,aU,ag (show k<9223372036854775807 by omega)];rw[cA _ (yb hi (nA (by omega))),dv hk];simp only[Gh,s5]
 ·unfold oS;dsimp only;rw[IN (by simp),ajS];rfl
theorem ID(h:jI N)(hx:qE N x r t a b):jV [N.pv,x.pv]=some (.int .i64 (Cv N x:Int)):=by
 have ux:=xY h.res r hx.mem;have hlen:=(DH ux).2;have Jo:x.br.toNat<r.calls.length:=(IS.1 hx.br).1;have ha0:=hx.Bk;have hb0:=hx.J4;have cd:=hx.lt;simp only[jV,xW,gw,gx,gy,gz,gA,gB,gC,gD,gE,gF,iR,gS,iS,iT,jg,jh,iC,iD,gT,gU,U,bj da.pv hx.vZ hx.run,Ar,aS];have ahJ:(qS N x).length=x.br.toNat+1-x.cw.toNat:=by rw[ye hx];simp;omega
 refine dL (fun k(s:Nat)=>((s:Int),r.calls.map bV.pv,x.cw+(k:Int),N.stops.map Stop.pv,N.aj.map ay.pv,N.runs.map da.pv,N.au.map ba.pv,N.paths.map Path.pv,N.aL.map aA.pv,N.bk,N.within,N.cap,x.bJ,x.run,x.cw,x.br,x.src,x.dst,x.dep,x.arr,x.stay,())) (fun k s=>some (PV.int .i64 (Gh N ((qS N x).drop k) s:Int))) (fun k s=>s<65536) (qS N x).length (fun k hk s rec hi cA=>?_) (fun s rec hi=>?_) (by unfold rounds;omega) 0 (by omega) (by simp)
 ·obtain⟨st,s1,s2,s3,s4,s5⟩:=Cw h hx.mem (Cx hx _ (ajz hk));have ec:r.calls[(x.cw+(k:Int)).toNat]?=some (qS N x)[k]:=by
   have e1:(qS N x)[k]?=some (qS N x)[k]:=AI hk;rw[←e1];conv=>rhs;rw[ye hx]
   rw[amf,List.getElem?_take,BK (by omega)];congr 1;omega
  unfold sA;dsimp only;rw[BK (by simp;omega),bj bV.pv (by omega) ec];simp only[U,Ct,bj Stop.pv s2 s1,XS,shI s3 s4];rw[IN (by omega),orI hi (nA (by omega)),bE (by omega) (by omega),show x.cw+(k:Int)+1=x.cw+((k+1:Nat):Int) by omega,cA _ (yb hi (nA (by omega))),dv hk];simp only[Gh,s5]
 ·unfold sA;dsimp only;rw[IN (by simp;omega),ajS];rfl
end
structure Rd where
 dep:Int
 arr:Int
 iy:Nat
 bK:Nat
def Rd.pv(x:Rd):PV:=.agg [.int .i64 x.dep,.int .i64 x.arr,.int .i64 (x.iy:Int),.int .i64 (x.bK:Int)]
def Gi(N:ab)(x:aT):Nat:=match y5 N x with
 |some r=>(match N.aj[r.eR.toNat]? with|some t=>2^t.mode.toNat|none=>0)
 |none=>0
def rdStep(N:ab)(out:List Rd)(x:aT):List Rd:=
 if x.bJ=true then(if x.stay=true then(match out.getLast? with
  |some y=>out.dropLast++[⟨y.dep,x.arr,y.iy|||Cv N x,y.bK|||Gi N x⟩]
  |none=>out)
  else out++[⟨x.dep,x.arr,Cv N x,Gi N x⟩])
 else out
def j2(N:ab):List aT→List Rd→List Rd
 |[],out=>out
 |x::r,out=>j2 N r (rdStep N out x)
structure zy(N:ab)(l:List aT):Prop where
 leg:∀k(h:k<l.length),DD N l[k]=false
 mom:∀k(h:k<l.length),LX l[k]=false
 stay:∀k(h:k<l.length),l[k].stay=true→∃j,∃h:j<l.length,k=j+1∧l[j].bJ=true
def IE(l:List aT):Nat→Bool
 |0=>false
 |k+1=>match l[k]? with|some x=>x.bJ|none=>false
theorem oT{l:List aT}{k:Nat}(h:k<l.length):IE l (k+1)=l[k].bJ:=by show(match l[k]? with|some x=>x.bJ|none=>false)=_;rw[AI h]
structure Cz(x:Rd):Prop where
 z:x.iy<65536
 m:x.bK<65536
 d:0≤x.dep∧x.dep≤3155932800
theorem aao{x:aT}(h:LX x=false):0≤x.dep∧x.dep≤3155932800:=by unfold LX qR at h;simp only[akg,akL,T1,I5]at h;exact⟨h.1.1,h.1.2⟩
structure Mc(l:List aT)(k:Nat)(out:List Rd):Prop where
 len:out.length≤k
 ok:∀y∈out,Cz y
 ne:IE l k=true→out≠[]
section
variable {N:ab} {q:gZ} {l:List aT} {k:Nat}
theorem Gj(h:jI N){x:aT}{r:da}{t:ay}{a b:bV}(hx:qE N x r t a b):Gi N x=2^t.mode.toNat∧0≤t.mode∧t.mode<16∧Gi N x<65536:=by
 have ht:=h.eR t hx.tm;have e:Gi N x=2^t.mode.toNat:=by unfold Gi y5;rw[BK hx.vZ,hx.run];simp only[hx.eR]
 exact⟨e,ht.1,by omega,by rw[e];exact nA (by omega)⟩
theorem Av(h:jI N)(hg:zy N l)(hk:k<l.length){out:List Rd}(hi:Mc l k out):Mc l (k+1) (rdStep N out l[k]):=by
 obtain⟨_,_,hx,ov⟩:=su (hg.leg k hk);have XT:IE l (k+1)=l[k].bJ:=oT hk;unfold rdStep;cases hr:l[k].bJ with
 |false=>exact⟨by simpa using Nat.le_succ_of_le hi.len,hi.ok,fun hh=>by rw[XT,hr]at hh;cases hh⟩
 |true=>
  obtain⟨r,t,a,b,jw⟩:=Aq h (hx hr);have hz:=Cy h jw;have hm:=(Gj h jw).2.2.2;rw[BK rfl];cases hs:l[k].stay with
  |true=>
   obtain⟨j,hj,rfl,hjr⟩:=hg.stay k hk hs;have cY:out≠[]:=hi.ne (by rw[oT hj];exact hjr);rw[BK rfl,alU cY];simp only;have hy:=hi.ok _ (List.getLast_mem cY);have hl:=hi.len;have eF:0<out.length:=amY.2 cY;refine⟨by simp;omega,fun y UL=>?_,fun _=>by simp⟩;rcases ajI.1 UL with UL|UL
   ·exact hi.ok _ ((List.dropLast_sublist _).subset UL)
   ·simp only[aj4]at UL;subst UL;exact⟨yb hy.z hz,yb hy.m hm,hy.d⟩
  |false=>
   rw[IN (by simp)];refine⟨by simpa using hi.len,fun y UL=>?_,fun _=>by simp⟩;rcases ajI.1 UL with UL|UL
   ·exact hi.ok _ UL
   ·simp only[aj4]at UL;subst UL;exact⟨hz,hm,aao (hg.mom k hk)⟩
theorem QF(x:aT):iY [N.pv,x.pv]=some (.bool (XB N x)):=by
 simp only[iY,sm,gw,gx,gy,gz,gA,gB,gC,gD,gE,gF,iR,gS,iS,iT,jg,jh,iC,iD,gT,gU,U,OF,bf];unfold XB y5;by_cases h0:0≤x.run
 ·by_cases h1:x.run.toNat<N.runs.length
  ·rw[BK h0,AI h1,bj da.pv h0 (AI h1),akE h0,akE (show x.run<(N.runs.length:Int) by omega)];simp only[U,Ar,aS,OF,akp];by_cases c1:0≤x.cw<;>by_cases c2:x.cw<x.br<;>simp[c1,c2]
  ·rw[BK h0,ajr (by omega),akE h0,akd (show¬x.run<(N.runs.length:Int) by omega)];rfl
 ·rw[IN h0,akd h0];rfl
theorem Md(init:List PV)(y v:PV):(init++[y]).set init.length v=init++[v]:=by rw[amN _ _ (ajC _),alm];rfl
theorem Bm(init:List PV)(y:PV):(init++[y])[init.length]?=some y:=by rw[aks (ajC _),alm];rfl
theorem rd0(x:Rd):cell x.pv 0=.int .i64 x.dep:=rfl
theorem rd1(x:Rd):cell x.pv 1=.int .i64 x.arr:=rfl
theorem rd2(x:Rd):cell x.pv 2=.int .i64 (x.iy:Int):=rfl
theorem rd3(x:Rd):cell x.pv 3=.int .i64 (x.bK:Int):=rfl
theorem abr(l:List PV)(j:Nat):cell (.agg l) j=l.getD j .bad:=rfl
theorem XU(h:jI N)(hg:zy N l)(hl:l.length≤1000000):jN [N.pv,fP l]=some (.bu [.rs 4 ((j2 N l []).map Rd.pv),.int .i64 0]):=by
 simp only[jN,tQ,gw,gx,gy,gz,gA,gB,gC,gD,gE,gF,jA,j0,U,jj,F4 N h.ok h.paths,OF];simp only[iw,cZ,ajv,ajQ,aaV,U,ajE,ajD,aI,h.res];rw[IN (by decide)];refine dL (fun j(out:List Rd)=>(IE l j,l.map aT.pv,(l.length:Int),(j:Int),N.stops.map Stop.pv,N.aj.map ay.pv,N.runs.map da.pv,N.au.map ba.pv,N.paths.map Path.pv,N.aL.map aA.pv,N.bk,N.within,N.cap,out.map Rd.pv,())) (fun j out=>some (PV.bu [.rs 4 ((j2 N (l.drop j) out).map Rd.pv),.int .i64 0])) (Mc l) l.length (fun j hj out rec hi cA=>?_) (fun out rec hi=>?_) (by unfold rounds;omega) [] ⟨by simp,by simp,fun hh=>by cases hh⟩ rfl
 ·obtain⟨_,_,hx,ov⟩:=su (hg.leg j hj);have XV:=cA _ (Av h hg hj hi);have XT:IE l (j+1)=l[j].bJ:=oT hj;rw[dv hj];show _=some (PV.bu [.rs 4 ((j2 N (l.drop (j+1)) (rdStep N out l[j])).map Rd.pv),.int .i64 0]);rw[←XV,XT];unfold oU;dsimp only;rw[BK (by simp;omega),bA aT.pv l j hj];simp only[U,iR,gS,iS,iT,jg,jh,iC,iD,gT,gU,Qz,jj,QF,aB,bf,aY,ag (show j<9223372036854775807 by omega)];cases hr:l[j].bJ with
  |false=>have hs:=ov hr;rw[hs,IN (by simp),IN (by simp),IN (by simp)];unfold rdStep;rw[hr,IN (by simp)]
  |true=>
   obtain⟨r,t,a,b,jw⟩:=Aq h (hx hr);have hz:=Cy h jw;obtain⟨m1,m2,m3,m4⟩:=Gj h jw;rw[IN (by simp[hx hr])];cases hs:l[j].stay with
   |false=>rw[IN (by simp),BK rfl];simp only[Mb h jw,U,aU,bj da.pv jw.vZ jw.run,L3,aI,bj ay.pv jw.Cr jw.eR,yT,S4 m2 m3,ajT,aaV];rw[BK (by simp only[ags,OF,akI];have:=hi.len;unfold af;omega),DG (by omega),←m1,DG (by omega)];unfold rdStep;rw[hr,hs,BK rfl,IN (by simp),ajV];rfl
   |true=>
    obtain⟨i,OE,rfl,hir⟩:=hg.stay j hj hs;have cY:out≠[]:=hi.ne (by rw[oT OE];exact hir);obtain⟨init,y,rfl⟩:∃init y,out=init++[y]:=⟨out.dropLast,out.getLast cY,(al4 cY).symm⟩;have hy:=hi.ok y (by simp);have acq:IE l (i+1)=true:=by rw[oT OE];exact hir
    have BN:=hi.len;simp only[ags,akI]at BN;rw[acq,IN (by simp),BK rfl];simp only[Mb h jw,U,aU,bj da.pv jw.vZ jw.run,L3,aI,bj ay.pv jw.Cr jw.eR,yT,S4 m2 m3,ajx,By,abG];have hlen:(((init++[y]).map Rd.pv).length:Int)-1=((init.map Rd.pv).length:Int):=by simp
    have hmp:(init++[y]).map Rd.pv=init.map Rd.pv++[y.pv]:=by simp
    rw[hlen,bE (by simp only[OF];omega) (by simp only[OF];omega),ajw,hmp];rw[BK (by unfold ae;simp;omega),Bm];simp only[U,Md,Bm,rd0,rd1,rd2,rd3,abr,ajE,ajD,over,aI];rw[DG (show Cv N l[i+1]<9223372036854775808 by omega),←m1,DG (show Gi N l[i+1]<9223372036854775808 by omega),orI hy.z hz,orI hy.m m4];unfold rdStep;rw[hr,hs,BK rfl,BK rfl,amS,amC];simp only[Option.some_or,amV,ajV,ajy,akv];rfl
 ·unfold oU;dsimp only;rw[IN (by simp),ajS];rfl
end
section
variable {N:ab} {q:gZ} {l:List aT} {k:Nat}
theorem UM(h:jI N)(hg:zy N l)(hl:l.length≤1000000):lR [N.pv,fP l]=some (.bu [.rs 4 ((j2 N l []).map Rd.pv),.int .i64 0]):=by
 simp only[lR,xA,gw,gx,gy,gz,gA,gB,gC,gD,gE,gF,jA,j0,U,jj,F5 N h.ok h.paths,aB,h.res,ajW,ajx,By,abG];refine dL (fun j(out:List Rd)=>((j:Int),N.stops.map Stop.pv,N.aj.map ay.pv,N.runs.map da.pv,N.au.map ba.pv,N.paths.map Path.pv,N.aL.map aA.pv,N.bk,N.within,N.cap,l.map aT.pv,out.map Rd.pv,())) (fun j out=>some (PV.bu [.rs 4 ((j2 N (l.drop j) out).map Rd.pv),.int .i64 0])) (Mc l) l.length (fun j hj out rec hi cA=>?_) (fun out rec hi=>?_) (by unfold rounds;omega) [] ⟨by simp,by simp,fun hh=>by cases hh⟩ rfl
 ·obtain⟨_,_,hx,ov⟩:=su (hg.leg j hj);have XV:=cA _ (Av h hg hj hi);rw[dv hj];show _=some (PV.bu [.rs 4 ((j2 N (l.drop (j+1)) (rdStep N out l[j])).map Rd.pv),.int .i64 0]);rw[←XV];unfold sB;dsimp only;rw[BK (by simp;omega),bA aT.pv l j hj];simp only[U,iR,gS,iS,iT,jg,jh,iC,iD,gT,gU,Qz,jj,F7,aB,bf,aY,ag (show j<9223372036854775807 by omega)];cases hr:l[j].bJ with
  |false=>have hs:=ov hr;rw[hs,IN (by simp)];simp only[cond_false,U,By,abG,ajT,aaV];unfold rdStep;rw[hr,IN (by simp)]
  |true=>
   obtain⟨r,t,a,b,jw⟩:=Aq h (hx hr);have hz:=Cy h jw;obtain⟨m1,m2,m3,m4⟩:=Gj h jw;rw[IN (by simp[hx hr])];cases hs:l[j].stay with
   |false=>simp only[cond_false,U,By,abG,ajx,ID h jw,aI,bj da.pv jw.vZ jw.run,L3,bj ay.pv jw.Cr jw.eR,yT,shI m2 m3];rw[IN (by omega),BK (by simp only[ags,OF,akI];have:=hi.len;unfold af;omega),←m1];unfold rdStep;rw[hr,hs,BK rfl,IN (by simp),ajV];rfl
   |true=>
    obtain⟨i,OE,rfl,hir⟩:=hg.stay j hj hs;have cY:out≠[]:=hi.ne (by rw[oT OE];exact hir);obtain⟨init,y,rfl⟩:∃init y,out=init++[y]:=⟨out.dropLast,out.getLast cY,(al4 cY).symm⟩;have hy:=hi.ok y (by simp);have BN:=hi.len;simp only[ags,akI]at BN;have h0:(((i+1:Nat):Int)==0)=false:=by simp;omega
    rw[h0,mU i (by omega),bA aT.pv l i OE];simp only[U,gS,hir,cond_true,cond_false,ajx,akz,aln,By,abG,aaV,ID h jw,aI,bj da.pv jw.vZ jw.run,L3,bj ay.pv jw.Cr jw.eR,yT,shI m2 m3];have hlen:(((init++[y]).map Rd.pv).length:Int)-1=((init.map Rd.pv).length:Int):=by simp
    have hmp:(init++[y]).map Rd.pv=init.map Rd.pv++[y.pv]:=by simp
    rw[IN (by omega),hlen,bE (by simp only[OF];omega) (by simp only[OF];omega),ajw,hmp];have oq:∀v:PV,ae ((init.map Rd.pv).length:Int) (init.map Rd.pv++[v]).length:=fun v=>by unfold ae;simp;omega
    rw[BK (oq _),Bm];simp only[U,Md,Bm,rd0,rd1,rd2,rd3,abr,ajE,ajD,over,aI,oq,aaV];rw[←m1,orI hy.z hz,orI hy.m m4];unfold rdStep;rw[hr,hs,BK rfl,BK rfl,amS,amC];simp only[Option.some_or,amV,ajV,ajy,akv];rfl
 ·unfold sB;dsimp only;rw[IN (by simp),ajS];rfl
end
def XW(f:Rd→Nat):List Rd→Nat→Nat
 |[],s=>s
 |x::r,s=>XW f r (s|||f x)
def D2(m pm:Nat):Nat:=(BitVec.ofInt 64 (m:Int)&&& ~~~BitVec.ofInt 64 (pm:Int)).toNat
theorem S5{m pm:Nat}(h:m<65536):D2 m pm<65536:=by unfold D2;rw[amH,QE (by omega)];exact Nat.lt_of_le_of_lt Nat.and_le_left h
def IF:Option Rd→Int
 |some x=>x.dep
 |none=>0
def oV(p:aA)(rs:List Rd):Bool:=decide ((rs.length:Int)≤p.bQ)&&decide (IF rs.getLast? -IF rs.head?≤p.ez)&&decide ((pc (XW Rd.iy rs 0):Int)≤p.iy)&&decide (D2 (XW Rd.bK rs 0) p.bK.toNat=0)
structure XX(p:aA):Prop where
 bQ:1≤p.bQ∧p.bQ≤8
 ez:0≤p.ez∧p.ez≤86400
 bK:1≤p.bK∧p.bK≤255
theorem we{n:Int}(h0:0≤n)(h:n<18446744073709551616):IntKind.u64.wrap n=n:=by obtain⟨m,rfl⟩:∃m:Nat,n=m:=⟨n.toNat,by omega⟩;exact IC (by omega)
theorem XY{a b d:Int}(ha:0≤a∧a≤3155932800)(hb:0≤b∧b≤3155932800)(hd:0≤d∧d≤86400):jO [.int .i64 a,.int .i64 b,.int .i64 d]=some (.bool (decide (b-a>d))):=by
 simp only[jO,tX,aI,U,aY,bf];by_cases h:b≥a
 ·rw[BK (by simpa using h),we (n:=a) (by omega) (by omega),we (n:=b) (by omega) (by omega),we (n:=d) (by omega) (by omega),we (n:=b-a) (by omega) (by omega),akd (show¬d<0 by omega)];rfl
 ·rw[IN (by simpa using h),akd (show¬d<0 by omega),akd (show¬b-a>d by omega)];rfl
theorem QG{a b d:Int}(ha:0≤a∧a≤3155932800)(hb:0≤b∧b≤3155932800)(hd:0≤d∧d≤86400):fe [.int .i64 a,.int .i64 b,.int .i64 d]=some (.bool (decide (b-a≤d))):=by
 simp only[fe,q6,aI,U];by_cases h:b≤a
 ·rw[BK (by simpa using h),akE (show b-a≤d by omega)]
 ·rw[IN (by simpa using h),we (n:=a) (by omega) (by omega),we (n:=b) (by omega) (by omega),we (n:=d) (by omega) (by omega),we (n:=b-a) (by omega) (by omega)]
theorem aap{z:Nat}(hz:z<65536):nB [.int .i64 (z:Int)]=some (.int .i64 (pc z:Int)):=by
 simp only[nB,Am,aI,U];refine(dL (fun k(s:Nat)=>((z:Int),(s:Int),(k:Int),())) (fun k s=>some (PV.int .i64 ((s+UC (64-k) (z/2^k):Nat):Int))) (fun k s=>s≤k) 62 (fun k hk s rec hi cA=>?_) (fun s rec hi=>?_) (by unfold rounds;omega) 0 (by omega) rfl).trans (by simp[pc])
 ·unfold ua;dsimp only;have T6:min ((k:Int).toNat) IntKind.i64.bits=k:=by rw[ajw];exact akK (by show k≤64;omega)
  have hdiv:(z:Int).fdiv (2^min ((k:Int).toNat) IntKind.i64.bits)=((z/2^k:Nat):Int):=by rw[T6,Int.ofNat_fdiv];simp
  have cd:z/2^k<65536:=Nat.lt_of_le_of_lt (Nat.div_le_self _ _) hz;have hand:IntKind.i64.wrap ((BitVec.ofInt IntKind.i64.bits ((z/2^k:Nat):Int)&&&BitVec.ofInt IntKind.i64.bits 1).toNat:Int)=((z/2^k%2:Nat):Int):=by show IntKind.i64.wrap (((BitVec.ofInt 64 ((z/2^k:Nat):Int)&&&BitVec.ofInt 64 ((1:Nat):Int)).toNat:Nat):Int)=_;rw[amH,QE (by omega),QE (by omega),Nat.and_one_is_mod];exact DG (by omega)
  have OR:UC (64-k) (z/2^k)=z/2^k%2+UC (64-(k+1)) (z/2^(k+1)):=by
   have e1:64-k=(64-(k+1))+1:=by omega
   rw[e1,UC,Nat.pow_succ,Nat.div_div_eq_div_mul]
  rw[BK (by simp;omega),IN (by omega),hdiv,hand,OR,ag (by omega),ag (by omega)];rcases amc (z/2^k)with h2|h2
  ·rw[h2,IN (by decide),cA s (by omega),ako]
  ·rw[h2,BK (by decide),cA (s+1) (by omega),akl]
 ·unfold ua;dsimp only;have h0:z/2^62=0:=amG (by omega);rw[IN (by simp),h0,FV];rfl
theorem aaq(x:Rd):Ab.asInt .i64 (cell x.pv 0)=some x.dep:=rfl
theorem aeo(x:Rd):Ab.asInt .i64 (cell x.pv 1)=some x.arr:=rfl
theorem aep(x:Rd):Ab.asInt .i64 (cell x.pv 2)=some (x.iy:Int):=rfl
theorem aeq(x:Rd):Ab.asInt .i64 (cell x.pv 3)=some (x.bK:Int):=rfl
theorem aar(x:aA):asAgg 6 x.pv=some ():=rfl
theorem aer(x:aA):PV.agg [cell x.pv 0,cell x.pv 1,cell x.pv 2,cell x.pv 3,cell x.pv 4,cell x.pv 5]=x.pv:=rfl
theorem S6(x:aA):Ab.dg (cell x.pv 0)=some x.id:=rfl
theorem S7(x:aA):Ab.asInt .i64 (cell x.pv 1)=some x.tr:=rfl
theorem S8(x:aA):Ab.asInt .i64 (cell x.pv 2)=some x.bQ:=rfl
theorem S9(x:aA):Ab.asInt .i64 (cell x.pv 3)=some x.iy:=rfl
theorem Ta(x:aA):Ab.asInt .i64 (cell x.pv 4)=some x.ez:=rfl
theorem Tb(x:aA):Ab.asInt .i64 (cell x.pv 5)=some x.bK:=rfl
theorem Me{a b:Nat}(ha:a<65536)(hb:b<65536):eI [.int .u64 (a:Int),.int .u64 (b:Int)]=some (.int .u64 ((a|||b:Nat):Int)):=by simp only[eI,oM,aU,U,orU ha hb]
theorem QH{a b:Nat}(ha:a<65536):fy [.int .u64 (a:Int),.int .u64 (b:Int)]=some (.bool (decide (D2 a b=0))):=by simp only[fy,nr,aU,U];show some (PV.bool (IntKind.u64.wrap (((D2 a b:Nat)):Int)==0))=_;have:=S5 (pm:=b) ha;rw[IC (by omega),fa];by_cases h:D2 a b=0<;>simp[h]
theorem acr{z:Nat}:Ii [.int .u64 (z:Int)]=some (.int .i64 (pc z:Int)):=by simp only[Ii,ajw]
theorem UN{p:aA}(hp:XX p)(x:Rd)(xs:List Rd)(hn:xs.length≤7)(ho:∀y∈x::xs,Cz y):fT [p.pv,.rs 4 ((x::xs).map Rd.pv)]=some (.bool (oV p (x::xs))):=by
 obtain⟨hr,hs,hm⟩:=hp;have uS:∃y,(x::xs).getLast? =some y∧y∈x::xs∧(x::xs)[xs.length]?=some y:=by refine⟨(x::xs).getLast (by simp),alU (by simp),List.getLast_mem _,?_⟩;rw[List.getLast_eq_getElem];exact AI (by simp)
 obtain⟨y,y1,y2,y3⟩:=uS;simp only[fT,sf,aar,S6,S7,S8,S9,Ta,Tb,aS,U,OF,ajv,aY];have h0:((((xs.length+1:Nat):Int))==0)=false:=by simp;omega
 have hi0:aD ((x::xs).map Rd.pv) 0=some x.pv:=rfl;have hiL:aD ((x::xs).map Rd.pv) ((xs.length:Nat):Int)=some y.pv:=bj Rd.pv (by omega) (by simpa using y3);rw[h0,mU xs.length (by omega),hi0,hiL];simp only[akz,U,aaq,XY (ho x (by simp)).d (ho y y2).d hs,aB];unfold oV;rw[y1,List.head?_cons];show _=some (PV.bool (decide (((xs.length+1:Nat):Int)≤p.bQ)&&decide (y.dep-x.dep≤p.ez)&&decide ((pc (XW Rd.iy (x::xs) 0):Int)≤p.iy)&&decide (D2 (XW Rd.bK (x::xs) 0) p.bK.toNat=0)));by_cases hc:((xs.length+1:Nat):Int)≤p.bQ
 ·rw[akd (show¬((xs.length+1:Nat):Int)>p.bQ by omega),akE hc];simp only[akp,cond_false,U];by_cases hd:y.dep-x.dep≤p.ez
  ·rw[akd (show¬y.dep-x.dep>p.ez by omega),akE hd];rw[IN (by simp),akp];refine dL (fun k(zm:Nat×Nat)=>((x::xs).map Rd.pv,((xs.length+1:Nat):Int),(k:Int),p.id,p.tr,p.bQ,p.iy,p.ez,p.bK,(zm.1:Int),(zm.2:Int),())) (fun k zm=>some (PV.bool (decide ((pc (XW Rd.iy ((x::xs).drop k) zm.1):Int)≤p.iy)&&decide (D2 (XW Rd.bK ((x::xs).drop k) zm.2) p.bK.toNat=0)))) (fun k zm=>zm.1<65536∧zm.2<65536) (x::xs).length (fun k hk zm rec hi cA=>?_) (fun zm rec hi=>?_) (by unfold rounds;simp;omega) (0,0) (by simp) rfl
   ·have hx:=ho _ (ajz hk);unfold nC;dsimp only;rw[BK (by simp at hk⊢;omega),bA Rd.pv _ k hk];simp only[U,aep,aeq,IC (show((x::xs)[k]).iy<18446744073709551616 by have:=hx.z;omega),IC (show((x::xs)[k]).bK<18446744073709551616 by have:=hx.m;omega),Me hi.1 hx.z,Me hi.2 hx.m,aU,ag (show k<9223372036854775807 by simp at hk;omega)];rw[cA (_,_) ⟨yb hi.1 hx.z,yb hi.2 hx.m⟩,dv hk];rfl
   ·unfold nC;dsimp only;rw[IN (by simp),ajS,we (n:=p.bK) (by omega) (by omega)];have hpm:p.bK=((p.bK.toNat:Nat):Int):=by omega
    rw[hpm];simp only[acr,U,aI,QH hi.2,aB,bf,XW,ajw];rfl
  ·rw[akE (show y.dep-x.dep>p.ez by omega),akd hd];rfl
 ·rw[akE (show((xs.length+1:Nat):Int)>p.bQ by omega),akd hc];rfl
def cut(rs:List Rd)(i k:Nat):List Rd:=(rs.take (k+1)).drop i
variable{rs:List Rd}{i k:Nat}
theorem Tc(hk:k<rs.length):(cut rs i k).length=k+1-i:=by unfold cut;simp;omega
theorem Kc{j:Nat}(hj:i+j≤k):(cut rs i k)[j]?=rs[i+j]?:=by unfold cut;rw[amf,List.getElem?_take,BK (by omega)]
theorem Td{x:Rd}(h:x∈cut rs i k):x∈rs:=akN (ak8 h)
theorem QI{p:aA}(hp:XX p)(D3:i≤k)(hk:k<rs.length)(hn:rs.length≤8)(ho:∀y∈rs,Cz y):kK [p.pv,.rs 4 (rs.map Rd.pv),.int .i64 (i:Int),.int .i64 (k:Int)]=some (.bool (oV p (cut rs i k))):=by
 obtain⟨hr,hs,hm⟩:=hp;have hlen:=Tc (i:=i) hk;have hx:∀j(h:j<(cut rs i k).length),rs[i+j]?=some (cut rs i k)[j]:=fun j h=>by rw[←Kc (k:=k) (by omega)];exact AI h
 have acs:(cut rs i k).head? =some rs[i]:=by rw[alu,Kc (by omega),akB];exact AI (by omega)
 have uS:(cut rs i k).getLast? =some rs[k]:=by rw[List.getLast?_eq_getElem?,hlen,Kc (by omega),show i+(k+1-i-1)=k by omega];exact AI hk
 simp only[kK,vJ,aar,S6,S7,S8,S9,Ta,Tb,aS,aI,U];refine(dL (fun j(zm:Nat×Nat)=>(rs.map Rd.pv,(i:Int),(k:Int),(zm.1:Int),(zm.2:Int),((i+j:Nat):Int),p.id,p.tr,p.bQ,p.iy,p.ez,p.bK,())) (fun j zm=>some (PV.bool (decide (((cut rs i k).length:Int)≤p.bQ)&&decide ((pc (XW Rd.iy ((cut rs i k).drop j) zm.1):Int)≤p.iy)&&decide (IF (some rs[k])-IF (some rs[i])≤p.ez)&&decide (D2 (XW Rd.bK ((cut rs i k).drop j) zm.2) p.bK.toNat=0)))) (fun j zm=>zm.1<65536∧zm.2<65536) (cut rs i k).length (fun j hj zm rec hi cA=>?_) (fun zm rec hi=>?_) (by rw[hlen];unfold rounds;omega) (0,0) (by simp) rfl).trans ?_
 ·have hy:=ho _ (Td (ajz hj));unfold qI;dsimp only;rw[BK (by simp;omega),bj Rd.pv (by omega) (show rs[((i+j:Nat):Int).toNat]?=some (cut rs i k)[j] by rw[ajw];exact hx j hj)];simp only[U,aep,aeq,orI hi.1 hy.z,orI hi.2 hy.m,ag (show i+j<9223372036854775807 by omega)];rw[show i+j+1=i+(j+1) by omega,cA (_,_) ⟨yb hi.1 hy.z,yb hi.2 hy.m⟩,dv hj];rfl
 ·unfold qI;dsimp only;rw[IN (by simp;omega),ajS];have ahK:IntKind.i64.wrap (IntKind.i64.wrap ((k:Int)-(i:Int))+1)=((cut rs i k).length:Int):=by rw[bE (x:=(k:Int)-(i:Int)) (by omega) (by omega),bE (by omega) (by omega),hlen];omega
  have hd1:=(ho _ (ajz (show i<rs.length by omega))).d;have hd2:=(ho _ (ajz hk)).d;have ZQ:(IntKind.i64.wrap ((BitVec.ofInt IntKind.i64.bits (zm.2:Int)&&& ~~~BitVec.ofInt IntKind.i64.bits p.bK).toNat:Int)==0)=decide (D2 zm.2 p.bK.toNat=0):=by
   have hpm:p.bK=((p.bK.toNat:Nat):Int):=by omega
   have:=S5 (pm:=p.bK.toNat) hi.2;rw[hpm];show(IntKind.i64.wrap ((D2 zm.2 p.bK.toNat:Nat):Int)==0)=_;rw[DG (by omega),fa,ajw];by_cases h:D2 zm.2 p.bK.toNat=0<;>simp[h]
  rw[ahK];simp only[aap hi.1,U,aI,bf,bA Rd.pv rs i (by omega),bA Rd.pv rs k hk,aaq,QG hd1 hd2 hs,aB,ZQ];rfl
 ·unfold oV;rw[acs,uS];simp only[amX];congr 2;generalize decide (((cut rs i k).length:Int)≤p.bQ)=a;generalize decide ((pc (XW Rd.iy (cut rs i k) 0):Int)≤p.iy)=b;generalize decide (IF (some rs[k])-IF (some rs[i])≤p.ez)=c;cases a<;>cases b<;>cases c<;>rfl
theorem QJ{p:aA}(hp:XX p)(D3:i≤k)(hk:k<rs.length)(hn:rs.length≤8)(ho:∀y∈rs,Cz y):fT [p.pv,.rs 4 ((cut rs i k).map Rd.pv)]=some (.bool (oV p (cut rs i k))):=by
 have hlen:=Tc (i:=i) hk;cases hc:cut rs i k with
 |nil=>rw[hc]at hlen;simp at hlen;omega
 |cons x xs=>rw[hc]at hlen;simp only[ajv]at hlen;exact UN hp x xs (by omega) (fun y hy=>ho y (Td (by rw[hc];exact hy)))
theorem zz(l:List aA)(d w c:Int):asAgg 4 (dw l d w c)=some ():=rfl
theorem zA(l:List aA)(d w c:Int):aP 6 (cell (dw l d w c) 0)=some (l.map aA.pv):=rfl
theorem zB(l:List aA)(d w c:Int):Ab.asInt .i64 (cell (dw l d w c) 1)=some d:=rfl
theorem zC(l:List aA)(d w c:Int):Ab.asInt .i64 (cell (dw l d w c) 2)=some w:=rfl
theorem zD(l:List aA)(d w c:Int):Ab.asInt .i64 (cell (dw l d w c) 3)=some c:=rfl
theorem Gk(l:List aA)(d w c:Int):PV.agg [.rs 6 (l.map aA.pv),.int .i64 d,.int .i64 w,.int .i64 c]=dw l d w c:=rfl
theorem Mf(a b d:Int):∃r,lS [.int .i64 a,.int .i64 b,.int .i64 d]=some (.bool r):=by simp only[lS,xT,aI,U,aY];exact⟨_,rfl⟩
theorem Mg(a b d:Int):∃r,fe [.int .i64 a,.int .i64 b,.int .i64 d]=some (.bool r):=by
 simp only[fe,q6,aI,U];by_cases h:b≤a
 ·exact⟨true,BK (by simpa using h)⟩
 ·exact⟨_,IN (by simpa using h)⟩
theorem QK(l:List aA)(d w c:Int)(p:aA)(hi:i<rs.length)(hn:rs.length≤8):∃v,eK [dw l d w c,p.pv,.rs 4 (rs.map Rd.pv),.int .i64 (i:Int)]=some (.int .i64 v):=by
 simp only[eK,oJ,zz,zA,zB,zC,zD,aar,S6,S7,S8,S9,Ta,Tb,aS,aI,U];cases i with
 |zero=>exact⟨_,rfl⟩
 |succ i=>rw[akE (show((i+1:Nat):Int)>0 by omega),mU i (by omega),bA Rd.pv rs i (by omega),bA Rd.pv rs (i+1) hi];simp only[cond_true,U,aaq,aeo];obtain⟨r,hr⟩:=Mf rs[i].arr rs[i+1].dep w;rw[hr];simp only[U,aB];cases r<;>exact⟨_,rfl⟩
theorem Mh(l:List aA)(d w c:Int)(p:aA)(hi:i<rs.length)(hn:rs.length≤8):∃v,fA [dw l d w c,p.pv,.rs 4 (rs.map Rd.pv),.int .i64 (i:Int)]=some (.int .i64 v):=by
 simp only[fA,nq,zz,zA,zB,zC,zD,aar,S6,S7,S8,S9,Ta,Tb,aS,aI,U];cases i with
 |zero=>exact⟨_,rfl⟩
 |succ i=>rw[akE (show((i+1:Nat):Int)>0 by omega),mU i (by omega),bA Rd.pv rs i (by omega),bA Rd.pv rs (i+1) hi];simp only[cond_true,U,aaq,aeo];obtain⟨r,hr⟩:=Mg rs[i].arr rs[i+1].dep w;rw[hr];simp only[U,aB];cases r<;>exact⟨_,rfl⟩
theorem yU{S R X Z:Type}{body:Z→S→(S→Option R)→Option R}(st:Nat→X→S)(fin:Z→X→Option R)(I:Nat→X→Prop)(n:Nat)(h:∀k,k<n→∀e,I k e→∃e',I (k+1) e'∧∀z rec,body z (st k e) rec=rec (st (k+1) e'))(oG:∀z e rec,I n e→body z (st n e) rec=fin z e)(hn:n<rounds)(e:X)(he:I 0 e){s0:S}(h0:st 0 e=s0):∃e',I n e'∧∀z,bn.run (body z) s0=fin z e':=by
 have key:∀(m j N:Nat)(e:X),j+m=n→m<N→I j e→∃e',I n e'∧∀z,cR (body z) N (st j e)=fin z e':=by
  intro m;induction m with
  |zero=>
   intro j N e hj hN hi;cases N with
   |zero=>omega
   |succ N=>
    simp only[cR];have:j=n:=by omega
    subst this;exact⟨e,hi,fun z=>oG z _ _ hi⟩
  |succ m ih=>
   intro j N e hj hN hi;cases N with
   |zero=>omega
   |succ N=>simp only[cR];obtain⟨e',ow,hb⟩:=h j (by omega) e hi;obtain⟨e2,h2,h3⟩:=ih (j+1) N e' (by omega) (by omega) ow;exact⟨e2,h2,fun z=>by rw[hb];exact h3 z⟩
 rw[←h0];simp only[mi];exact key n 0 rounds e (by omega) hn he
theorem Ke{X:Type}{A B C:X→Prop}(h:∀x,A x→B x)(he:∃x,A x∧C x):∃x,B x∧C x:=he.imp fun x hx=>⟨h x hx.1,hx.2⟩
inductive Bn(P:List aA)(rs:List Rd):Nat→Prop
 |fin:Bn P rs rs.length
 |step (i k:Nat):i≤k→k<rs.length→Bn P rs (k+1)→P.any (fun p=>oV p (cut rs i k))=true→Bn P rs i
theorem Bn.inv{P:List aA}{rs:List Rd}{i:Nat}(h:Bn P rs i)(hi:i<rs.length):∃k,i≤k∧k<rs.length∧Bn P rs (k+1)∧P.any (fun p=>oV p (cut rs i k))=true:=by
 cases h with
 |fin=>omega
 |step _ k h1 h2 h3 h4=>exact⟨k,h1,h2,h3,h4⟩
structure Rs where
 ok:Bool
 sum:Int
 XZ:Int
 p:Int
 f:Int
 l:Int
 tr:Int
def Rs.pv(x:Rs):PV:=.agg [.bool x.ok,.int .i64 x.sum,.int .i64 x.XZ,.int .i64 x.p,.int .i64 x.f,.int .i64 x.l,.int .i64 x.tr]
theorem rsA(x:Rs):asAgg 7 x.pv=some ():=rfl
theorem rs0(x:Rs):Ab.asBool (cell x.pv 0)=some x.ok:=rfl
theorem rs1(x:Rs):Ab.asInt .i64 (cell x.pv 1)=some x.sum:=rfl
theorem rs2(x:Rs):Ab.asInt .i64 (cell x.pv 2)=some x.XZ:=rfl
theorem rs5(x:Rs):Ab.asInt .i64 (cell x.pv 5)=some x.l:=rfl
theorem G9(x:Rs):PV.agg [cell x.pv 0,cell x.pv 1,cell x.pv 2,cell x.pv 3,cell x.pv 4,cell x.pv 5,cell x.pv 6]=x.pv:=rfl
theorem UO(x:Rs)(s c:Int):∃r,eL [x.pv,.int .i64 s,.int .i64 c]=some (.bool r)∧(x.ok=false→r=true):=by refine⟨!x.ok||decide (s<x.sum)||(decide (s=x.sum)&&decide (c<x.XZ)),?_,fun h=>by rw[h];rfl⟩;have h3:Ab.asInt .i64 (cell x.pv 3)=some x.p:=rfl;have h4:Ab.asInt .i64 (cell x.pv 4)=some x.f:=rfl;have h6:Ab.asInt .i64 (cell x.pv 6)=some x.tr:=rfl;simp only[eL,oO,rsA,rs0,rs1,rs2,h3,h4,rs5,h6,aI,U,aY,bf,fa]
def Nx(P:List aA)(rs:List Rd)(x:Rs)(j:Nat):Prop:=j<rs.length→∃k:Nat,x.l=(k:Int)∧j≤k∧k<rs.length∧Bn P rs (k+1)
structure TB(P:List aA)(rs:List Rd)(i:Nat)(T:List Rs):Prop where
 len:T.length=9
 hi:∀j x,i<j→j≤rs.length→T[j]?=some x→(x.ok=true↔Bn P rs j)∧(x.ok=true→Nx P rs x j)
 lo:∀j x,j<i→T[j]?=some x→x.ok=false
 nx:∀x,T[i]?=some x→x.ok=true→Nx P rs x i
section
variable {P:List aA} {rs:List Rd} {d w c:Int}
theorem UP(hP:∀p∈P,XX p)(QL:P.length≤16)(hn:rs.length≤8)(ho:∀y∈rs,Cz y){i k:Nat}(D3:i≤k)(hk:k<rs.length)(T4:List PV)(T:List Rs)(hT:TB P rs i T)(Q:Prop)(hQ:∀x,T[i]?=some x→(x.ok=true↔Q)):∃T',(TB P rs i T'∧∀x,T'[i]?=some x→(x.ok=true↔Q∨(Bn P rs (k+1)∧P.any (fun p=>oV p (cut rs i k))=true)))∧∀eD:aas→Option PV,bn.run (iZ bn eD) ((rs.length:Int),(i:Int),(k:Int),((P.map aA.pv).length:Int),0,P.map aA.pv,d,w,c,T4,T.map Rs.pv,rs.map Rd.pv,())=eD ((rs.length:Int),(i:Int),((k+1:Nat):Int),P.map aA.pv,d,w,c,T4,T'.map Rs.pv,rs.map Rd.pv,()):=by
 have ahL:List.drop i (List.take (k+1) (rs.map Rd.pv))=(cut rs i k).map Rd.pv:=by unfold cut;rw[amy,al2]
 have fin:∀T',(TB P rs i T'∧∀x,T'[i]?=some x→(x.ok=true↔Q∨(Bn P rs (k+1)∧(P.take P.length).any (fun p=>oV p (cut rs i k))=true)))→TB P rs i T'∧∀x,T'[i]?=some x→(x.ok=true↔Q∨(Bn P rs (k+1)∧P.any (fun p=>oV p (cut rs i k))=true)):=fun T' hI=>⟨hI.1,fun x hx=>by rw[hI.2 x hx,akh]⟩;refine Ke fin (yU (body:=fun eD=>iZ bn eD) (fun p(T:List Rs)=>((rs.length:Int),(i:Int),(k:Int),((P.map aA.pv).length:Int),(p:Int),P.map aA.pv,d,w,c,T4,T.map Rs.pv,rs.map Rd.pv,())) (fun eD T=>eD ((rs.length:Int),(i:Int),((k+1:Nat):Int),P.map aA.pv,d,w,c,T4,T.map Rs.pv,rs.map Rd.pv,())) (fun p T=>TB P rs i T∧∀x,T[i]?=some x→(x.ok=true↔Q∨(Bn P rs (k+1)∧(P.take p).any (fun p=>oV p (cut rs i k))=true))) P.length (fun p hp T hI=>?_) (fun eD T rec hI=>?_) (by unfold rounds;omega) T ⟨hT,fun x hx=>by rw[hQ x hx];simp⟩ rfl)
 ·obtain⟨hT,hq⟩:=hI;have hl:=hT.len;obtain⟨y,hy⟩:∃y,T[k+1]?=some y:=⟨_,AI (by omega)⟩;obtain⟨x,hx⟩:∃x,T[i]?=some x:=⟨_,AI (by omega)⟩;obtain⟨hyo,_⟩:=hT.hi (k+1) y (by omega) (by omega) hy;have Mi:P.take (p+1)=P.take p++[P[p]]:=by rw[ajM hp]
  have Un:(T.map Rs.pv)[k+1]?=some y.pv:=by rw[IT,hy];rfl
  have Zi:(T.map Rs.pv)[i]?=some x.pv:=by rw[IT,hx];rfl
  have oq:∀m:Nat,m<9→ae (m:Int) 9∧0<7:=fun m hm=>by unfold ae;omega
  have G1:IntKind.i64.wrap ((k:Int)+1)=((k+1:Nat):Int):=ag (by omega);have hw2:IntKind.i64.wrap ((p:Int)+1)=((p+1:Nat):Int):=ag (by omega);have stay:(¬(Bn P rs (k+1)∧oV P[p] (cut rs i k)=true)∨x.ok=true)→TB P rs i T∧∀x,T[i]?=some x→(x.ok=true↔Q∨(Bn P rs (k+1)∧(P.take (p+1)).any (fun p=>oV p (cut rs i k))=true)):=fun hs=>⟨hT,fun z hz=>by
   rw[hx]at hz;cases hz;rw[hq x hx,Mi,alk];simp only[akM,alT,aln,ajA];rcases hs with hs|hs
   ·constructor
    ·rintro(h|⟨h1,h2⟩)
     ·exact .inl h
     ·exact .inr ⟨h1,.inl h2⟩
    ·rintro(h|⟨h1,h2|h2⟩)
     ·exact .inl h
     ·exact .inr ⟨h1,h2⟩
     ·exact absurd ⟨h1,h2⟩ hs
   ·have:=(hq x hx).1 hs;constructor
    ·rintro(h|⟨h1,h2⟩)
     ·exact .inl h
     ·exact .inr ⟨h1,.inl h2⟩
    ·intro _;exact this⟩
  have round:∀(eD:aas→Option PV)rec,iZ bn eD ((rs.length:Int),(i:Int),(k:Int),((P.map aA.pv).length:Int),(p:Int),P.map aA.pv,d,w,c,T4,T.map Rs.pv,rs.map Rd.pv,()) rec=if y.ok=true then(if(!oV P[p] (cut rs i k))=true then rec ((rs.length:Int),(i:Int),(k:Int),((P.map aA.pv).length:Int),((p+1:Nat):Int),P.map aA.pv,d,w,c,T4,T.map Rs.pv,rs.map Rd.pv,())else(eK [dw P d w c,P[p].pv,.rs 4 (rs.map Rd.pv),.int .i64 (i:Int)]).bind fun r19=>(Ab.asInt .i64 r19).bind fun n20=>(eL [x.pv,.int .i64 (IntKind.i64.wrap (n20+y.sum)),.int .i64 (IntKind.i64.wrap (y.XZ+1))]).bind fun G2=>(Ab.asBool G2).bind fun X0=>if X0=true then rec ((rs.length:Int),(i:Int),(k:Int),((P.map aA.pv).length:Int),((p+1:Nat):Int),P.map aA.pv,d,w,c,T4,(T.set i ⟨true,IntKind.i64.wrap (n20+y.sum),IntKind.i64.wrap (y.XZ+1),p,i,k,n20⟩).map Rs.pv,rs.map Rd.pv,())else rec ((rs.length:Int),(i:Int),(k:Int),((P.map aA.pv).length:Int),((p+1:Nat):Int),P.map aA.pv,d,w,c,T4,T.map Rs.pv,rs.map Rd.pv,()))else rec ((rs.length:Int),(i:Int),(k:Int),((P.map aA.pv).length:Int),((p+1:Nat):Int),P.map aA.pv,d,w,c,T4,T.map Rs.pv,rs.map Rd.pv,()):=by
   intro eD rec
   unfold iZ
   dsimp only
   rw[BK (by simp;omega),G1,hw2,BK (oq (k+1) (by omega)),ajw,akB,Un,bA aA.pv P p hp]
   simp only[U,rs0,aer,ajw,akB,ahL,QJ (hP _ (ajz hp)) D3 hk hn ho,aB,Gk,Un,Zi,rs1,rs2,G9]
   rw[BK (show 0≤(i:Int)∧(i:Int)≤((k+1:Nat):Int)∧((k+1:Nat):Int)≤((rs.map Rd.pv).length:Int)∧True∧4≠0 by refine⟨by omega,by omega,by simp;omega,trivial,by decide⟩)]
   simp only[BK (oq (k+1) (by omega)),BK (oq i (by omega)),aml]
   rfl
  by_cases UQ:y.ok=true
  ·by_cases QM:oV P[p] (cut rs i k)=true
   ·obtain⟨v,hv⟩:=QK P d w c P[p] (show i<rs.length by omega) hn;obtain⟨b,hb,vg⟩:=UO x (IntKind.i64.wrap (v+y.sum)) (IntKind.i64.wrap (y.XZ+1));cases b with
    |true=>
     refine⟨T.set i ⟨true,IntKind.i64.wrap (v+y.sum),IntKind.i64.wrap (y.XZ+1),p,i,k,v⟩,⟨⟨by simp[hl],fun j z h1 h2 hz=>?_,fun j z h1 hz=>?_,fun z hz hzo=>?_⟩,fun z hz=>?_⟩,fun eD rec=>?_⟩
     ·rw[akO (by omega)]at hz;exact hT.hi j z h1 h2 hz
     ·rw[akO (by omega)]at hz;exact hT.lo j z h1 hz
     ·rw[akU (by omega)]at hz;cases hz;exact fun _=>⟨k,rfl,D3,hk,hyo.1 UQ⟩
     ·rw[akU (by omega)]at hz;cases hz;rw[Mi,alk];simp only[akM,alT,aln,ajA,QM,or_true,am7,true_iff];exact .inr (hyo.1 UQ)
     ·rw[round,BK UQ,IN (by simp[QM]),hv];simp only[U,aI,hb,aB,aaV]
    |false=>
     have hxo:x.ok=true:=by
      cases h:x.ok with
      |true=>rfl
      |false=>have:=vg h;cases this
     refine⟨T,stay (.inr hxo),fun eD rec=>?_⟩;rw[round,BK UQ,IN (by simp[QM]),hv];simp only[U,aI,hb,aB,By,abG]
   ·exact⟨T,stay (.inl fun h=>QM h.2),fun eD rec=>by rw[round,BK UQ,BK (by simpa using QM)]⟩
  ·exact⟨T,stay (.inl fun h=>UQ (hyo.2 h.1)),fun eD rec=>by rw[round,IN UQ]⟩
 ·unfold iZ;dsimp only;rw[IN (by simp),ag (by omega)]
end
structure CA(P:List aA)(rs:List Rd)(m:Nat)(T:List Rs):Prop where
 len:T.length=9
 hi:∀j x,m≤j→j≤rs.length→T[j]?=some x→(x.ok=true↔Bn P rs j)∧(x.ok=true→Nx P rs x j)
 lo:∀j x,j<m→T[j]?=some x→x.ok=false
section
variable {P:List aA} {rs:List Rd} {d w c:Int}
theorem QN(hP:∀p∈P,XX p)(QL:P.length≤16)(hn:rs.length≤8)(ho:∀y∈rs,Cz y){i:Nat}(hi:i<rs.length)(T4:List PV)(T:List Rs)(hT:CA P rs (i+1) T):∃T',CA P rs i T'∧∀ko:acu→Option PV,bn.run (kL bn ko) ((rs.length:Int),(i:Int),(i:Int),P.map aA.pv,d,w,c,T4,T.map Rs.pv,rs.map Rd.pv,())=ko ((rs.length:Int),IntKind.i64.wrap ((i:Int)-1),P.map aA.pv,d,w,c,T4,T'.map Rs.pv,rs.map Rd.pv,()):=by
 have hTB:TB P rs i T:=⟨hT.len,fun j x h1 h2 hx=>hT.hi j x (by omega) h2 hx,fun j x h1 hx=>hT.lo j x (by omega) hx,fun x hx ho=>by rw[hT.lo i x (by omega) hx]at ho;cases ho⟩;have fin:∀T',(TB P rs i T'∧∀x,T'[i]?=some x→(x.ok=true↔∃k,i≤k∧k<i+(rs.length-i)∧Bn P rs (k+1)∧P.any (fun p=>oV p (cut rs i k))=true))→CA P rs i T':=fun T' hI=>by
  refine⟨hI.1.len,fun j x h1 h2 hx=>?_,hI.1.lo⟩;by_cases e:j=i
  ·subst e;refine⟨?_,hI.1.nx x hx⟩;rw[hI.2 x hx];constructor
   ·rintro⟨k,a1,a2,a3,a4⟩;exact .step _ k a1 (by omega) a3 a4
   ·intro h;obtain⟨k,a1,a2,a3,a4⟩:=h.inv hi;exact⟨k,a1,by omega,a3,a4⟩
  ·exact hI.1.hi j x (by omega) h2 hx
 refine Ke fin (yU (body:=fun ko=>kL bn ko) (fun t(T:List Rs)=>((rs.length:Int),(i:Int),((i+t:Nat):Int),P.map aA.pv,d,w,c,T4,T.map Rs.pv,rs.map Rd.pv,())) (fun ko T=>ko ((rs.length:Int),IntKind.i64.wrap ((i:Int)-1),P.map aA.pv,d,w,c,T4,T.map Rs.pv,rs.map Rd.pv,())) (fun t T=>TB P rs i T∧∀x,T[i]?=some x→(x.ok=true↔∃k,i≤k∧k<i+t∧Bn P rs (k+1)∧P.any (fun p=>oV p (cut rs i k))=true)) (rs.length-i) (fun t ht T hI=>?_) (fun ko T rec hI=>?_) (by unfold rounds;omega) T ⟨hTB,fun x hx=>?_⟩ (by simp))
 ·obtain⟨T',⟨h1,h2⟩,h3⟩:=UP (d:=d) (w:=w) (c:=c) hP QL hn ho (show i≤i+t by omega) (show i+t<rs.length by omega) T4 T hI.1 _ hI.2;refine⟨T',⟨h1,fun x hx=>?_⟩,fun ko rec=>?_⟩
  ·rw[h2 x hx];constructor
   ·rintro(⟨k,a1,a2,a3,a4⟩|⟨a3,a4⟩)
    ·exact⟨k,a1,by omega,a3,a4⟩
    ·exact⟨i+t,by omega,by omega,a3,a4⟩
   ·rintro⟨k,a1,a2,a3,a4⟩;by_cases e:k=i+t
    ·subst e;exact .inr ⟨a3,a4⟩
    ·exact .inl ⟨k,a1,by omega,a3,a4⟩
  ·unfold kL;dsimp only;rw[BK (by simp;omega)];exact h3 rec
 ·unfold kL;dsimp only;rw[IN (by simp;omega)]
 ·rw[hT.lo i x (by omega) hx];constructor
  ·intro h;cases h
  ·rintro⟨k,a1,a2,_⟩;omega
def zRs:Rs:=⟨false,0,0,0,0,0,0⟩
theorem ahM:fF 7 9 (PV.agg [.bool false,.int .i64 0,.int .i64 0,.int .i64 0,.int .i64 0,.int .i64 0,.int .i64 0,.bool false,.int .i64 0,.int .i64 0,.int .i64 0,.int .i64 0,.int .i64 0,.int .i64 0,.bool false,.int .i64 0,.int .i64 0,.int .i64 0,.int .i64 0,.int .i64 0,.int .i64 0,.bool false,.int .i64 0,.int .i64 0,.int .i64 0,.int .i64 0,.int .i64 0,.int .i64 0,.bool false,.int .i64 0,.int .i64 0,.int .i64 0,.int .i64 0,.int .i64 0,.int .i64 0,.bool false,.int .i64 0,.int .i64 0,.int .i64 0,.int .i64 0,.int .i64 0,.int .i64 0,.bool false,.int .i64 0,.int .i64 0,.int .i64 0,.int .i64 0,.int .i64 0,.int .i64 0,.bool false,.int .i64 0,.int .i64 0,.int .i64 0,.int .i64 0,.int .i64 0,.int .i64 0,.bool false,.int .i64 0,.int .i64 0,.int .i64 0,.int .i64 0,.int .i64 0,.int .i64 0])=(List.replicate 9 zRs).map Rs.pv:=rfl
theorem Gl(T:List Rs):(eV 7 (T.map Rs.pv)).length=T.length*7:=by rw[B8,OF]
theorem CB:∀(T:List Rs)(i j:Nat)(x:Rs),T[i]?=some x→j<7→(eV 7 (T.map Rs.pv))[i*7+j]?=some (cell x.pv j)
 |[],i,j,x,h,_=>by simp at h
 |y::T,0,j,x,h,hj=>by
  simp only[akb,AT]at h;subst h;have e:eV 7 ((y::T).map Rs.pv)=aJ 7 y.pv++eV 7 (T.map Rs.pv):=rfl;rw[e,akC (by rw[aZ];omega),ee (show y.pv.cells.length=7 from rfl)];match j,hj with
  |0,_=>rfl
  |1,_=>rfl
  |2,_=>rfl
  |3,_=>rfl
  |4,_=>rfl
  |5,_=>rfl
  |6,_=>rfl
  |n+7,h=>omega
 |y::T,i+1,j,x,h,hj=>by have e:eV 7 ((y::T).map Rs.pv)=aJ 7 y.pv++eV 7 (T.map Rs.pv):=rfl;rw[e,aks (by rw[aZ];omega),aZ,show(i+1)*7+j-7=i*7+j by omega];exact CB T i j x (by simpa using h) hj
theorem Gm(T:List Rs)(n:Nat)(hn:T.length=n):fF 7 n (.agg (eV 7 (T.map Rs.pv)))=T.map Rs.pv:=by
 apply ajY;intro i;unfold fF;rw[IT,IT];by_cases hi:i<n
 ·obtain⟨x,hx⟩:∃x,T[i]?=some x:=⟨_,AI (by omega)⟩;rw[hx,akW hi];simp only[ah5,AT];have hc:∀j,j<7→cell (.agg (eV 7 (T.map Rs.pv))) (i*7+j)=cell x.pv j:=fun j hj=>by show(eV 7 (T.map Rs.pv)).getD (i*7+j) .bad=_;rw[alD,CB T i j x hx hj];rfl
  show PV.agg [cell _ (i*7),cell _ (i*7+1),cell _ (i*7+2),cell _ (i*7+3),cell _ (i*7+4),cell _ (i*7+5),cell _ (i*7+6)]=_;have h0:=hc 0 (by omega);rw[akB]at h0;rw[h0,hc 1 (by omega),hc 2 (by omega),hc 3 (by omega),hc 4 (by omega),hc 5 (by omega),hc 6 (by omega)];exact G9 x
 ·rw[ajr (by simp;omega),ajr (by omega)];rfl
theorem UR(hP:∀p∈P,XX p)(QL:P.length≤16)(hn:rs.length≤8)(ho:∀y∈rs,Cz y):∃T,CA P rs 0 T∧lT [dw P d w c,.rs 4 (rs.map Rd.pv)]=some (.agg (eV 7 (T.map Rs.pv))):=by
 have oq:ae (rs.length:Int) 9∧0<7:=by unfold ae;omega
 have hz:((List.replicate 9 zRs).map Rs.pv)[rs.length]?=some zRs.pv:=by rw[IT,aj5,BK (by omega)];rfl
 have h0:CA P rs rs.length ((List.replicate 9 zRs).set rs.length {zRs with ok:=true}):=by
  refine⟨by simp,fun j x h1 h2 hx=>?_,fun j x h1 hx=>?_⟩
  ·have:j=rs.length:=by omega
   subst this;rw[akU (by simp;omega)]at hx;cases hx;exact⟨⟨fun _=>.fin,fun _=>rfl⟩,fun _ h=>by omega⟩
  ·rw[akO (by omega),aj5]at hx;split at hx
   ·cases hx;rfl
   ·cases hx
 obtain⟨T',h1,h2⟩:=yU (R:=PV) (Z:=Unit) (body:=fun _=>nD bn) (fun m(T:List Rs)=>((rs.length:Int),(rs.length:Int)-1-(m:Int),P.map aA.pv,d,w,c,(List.replicate 9 zRs).map Rs.pv,T.map Rs.pv,rs.map Rd.pv,())) (fun _ T=>some (PV.agg (eV 7 (T.map Rs.pv)))) (fun m T=>CA P rs (rs.length-m) T) rs.length (fun m hm T hI=>by
   obtain⟨T',h1,h2⟩:=QN (d:=d) (w:=w) (c:=c) hP QL hn ho (show rs.length-(m+1)<rs.length by omega) ((List.replicate 9 zRs).map Rs.pv) T (by rw[show rs.length-(m+1)+1=rs.length-m by omega];exact hI);refine⟨T',h1,fun z rec=>?_⟩;unfold nD;dsimp only;have hi:(rs.length:Int)-1-(m:Int)=((rs.length-(m+1):Nat):Int):=by omega
   rw[BK (by simp;omega),hi,h2 rec,bE (by omega) (by omega),show((rs.length-(m+1):Nat):Int)-1=(rs.length:Int)-1-((m+1:Nat):Int) by omega])
  (fun z T rec hI=>by
   have hl:=hI.len;unfold nD;dsimp only;have h63:(T.map Rs.pv).length*7=63:=by rw[OF,hl]
   have N5:asAgg 63 (PV.agg (eV 7 (T.map Rs.pv)))=some ():=by
    have:(eV 7 (T.map Rs.pv)).length=63:=by rw[Gl,hl]
    simp only[asAgg];rw[BK this]
   rw[IN (by simp;omega),BK h63,N5];simp only[U];have hlr:((List.replicate 9 zRs).map Rs.pv).length=9:=by simp
   rw[hlr,BK (by decide),Gm T 9 hl,BK h63])
  (by unfold rounds;omega) _ (by rw[alC];exact h0) rfl
 refine⟨T',by rw[alm]at h1;exact h1,?_⟩;simp only[lT,xF,zz,zA,zB,zC,zD,aS,U,OF];rw[BK oq,ahM,ajw,akB,hz];simp only[U,over];refine Eq.trans ?_ (h2 ());congr 1;rw[bE (by omega) (by omega),aml,show(rs.length:Int)-1-((0:Nat):Int)=(rs.length:Int)-1 by omega];rfl
end
theorem QO(l:List aA)(d w c s:Int):∃v,lU [dw l d w c,.int .i64 s]=some (.int .i64 v):=by
 simp only[lU,xE,zz,zA,zB,zC,zD,aI,U,bf];by_cases h:(decide (c>0)&&decide (s>c))=true
 ·exact⟨_,BK h⟩
 ·exact⟨_,IN h⟩
theorem Mj(l:List aA)(d w c s:Int):∃v,kM [dw l d w c,.int .i64 s]=some (.int .i64 v):=by
 simp only[kM,vM,zz,zA,zB,zC,zD,aI,U];by_cases h:decide (c>0)=true
 ·exact⟨_,BK h⟩
 ·exact⟨_,IN h⟩
section
variable {P:List aA} {rs:List Rd} {d w c:Int}
theorem Mk(hPo:P.length≤maxLen∧∀y∈P,y.Ok)(hf:(du P d w c).2=0)(hn:rs.length≤8):jC [dw P d w c,.rs 4 (rs.map Rd.pv)]=some (.int .i64 0):=by simp only[jC,vN,zz,zA,zB,zC,zD,aS,U,Gk,Aw P d w c hPo,OF,hf];simp only[res,cZ,ajv,ajQ,aaV,U,ajE,ajD,aI];rw[IN (by decide),IN (by simp;omega)]
theorem Kf(hn:rs.length≤8)(T:List Rs)(hT:CA P rs 0 T):∀(m i N:Nat)(out:List PV),rs.length-i≤m→i≤rs.length→Bn P rs i→out.length≤i→m<N→∃v ts,cR (jW bn) N (rs.map Rd.pv,(i:Int),P.map aA.pv,d,w,c,T.map Rs.pv,out,())=some (.bu [.int .i64 v,.rs 4 ts,.int .i64 0]):=by
 have hl:=hT.len;have oG:∀(out:List PV)rec,∃v ts,jW bn (rs.map Rd.pv,(rs.length:Int),P.map aA.pv,d,w,c,T.map Rs.pv,out,()) rec=some (.bu [.int .i64 v,.rs 4 ts,.int .i64 0]):=by
  intro out rec;obtain⟨x,hx⟩:∃x,T[0]?=some x:=⟨_,AI (by omega)⟩;have Zi:(T.map Rs.pv)[(0:Int).toNat+0]?=some x.pv:=by show(T.map Rs.pv)[0]?=_;rw[IT,hx];rfl
  obtain⟨v,hv⟩:=QO P d w c x.sum;refine⟨v,out,?_⟩;unfold jW;dsimp only;rw[IN (by simp),Zi];simp only[U,rs1,Gk,hv,aI]
 intro m;induction m with
 |zero=>
  intro i N out h1 h2 h3 h4 hN;have:i=rs.length:=by omega
  subst this;cases N with
  |zero=>omega
  |succ N=>simp only[cR];exact oG out _
 |succ m ih=>
  intro i N out h1 h2 h3 h4 hN;cases N with
  |zero=>omega
  |succ N=>
   simp only[cR];by_cases hi:i<rs.length
   ·obtain⟨x,hx⟩:∃x,T[i]?=some x:=⟨_,AI (by omega)⟩;obtain⟨ho,hnx⟩:=hT.hi i x (by omega) (by omega) hx;obtain⟨k,k1,k2,k3,k4⟩:=hnx (ho.2 h3) hi;have Zi:(T.map Rs.pv)[(i:Int).toNat+0]?=some x.pv:=by rw[ajw,akB,IT,hx];rfl
    have oq:ae (i:Int) 9∧0<7:=by unfold ae;omega
    unfold jW;dsimp only;rw[BK (by simp;omega),BK oq,Zi];simp only[U,rs5];rw[BK (by simp only[ags,akI];unfold af;omega),BK oq,k1,ag (by omega)];exact ih (k+1) N _ (by omega) (by omega) k4 (by simp;omega) (by omega)
   ·have:i=rs.length:=by omega
    subst this;exact oG out _
theorem X6(hPo:P.length≤maxLen∧∀y∈P,y.Ok)(hf:(du P d w c).2=0)(hP:∀p∈P,XX p)(QL:P.length≤16)(hn:rs.length≤8)(ho:∀y∈rs,Cz y):(Bn P rs 0→∃v ts,fI [dw P d w c,.rs 4 (rs.map Rd.pv)]=some (.bu [.int .i64 v,.rs 4 ts,.int .i64 0]))∧(¬Bn P rs 0→fI [dw P d w c,.rs 4 (rs.map Rd.pv)]=some (.bu [.int .i64 0,.rs 4 [],.int .i64 34])):=by
 obtain⟨T,hT,hdiv⟩:=UR (d:=d) (w:=w) (c:=c) hP QL hn ho;have hl:=hT.len;obtain⟨x,hx⟩:∃x,T[0]?=some x:=⟨_,AI (by omega)⟩;obtain⟨hxo,_⟩:=hT.hi 0 x (by omega) (by omega) hx;have hc0:cell (PV.agg (eV 7 (T.map Rs.pv))) 0=.bool x.ok:=by have:=CB T 0 0 x hx (by omega);show(eV 7 (T.map Rs.pv)).getD 0 .bad=_;rw[alD,show(0:Nat)=0*7+0 by rfl,this];rfl
 have N5:asAgg 63 (PV.agg (eV 7 (T.map Rs.pv)))=some ():=by
  have:(eV 7 (T.map Rs.pv)).length=63:=by rw[Gl,hl]
  simp only[asAgg];rw[BK this]
 have X7:fF 7 9 (PV.agg (aJ 63 (PV.agg (eV 7 (T.map Rs.pv)))))=T.map Rs.pv:=by rw[ee (show(PV.agg (eV 7 (T.map Rs.pv))).cells.length=63 by show(eV 7 (T.map Rs.pv)).length=63;rw[Gl,hl])];exact Gm T 9 hl
 have main:fI [dw P d w c,.rs 4 (rs.map Rd.pv)]=if(!x.ok)=true then some (.bu [.int .i64 0,.rs 4 [],.int .i64 34])else bn.run (jW bn) (rs.map Rd.pv,0,P.map aA.pv,d,w,c,T.map Rs.pv,[],()):=by
  have hb:Ab.asBool (cell (PV.agg (eV 7 (T.map Rs.pv))) 0)=some x.ok:=by rw[hc0];rfl
  generalize PV.agg (eV 7 (T.map Rs.pv))=r at hdiv N5 X7 hb;have aat:fF 7 9 (PV.agg [cell r 0,cell r 1,cell r 2,cell r 3,cell r 4,cell r 5,cell r 6,cell r 7,cell r 8,cell r 9,cell r 10,cell r 11,cell r 12,cell r 13,cell r 14,cell r 15,cell r 16,cell r 17,cell r 18,cell r 19,cell r 20,cell r 21,cell r 22,cell r 23,cell r 24,cell r 25,cell r 26,cell r 27,cell r 28,cell r 29,cell r 30,cell r 31,cell r 32,cell r 33,cell r 34,cell r 35,cell r 36,cell r 37,cell r 38,cell r 39,cell r 40,cell r 41,cell r 42,cell r 43,cell r 44,cell r 45,cell r 46,cell r 47,cell r 48,cell r 49,cell r 50,cell r 51,cell r 52,cell r 53,cell r 54,cell r 55,cell r 56,cell r 57,cell r 58,cell r 59,cell r 60,cell r 61,cell r 62])=T.map Rs.pv:=X7;simp only[fI,vS,zz,zA,zB,zC,zD,aS,U,Gk,Mk hPo hf hn,aI,hdiv,N5,hb,aat];rw[IN (by decide)]
 refine⟨fun h=>?_,fun h=>?_⟩
 ·rw[main,IN (by rw[hxo.2 h];decide),mi];exact Kf hn T hT rs.length 0 rounds [] (by omega) (by omega) h (by simp) (by unfold rounds;omega)
 ·have:x.ok=false:=by
   cases hb:x.ok with
   |false=>rfl
   |true=>exact absurd (hxo.1 hb) h
  rw[main,BK (by rw[this];rfl)]
end
structure Bs where
 ok:Bool
 sum:Int
 lp:PV
def Bs.pv(x:Bs):PV:=.agg [.bool x.ok,.int .i64 x.sum,x.lp]
theorem bs0(x:Bs):Ab.asBool (cell x.pv 0)=some x.ok:=rfl
theorem bs1(x:Bs):Ab.asInt .i64 (cell x.pv 1)=some x.sum:=rfl
theorem bs2(x:Bs):cell x.pv 2=x.lp:=rfl
def Few(rs:List Rd)(x:Bs)(j:Nat):Prop:=∃l,aP 4 x.lp=some l∧l.length≤rs.length-j
structure BB(P:List aA)(rs:List Rd)(i:Nat)(A:List Bs):Prop where
 len:A.length=rs.length+1
 hi:∀j x,i<j→A[j]?=some x→(x.ok=true↔Bn P rs j)
 lo:∀j x,j<i→A[j]?=some x→x.ok=false
 few:∀j x,A[j]?=some x→Few rs x j
structure Gn(P:List aA)(rs:List Rd)(m:Nat)(A:List Bs):Prop where
 len:A.length=rs.length+1
 hi:∀j x,m≤j→A[j]?=some x→(x.ok=true↔Bn P rs j)
 lo:∀j x,j<m→A[j]?=some x→x.ok=false
 few:∀j x,A[j]?=some x→Few rs x j
section
variable {P:List aA} {rs:List Rd} {d w c:Int}
theorem QP(hP:∀p∈P,XX p)(QL:P.length≤16)(hn:rs.length≤8)(ho:∀y∈rs,Cz y){i k:Nat}(D3:i≤k)(hk:k<rs.length)(A:List Bs)(hA:BB P rs i A)(Q:Prop)(hQ:∀x,A[i]?=some x→(x.ok=true↔Q))(zU:Bn P rs (k+1)):∃A',(BB P rs i A'∧∀x,A'[i]?=some x→(x.ok=true↔Q∨P.any (fun p=>oV p (cut rs i k))=true))∧∀eD:aau→Option PV,bn.run (gg bn eD) (rs.map Rd.pv,(i:Int),(k:Int),0,P.map aA.pv,d,w,c,A.map Bs.pv,())=eD (rs.map Rd.pv,(i:Int),((k+1:Nat):Int),P.map aA.pv,d,w,c,A'.map Bs.pv,()):=by
 have fin:∀A',(BB P rs i A'∧∀x,A'[i]?=some x→(x.ok=true↔Q∨(P.take P.length).any (fun p=>oV p (cut rs i k))=true))→BB P rs i A'∧∀x,A'[i]?=some x→(x.ok=true↔Q∨P.any (fun p=>oV p (cut rs i k))=true):=fun A' hI=>⟨hI.1,fun x hx=>by rw[hI.2 x hx,akh]⟩;refine Ke fin (yU (body:=fun eD=>gg bn eD) (fun p(A:List Bs)=>(rs.map Rd.pv,(i:Int),(k:Int),(p:Int),P.map aA.pv,d,w,c,A.map Bs.pv,())) (fun eD A=>eD (rs.map Rd.pv,(i:Int),((k+1:Nat):Int),P.map aA.pv,d,w,c,A.map Bs.pv,())) (fun p A=>BB P rs i A∧∀x,A[i]?=some x→(x.ok=true↔Q∨(P.take p).any (fun p=>oV p (cut rs i k))=true)) P.length (fun p hp A hI=>?_) (fun eD A rec hI=>?_) (by unfold rounds;omega) A ⟨hA,fun x hx=>by rw[hQ x hx];simp⟩ rfl)
 ·obtain⟨hA,hq⟩:=hI;have hl:=hA.len;obtain⟨y,hy⟩:∃y,A[k+1]?=some y:=⟨_,AI (by omega)⟩;obtain⟨x,hx⟩:∃x,A[i]?=some x:=⟨_,AI (by omega)⟩;obtain⟨ly,ly1,ly2⟩:=hA.few (k+1) y hy;obtain⟨lx,lx1,lx2⟩:=hA.few i x hx;have Mi:P.take (p+1)=P.take p++[P[p]]:=by rw[ajM hp]
  have Un:(A.map Bs.pv)[k+1]?=some y.pv:=by rw[IT,hy];rfl
  have Zi:(A.map Bs.pv)[i]?=some x.pv:=by rw[IT,hx];rfl
  have Ut:ae ((k+1:Nat):Int) (A.map Bs.pv).length:=by unfold ae;simp;omega
  have acv:ae (i:Int) (A.map Bs.pv).length:=by unfold ae;simp;omega
  have G1:IntKind.i64.wrap ((k:Int)+1)=((k+1:Nat):Int):=ag (by omega);have hw2:IntKind.i64.wrap ((p:Int)+1)=((p+1:Nat):Int):=ag (by omega);have stay:(oV P[p] (cut rs i k)=false∨x.ok=true)→BB P rs i A∧∀x,A[i]?=some x→(x.ok=true↔Q∨(P.take (p+1)).any (fun p=>oV p (cut rs i k))=true):=fun hs=>⟨hA,fun z hz=>by
   rw[hx]at hz;cases hz;rw[hq x hx,Mi,alk];simp only[akM,alT,aln,ajA];rcases hs with hs|hs
   ·rw[hs];simp
   ·have:=(hq x hx).1 hs;exact⟨fun _=>this.imp_right .inl,fun _=>this⟩⟩
  obtain⟨v,hv⟩:=Mh P d w c P[p] (show i<rs.length by omega) hn;obtain⟨X,round⟩:∃X:Bool,∀(eD:aau→Option PV)rec,gg bn eD (rs.map Rd.pv,(i:Int),(k:Int),(p:Int),P.map aA.pv,d,w,c,A.map Bs.pv,()) rec=if(!oV P[p] (cut rs i k))=true then rec (rs.map Rd.pv,(i:Int),(k:Int),((p+1:Nat):Int),P.map aA.pv,d,w,c,A.map Bs.pv,())else
    if(x.ok&&X)=true then rec (rs.map Rd.pv,(i:Int),(k:Int),((p+1:Nat):Int),P.map aA.pv,d,w,c,A.map Bs.pv,())else
    rec (rs.map Rd.pv,(i:Int),(k:Int),((p+1:Nat):Int),P.map aA.pv,d,w,c,(A.set i ⟨true,IntKind.i64.wrap (v+y.sum),.rs 4 (PV.agg [.int .i64 (p:Int),.int .i64 (i:Int),.int .i64 (k:Int),.int .i64 v]::ly)⟩).map Bs.pv,()):=by
   refine⟨decide (IntKind.i64.wrap (v+y.sum)>x.sum)||(IntKind.i64.wrap (v+y.sum)==x.sum&&decide (IntKind.i64.wrap (1+(ly.length:Int))≥(lx.length:Int))),fun eD rec=>?_⟩;unfold gg;dsimp only;rw[BK (by simp;omega),bA aA.pv P p hp];simp only[U,aer,QI (hP _ (ajz hp)) D3 hk hn ho,aB,Gk,hv,aI,G1,hw2,BK Ut,BK acv,ajw,Un,Zi,bs0,bs1,bs2,ly1,lx1,bf,aY];rw[BK (show(([].append ly).length.add 0).succ*32≤af∧0<32 by have:([].append ly:List PV)=ly:=rfl;rw[this];show(ly.length+0+1)*32≤af∧0<32;unfold af;omega)];rw[aml];rfl
  cases QM:oV P[p] (cut rs i k)with
  |false=>exact⟨A,stay (.inl QM),fun eD rec=>by rw[round,BK (by rw[QM];rfl)]⟩
  |true=>
   cases hxX:x.ok&&X with
   |true=>
    have hxo:x.ok=true:=by simp only[T1]at hxX;exact hxX.1
    exact⟨A,stay (.inr hxo),fun eD rec=>by rw[round,IN (by rw[QM];decide),BK hxX]⟩
   |false=>
    refine⟨A.set i ⟨true,IntKind.i64.wrap (v+y.sum),.rs 4 (PV.agg [.int .i64 (p:Int),.int .i64 (i:Int),.int .i64 (k:Int),.int .i64 v]::ly)⟩,⟨⟨by simp[hl],fun j z h1 hz=>?_,fun j z h1 hz=>?_,fun j z hz=>?_⟩,fun z hz=>?_⟩,fun eD rec=>by rw[round,IN (by rw[QM];decide),IN (by rw[hxX];decide)]⟩
    ·rw[akO (by omega)]at hz;exact hA.hi j z h1 hz
    ·rw[akO (by omega)]at hz;exact hA.lo j z h1 hz
    ·by_cases e:j=i
     ·subst e;rw[akU (by omega)]at hz;cases hz;exact⟨_,aS _ _,by simp only[ajv];omega⟩
     ·rw[akO (by omega)]at hz;exact hA.few j z hz
    ·rw[akU (by omega)]at hz;cases hz;rw[Mi,alk];simp[QM]
 ·unfold gg;dsimp only;rw[IN (by simp),ag (by omega)]
end
section
variable {P:List aA} {rs:List Rd} {d w c:Int}
theorem Ml(hP:∀p∈P,XX p)(QL:P.length≤16)(hn:rs.length≤8)(ho:∀y∈rs,Cz y){i:Nat}(hi:i<rs.length)(A:List Bs)(hA:Gn P rs (i+1) A):∃A',Gn P rs i A'∧∀ko:aav→Option PV,bn.run (ja bn ko) (rs.map Rd.pv,(i:Int),(i:Int),P.map aA.pv,d,w,c,A.map Bs.pv,())=ko (rs.map Rd.pv,IntKind.i64.wrap ((i:Int)-1),P.map aA.pv,d,w,c,A'.map Bs.pv,()):=by
 have hBB:BB P rs i A:=⟨hA.len,fun j x h1 hx=>hA.hi j x (by omega) hx,fun j x h1 hx=>hA.lo j x (by omega) hx,hA.few⟩;have fin:∀A',(BB P rs i A'∧∀x,A'[i]?=some x→(x.ok=true↔∃k,i≤k∧k<i+(rs.length-i)∧Bn P rs (k+1)∧P.any (fun p=>oV p (cut rs i k))=true))→Gn P rs i A':=fun A' hI=>by
  refine⟨hI.1.len,fun j x h1 hx=>?_,hI.1.lo,hI.1.few⟩;by_cases e:j=i
  ·subst e;rw[hI.2 x hx];constructor
   ·rintro⟨k,a1,a2,a3,a4⟩;exact .step _ k a1 (by omega) a3 a4
   ·intro h;obtain⟨k,a1,a2,a3,a4⟩:=h.inv hi;exact⟨k,a1,by omega,a3,a4⟩
  ·exact hI.1.hi j x (by omega) hx
 refine Ke fin (yU (body:=fun ko=>ja bn ko) (fun t(A:List Bs)=>(rs.map Rd.pv,(i:Int),((i+t:Nat):Int),P.map aA.pv,d,w,c,A.map Bs.pv,())) (fun ko A=>ko (rs.map Rd.pv,IntKind.i64.wrap ((i:Int)-1),P.map aA.pv,d,w,c,A.map Bs.pv,())) (fun t A=>BB P rs i A∧∀x,A[i]?=some x→(x.ok=true↔∃k,i≤k∧k<i+t∧Bn P rs (k+1)∧P.any (fun p=>oV p (cut rs i k))=true)) (rs.length-i) (fun t ht A hI=>?_) (fun ko A rec hI=>?_) (by unfold rounds;omega) A ⟨hBB,fun x hx=>?_⟩ (by simp))
 ·obtain⟨hA,hq⟩:=hI;have hl:=hA.len;obtain⟨y,hy⟩:∃y,A[i+t+1]?=some y:=⟨_,AI (by omega)⟩;have hyo:=hA.hi (i+t+1) y (by omega) hy;have Un:(A.map Bs.pv)[i+t+1]?=some y.pv:=by rw[IT,hy];rfl
  have Ut:ae ((i+t+1:Nat):Int) (A.map Bs.pv).length:=by unfold ae;simp;omega
  have G1:IntKind.i64.wrap (((i+t:Nat):Int)+1)=((i+t+1:Nat):Int):=ag (by omega);have head:∀(ko:aav→Option PV)rec,ja bn ko (rs.map Rd.pv,(i:Int),((i+t:Nat):Int),P.map aA.pv,d,w,c,A.map Bs.pv,()) rec=if(!y.ok)=true then rec (rs.map Rd.pv,(i:Int),((i+t+1:Nat):Int),P.map aA.pv,d,w,c,A.map Bs.pv,())else bn.run (gg bn rec) (rs.map Rd.pv,(i:Int),((i+t:Nat):Int),0,P.map aA.pv,d,w,c,A.map Bs.pv,()):=by intro ko rec;unfold ja;dsimp only;rw[BK (by simp;omega),G1,BK Ut,ajw,Un];simp only[U,bs0]
  by_cases UQ:y.ok=true
  ·obtain⟨A',⟨h1,h2⟩,h3⟩:=QP (d:=d) (w:=w) (c:=c) hP QL hn ho (show i≤i+t by omega) (show i+t<rs.length by omega) A hA _ hq (hyo.1 UQ);refine⟨A',⟨h1,fun x hx=>?_⟩,fun ko rec=>?_⟩
   ·rw[h2 x hx];constructor
    ·rintro(⟨k,a1,a2,a3,a4⟩|a4)
     ·exact⟨k,a1,by omega,a3,a4⟩
     ·exact⟨i+t,by omega,by omega,hyo.1 UQ,a4⟩
    ·rintro⟨k,a1,a2,a3,a4⟩;by_cases e:k=i+t
     ·subst e;exact .inr a4
     ·exact .inl ⟨k,a1,by omega,a3,a4⟩
   ·rw[head,IN (by simp[UQ]),h3 rec];rfl
  ·refine⟨A,⟨hA,fun x hx=>?_⟩,fun ko rec=>by rw[head,BK (by simpa using UQ)];rfl⟩;rw[hq x hx];constructor
   ·rintro⟨k,a1,a2,a3,a4⟩;exact⟨k,a1,by omega,a3,a4⟩
   ·rintro⟨k,a1,a2,a3,a4⟩;by_cases e:k=i+t
    ·subst e;exact absurd (hyo.2 a3) UQ
    ·exact⟨k,a1,by omega,a3,a4⟩
 ·unfold ja;dsimp only;rw[IN (by simp;omega)]
 ·rw[hA.lo i x (by omega) hx];constructor
  ·intro h;cases h
  ·rintro⟨k,a1,a2,_⟩;omega
theorem US(hP:∀p∈P,XX p)(QL:P.length≤16)(hn:rs.length≤8)(ho:∀y∈rs,Cz y):∃v ts b,(b=true↔Bn P rs 0)∧lV [dw P d w c,.rs 4 (rs.map Rd.pv)]=some (.bu [.int .i64 v,.rs 4 ts,.bool b]):=by
 have G1:IntKind.i64.wrap ((rs.length:Int)+1)=((rs.length+1:Nat):Int):=ag (by omega);have ku:List.replicate (rs.length+1) (PV.agg [.bool false,.int .i64 0,.rs 0 []])=(List.replicate (rs.length+1) (⟨false,0,.rs 0 []⟩:Bs)).map Bs.pv:=by rw[List.map_replicate];rfl
 have ec:((List.replicate (rs.length+1) (⟨false,0,.rs 0 []⟩:Bs)).map Bs.pv)[rs.length]?=some (Bs.pv ⟨false,0,.rs 0 []⟩):=by rw[IT,aj5,BK (by omega)];rfl
 have h0:Gn P rs rs.length ((List.replicate (rs.length+1) (⟨false,0,.rs 0 []⟩:Bs)).set rs.length ⟨true,0,.rs 0 []⟩):=by
  refine⟨by simp,fun j x h1 hx=>?_,fun j x h1 hx=>?_,fun j x hx=>?_⟩
  ·have hj:j=rs.length:=by have:=(IS.1 hx).1;simp at this;omega
   subst hj;rw[akU (by simp)]at hx;cases hx;exact⟨fun _=>.fin,fun _=>rfl⟩
  ·rw[akO (by omega),aj5]at hx;split at hx
   ·cases hx;rfl
   ·cases hx
  ·refine⟨[],?_,by simp⟩;rw[aj6]at hx;split at hx
   ·split at hx
    ·cases hx;rfl
    ·cases hx
   ·rw[aj5]at hx;split at hx
    ·cases hx;rfl
    ·cases hx
 have ET:∀m,m<rs.length→∀A,Gn P rs (rs.length-m) A→∃A',Gn P rs (rs.length-(m+1)) A'∧∀(z:Unit)rec,gh bn (rs.map Rd.pv,(rs.length:Int)-1-(m:Int),P.map aA.pv,d,w,c,A.map Bs.pv,()) rec=rec (rs.map Rd.pv,(rs.length:Int)-1-((m+1:Nat):Int),P.map aA.pv,d,w,c,A'.map Bs.pv,()):=fun m hm A hI=>by
  obtain⟨A',h1,h2⟩:=Ml (d:=d) (w:=w) (c:=c) hP QL hn ho (show rs.length-(m+1)<rs.length by omega) A (by rw[show rs.length-(m+1)+1=rs.length-m by omega];exact hI);refine⟨A',h1,fun z rec=>?_⟩;unfold gh;dsimp only;have hi:(rs.length:Int)-1-(m:Int)=((rs.length-(m+1):Nat):Int):=by omega
  rw[BK (by simp;omega),hi,h2 rec,bE (by omega) (by omega),show((rs.length-(m+1):Nat):Int)-1=(rs.length:Int)-1-((m+1:Nat):Int) by omega]
 obtain⟨A',h1,h2⟩:=yU (R:=PV) (Z:=Unit) (body:=fun _=>gh bn) (fun m(A:List Bs)=>(rs.map Rd.pv,(rs.length:Int)-1-(m:Int),P.map aA.pv,d,w,c,A.map Bs.pv,())) (fun _ A=>gh bn (rs.map Rd.pv,(rs.length:Int)-1-(rs.length:Int),P.map aA.pv,d,w,c,A.map Bs.pv,()) (fun _=>none)) (fun m A=>Gn P rs (rs.length-m) A) rs.length ET (fun z A rec hI=>by
   have aaw:¬decide ((rs.length:Int)-1-(rs.length:Int)≥0)=true:=by simp;omega
   unfold gh;dsimp only;rw[IN aaw,IN aaw])
  (by unfold rounds;omega) _ (by rw[alC];exact h0) rfl
 rw[alm]at h1;have hl:=h1.len;obtain⟨x,hx⟩:∃x,A'[0]?=some x:=⟨_,AI (by omega)⟩;obtain⟨lx,lx1,_⟩:=h1.few 0 x hx;have Zi:(A'.map Bs.pv)[(0:Int).toNat]?=some x.pv:=by show(A'.map Bs.pv)[0]?=_;rw[IT,hx];rfl
 refine⟨x.sum,lx,x.ok,h1.hi 0 x (by omega) hx,?_⟩;simp only[lV,xO,zz,zA,zB,zC,zD,aS,U,OF,G1,ajw,ku];have oq:ae (rs.length:Int) (List.replicate (rs.length+1) (⟨false,0,.rs 0 []⟩:Bs)).length:=by unfold ae;simp;omega
 rw[BK (by first|rw[G1]|skip;refine⟨by omega,by omega,?_,by omega,by omega⟩;unfold af;omega),BK oq,ec];simp only[U,over];have tb:((List.replicate (rs.length+1) (⟨false,0,.rs 0 []⟩:Bs)).map Bs.pv).set rs.length (PV.agg (PV.bool true::[cell (Bs.pv ⟨false,0,.rs 0 []⟩) 1,cell (Bs.pv ⟨false,0,.rs 0 []⟩) 2]))=((List.replicate (rs.length+1) (⟨false,0,.rs 0 []⟩:Bs)).set rs.length ⟨true,0,.rs 0 []⟩).map Bs.pv:=by rw[aml];rfl
 rw[tb,bE (by omega) (by omega)];have ZN:=h2 ();rw[show(rs.length:Int)-1-((0:Nat):Int)=(rs.length:Int)-1 by omega]at ZN;rw[ZN];unfold gh;dsimp only;have aes:ae 0 (A'.map Bs.pv).length:=by unfold ae;simp;omega
 rw[IN (by simp;omega),BK aes,Zi];simp only[U,bs0,bs1,bs2,BK aes,Zi,lx1]
end
end Go.Ab.Tt
