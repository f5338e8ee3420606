import Derived.Test.YtanikidijjaohaaGreatFbP1
namespace Go.Ab.Tt
set_option maxRecDepth 100000
set_option linter.unusedVariables false
set_option linter.unusedSimpArgs false
variable{a:Nat}
theorem NF(h:a<18446744073709551616):(BitVec.ofInt 64 (a:Int)).toNat=a:=by rw[ajM,BitVec.toNat_ofNat,aio h]
theorem F9(h:a<18446744073709551616):IntKind.u64.wrap (a:Int)=(a:Int):=by simp only[IntKind.wrap,IntKind.signed,IntKind.bits];simp;omega
theorem Bw(h:a<9223372036854775808):IntKind.i64.wrap (a:Int)=(a:Int):=br (by omega) (by omega)
theorem vT{b:Nat}(ha:a<65536)(hb:b<65536):a|||b<65536:=Nat.or_lt_two_pow (n:=16) ha hb
theorem Z6{b:Nat}(ha:a<65536)(hb:b<65536):IntKind.i64.wrap ((BitVec.ofInt IntKind.i64.bits (a:Int)|||BitVec.ofInt IntKind.i64.bits (b:Int)).toNat:Int)=((a|||b:Nat):Int):=by show IntKind.i64.wrap (((BitVec.ofInt 64 (a:Int)|||BitVec.ofInt 64 (b:Int)).toNat:Nat):Int)=_;rw[BitVec.toNat_or,NF (by omega),NF (by omega)];exact Bw (by have:=vT ha hb;omega)
theorem orU{b:Nat}(ha:a<65536)(hb:b<65536):IntKind.u64.wrap ((BitVec.ofInt IntKind.u64.bits (a:Int)|||BitVec.ofInt IntKind.u64.bits (b:Int)).toNat:Int)=((a|||b:Nat):Int):=by show IntKind.u64.wrap (((BitVec.ofInt 64 (a:Int)|||BitVec.ofInt 64 (b:Int)).toNat:Nat):Int)=_;rw[BitVec.toNat_or,NF (by omega),NF (by omega)];exact F9 (by have:=vT ha hb;omega)
theorem mj{z:Nat}(h:z<16):2^z<65536:=(Nat.pow_lt_pow_right (a:=2) (by decide) h:2^z<2^16)
variable{z:Int}
theorem shI(h0:0≤z)(h:z<16):IntKind.i64.wrap (1*2^min z.toNat IntKind.i64.bits)=((2^z.toNat:Nat):Int):=by
 have h1:min z.toNat IntKind.i64.bits=z.toNat:=ahH (by show z.toNat≤64;omega);have h2:z.toNat<16:=by omega
 rw[h1,Int.one_mul];have:=mj h2;have e:((2:Int)^z.toNat)=((2^z.toNat:Nat):Int):=by simp
 rw[e];exact Bw (by omega)
theorem shU(h0:0≤z)(h:z<16):IntKind.u64.wrap (1*2^min z.toNat IntKind.u64.bits)=((2^z.toNat:Nat):Int):=by
 have h1:min z.toNat IntKind.u64.bits=z.toNat:=ahH (by show z.toNat≤64;omega);have h2:z.toNat<16:=by omega
 rw[h1,Int.one_mul];have:=mj h2;have e:((2:Int)^z.toNat)=((2^z.toNat:Nat):Int):=by simp
 rw[e];exact F9 (by omega)
theorem aU(n:Int):Ab.asInt .u64 (.int .u64 n)=some n:=rfl
theorem DR(h0:0≤z)(h:z<16):kh [.int .i64 z]=some (.int .u64 ((2^z.toNat:Nat):Int)):=by simp only[kh,xY,aI,U,aZ];rw[IN (by simp;omega),IN (by omega),shU h0 h]
theorem WQ{s:Nat}(hs:s<65536)(h0:0≤z)(h:z<16):gh [.int .u64 (s:Int),.int .i64 z]=some (.int .u64 ((s|||2^z.toNat:Nat):Int)):=by simp only[gh,oJ,aU,aI,U,DR h0 h];rw[orU hs (mj (by omega))]
theorem PU(h0:0≤z)(h:z<16):oa [.rs 1 [.int .i64 z]]=some (.int .u64 ((2^z.toNat:Nat):Int)):=by
 simp only[oa,Ar,aS,U,ahD];refine bT (fun k=>(((if k=0 then 0 else 2^z.toNat:Nat):Int),[PV.int .i64 z],1,(k:Int),())) 1 (fun k hk rec=>?_) (fun rec=>?_) (by unfold rounds;omega) rfl
 ·have:k=0:=by omega
  subst this;unfold tZ;dsimp only;have hc:cell (PV.int .i64 z) 0=PV.int .i64 z:=rfl;have hi:aM [PV.int .i64 z] ((0:Nat):Int)=some (PV.int .i64 z):=rfl;rw[BY (by simp),hi];simp only[U,hc,aI,DR h0 h,aU,T1];rw[orU (by omega) (mj (by omega)),Nat.zero_or];rfl
 ·unfold tZ;dsimp only;rw[IN (by simp)];rfl
def Hq(N:ai)(c:cK):Nat:=match N.stops[c.stop.toNat]? with|some s=>s.oK.toNat|none=>0
def DS(N:ai):List cK→Nat→Nat
 |[],s=>s
 |c::r,s=>DS N r (s|||2^Hq N c)
def oX(N:ai)(x:cA):List cK:=match yt N x with|some r=>(r.calls.take (x.bq.toNat+1)).drop x.da.toNat|none=>[]
def Aw(N:ai)(x:cA):Nat:=DS N (oX N x) 0
theorem Ur{N:ai}(cs:List cK)(h:∀c∈cs,Hq N c<16):∀s,s<65536→DS N cs s<65536:=by
 induction cs with
 |nil=>intro s hs;exact hs
 |cons c r ih=>intro s hs;exact ih (fun c hc=>h c (by simp[hc])) _ (vT hs (mj (h c (by simp))))
theorem Us(x:Stop):Ab.asInt .i64 (cell x.pv 1)=some x.oK:=rfl
section
variable {N:ai} {q:lf}
variable{r:dH}
theorem Ax(h:q8 N)(hr:r∈N.runs){c:cK}(hc:c∈r.calls):∃s,N.stops[c.stop.toNat]?=some s∧0≤c.stop∧0≤s.oK∧s.oK<16∧Hq N c=s.oK.toNat:=by obtain⟨s,h1,h2,h3⟩:=h.call r hr c hc;obtain⟨a,b,_⟩:=h.stop s h3;exact⟨s,h1,h2,a,b,by unfold Hq;rw[h1]⟩
variable{x:cA}{t:aG}{a b:cK}
theorem vU(hx:oL N x r t a b):oX N x=(r.calls.take (x.bq.toNat+1)).drop x.da.toNat:=by unfold oX yt;rw[BY hx.tW,hx.run]
theorem Ay(hx:oL N x r t a b):∀c∈oX N x,c∈r.calls:=by intro c hc;rw[vU hx]at hc;exact ahJ (ah3 hc)
theorem Az(h:q8 N)(hx:oL N x r t a b):Aw N x<65536:=Ur _ (fun c hc=>by obtain⟨s,_,_,_,_,e⟩:=Ax h hx.mem (Ay hx c hc);omega) 0 (by omega)
theorem Jn(h:q8 N)(hx:oL N x r t a b):iP [N.pv,x.pv]=some (.int .u64 (Aw N x:Int)):=by
 have sC:=vS h.res r hx.mem;have hlen:=(Bx sC).2;have GN:x.bq.toNat<r.calls.length:=(HO.1 hx.bq).1;have ha0:=hx.zl;have hb0:=hx.Hk;have bS:=hx.lt;have hw:IntKind.i64.wrap (x.bq+1)=x.bq+1:=br (by omega) (by omega);simp only[iP,rT,jr,js,jt,ju,jw,jx,jy,jz,jB,jC,iy,iA,iH,iI,iJ,iK,iL,iM,iN,gY,U,bg dH.pv hx.tW hx.run,zn,aS,hw,T0];rw[BY (by refine⟨hb0,by omega,by omega,?_⟩;simp)];have B3:List.drop x.da.toNat (List.take (x.bq+1).toNat (r.calls.map cK.pv))=(oX N x).map cK.pv:=by rw[vU hx,show(x.bq+1).toNat=x.bq.toNat+1 by omega,ajp,ai0]
 rw[B3,T0];have ae1:(oX N x).length≤32:=by rw[vU hx];simp;omega
 refine kL (fun k(s:Nat)=>((s:Int),(oX N x).map cK.pv,((oX N x).length:Int),(k:Int),N.stops.map Stop.pv,N.av.map aG.pv,N.runs.map dH.pv,N.aL.map bh.pv,N.paths.map Path.pv,N.aT.map aF.pv,N.bw,N.within,N.cap,())) (fun k s=>some (PV.int .u64 (DS N ((oX N x).drop k) s:Int))) (fun k s=>s<65536) (oX N x).length (fun k hk s rec hi fq=>?_) (fun s rec hi=>?_) (by unfold rounds;omega) 0 (by omega) rfl
 ·obtain⟨st,s1,s2,s3,s4,s5⟩:=Ax h hx.mem (Ay hx _ (agQ hk));unfold nr;dsimp only;rw[BY (by simp;omega),cj cK.pv _ k hk];simp only[U,Hm,bg Stop.pv s2 s1,Us,WQ hi s3 s4,aU,ah (show k<9223372036854775807 by omega)];rw[fq _ (vT hi (mj (by omega))),jj hk];simp only[DS,s5]
 ·unfold nr;dsimp only;rw[IN (by simp),ahe];rfl
theorem Ga(h:q8 N)(hx:oL N x r t a b):iW [N.pv,x.pv]=some (.int .i64 (Aw N x:Int)):=by
 have sC:=vS h.res r hx.mem;have hlen:=(Bx sC).2;have GN:x.bq.toNat<r.calls.length:=(HO.1 hx.bq).1;have ha0:=hx.zl;have hb0:=hx.Hk;have bS:=hx.lt;simp only[iW,vG,jr,js,jt,ju,jw,jx,jy,jz,jB,jC,iy,iA,iH,iI,iJ,iK,iL,iM,iN,gY,U,bg dH.pv hx.tW hx.run,zn,aS];have ae1:(oX N x).length=x.bq.toNat+1-x.da.toNat:=by rw[vU hx];simp;omega
 refine kL (fun k(s:Nat)=>((s:Int),r.calls.map cK.pv,x.da+(k:Int),N.stops.map Stop.pv,N.av.map aG.pv,N.runs.map dH.pv,N.aL.map bh.pv,N.paths.map Path.pv,N.aT.map aF.pv,N.bw,N.within,N.cap,x.dr,x.run,x.da,x.bq,x.src,x.dst,x.dep,x.arr,x.stay,())) (fun k s=>some (PV.int .i64 (DS N ((oX N x).drop k) s:Int))) (fun k s=>s<65536) (oX N x).length (fun k hk s rec hi fq=>?_) (fun s rec hi=>?_) (by unfold rounds;omega) 0 (by omega) (by simp)
 ·obtain⟨st,s1,s2,s3,s4,s5⟩:=Ax h hx.mem (Ay hx _ (agQ hk));have eH:r.calls[(x.da+(k:Int)).toNat]?=some (oX N x)[k]:=by
   have e1:(oX N x)[k]?=some (oX N x)[k]:=AS hk;rw[←e1];conv=>rhs;rw[vU hx]
   rw[aja,List.getElem?_take,BY (by omega)];congr 1;omega
  unfold qB;dsimp only;rw[BY (by simp;omega),bg cK.pv (by omega) eH];simp only[U,Hm,bg Stop.pv s2 s1,Us,shI s3 s4];rw[IN (by omega),Z6 hi (mj (by omega)),br (by omega) (by omega),show x.da+(k:Int)+1=x.da+((k+1:Nat):Int) by omega,fq _ (vT hi (mj (by omega))),jj hk];simp only[DS,s5]
 ·unfold qB;dsimp only;rw[IN (by simp;omega),ahe];rfl
end
structure Rd where
 dep:Int
 arr:Int
 gw:Nat
 bM:Nat
def Rd.pv(x:Rd):PV:=.agg [.int .i64 x.dep,.int .i64 x.arr,.int .i64 (x.gw:Int),.int .i64 (x.bM:Int)]
def DT(N:ai)(x:cA):Nat:=match yt N x with
 |some r=>(match N.av[r.ep.toNat]? with|some t=>2^t.mode.toNat|none=>0)
 |none=>0
def rdStep(N:ai)(out:List Rd)(x:cA):List Rd:=
 if x.dr=true then(if x.stay=true then(match out.getLast? with
  |some y=>out.dropLast++[⟨y.dep,x.arr,y.gw|||Aw N x,y.bM|||DT N x⟩]
  |none=>out)
  else out++[⟨x.dep,x.arr,Aw N x,DT N x⟩])
 else out
def jb(N:ai):List cA→List Rd→List Rd
 |[],out=>out
 |x::r,out=>jb N r (rdStep N out x)
structure xq(N:ai)(l:List cA):Prop where
 leg:∀k(h:k<l.length),FZ N l[k]=false
 mom:∀k(h:k<l.length),I9 l[k]=false
 stay:∀k(h:k<l.length),l[k].stay=true→∃j,∃h:j<l.length,k=j+1∧l[j].dr=true
def Gb(l:List cA):Nat→Bool
 |0=>false
 |k+1=>match l[k]? with|some x=>x.dr|none=>false
theorem nu{l:List cA}{k:Nat}(h:k<l.length):Gb l (k+1)=l[k].dr:=by show(match l[k]? with|some x=>x.dr|none=>false)=_;rw[AS h]
structure AA(x:Rd):Prop where
 z:x.gw<65536
 m:x.bM<65536
 d:0≤x.dep∧x.dep≤3155932800
theorem WR{x:cA}(h:I9 x=false):0≤x.dep∧x.dep≤3155932800:=by unfold I9 qW at h;simp only[ahi,ahF,T2,No]at h;exact⟨h.1.1,h.1.2⟩
structure Jo(l:List cA)(k:Nat)(out:List Rd):Prop where
 len:out.length≤k
 ok:∀y∈out,AA y
 ne:Gb l k=true→out≠[]
section
variable {N:ai} {q:lf} {l:List cA} {k:Nat}
theorem DU(h:q8 N){x:cA}{r:dH}{t:aG}{a b:cK}(hx:oL N x r t a b):DT N x=2^t.mode.toNat∧0≤t.mode∧t.mode<16∧DT N x<65536:=by
 have ht:=h.ep t hx.tm;have e:DT N x=2^t.mode.toNat:=by unfold DT yt;rw[BY hx.tW,hx.run];simp only[hx.ep]
 exact⟨e,ht.1,by omega,by rw[e];exact mj (by omega)⟩
theorem yy(h:q8 N)(hg:xq N l)(hk:k<l.length){out:List Rd}(hi:Jo l k out):Jo l (k+1) (rdStep N out l[k]):=by
 obtain⟨_,_,hx,pw⟩:=qz (hg.leg k hk);have Ut:Gb l (k+1)=l[k].dr:=nu hk;unfold rdStep;cases hr:l[k].dr with
 |false=>exact⟨by simpa using Nat.le_succ_of_le hi.len,hi.ok,fun hh=>by rw[Ut,hr]at hh;cases hh⟩
 |true=>
  obtain⟨r,t,a,b,iF⟩:=yu h (hx hr);have hz:=Az h iF;have hm:=(DU h iF).2.2.2;rw[BY rfl];cases hs:l[k].stay with
  |true=>
   obtain⟨j,hj,rfl,hjr⟩:=hg.stay k hk hs;have cL:out≠[]:=hi.ne (by rw[nu hj];exact hjr);rw[BY rfl,aiQ cL];simp only;have hy:=hi.ok _ (List.getLast_mem cL);have hl:=hi.len;have er:0<out.length:=List.length_pos_iff.2 cL;refine⟨by simp;omega,fun y Rv=>?_,fun _=>by simp⟩;rcases ag2.1 Rv with Rv|Rv
   ·exact hi.ok _ ((List.dropLast_sublist _).subset Rv)
   ·simp only[aiu]at Rv;subst Rv;exact⟨vT hy.z hz,vT hy.m hm,hy.d⟩
  |false=>
   rw[IN (by simp)];refine⟨by simpa using hi.len,fun y Rv=>?_,fun _=>by simp⟩;rcases ag2.1 Rv with Rv|Rv
   ·exact hi.ok _ Rv
   ·simp only[aiu]at Rv;subst Rv;exact⟨hz,hm,WR (hg.mom k hk)⟩
theorem NG(x:cA):gQ [N.pv,x.pv]=some (.bool (VE N x)):=by
 simp only[gQ,qw,jr,js,jt,ju,jw,jx,jy,jz,jB,jC,iy,iA,iH,iI,iJ,iK,iL,iM,iN,gY,U,T0,aY];unfold VE yt;by_cases h0:0≤x.run
 ·by_cases h1:x.run.toNat<N.runs.length
  ·rw[BY h0,AS h1,bg dH.pv h0 (AS h1),ahy h0,ahy (show x.run<(N.runs.length:Int) by omega)];simp only[U,zn,aS,T0,ahW];by_cases c1:0≤x.da<;>by_cases c2:x.da<x.bq<;>simp[c1,c2]
  ·rw[BY h0,afi (by omega),ahy h0,ahf (show¬x.run<(N.runs.length:Int) by omega)];rfl
 ·rw[IN h0,ahf h0];rfl
theorem Jp(init:List PV)(y v:PV):(init++[y]).set init.length v=init++[v]:=by rw[List.set_append_right _ _ (agM _),aiO];rfl
theorem zp(init:List PV)(y:PV):(init++[y])[init.length]?=some y:=by rw[ahQ (agM _),aiO];rfl
theorem rd0(x:Rd):cell x.pv 0=.int .i64 x.dep:=rfl
theorem rd1(x:Rd):cell x.pv 1=.int .i64 x.arr:=rfl
theorem rd2(x:Rd):cell x.pv 2=.int .i64 (x.gw:Int):=rfl
theorem rd3(x:Rd):cell x.pv 3=.int .i64 (x.bM:Int):=rfl
theorem Yu(l:List PV)(j:Nat):cell (.agg l) j=l.getD j .bad:=rfl
theorem Uu(h:q8 N)(hg:xq N l)(hl:l.length≤1000000):iQ [N.pv,BN l]=some (.bn [.rs 4 ((jb N l []).map Rd.pv),.int .i64 0]):=by
 simp only[iQ,rV,jr,js,jt,ju,jw,jx,jy,jz,jB,jC,jA,j0,U,nY,DG N h.ok h.paths,T0];simp only[gv,cO,agU,ahg,T1,U,agL,agH,aI,h.res];rw[IN (by decide)];refine kL (fun j(out:List Rd)=>(Gb l j,l.map cA.pv,(l.length:Int),(j:Int),N.stops.map Stop.pv,N.av.map aG.pv,N.runs.map dH.pv,N.aL.map bh.pv,N.paths.map Path.pv,N.aT.map aF.pv,N.bw,N.within,N.cap,out.map Rd.pv,())) (fun j out=>some (PV.bn [.rs 4 ((jb N (l.drop j) out).map Rd.pv),.int .i64 0])) (Jo l) l.length (fun j hj out rec hi fq=>?_) (fun out rec hi=>?_) (by unfold rounds;omega) [] ⟨by simp,by simp,fun hh=>by cases hh⟩ rfl
 ·obtain⟨_,_,hx,pw⟩:=qz (hg.leg j hj);have Uv:=fq _ (yy h hg hj hi);have Ut:Gb l (j+1)=l[j].dr:=nu hj;rw[jj hj];show _=some (PV.bn [.rs 4 ((jb N (l.drop (j+1)) (rdStep N out l[j])).map Rd.pv),.int .i64 0]);rw[←Uv,Ut];unfold nv;dsimp only;rw[BY (by simp;omega),cj cA.pv l j hj];simp only[U,iy,iA,iH,iI,iJ,iK,iL,iM,iN,gY,Rn,nY,NG,aB,aY,aZ,ah (show j<9223372036854775807 by omega)];cases hr:l[j].dr with
  |false=>have hs:=pw hr;rw[hs,IN (by simp),IN (by simp),IN (by simp)];unfold rdStep;rw[hr,IN (by simp)]
  |true=>
   obtain⟨r,t,a,b,iF⟩:=yu h (hx hr);have hz:=Az h iF;obtain⟨m1,m2,m3,m4⟩:=DU h iF;rw[IN (by simp[hx hr])];cases hs:l[j].stay with
   |false=>rw[IN (by simp),BY rfl];simp only[Jn h iF,U,aU,bg dH.pv iF.tW iF.run,Jd,aI,bg aG.pv iF.Au iF.ep,wN,PU m2 m3,agX,T1];rw[BY (by simp only[ag1,T0,ahD];have:=hi.len;unfold aj;omega),Bw (by omega),←m1,Bw (by omega)];unfold rdStep;rw[hr,hs,BY rfl,IN (by simp),ah8];rfl
   |true=>
    obtain⟨i,Ps,rfl,hir⟩:=hg.stay j hj hs;have cL:out≠[]:=hi.ne (by rw[nu Ps];exact hir);obtain⟨init,y,rfl⟩:∃init y,out=init++[y]:=⟨out.dropLast,out.getLast cL,(ai1 cL).symm⟩;have hy:=hi.ok y (by simp);have Z7:Gb l (i+1)=true:=by rw[nu Ps];exact hir
    have zJ:=hi.len;simp only[ag1,ahD]at zJ;rw[Z7,IN (by simp),BY rfl];simp only[Jn h iF,U,aU,bg dH.pv iF.tW iF.run,Jd,aI,bg aG.pv iF.Au iF.ep,wN,PU m2 m3,afj,AT,Xq];have hlen:(((init++[y]).map Rd.pv).length:Int)-1=((init.map Rd.pv).length:Int):=by simp
    have hmp:(init++[y]).map Rd.pv=init.map Rd.pv++[y.pv]:=by simp
    rw[hlen,br (by simp only[T0];omega) (by simp only[T0];omega),afm,hmp];rw[BY (by unfold ab;simp;omega),zp];simp only[U,Jp,zp,rd0,rd1,rd2,rd3,Yu,agL,agH,over,aI];rw[Bw (show Aw N l[i+1]<9223372036854775808 by omega),←m1,Bw (show DT N l[i+1]<9223372036854775808 by omega),Z6 hy.z hz,Z6 hy.m m4];unfold rdStep;rw[hr,hs,BY rfl,BY rfl,ajL,ajq];simp only[Option.some_or,ajK,ah8,agP,ail];rfl
 ·unfold nv;dsimp only;rw[IN (by simp),ahe];rfl
end
section
variable {N:ai} {q:lf} {l:List cA} {k:Nat}
theorem Rw(h:q8 N)(hg:xq N l)(hl:l.length≤1000000):kM [N.pv,BN l]=some (.bn [.rs 4 ((jb N l []).map Rd.pv),.int .i64 0]):=by
 simp only[kM,vl,jr,js,jt,ju,jw,jx,jy,jz,jB,jC,jA,j0,U,nY,I7 N h.ok h.paths,aB,h.res,ag6,afj,AT,Xq];refine kL (fun j(out:List Rd)=>((j:Int),N.stops.map Stop.pv,N.av.map aG.pv,N.runs.map dH.pv,N.aL.map bh.pv,N.paths.map Path.pv,N.aT.map aF.pv,N.bw,N.within,N.cap,l.map cA.pv,out.map Rd.pv,())) (fun j out=>some (PV.bn [.rs 4 ((jb N (l.drop j) out).map Rd.pv),.int .i64 0])) (Jo l) l.length (fun j hj out rec hi fq=>?_) (fun out rec hi=>?_) (by unfold rounds;omega) [] ⟨by simp,by simp,fun hh=>by cases hh⟩ rfl
 ·obtain⟨_,_,hx,pw⟩:=qz (hg.leg j hj);have Uv:=fq _ (yy h hg hj hi);rw[jj hj];show _=some (PV.bn [.rs 4 ((jb N (l.drop (j+1)) (rdStep N out l[j])).map Rd.pv),.int .i64 0]);rw[←Uv];unfold qC;dsimp only;rw[BY (by simp;omega),cj cA.pv l j hj];simp only[U,iy,iA,iH,iI,iJ,iK,iL,iM,iN,gY,Rn,nY,DJ,aB,aY,aZ,ah (show j<9223372036854775807 by omega)];cases hr:l[j].dr with
  |false=>have hs:=pw hr;rw[hs,IN (by simp)];simp only[cond_false,U,AT,Xq,agX,T1];unfold rdStep;rw[hr,IN (by simp)]
  |true=>
   obtain⟨r,t,a,b,iF⟩:=yu h (hx hr);have hz:=Az h iF;obtain⟨m1,m2,m3,m4⟩:=DU h iF;rw[IN (by simp[hx hr])];cases hs:l[j].stay with
   |false=>simp only[cond_false,U,AT,Xq,afj,Ga h iF,aI,bg dH.pv iF.tW iF.run,Jd,bg aG.pv iF.Au iF.ep,wN,shI m2 m3];rw[IN (by omega),BY (by simp only[ag1,T0,ahD];have:=hi.len;unfold aj;omega),←m1];unfold rdStep;rw[hr,hs,BY rfl,IN (by simp),ah8];rfl
   |true=>
    obtain⟨i,Ps,rfl,hir⟩:=hg.stay j hj hs;have cL:out≠[]:=hi.ne (by rw[nu Ps];exact hir);obtain⟨init,y,rfl⟩:∃init y,out=init++[y]:=⟨out.dropLast,out.getLast cL,(ai1 cL).symm⟩;have hy:=hi.ok y (by simp);have zJ:=hi.len;simp only[ag1,ahD]at zJ;have h0:(((i+1:Nat):Int)==0)=false:=by simp;omega
    rw[h0,lN i (by omega),cj cA.pv l i Ps];simp only[U,iA,hir,cond_true,cond_false,afj,ahA,ain,AT,Xq,T1,Ga h iF,aI,bg dH.pv iF.tW iF.run,Jd,bg aG.pv iF.Au iF.ep,wN,shI m2 m3];have hlen:(((init++[y]).map Rd.pv).length:Int)-1=((init.map Rd.pv).length:Int):=by simp
    have hmp:(init++[y]).map Rd.pv=init.map Rd.pv++[y.pv]:=by simp
    rw[IN (by omega),hlen,br (by simp only[T0];omega) (by simp only[T0];omega),afm,hmp];have ov:∀v:PV,ab ((init.map Rd.pv).length:Int) (init.map Rd.pv++[v]).length:=fun v=>by unfold ab;simp;omega
    rw[BY (ov _),zp];simp only[U,Jp,zp,rd0,rd1,rd2,rd3,Yu,agL,agH,over,aI,ov,T1];rw[←m1,Z6 hy.z hz,Z6 hy.m m4];unfold rdStep;rw[hr,hs,BY rfl,BY rfl,ajL,ajq];simp only[Option.some_or,ajK,ah8,agP,ail];rfl
 ·unfold qC;dsimp only;rw[IN (by simp),ahe];rfl
end
def Uw(f:Rd→Nat):List Rd→Nat→Nat
 |[],s=>s
 |x::r,s=>Uw f r (s|||f x)
def BO(m pm:Nat):Nat:=(BitVec.ofInt 64 (m:Int)&&& ~~~BitVec.ofInt 64 (pm:Int)).toNat
theorem PW{m pm:Nat}(h:m<65536):BO m pm<65536:=by unfold BO;rw[aju,NF (by omega)];exact Nat.lt_of_le_of_lt Nat.and_le_left h
def Gc:Option Rd→Int
 |some x=>x.dep
 |none=>0
def ny(p:aF)(rs:List Rd):Bool:=decide ((rs.length:Int)≤p.cH)&&decide (Gc rs.getLast? -Gc rs.head?≤p.eS)&&decide ((pc (Uw Rd.gw rs 0):Int)≤p.gw)&&decide (BO (Uw Rd.bM rs 0) p.bM.toNat=0)
structure Ux(p:aF):Prop where
 cH:1≤p.cH∧p.cH≤8
 eS:0≤p.eS∧p.eS≤86400
 bM:1≤p.bM∧p.bM≤255
theorem ua{n:Int}(h0:0≤n)(h:n<18446744073709551616):IntKind.u64.wrap n=n:=by obtain⟨m,rfl⟩:∃m:Nat,n=m:=⟨n.toNat,by omega⟩;exact F9 (by omega)
theorem Uy{a b d:Int}(ha:0≤a∧a≤3155932800)(hb:0≤b∧b≤3155932800)(hd:0≤d∧d≤86400):iR [.int .i64 a,.int .i64 b,.int .i64 d]=some (.bool (decide (b-a>d))):=by
 simp only[iR,sb,aI,U,aZ,aY];by_cases h:b≥a
 ·rw[BY (by simpa using h),ua (n:=a) (by omega) (by omega),ua (n:=b) (by omega) (by omega),ua (n:=d) (by omega) (by omega),ua (n:=b-a) (by omega) (by omega),ahf (show¬d<0 by omega)];rfl
 ·rw[IN (by simpa using h),ahf (show¬d<0 by omega),ahf (show¬b-a>d by omega)];rfl
theorem NH{a b d:Int}(ha:0≤a∧a≤3155932800)(hb:0≤b∧b≤3155932800)(hd:0≤d∧d≤86400):eE [.int .i64 a,.int .i64 b,.int .i64 d]=some (.bool (decide (b-a≤d))):=by
 simp only[eE,pk,aI,U];by_cases h:b≤a
 ·rw[BY (by simpa using h),ahy (show b-a≤d by omega)]
 ·rw[IN (by simpa using h),ua (n:=a) (by omega) (by omega),ua (n:=b) (by omega) (by omega),ua (n:=d) (by omega) (by omega),ua (n:=b-a) (by omega) (by omega)]
theorem WS{z:Nat}(hz:z<65536):ml [.int .i64 (z:Int)]=some (.int .i64 (pc z:Int)):=by
 simp only[ml,yp,aI,U];refine(kL (fun k(s:Nat)=>((z:Int),(s:Int),(k:Int),())) (fun k s=>some (PV.int .i64 ((s+Rj (64-k) (z/2^k):Nat):Int))) (fun k s=>s≤k) 62 (fun k hk s rec hi fq=>?_) (fun s rec hi=>?_) (by unfold rounds;omega) 0 (by omega) rfl).trans (by simp[pc])
 ·unfold se;dsimp only;have QN:min ((k:Int).toNat) IntKind.i64.bits=k:=by rw[afm];exact ahH (by show k≤64;omega)
  have hdiv:(z:Int).fdiv (2^min ((k:Int).toNat) IntKind.i64.bits)=((z/2^k:Nat):Int):=by rw[QN,Int.ofNat_fdiv];simp
  have bS:z/2^k<65536:=Nat.lt_of_le_of_lt (Nat.div_le_self _ _) hz;have hand:IntKind.i64.wrap ((BitVec.ofInt IntKind.i64.bits ((z/2^k:Nat):Int)&&&BitVec.ofInt IntKind.i64.bits 1).toNat:Int)=((z/2^k%2:Nat):Int):=by show IntKind.i64.wrap (((BitVec.ofInt 64 ((z/2^k:Nat):Int)&&&BitVec.ofInt 64 ((1:Nat):Int)).toNat:Nat):Int)=_;rw[aju,NF (by omega),NF (by omega),Nat.and_one_is_mod];exact Bw (by omega)
  have LJ:Rj (64-k) (z/2^k)=z/2^k%2+Rj (64-(k+1)) (z/2^(k+1)):=by
   have e1:64-k=(64-(k+1))+1:=by omega
   rw[e1,Rj,Nat.pow_succ,Nat.div_div_eq_div_mul]
  rw[BY (by simp;omega),IN (by omega),hdiv,hand,LJ,ah (by omega),ah (by omega)];rcases ai6 (z/2^k)with h2|h2
  ·rw[h2,IN (by decide),fq s (by omega),ahp]
  ·rw[h2,BY (by decide),fq (s+1) (by omega),ahm]
 ·unfold se;dsimp only;have h0:z/2^62=0:=ajw (by omega);rw[IN (by simp),h0,Dw];rfl
theorem WT(x:Rd):Ab.asInt .i64 (cell x.pv 0)=some x.dep:=rfl
theorem abM(x:Rd):Ab.asInt .i64 (cell x.pv 1)=some x.arr:=rfl
theorem abN(x:Rd):Ab.asInt .i64 (cell x.pv 2)=some (x.gw:Int):=rfl
theorem abO(x:Rd):Ab.asInt .i64 (cell x.pv 3)=some (x.bM:Int):=rfl
theorem WU(x:aF):asAgg 6 x.pv=some ():=rfl
theorem abP(x:aF):PV.agg [cell x.pv 0,cell x.pv 1,cell x.pv 2,cell x.pv 3,cell x.pv 4,cell x.pv 5]=x.pv:=rfl
theorem PX(x:aF):Ab.cV (cell x.pv 0)=some x.id:=rfl
theorem PY(x:aF):Ab.asInt .i64 (cell x.pv 1)=some x.rz:=rfl
theorem PZ(x:aF):Ab.asInt .i64 (cell x.pv 2)=some x.cH:=rfl
theorem P0(x:aF):Ab.asInt .i64 (cell x.pv 3)=some x.gw:=rfl
theorem P1(x:aF):Ab.asInt .i64 (cell x.pv 4)=some x.eS:=rfl
theorem P2(x:aF):Ab.asInt .i64 (cell x.pv 5)=some x.bM:=rfl
theorem Jq{a b:Nat}(ha:a<65536)(hb:b<65536):eg [.int .u64 (a:Int),.int .u64 (b:Int)]=some (.int .u64 ((a|||b:Nat):Int)):=by simp only[eg,ng,aU,U,orU ha hb]
theorem NI{a b:Nat}(ha:a<65536):e8 [.int .u64 (a:Int),.int .u64 (b:Int)]=some (.bool (decide (BO a b=0))):=by simp only[e8,ma,aU,U];show some (PV.bool (IntKind.u64.wrap (((BO a b:Nat)):Int)==0))=_;have:=PW (pm:=b) ha;rw[F9 (by omega),fR];by_cases h:BO a b=0<;>simp[h]
theorem Z8{z:Nat}:FI [.int .u64 (z:Int)]=some (.int .i64 (pc z:Int)):=by simp only[FI,afm]
theorem Rx{p:aF}(hp:Ux p)(x:Rd)(xs:List Rd)(hn:xs.length≤7)(ho:∀y∈x::xs,AA y):fu [p.pv,.rs 4 ((x::xs).map Rd.pv)]=some (.bool (ny p (x::xs))):=by
 obtain⟨hr,hs,hm⟩:=hp;have DP:∃y,(x::xs).getLast? =some y∧y∈x::xs∧(x::xs)[xs.length]?=some y:=by refine⟨(x::xs).getLast (by simp),aiQ (by simp),List.getLast_mem _,?_⟩;rw[List.getLast_eq_getElem];exact AS (by simp)
 obtain⟨y,y1,y2,y3⟩:=DP;simp only[fu,qp,WU,PX,PY,PZ,P0,P1,P2,aS,U,T0,agU,aZ];have h0:((((xs.length+1:Nat):Int))==0)=false:=by simp;omega
 have hi0:aM ((x::xs).map Rd.pv) 0=some x.pv:=rfl;have hiL:aM ((x::xs).map Rd.pv) ((xs.length:Nat):Int)=some y.pv:=bg Rd.pv (by omega) (by simpa using y3);rw[h0,lN xs.length (by omega),hi0,hiL];simp only[ahA,U,WT,Uy (ho x (by simp)).d (ho y y2).d hs,aB];unfold ny;rw[y1,List.head?_cons];show _=some (PV.bool (decide (((xs.length+1:Nat):Int)≤p.cH)&&decide (y.dep-x.dep≤p.eS)&&decide ((pc (Uw Rd.gw (x::xs) 0):Int)≤p.gw)&&decide (BO (Uw Rd.bM (x::xs) 0) p.bM.toNat=0)));by_cases hc:((xs.length+1:Nat):Int)≤p.cH
 ·rw[ahf (show¬((xs.length+1:Nat):Int)>p.cH by omega),ahy hc];simp only[ahW,cond_false,U];by_cases hd:y.dep-x.dep≤p.eS
  ·rw[ahf (show¬y.dep-x.dep>p.eS by omega),ahy hd];rw[IN (by simp),ahW];refine kL (fun k(zm:Nat×Nat)=>((x::xs).map Rd.pv,((xs.length+1:Nat):Int),(k:Int),p.id,p.rz,p.cH,p.gw,p.eS,p.bM,(zm.1:Int),(zm.2:Int),())) (fun k zm=>some (PV.bool (decide ((pc (Uw Rd.gw ((x::xs).drop k) zm.1):Int)≤p.gw)&&decide (BO (Uw Rd.bM ((x::xs).drop k) zm.2) p.bM.toNat=0)))) (fun k zm=>zm.1<65536∧zm.2<65536) (x::xs).length (fun k hk zm rec hi fq=>?_) (fun zm rec hi=>?_) (by unfold rounds;simp;omega) (0,0) (by simp) rfl
   ·have hx:=ho _ (agQ hk);unfold mn;dsimp only;rw[BY (by simp at hk⊢;omega),cj Rd.pv _ k hk];simp only[U,abN,abO,F9 (show((x::xs)[k]).gw<18446744073709551616 by have:=hx.z;omega),F9 (show((x::xs)[k]).bM<18446744073709551616 by have:=hx.m;omega),Jq hi.1 hx.z,Jq hi.2 hx.m,aU,ah (show k<9223372036854775807 by simp at hk;omega)];rw[fq (_,_) ⟨vT hi.1 hx.z,vT hi.2 hx.m⟩,jj hk];rfl
   ·unfold mn;dsimp only;rw[IN (by simp),ahe,ua (n:=p.bM) (by omega) (by omega)];have Zx:p.bM=((p.bM.toNat:Nat):Int):=by omega
    rw[Zx];simp only[Z8,U,aI,NI hi.2,aB,aY,Uw,afm];rfl
  ·rw[ahy (show y.dep-x.dep>p.eS by omega),ahf hd];rfl
 ·rw[ahy (show((xs.length+1:Nat):Int)>p.cH by omega),ahf hc];rfl
def cut(rs:List Rd)(i k:Nat):List Rd:=(rs.take (k+1)).drop i
variable{rs:List Rd}{i k:Nat}
theorem P3(hk:k<rs.length):(cut rs i k).length=k+1-i:=by unfold cut;simp;omega
theorem Hr{j:Nat}(hj:i+j≤k):(cut rs i k)[j]?=rs[i+j]?:=by unfold cut;rw[aja,List.getElem?_take,BY (by omega)]
theorem P4{x:Rd}(h:x∈cut rs i k):x∈rs:=ahJ (ah3 h)
theorem NJ{p:aF}(hp:Ux p)(BP:i≤k)(hk:k<rs.length)(hn:rs.length≤8)(ho:∀y∈rs,AA y):jT [p.pv,.rs 4 (rs.map Rd.pv),.int .i64 (i:Int),.int .i64 (k:Int)]=some (.bool (ny p (cut rs i k))):=by
 obtain⟨hr,hs,hm⟩:=hp;have hlen:=P3 (i:=i) hk;have hx:∀j(h:j<(cut rs i k).length),rs[i+j]?=some (cut rs i k)[j]:=fun j h=>by rw[←Hr (k:=k) (by omega)];exact AS h
 have Z9:(cut rs i k).head? =some rs[i]:=by rw[ais,Hr (by omega),ahL];exact AS (by omega)
 have DP:(cut rs i k).getLast? =some rs[k]:=by rw[List.getLast?_eq_getElem?,hlen,Hr (by omega),show i+(k+1-i-1)=k by omega];exact AS hk
 simp only[jT,tK,WU,PX,PY,PZ,P0,P1,P2,aS,aI,U];refine(kL (fun j(zm:Nat×Nat)=>(rs.map Rd.pv,(i:Int),(k:Int),(zm.1:Int),(zm.2:Int),((i+j:Nat):Int),p.id,p.rz,p.cH,p.gw,p.eS,p.bM,())) (fun j zm=>some (PV.bool (decide (((cut rs i k).length:Int)≤p.cH)&&decide ((pc (Uw Rd.gw ((cut rs i k).drop j) zm.1):Int)≤p.gw)&&decide (Gc (some rs[k])-Gc (some rs[i])≤p.eS)&&decide (BO (Uw Rd.bM ((cut rs i k).drop j) zm.2) p.bM.toNat=0)))) (fun j zm=>zm.1<65536∧zm.2<65536) (cut rs i k).length (fun j hj zm rec hi fq=>?_) (fun zm rec hi=>?_) (by rw[hlen];unfold rounds;omega) (0,0) (by simp) rfl).trans ?_
 ·have hy:=ho _ (P4 (agQ hj));unfold oP;dsimp only;rw[BY (by simp;omega),bg Rd.pv (by omega) (show rs[((i+j:Nat):Int).toNat]?=some (cut rs i k)[j] by rw[afm];exact hx j hj)];simp only[U,abN,abO,Z6 hi.1 hy.z,Z6 hi.2 hy.m,ah (show i+j<9223372036854775807 by omega)];rw[show i+j+1=i+(j+1) by omega,fq (_,_) ⟨vT hi.1 hy.z,vT hi.2 hy.m⟩,jj hj];rfl
 ·unfold oP;dsimp only;rw[IN (by simp;omega),ahe];have ae2:IntKind.i64.wrap (IntKind.i64.wrap ((k:Int)-(i:Int))+1)=((cut rs i k).length:Int):=by rw[br (x:=(k:Int)-(i:Int)) (by omega) (by omega),br (by omega) (by omega),hlen];omega
  have hd1:=(ho _ (agQ (show i<rs.length by omega))).d;have hd2:=(ho _ (agQ hk)).d;have We:(IntKind.i64.wrap ((BitVec.ofInt IntKind.i64.bits (zm.2:Int)&&& ~~~BitVec.ofInt IntKind.i64.bits p.bM).toNat:Int)==0)=decide (BO zm.2 p.bM.toNat=0):=by
   have Zx:p.bM=((p.bM.toNat:Nat):Int):=by omega
   have:=PW (pm:=p.bM.toNat) hi.2;rw[Zx];show(IntKind.i64.wrap ((BO zm.2 p.bM.toNat:Nat):Int)==0)=_;rw[Bw (by omega),fR,afm];by_cases h:BO zm.2 p.bM.toNat=0<;>simp[h]
  rw[ae2];simp only[WS hi.1,U,aI,aY,cj Rd.pv rs i (by omega),cj Rd.pv rs k hk,WT,NH hd1 hd2 hs,aB,We];rfl
 ·unfold ny;rw[Z9,DP];simp only[ajN];congr 2;generalize decide (((cut rs i k).length:Int)≤p.cH)=a;generalize decide ((pc (Uw Rd.gw (cut rs i k) 0):Int)≤p.gw)=b;generalize decide (Gc (some rs[k])-Gc (some rs[i])≤p.eS)=c;cases a<;>cases b<;>cases c<;>rfl
theorem NK{p:aF}(hp:Ux p)(BP:i≤k)(hk:k<rs.length)(hn:rs.length≤8)(ho:∀y∈rs,AA y):fu [p.pv,.rs 4 ((cut rs i k).map Rd.pv)]=some (.bool (ny p (cut rs i k))):=by
 have hlen:=P3 (i:=i) hk;cases hc:cut rs i k with
 |nil=>rw[hc]at hlen;simp at hlen;omega
 |cons x xs=>rw[hc]at hlen;simp only[agU]at hlen;exact Rx hp x xs (by omega) (fun y hy=>ho y (P4 (by rw[hc];exact hy)))
theorem xr(l:List aF)(d w c:Int):asAgg 4 (dc l d w c)=some ():=rfl
theorem xt(l:List aF)(d w c:Int):aQ 6 (cell (dc l d w c) 0)=some (l.map aF.pv):=rfl
theorem xv(l:List aF)(d w c:Int):Ab.asInt .i64 (cell (dc l d w c) 1)=some d:=rfl
theorem xw(l:List aF)(d w c:Int):Ab.asInt .i64 (cell (dc l d w c) 2)=some w:=rfl
theorem xx(l:List aF)(d w c:Int):Ab.asInt .i64 (cell (dc l d w c) 3)=some c:=rfl
theorem DV(l:List aF)(d w c:Int):PV.agg [.rs 6 (l.map aF.pv),.int .i64 d,.int .i64 w,.int .i64 c]=dc l d w c:=rfl
theorem Jr(a b d:Int):∃r,kN [.int .i64 a,.int .i64 b,.int .i64 d]=some (.bool r):=by simp only[kN,vD,aI,U,aZ];exact⟨_,rfl⟩
theorem Js(a b d:Int):∃r,eE [.int .i64 a,.int .i64 b,.int .i64 d]=some (.bool r):=by
 simp only[eE,pk,aI,U];by_cases h:b≤a
 ·exact⟨true,BY (by simpa using h)⟩
 ·exact⟨_,IN (by simpa using h)⟩
theorem NL(l:List aF)(d w c:Int)(p:aF)(hi:i<rs.length)(hn:rs.length≤8):∃v,eh [dc l d w c,p.pv,.rs 4 (rs.map Rd.pv),.int .i64 (i:Int)]=some (.int .i64 v):=by
 simp only[eh,nc,xr,xt,xv,xw,xx,WU,PX,PY,PZ,P0,P1,P2,aS,aI,U];cases i with
 |zero=>exact⟨_,rfl⟩
 |succ i=>rw[ahy (show((i+1:Nat):Int)>0 by omega),lN i (by omega),cj Rd.pv rs i (by omega),cj Rd.pv rs (i+1) hi];simp only[cond_true,U,WT,abM];obtain⟨r,hr⟩:=Jr rs[i].arr rs[i+1].dep w;rw[hr];simp only[U,aB];cases r<;>exact⟨_,rfl⟩
theorem Jt(l:List aF)(d w c:Int)(p:aF)(hi:i<rs.length)(hn:rs.length≤8):∃v,e9 [dc l d w c,p.pv,.rs 4 (rs.map Rd.pv),.int .i64 (i:Int)]=some (.int .i64 v):=by
 simp only[e9,l9,xr,xt,xv,xw,xx,WU,PX,PY,PZ,P0,P1,P2,aS,aI,U];cases i with
 |zero=>exact⟨_,rfl⟩
 |succ i=>rw[ahy (show((i+1:Nat):Int)>0 by omega),lN i (by omega),cj Rd.pv rs i (by omega),cj Rd.pv rs (i+1) hi];simp only[cond_true,U,WT,abM];obtain⟨r,hr⟩:=Js rs[i].arr rs[i+1].dep w;rw[hr];simp only[U,aB];cases r<;>exact⟨_,rfl⟩
theorem wO{S R X Z:Type}{body:Z→S→(S→Option R)→Option R}(st:Nat→X→S)(fin:Z→X→Option R)(I:Nat→X→Prop)(n:Nat)(h:∀k,k<n→∀e,I k e→∃e',I (k+1) e'∧∀z rec,body z (st k e) rec=rec (st (k+1) e'))(mZ:∀z e rec,I n e→body z (st n e) rec=fin z e)(hn:n<rounds)(e:X)(he:I 0 e){s0:S}(h0:st 0 e=s0):∃e',I n e'∧∀z,bx.run (body z) s0=fin z e':=by
 have key:∀(m j N:Nat)(e:X),j+m=n→m<N→I j e→∃e',I n e'∧∀z,cY (body z) N (st j e)=fin z e':=by
  intro m;induction m with
  |zero=>
   intro j N e hj hN hi;cases N with
   |zero=>omega
   |succ N=>
    simp only[cY];have:j=n:=by omega
    subst this;exact⟨e,hi,fun z=>mZ z _ _ hi⟩
  |succ m ih=>
   intro j N e hj hN hi;cases N with
   |zero=>omega
   |succ N=>simp only[cY];obtain⟨e',mT,hb⟩:=h j (by omega) e hi;obtain⟨e2,h2,h3⟩:=ih (j+1) N e' (by omega) (by omega) mT;exact⟨e2,h2,fun z=>by rw[hb];exact h3 z⟩
 rw[←h0];simp only[lX];exact key n 0 rounds e (by omega) hn he
theorem Hs{X:Type}{A B C:X→Prop}(h:∀x,A x→B x)(he:∃x,A x∧C x):∃x,B x∧C x:=he.imp fun x hx=>⟨h x hx.1,hx.2⟩
inductive zq(P:List aF)(rs:List Rd):Nat→Prop
 |fin:zq P rs rs.length
 |step (i k:Nat):i≤k→k<rs.length→zq P rs (k+1)→P.any (fun p=>ny p (cut rs i k))=true→zq P rs i
theorem zq.inv{P:List aF}{rs:List Rd}{i:Nat}(h:zq P rs i)(hi:i<rs.length):∃k,i≤k∧k<rs.length∧zq P rs (k+1)∧P.any (fun p=>ny p (cut rs i k))=true:=by
 cases h with
 |fin=>omega
 |step _ k h1 h2 h3 h4=>exact⟨k,h1,h2,h3,h4⟩
structure Rs where
 ok:Bool
 sum:Int
 Uz:Int
 p:Int
 f:Int
 l:Int
 rz:Int
def Rs.pv(x:Rs):PV:=.agg [.bool x.ok,.int .i64 x.sum,.int .i64 x.Uz,.int .i64 x.p,.int .i64 x.f,.int .i64 x.l,.int .i64 x.rz]
theorem rsA(x:Rs):asAgg 7 x.pv=some ():=rfl
theorem rs0(x:Rs):Ab.asBool (cell x.pv 0)=some x.ok:=rfl
theorem rs1(x:Rs):Ab.asInt .i64 (cell x.pv 1)=some x.sum:=rfl
theorem rs2(x:Rs):Ab.asInt .i64 (cell x.pv 2)=some x.Uz:=rfl
theorem rs5(x:Rs):Ab.asInt .i64 (cell x.pv 5)=some x.l:=rfl
theorem Ez(x:Rs):PV.agg [cell x.pv 0,cell x.pv 1,cell x.pv 2,cell x.pv 3,cell x.pv 4,cell x.pv 5,cell x.pv 6]=x.pv:=rfl
theorem Ry(x:Rs)(s c:Int):∃r,ei [x.pv,.int .i64 s,.int .i64 c]=some (.bool r)∧(x.ok=false→r=true):=by refine⟨!x.ok||decide (s<x.sum)||(decide (s=x.sum)&&decide (c<x.Uz)),?_,fun h=>by rw[h];rfl⟩;have h3:Ab.asInt .i64 (cell x.pv 3)=some x.p:=rfl;have h4:Ab.asInt .i64 (cell x.pv 4)=some x.f:=rfl;have h6:Ab.asInt .i64 (cell x.pv 6)=some x.rz:=rfl;simp only[ei,ni,rsA,rs0,rs1,rs2,h3,h4,rs5,h6,aI,U,aZ,aY,fR]
def Nx(P:List aF)(rs:List Rd)(x:Rs)(j:Nat):Prop:=j<rs.length→∃k:Nat,x.l=(k:Int)∧j≤k∧k<rs.length∧zq P rs (k+1)
structure TB(P:List aF)(rs:List Rd)(i:Nat)(T:List Rs):Prop where
 len:T.length=9
 hi:∀j x,i<j→j≤rs.length→T[j]?=some x→(x.ok=true↔zq P rs j)∧(x.ok=true→Nx P rs x j)
 lo:∀j x,j<i→T[j]?=some x→x.ok=false
 nx:∀x,T[i]?=some x→x.ok=true→Nx P rs x i
section
variable {P:List aF} {rs:List Rd} {d w c:Int}
theorem Rz(hP:∀p∈P,Ux p)(NM:P.length≤16)(hn:rs.length≤8)(ho:∀y∈rs,AA y){i k:Nat}(BP:i≤k)(hk:k<rs.length)(T4:List PV)(T:List Rs)(hT:TB P rs i T)(Q:Prop)(hQ:∀x,T[i]?=some x→(x.ok=true↔Q)):∃T',(TB P rs i T'∧∀x,T'[i]?=some x→(x.ok=true↔Q∨(zq P rs (k+1)∧P.any (fun p=>ny p (cut rs i k))=true)))∧∀dZ:WV→Option PV,bx.run (gR bx dZ) ((rs.length:Int),(i:Int),(k:Int),((P.map aF.pv).length:Int),0,P.map aF.pv,d,w,c,T4,T.map Rs.pv,rs.map Rd.pv,())=dZ ((rs.length:Int),(i:Int),((k+1:Nat):Int),P.map aF.pv,d,w,c,T4,T'.map Rs.pv,rs.map Rd.pv,()):=by
 have ae3:List.drop i (List.take (k+1) (rs.map Rd.pv))=(cut rs i k).map Rd.pv:=by unfold cut;rw[ajp,ai0]
 have fin:∀T',(TB P rs i T'∧∀x,T'[i]?=some x→(x.ok=true↔Q∨(zq P rs (k+1)∧(P.take P.length).any (fun p=>ny p (cut rs i k))=true)))→TB P rs i T'∧∀x,T'[i]?=some x→(x.ok=true↔Q∨(zq P rs (k+1)∧P.any (fun p=>ny p (cut rs i k))=true)):=fun T' hI=>⟨hI.1,fun x hx=>by rw[hI.2 x hx,aht]⟩;refine Hs fin (wO (body:=fun dZ=>gR bx dZ) (fun p(T:List Rs)=>((rs.length:Int),(i:Int),(k:Int),((P.map aF.pv).length:Int),(p:Int),P.map aF.pv,d,w,c,T4,T.map Rs.pv,rs.map Rd.pv,())) (fun dZ T=>dZ ((rs.length:Int),(i:Int),((k+1:Nat):Int),P.map aF.pv,d,w,c,T4,T.map Rs.pv,rs.map Rd.pv,())) (fun p T=>TB P rs i T∧∀x,T[i]?=some x→(x.ok=true↔Q∨(zq P rs (k+1)∧(P.take p).any (fun p=>ny p (cut rs i k))=true))) P.length (fun p hp T hI=>?_) (fun dZ T rec hI=>?_) (by unfold rounds;omega) T ⟨hT,fun x hx=>by rw[hQ x hx];simp⟩ rfl)
 ·obtain⟨hT,hq⟩:=hI;have hl:=hT.len;obtain⟨y,hy⟩:∃y,T[k+1]?=some y:=⟨_,AS (by omega)⟩;obtain⟨x,hx⟩:∃x,T[i]?=some x:=⟨_,AS (by omega)⟩;obtain⟨hyo,_⟩:=hT.hi (k+1) y (by omega) (by omega) hy;have Ju:P.take (p+1)=P.take p++[P[p]]:=by rw[ag0 hp]
  have Q3:(T.map Rs.pv)[k+1]?=some y.pv:=by rw[IS,hy];rfl
  have VF:(T.map Rs.pv)[i]?=some x.pv:=by rw[IS,hx];rfl
  have ov:∀m:Nat,m<9→ab (m:Int) 9∧0<7:=fun m hm=>by unfold ab;omega
  have Er:IntKind.i64.wrap ((k:Int)+1)=((k+1:Nat):Int):=ah (by omega);have hw2:IntKind.i64.wrap ((p:Int)+1)=((p+1:Nat):Int):=ah (by omega);have stay:(¬(zq P rs (k+1)∧ny P[p] (cut rs i k)=true)∨x.ok=true)→TB P rs i T∧∀x,T[i]?=some x→(x.ok=true↔Q∨(zq P rs (k+1)∧(P.take (p+1)).any (fun p=>ny p (cut rs i k))=true)):=fun hs=>⟨hT,fun z hz=>by
   rw[hx]at hz;cases hz;rw[hq x hx,Ju,aik];simp only[ahG,aiN,ain,afk];rcases hs with hs|hs
   ·constructor
    ·rintro(h|⟨h1,h2⟩)
     ·exact .inl h
     ·exact .inr ⟨h1,.inl h2⟩
    ·rintro(h|⟨h1,h2|h2⟩)
     ·exact .inl h
     ·exact .inr ⟨h1,h2⟩
     ·exact absurd ⟨h1,h2⟩ hs
   ·have:=(hq x hx).1 hs;constructor
    ·rintro(h|⟨h1,h2⟩)
     ·exact .inl h
     ·exact .inr ⟨h1,.inl h2⟩
    ·intro _;exact this⟩
  have round:∀(dZ:WV→Option PV)rec,gR bx dZ ((rs.length:Int),(i:Int),(k:Int),((P.map aF.pv).length:Int),(p:Int),P.map aF.pv,d,w,c,T4,T.map Rs.pv,rs.map Rd.pv,()) rec=if y.ok=true then(if(!ny P[p] (cut rs i k))=true then rec ((rs.length:Int),(i:Int),(k:Int),((P.map aF.pv).length:Int),((p+1:Nat):Int),P.map aF.pv,d,w,c,T4,T.map Rs.pv,rs.map Rd.pv,())else(eh [dc P d w c,P[p].pv,.rs 4 (rs.map Rd.pv),.int .i64 (i:Int)]).bind fun WW=>(Ab.asInt .i64 WW).bind fun n20=>(ei [x.pv,.int .i64 (IntKind.i64.wrap (n20+y.sum)),.int .i64 (IntKind.i64.wrap (y.Uz+1))]).bind fun K2=>(Ab.asBool K2).bind fun UA=>if UA=true then rec ((rs.length:Int),(i:Int),(k:Int),((P.map aF.pv).length:Int),((p+1:Nat):Int),P.map aF.pv,d,w,c,T4,(T.set i ⟨true,IntKind.i64.wrap (n20+y.sum),IntKind.i64.wrap (y.Uz+1),p,i,k,n20⟩).map Rs.pv,rs.map Rd.pv,())else rec ((rs.length:Int),(i:Int),(k:Int),((P.map aF.pv).length:Int),((p+1:Nat):Int),P.map aF.pv,d,w,c,T4,T.map Rs.pv,rs.map Rd.pv,()))else rec ((rs.length:Int),(i:Int),(k:Int),((P.map aF.pv).length:Int),((p+1:Nat):Int),P.map aF.pv,d,w,c,T4,T.map Rs.pv,rs.map Rd.pv,()):=by
   intro dZ rec
   unfold gR
   dsimp only
   rw[BY (by simp;omega),Er,hw2,BY (ov (k+1) (by omega)),afm,ahL,Q3,cj aF.pv P p hp]
   simp only[U,rs0,abP,afm,ahL,ae3,NK (hP _ (agQ hp)) BP hk hn ho,aB,DV,Q3,VF,rs1,rs2,Ez]
   rw[BY (show 0≤(i:Int)∧(i:Int)≤((k+1:Nat):Int)∧((k+1:Nat):Int)≤((rs.map Rd.pv).length:Int)∧True∧4≠0 by refine⟨by omega,by omega,by simp;omega,trivial,by decide⟩)]
   simp only[BY (ov (k+1) (by omega)),BY (ov i (by omega)),ajb]
   rfl
  by_cases RA:y.ok=true
  ·by_cases NN:ny P[p] (cut rs i k)=true
   ·obtain⟨v,hv⟩:=NL P d w c P[p] (show i<rs.length by omega) hn;obtain⟨b,hb,tf⟩:=Ry x (IntKind.i64.wrap (v+y.sum)) (IntKind.i64.wrap (y.Uz+1));cases b with
    |true=>
     refine⟨T.set i ⟨true,IntKind.i64.wrap (v+y.sum),IntKind.i64.wrap (y.Uz+1),p,i,k,v⟩,⟨⟨by simp[hl],fun j z h1 h2 hz=>?_,fun j z h1 hz=>?_,fun z hz hzo=>?_⟩,fun z hz=>?_⟩,fun dZ rec=>?_⟩
     ·rw[ahI (by omega)]at hz;exact hT.hi j z h1 h2 hz
     ·rw[ahI (by omega)]at hz;exact hT.lo j z h1 hz
     ·rw[ahR (by omega)]at hz;cases hz;exact fun _=>⟨k,rfl,BP,hk,hyo.1 RA⟩
     ·rw[ahR (by omega)]at hz;cases hz;rw[Ju,aik];simp only[ahG,aiN,ain,afk,NN,or_true,ajZ,true_iff];exact .inr (hyo.1 RA)
     ·rw[round,BY RA,IN (by simp[NN]),hv];simp only[U,aI,hb,aB,T1]
    |false=>
     have hxo:x.ok=true:=by
      cases h:x.ok with
      |true=>rfl
      |false=>have:=tf h;cases this
     refine⟨T,stay (.inr hxo),fun dZ rec=>?_⟩;rw[round,BY RA,IN (by simp[NN]),hv];simp only[U,aI,hb,aB,AT,Xq]
   ·exact⟨T,stay (.inl fun h=>NN h.2),fun dZ rec=>by rw[round,BY RA,BY (by simpa using NN)]⟩
  ·exact⟨T,stay (.inl fun h=>RA (hyo.2 h.1)),fun dZ rec=>by rw[round,IN RA]⟩
 ·unfold gR;dsimp only;rw[IN (by simp),ah (by omega)]
end
structure AB(P:List aF)(rs:List Rd)(m:Nat)(T:List Rs):Prop where
 len:T.length=9
 hi:∀j x,m≤j→j≤rs.length→T[j]?=some x→(x.ok=true↔zq P rs j)∧(x.ok=true→Nx P rs x j)
 lo:∀j x,j<m→T[j]?=some x→x.ok=false
section
variable {P:List aF} {rs:List Rd} {d w c:Int}
theorem NO(hP:∀p∈P,Ux p)(NM:P.length≤16)(hn:rs.length≤8)(ho:∀y∈rs,AA y){i:Nat}(hi:i<rs.length)(T4:List PV)(T:List Rs)(hT:AB P rs (i+1) T):∃T',AB P rs i T'∧∀jD:aaa→Option PV,bx.run (jU bx jD) ((rs.length:Int),(i:Int),(i:Int),P.map aF.pv,d,w,c,T4,T.map Rs.pv,rs.map Rd.pv,())=jD ((rs.length:Int),IntKind.i64.wrap ((i:Int)-1),P.map aF.pv,d,w,c,T4,T'.map Rs.pv,rs.map Rd.pv,()):=by
 have hTB:TB P rs i T:=⟨hT.len,fun j x h1 h2 hx=>hT.hi j x (by omega) h2 hx,fun j x h1 hx=>hT.lo j x (by omega) hx,fun x hx ho=>by rw[hT.lo i x (by omega) hx]at ho;cases ho⟩;have fin:∀T',(TB P rs i T'∧∀x,T'[i]?=some x→(x.ok=true↔∃k,i≤k∧k<i+(rs.length-i)∧zq P rs (k+1)∧P.any (fun p=>ny p (cut rs i k))=true))→AB P rs i T':=fun T' hI=>by
  refine⟨hI.1.len,fun j x h1 h2 hx=>?_,hI.1.lo⟩;by_cases e:j=i
  ·subst e;refine⟨?_,hI.1.nx x hx⟩;rw[hI.2 x hx];constructor
   ·rintro⟨k,a1,a2,a3,a4⟩;exact .step _ k a1 (by omega) a3 a4
   ·intro h;obtain⟨k,a1,a2,a3,a4⟩:=h.inv hi;exact⟨k,a1,by omega,a3,a4⟩
  ·exact hI.1.hi j x (by omega) h2 hx
 refine Hs fin (wO (body:=fun jD=>jU bx jD) (fun t(T:List Rs)=>((rs.length:Int),(i:Int),((i+t:Nat):Int),P.map aF.pv,d,w,c,T4,T.map Rs.pv,rs.map Rd.pv,())) (fun jD T=>jD ((rs.length:Int),IntKind.i64.wrap ((i:Int)-1),P.map aF.pv,d,w,c,T4,T.map Rs.pv,rs.map Rd.pv,())) (fun t T=>TB P rs i T∧∀x,T[i]?=some x→(x.ok=true↔∃k,i≤k∧k<i+t∧zq P rs (k+1)∧P.any (fun p=>ny p (cut rs i k))=true)) (rs.length-i) (fun t ht T hI=>?_) (fun jD T rec hI=>?_) (by unfold rounds;omega) T ⟨hTB,fun x hx=>?_⟩ (by simp))
 ·obtain⟨T',⟨h1,h2⟩,h3⟩:=Rz (d:=d) (w:=w) (c:=c) hP NM hn ho (show i≤i+t by omega) (show i+t<rs.length by omega) T4 T hI.1 _ hI.2;refine⟨T',⟨h1,fun x hx=>?_⟩,fun jD rec=>?_⟩
  ·rw[h2 x hx];constructor
   ·rintro(⟨k,a1,a2,a3,a4⟩|⟨a3,a4⟩)
    ·exact⟨k,a1,by omega,a3,a4⟩
    ·exact⟨i+t,by omega,by omega,a3,a4⟩
   ·rintro⟨k,a1,a2,a3,a4⟩;by_cases e:k=i+t
    ·subst e;exact .inr ⟨a3,a4⟩
    ·exact .inl ⟨k,a1,by omega,a3,a4⟩
  ·unfold jU;dsimp only;rw[BY (by simp;omega)];exact h3 rec
 ·unfold jU;dsimp only;rw[IN (by simp;omega)]
 ·rw[hT.lo i x (by omega) hx];constructor
  ·intro h;cases h
  ·rintro⟨k,a1,a2,_⟩;omega
def Yv:Rs:=⟨false,0,0,0,0,0,0⟩
theorem ae4:ff 7 9 (PV.agg [.bool false,.int .i64 0,.int .i64 0,.int .i64 0,.int .i64 0,.int .i64 0,.int .i64 0,.bool false,.int .i64 0,.int .i64 0,.int .i64 0,.int .i64 0,.int .i64 0,.int .i64 0,.bool false,.int .i64 0,.int .i64 0,.int .i64 0,.int .i64 0,.int .i64 0,.int .i64 0,.bool false,.int .i64 0,.int .i64 0,.int .i64 0,.int .i64 0,.int .i64 0,.int .i64 0,.bool false,.int .i64 0,.int .i64 0,.int .i64 0,.int .i64 0,.int .i64 0,.int .i64 0,.bool false,.int .i64 0,.int .i64 0,.int .i64 0,.int .i64 0,.int .i64 0,.int .i64 0,.bool false,.int .i64 0,.int .i64 0,.int .i64 0,.int .i64 0,.int .i64 0,.int .i64 0,.bool false,.int .i64 0,.int .i64 0,.int .i64 0,.int .i64 0,.int .i64 0,.int .i64 0,.bool false,.int .i64 0,.int .i64 0,.int .i64 0,.int .i64 0,.int .i64 0,.int .i64 0])=(List.replicate 9 Yv).map Rs.pv:=rfl
theorem DW(T:List Rs):(ey 7 (T.map Rs.pv)).length=T.length*7:=by rw[Aa,T0]
theorem AD:∀(T:List Rs)(i j:Nat)(x:Rs),T[i]?=some x→j<7→(ey 7 (T.map Rs.pv))[i*7+j]?=some (cell x.pv j)
 |[],i,j,x,h,_=>by simp at h
 |y::T,0,j,x,h,hj=>by
  simp only[ahd,AI]at h;subst h;have e:ey 7 ((y::T).map Rs.pv)=aC 7 y.pv++ey 7 (T.map Rs.pv):=rfl;rw[e,ahZ (by rw[aW];omega),dK (show y.pv.cells.length=7 from rfl)];match j,hj with
  |0,_=>rfl
  |1,_=>rfl
  |2,_=>rfl
  |3,_=>rfl
  |4,_=>rfl
  |5,_=>rfl
  |6,_=>rfl
  |n+7,h=>omega
 |y::T,i+1,j,x,h,hj=>by have e:ey 7 ((y::T).map Rs.pv)=aC 7 y.pv++ey 7 (T.map Rs.pv):=rfl;rw[e,ahQ (by rw[aW];omega),aW,show(i+1)*7+j-7=i*7+j by omega];exact AD T i j x (by simpa using h) hj
theorem DX(T:List Rs)(n:Nat)(hn:T.length=n):ff 7 n (.agg (ey 7 (T.map Rs.pv)))=T.map Rs.pv:=by
 apply ag5;intro i;unfold ff;rw[IS,IS];by_cases hi:i<n
 ·obtain⟨x,hx⟩:∃x,T[i]?=some x:=⟨_,AS (by omega)⟩;rw[hx,ahS hi];simp only[adN,AI];have hc:∀j,j<7→cell (.agg (ey 7 (T.map Rs.pv))) (i*7+j)=cell x.pv j:=fun j hj=>by show(ey 7 (T.map Rs.pv)).getD (i*7+j) .bad=_;rw[aiw,AD T i j x hx hj];rfl
  show PV.agg [cell _ (i*7),cell _ (i*7+1),cell _ (i*7+2),cell _ (i*7+3),cell _ (i*7+4),cell _ (i*7+5),cell _ (i*7+6)]=_;have h0:=hc 0 (by omega);rw[ahL]at h0;rw[h0,hc 1 (by omega),hc 2 (by omega),hc 3 (by omega),hc 4 (by omega),hc 5 (by omega),hc 6 (by omega)];exact Ez x
 ·rw[afi (by simp;omega),afi (by omega)];rfl
theorem RB(hP:∀p∈P,Ux p)(NM:P.length≤16)(hn:rs.length≤8)(ho:∀y∈rs,AA y):∃T,AB P rs 0 T∧kO [dc P d w c,.rs 4 (rs.map Rd.pv)]=some (.agg (ey 7 (T.map Rs.pv))):=by
 have ov:ab (rs.length:Int) 9∧0<7:=by unfold ab;omega
 have hz:((List.replicate 9 Yv).map Rs.pv)[rs.length]?=some Yv.pv:=by rw[IS,ag9,BY (by omega)];rfl
 have h0:AB P rs rs.length ((List.replicate 9 Yv).set rs.length {Yv with ok:=true}):=by
  refine⟨by simp,fun j x h1 h2 hx=>?_,fun j x h1 hx=>?_⟩
  ·have:j=rs.length:=by omega
   subst this;rw[ahR (by simp;omega)]at hx;cases hx;exact⟨⟨fun _=>.fin,fun _=>rfl⟩,fun _ h=>by omega⟩
  ·rw[ahI (by omega),ag9]at hx;split at hx
   ·cases hx;rfl
   ·cases hx
 obtain⟨T',h1,h2⟩:=wO (R:=PV) (Z:=Unit) (body:=fun _=>mo bx) (fun m(T:List Rs)=>((rs.length:Int),(rs.length:Int)-1-(m:Int),P.map aF.pv,d,w,c,(List.replicate 9 Yv).map Rs.pv,T.map Rs.pv,rs.map Rd.pv,())) (fun _ T=>some (PV.agg (ey 7 (T.map Rs.pv)))) (fun m T=>AB P rs (rs.length-m) T) rs.length (fun m hm T hI=>by
   obtain⟨T',h1,h2⟩:=NO (d:=d) (w:=w) (c:=c) hP NM hn ho (show rs.length-(m+1)<rs.length by omega) ((List.replicate 9 Yv).map Rs.pv) T (by rw[show rs.length-(m+1)+1=rs.length-m by omega];exact hI);refine⟨T',h1,fun z rec=>?_⟩;unfold mo;dsimp only;have hi:(rs.length:Int)-1-(m:Int)=((rs.length-(m+1):Nat):Int):=by omega
   rw[BY (by simp;omega),hi,h2 rec,br (by omega) (by omega),show((rs.length-(m+1):Nat):Int)-1=(rs.length:Int)-1-((m+1:Nat):Int) by omega])
  (fun z T rec hI=>by
   have hl:=hI.len;unfold mo;dsimp only;have h63:(T.map Rs.pv).length*7=63:=by rw[T0,hl]
   have KW:asAgg 63 (PV.agg (ey 7 (T.map Rs.pv)))=some ():=by
    have:(ey 7 (T.map Rs.pv)).length=63:=by rw[DW,hl]
    simp only[asAgg];rw[BY this]
   rw[IN (by simp;omega),BY h63,KW];simp only[U];have hlr:((List.replicate 9 Yv).map Rs.pv).length=9:=by simp
   rw[hlr,BY (by decide),DX T 9 hl,BY h63])
  (by unfold rounds;omega) _ (by rw[aiC];exact h0) rfl
 refine⟨T',by rw[aiO]at h1;exact h1,?_⟩;simp only[kO,vq,xr,xt,xv,xw,xx,aS,U,T0];rw[BY ov,ae4,afm,ahL,hz];simp only[U,over];refine Eq.trans ?_ (h2 ());congr 1;rw[br (by omega) (by omega),ajb,show(rs.length:Int)-1-((0:Nat):Int)=(rs.length:Int)-1 by omega];rfl
end
theorem NP(l:List aF)(d w c s:Int):∃v,kP [dc l d w c,.int .i64 s]=some (.int .i64 v):=by
 simp only[kP,vp,xr,xt,xv,xw,xx,aI,U,aY];by_cases h:(decide (c>0)&&decide (s>c))=true
 ·exact⟨_,BY h⟩
 ·exact⟨_,IN h⟩
theorem Jv(l:List aF)(d w c s:Int):∃v,jV [dc l d w c,.int .i64 s]=some (.int .i64 v):=by
 simp only[jV,tL,xr,xt,xv,xw,xx,aI,U];by_cases h:decide (c>0)=true
 ·exact⟨_,BY h⟩
 ·exact⟨_,IN h⟩
section
variable {P:List aF} {rs:List Rd} {d w c:Int}
theorem Jw(Yw:P.length≤maxLen∧∀y∈P,y.Ok)(hf:(db P d w c).2=0)(hn:rs.length≤8):iB [dc P d w c,.rs 4 (rs.map Rd.pv)]=some (.int .i64 0):=by simp only[iB,tM,xr,xt,xv,xw,xx,aS,U,DV,yz P d w c Yw,T0,hf];simp only[res,cO,agU,ahg,T1,U,agL,agH,aI];rw[IN (by decide),IN (by simp;omega)]
theorem Ht(hn:rs.length≤8)(T:List Rs)(hT:AB P rs 0 T):∀(m i N:Nat)(out:List PV),rs.length-i≤m→i≤rs.length→zq P rs i→out.length≤i→m<N→∃v ts,cY (iX bx) N (rs.map Rd.pv,(i:Int),P.map aF.pv,d,w,c,T.map Rs.pv,out,())=some (.bn [.int .i64 v,.rs 4 ts,.int .i64 0]):=by
 have hl:=hT.len;have mZ:∀(out:List PV)rec,∃v ts,iX bx (rs.map Rd.pv,(rs.length:Int),P.map aF.pv,d,w,c,T.map Rs.pv,out,()) rec=some (.bn [.int .i64 v,.rs 4 ts,.int .i64 0]):=by
  intro out rec;obtain⟨x,hx⟩:∃x,T[0]?=some x:=⟨_,AS (by omega)⟩;have VF:(T.map Rs.pv)[(0:Int).toNat+0]?=some x.pv:=by show(T.map Rs.pv)[0]?=_;rw[IS,hx];rfl
  obtain⟨v,hv⟩:=NP P d w c x.sum;refine⟨v,out,?_⟩;unfold iX;dsimp only;rw[IN (by simp),VF];simp only[U,rs1,DV,hv,aI]
 intro m;induction m with
 |zero=>
  intro i N out h1 h2 h3 h4 hN;have:i=rs.length:=by omega
  subst this;cases N with
  |zero=>omega
  |succ N=>simp only[cY];exact mZ out _
 |succ m ih=>
  intro i N out h1 h2 h3 h4 hN;cases N with
  |zero=>omega
  |succ N=>
   simp only[cY];by_cases hi:i<rs.length
   ·obtain⟨x,hx⟩:∃x,T[i]?=some x:=⟨_,AS (by omega)⟩;obtain⟨ho,hnx⟩:=hT.hi i x (by omega) (by omega) hx;obtain⟨k,k1,k2,k3,k4⟩:=hnx (ho.2 h3) hi;have VF:(T.map Rs.pv)[(i:Int).toNat+0]?=some x.pv:=by rw[afm,ahL,IS,hx];rfl
    have ov:ab (i:Int) 9∧0<7:=by unfold ab;omega
    unfold iX;dsimp only;rw[BY (by simp;omega),BY ov,VF];simp only[U,rs5];rw[BY (by simp only[ag1,ahD];unfold aj;omega),BY ov,k1,ah (by omega)];exact ih (k+1) N _ (by omega) (by omega) k4 (by simp;omega) (by omega)
   ·have:i=rs.length:=by omega
    subst this;exact mZ out _
theorem UB(Yw:P.length≤maxLen∧∀y∈P,y.Ok)(hf:(db P d w c).2=0)(hP:∀p∈P,Ux p)(NM:P.length≤16)(hn:rs.length≤8)(ho:∀y∈rs,AA y):(zq P rs 0→∃v ts,fi [dc P d w c,.rs 4 (rs.map Rd.pv)]=some (.bn [.int .i64 v,.rs 4 ts,.int .i64 0]))∧(¬zq P rs 0→fi [dc P d w c,.rs 4 (rs.map Rd.pv)]=some (.bn [.int .i64 0,.rs 4 [],.int .i64 34])):=by
 obtain⟨T,hT,hdiv⟩:=RB (d:=d) (w:=w) (c:=c) hP NM hn ho;have hl:=hT.len;obtain⟨x,hx⟩:∃x,T[0]?=some x:=⟨_,AS (by omega)⟩;obtain⟨hxo,_⟩:=hT.hi 0 x (by omega) (by omega) hx;have XU:cell (PV.agg (ey 7 (T.map Rs.pv))) 0=.bool x.ok:=by have:=AD T 0 0 x hx (by omega);show(ey 7 (T.map Rs.pv)).getD 0 .bad=_;rw[aiw,show(0:Nat)=0*7+0 by rfl,this];rfl
 have KW:asAgg 63 (PV.agg (ey 7 (T.map Rs.pv)))=some ():=by
  have:(ey 7 (T.map Rs.pv)).length=63:=by rw[DW,hl]
  simp only[asAgg];rw[BY this]
 have UC:ff 7 9 (PV.agg (aC 63 (PV.agg (ey 7 (T.map Rs.pv)))))=T.map Rs.pv:=by rw[dK (show(PV.agg (ey 7 (T.map Rs.pv))).cells.length=63 by show(ey 7 (T.map Rs.pv)).length=63;rw[DW,hl])];exact DX T 9 hl
 have main:fi [dc P d w c,.rs 4 (rs.map Rd.pv)]=if(!x.ok)=true then some (.bn [.int .i64 0,.rs 4 [],.int .i64 34])else bx.run (iX bx) (rs.map Rd.pv,0,P.map aF.pv,d,w,c,T.map Rs.pv,[],()):=by
  have hb:Ab.asBool (cell (PV.agg (ey 7 (T.map Rs.pv))) 0)=some x.ok:=by rw[XU];rfl
  generalize PV.agg (ey 7 (T.map Rs.pv))=r at hdiv KW UC hb;have WX:ff 7 9 (PV.agg [cell r 0,cell r 1,cell r 2,cell r 3,cell r 4,cell r 5,cell r 6,cell r 7,cell r 8,cell r 9,cell r 10,cell r 11,cell r 12,cell r 13,cell r 14,cell r 15,cell r 16,cell r 17,cell r 18,cell r 19,cell r 20,cell r 21,cell r 22,cell r 23,cell r 24,cell r 25,cell r 26,cell r 27,cell r 28,cell r 29,cell r 30,cell r 31,cell r 32,cell r 33,cell r 34,cell r 35,cell r 36,cell r 37,cell r 38,cell r 39,cell r 40,cell r 41,cell r 42,cell r 43,cell r 44,cell r 45,cell r 46,cell r 47,cell r 48,cell r 49,cell r 50,cell r 51,cell r 52,cell r 53,cell r 54,cell r 55,cell r 56,cell r 57,cell r 58,cell r 59,cell r 60,cell r 61,cell r 62])=T.map Rs.pv:=UC;simp only[fi,tR,xr,xt,xv,xw,xx,aS,U,DV,Jw Yw hf hn,aI,hdiv,KW,hb,WX];rw[IN (by decide)]
 refine⟨fun h=>?_,fun h=>?_⟩
 ·rw[main,IN (by rw[hxo.2 h];decide),lX];exact Ht hn T hT rs.length 0 rounds [] (by omega) (by omega) h (by simp) (by unfold rounds;omega)
 ·have:x.ok=false:=by
   cases hb:x.ok with
   |false=>rfl
   |true=>exact absurd (hxo.1 hb) h
  rw[main,BY (by rw[this];rfl)]
end
structure Bs where
 ok:Bool
 sum:Int
 lp:PV
def Bs.pv(x:Bs):PV:=.agg [.bool x.ok,.int .i64 x.sum,x.lp]
theorem bs0(x:Bs):Ab.asBool (cell x.pv 0)=some x.ok:=rfl
theorem bs1(x:Bs):Ab.asInt .i64 (cell x.pv 1)=some x.sum:=rfl
theorem bs2(x:Bs):cell x.pv 2=x.lp:=rfl
def Few(rs:List Rd)(x:Bs)(j:Nat):Prop:=∃l,aQ 4 x.lp=some l∧l.length≤rs.length-j
structure BB(P:List aF)(rs:List Rd)(i:Nat)(A:List Bs):Prop where
 len:A.length=rs.length+1
 hi:∀j x,i<j→A[j]?=some x→(x.ok=true↔zq P rs j)
 lo:∀j x,j<i→A[j]?=some x→x.ok=false
 few:∀j x,A[j]?=some x→Few rs x j
structure DY(P:List aF)(rs:List Rd)(m:Nat)(A:List Bs):Prop where
 len:A.length=rs.length+1
 hi:∀j x,m≤j→A[j]?=some x→(x.ok=true↔zq P rs j)
 lo:∀j x,j<m→A[j]?=some x→x.ok=false
 few:∀j x,A[j]?=some x→Few rs x j
section
variable {P:List aF} {rs:List Rd} {d w c:Int}
theorem NQ(hP:∀p∈P,Ux p)(NM:P.length≤16)(hn:rs.length≤8)(ho:∀y∈rs,AA y){i k:Nat}(BP:i≤k)(hk:k<rs.length)(A:List Bs)(hA:BB P rs i A)(Q:Prop)(hQ:∀x,A[i]?=some x→(x.ok=true↔Q))(Bm:zq P rs (k+1)):∃A',(BB P rs i A'∧∀x,A'[i]?=some x→(x.ok=true↔Q∨P.any (fun p=>ny p (cut rs i k))=true))∧∀dZ:WY→Option PV,bx.run (fG bx dZ) (rs.map Rd.pv,(i:Int),(k:Int),0,P.map aF.pv,d,w,c,A.map Bs.pv,())=dZ (rs.map Rd.pv,(i:Int),((k+1:Nat):Int),P.map aF.pv,d,w,c,A'.map Bs.pv,()):=by
 have fin:∀A',(BB P rs i A'∧∀x,A'[i]?=some x→(x.ok=true↔Q∨(P.take P.length).any (fun p=>ny p (cut rs i k))=true))→BB P rs i A'∧∀x,A'[i]?=some x→(x.ok=true↔Q∨P.any (fun p=>ny p (cut rs i k))=true):=fun A' hI=>⟨hI.1,fun x hx=>by rw[hI.2 x hx,aht]⟩;refine Hs fin (wO (body:=fun dZ=>fG bx dZ) (fun p(A:List Bs)=>(rs.map Rd.pv,(i:Int),(k:Int),(p:Int),P.map aF.pv,d,w,c,A.map Bs.pv,())) (fun dZ A=>dZ (rs.map Rd.pv,(i:Int),((k+1:Nat):Int),P.map aF.pv,d,w,c,A.map Bs.pv,())) (fun p A=>BB P rs i A∧∀x,A[i]?=some x→(x.ok=true↔Q∨(P.take p).any (fun p=>ny p (cut rs i k))=true)) P.length (fun p hp A hI=>?_) (fun dZ A rec hI=>?_) (by unfold rounds;omega) A ⟨hA,fun x hx=>by rw[hQ x hx];simp⟩ rfl)
 ·obtain⟨hA,hq⟩:=hI;have hl:=hA.len;obtain⟨y,hy⟩:∃y,A[k+1]?=some y:=⟨_,AS (by omega)⟩;obtain⟨x,hx⟩:∃x,A[i]?=some x:=⟨_,AS (by omega)⟩;obtain⟨ly,ly1,ly2⟩:=hA.few (k+1) y hy;obtain⟨lx,lx1,lx2⟩:=hA.few i x hx;have Ju:P.take (p+1)=P.take p++[P[p]]:=by rw[ag0 hp]
  have Q3:(A.map Bs.pv)[k+1]?=some y.pv:=by rw[IS,hy];rfl
  have VF:(A.map Bs.pv)[i]?=some x.pv:=by rw[IS,hx];rfl
  have Ra:ab ((k+1:Nat):Int) (A.map Bs.pv).length:=by unfold ab;simp;omega
  have ae5:ab (i:Int) (A.map Bs.pv).length:=by unfold ab;simp;omega
  have Er:IntKind.i64.wrap ((k:Int)+1)=((k+1:Nat):Int):=ah (by omega);have hw2:IntKind.i64.wrap ((p:Int)+1)=((p+1:Nat):Int):=ah (by omega);have stay:(ny P[p] (cut rs i k)=false∨x.ok=true)→BB P rs i A∧∀x,A[i]?=some x→(x.ok=true↔Q∨(P.take (p+1)).any (fun p=>ny p (cut rs i k))=true):=fun hs=>⟨hA,fun z hz=>by
   rw[hx]at hz;cases hz;rw[hq x hx,Ju,aik];simp only[ahG,aiN,ain,afk];rcases hs with hs|hs
   ·rw[hs];simp
   ·have:=(hq x hx).1 hs;exact⟨fun _=>this.imp_right .inl,fun _=>this⟩⟩
  obtain⟨v,hv⟩:=Jt P d w c P[p] (show i<rs.length by omega) hn;obtain⟨X,round⟩:∃X:Bool,∀(dZ:WY→Option PV)rec,fG bx dZ (rs.map Rd.pv,(i:Int),(k:Int),(p:Int),P.map aF.pv,d,w,c,A.map Bs.pv,()) rec=if(!ny P[p] (cut rs i k))=true then rec (rs.map Rd.pv,(i:Int),(k:Int),((p+1:Nat):Int),P.map aF.pv,d,w,c,A.map Bs.pv,())else
    if(x.ok&&X)=true then rec (rs.map Rd.pv,(i:Int),(k:Int),((p+1:Nat):Int),P.map aF.pv,d,w,c,A.map Bs.pv,())else
    rec (rs.map Rd.pv,(i:Int),(k:Int),((p+1:Nat):Int),P.map aF.pv,d,w,c,(A.set i ⟨true,IntKind.i64.wrap (v+y.sum),.rs 4 (PV.agg [.int .i64 (p:Int),.int .i64 (i:Int),.int .i64 (k:Int),.int .i64 v]::ly)⟩).map Bs.pv,()):=by
   refine⟨decide (IntKind.i64.wrap (v+y.sum)>x.sum)||(IntKind.i64.wrap (v+y.sum)==x.sum&&decide (IntKind.i64.wrap (1+(ly.length:Int))≥(lx.length:Int))),fun dZ rec=>?_⟩;unfold fG;dsimp only;rw[BY (by simp;omega),cj aF.pv P p hp];simp only[U,abP,NJ (hP _ (agQ hp)) BP hk hn ho,aB,DV,hv,aI,Er,hw2,BY Ra,BY ae5,afm,Q3,VF,bs0,bs1,bs2,ly1,lx1,aY,aZ];rw[BY (show(([].append ly).length.add 0).succ*32≤aj∧0<32 by have:([].append ly:List PV)=ly:=rfl;rw[this];show(ly.length+0+1)*32≤aj∧0<32;unfold aj;omega)];rw[ajb];rfl
  cases NN:ny P[p] (cut rs i k)with
  |false=>exact⟨A,stay (.inl NN),fun dZ rec=>by rw[round,BY (by rw[NN];rfl)]⟩
  |true=>
   cases hxX:x.ok&&X with
   |true=>
    have hxo:x.ok=true:=by simp only[T2]at hxX;exact hxX.1
    exact⟨A,stay (.inr hxo),fun dZ rec=>by rw[round,IN (by rw[NN];decide),BY hxX]⟩
   |false=>
    refine⟨A.set i ⟨true,IntKind.i64.wrap (v+y.sum),.rs 4 (PV.agg [.int .i64 (p:Int),.int .i64 (i:Int),.int .i64 (k:Int),.int .i64 v]::ly)⟩,⟨⟨by simp[hl],fun j z h1 hz=>?_,fun j z h1 hz=>?_,fun j z hz=>?_⟩,fun z hz=>?_⟩,fun dZ rec=>by rw[round,IN (by rw[NN];decide),IN (by rw[hxX];decide)]⟩
    ·rw[ahI (by omega)]at hz;exact hA.hi j z h1 hz
    ·rw[ahI (by omega)]at hz;exact hA.lo j z h1 hz
    ·by_cases e:j=i
     ·subst e;rw[ahR (by omega)]at hz;cases hz;exact⟨_,aS _ _,by simp only[agU];omega⟩
     ·rw[ahI (by omega)]at hz;exact hA.few j z hz
    ·rw[ahR (by omega)]at hz;cases hz;rw[Ju,aik];simp[NN]
 ·unfold fG;dsimp only;rw[IN (by simp),ah (by omega)]
end
section
variable {P:List aF} {rs:List Rd} {d w c:Int}
theorem Jx(hP:∀p∈P,Ux p)(NM:P.length≤16)(hn:rs.length≤8)(ho:∀y∈rs,AA y){i:Nat}(hi:i<rs.length)(A:List Bs)(hA:DY P rs (i+1) A):∃A',DY P rs i A'∧∀jD:WZ→Option PV,bx.run (gS bx jD) (rs.map Rd.pv,(i:Int),(i:Int),P.map aF.pv,d,w,c,A.map Bs.pv,())=jD (rs.map Rd.pv,IntKind.i64.wrap ((i:Int)-1),P.map aF.pv,d,w,c,A'.map Bs.pv,()):=by
 have hBB:BB P rs i A:=⟨hA.len,fun j x h1 hx=>hA.hi j x (by omega) hx,fun j x h1 hx=>hA.lo j x (by omega) hx,hA.few⟩;have fin:∀A',(BB P rs i A'∧∀x,A'[i]?=some x→(x.ok=true↔∃k,i≤k∧k<i+(rs.length-i)∧zq P rs (k+1)∧P.any (fun p=>ny p (cut rs i k))=true))→DY P rs i A':=fun A' hI=>by
  refine⟨hI.1.len,fun j x h1 hx=>?_,hI.1.lo,hI.1.few⟩;by_cases e:j=i
  ·subst e;rw[hI.2 x hx];constructor
   ·rintro⟨k,a1,a2,a3,a4⟩;exact .step _ k a1 (by omega) a3 a4
   ·intro h;obtain⟨k,a1,a2,a3,a4⟩:=h.inv hi;exact⟨k,a1,by omega,a3,a4⟩
  ·exact hI.1.hi j x (by omega) hx
 refine Hs fin (wO (body:=fun jD=>gS bx jD) (fun t(A:List Bs)=>(rs.map Rd.pv,(i:Int),((i+t:Nat):Int),P.map aF.pv,d,w,c,A.map Bs.pv,())) (fun jD A=>jD (rs.map Rd.pv,IntKind.i64.wrap ((i:Int)-1),P.map aF.pv,d,w,c,A.map Bs.pv,())) (fun t A=>BB P rs i A∧∀x,A[i]?=some x→(x.ok=true↔∃k,i≤k∧k<i+t∧zq P rs (k+1)∧P.any (fun p=>ny p (cut rs i k))=true)) (rs.length-i) (fun t ht A hI=>?_) (fun jD A rec hI=>?_) (by unfold rounds;omega) A ⟨hBB,fun x hx=>?_⟩ (by simp))
 ·obtain⟨hA,hq⟩:=hI;have hl:=hA.len;obtain⟨y,hy⟩:∃y,A[i+t+1]?=some y:=⟨_,AS (by omega)⟩;have hyo:=hA.hi (i+t+1) y (by omega) hy;have Q3:(A.map Bs.pv)[i+t+1]?=some y.pv:=by rw[IS,hy];rfl
  have Ra:ab ((i+t+1:Nat):Int) (A.map Bs.pv).length:=by unfold ab;simp;omega
  have Er:IntKind.i64.wrap (((i+t:Nat):Int)+1)=((i+t+1:Nat):Int):=ah (by omega);have head:∀(jD:WZ→Option PV)rec,gS bx jD (rs.map Rd.pv,(i:Int),((i+t:Nat):Int),P.map aF.pv,d,w,c,A.map Bs.pv,()) rec=if(!y.ok)=true then rec (rs.map Rd.pv,(i:Int),((i+t+1:Nat):Int),P.map aF.pv,d,w,c,A.map Bs.pv,())else bx.run (fG bx rec) (rs.map Rd.pv,(i:Int),((i+t:Nat):Int),0,P.map aF.pv,d,w,c,A.map Bs.pv,()):=by intro jD rec;unfold gS;dsimp only;rw[BY (by simp;omega),Er,BY Ra,afm,Q3];simp only[U,bs0]
  by_cases RA:y.ok=true
  ·obtain⟨A',⟨h1,h2⟩,h3⟩:=NQ (d:=d) (w:=w) (c:=c) hP NM hn ho (show i≤i+t by omega) (show i+t<rs.length by omega) A hA _ hq (hyo.1 RA);refine⟨A',⟨h1,fun x hx=>?_⟩,fun jD rec=>?_⟩
   ·rw[h2 x hx];constructor
    ·rintro(⟨k,a1,a2,a3,a4⟩|a4)
     ·exact⟨k,a1,by omega,a3,a4⟩
     ·exact⟨i+t,by omega,by omega,hyo.1 RA,a4⟩
    ·rintro⟨k,a1,a2,a3,a4⟩;by_cases e:k=i+t
     ·subst e;exact .inr a4
     ·exact .inl ⟨k,a1,by omega,a3,a4⟩
   ·rw[head,IN (by simp[RA]),h3 rec];rfl
  ·refine⟨A,⟨hA,fun x hx=>?_⟩,fun jD rec=>by rw[head,BY (by simpa using RA)];rfl⟩;rw[hq x hx];constructor
   ·rintro⟨k,a1,a2,a3,a4⟩;exact⟨k,a1,by omega,a3,a4⟩
   ·rintro⟨k,a1,a2,a3,a4⟩;by_cases e:k=i+t
    ·subst e;exact absurd (hyo.2 a3) RA
    ·exact⟨k,a1,by omega,a3,a4⟩
 ·unfold gS;dsimp only;rw[IN (by simp;omega)]
 ·rw[hA.lo i x (by omega) hx];constructor
  ·intro h;cases h
  ·rintro⟨k,a1,a2,_⟩;omega
theorem RC(hP:∀p∈P,Ux p)(NM:P.length≤16)(hn:rs.length≤8)(ho:∀y∈rs,AA y):∃v ts b,(b=true↔zq P rs 0)∧kQ [dc P d w c,.rs 4 (rs.map Rd.pv)]=some (.bn [.int .i64 v,.rs 4 ts,.bool b]):=by
 have Er:IntKind.i64.wrap ((rs.length:Int)+1)=((rs.length+1:Nat):Int):=ah (by omega);have jI:List.replicate (rs.length+1) (PV.agg [.bool false,.int .i64 0,.rs 0 []])=(List.replicate (rs.length+1) (⟨false,0,.rs 0 []⟩:Bs)).map Bs.pv:=by rw[List.map_replicate];rfl
 have eH:((List.replicate (rs.length+1) (⟨false,0,.rs 0 []⟩:Bs)).map Bs.pv)[rs.length]?=some (Bs.pv ⟨false,0,.rs 0 []⟩):=by rw[IS,ag9,BY (by omega)];rfl
 have h0:DY P rs rs.length ((List.replicate (rs.length+1) (⟨false,0,.rs 0 []⟩:Bs)).set rs.length ⟨true,0,.rs 0 []⟩):=by
  refine⟨by simp,fun j x h1 hx=>?_,fun j x h1 hx=>?_,fun j x hx=>?_⟩
  ·have hj:j=rs.length:=by have:=(HO.1 hx).1;simp at this;omega
   subst hj;rw[ahR (by simp)]at hx;cases hx;exact⟨fun _=>.fin,fun _=>rfl⟩
  ·rw[ahI (by omega),ag9]at hx;split at hx
   ·cases hx;rfl
   ·cases hx
  ·refine⟨[],?_,by simp⟩;rw[ahb]at hx;split at hx
   ·split at hx
    ·cases hx;rfl
    ·cases hx
   ·rw[ag9]at hx;split at hx
    ·cases hx;rfl
    ·cases hx
 have Cz:∀m,m<rs.length→∀A,DY P rs (rs.length-m) A→∃A',DY P rs (rs.length-(m+1)) A'∧∀(z:Unit)rec,fH bx (rs.map Rd.pv,(rs.length:Int)-1-(m:Int),P.map aF.pv,d,w,c,A.map Bs.pv,()) rec=rec (rs.map Rd.pv,(rs.length:Int)-1-((m+1:Nat):Int),P.map aF.pv,d,w,c,A'.map Bs.pv,()):=fun m hm A hI=>by
  obtain⟨A',h1,h2⟩:=Jx (d:=d) (w:=w) (c:=c) hP NM hn ho (show rs.length-(m+1)<rs.length by omega) A (by rw[show rs.length-(m+1)+1=rs.length-m by omega];exact hI);refine⟨A',h1,fun z rec=>?_⟩;unfold fH;dsimp only;have hi:(rs.length:Int)-1-(m:Int)=((rs.length-(m+1):Nat):Int):=by omega
  rw[BY (by simp;omega),hi,h2 rec,br (by omega) (by omega),show((rs.length-(m+1):Nat):Int)-1=(rs.length:Int)-1-((m+1:Nat):Int) by omega]
 obtain⟨A',h1,h2⟩:=wO (R:=PV) (Z:=Unit) (body:=fun _=>fH bx) (fun m(A:List Bs)=>(rs.map Rd.pv,(rs.length:Int)-1-(m:Int),P.map aF.pv,d,w,c,A.map Bs.pv,())) (fun _ A=>fH bx (rs.map Rd.pv,(rs.length:Int)-1-(rs.length:Int),P.map aF.pv,d,w,c,A.map Bs.pv,()) (fun _=>none)) (fun m A=>DY P rs (rs.length-m) A) rs.length Cz (fun z A rec hI=>by
   have W0:¬decide ((rs.length:Int)-1-(rs.length:Int)≥0)=true:=by simp;omega
   unfold fH;dsimp only;rw[IN W0,IN W0])
  (by unfold rounds;omega) _ (by rw[aiC];exact h0) rfl
 rw[aiO]at h1;have hl:=h1.len;obtain⟨x,hx⟩:∃x,A'[0]?=some x:=⟨_,AS (by omega)⟩;obtain⟨lx,lx1,_⟩:=h1.few 0 x hx;have VF:(A'.map Bs.pv)[(0:Int).toNat]?=some x.pv:=by show(A'.map Bs.pv)[0]?=_;rw[IS,hx];rfl
 refine⟨x.sum,lx,x.ok,h1.hi 0 x (by omega) hx,?_⟩;simp only[kQ,vB,xr,xt,xv,xw,xx,aS,U,T0,Er,afm,jI];have ov:ab (rs.length:Int) (List.replicate (rs.length+1) (⟨false,0,.rs 0 []⟩:Bs)).length:=by unfold ab;simp;omega
 rw[BY (by first|rw[Er]|skip;refine⟨by omega,by omega,?_,by omega,by omega⟩;unfold aj;omega),BY ov,eH];simp only[U,over];have tz:((List.replicate (rs.length+1) (⟨false,0,.rs 0 []⟩:Bs)).map Bs.pv).set rs.length (PV.agg (PV.bool true::[cell (Bs.pv ⟨false,0,.rs 0 []⟩) 1,cell (Bs.pv ⟨false,0,.rs 0 []⟩) 2]))=((List.replicate (rs.length+1) (⟨false,0,.rs 0 []⟩:Bs)).set rs.length ⟨true,0,.rs 0 []⟩).map Bs.pv:=by rw[ajb];rfl
 rw[tz,br (by omega) (by omega)];have V9:=h2 ();rw[show(rs.length:Int)-1-((0:Nat):Int)=(rs.length:Int)-1 by omega]at V9;rw[V9];unfold fH;dsimp only;have abQ:ab 0 (A'.map Bs.pv).length:=by unfold ab;simp;omega
 rw[IN (by simp;omega),BY abQ,VF];simp only[U,bs0,bs1,bs2,BY abQ,VF,lx1]
end
end Go.Ab.Tt
