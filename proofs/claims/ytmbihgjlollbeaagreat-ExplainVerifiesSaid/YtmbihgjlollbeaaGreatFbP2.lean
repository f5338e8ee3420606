import Derived.Test.YtmbihgjlollbeaaGreatFbP1
namespace Go.Ab.Tt
set_option maxRecDepth 100000
set_option linter.all false
variable{a:Nat}
theorem ahw(h:a<18446744073709551616):(BitVec.ofInt 64 (a:Int)).toNat=a:=by simp_all
theorem OK(h:a<18446744073709551616):IntKind.u64.wrap (a:Int)=(a:Int):=by grind [IntKind.wrap,IntKind.signed,IntKind.bits]
theorem JJ(h:a<9223372036854775808):IntKind.i64.wrap (a:Int)=(a:Int):=aZ (by omega) (by omega)
theorem Dg{b:Nat}(ha:a<65536)(hb:b<65536):a|||b<65536:=Nat.or_lt_two_pow (n:=16) ha hb
theorem orI{b:Nat}(ha:a<65536)(hb:b<65536):IntKind.i64.wrap ((BitVec.ofInt IntKind.i64.bits (a:Int)|||BitVec.ofInt IntKind.i64.bits (b:Int)).toNat:Int)=((a|||b:Nat):Int):=by show IntKind.i64.wrap (((BitVec.ofInt 64 (a:Int)|||BitVec.ofInt 64 (b:Int)).toNat:Nat):Int)=_;grind [BitVec.toNat_or,ahw,JJ,Dg]
theorem orU{b:Nat}(ha:a<65536)(hb:b<65536):IntKind.u64.wrap ((BitVec.ofInt IntKind.u64.bits (a:Int)|||BitVec.ofInt IntKind.u64.bits (b:Int)).toNat:Int)=((a|||b:Nat):Int):=by show IntKind.u64.wrap (((BitVec.ofInt 64 (a:Int)|||BitVec.ofInt 64 (b:Int)).toNat:Nat):Int)=_;grind [BitVec.toNat_or,ahw,OK,Dg]
theorem qw{z:Nat}(h:z<16):2^z<65536:=(Nat.pow_lt_pow_right (a:=2) (by omega) h:2^z<2^16)
variable{z:Int}
theorem shI(h0:0≤z)(h:z<16):IntKind.i64.wrap (1*2^min z.toNat IntKind.i64.bits)=((2^z.toNat:Nat):Int):=by
 have h1:min z.toNat IntKind.i64.bits=z.toNat:=as1 (by show z.toNat≤64;omega);have h2:z.toNat<16:=by omega
 rw[h1,Int.one_mul];have:=qw h2;grind [JJ]
theorem shU(h0:0≤z)(h:z<16):IntKind.u64.wrap (1*2^min z.toNat IntKind.u64.bits)=((2^z.toNat:Nat):Int):=by
 have h1:min z.toNat IntKind.u64.bits=z.toNat:=as1 (by show z.toNat≤64;omega);have h2:z.toNat<16:=by omega
 rw[h1,Int.one_mul];have:=qw h2;grind [OK]
theorem aU(n:Int):Ab.asInt .u64 (.int .u64 n)=some n:=rfl
theorem Md(h0:0≤z)(h:z<16):qx [.int .i64 z]=some (.int .u64 ((2^z.toNat:Nat):Int)):=by simp only[qx,Gc,aI,U,az];rw[IS (by simp;omega),IS (by omega),shU h0 h]
theorem ahx{s:Nat}(hs:s<65536)(h0:0≤z)(h:z<16):lQ [.int .u64 (s:Int),.int .i64 z]=some (.int .u64 ((s|||2^z.toNat:Nat):Int)):=by simp only[lQ,uo,aU,aI,U,Md h0 h];rw[orU hs (qw (by omega))]
theorem Xc(h0:0≤z)(h:z<16):yI [.rs 1 [.int .i64 z]]=some (.int .u64 ((2^z.toNat:Nat):Int)):=by
 simp only[yI,IE,aS,U,asN];refine bg (fun k=>(((if k=0 then 0 else 2^z.toNat:Nat):Int),[PV.int .i64 z],1,(k:Int),())) 1 (fun k hk rec=>?_) (fun rec=>?_) (by decide) rfl
 ·have:k=0:=by omega
  subst this;unfold Hs;dsimp only;have hc:cell (PV.int .i64 z) 0=PV.int .i64 z:=rfl;have hi:dB [PV.int .i64 z] ((0:Nat):Int)=some (PV.int .i64 z):=rfl;rw[IN (by simp),hi];simp only[U,hc,aI,Md h0 h,aU,BY];rw[orU (by omega) (qw (by omega)),Nat.zero_or];rfl
 rfl
def P9(N:an)(c:aY):Nat:=match N.stops[c.stop.toNat]? with|some s=>s.ug.toNat|none=>0
def Me(N:an):List aY→Nat→Nat
 |[],s=>s
 |c::r,s=>Me N r (s|||2^P9 N c)
def uT(N:an)(x:bx):List aY:=match ub N x with|some r=>(r.calls.take (x.bC.toNat+1)).drop x.ca.toNat|none=>[]
def IF(N:an)(x:bx):Nat:=Me N (uT N x) 0
theorem adW{N:an}(cs:List aY)(h:∀c∈cs,P9 N c<16):∀s,s<65536→Me N cs s<65536:=by
 induction cs with
 |nil=>intro s hs;exact hs
 |cons c r ih=>intro s hs;exact ih (fun c hc=>h c (by simp[hc])) _ (Dg hs (qw (h c (by simp))))
theorem adX(x:Stop):Ab.asInt .i64 (cell x.pv 1)=some x.ug:=rfl
section
variable {N:an} {q:iI}
variable{r:cy}
theorem IG(h:vS N)(hr:r∈N.runs){c:aY}(hc:c∈r.calls):∃s,N.stops[c.stop.toNat]?=some s∧0≤c.stop∧0≤s.ug∧s.ug<16∧P9 N c=s.ug.toNat:=by obtain⟨s,h1,h2,h3⟩:=h.call r hr c hc;obtain⟨a,b,_⟩:=h.stop s h3;simp_all[P9]
variable{x:bx}{t:ax}{a b:aY}
theorem Dh(hx:uh N x r t a b):uT N x=(r.calls.take (x.bC.toNat+1)).drop x.ca.toNat:=by unfold uT ub;rw[IN hx.pC,hx.run]
theorem IH(hx:uh N x r t a b):∀c∈uT N x,c∈r.calls:=by grind [Dh,List.mem_of_mem_take,List.mem_of_mem_drop]
theorem II(h:vS N)(hx:uh N x r t a b):IF N x<65536:=adW _ (fun c hc=>by obtain⟨s,_,_,_,_,e⟩:=IG h hx.mem (IH hx c hc);omega) 0 (by omega)
theorem Sr(h:vS N)(hx:uh N x r t a b):oh [N.pv,x.pv]=some (.int .u64 (IF N x:Int)):=by
 have A2:=De h.res r hx.mem;have hlen:=(JK A2).2;have Oa:x.bC.toNat<r.calls.length:=(OF.1 hx.bC).1;have ha0:=hx.Hm;have hb0:=hx.Iz;have cd:=hx.lt;have hw:IntKind.i64.wrap (x.bC+1)=x.bC+1:=aZ (by omega) (by omega);simp only[oh,zK,ku,kv,kx,ky,kz,kA,kB,kC,kD,kE,mw,jL,lj,lh,ml,lf,mj,ko,kq,iX,U,aV cy.pv hx.pC hx.run,C4,aS,hw,AI];rw[IN (by grind)];have N2:List.drop x.ca.toNat (List.take (x.bC+1).toNat (r.calls.map aY.pv))=(uT N x).map aY.pv:=by grind [Dh,List.map_drop,List.map_take]
 rw[N2,AI];have aqA:(uT N x).length≤32:=by rw[Dh hx];simp;omega
 refine nT (fun k(s:Nat)=>((s:Int),(uT N x).map aY.pv,((uT N x).length:Int),(k:Int),N.stops.map Stop.pv,N.aj.map ax.pv,N.runs.map cy.pv,N.aH.map bq.pv,N.paths.map Path.pv,N.aK.map aM.pv,N.bp,N.within,N.cap,())) (fun k s=>some (PV.int .u64 (Me N ((uT N x).drop k) s:Int))) (fun k s=>s<65536) (uT N x).length (fun k hk s rec hi iW=>?_) (fun s rec hi=>?_) (by unfold rounds;omega) 0 (by omega) rfl
 ·obtain⟨st,s1,s2,s3,s4,s5⟩:=IG h hx.mem (IH hx _ (aqW hk));unfold sg;dsimp only;rw[IN (by simp;omega),bn aY.pv _ k hk];simp only[U,LX,aV Stop.pv s2 s1,adX,ahx hi s3 s4,aU,ab (show k<9223372036854775807 by omega)];grind [Dg,qw,mX,Me]
 ·unfold sg;dsimp only;rw[IS (by simp),as9];rfl
theorem OL(h:vS N)(hx:uh N x r t a b):nU [N.pv,x.pv]=some (.int .i64 (IF N x:Int)):=by
 have A2:=De h.res r hx.mem;have hlen:=(JK A2).2;have Oa:x.bC.toNat<r.calls.length:=(OF.1 hx.bC).1;have ha0:=hx.Hm;have hb0:=hx.Iz;have cd:=hx.lt;simp only[nU,Di,ku,kv,kx,ky,kz,kA,kB,kC,kD,kE,mw,jL,lj,lh,ml,lf,mj,ko,kq,iX,U,aV cy.pv hx.pC hx.run,C4,aS];have aqA:(uT N x).length=x.bC.toNat+1-x.ca.toNat:=by rw[Dh hx];simp;omega
 refine nT (fun k(s:Nat)=>((s:Int),r.calls.map aY.pv,x.ca+(k:Int),N.stops.map Stop.pv,N.aj.map ax.pv,N.runs.map cy.pv,N.aH.map bq.pv,N.paths.map Path.pv,N.aK.map aM.pv,N.bp,N.within,N.cap,x.cu,x.run,x.ca,x.bC,x.src,x.dst,x.dep,x.arr,x.stay,())) (fun k s=>some (PV.int .i64 (Me N ((uT N x).drop k) s:Int))) (fun k s=>s<65536) (uT N x).length (fun k hk s rec hi iW=>?_) (fun s rec hi=>?_) (by unfold rounds;omega) 0 (by omega) (by simp)
 ·obtain⟨st,s1,s2,s3,s4,s5⟩:=IG h hx.mem (IH hx _ (aqW hk));have eR:r.calls[(x.ca+(k:Int)).toNat]?=some (uT N x)[k]:=by
   have e1:(uT N x)[k]?=some (uT N x)[k]:=cN hk;rw[←e1];conv=>rhs;rw[Dh hx]
   rw[List.getElem?_drop,List.getElem?_take,IN (by omega)];congr 1;omega
  unfold wS;dsimp only;rw[IN (by simp;omega),aV aY.pv (by omega) eR];simp only[U,LX,aV Stop.pv s2 s1,adX,shI s3 s4];rw[IS (by omega),orI hi (qw (by omega)),aZ (by omega) (by omega),show x.ca+(k:Int)+1=x.ca+((k+1:Nat):Int) by omega,iW _ (Dg hi (qw (by omega))),mX hk];simp only[Me,s5]
 ·unfold wS;dsimp only;rw[IS (by simp;omega),as9];rfl
end
structure Rd where
 dep:Int
 arr:Int
 j4:Nat
 bQ:Nat
def Rd.pv(x:Rd):PV:=.agg [.int .i64 x.dep,.int .i64 x.arr,.int .i64 (x.j4:Int),.int .i64 (x.bQ:Int)]
def Mf(N:an)(x:bx):Nat:=match ub N x with
 |some r=>(match N.aj[r.dG.toNat]? with|some t=>2^t.mode.toNat|none=>0)
 |none=>0
def rdStep(N:an)(out:List Rd)(x:bx):List Rd:=
 if x.cu=true then(if x.stay=true then(match out.getLast? with
  |some y=>out.dropLast++[⟨y.dep,x.arr,y.j4|||IF N x,y.bQ|||Mf N x⟩]
  |none=>out)
  else out++[⟨x.dep,x.arr,IF N x,Mf N x⟩])
 else out
def dU(N:an):List bx→List Rd→List Rd
 |[],out=>out
 |x::r,out=>dU N r (rdStep N out x)
structure AJ(N:an)(l:List bx):Prop where
 WU:∀k(h:k<l.length),QW N l[k]=false
 mom:∀k(h:k<l.length),Nv l[k]=false
 stay:∀k(h:k<l.length),l[k].stay=true→∃j,∃h:j<l.length,k=j+1∧l[j].cu=true
def OM(l:List bx):Nat→Bool
 |0=>false
 |k+1=>match l[k]? with|some x=>x.cu|none=>false
theorem si{l:List bx}{k:Nat}(h:k<l.length):OM l (k+1)=l[k].cu:=by show(match l[k]? with|some x=>x.cu|none=>false)=_;simp_all
structure IJ(x:Rd):Prop where
 z:x.j4<65536
 m:x.bQ<65536
 d:0≤x.dep∧x.dep≤3155932800
theorem ahy{x:bx}(h:Nv x=false):0≤x.dep∧x.dep≤3155932800:=by simp_all[Nv,F0,asK,as6,amm,cT]
structure Ss(l:List bx)(k:Nat)(out:List Rd):Prop where
 len:out.length≤k
 ok:∀y∈out,IJ y
 ne:OM l k=true→out≠[]
section
variable {N:an} {q:iI} {l:List bx} {k:Nat}
theorem Mg(h:vS N){x:bx}{r:cy}{t:ax}{a b:aY}(hx:uh N x r t a b):Mf N x=2^t.mode.toNat∧0≤t.mode∧t.mode<16∧Mf N x<65536:=by
 have ht:=h.dG t hx.tm;have e:Mf N x=2^t.mode.toNat:=by unfold Mf ub;rw[IN hx.pC,hx.run];simp only[hx.dG]
 grind [qw]
theorem Gd(h:vS N)(hg:AJ N l)(hk:k<l.length){out:List Rd}(hi:Ss l k out):Ss l (k+1) (rdStep N out l[k]):=by
 obtain⟨_,_,hx,uQ⟩:=lB (hg.WU k hk);have aiI:OM l (k+1)=l[k].cu:=si hk;unfold rdStep;cases hr:l[k].cu with
 |false=>exact⟨by simpa using auW hi.len,hi.ok,fun hh=>by simp_all⟩
 |true=>
  obtain⟨r,t,a,b,k8⟩:=wM h (hx hr);have hz:=II h k8;have hm:=(Mg h k8).2.2.2;rw[IN rfl];cases hs:l[k].stay with
  |true=>
   obtain⟨j,hj,rfl,hjr⟩:=hg.stay k hk hs;have cV:out≠[]:=hi.ne (by rw[si hj];omega);rw[IN rfl,auq cV];simp only;have hy:=hi.ok _ (List.getLast_mem cV);have hl:=hi.len;have eS:0<out.length:=List.length_pos_iff.2 cV;refine⟨by simp;omega,fun y Vg=>?_,fun _=>by simp⟩;rcases asF.1 Vg with Vg|Vg
   ·exact hi.ok _ ((List.dropLast_sublist _).subset Vg)
   ·simp only[List.mem_singleton]at Vg;subst Vg;exact⟨Dg hy.z hz,Dg hy.m hm,hy.d⟩
  |false=>
   rw[IS (by simp)];refine⟨by simpa using hi.len,fun y Vg=>?_,fun _=>by simp⟩;rcases asF.1 Vg with Vg|Vg
   ·exact hi.ok _ Vg
   ·simp only[List.mem_singleton]at Vg;subst Vg;exact⟨hz,hm,ahy (hg.mom k hk)⟩
theorem Vh(x:bx):mZ [N.pv,x.pv]=some (.bool (exB N x)):=by
 simp only[mZ,wT,ku,kv,kx,ky,kz,kA,kB,kC,kD,kE,mw,jL,lj,lh,ml,lf,mj,ko,kq,iX,U,AI,aJ];unfold exB ub;by_cases h0:0≤x.run
 ·by_cases h1:x.run.toNat<N.runs.length
  ·rw[IN h0,cN h1,aV cy.pv h0 (cN h1),atA h0,atA (show x.run<(N.runs.length:Int) by omega)];simp only[U,C4,aS,AI,as0];grind
  grind
 grind
theorem St(init:List PV)(y v:PV):(init++[y]).set init.length v=init++[v]:=by simp
theorem Ht(init:List PV)(y:PV):(init++[y])[init.length]?=some y:=by simp
theorem rd0(x:Rd):cell x.pv 0=.int .i64 x.dep:=rfl
theorem rd1(x:Rd):cell x.pv 1=.int .i64 x.arr:=rfl
theorem rd2(x:Rd):cell x.pv 2=.int .i64 (x.j4:Int):=rfl
theorem rd3(x:Rd):cell x.pv 3=.int .i64 (x.bQ:Int):=rfl
theorem aiJ(l:List PV)(j:Nat):cell (.agg l) j=l.getD j .bad:=rfl
theorem adY(h:vS N)(hg:AJ N l)(hl:l.length≤1000000):ig [N.pv,Kr l]=some (.aG [.rs 4 ((dU N l []).map Rd.pv),.int .i64 0]):=by
 simp only[ig,sR,ku,kv,kx,ky,kz,kA,kB,kC,kD,kE,jA,j0,U,oN,F6 N h.ok h.paths,AI];simp only[iU,cn,amo,asi,BY,U,O6,T1,aI,h.res];rw[IS (by simp)];refine nT (fun j(out:List Rd)=>(OM l j,l.map bx.pv,(l.length:Int),(j:Int),N.stops.map Stop.pv,N.aj.map ax.pv,N.runs.map cy.pv,N.aH.map bq.pv,N.paths.map Path.pv,N.aK.map aM.pv,N.bp,N.within,N.cap,out.map Rd.pv,())) (fun j out=>some (PV.aG [.rs 4 ((dU N (l.drop j) out).map Rd.pv),.int .i64 0])) (Ss l) l.length (fun j hj out rec hi iW=>?_) (fun out rec hi=>?_) (by unfold rounds;omega) [] ⟨by simp,by simp,fun hh=>by cases hh⟩ rfl
 ·obtain⟨_,_,hx,uQ⟩:=lB (hg.WU j hj);have JL:=iW _ (Gd h hg hj hi);have aiI:OM l (j+1)=l[j].cu:=si hj;rw[mX hj];show _=some (PV.aG [.rs 4 ((dU N (l.drop (j+1)) (rdStep N out l[j])).map Rd.pv),.int .i64 0]);rw[←JL,aiI];unfold sj;dsimp only;rw[IN (by simp;omega),bn bx.pv l j hj];simp only[U,mw,jL,lj,lh,ml,lf,mj,ko,kq,iX,aaM,oN,Vh,aB,aJ,az,ab (show j<9223372036854775807 by omega)];cases hr:l[j].cu with
  |false=>simp_all[IS,rdStep]
  |true=>
   obtain⟨r,t,a,b,k8⟩:=wM h (hx hr);have hz:=II h k8;obtain⟨m1,m2,m3,m4⟩:=Mg h k8;rw[IS (by simp[hx hr])];cases hs:l[j].stay with
   |false=>rw[IS (by simp),IN rfl];simp only[Sr h k8,U,aU,aV cy.pv k8.pC k8.run,J4,aI,aV ax.pv k8.IC k8.dG,EG,Xc m2 m3,asw,BY];rw[IN (by simp only[asn,AI,asN];have:=hi.len;unfold ah;omega),JJ (by omega),←m1,JJ (by omega)];unfold rdStep;rw[hr,hs,IN rfl,IS (by simp),asT];rfl
   |true=>
    obtain⟨i,Uc,rfl,hir⟩:=hg.stay j hj hs;have cV:out≠[]:=hi.ne (by rw[si Uc];omega);obtain⟨init,y,rfl⟩:∃init y,out=init++[y]:=⟨out.dropLast,out.getLast cV,(auy cV).symm⟩;have hy:=hi.ok y (by simp);have ajK:OM l (i+1)=true:=by rw[si Uc];omega
    have JZ:=hi.len;simp only[asn,asN]at JZ;rw[ajK,IS (by simp),IN rfl];simp only[Sr h k8,U,aU,aV cy.pv k8.pC k8.run,J4,aI,aV ax.pv k8.IC k8.dG,EG,Xc m2 m3,ahX,cQ,IT];have hlen:(((init++[y]).map Rd.pv).length:Int)-1=((init.map Rd.pv).length:Int):=by simp
    have hmp:(init++[y]).map Rd.pv=init.map Rd.pv++[y.pv]:=by simp
    rw[hlen,aZ (by omega) (by grind),are,hmp];rw[IN (by unfold al;simp;omega),Ht];simp only[U,St,Ht,rd0,rd1,rd2,rd3,aiJ,O6,T1,over,aI];rw[JJ (show IF N l[i+1]<9223372036854775808 by omega),←m1,JJ (show Mf N l[i+1]<9223372036854775808 by omega),orI hy.z hz,orI hy.m m4];unfold rdStep;rw[hr,hs,IN rfl,IN rfl,avl,au1];simp only[Option.some_or,avk,asT,ass,aub];rfl
 ·unfold sj;dsimp only;rw[IS (by simp),as9];rfl
end
section
variable {N:an} {q:iI} {l:List bx} {k:Nat}
theorem aaS(h:vS N)(hg:AJ N l)(hl:l.length≤1000000):sT [N.pv,Kr l]=some (.aG [.rs 4 ((dU N l []).map Rd.pv),.int .i64 0]):=by
 simp only[sT,Dj,ku,kv,kx,ky,kz,kA,kB,kC,kD,kE,jA,j0,U,oN,R9 N h.ok h.paths,aB,h.res,asv,ahX,cQ,IT];refine nT (fun j(out:List Rd)=>((j:Int),N.stops.map Stop.pv,N.aj.map ax.pv,N.runs.map cy.pv,N.aH.map bq.pv,N.paths.map Path.pv,N.aK.map aM.pv,N.bp,N.within,N.cap,l.map bx.pv,out.map Rd.pv,())) (fun j out=>some (PV.aG [.rs 4 ((dU N (l.drop j) out).map Rd.pv),.int .i64 0])) (Ss l) l.length (fun j hj out rec hi iW=>?_) (fun out rec hi=>?_) (by unfold rounds;omega) [] ⟨by simp,by simp,fun hh=>by cases hh⟩ rfl
 ·obtain⟨_,_,hx,uQ⟩:=lB (hg.WU j hj);have JL:=iW _ (Gd h hg hj hi);rw[mX hj];show _=some (PV.aG [.rs 4 ((dU N (l.drop (j+1)) (rdStep N out l[j])).map Rd.pv),.int .i64 0]);rw[←JL];unfold wU;dsimp only;rw[IN (by simp;omega),bn bx.pv l j hj];simp only[U,mw,jL,lj,lh,ml,lf,mj,ko,kq,iX,aaM,oN,L8,aB,aJ,az,ab (show j<9223372036854775807 by omega)];cases hr:l[j].cu with
  |false=>have hs:=uQ hr;rw[hs,IS (by simp)];simp only[cond_false,U,cQ,IT,asw,BY];simp_all[rdStep,IS]
  |true=>
   obtain⟨r,t,a,b,k8⟩:=wM h (hx hr);have hz:=II h k8;obtain⟨m1,m2,m3,m4⟩:=Mg h k8;rw[IS (by simp[hx hr])];cases hs:l[j].stay with
   |false=>simp only[cond_false,U,cQ,IT,ahX,OL h k8,aI,aV cy.pv k8.pC k8.run,J4,aV ax.pv k8.IC k8.dG,EG,shI m2 m3];rw[IS (by omega),IN (by simp only[asn,AI,asN];have:=hi.len;unfold ah;omega),←m1];unfold rdStep;rw[hr,hs,IN rfl,IS (by simp),asT];rfl
   |true=>
    obtain⟨i,Uc,rfl,hir⟩:=hg.stay j hj hs;have cV:out≠[]:=hi.ne (by rw[si Uc];omega);obtain⟨init,y,rfl⟩:∃init y,out=init++[y]:=⟨out.dropLast,out.getLast cV,(auy cV).symm⟩;have hy:=hi.ok y (by simp);have JZ:=hi.len;simp only[asn,asN]at JZ;have h0:(((i+1:Nat):Int)==0)=false:=by rfl
    rw[h0,ic i (by omega),bn bx.pv l i Uc];simp only[U,jL,hir,cond_true,cond_false,ahX,atb,ata,cQ,IT,BY,OL h k8,aI,aV cy.pv k8.pC k8.run,J4,aV ax.pv k8.IC k8.dG,EG,shI m2 m3];have hlen:(((init++[y]).map Rd.pv).length:Int)-1=((init.map Rd.pv).length:Int):=by simp
    have hmp:(init++[y]).map Rd.pv=init.map Rd.pv++[y.pv]:=by simp
    rw[IS (by omega),hlen,aZ (by omega) (by grind),are,hmp];have kY:∀v:PV,al ((init.map Rd.pv).length:Int) (init.map Rd.pv++[v]).length:=fun v=>by unfold al;simp;omega
    rw[IN (kY _),Ht];simp only[U,St,Ht,rd0,rd1,rd2,rd3,aiJ,O6,T1,over,aI,kY,BY];rw[←m1,orI hy.z hz,orI hy.m m4];unfold rdStep;rw[hr,hs,IN rfl,IN rfl,avl,au1];simp only[Option.some_or,avk,asT,ass,aub];rfl
 ·unfold wU;dsimp only;rw[IS (by simp),as9];rfl
end
def orS(f:Rd→Nat):List Rd→Nat→Nat
 |[],s=>s
 |x::r,s=>orS f r (s|||f x)
def Ny(m pm:Nat):Nat:=(BitVec.ofInt 64 (m:Int)&&& ~~~BitVec.ofInt 64 (pm:Int)).toNat
theorem Xd{m pm:Nat}(h:m<65536):Ny m pm<65536:=by grind [Ny,BitVec.toNat_and,ahw,Nat.lt_of_le_of_lt,Nat.and_le_left]
def Xe:Option Rd→Int
 |some x=>x.dep
 |none=>0
def Su(p:aM)(rs:List Rd):Bool:=decide ((rs.length:Int)≤p.b8)&&decide (Xe rs.getLast? -Xe rs.head?≤p.fq)&&decide ((pc (orS Rd.j4 rs 0):Int)≤p.j4)&&decide (Ny (orS Rd.bQ rs 0) p.bQ.toNat=0)
structure POk(p:aM):Prop where
 b8:1≤p.b8∧p.b8≤8
 fq:0≤p.fq∧p.fq≤86400
 bQ:1≤p.bQ∧p.bQ≤255
theorem BA{n:Int}(h0:0≤n)(h:n<18446744073709551616):IntKind.u64.wrap n=n:=by obtain⟨m,rfl⟩:∃m:Nat,n=m:=⟨n.toNat,by omega⟩;exact OK (by omega)
theorem adZ{a b d:Int}(ha:0≤a∧a≤3155932800)(hb:0≤b∧b≤3155932800)(hd:0≤d∧d≤86400):oi [.int .i64 a,.int .i64 b,.int .i64 d]=some (.bool (decide (b-a>d))):=by
 simp only[oi,zL,aI,U,az,aJ];by_cases h:b≥a
 ·rw[IN (by simpa using h),BA (n:=a) (by omega) (by omega),BA (n:=b) (by omega) (by omega),BA (n:=d) (by omega) (by omega),BA (n:=b-a) (by omega) (by omega),att (show¬d<0 by omega)];rfl
 ·rw[IS (by simpa using h),att (show¬d<0 by omega),att (show¬b-a>d by omega)];rfl
theorem Vi{a b d:Int}(ha:0≤a∧a≤3155932800)(hb:0≤b∧b≤3155932800)(hd:0≤d∧d≤86400):gG [.int .i64 a,.int .i64 b,.int .i64 d]=some (.bool (decide (b-a≤d))):=by
 simp only[gG,vt,aI,U];by_cases h:b≤a
 ·rw[IN (by simpa using h),atA (show b-a≤d by omega)]
 ·rw[IS (by simpa using h),BA (n:=a) (by omega) (by omega),BA (n:=b) (by omega) (by omega),BA (n:=d) (by omega) (by omega),BA (n:=b-a) (by omega) (by omega)]
theorem ahz{z:Nat}(hz:z<65536):vu [.int .i64 (z:Int)]=some (.int .i64 (pc z:Int)):=by
 simp only[vu,Ge,aI,U];refine(nT (fun k(s:Nat)=>((z:Int),(s:Int),(k:Int),())) (fun k s=>some (PV.int .i64 ((s+pcF (64-k) (z/2^k):Nat):Int))) (fun k s=>s≤k) 62 (fun k hk s rec hi iW=>?_) (fun s rec hi=>?_) (by decide) 0 (by omega) rfl).trans (by simp[pc])
 ·unfold zM;dsimp only;have acf:min ((k:Int).toNat) IntKind.i64.bits=k:=by rw[are];exact as1 (by show k≤64;omega)
  have hdiv:(z:Int).fdiv (2^min ((k:Int).toNat) IntKind.i64.bits)=((z/2^k:Nat):Int):=by grind
  have cd:z/2^k<65536:=Nat.lt_of_le_of_lt (Nat.div_le_self _ _) hz;have hand:IntKind.i64.wrap ((BitVec.ofInt IntKind.i64.bits ((z/2^k:Nat):Int)&&&BitVec.ofInt IntKind.i64.bits 1).toNat:Int)=((z/2^k%2:Nat):Int):=by show IntKind.i64.wrap (((BitVec.ofInt 64 ((z/2^k:Nat):Int)&&&BitVec.ofInt 64 ((1:Nat):Int)).toNat:Nat):Int)=_;grind [BitVec.toNat_and,ahw,JJ]
  have Uq:pcF (64-k) (z/2^k)=z/2^k%2+pcF (64-(k+1)) (z/2^(k+1)):=by
   have e1:64-k=(64-(k+1))+1:=by omega
   rw[e1,pcF,Nat.pow_succ,Nat.div_div_eq_div_mul]
  rw[IN (by simp;omega),IS (by omega),hdiv,hand,Uq,ab (by omega),ab (by omega)];rcases auK (z/2^k)with h2|h2
  ·rw[h2,IS (by simp),iW s (by omega),as5]
  ·rw[h2,IN (by rfl),iW (s+1) (by omega),asW]
 ·unfold zM;dsimp only;have h0:z/2^62=0:=au4 (by omega);rw[IS (by simp),h0,LQ];rfl
theorem ahA(x:Rd):Ab.asInt .i64 (cell x.pv 0)=some x.dep:=rfl
theorem anm(x:Rd):Ab.asInt .i64 (cell x.pv 1)=some x.arr:=rfl
theorem ann(x:Rd):Ab.asInt .i64 (cell x.pv 2)=some (x.j4:Int):=rfl
theorem ano(x:Rd):Ab.asInt .i64 (cell x.pv 3)=some (x.bQ:Int):=rfl
theorem ahB(x:aM):asAgg 6 x.pv=some ():=rfl
theorem anp(x:aM):PV.agg [cell x.pv 0,cell x.pv 1,cell x.pv 2,cell x.pv 3,cell x.pv 4,cell x.pv 5]=x.pv:=rfl
theorem Xf(x:aM):Ab.aO (cell x.pv 0)=some x.id:=rfl
theorem Xg(x:aM):Ab.asInt .i64 (cell x.pv 1)=some x.jM:=rfl
theorem Xh(x:aM):Ab.asInt .i64 (cell x.pv 2)=some x.b8:=rfl
theorem Xi(x:aM):Ab.asInt .i64 (cell x.pv 3)=some x.j4:=rfl
theorem Xj(x:aM):Ab.asInt .i64 (cell x.pv 4)=some x.fq:=rfl
theorem Xk(x:aM):Ab.asInt .i64 (cell x.pv 5)=some x.bQ:=rfl
theorem Sv{a b:Nat}(ha:a<65536)(hb:b<65536):gH [.int .u64 (a:Int),.int .u64 (b:Int)]=some (.int .u64 ((a|||b:Nat):Int)):=by grind [gH,sk,aU,U,orU]
theorem Vj{a b:Nat}(ha:a<65536):je [.int .u64 (a:Int),.int .u64 (b:Int)]=some (.bool (decide (Ny a b=0))):=by simp only[je,qy,aU,U];show some (PV.bool (IntKind.u64.wrap (((Ny a b:Nat)):Int)==0))=_;have:=Xd (pm:=b) ha;rw[OK (by omega),bT];simp
theorem ajL{z:Nat}:RO [.int .u64 (z:Int)]=some (.int .i64 (pc z:Int)):=by rfl
theorem aaT{p:aM}(hp:POk p)(x:Rd)(xs:List Rd)(hn:xs.length≤7)(ho:∀y∈x::xs,IJ y):jT [p.pv,.rs 4 ((x::xs).map Rd.pv)]=some (.bool (Su p (x::xs))):=by
 obtain⟨hr,hs,hm⟩:=hp;have JI:∃y,(x::xs).getLast? =some y∧y∈x::xs∧(x::xs)[xs.length]?=some y:=by refine⟨(x::xs).getLast (by simp),auq (by simp),List.getLast_mem _,?_⟩;grind
 obtain⟨y,y1,y2,y3⟩:=JI;simp only[jT,wV,ahB,Xf,Xg,Xh,Xi,Xj,Xk,aS,U,AI,amo,az];have h0:((((xs.length+1:Nat):Int))==0)=false:=by rfl
 have hi0:dB ((x::xs).map Rd.pv) 0=some x.pv:=rfl;have hiL:dB ((x::xs).map Rd.pv) ((xs.length:Nat):Int)=some y.pv:=aV Rd.pv (by omega) (by simpa using y3);rw[h0,ic xs.length (by omega),hi0,hiL];simp only[atb,U,ahA,adZ (ho x (by simp)).d (ho y y2).d hs,aB];unfold Su;rw[y1,List.head?_cons];show _=some (PV.bool (decide (((xs.length+1:Nat):Int)≤p.b8)&&decide (y.dep-x.dep≤p.fq)&&decide ((pc (orS Rd.j4 (x::xs) 0):Int)≤p.j4)&&decide (Ny (orS Rd.bQ (x::xs) 0) p.bQ.toNat=0)));by_cases hc:((xs.length+1:Nat):Int)≤p.b8
 ·rw[att (show¬((xs.length+1:Nat):Int)>p.b8 by omega),atA hc];simp only[as0,cond_false,U];by_cases hd:y.dep-x.dep≤p.fq
  ·rw[att (show¬y.dep-x.dep>p.fq by omega),atA hd];rw[IS (by simp),as0];refine nT (fun k(zm:Nat×Nat)=>((x::xs).map Rd.pv,((xs.length+1:Nat):Int),(k:Int),p.id,p.jM,p.b8,p.j4,p.fq,p.bQ,(zm.1:Int),(zm.2:Int),())) (fun k zm=>some (PV.bool (decide ((pc (orS Rd.j4 ((x::xs).drop k) zm.1):Int)≤p.j4)&&decide (Ny (orS Rd.bQ ((x::xs).drop k) zm.2) p.bQ.toNat=0)))) (fun k zm=>zm.1<65536∧zm.2<65536) (x::xs).length (fun k hk zm rec hi iW=>?_) (fun zm rec hi=>?_) (by unfold rounds;simp;omega) (0,0) (by simp) rfl
   ·have hx:=ho _ (aqW hk);unfold qz;dsimp only;rw[IN (by simp at hk⊢;omega),bn Rd.pv _ k hk];simp only[U,ann,ano,OK (show((x::xs)[k]).j4<18446744073709551616 by have:=hx.z;omega),OK (show((x::xs)[k]).bQ<18446744073709551616 by have:=hx.m;omega),Sv hi.1 hx.z,Sv hi.2 hx.m,aU,ab (show k<9223372036854775807 by simp at hk;omega)];rw[iW (_,_) ⟨Dg hi.1 hx.z,Dg hi.2 hx.m⟩,mX hk];rfl
   ·unfold qz;dsimp only;rw[IS (by simp),as9,BA (n:=p.bQ) (by omega) (by omega)];have hpm:p.bQ=((p.bQ.toNat:Nat):Int):=by omega
    rw[hpm];simp only[ajL,U,aI,Vj hi.2,aB,aJ,orS,are];rfl
  grind
 grind
def cut(rs:List Rd)(i k:Nat):List Rd:=(rs.take (k+1)).drop i
variable{rs:List Rd}{i k:Nat}
theorem Xl(hk:k<rs.length):(cut rs i k).length=k+1-i:=by unfold cut;simp;omega
theorem Xm{j:Nat}(hj:i+j≤k):(cut rs i k)[j]?=rs[i+j]?:=by unfold cut;grind
theorem Xn{x:Rd}(h:x∈cut rs i k):x∈rs:=atq (atx h)
theorem Vk{p:aM}(hp:POk p)(hik:i≤k)(hk:k<rs.length)(hn:rs.length≤8)(ho:∀y∈rs,IJ y):qA [p.pv,.rs 4 (rs.map Rd.pv),.int .i64 (i:Int),.int .i64 (k:Int)]=some (.bool (Su p (cut rs i k))):=by
 obtain⟨hr,hs,hm⟩:=hp;have hlen:=Xl (i:=i) hk;have hx:∀j(h:j<(cut rs i k).length),rs[i+j]?=some (cut rs i k)[j]:=fun j h=>by rw[←Xm (k:=k) (by omega)];simp
 have ajM:(cut rs i k).head? =some rs[i]:=by simp_all[atV,Xm,atv,cN]
 have JI:(cut rs i k).getLast? =some rs[k]:=by grind
 simp only[qA,BB,ahB,Xf,Xg,Xh,Xi,Xj,Xk,aS,aI,U];refine(nT (fun j(zm:Nat×Nat)=>(rs.map Rd.pv,(i:Int),(k:Int),(zm.1:Int),(zm.2:Int),((i+j:Nat):Int),p.id,p.jM,p.b8,p.j4,p.fq,p.bQ,())) (fun j zm=>some (PV.bool (decide (((cut rs i k).length:Int)≤p.b8)&&decide ((pc (orS Rd.j4 ((cut rs i k).drop j) zm.1):Int)≤p.j4)&&decide (Xe (some rs[k])-Xe (some rs[i])≤p.fq)&&decide (Ny (orS Rd.bQ ((cut rs i k).drop j) zm.2) p.bQ.toNat=0)))) (fun j zm=>zm.1<65536∧zm.2<65536) (cut rs i k).length (fun j hj zm rec hi iW=>?_) (fun zm rec hi=>?_) (by rw[hlen];unfold rounds;omega) (0,0) (by simp) rfl).trans ?_
 ·have hy:=ho _ (Xn (aqW hj));unfold uq;dsimp only;rw[IN (by simp;omega),aV Rd.pv (by omega) (show rs[((i+j:Nat):Int).toNat]?=some (cut rs i k)[j] by grind)];simp only[U,ann,ano,orI hi.1 hy.z,orI hi.2 hy.m,ab (show i+j<9223372036854775807 by omega)];rw[show i+j+1=i+(j+1) by omega,iW (_,_) ⟨Dg hi.1 hy.z,Dg hi.2 hy.m⟩,mX hj];rfl
 ·unfold uq;dsimp only;rw[IS (by simp;omega),as9];have aqB:IntKind.i64.wrap (IntKind.i64.wrap ((k:Int)-(i:Int))+1)=((cut rs i k).length:Int):=by grind [aZ]
  have hd1:=(ho _ (aqW (show i<rs.length by omega))).d;have hd2:=(ho _ (aqW hk)).d;have Up:(IntKind.i64.wrap ((BitVec.ofInt IntKind.i64.bits (zm.2:Int)&&& ~~~BitVec.ofInt IntKind.i64.bits p.bQ).toNat:Int)==0)=decide (Ny zm.2 p.bQ.toNat=0):=by
   have hpm:p.bQ=((p.bQ.toNat:Nat):Int):=by omega
   have:=Xd (pm:=p.bQ.toNat) hi.2;rw[hpm];show(IntKind.i64.wrap ((Ny zm.2 p.bQ.toNat:Nat):Int)==0)=_;rw[JJ (by omega),bT,are];simp
  rw[aqB];simp only[ahz hi.1,U,aI,aJ,bn Rd.pv rs i (by omega),bn Rd.pv rs k hk,ahA,Vi hd1 hd2 hs,aB,Up];rfl
 ·unfold Su;rw[ajM,JI];grind
theorem Vl{p:aM}(hp:POk p)(hik:i≤k)(hk:k<rs.length)(hn:rs.length≤8)(ho:∀y∈rs,IJ y):jT [p.pv,.rs 4 ((cut rs i k).map Rd.pv)]=some (.bool (Su p (cut rs i k))):=by
 have hlen:=Xl (i:=i) hk;cases hc:cut rs i k with
 |nil=>grind
 |cons x xs=>grind [List.length_cons,aaT,Xn]
theorem Fm(l:List aM)(d w c:Int):asAgg 4 (dr l d w c)=some ():=rfl
theorem Fo(l:List aM)(d w c:Int):ao 6 (cell (dr l d w c) 0)=some (l.map aM.pv):=rfl
theorem Fq(l:List aM)(d w c:Int):Ab.asInt .i64 (cell (dr l d w c) 1)=some d:=rfl
theorem Fs(l:List aM)(d w c:Int):Ab.asInt .i64 (cell (dr l d w c) 2)=some w:=rfl
theorem Ft(l:List aM)(d w c:Int):Ab.asInt .i64 (cell (dr l d w c) 3)=some c:=rfl
theorem Mh(l:List aM)(d w c:Int):PV.agg [.rs 6 (l.map aM.pv),.int .i64 d,.int .i64 w,.int .i64 c]=dr l d w c:=rfl
end Go.Ab.Tt
