import Derived.Test.YtmbihgjlollbeaaGreatFbP1
namespace Go.Ab.Tt
set_option maxRecDepth 100000
set_option linter.unusedVariables false
set_option linter.unusedSimpArgs false
variable{a:Nat}
theorem acf(h:a<18446744073709551616):(BitVec.ofInt 64 (a:Int)).toNat=a:=by simp_all
theorem HS(h:a<18446744073709551616):IntKind.u64.wrap (a:Int)=(a:Int):=by grind [IntKind.wrap,IntKind.signed,IntKind.bits]
theorem Ln(h:a<9223372036854775808):IntKind.i64.wrap (a:Int)=(a:Int):=aY (by omega) (by omega)
theorem Dg{b:Nat}(ha:a<65536)(hb:b<65536):a|||b<65536:=Nat.or_lt_two_pow (n:=16) ha hb
theorem orI{b:Nat}(ha:a<65536)(hb:b<65536):IntKind.i64.wrap ((BitVec.ofInt IntKind.i64.bits (a:Int)|||BitVec.ofInt IntKind.i64.bits (b:Int)).toNat:Int)=((a|||b:Nat):Int):=by show IntKind.i64.wrap (((BitVec.ofInt 64 (a:Int)|||BitVec.ofInt 64 (b:Int)).toNat:Nat):Int)=_;grind [BitVec.toNat_or,acf,Ln,Dg]
theorem orU{b:Nat}(ha:a<65536)(hb:b<65536):IntKind.u64.wrap ((BitVec.ofInt IntKind.u64.bits (a:Int)|||BitVec.ofInt IntKind.u64.bits (b:Int)).toNat:Int)=((a|||b:Nat):Int):=by show IntKind.u64.wrap (((BitVec.ofInt 64 (a:Int)|||BitVec.ofInt 64 (b:Int)).toNat:Nat):Int)=_;grind [BitVec.toNat_or,acf,HS,Dg]
theorem uI{z:Nat}(h:z<16):2^z<65536:=(Nat.pow_lt_pow_right (a:=2) (by omega) h:2^z<2^16)
variable{z:Int}
theorem shU(h0:0≤z)(h:z<16):IntKind.u64.wrap (1*2^min z.toNat IntKind.u64.bits)=((2^z.toNat:Nat):Int):=by
 have h1:min z.toNat IntKind.u64.bits=z.toNat:=aki (by show z.toNat≤64;omega);have h2:z.toNat<16:=by omega
 rw[h1,Int.one_mul];have:=uI h2;grind [HS]
theorem aU(n:Int):Ab.asInt .u64 (.int .u64 n)=some n:=rfl
theorem FI(h0:0≤z)(h:z<16):nH [.int .i64 z]=some (.int .u64 ((2^z.toNat:Nat):Int)):=by simp only[nH,Ac,aI,aa,bh];rw[No (by simp;omega),No (by omega),shU h0 h]
theorem ZK{s:Nat}(hs:s<65536)(h0:0≤z)(h:z<16):jS [.int .u64 (s:Int),.int .i64 z]=some (.int .u64 ((s|||2^z.toNat:Nat):Int)):=by simp only[jS,qd,aU,aI,aa,FI h0 h];rw[orU hs (uI (by omega))]
theorem P1(h0:0≤z)(h:z<16):ta [.rs 1 [.int .i64 z]]=some (.int .u64 ((2^z.toNat:Nat):Int)):=by
 simp only[ta,Cn,aS,aa,akd];refine aZ (fun k=>(((if k=0 then 0 else 2^z.toNat:Nat):Int),[PV.int .i64 z],1,(k:Int),())) 1 (fun k hk rec=>?_) (fun rec=>?_) (by decide) rfl
 ·have:k=0:=by omega
  subst this;unfold Bm;dsimp only;have hc:cell (PV.int .i64 z) 0=PV.int .i64 z:=rfl;have hi:fM [PV.int .i64 z] ((0:Nat):Int)=some (PV.int .i64 z):=rfl;rw[GW (by simp),hi];simp only[aa,hc,aI,FI h0 h,aU,IS];rw[orU (by omega) (uI (by omega)),Nat.zero_or];rfl
 rfl
def Jm(N:ae)(c:aR):Nat:=match N.stops[c.stop.toNat]? with|some s=>s.Bj.toNat|none=>0
def Lp(N:ae):List aR→Nat→Nat
 |[],s=>s
 |c::r,s=>Lp N r (s|||2^Jm N c)
def zt(N:ae)(x:bp):List aR:=match tE N x with|some r=>(r.calls.take (x.bV.toNat+1)).drop x.ea.toNat|none=>[]
def FJ(N:ae)(x:bp):Nat:=Lp N (zt N x) 0
theorem VK{N:ae}(cs:List aR)(h:∀c∈cs,Jm N c<16):∀s,s<65536→Lp N cs s<65536:=by
 induction cs with
 |nil=>intro s hs;exact hs
 |cons c r ih=>intro s hs;exact ih (fun c hc=>h c (by simp[hc])) _ (Dg hs (uI (h c (by simp))))
theorem acg(x:Stop):Ab.asInt .i64 (cell x.pv 1)=some x.Bj:=rfl
section
variable {N:ae} {q:gm}
variable{r:ec}
theorem HT(h:wh N)(hr:r∈N.runs){c:aR}(hc:c∈r.calls):∃s,N.stops[c.stop.toNat]?=some s∧0≤c.stop∧0≤s.Bj∧s.Bj<16∧Jm N c=s.Bj.toNat:=by obtain⟨s,h1,h2,h3⟩:=h.call r hr c hc;obtain⟨a,b,_⟩:=h.stop s h3;simp_all[Jm]
variable{x:bp}{t:aT}{a b:aR}
theorem FK(hx:tK N x r t a b):zt N x=(r.calls.take (x.bV.toNat+1)).drop x.ea.toNat:=by unfold zt tE;rw[GW hx.wg,hx.run]
theorem HU(hx:tK N x r t a b):∀c∈zt N x,c∈r.calls:=by grind [FK,List.mem_of_mem_take,List.mem_of_mem_drop]
theorem HV(h:wh N)(hx:tK N x r t a b):FJ N x<65536:=VK _ (fun c hc=>by obtain⟨s,_,_,_,_,e⟩:=HT h hx.mem (HU hx c hc);omega) 0 (by omega)
theorem Lq(h:wh N)(hx:tK N x r t a b):l6 [N.pv,x.pv]=some (.int .u64 (FJ N x:Int)):=by
 have wG:=Df h.res r hx.mem;have hlen:=(Lr wG).2;have MA:x.bV.toNat<r.calls.length:=(By.1 hx.bV).1;have ha0:=hx.PQ;have hb0:=hx.ND;have bT:=hx.lt;have hw:IntKind.i64.wrap (x.bV+1)=x.bV+1:=aY (by omega) (by omega);simp only[l6,tM,A8,A9,Ba,Bb,Bc,Bd,Be,Bf,Bg,Bh,tJ,rX,sT,sQ,tG,sP,tF,sR,sS,pU,aa,bI ec.pv hx.wg hx.run,I2,aS,hw,BY];rw[GW (by grind)];have Hl:List.drop x.ea.toNat (List.take (x.bV+1).toNat (r.calls.map aR.pv))=(zt N x).map aR.pv:=by grind [FK,List.map_drop,List.map_take]
 rw[Hl,BY];have ajc:(zt N x).length≤32:=by rw[FK hx];simp;omega
 refine Bl (fun k(s:Nat)=>((s:Int),(zt N x).map aR.pv,((zt N x).length:Int),(k:Int),N.stops.map Stop.pv,N.ar.map aT.pv,N.runs.map ec.pv,N.bj.map bA.pv,N.paths.map Path.pv,N.ba.map aV.pv,N.bY,N.within,N.cap,())) (fun k s=>some (PV.int .u64 (Lp N ((zt N x).drop k) s:Int))) (fun k s=>s<65536) (zt N x).length (fun k hk s rec hi qL=>?_) (fun s rec hi=>?_) (by unfold rounds;omega) 0 (by omega) rfl
 ·obtain⟨st,s1,s2,s3,s4,s5⟩:=HT h hx.mem (HU hx _ (ajm hk));unfold oK;dsimp only;rw[GW (by simp;omega),bN aR.pv _ k hk];simp only[aa,NA,bI Stop.pv s2 s1,acg,ZK hi s3 s4,aU,al (show k<9223372036854775807 by omega)];grind [Dg,uI,vw,Lp]
 ·unfold oK;dsimp only;rw[No (by simp),akP];rfl
end
structure Rd where
 dep:Int
 arr:Int
 lS:Nat
 cq:Nat
def Rd.pv(x:Rd):PV:=.agg [.int .i64 x.dep,.int .i64 x.arr,.int .i64 (x.lS:Int),.int .i64 (x.cq:Int)]
def FL(N:ae)(x:bp):Nat:=match tE N x with
 |some r=>(match N.ar[r.fh.toNat]? with|some t=>2^t.mode.toNat|none=>0)
 |none=>0
def rdStep(N:ae)(out:List Rd)(x:bp):List Rd:=
 if x.cL=true then(if x.stay=true then(match out.getLast? with
  |some y=>out.dropLast++[⟨y.dep,x.arr,y.lS|||FJ N x,y.cq|||FL N x⟩]
  |none=>out)
  else out++[⟨x.dep,x.arr,FJ N x,FL N x⟩])
 else out
def fS(N:ae):List bp→List Rd→List Rd
 |[],out=>out
 |x::r,out=>fS N r (rdStep N out x)
structure A4(N:ae)(l:List bp):Prop where
 GJ:∀k(h:k<l.length),Vz N l[k]=false
 mom:∀k(h:k<l.length),I6 l[k]=false
 stay:∀k(h:k<l.length),l[k].stay=true→∃j,∃h:j<l.length,k=j+1∧l[j].cL=true
def HW(l:List bp):Nat→Bool
 |0=>false
 |k+1=>match l[k]? with|some x=>x.cL|none=>false
theorem sd{l:List bp}{k:Nat}(h:k<l.length):HW l (k+1)=l[k].cL:=by show(match l[k]? with|some x=>x.cL|none=>false)=_;simp_all
structure Jn(x:Rd):Prop where
 z:x.lS<65536
 m:x.cq<65536
 d:0≤x.dep∧x.dep≤3155932800
theorem ZL{x:bp}(h:I6 x=false):0≤x.dep∧x.dep≤3155932800:=by simp_all[I6,Fu,ajT,akg,OF,AT]
structure P2(l:List bp)(k:Nat)(out:List Rd):Prop where
 len:out.length≤k
 ok:∀y∈out,Jn y
 ne:HW l k=true→out≠[]
section
variable {N:ae} {q:gm} {l:List bp} {k:Nat}
theorem Lt(h:wh N){x:bp}{r:ec}{t:aT}{a b:aR}(hx:tK N x r t a b):FL N x=2^t.mode.toNat∧0≤t.mode∧t.mode<16∧FL N x<65536:=by
 have ht:=h.fh t hx.tm;have e:FL N x=2^t.mode.toNat:=by unfold FL tE;rw[GW hx.wg,hx.run];simp only[hx.fh]
 grind [uI]
theorem FM(h:wh N)(hg:A4 N l)(hk:k<l.length){out:List Rd}(hi:P2 l k out):P2 l (k+1) (rdStep N out l[k]):=by
 obtain⟨_,_,hx,uf⟩:=pT (hg.GJ k hk);have aaX:HW l (k+1)=l[k].cL:=sd hk;unfold rdStep;cases hr:l[k].cL with
 |false=>exact⟨by simpa using alJ hi.len,hi.ok,fun hh=>by simp_all⟩
 |true=>
  obtain⟨r,t,a,b,pB⟩:=zX h (hx hr);have hz:=HV h pB;have hm:=(Lt h pB).2.2.2;rw[GW rfl];cases hs:l[k].stay with
  |true=>
   obtain⟨j,hj,rfl,hjr⟩:=hg.stay k hk hs;have cJ:out≠[]:=hi.ne (by rw[sd hj];omega);rw[GW rfl,alk cJ];simp only;have hy:=hi.ok _ (List.getLast_mem cJ);have hl:=hi.len;have ff:0<out.length:=List.length_pos_iff.2 cJ;refine⟨by simp;omega,fun y P3=>?_,fun _=>by simp⟩;rcases ajA.1 P3 with P3|P3
   ·exact hi.ok _ ((List.dropLast_sublist _).subset P3)
   ·simp only[List.mem_singleton]at P3;subst P3;exact⟨Dg hy.z hz,Dg hy.m hm,hy.d⟩
  |false=>
   rw[No (by simp)];refine⟨by simpa using hi.len,fun y P3=>?_,fun _=>by simp⟩;rcases ajA.1 P3 with P3|P3
   ·exact hi.ok _ P3
   ·simp only[List.mem_singleton]at P3;subst P3;exact⟨hz,hm,ZL (hg.mom k hk)⟩
theorem N5(x:bp):kW [N.pv,x.pv]=some (.bool (exB N x)):=by
 simp only[kW,se,A8,A9,Ba,Bb,Bc,Bd,Be,Bf,Bg,Bh,tJ,rX,sT,sQ,tG,sP,tF,sR,sS,pU,aa,BY,bE];unfold exB tE;by_cases h0:0≤x.run
 ·by_cases h1:x.run.toNat<N.runs.length
  ·rw[GW h0,cO h1,bI ec.pv h0 (cO h1),aky h0,aky (show x.run<(N.runs.length:Int) by omega)];simp only[aa,I2,aS,BY,aj3];grind
  grind
 grind
theorem VL(init:List PV)(y v:PV):(init++[y]).set init.length v=init++[v]:=by simp
theorem Lu(init:List PV)(y:PV):(init++[y])[init.length]?=some y:=by simp
theorem rd0(x:Rd):cell x.pv 0=.int .i64 x.dep:=rfl
theorem rd1(x:Rd):cell x.pv 1=.int .i64 x.arr:=rfl
theorem rd2(x:Rd):cell x.pv 2=.int .i64 (x.lS:Int):=rfl
theorem rd3(x:Rd):cell x.pv 3=.int .i64 (x.cq:Int):=rfl
theorem aeC(l:List PV)(j:Nat):cell (.agg l) j=l.getD j .bad:=rfl
theorem VM(h:wh N)(hg:A4 N l)(hl:l.length≤1000000):gn [N.pv,PN l]=some (.aP [.rs 4 ((fS N l []).map Rd.pv),.int .i64 0]):=by
 simp only[gn,pk,A8,A9,Ba,Bb,Bc,Bd,Be,Bf,Bg,Bh,jA,j0,aa,La,zZ N h.ok h.paths,BY];simp only[xx,dq,ajj,ajs,IS,aa,ajf,ajh,aI,h.res];rw[No (by simp)];refine Bl (fun j(out:List Rd)=>(HW l j,l.map bp.pv,(l.length:Int),(j:Int),N.stops.map Stop.pv,N.ar.map aT.pv,N.runs.map ec.pv,N.bj.map bA.pv,N.paths.map Path.pv,N.ba.map aV.pv,N.bY,N.within,N.cap,out.map Rd.pv,())) (fun j out=>some (PV.aP [.rs 4 ((fS N (l.drop j) out).map Rd.pv),.int .i64 0])) (P2 l) l.length (fun j hj out rec hi qL=>?_) (fun out rec hi=>?_) (by unfold rounds;omega) [] ⟨by simp,by simp,fun hh=>by cases hh⟩ rfl
 ·obtain⟨_,_,hx,uf⟩:=pT (hg.GJ j hj);have P4:=qL _ (FM h hg hj hi);have aaX:HW l (j+1)=l[j].cL:=sd hj;rw[vw hj];show _=some (PV.aP [.rs 4 ((fS N (l.drop (j+1)) (rdStep N out l[j])).map Rd.pv),.int .i64 0]);rw[←P4,aaX];unfold oL;dsimp only;rw[GW (by simp;omega),bN bp.pv l j hj];simp only[aa,tJ,rX,sT,sQ,tG,sP,tF,sR,sS,pU,ab8,La,N5,aB,bE,bh,al (show j<9223372036854775807 by omega)];cases hr:l[j].cL with
  |false=>simp_all[No,rdStep]
  |true=>
   obtain⟨r,t,a,b,pB⟩:=zX h (hx hr);have hz:=HV h pB;obtain⟨m1,m2,m3,m4⟩:=Lt h pB;rw[No (by simp[hx hr])];cases hs:l[j].stay with
   |false=>rw[No (by simp),GW rfl];simp only[Lq h pB,aa,aU,bI ec.pv pB.wg pB.run,RZ,aI,bI aT.pv pB.N1 pB.fh,Jl,P1 m2 m3,ajC,IS];rw[GW (by simp only[aju,BY,akd];have:=hi.len;unfold ah;omega),Ln (by omega),←m1,Ln (by omega)];unfold rdStep;rw[hr,hs,GW rfl,No (by simp),aku];rfl
   |true=>
    obtain⟨i,To,rfl,hir⟩:=hg.stay j hj hs;have cJ:out≠[]:=hi.ne (by rw[sd To];omega);obtain⟨init,y,rfl⟩:∃init y,out=init++[y]:=⟨out.dropLast,out.getLast cJ,(List.dropLast_concat_getLast cJ).symm⟩;have hy:=hi.ok y (by simp);have ach:HW l (i+1)=true:=by rw[sd To];omega
    have Ep:=hi.len;simp only[aju,akd]at Ep;rw[ach,No (by simp),GW rfl];simp only[Lq h pB,aa,aU,bI ec.pv pB.wg pB.run,RZ,aI,bI aT.pv pB.N1 pB.fh,Jl,P1 m2 m3,aji,cQ,S3];have hlen:(((init++[y]).map Rd.pv).length:Int)-1=((init.map Rd.pv).length:Int):=by simp
    have hmp:(init++[y]).map Rd.pv=init.map Rd.pv++[y.pv]:=by simp
    rw[hlen,aY (by omega) (by grind),ajk,hmp];rw[GW (by unfold au;simp;omega),Lu];simp only[aa,VL,Lu,rd0,rd1,rd2,rd3,aeC,ajf,ajh,over,aI];rw[Ln (show FJ N l[i+1]<9223372036854775808 by omega),←m1,Ln (show FL N l[i+1]<9223372036854775808 by omega),orI hy.z hz,orI hy.m m4];unfold rdStep;rw[hr,hs,GW rfl,GW rfl,List.getLast?_append,List.getLast?_singleton];simp only[Option.some_or,List.dropLast_concat,aku,ajr,amd];rfl
 ·unfold oL;dsimp only;rw[No (by simp),akP];rfl
end
section
variable {N:ae} {q:gm} {l:List bp} {k:Nat}
end
def orS(f:Rd→Nat):List Rd→Nat→Nat
 |[],s=>s
 |x::r,s=>orS f r (s|||f x)
def N6(m pm:Nat):Nat:=(BitVec.ofInt 64 (m:Int)&&& ~~~BitVec.ofInt 64 (pm:Int)).toNat
theorem ZM{m pm:Nat}(h:m<65536):N6 m pm<65536:=by grind [N6,BitVec.toNat_and,acf,Nat.lt_of_le_of_lt,Nat.and_le_left]
def aaY:Option Rd→Int
 |some x=>x.dep
 |none=>0
def VN(p:aV)(rs:List Rd):Bool:=decide ((rs.length:Int)≤p.cB)&&decide (aaY rs.getLast? -aaY rs.head?≤p.jx)&&decide ((pc (orS Rd.lS rs 0):Int)≤p.lS)&&decide (N6 (orS Rd.cq rs 0) p.cq.toNat=0)
structure POk(p:aV):Prop where
 cB:1≤p.cB∧p.cB≤8
 jx:0≤p.jx∧p.jx≤86400
 cq:1≤p.cq∧p.cq≤255
theorem FN{n:Int}(h0:0≤n)(h:n<18446744073709551616):IntKind.u64.wrap n=n:=by obtain⟨m,rfl⟩:∃m:Nat,n=m:=⟨n.toNat,by omega⟩;exact HS (by omega)
theorem VO{a b d:Int}(ha:0≤a∧a≤3155932800)(hb:0≤b∧b≤3155932800)(hd:0≤d∧d≤86400):l7 [.int .i64 a,.int .i64 b,.int .i64 d]=some (.bool (decide (b-a>d))):=by
 simp only[l7,tN,aI,aa,bh,bE];by_cases h:b≥a
 ·rw[GW (by simpa using h),FN (n:=a) (by omega) (by omega),FN (n:=b) (by omega) (by omega),FN (n:=d) (by omega) (by omega),FN (n:=b-a) (by omega) (by omega),aj2 (show¬d<0 by omega)];rfl
 ·rw[No (by simpa using h),aj2 (show¬d<0 by omega),aj2 (show¬b-a>d by omega)];rfl
theorem aeD(x:Rd):Ab.asInt .i64 (cell x.pv 0)=some x.dep:=rfl
theorem ahP(x:Rd):Ab.asInt .i64 (cell x.pv 1)=some x.arr:=rfl
theorem ahQ(x:Rd):Ab.asInt .i64 (cell x.pv 2)=some (x.lS:Int):=rfl
theorem ahR(x:Rd):Ab.asInt .i64 (cell x.pv 3)=some (x.cq:Int):=rfl
theorem aeE(x:aV):asAgg 6 x.pv=some ():=rfl
theorem ahS(x:aV):PV.agg [cell x.pv 0,cell x.pv 1,cell x.pv 2,cell x.pv 3,cell x.pv 4,cell x.pv 5]=x.pv:=rfl
theorem aaZ(x:aV):Ab.bG (cell x.pv 0)=some x.id:=rfl
theorem aa0(x:aV):Ab.asInt .i64 (cell x.pv 1)=some x.jy:=rfl
theorem aa1(x:aV):Ab.asInt .i64 (cell x.pv 2)=some x.cB:=rfl
theorem aa2(x:aV):Ab.asInt .i64 (cell x.pv 3)=some x.lS:=rfl
theorem aa3(x:aV):Ab.asInt .i64 (cell x.pv 4)=some x.jx:=rfl
theorem aa4(x:aV):Ab.asInt .i64 (cell x.pv 5)=some x.cq:=rfl
theorem Lv{a b:Nat}(ha:a<65536)(hb:b<65536):fU [.int .u64 (a:Int),.int .u64 (b:Int)]=some (.int .u64 ((a|||b:Nat):Int)):=by grind [fU,oM,aU,aa,orU]
theorem N7{a b:Nat}(ha:a<65536):gR [.int .u64 (a:Int),.int .u64 (b:Int)]=some (.bool (decide (N6 a b=0))):=by simp only[gR,nI,aU,aa];show some (PV.bool (IntKind.u64.wrap (((N6 a b:Nat)):Int)==0))=_;have:=ZM (pm:=b) ha;rw[HS (by omega),jw];simp
theorem aci{z:Nat}:KV [.int .u64 (z:Int)]=some (.int .i64 (pc z:Int)):=by rfl
theorem Sv{p:aV}(hp:POk p)(x:Rd)(xs:List Rd)(hn:xs.length≤7)(ho:∀y∈x::xs,Jn y):iH [p.pv,.rs 4 ((x::xs).map Rd.pv)]=some (.bool (VN p (x::xs))):=by
 obtain⟨hr,hs,hm⟩:=hp;have aa5:∃y,(x::xs).getLast? =some y∧y∈x::xs∧(x::xs)[xs.length]?=some y:=by refine⟨(x::xs).getLast (by simp),alk (by simp),List.getLast_mem _,?_⟩;grind
 obtain⟨y,y1,y2,y3⟩:=aa5;simp only[iH,sf,aeE,aaZ,aa0,aa1,aa2,aa3,aa4,aS,aa,BY,ajj,bh];have h0:((((xs.length+1:Nat):Int))==0)=false:=by rfl
 have hi0:fM ((x::xs).map Rd.pv) 0=some x.pv:=rfl;have hiL:fM ((x::xs).map Rd.pv) ((xs.length:Nat):Int)=some y.pv:=bI Rd.pv (by omega) (by simpa using y3);rw[h0,oG xs.length (by omega),hi0,hiL];simp only[akr,aa,aeD,VO (ho x (by simp)).d (ho y y2).d hs,aB];unfold VN;rw[y1,List.head?_cons];show _=some (PV.bool (decide (((xs.length+1:Nat):Int)≤p.cB)&&decide (y.dep-x.dep≤p.jx)&&decide ((pc (orS Rd.lS (x::xs) 0):Int)≤p.lS)&&decide (N6 (orS Rd.cq (x::xs) 0) p.cq.toNat=0)));by_cases hc:((xs.length+1:Nat):Int)≤p.cB
 ·rw[aj2 (show¬((xs.length+1:Nat):Int)>p.cB by omega),aky hc];simp only[aj3,cond_false,aa];by_cases hd:y.dep-x.dep≤p.jx
  ·rw[aj2 (show¬y.dep-x.dep>p.jx by omega),aky hd];rw[No (by simp),aj3];refine Bl (fun k(zm:Nat×Nat)=>((x::xs).map Rd.pv,((xs.length+1:Nat):Int),(k:Int),p.id,p.jy,p.cB,p.lS,p.jx,p.cq,(zm.1:Int),(zm.2:Int),())) (fun k zm=>some (PV.bool (decide ((pc (orS Rd.lS ((x::xs).drop k) zm.1):Int)≤p.lS)&&decide (N6 (orS Rd.cq ((x::xs).drop k) zm.2) p.cq.toNat=0)))) (fun k zm=>zm.1<65536∧zm.2<65536) (x::xs).length (fun k hk zm rec hi qL=>?_) (fun zm rec hi=>?_) (by unfold rounds;simp;omega) (0,0) (by simp) rfl
   ·have hx:=ho _ (ajm hk);unfold nJ;dsimp only;rw[GW (by simp at hk⊢;omega),bN Rd.pv _ k hk];simp only[aa,ahQ,ahR,HS (show((x::xs)[k]).lS<18446744073709551616 by have:=hx.z;omega),HS (show((x::xs)[k]).cq<18446744073709551616 by have:=hx.m;omega),Lv hi.1 hx.z,Lv hi.2 hx.m,aU,al (show k<9223372036854775807 by simp at hk;omega)];rw[qL (_,_) ⟨Dg hi.1 hx.z,Dg hi.2 hx.m⟩,vw hk];rfl
   ·unfold nJ;dsimp only;rw[No (by simp),akP,FN (n:=p.cq) (by omega) (by omega)];have hpm:p.cq=((p.cq.toNat:Nat):Int):=by omega
    rw[hpm];simp only[aci,aa,aI,N7 hi.2,aB,bE,orS,ajk];rfl
  grind
 grind
def cut(rs:List Rd)(i k:Nat):List Rd:=(rs.take (k+1)).drop i
variable{rs:List Rd}
theorem ZN{i k:Nat}(hk:k<rs.length):(cut rs i k).length=k+1-i:=by unfold cut;simp;omega
theorem ZO{i k:Nat}{x:Rd}(h:x∈cut rs i k):x∈rs:=akn (akv h)
theorem N8{p:aV}(hp:POk p){i k:Nat}(Yq:i≤k)(hk:k<rs.length)(hn:rs.length≤8)(ho:∀y∈rs,Jn y):iH [p.pv,.rs 4 ((cut rs i k).map Rd.pv)]=some (.bool (VN p (cut rs i k))):=by
 have hlen:=ZN (i:=i) hk;cases hc:cut rs i k with
 |nil=>grind
 |cons x xs=>grind [List.length_cons,Sv,ZO]
theorem FO(l:List aV)(d w c:Int):asAgg 4 (fx l d w c)=some ():=rfl
theorem FP(l:List aV)(d w c:Int):aw 6 (cell (fx l d w c) 0)=some (l.map aV.pv):=rfl
theorem FQ(l:List aV)(d w c:Int):Ab.asInt .i64 (cell (fx l d w c) 1)=some d:=rfl
theorem FT(l:List aV)(d w c:Int):Ab.asInt .i64 (cell (fx l d w c) 2)=some w:=rfl
theorem FU(l:List aV)(d w c:Int):Ab.asInt .i64 (cell (fx l d w c) 3)=some c:=rfl
theorem HX(l:List aV)(d w c:Int):PV.agg [.rs 6 (l.map aV.pv),.int .i64 d,.int .i64 w,.int .i64 c]=fx l d w c:=rfl
end Go.Ab.Tt
