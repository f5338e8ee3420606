import Derived.Test.YtmbihgjlollbeaaGreatFbP1
namespace Go.Ab.Tt
set_option maxRecDepth 100000
set_option linter.all false
variable{a:Nat}
theorem adu(h:a<18446744073709551616):(BitVec.ofInt 64 (a:Int)).toNat=a:=by simp_all
theorem Iq(h:a<18446744073709551616):IntKind.u64.wrap (a:Int)=(a:Int):=by grind [IntKind.wrap,IntKind.signed,IntKind.bits]
theorem L6(h:a<9223372036854775808):IntKind.i64.wrap (a:Int)=(a:Int):=aY (by omega) (by omega)
theorem Dy{b:Nat}(ha:a<65536)(hb:b<65536):a|||b<65536:=Nat.or_lt_two_pow (n:=16) ha hb
theorem orI{b:Nat}(ha:a<65536)(hb:b<65536):IntKind.i64.wrap ((BitVec.ofInt IntKind.i64.bits (a:Int)|||BitVec.ofInt IntKind.i64.bits (b:Int)).toNat:Int)=((a|||b:Nat):Int):=by show IntKind.i64.wrap (((BitVec.ofInt 64 (a:Int)|||BitVec.ofInt 64 (b:Int)).toNat:Nat):Int)=_;grind [BitVec.toNat_or,adu,L6,Dy]
theorem orU{b:Nat}(ha:a<65536)(hb:b<65536):IntKind.u64.wrap ((BitVec.ofInt IntKind.u64.bits (a:Int)|||BitVec.ofInt IntKind.u64.bits (b:Int)).toNat:Int)=((a|||b:Nat):Int):=by show IntKind.u64.wrap (((BitVec.ofInt 64 (a:Int)|||BitVec.ofInt 64 (b:Int)).toNat:Nat):Int)=_;grind [BitVec.toNat_or,adu,Iq,Dy]
theorem ve{z:Nat}(h:z<16):2^z<65536:=(Nat.pow_lt_pow_right (a:=2) (by omega) h:2^z<2^16)
variable{z:Int}
theorem shU(h0:0≤z)(h:z<16):IntKind.u64.wrap (1*2^min z.toNat IntKind.u64.bits)=((2^z.toNat:Nat):Int):=by
 have h1:min z.toNat IntKind.u64.bits=z.toNat:=ald (by show z.toNat≤64;omega);have h2:z.toNat<16:=by omega
 rw[h1,Int.one_mul];have:=ve h2;grind [Iq]
theorem aU(n:Int):Ab.asInt .u64 (.int .u64 n)=some n:=rfl
theorem Gg(h0:0≤z)(h:z<16):nT [.int .i64 z]=some (.int .u64 ((2^z.toNat:Nat):Int)):=by simp only[nT,AF,aI,U,bf];rw[IS (by simp;omega),IS (by omega),shU h0 h]
theorem aa1{s:Nat}(hs:s<65536)(h0:0≤z)(h:z<16):j2 [.int .u64 (s:Int),.int .i64 z]=some (.int .u64 ((s|||2^z.toNat:Nat):Int)):=by simp only[j2,qv,aU,aI,U,Gg h0 h];rw[orU hs (ve (by omega))]
theorem Q4(h0:0≤z)(h:z<16):tI [.rs 1 [.int .i64 z]]=some (.int .u64 ((2^z.toNat:Nat):Int)):=by
 simp only[tI,CF,aS,U,ak5];refine ba (fun k=>(((if k=0 then 0 else 2^z.toNat:Nat):Int),[PV.int .i64 z],1,(k:Int),())) 1 (fun k hk rec=>?_) (fun rec=>?_) (by decide) rfl
 ·have:k=0:=by omega
  subst this;unfold BF;dsimp only;have hc:cell (PV.int .i64 z) 0=PV.int .i64 z:=rfl;have hi:fj [PV.int .i64 z] ((0:Nat):Int)=some (PV.int .i64 z):=rfl;rw[AI (by simp),hi];simp only[U,hc,aI,Gg h0 h,aU,Ko];rw[orU (by omega) (ve (by omega)),Nat.zero_or];rfl
 rfl
def JX(N:ab)(c:aQ):Nat:=match N.stops[c.stop.toNat]? with|some s=>s.BC.toNat|none=>0
def L7(N:ab):List aQ→Nat→Nat
 |[],s=>s
 |c::r,s=>L7 N r (s|||2^JX N c)
def zW(N:ab)(x:bp):List aQ:=match vb N x with|some r=>(r.calls.take (x.bQ.toNat+1)).drop x.dY.toNat|none=>[]
def Gh(N:ab)(x:bp):Nat:=L7 N (zW N x) 0
theorem WT{N:ab}(cs:List aQ)(h:∀c∈cs,JX N c<16):∀s,s<65536→L7 N cs s<65536:=by
 induction cs with
 |nil=>intro s hs;exact hs
 |cons c r ih=>intro s hs;exact ih (fun c hc=>h c (by simp[hc])) _ (Dy hs (ve (h c (by simp))))
theorem adv(x:Stop):Ab.asInt .i64 (cell x.pv 1)=some x.BC:=rfl
section
variable {N:ab} {q:gy}
variable{r:dL}
theorem Ir(h:uE N)(hr:r∈N.runs){c:aQ}(hc:c∈r.calls):∃s,N.stops[c.stop.toNat]?=some s∧0≤c.stop∧0≤s.BC∧s.BC<16∧JX N c=s.BC.toNat:=by obtain⟨s,h1,h2,h3⟩:=h.call r hr c hc;obtain⟨a,b,_⟩:=h.stop s h3;simp_all[JX]
variable{x:bp}{t:aV}{a b:aQ}
theorem Gi(hx:ue N x r t a b):zW N x=(r.calls.take (x.bQ.toNat+1)).drop x.dY.toNat:=by unfold zW vb;rw[AI hx.wI,hx.run]
theorem Is(hx:ue N x r t a b):∀c∈zW N x,c∈r.calls:=by grind [Gi,List.mem_of_mem_take,List.mem_of_mem_drop]
theorem It(h:uE N)(hx:ue N x r t a b):Gh N x<65536:=WT _ (fun c hc=>by obtain⟨s,_,_,_,_,e⟩:=Ir h hx.mem (Is hx c hc);omega) 0 (by omega)
theorem L8(h:uE N)(hx:ue N x r t a b):mn [N.pv,x.pv]=some (.int .u64 (Gh N x:Int)):=by
 have xl:=Dx h.res r hx.mem;have hlen:=(L9 xl).2;have Nc:x.bQ.toNat<r.calls.length:=(By.1 hx.bQ).1;have ha0:=hx.QU;have hb0:=hx.Og;have bZ:=hx.lt;have hw:IntKind.i64.wrap (x.bQ+1)=x.bQ+1:=aY (by omega) (by omega);simp only[mn,ug,wK,wL,wM,wN,wO,wP,wQ,wR,wS,wT,sM,rf,rn,re,sF,q9,sE,ri,rj,pX,U,bn dL.pv hx.wI hx.run,Hb,aS,hw,BY];rw[AI (by grind)];have HJ:List.drop x.dY.toNat (List.take (x.bQ+1).toNat (r.calls.map aQ.pv))=(zW N x).map aQ.pv:=by grind [Gi,List.map_drop,List.map_take]
 rw[HJ,BY];have aj7:(zW N x).length≤32:=by rw[Gi hx];simp;omega
 refine BE (fun k(s:Nat)=>((s:Int),(zW N x).map aQ.pv,((zW N x).length:Int),(k:Int),N.stops.map Stop.pv,N.au.map aV.pv,N.runs.map dL.pv,N.bj.map bB.pv,N.paths.map Path.pv,N.aP.map aR.pv,N.bX,N.within,N.cap,())) (fun k s=>some (PV.int .u64 (L7 N ((zW N x).drop k) s:Int))) (fun k s=>s<65536) (zW N x).length (fun k hk s rec hi q7=>?_) (fun s rec hi=>?_) (by unfold rounds;omega) 0 (by omega) rfl
 ·obtain⟨st,s1,s2,s3,s4,s5⟩:=Ir h hx.mem (Is hx _ (aki hk));unfold oY;dsimp only;rw[AI (by simp;omega),bS aQ.pv _ k hk];simp only[U,Od,bn Stop.pv s2 s1,adv,aa1 hi s3 s4,aU,aj (show k<9223372036854775807 by omega)];grind [Dy,ve,vT,L7]
 ·unfold oY;dsimp only;rw[IS (by simp),alM];rfl
end
structure Rd where
 dep:Int
 arr:Int
 l7:Nat
 cr:Nat
def Rd.pv(x:Rd):PV:=.agg [.int .i64 x.dep,.int .i64 x.arr,.int .i64 (x.l7:Int),.int .i64 (x.cr:Int)]
def Gj(N:ab)(x:bp):Nat:=match vb N x with
 |some r=>(match N.au[r.fo.toNat]? with|some t=>2^t.mode.toNat|none=>0)
 |none=>0
def rdStep(N:ab)(out:List Rd)(x:bp):List Rd:=
 if x.dK=true then(if x.stay=true then(match out.getLast? with
  |some y=>out.dropLast++[⟨y.dep,x.arr,y.l7|||Gh N x,y.cr|||Gj N x⟩]
  |none=>out)
  else out++[⟨x.dep,x.arr,Gh N x,Gj N x⟩])
 else out
def fX(N:ab):List bp→List Rd→List Rd
 |[],out=>out
 |x::r,out=>fX N r (rdStep N out x)
structure Bw(N:ab)(l:List bp):Prop where
 wJ:∀k(h:k<l.length),WH N l[k]=false
 mom:∀k(h:k<l.length),JC l[k]=false
 stay:∀k(h:k<l.length),l[k].stay=true→∃j,∃h:j<l.length,k=j+1∧l[j].dK=true
def Iu(l:List bp):Nat→Bool
 |0=>false
 |k+1=>match l[k]? with|some x=>x.dK|none=>false
theorem sO{l:List bp}{k:Nat}(h:k<l.length):Iu l (k+1)=l[k].dK:=by show(match l[k]? with|some x=>x.dK|none=>false)=_;simp_all
structure JY(x:Rd):Prop where
 z:x.l7<65536
 m:x.cr<65536
 d:0≤x.dep∧x.dep≤3155932800
theorem aa2{x:bp}(h:JC x=false):0≤x.dep∧x.dep≤3155932800:=by simp_all[JC,FV,akN,ala,No,AT]
structure Q5(l:List bp)(k:Nat)(out:List Rd):Prop where
 len:out.length≤k
 ok:∀y∈out,JY y
 ne:Iu l k=true→out≠[]
section
variable {N:ab} {q:gy} {l:List bp} {k:Nat}
theorem Ma(h:uE N){x:bp}{r:dL}{t:aV}{a b:aQ}(hx:ue N x r t a b):Gj N x=2^t.mode.toNat∧0≤t.mode∧t.mode<16∧Gj N x<65536:=by
 have ht:=h.fo t hx.tm;have e:Gj N x=2^t.mode.toNat:=by unfold Gj vb;rw[AI hx.wI,hx.run];simp only[hx.fo]
 grind [ve]
theorem Gk(h:uE N)(hg:Bw N l)(hk:k<l.length){out:List Rd}(hi:Q5 l k out):Q5 l (k+1) (rdStep N out l[k]):=by
 obtain⟨_,_,hx,vp⟩:=sD (hg.wJ k hk);have acj:Iu l (k+1)=l[k].dK:=sO hk;unfold rdStep;cases hr:l[k].dK with
 |false=>exact⟨by simpa using amG hi.len,hi.ok,fun hh=>by simp_all⟩
 |true=>
  obtain⟨r,t,a,b,pP⟩:=CA h (hx hr);have hz:=It h pP;have hm:=(Ma h pP).2.2.2;rw[AI rfl];cases hs:l[k].stay with
  |true=>
   obtain⟨j,hj,rfl,hjr⟩:=hg.stay k hk hs;have cK:out≠[]:=hi.ne (by rw[sO hj];omega);rw[AI rfl,amg cK];simp only;have hy:=hi.ok _ (List.getLast_mem cK);have hl:=hi.len;have fl:0<out.length:=List.length_pos_iff.2 cK;refine⟨by simp;omega,fun y Q6=>?_,fun _=>by simp⟩;rcases aku.1 Q6 with Q6|Q6
   ·exact hi.ok _ ((List.dropLast_sublist _).subset Q6)
   ·simp only[alb]at Q6;subst Q6;exact⟨Dy hy.z hz,Dy hy.m hm,hy.d⟩
  |false=>
   rw[IS (by simp)];refine⟨by simpa using hi.len,fun y Q6=>?_,fun _=>by simp⟩;rcases aku.1 Q6 with Q6|Q6
   ·exact hi.ok _ Q6
   ·simp only[alb]at Q6;subst Q6;exact⟨hz,hm,aa2 (hg.mom k hk)⟩
theorem O2(x:bp):lj [N.pv,x.pv]=some (.bool (exB N x)):=by
 simp only[lj,sP,wK,wL,wM,wN,wO,wP,wQ,wR,wS,wT,sM,rf,rn,re,sF,q9,sE,ri,rj,pX,U,BY,bF];unfold exB vb;by_cases h0:0≤x.run
 ·by_cases h1:x.run.toNat<N.runs.length
  ·rw[AI h0,cN h1,bn dL.pv h0 (cN h1),alY h0,alY (show x.run<(N.runs.length:Int) by omega)];simp only[U,Hb,aS,BY,ak4];grind
  grind
 grind
theorem WU(init:List PV)(y v:PV):(init++[y]).set init.length v=init++[v]:=by simp
theorem Mb(init:List PV)(y:PV):(init++[y])[init.length]?=some y:=by simp
theorem rd0(x:Rd):cell x.pv 0=.int .i64 x.dep:=rfl
theorem rd1(x:Rd):cell x.pv 1=.int .i64 x.arr:=rfl
theorem rd2(x:Rd):cell x.pv 2=.int .i64 (x.l7:Int):=rfl
theorem rd3(x:Rd):cell x.pv 3=.int .i64 (x.cr:Int):=rfl
theorem afB(l:List PV)(j:Nat):cell (.agg l) j=l.getD j .bad:=rfl
theorem WV(h:uE N)(hg:Bw N l)(hl:l.length≤1000000):gr [N.pv,QS l]=some (.aO [.rs 4 ((fX N l []).map Rd.pv),.int .i64 0]):=by
 simp only[gr,pG,wK,wL,wM,wN,wO,wP,wQ,wR,wS,wT,jA,j0,U,DX,vR N h.ok h.paths,BY];simp only[wB,dn,akd,akm,Ko,U,ajc,aka,aI,h.res];rw[IS (by simp)];refine BE (fun j(out:List Rd)=>(Iu l j,l.map bp.pv,(l.length:Int),(j:Int),N.stops.map Stop.pv,N.au.map aV.pv,N.runs.map dL.pv,N.bj.map bB.pv,N.paths.map Path.pv,N.aP.map aR.pv,N.bX,N.within,N.cap,out.map Rd.pv,())) (fun j out=>some (PV.aO [.rs 4 ((fX N (l.drop j) out).map Rd.pv),.int .i64 0])) (Q5 l) l.length (fun j hj out rec hi q7=>?_) (fun out rec hi=>?_) (by unfold rounds;omega) [] ⟨by simp,by simp,fun hh=>by cases hh⟩ rfl
 ·obtain⟨_,_,hx,vp⟩:=sD (hg.wJ j hj);have Q7:=q7 _ (Gk h hg hj hi);have acj:Iu l (j+1)=l[j].dK:=sO hj;rw[vT hj];show _=some (PV.aO [.rs 4 ((fX N (l.drop (j+1)) (rdStep N out l[j])).map Rd.pv),.int .i64 0]);rw[←Q7,acj];unfold oZ;dsimp only;rw[AI (by simp;omega),bS bp.pv l j hj];simp only[U,sM,rf,rn,re,sF,q9,sE,ri,rj,pX,aaR,DX,O2,aB,bF,bf,aj (show j<9223372036854775807 by omega)];cases hr:l[j].dK with
  |false=>simp_all[IS,rdStep]
  |true=>
   obtain⟨r,t,a,b,pP⟩:=CA h (hx hr);have hz:=It h pP;obtain⟨m1,m2,m3,m4⟩:=Ma h pP;rw[IS (by simp[hx hr])];cases hs:l[j].stay with
   |false=>rw[IS (by simp),AI rfl];simp only[L8 h pP,U,aU,bn dL.pv pP.wI pP.run,Oa,aI,bn aV.pv pP.OY pP.fo,JW,Q4 m2 m3,akz,Ko];rw[AI (by simp only[ako,BY,ak5];have:=hi.len;unfold ae;omega),L6 (by omega),←m1,L6 (by omega)];unfold rdStep;rw[hr,hs,AI rfl,IS (by simp),akZ];rfl
   |true=>
    obtain⟨i,Uu,rfl,hir⟩:=hg.stay j hj hs;have cK:out≠[]:=hi.ne (by rw[sO Uu];omega);obtain⟨init,y,rfl⟩:∃init y,out=init++[y]:=⟨out.dropLast,out.getLast cK,(List.dropLast_concat_getLast cK).symm⟩;have hy:=hi.ok y (by simp);have adw:Iu l (i+1)=true:=by rw[sO Uu];omega
    have EP:=hi.len;simp only[ako,ak5]at EP;rw[adw,IS (by simp),AI rfl];simp only[L8 h pP,U,aU,bn dL.pv pP.wI pP.run,Oa,aI,bn aV.pv pP.OY pP.fo,JW,Q4 m2 m3,akf,cQ,abp];have hlen:(((init++[y]).map Rd.pv).length:Int)-1=((init.map Rd.pv).length:Int):=by simp
    have hmp:(init++[y]).map Rd.pv=init.map Rd.pv++[y.pv]:=by simp
    rw[hlen,aY (by omega) (by grind),akc,hmp];rw[AI (by unfold an;simp;omega),Mb];simp only[U,WU,Mb,rd0,rd1,rd2,rd3,afB,ajc,aka,over,aI];rw[L6 (show Gh N l[i+1]<9223372036854775808 by omega),←m1,L6 (show Gj N l[i+1]<9223372036854775808 by omega),orI hy.z hz,orI hy.m m4];unfold rdStep;rw[hr,hs,AI rfl,AI rfl,List.getLast?_append,List.getLast?_singleton];simp only[Option.some_or,List.dropLast_concat,akZ,akn,am8];rfl
 ·unfold oZ;dsimp only;rw[IS (by simp),alM];rfl
end
section
variable {N:ab} {q:gy} {l:List bp} {k:Nat}
end
def orS(f:Rd→Nat):List Rd→Nat→Nat
 |[],s=>s
 |x::r,s=>orS f r (s|||f x)
def O3(m pm:Nat):Nat:=(BitVec.ofInt 64 (m:Int)&&& ~~~BitVec.ofInt 64 (pm:Int)).toNat
theorem aa3{m pm:Nat}(h:m<65536):O3 m pm<65536:=by grind [O3,BitVec.toNat_and,adu,Nat.lt_of_le_of_lt,Nat.and_le_left]
def ack:Option Rd→Int
 |some x=>x.dep
 |none=>0
def WW(p:aR)(rs:List Rd):Bool:=decide ((rs.length:Int)≤p.cB)&&decide (ack rs.getLast? -ack rs.head?≤p.jD)&&decide ((pc (orS Rd.l7 rs 0):Int)≤p.l7)&&decide (O3 (orS Rd.cr rs 0) p.cr.toNat=0)
structure POk(p:aR):Prop where
 cB:1≤p.cB∧p.cB≤8
 jD:0≤p.jD∧p.jD≤86400
 cr:1≤p.cr∧p.cr≤255
theorem Gl{n:Int}(h0:0≤n)(h:n<18446744073709551616):IntKind.u64.wrap n=n:=by obtain⟨m,rfl⟩:∃m:Nat,n=m:=⟨n.toNat,by omega⟩;exact Iq (by omega)
theorem WX{a b d:Int}(ha:0≤a∧a≤3155932800)(hb:0≤b∧b≤3155932800)(hd:0≤d∧d≤86400):mo [.int .i64 a,.int .i64 b,.int .i64 d]=some (.bool (decide (b-a>d))):=by
 simp only[mo,uh,aI,U,bf,bF];by_cases h:b≥a
 ·rw[AI (by simpa using h),Gl (n:=a) (by omega) (by omega),Gl (n:=b) (by omega) (by omega),Gl (n:=d) (by omega) (by omega),Gl (n:=b-a) (by omega) (by omega),alC (show¬d<0 by omega)];rfl
 ·rw[IS (by simpa using h),alC (show¬d<0 by omega),alC (show¬b-a>d by omega)];rfl
theorem afC(x:Rd):Ab.asInt .i64 (cell x.pv 0)=some x.dep:=rfl
theorem aiL(x:Rd):Ab.asInt .i64 (cell x.pv 1)=some x.arr:=rfl
theorem aiM(x:Rd):Ab.asInt .i64 (cell x.pv 2)=some (x.l7:Int):=rfl
theorem aiN(x:Rd):Ab.asInt .i64 (cell x.pv 3)=some (x.cr:Int):=rfl
theorem afD(x:aR):asAgg 6 x.pv=some ():=rfl
theorem aiO(x:aR):PV.agg [cell x.pv 0,cell x.pv 1,cell x.pv 2,cell x.pv 3,cell x.pv 4,cell x.pv 5]=x.pv:=rfl
theorem acm(x:aR):Ab.bu (cell x.pv 0)=some x.id:=rfl
theorem acn(x:aR):Ab.asInt .i64 (cell x.pv 1)=some x.jU:=rfl
theorem aco(x:aR):Ab.asInt .i64 (cell x.pv 2)=some x.cB:=rfl
theorem acp(x:aR):Ab.asInt .i64 (cell x.pv 3)=some x.l7:=rfl
theorem acq(x:aR):Ab.asInt .i64 (cell x.pv 4)=some x.jD:=rfl
theorem acr(x:aR):Ab.asInt .i64 (cell x.pv 5)=some x.cr:=rfl
theorem Mc{a b:Nat}(ha:a<65536)(hb:b<65536):fZ [.int .u64 (a:Int),.int .u64 (b:Int)]=some (.int .u64 ((a|||b:Nat):Int)):=by grind [fZ,pd,aU,U,orU]
theorem O4{a b:Nat}(ha:a<65536):gV [.int .u64 (a:Int),.int .u64 (b:Int)]=some (.bool (decide (O3 a b=0))):=by simp only[gV,nU,aU,U];show some (PV.bool (IntKind.u64.wrap (((O3 a b:Nat)):Int)==0))=_;have:=aa3 (pm:=b) ha;rw[Iq (by omega),iG];simp
theorem adx{z:Nat}:Lz [.int .u64 (z:Int)]=some (.int .i64 (pc z:Int)):=by rfl
theorem TE{p:aR}(hp:POk p)(x:Rd)(xs:List Rd)(hn:xs.length≤7)(ho:∀y∈x::xs,JY y):iN [p.pv,.rs 4 ((x::xs).map Rd.pv)]=some (.bool (WW p (x::xs))):=by
 obtain⟨hr,hs,hm⟩:=hp;have acs:∃y,(x::xs).getLast? =some y∧y∈x::xs∧(x::xs)[xs.length]?=some y:=by refine⟨(x::xs).getLast (by simp),amg (by simp),List.getLast_mem _,?_⟩;grind
 obtain⟨y,y1,y2,y3⟩:=acs;simp only[iN,sQ,afD,acm,acn,aco,acp,acq,acr,aS,U,BY,akd,bf];have h0:((((xs.length+1:Nat):Int))==0)=false:=by rfl
 have hi0:fj ((x::xs).map Rd.pv) 0=some x.pv:=rfl;have hiL:fj ((x::xs).map Rd.pv) ((xs.length:Nat):Int)=some y.pv:=bn Rd.pv (by omega) (by simpa using y3);rw[h0,rM xs.length (by omega),hi0,hiL];simp only[alj,U,afC,WX (ho x (by simp)).d (ho y y2).d hs,aB];unfold WW;rw[y1,List.head?_cons];show _=some (PV.bool (decide (((xs.length+1:Nat):Int)≤p.cB)&&decide (y.dep-x.dep≤p.jD)&&decide ((pc (orS Rd.l7 (x::xs) 0):Int)≤p.l7)&&decide (O3 (orS Rd.cr (x::xs) 0) p.cr.toNat=0)));by_cases hc:((xs.length+1:Nat):Int)≤p.cB
 ·rw[alC (show¬((xs.length+1:Nat):Int)>p.cB by omega),alY hc];simp only[ak4,cond_false,U];by_cases hd:y.dep-x.dep≤p.jD
  ·rw[alC (show¬y.dep-x.dep>p.jD by omega),alY hd];rw[IS (by simp),ak4];refine BE (fun k(zm:Nat×Nat)=>((x::xs).map Rd.pv,((xs.length+1:Nat):Int),(k:Int),p.id,p.jU,p.cB,p.l7,p.jD,p.cr,(zm.1:Int),(zm.2:Int),())) (fun k zm=>some (PV.bool (decide ((pc (orS Rd.l7 ((x::xs).drop k) zm.1):Int)≤p.l7)&&decide (O3 (orS Rd.cr ((x::xs).drop k) zm.2) p.cr.toNat=0)))) (fun k zm=>zm.1<65536∧zm.2<65536) (x::xs).length (fun k hk zm rec hi q7=>?_) (fun zm rec hi=>?_) (by unfold rounds;simp;omega) (0,0) (by simp) rfl
   ·have hx:=ho _ (aki hk);unfold nV;dsimp only;rw[AI (by simp at hk⊢;omega),bS Rd.pv _ k hk];simp only[U,aiM,aiN,Iq (show((x::xs)[k]).l7<18446744073709551616 by have:=hx.z;omega),Iq (show((x::xs)[k]).cr<18446744073709551616 by have:=hx.m;omega),Mc hi.1 hx.z,Mc hi.2 hx.m,aU,aj (show k<9223372036854775807 by simp at hk;omega)];rw[q7 (_,_) ⟨Dy hi.1 hx.z,Dy hi.2 hx.m⟩,vT hk];rfl
   ·unfold nV;dsimp only;rw[IS (by simp),alM,Gl (n:=p.cr) (by omega) (by omega)];have hpm:p.cr=((p.cr.toNat:Nat):Int):=by omega
    rw[hpm];simp only[adx,U,aI,O4 hi.2,aB,bF,orS,akc];rfl
  grind
 grind
def cut(rs:List Rd)(i k:Nat):List Rd:=(rs.take (k+1)).drop i
variable{rs:List Rd}
theorem aa4{i k:Nat}(hk:k<rs.length):(cut rs i k).length=k+1-i:=by unfold cut;simp;omega
theorem aa5{i k:Nat}{x:Rd}(h:x∈cut rs i k):x∈rs:=ale (alm h)
theorem O5{p:aR}(hp:POk p){i k:Nat}(Zv:i≤k)(hk:k<rs.length)(hn:rs.length≤8)(ho:∀y∈rs,JY y):iN [p.pv,.rs 4 ((cut rs i k).map Rd.pv)]=some (.bool (WW p (cut rs i k))):=by
 have hlen:=aa4 (i:=i) hk;cases hc:cut rs i k with
 |nil=>grind
 |cons x xs=>grind [List.length_cons,TE,aa5]
theorem Gm(l:List aR)(d w c:Int):asAgg 4 (fE l d w c)=some ():=rfl
theorem Gn(l:List aR)(d w c:Int):aw 6 (cell (fE l d w c) 0)=some (l.map aR.pv):=rfl
theorem Gp(l:List aR)(d w c:Int):Ab.asInt .i64 (cell (fE l d w c) 1)=some d:=rfl
theorem Gq(l:List aR)(d w c:Int):Ab.asInt .i64 (cell (fE l d w c) 2)=some w:=rfl
theorem Gs(l:List aR)(d w c:Int):Ab.asInt .i64 (cell (fE l d w c) 3)=some c:=rfl
theorem Iv(l:List aR)(d w c:Int):PV.agg [.rs 6 (l.map aR.pv),.int .i64 d,.int .i64 w,.int .i64 c]=fE l d w c:=rfl
end Go.Ab.Tt
