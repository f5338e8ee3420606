import Derived.Test.YtanikidijjaohaaGreatFbP1
namespace Go.Ab.Tt
set_option maxRecDepth 100000
set_option linter.unusedVariables false
set_option linter.unusedSimpArgs false
variable{a:Nat}
theorem Oq(h:a<18446744073709551616):(BitVec.ofInt 64 (a:Int)).toNat=a:=by rw[BitVec.ofInt_natCast,BitVec.toNat_ofNat,Nat.mod_eq_of_lt h]
theorem GR(h:a<18446744073709551616):IntKind.u64.wrap (a:Int)=(a:Int):=by simp only[IntKind.wrap,IntKind.signed,IntKind.bits];simp;omega
theorem B2(h:a<9223372036854775808):IntKind.i64.wrap (a:Int)=(a:Int):=bF (by omega) (by omega)
theorem wq{b:Nat}(ha:a<65536)(hb:b<65536):a|||b<65536:=Nat.or_lt_two_pow (n:=16) ha hb
theorem orI{b:Nat}(ha:a<65536)(hb:b<65536):IntKind.i64.wrap ((BitVec.ofInt IntKind.i64.bits (a:Int)|||BitVec.ofInt IntKind.i64.bits (b:Int)).toNat:Int)=((a|||b:Nat):Int):=by show IntKind.i64.wrap (((BitVec.ofInt 64 (a:Int)|||BitVec.ofInt 64 (b:Int)).toNat:Nat):Int)=_;rw[BitVec.toNat_or,Oq (by omega),Oq (by omega)];exact B2 (by have:=wq ha hb;omega)
theorem orU{b:Nat}(ha:a<65536)(hb:b<65536):IntKind.u64.wrap ((BitVec.ofInt IntKind.u64.bits (a:Int)|||BitVec.ofInt IntKind.u64.bits (b:Int)).toNat:Int)=((a|||b:Nat):Int):=by show IntKind.u64.wrap (((BitVec.ofInt 64 (a:Int)|||BitVec.ofInt 64 (b:Int)).toNat:Nat):Int)=_;rw[BitVec.toNat_or,Oq (by omega),Oq (by omega)];exact GR (by have:=wq ha hb;omega)
theorem mH{z:Nat}(h:z<16):2^z<65536:=(Nat.pow_lt_pow_right (a:=2) (by decide) h:2^z<2^16)
variable{z:Int}
theorem shU(h0:0≤z)(h:z<16):IntKind.u64.wrap (1*2^min z.toNat IntKind.u64.bits)=((2^z.toNat:Nat):Int):=by
 have h1:min z.toNat IntKind.u64.bits=z.toNat:=Nat.min_eq_left (by show z.toNat≤64;omega);have h2:z.toNat<16:=by omega
 rw[h1,Int.one_mul];have:=mH h2;have e:((2:Int)^z.toNat)=((2^z.toNat:Nat):Int):=by simp
 rw[e];exact GR (by omega)
theorem aU(n:Int):Ab.asInt .u64 (.int .u64 n)=some n:=rfl
theorem EB(h0:0≤z)(h:z<16):kB [.int .i64 z]=some (.int .u64 ((2^z.toNat:Nat):Int)):=by simp only[kB,yA,aI,U,aW];rw[if_neg (by simp;omega),if_neg (by omega),shU h0 h]
theorem XT{s:Nat}(hs:s<65536)(h0:0≤z)(h:z<16):gy [.int .u64 (s:Int),.int .i64 z]=some (.int .u64 ((s|||2^z.toNat:Nat):Int)):=by simp only[gy,o9,aU,aI,U,EB h0 h];rw[orU hs (mH (by omega))]
theorem QG(h0:0≤z)(h:z<16):oH [.rs 1 [.int .i64 z]]=some (.int .u64 ((2^z.toNat:Nat):Int)):=by
 simp only[oH,A0,aS,U,List.length_singleton];refine bT (fun k=>(((if k=0 then 0 else 2^z.toNat:Nat):Int),[PV.int .i64 z],1,(k:Int),())) 1 (fun k hk rec=>?_) (fun rec=>?_) (by unfold rounds;omega) rfl
 ·have:k=0:=by omega
  subst this;unfold uH;dsimp only;have hc:cell (PV.int .i64 z) 0=PV.int .i64 z:=rfl;have hi:aO [PV.int .i64 z] ((0:Nat):Int)=some (PV.int .i64 z):=rfl;rw[if_pos (by simp),hi];simp only[U,hc,aI,EB h0 h,aU,if_true];rw[orU (by omega) (mH (by omega)),Nat.zero_or];rfl
 ·unfold uH;dsimp only;rw[if_neg (by simp)];rfl
def H6(N:ag)(c:cO):Nat:=match N.stops[c.stop.toNat]? with|some s=>s.pe.toNat|none=>0
def EC(N:ag):List cO→Nat→Nat
 |[],s=>s
 |c::r,s=>EC N r (s|||2^H6 N c)
def pC(N:ag)(x:cw):List cO:=match xi N x with|some r=>(r.calls.take (x.bl.toNat+1)).drop x.dc.toNat|none=>[]
def A4(N:ag)(x:cw):Nat:=EC N (pC N x) 0
theorem Vw{N:ag}(cs:List cO)(h:∀c∈cs,H6 N c<16):∀s,s<65536→EC N cs s<65536:=by
 induction cs with
 |nil=>intro s hs;exact hs
 |cons c r ih=>intro s hs;exact ih (fun c hc=>h c (by simp[hc])) _ (wq hs (mH (h c (by simp))))
theorem Vx(x:Stop):Ab.asInt .i64 (cell x.pv 1)=some x.pe:=rfl
section
variable {N:ag} {q:jw}
variable{r:dS}
theorem A5(h:rH N)(hr:r∈N.runs){c:cO}(hc:c∈r.calls):∃s,N.stops[c.stop.toNat]?=some s∧0≤c.stop∧0≤s.pe∧s.pe<16∧H6 N c=s.pe.toNat:=by obtain⟨s,h1,h2,h3⟩:=h.call r hr c hc;obtain⟨a,b,_⟩:=h.stop s h3;exact⟨s,h1,h2,a,b,by unfold H6;rw[h1]⟩
variable{x:cw}{t:aG}{a b:cO}
theorem wu(hx:pf N x r t a b):pC N x=(r.calls.take (x.bl.toNat+1)).drop x.dc.toNat:=by unfold pC xi;rw[if_pos hx.uF,hx.run]
theorem A6(hx:pf N x r t a b):∀c∈pC N x,c∈r.calls:=by intro c hc;rw[wu hx]at hc;exact List.mem_of_mem_take (List.mem_of_mem_drop hc)
theorem A7(h:rH N)(hx:pf N x r t a b):A4 N x<65536:=Vw _ (fun c hc=>by obtain⟨s,_,_,_,_,e⟩:=A5 h hx.mem (A6 hx c hc);omega) 0 (by omega)
theorem Ke(h:rH N)(hx:pf N x r t a b):jh [N.pv,x.pv]=some (.int .u64 (A4 N x:Int)):=by
 have sP:=wo h.res r hx.mem;have hlen:=(B3 sP).2;have Hx:x.bl.toNat<r.calls.length:=(List.getElem?_eq_some_iff.1 hx.bl).1;have ha0:=hx.zI;have hb0:=hx.HY;have bm:=hx.lt;have hw:IntKind.i64.wrap (x.bl+1)=x.bl+1:=bF (by omega) (by omega);simp only[jh,sy,gL,gM,gN,gO,gP,gQ,gR,gS,gT,gU,iE,gK,iR,iS,iT,iU,iV,iW,iX,ir,U,ba dS.pv hx.uF hx.run,zJ,aS,hw,List.length_map];rw[if_pos (by refine⟨hb0,by omega,by omega,?_⟩;simp)];have BK:List.drop x.dc.toNat (List.take (x.bl+1).toNat (r.calls.map cO.pv))=(pC N x).map cO.pv:=by rw[wu hx,show(x.bl+1).toNat=x.bl.toNat+1 by omega,List.map_drop,List.map_take]
 rw[BK,List.length_map];have afN:(pC N x).length≤32:=by rw[wu hx];simp;omega
 refine mG (fun k(s:Nat)=>((s:Int),(pC N x).map cO.pv,((pC N x).length:Int),(k:Int),N.stops.map Stop.pv,N.au.map aG.pv,N.runs.map dS.pv,N.aJ.map bg.pv,N.paths.map Path.pv,N.aR.map aH.pv,N.bu,N.within,N.cap,())) (fun k s=>some (PV.int .u64 (EC N ((pC N x).drop k) s:Int))) (fun k s=>s<65536) (pC N x).length (fun k hk s rec hi fM=>?_) (fun s rec hi=>?_) (by unfold rounds;omega) 0 (by omega) rfl
 ·obtain⟨st,s1,s2,s3,s4,s5⟩:=A5 h hx.mem (A6 hx _ (List.getElem_mem hk));unfold nL;dsimp only;rw[if_pos (by simp;omega),cG cO.pv _ k hk];simp only[U,H2,ba Stop.pv s2 s1,Vx,XT hi s3 s4,aU,ai (show k<9223372036854775807 by omega)];rw[fM _ (wq hi (mH (by omega))),jJ hk];simp only[EC,s5]
 ·unfold nL;dsimp only;rw[if_neg (by simp),List.drop_length];rfl
end
end Go.Ab.Tt
namespace Go.Ab.Tt
set_option maxRecDepth 100000
set_option linter.unusedVariables false
set_option linter.unusedSimpArgs false
structure Rd where
 dep:Int
 arr:Int
 gI:Nat
 bn:Nat
def Rd.pv(x:Rd):PV:=.agg [.int .i64 x.dep,.int .i64 x.arr,.int .i64 (x.gI:Int),.int .i64 (x.bn:Int)]
def EE(N:ag)(x:cw):Nat:=match xi N x with
 |some r=>(match N.au[r.eC.toNat]? with|some t=>2^t.mode.toNat|none=>0)
 |none=>0
def rdStep(N:ag)(out:List Rd)(x:cw):List Rd:=
 if x.dr=true then(if x.stay=true then(match out.getLast? with
  |some y=>out.dropLast++[⟨y.dep,x.arr,y.gI|||A4 N x,y.bn|||EE N x⟩]
  |none=>out)
  else out++[⟨x.dep,x.arr,A4 N x,EE N x⟩])
 else out
def jx(N:ag):List cw→List Rd→List Rd
 |[],out=>out
 |x::r,out=>jx N r (rdStep N out x)
structure B4(N:ag)(l:List cw):Prop where
 leg:∀k(h:k<l.length),GL N l[k]=false
 mom:∀k(h:k<l.length),Cr l[k]=false
 stay:∀k(h:k<l.length),l[k].stay=true→∃j,∃h:j<l.length,k=j+1∧l[j].dr=true
def GU(l:List cw):Nat→Bool
 |0=>false
 |k+1=>match l[k]? with|some x=>x.dr|none=>false
theorem nM{l:List cw}{k:Nat}(h:k<l.length):GU l (k+1)=l[k].dr:=by show(match l[k]? with|some x=>x.dr|none=>false)=_;rw[List.getElem?_eq_getElem h]
structure A8(x:Rd):Prop where
 z:x.gI<65536
 m:x.bn<65536
 d:0≤x.dep∧x.dep≤3155932800
theorem QH{x:cw}(h:Cr x=false):0≤x.dep∧x.dep≤3155932800:=by unfold Cr od at h;simp only[Bool.or_eq_false_iff,Bool.not_eq_false',Bool.and_eq_true,decide_eq_true_eq]at h;exact⟨h.1.1,h.1.2⟩
structure Kf(l:List cw)(k:Nat)(out:List Rd):Prop where
 len:out.length≤k
 ok:∀y∈out,A8 y
 ne:GU l k=true→out≠[]
section
variable {N:ag} {q:jw} {l:List cw} {k:Nat}
theorem EF(h:rH N){x:cw}{r:dS}{t:aG}{a b:cO}(hx:pf N x r t a b):EE N x=2^t.mode.toNat∧0≤t.mode∧t.mode<16∧EE N x<65536:=by
 have ht:=h.eC t hx.tm;have e:EE N x=2^t.mode.toNat:=by unfold EE xi;rw[if_pos hx.uF,hx.run];simp only[hx.eC]
 exact⟨e,ht.1,by omega,by rw[e];exact mH (by omega)⟩
theorem yN(h:rH N)(hg:B4 N l)(hk:k<l.length){out:List Rd}(hi:Kf l k out):Kf l (k+1) (rdStep N out l[k]):=by
 obtain⟨_,_,hx,oQ⟩:=q8 (hg.leg k hk);have Vy:GU l (k+1)=l[k].dr:=nM hk;unfold rdStep;cases hr:l[k].dr with
 |false=>exact⟨by simpa using Nat.le_succ_of_le hi.len,hi.ok,fun hh=>by rw[Vy,hr]at hh;cases hh⟩
 |true=>
  obtain⟨r,t,a,b,je⟩:=yL h (hx hr);have hz:=A7 h je;have hm:=(EF h je).2.2.2;rw[if_pos rfl];cases hs:l[k].stay with
  |true=>
   obtain⟨j,hj,rfl,hjr⟩:=hg.stay k hk hs;have cB:out≠[]:=hi.ne (by rw[nM hj];exact hjr);rw[if_pos rfl,List.getLast?_eq_some_getLast cB];simp only;have hy:=hi.ok _ (List.getLast_mem cB);have hl:=hi.len;have ec:0<out.length:=List.length_pos_iff.2 cB;refine⟨by simp;omega,fun y St=>?_,fun _=>by simp⟩;rcases List.mem_append.1 St with St|St
   ·exact hi.ok _ ((List.dropLast_sublist _).subset St)
   ·simp only[List.mem_singleton]at St;subst St;exact⟨wq hy.z hz,wq hy.m hm,hy.d⟩
  |false=>
   rw[if_neg (by simp)];refine⟨by simpa using hi.len,fun y St=>?_,fun _=>by simp⟩;rcases List.mem_append.1 St with St|St
   ·exact hi.ok _ St
   ·simp only[List.mem_singleton]at St;subst St;exact⟨hz,hm,QH (hg.mom k hk)⟩
theorem Ot(x:cw):iw [N.pv,x.pv]=some (.bool (WJ N x)):=by
 simp only[iw,qP,gL,gM,gN,gO,gP,gQ,gR,gS,gT,gU,iE,gK,iR,iS,iT,iU,iV,iW,iX,ir,U,List.length_map,aZ];unfold WJ xi;by_cases h0:0≤x.run
 ·by_cases h1:x.run.toNat<N.runs.length
  ·rw[if_pos h0,List.getElem?_eq_getElem h1,ba dS.pv h0 (List.getElem?_eq_getElem h1),decide_eq_true h0,decide_eq_true (show x.run<(N.runs.length:Int) by omega)];simp only[U,zJ,aS,List.length_map,Bool.true_and];by_cases c1:0≤x.dc<;>by_cases c2:x.dc<x.bl<;>simp[c1,c2]
  ·rw[if_pos h0,List.getElem?_eq_none (by omega),decide_eq_true h0,decide_eq_false (show¬x.run<(N.runs.length:Int) by omega)];rfl
 ·rw[if_neg h0,decide_eq_false h0];rfl
theorem Kg(init:List PV)(y v:PV):(init++[y]).set init.length v=init++[v]:=by rw[List.set_append_right _ _ (Nat.le_refl _),Nat.sub_self];rfl
theorem zN(init:List PV)(y:PV):(init++[y])[init.length]?=some y:=by rw[List.getElem?_append_right (Nat.le_refl _),Nat.sub_self];rfl
theorem rd0(x:Rd):cell x.pv 0=.int .i64 x.dep:=rfl
theorem rd1(x:Rd):cell x.pv 1=.int .i64 x.arr:=rfl
theorem rd2(x:Rd):cell x.pv 2=.int .i64 (x.gI:Int):=rfl
theorem rd3(x:Rd):cell x.pv 3=.int .i64 (x.bn:Int):=rfl
theorem Zx(l:List PV)(j:Nat):cell (.agg l) j=l.getD j .bad:=rfl
theorem Vz(h:rH N)(hg:B4 N l)(hl:l.length≤1000000):jj [N.pv,yJ l]=some (.bt [.rs 4 ((jx N l []).map Rd.pv),.int .i64 0]):=by
 simp only[jj,sB,gL,gM,gN,gO,gP,gQ,gR,gS,gT,gU,jA,j0,U,l8,Es N h.ok h.paths,List.length_map];simp only[gH,cP,List.length_cons,List.length_nil,if_true,U,List.getD_cons_zero,List.getD_cons_succ,aI,h.res];rw[if_neg (by decide)];refine mG (fun j(out:List Rd)=>(GU l j,l.map cw.pv,(l.length:Int),(j:Int),N.stops.map Stop.pv,N.au.map aG.pv,N.runs.map dS.pv,N.aJ.map bg.pv,N.paths.map Path.pv,N.aR.map aH.pv,N.bu,N.within,N.cap,out.map Rd.pv,())) (fun j out=>some (PV.bt [.rs 4 ((jx N (l.drop j) out).map Rd.pv),.int .i64 0])) (Kf l) l.length (fun j hj out rec hi fM=>?_) (fun out rec hi=>?_) (by unfold rounds;omega) [] ⟨by simp,by simp,fun hh=>by cases hh⟩ rfl
 ·obtain⟨_,_,hx,oQ⟩:=q8 (hg.leg j hj);have VA:=fM _ (yN h hg hj hi);have Vy:GU l (j+1)=l[j].dr:=nM hj;rw[jJ hj];show _=some (PV.bt [.rs 4 ((jx N (l.drop (j+1)) (rdStep N out l[j])).map Rd.pv),.int .i64 0]);rw[←VA,Vy];unfold nN;dsimp only;rw[if_pos (by simp;omega),cG cw.pv l j hj];simp only[U,iE,gK,iR,iS,iT,iU,iV,iW,iX,ir,Sj,l8,Ot,aB,aZ,aW,ai (show j<9223372036854775807 by omega)];cases hr:l[j].dr with
  |false=>have hs:=oQ hr;rw[hs,if_neg (by simp),if_neg (by simp),if_neg (by simp)];unfold rdStep;rw[hr,if_neg (by simp)]
  |true=>
   obtain⟨r,t,a,b,je⟩:=yL h (hx hr);have hz:=A7 h je;obtain⟨m1,m2,m3,m4⟩:=EF h je;rw[if_neg (by simp[hx hr])];cases hs:l[j].stay with
   |false=>rw[if_neg (by simp),if_pos rfl];simp only[Ke h je,U,aU,ba dS.pv je.uF je.run,J3,aI,ba aG.pv je.A2 je.eC,w7,QG m2 m3,Bool.not_false,if_true];rw[if_pos (by simp only[List.length_append,List.length_map,List.length_singleton];have:=hi.len;unfold an;omega),B2 (by omega),←m1,B2 (by omega)];unfold rdStep;rw[hr,hs,if_pos rfl,if_neg (by simp),List.map_append];rfl
   |true=>
    obtain⟨i,Hz,rfl,hir⟩:=hg.stay j hj hs;have cB:out≠[]:=hi.ne (by rw[nM Hz];exact hir);obtain⟨init,y,rfl⟩:∃init y,out=init++[y]:=⟨out.dropLast,out.getLast cB,(List.dropLast_concat_getLast cB).symm⟩;have hy:=hi.ok y (by simp);have aaK:GU l (i+1)=true:=by rw[nM Hz];exact hir
    have xZ:=hi.len;simp only[List.length_append,List.length_singleton]at xZ;rw[aaK,if_neg (by simp),if_pos rfl];simp only[Ke h je,U,aU,ba dS.pv je.uF je.run,J3,aI,ba aG.pv je.A2 je.eC,w7,QG m2 m3,Bool.not_true,Bool.false_eq_true,if_false];have hlen:(((init++[y]).map Rd.pv).length:Int)-1=((init.map Rd.pv).length:Int):=by simp
    have hmp:(init++[y]).map Rd.pv=init.map Rd.pv++[y.pv]:=by simp
    rw[hlen,bF (by simp only[List.length_map];omega) (by simp only[List.length_map];omega),Int.toNat_natCast,hmp];rw[if_pos (by unfold ah;simp;omega),zN];simp only[U,Kg,zN,rd0,rd1,rd2,rd3,Zx,List.getD_cons_zero,List.getD_cons_succ,over,aI];rw[B2 (show A4 N l[i+1]<9223372036854775808 by omega),←m1,B2 (show EE N l[i+1]<9223372036854775808 by omega),orI hy.z hz,orI hy.m m4];unfold rdStep;rw[hr,hs,if_pos rfl,if_pos rfl,List.getLast?_append,List.getLast?_singleton];simp only[Option.some_or,List.dropLast_concat,List.map_append,List.map_cons,List.map_nil];rfl
 ·unfold nN;dsimp only;rw[if_neg (by simp),List.drop_length];rfl
end
end Go.Ab.Tt
namespace Go.Ab.Tt
set_option maxRecDepth 100000
set_option linter.unusedVariables false
set_option linter.unusedSimpArgs false
section
variable {N:ag} {q:jw} {l:List cw} {k:Nat}
end
end Go.Ab.Tt
namespace Go.Ab.Tt
set_option maxRecDepth 100000
set_option linter.unusedVariables false
set_option linter.unusedSimpArgs false
def VB(f:Rd→Nat):List Rd→Nat→Nat
 |[],s=>s
 |x::r,s=>VB f r (s|||f x)
def Cs(m pm:Nat):Nat:=(BitVec.ofInt 64 (m:Int)&&& ~~~BitVec.ofInt 64 (pm:Int)).toNat
theorem QI{m pm:Nat}(h:m<65536):Cs m pm<65536:=by unfold Cs;rw[BitVec.toNat_and,Oq (by omega)];exact Nat.lt_of_le_of_lt Nat.and_le_left h
def GV:Option Rd→Int
 |some x=>x.dep
 |none=>0
def nO(p:aH)(rs:List Rd):Bool:=decide ((rs.length:Int)≤p.cE)&&decide (GV rs.getLast? -GV rs.head?≤p.fa)&&decide ((pc (VB Rd.gI rs 0):Int)≤p.gI)&&decide (Cs (VB Rd.bn rs 0) p.bn.toNat=0)
structure VC(p:aH):Prop where
 cE:1≤p.cE∧p.cE≤8
 fa:0≤p.fa∧p.fa≤86400
 bn:1≤p.bn∧p.bn≤255
theorem uI{n:Int}(h0:0≤n)(h:n<18446744073709551616):IntKind.u64.wrap n=n:=by obtain⟨m,rfl⟩:∃m:Nat,n=m:=⟨n.toNat,by omega⟩;exact GR (by omega)
theorem VD{a b d:Int}(ha:0≤a∧a≤3155932800)(hb:0≤b∧b≤3155932800)(hd:0≤d∧d≤86400):jl [.int .i64 a,.int .i64 b,.int .i64 d]=some (.bool (decide (b-a>d))):=by
 simp only[jl,sH,aI,U,aW,aZ];by_cases h:b≥a
 ·rw[if_pos (by simpa using h),uI (n:=a) (by omega) (by omega),uI (n:=b) (by omega) (by omega),uI (n:=d) (by omega) (by omega),uI (n:=b-a) (by omega) (by omega),decide_eq_false (show¬d<0 by omega)];rfl
 ·rw[if_neg (by simpa using h),decide_eq_false (show¬d<0 by omega),decide_eq_false (show¬b-a>d by omega)];rfl
theorem XV(x:Rd):Ab.asInt .i64 (cell x.pv 0)=some x.dep:=rfl
theorem acb(x:Rd):Ab.asInt .i64 (cell x.pv 1)=some x.arr:=rfl
theorem acd(x:Rd):Ab.asInt .i64 (cell x.pv 2)=some (x.gI:Int):=rfl
theorem ace(x:Rd):Ab.asInt .i64 (cell x.pv 3)=some (x.bn:Int):=rfl
theorem XW(x:aH):asAgg 6 x.pv=some ():=rfl
theorem acf(x:aH):PV.agg [cell x.pv 0,cell x.pv 1,cell x.pv 2,cell x.pv 3,cell x.pv 4,cell x.pv 5]=x.pv:=rfl
theorem QJ(x:aH):Ab.cR (cell x.pv 0)=some x.id:=rfl
theorem QK(x:aH):Ab.asInt .i64 (cell x.pv 1)=some x.rZ:=rfl
theorem QL(x:aH):Ab.asInt .i64 (cell x.pv 2)=some x.cE:=rfl
theorem QM(x:aH):Ab.asInt .i64 (cell x.pv 3)=some x.gI:=rfl
theorem QN(x:aH):Ab.asInt .i64 (cell x.pv 4)=some x.fa:=rfl
theorem QO(x:aH):Ab.asInt .i64 (cell x.pv 5)=some x.bn:=rfl
theorem Kh{a b:Nat}(ha:a<65536)(hb:b<65536):ev [.int .u64 (a:Int),.int .u64 (b:Int)]=some (.int .u64 ((a|||b:Nat):Int)):=by simp only[ev,nF,aU,U,orU ha hb]
theorem Ov{a b:Nat}(ha:a<65536):fg [.int .u64 (a:Int),.int .u64 (b:Int)]=some (.bool (decide (Cs a b=0))):=by simp only[fg,mz,aU,U];show some (PV.bool (IntKind.u64.wrap (((Cs a b:Nat)):Int)==0))=_;have:=QI (pm:=b) ha;rw[GR (by omega),ga];by_cases h:Cs a b=0<;>simp[h]
theorem aaM{z:Nat}:Gv [.int .u64 (z:Int)]=some (.int .i64 (pc z:Int)):=by simp only[Gv,Int.toNat_natCast]
theorem Sv{p:aH}(hp:VC p)(x:Rd)(xs:List Rd)(hn:xs.length≤7)(ho:∀y∈x::xs,A8 y):fC [p.pv,.rs 4 ((x::xs).map Rd.pv)]=some (.bool (nO p (x::xs))):=by
 obtain⟨hr,hs,hm⟩:=hp;have EA:∃y,(x::xs).getLast? =some y∧y∈x::xs∧(x::xs)[xs.length]?=some y:=by refine⟨(x::xs).getLast (by simp),List.getLast?_eq_some_getLast (by simp),List.getLast_mem _,?_⟩;rw[List.getLast_eq_getElem];exact List.getElem?_eq_getElem (by simp)
 obtain⟨y,y1,y2,y3⟩:=EA;simp only[fC,qK,XW,QJ,QK,QL,QM,QN,QO,aS,U,List.length_map,List.length_cons,aW];have h0:((((xs.length+1:Nat):Int))==0)=false:=by simp;omega
 have hi0:aO ((x::xs).map Rd.pv) 0=some x.pv:=rfl;have hiL:aO ((x::xs).map Rd.pv) ((xs.length:Nat):Int)=some y.pv:=ba Rd.pv (by omega) (by simpa using y3);rw[h0,lW xs.length (by omega),hi0,hiL];simp only[Bool.false_or,U,XV,VD (ho x (by simp)).d (ho y y2).d hs,aB];unfold nO;rw[y1,List.head?_cons];show _=some (PV.bool (decide (((xs.length+1:Nat):Int)≤p.cE)&&decide (y.dep-x.dep≤p.fa)&&decide ((pc (VB Rd.gI (x::xs) 0):Int)≤p.gI)&&decide (Cs (VB Rd.bn (x::xs) 0) p.bn.toNat=0)));by_cases hc:((xs.length+1:Nat):Int)≤p.cE
 ·rw[decide_eq_false (show¬((xs.length+1:Nat):Int)>p.cE by omega),decide_eq_true hc];simp only[Bool.true_and,cond_false,U];by_cases hd:y.dep-x.dep≤p.fa
  ·rw[decide_eq_false (show¬y.dep-x.dep>p.fa by omega),decide_eq_true hd];rw[if_neg (by simp),Bool.true_and];refine mG (fun k(zm:Nat×Nat)=>((x::xs).map Rd.pv,((xs.length+1:Nat):Int),(k:Int),p.id,p.rZ,p.cE,p.gI,p.fa,p.bn,(zm.1:Int),(zm.2:Int),())) (fun k zm=>some (PV.bool (decide ((pc (VB Rd.gI ((x::xs).drop k) zm.1):Int)≤p.gI)&&decide (Cs (VB Rd.bn ((x::xs).drop k) zm.2) p.bn.toNat=0)))) (fun k zm=>zm.1<65536∧zm.2<65536) (x::xs).length (fun k hk zm rec hi fM=>?_) (fun zm rec hi=>?_) (by unfold rounds;simp;omega) (0,0) (by simp) rfl
   ·have hx:=ho _ (List.getElem_mem hk);unfold mI;dsimp only;rw[if_pos (by simp at hk⊢;omega),cG Rd.pv _ k hk];simp only[U,acd,ace,GR (show((x::xs)[k]).gI<18446744073709551616 by have:=hx.z;omega),GR (show((x::xs)[k]).bn<18446744073709551616 by have:=hx.m;omega),Kh hi.1 hx.z,Kh hi.2 hx.m,aU,ai (show k<9223372036854775807 by simp at hk;omega)];rw[fM (_,_) ⟨wq hi.1 hx.z,wq hi.2 hx.m⟩,jJ hk];rfl
   ·unfold mI;dsimp only;rw[if_neg (by simp),List.drop_length,uI (n:=p.bn) (by omega) (by omega)];have hpm:p.bn=((p.bn.toNat:Nat):Int):=by omega
    rw[hpm];simp only[aaM,U,aI,Ov hi.2,aB,aZ,VB,Int.toNat_natCast];rfl
  ·rw[decide_eq_true (show y.dep-x.dep>p.fa by omega),decide_eq_false hd];rfl
 ·rw[decide_eq_true (show((xs.length+1:Nat):Int)>p.cE by omega),decide_eq_false hc];rfl
end Go.Ab.Tt
namespace Go.Ab.Tt
set_option maxRecDepth 100000
set_option linter.unusedVariables false
set_option linter.unusedSimpArgs false
def cut(rs:List Rd)(i k:Nat):List Rd:=(rs.take (k+1)).drop i
variable{rs:List Rd}{i:Nat}
theorem QP{k:Nat}(hk:k<rs.length):(cut rs i k).length=k+1-i:=by unfold cut;simp;omega
theorem QQ{k:Nat}{x:Rd}(h:x∈cut rs i k):x∈rs:=List.mem_of_mem_take (List.mem_of_mem_drop h)
theorem Ox{p:aH}(hp:VC p){k:Nat}(Ct:i≤k)(hk:k<rs.length)(hn:rs.length≤8)(ho:∀y∈rs,A8 y):fC [p.pv,.rs 4 ((cut rs i k).map Rd.pv)]=some (.bool (nO p (cut rs i k))):=by
 have hlen:=QP (i:=i) hk;cases hc:cut rs i k with
 |nil=>rw[hc]at hlen;simp at hlen;omega
 |cons x xs=>rw[hc]at hlen;simp only[List.length_cons]at hlen;exact Sv hp x xs (by omega) (fun y hy=>ho y (QQ (by rw[hc];exact hy)))
theorem xJ(l:List aH)(d w c:Int):asAgg 4 (df l d w c)=some ():=rfl
theorem xK(l:List aH)(d w c:Int):aa 6 (cell (df l d w c) 0)=some (l.map aH.pv):=rfl
theorem xM(l:List aH)(d w c:Int):Ab.asInt .i64 (cell (df l d w c) 1)=some d:=rfl
theorem xO(l:List aH)(d w c:Int):Ab.asInt .i64 (cell (df l d w c) 2)=some w:=rfl
theorem xR(l:List aH)(d w c:Int):Ab.asInt .i64 (cell (df l d w c) 3)=some c:=rfl
theorem EI(l:List aH)(d w c:Int):PV.agg [.rs 6 (l.map aH.pv),.int .i64 d,.int .i64 w,.int .i64 c]=df l d w c:=rfl
theorem Ki(a b d:Int):∃r,kW [.int .i64 a,.int .i64 b,.int .i64 d]=some (.bool r):=by simp only[kW,wg,aI,U,aW];exact⟨_,rfl⟩
theorem Oy(l:List aH)(d w c:Int)(p:aH)(hi:i<rs.length)(hn:rs.length≤8):∃v,ey [df l d w c,p.pv,.rs 4 (rs.map Rd.pv),.int .i64 (i:Int)]=some (.int .i64 v):=by
 simp only[ey,nC,xJ,xK,xM,xO,xR,XW,QJ,QK,QL,QM,QN,QO,aS,aI,U];cases i with
 |zero=>exact⟨_,rfl⟩
 |succ i=>rw[decide_eq_true (show((i+1:Nat):Int)>0 by omega),lW i (by omega),cG Rd.pv rs i (by omega),cG Rd.pv rs (i+1) hi];simp only[cond_true,U,XV,acb];obtain⟨r,hr⟩:=Ki rs[i].arr rs[i+1].dep w;rw[hr];simp only[U,aB];cases r<;>exact⟨_,rfl⟩
end Go.Ab.Tt
namespace Go.Ab.Tt
set_option maxRecDepth 100000
set_option linter.unusedVariables false
set_option linter.unusedSimpArgs false
theorem w8{S R X Z:Type}{body:Z→S→(S→Option R)→Option R}(st:Nat→X→S)(fin:Z→X→Option R)(I:Nat→X→Prop)(n:Nat)(h:∀k,k<n→∀e,I k e→∃e',I (k+1) e'∧∀z rec,body z (st k e) rec=rec (st (k+1) e'))(nv:∀z e rec,I n e→body z (st n e) rec=fin z e)(hn:n<rounds)(e:X)(he:I 0 e){s0:S}(h0:st 0 e=s0):∃e',I n e'∧∀z,bC.run (body z) s0=fin z e':=by
 have key:∀(m j N:Nat)(e:X),j+m=n→m<N→I j e→∃e',I n e'∧∀z,c7 (body z) N (st j e)=fin z e':=by
  intro m;induction m with
  |zero=>
   intro j N e hj hN hi;cases N with
   |zero=>omega
   |succ N=>
    simp only[c7];have:j=n:=by omega
    subst this;exact⟨e,hi,fun z=>nv z _ _ hi⟩
  |succ m ih=>
   intro j N e hj hN hi;cases N with
   |zero=>omega
   |succ N=>simp only[c7];obtain⟨e',ny,hb⟩:=h j (by omega) e hi;obtain⟨e2,h2,h3⟩:=ih (j+1) N e' (by omega) (by omega) ny;exact⟨e2,h2,fun z=>by rw[hb];exact h3 z⟩
 rw[←h0];simp only[mf];exact key n 0 rounds e (by omega) hn he
theorem Ia{X:Type}{A B C:X→Prop}(h:∀x,A x→B x)(he:∃x,A x∧C x):∃x,B x∧C x:=he.imp fun x hx=>⟨h x hx.1,hx.2⟩
inductive zO(P:List aH)(rs:List Rd):Nat→Prop
 |fin:zO P rs rs.length
 |step (i k:Nat):i≤k→k<rs.length→zO P rs (k+1)→P.any (fun p=>nO p (cut rs i k))=true→zO P rs i
theorem zO.inv{P:List aH}{rs:List Rd}{i:Nat}(h:zO P rs i)(hi:i<rs.length):∃k,i≤k∧k<rs.length∧zO P rs (k+1)∧P.any (fun p=>nO p (cut rs i k))=true:=by
 cases h with
 |fin=>omega
 |step _ k h1 h2 h3 h4=>exact⟨k,h1,h2,h3,h4⟩
structure Rs where
 ok:Bool
 sum:Int
 VE:Int
 p:Int
 f:Int
 l:Int
 rZ:Int
def Rs.pv(x:Rs):PV:=.agg [.bool x.ok,.int .i64 x.sum,.int .i64 x.VE,.int .i64 x.p,.int .i64 x.f,.int .i64 x.l,.int .i64 x.rZ]
theorem rsA(x:Rs):asAgg 7 x.pv=some ():=rfl
theorem rs0(x:Rs):Ab.asBool (cell x.pv 0)=some x.ok:=rfl
theorem rs1(x:Rs):Ab.asInt .i64 (cell x.pv 1)=some x.sum:=rfl
theorem rs2(x:Rs):Ab.asInt .i64 (cell x.pv 2)=some x.VE:=rfl
theorem rs5(x:Rs):Ab.asInt .i64 (cell x.pv 5)=some x.l:=rfl
theorem Fk(x:Rs):PV.agg [cell x.pv 0,cell x.pv 1,cell x.pv 2,cell x.pv 3,cell x.pv 4,cell x.pv 5,cell x.pv 6]=x.pv:=rfl
theorem Sw(x:Rs)(s c:Int):∃r,ez [x.pv,.int .i64 s,.int .i64 c]=some (.bool r)∧(x.ok=false→r=true):=by refine⟨!x.ok||decide (s<x.sum)||(decide (s=x.sum)&&decide (c<x.VE)),?_,fun h=>by rw[h];rfl⟩;have h3:Ab.asInt .i64 (cell x.pv 3)=some x.p:=rfl;have h4:Ab.asInt .i64 (cell x.pv 4)=some x.f:=rfl;have h6:Ab.asInt .i64 (cell x.pv 6)=some x.rZ:=rfl;simp only[ez,nH,rsA,rs0,rs1,rs2,h3,h4,rs5,h6,aI,U,aW,aZ,ga]
def Nx(P:List aH)(rs:List Rd)(x:Rs)(j:Nat):Prop:=j<rs.length→∃k:Nat,x.l=(k:Int)∧j≤k∧k<rs.length∧zO P rs (k+1)
structure TB(P:List aH)(rs:List Rd)(i:Nat)(T:List Rs):Prop where
 len:T.length=9
 hi:∀j x,i<j→j≤rs.length→T[j]?=some x→(x.ok=true↔zO P rs j)∧(x.ok=true→Nx P rs x j)
 lo:∀j x,j<i→T[j]?=some x→x.ok=false
 nx:∀x,T[i]?=some x→x.ok=true→Nx P rs x i
section
variable {P:List aH} {rs:List Rd} {d w c:Int}
theorem Sx(hP:∀p∈P,VC p)(QS:P.length≤16)(hn:rs.length≤8)(ho:∀y∈rs,A8 y){i k:Nat}(Ct:i≤k)(hk:k<rs.length)(T4:List PV)(T:List Rs)(hT:TB P rs i T)(Q:Prop)(hQ:∀x,T[i]?=some x→(x.ok=true↔Q)):∃T',(TB P rs i T'∧∀x,T'[i]?=some x→(x.ok=true↔Q∨(zO P rs (k+1)∧P.any (fun p=>nO p (cut rs i k))=true)))∧∀fx:VF→Option PV,bC.run (iy bC fx) ((rs.length:Int),(i:Int),(k:Int),((P.map aH.pv).length:Int),0,P.map aH.pv,d,w,c,T4,T.map Rs.pv,rs.map Rd.pv,())=fx ((rs.length:Int),(i:Int),((k+1:Nat):Int),P.map aH.pv,d,w,c,T4,T'.map Rs.pv,rs.map Rd.pv,()):=by
 have afP:List.drop i (List.take (k+1) (rs.map Rd.pv))=(cut rs i k).map Rd.pv:=by unfold cut;rw[List.map_drop,List.map_take]
 have fin:∀T',(TB P rs i T'∧∀x,T'[i]?=some x→(x.ok=true↔Q∨(zO P rs (k+1)∧(P.take P.length).any (fun p=>nO p (cut rs i k))=true)))→TB P rs i T'∧∀x,T'[i]?=some x→(x.ok=true↔Q∨(zO P rs (k+1)∧P.any (fun p=>nO p (cut rs i k))=true)):=fun T' hI=>⟨hI.1,fun x hx=>by rw[hI.2 x hx,List.take_length]⟩;refine Ia fin (w8 (body:=fun fx=>iy bC fx) (fun p(T:List Rs)=>((rs.length:Int),(i:Int),(k:Int),((P.map aH.pv).length:Int),(p:Int),P.map aH.pv,d,w,c,T4,T.map Rs.pv,rs.map Rd.pv,())) (fun fx T=>fx ((rs.length:Int),(i:Int),((k+1:Nat):Int),P.map aH.pv,d,w,c,T4,T.map Rs.pv,rs.map Rd.pv,())) (fun p T=>TB P rs i T∧∀x,T[i]?=some x→(x.ok=true↔Q∨(zO P rs (k+1)∧(P.take p).any (fun p=>nO p (cut rs i k))=true))) P.length (fun p hp T hI=>?_) (fun fx T rec hI=>?_) (by unfold rounds;omega) T ⟨hT,fun x hx=>by rw[hQ x hx];simp⟩ rfl)
 ·obtain⟨hT,hq⟩:=hI;have hl:=hT.len;obtain⟨y,hy⟩:∃y,T[k+1]?=some y:=⟨_,List.getElem?_eq_getElem (by omega)⟩;obtain⟨x,hx⟩:∃x,T[i]?=some x:=⟨_,List.getElem?_eq_getElem (by omega)⟩;obtain⟨hyo,_⟩:=hT.hi (k+1) y (by omega) (by omega) hy;have Km:P.take (p+1)=P.take p++[P[p]]:=by rw[List.take_succ_eq_append_getElem hp]
  have Qf:(T.map Rs.pv)[k+1]?=some y.pv:=by rw[List.getElem?_map,hy];rfl
  have WK:(T.map Rs.pv)[i]?=some x.pv:=by rw[List.getElem?_map,hx];rfl
  have ow:∀m:Nat,m<9→ah (m:Int) 9∧0<7:=fun m hm=>by unfold ah;omega
  have DF:IntKind.i64.wrap ((k:Int)+1)=((k+1:Nat):Int):=ai (by omega);have hw2:IntKind.i64.wrap ((p:Int)+1)=((p+1:Nat):Int):=ai (by omega);have stay:(¬(zO P rs (k+1)∧nO P[p] (cut rs i k)=true)∨x.ok=true)→TB P rs i T∧∀x,T[i]?=some x→(x.ok=true↔Q∨(zO P rs (k+1)∧(P.take (p+1)).any (fun p=>nO p (cut rs i k))=true)):=fun hs=>⟨hT,fun z hz=>by
   rw[hx]at hz;cases hz;rw[hq x hx,Km,List.any_append];simp only[List.any_cons,List.any_nil,Bool.or_false,Bool.or_eq_true];rcases hs with hs|hs
   ·constructor
    ·rintro(h|⟨h1,h2⟩)
     ·exact .inl h
     ·exact .inr ⟨h1,.inl h2⟩
    ·rintro(h|⟨h1,h2|h2⟩)
     ·exact .inl h
     ·exact .inr ⟨h1,h2⟩
     ·exact absurd ⟨h1,h2⟩ hs
   ·have:=(hq x hx).1 hs;constructor
    ·rintro(h|⟨h1,h2⟩)
     ·exact .inl h
     ·exact .inr ⟨h1,.inl h2⟩
    ·intro _;exact this⟩
  have round:∀(fx:VF→Option PV)rec,iy bC fx ((rs.length:Int),(i:Int),(k:Int),((P.map aH.pv).length:Int),(p:Int),P.map aH.pv,d,w,c,T4,T.map Rs.pv,rs.map Rd.pv,()) rec=if y.ok=true then(if(!nO P[p] (cut rs i k))=true then rec ((rs.length:Int),(i:Int),(k:Int),((P.map aH.pv).length:Int),((p+1:Nat):Int),P.map aH.pv,d,w,c,T4,T.map Rs.pv,rs.map Rd.pv,())else(ey [df P d w c,P[p].pv,.rs 4 (rs.map Rd.pv),.int .i64 (i:Int)]).bind fun Kn=>(Ab.asInt .i64 Kn).bind fun n20=>(ez [x.pv,.int .i64 (IntKind.i64.wrap (n20+y.sum)),.int .i64 (IntKind.i64.wrap (y.VE+1))]).bind fun GW=>(Ab.asBool GW).bind fun VG=>if VG=true then rec ((rs.length:Int),(i:Int),(k:Int),((P.map aH.pv).length:Int),((p+1:Nat):Int),P.map aH.pv,d,w,c,T4,(T.set i ⟨true,IntKind.i64.wrap (n20+y.sum),IntKind.i64.wrap (y.VE+1),p,i,k,n20⟩).map Rs.pv,rs.map Rd.pv,())else rec ((rs.length:Int),(i:Int),(k:Int),((P.map aH.pv).length:Int),((p+1:Nat):Int),P.map aH.pv,d,w,c,T4,T.map Rs.pv,rs.map Rd.pv,()))else rec ((rs.length:Int),(i:Int),(k:Int),((P.map aH.pv).length:Int),((p+1:Nat):Int),P.map aH.pv,d,w,c,T4,T.map Rs.pv,rs.map Rd.pv,()):=by
   intro fx rec
   unfold iy
   dsimp only
   rw[if_pos (by simp;omega),DF,hw2,if_pos (ow (k+1) (by omega)),Int.toNat_natCast,Nat.add_zero,Qf,cG aH.pv P p hp]
   simp only[U,rs0,acf,Int.toNat_natCast,Nat.add_zero,afP,Ox (hP _ (List.getElem_mem hp)) Ct hk hn ho,aB,EI,Qf,WK,rs1,rs2,Fk]
   rw[if_pos (show 0≤(i:Int)∧(i:Int)≤((k+1:Nat):Int)∧((k+1:Nat):Int)≤((rs.map Rd.pv).length:Int)∧True∧4≠0 by refine⟨by omega,by omega,by simp;omega,trivial,by decide⟩)]
   simp only[if_pos (ow (k+1) (by omega)),if_pos (ow i (by omega)),List.map_set]
   rfl
  by_cases Sy:y.ok=true
  ·by_cases Oz:nO P[p] (cut rs i k)=true
   ·obtain⟨v,hv⟩:=Oy P d w c P[p] (show i<rs.length by omega) hn;obtain⟨b,hb,rV⟩:=Sw x (IntKind.i64.wrap (v+y.sum)) (IntKind.i64.wrap (y.VE+1));cases b with
    |true=>
     refine⟨T.set i ⟨true,IntKind.i64.wrap (v+y.sum),IntKind.i64.wrap (y.VE+1),p,i,k,v⟩,⟨⟨by simp[hl],fun j z h1 h2 hz=>?_,fun j z h1 hz=>?_,fun z hz hzo=>?_⟩,fun z hz=>?_⟩,fun fx rec=>?_⟩
     ·rw[List.getElem?_set_ne (by omega)]at hz;exact hT.hi j z h1 h2 hz
     ·rw[List.getElem?_set_ne (by omega)]at hz;exact hT.lo j z h1 hz
     ·rw[List.getElem?_set_self (by omega)]at hz;cases hz;exact fun _=>⟨k,rfl,Ct,hk,hyo.1 Sy⟩
     ·rw[List.getElem?_set_self (by omega)]at hz;cases hz;rw[Km,List.any_append];simp only[List.any_cons,List.any_nil,Bool.or_false,Bool.or_eq_true,Oz,or_true,and_true,true_iff];exact .inr (hyo.1 Sy)
     ·rw[round,if_pos Sy,if_neg (by simp[Oz]),hv];simp only[U,aI,hb,aB,if_true]
    |false=>
     have hxo:x.ok=true:=by
      cases h:x.ok with
      |true=>rfl
      |false=>have:=rV h;cases this
     refine⟨T,stay (.inr hxo),fun fx rec=>?_⟩;rw[round,if_pos Sy,if_neg (by simp[Oz]),hv];simp only[U,aI,hb,aB,Bool.false_eq_true,if_false]
   ·exact⟨T,stay (.inl fun h=>Oz h.2),fun fx rec=>by rw[round,if_pos Sy,if_pos (by simpa using Oz)]⟩
  ·exact⟨T,stay (.inl fun h=>Sy (hyo.2 h.1)),fun fx rec=>by rw[round,if_neg Sy]⟩
 ·unfold iy;dsimp only;rw[if_neg (by simp),ai (by omega)]
end
end Go.Ab.Tt
namespace Go.Ab.Tt
set_option maxRecDepth 100000
set_option linter.unusedVariables false
set_option linter.unusedSimpArgs false
structure A9(P:List aH)(rs:List Rd)(m:Nat)(T:List Rs):Prop where
 len:T.length=9
 hi:∀j x,m≤j→j≤rs.length→T[j]?=some x→(x.ok=true↔zO P rs j)∧(x.ok=true→Nx P rs x j)
 lo:∀j x,j<m→T[j]?=some x→x.ok=false
section
variable {P:List aH} {rs:List Rd} {d w c:Int}
theorem OA(hP:∀p∈P,VC p)(QS:P.length≤16)(hn:rs.length≤8)(ho:∀y∈rs,A8 y){i:Nat}(hi:i<rs.length)(T4:List PV)(T:List Rs)(hT:A9 P rs (i+1) T):∃T',A9 P rs i T'∧∀kX:XY→Option PV,bC.run (j9 bC kX) ((rs.length:Int),(i:Int),(i:Int),P.map aH.pv,d,w,c,T4,T.map Rs.pv,rs.map Rd.pv,())=kX ((rs.length:Int),IntKind.i64.wrap ((i:Int)-1),P.map aH.pv,d,w,c,T4,T'.map Rs.pv,rs.map Rd.pv,()):=by
 have hTB:TB P rs i T:=⟨hT.len,fun j x h1 h2 hx=>hT.hi j x (by omega) h2 hx,fun j x h1 hx=>hT.lo j x (by omega) hx,fun x hx ho=>by rw[hT.lo i x (by omega) hx]at ho;cases ho⟩;have fin:∀T',(TB P rs i T'∧∀x,T'[i]?=some x→(x.ok=true↔∃k,i≤k∧k<i+(rs.length-i)∧zO P rs (k+1)∧P.any (fun p=>nO p (cut rs i k))=true))→A9 P rs i T':=fun T' hI=>by
  refine⟨hI.1.len,fun j x h1 h2 hx=>?_,hI.1.lo⟩;by_cases e:j=i
  ·subst e;refine⟨?_,hI.1.nx x hx⟩;rw[hI.2 x hx];constructor
   ·rintro⟨k,a1,a2,a3,a4⟩;exact .step _ k a1 (by omega) a3 a4
   ·intro h;obtain⟨k,a1,a2,a3,a4⟩:=h.inv hi;exact⟨k,a1,by omega,a3,a4⟩
  ·exact hI.1.hi j x (by omega) h2 hx
 refine Ia fin (w8 (body:=fun kX=>j9 bC kX) (fun t(T:List Rs)=>((rs.length:Int),(i:Int),((i+t:Nat):Int),P.map aH.pv,d,w,c,T4,T.map Rs.pv,rs.map Rd.pv,())) (fun kX T=>kX ((rs.length:Int),IntKind.i64.wrap ((i:Int)-1),P.map aH.pv,d,w,c,T4,T.map Rs.pv,rs.map Rd.pv,())) (fun t T=>TB P rs i T∧∀x,T[i]?=some x→(x.ok=true↔∃k,i≤k∧k<i+t∧zO P rs (k+1)∧P.any (fun p=>nO p (cut rs i k))=true)) (rs.length-i) (fun t ht T hI=>?_) (fun kX T rec hI=>?_) (by unfold rounds;omega) T ⟨hTB,fun x hx=>?_⟩ (by simp))
 ·obtain⟨T',⟨h1,h2⟩,h3⟩:=Sx (d:=d) (w:=w) (c:=c) hP QS hn ho (show i≤i+t by omega) (show i+t<rs.length by omega) T4 T hI.1 _ hI.2;refine⟨T',⟨h1,fun x hx=>?_⟩,fun kX rec=>?_⟩
  ·rw[h2 x hx];constructor
   ·rintro(⟨k,a1,a2,a3,a4⟩|⟨a3,a4⟩)
    ·exact⟨k,a1,by omega,a3,a4⟩
    ·exact⟨i+t,by omega,by omega,a3,a4⟩
   ·rintro⟨k,a1,a2,a3,a4⟩;by_cases e:k=i+t
    ·subst e;exact .inr ⟨a3,a4⟩
    ·exact .inl ⟨k,a1,by omega,a3,a4⟩
  ·unfold j9;dsimp only;rw[if_pos (by simp;omega)];exact h3 rec
 ·unfold j9;dsimp only;rw[if_neg (by simp;omega)]
 ·rw[hT.lo i x (by omega) hx];constructor
  ·intro h;cases h
  ·rintro⟨k,a1,a2,_⟩;omega
def Zz:Rs:=⟨false,0,0,0,0,0,0⟩
theorem afQ:fl 7 9 (PV.agg [.bool false,.int .i64 0,.int .i64 0,.int .i64 0,.int .i64 0,.int .i64 0,.int .i64 0,.bool false,.int .i64 0,.int .i64 0,.int .i64 0,.int .i64 0,.int .i64 0,.int .i64 0,.bool false,.int .i64 0,.int .i64 0,.int .i64 0,.int .i64 0,.int .i64 0,.int .i64 0,.bool false,.int .i64 0,.int .i64 0,.int .i64 0,.int .i64 0,.int .i64 0,.int .i64 0,.bool false,.int .i64 0,.int .i64 0,.int .i64 0,.int .i64 0,.int .i64 0,.int .i64 0,.bool false,.int .i64 0,.int .i64 0,.int .i64 0,.int .i64 0,.int .i64 0,.int .i64 0,.bool false,.int .i64 0,.int .i64 0,.int .i64 0,.int .i64 0,.int .i64 0,.int .i64 0,.bool false,.int .i64 0,.int .i64 0,.int .i64 0,.int .i64 0,.int .i64 0,.int .i64 0,.bool false,.int .i64 0,.int .i64 0,.int .i64 0,.int .i64 0,.int .i64 0,.int .i64 0])=(List.replicate 9 Zz).map Rs.pv:=rfl
theorem EJ(T:List Rs):(eK 7 (T.map Rs.pv)).length=T.length*7:=by rw[AE,List.length_map]
theorem Ba:∀(T:List Rs)(i j:Nat)(x:Rs),T[i]?=some x→j<7→(eK 7 (T.map Rs.pv))[i*7+j]?=some (cell x.pv j)
 |[],i,j,x,h,_=>by simp at h
 |y::T,0,j,x,h,hj=>by
  simp only[List.getElem?_cons_zero,Option.some.injEq]at h;subst h;have e:eK 7 ((y::T).map Rs.pv)=aC 7 y.pv++eK 7 (T.map Rs.pv):=rfl;rw[e,List.getElem?_append_left (by rw[aT];omega),dQ (show y.pv.cells.length=7 from rfl)];match j,hj with
  |0,_=>rfl
  |1,_=>rfl
  |2,_=>rfl
  |3,_=>rfl
  |4,_=>rfl
  |5,_=>rfl
  |6,_=>rfl
  |n+7,h=>omega
 |y::T,i+1,j,x,h,hj=>by have e:eK 7 ((y::T).map Rs.pv)=aC 7 y.pv++eK 7 (T.map Rs.pv):=rfl;rw[e,List.getElem?_append_right (by rw[aT];omega),aT,show(i+1)*7+j-7=i*7+j by omega];exact Ba T i j x (by simpa using h) hj
theorem EK(T:List Rs)(n:Nat)(hn:T.length=n):fl 7 n (.agg (eK 7 (T.map Rs.pv)))=T.map Rs.pv:=by
 apply List.ext_getElem?;intro i;unfold fl;rw[List.getElem?_map,List.getElem?_map];by_cases hi:i<n
 ·obtain⟨x,hx⟩:∃x,T[i]?=some x:=⟨_,List.getElem?_eq_getElem (by omega)⟩;rw[hx,List.getElem?_range hi];simp only[Option.map_some,Option.some.injEq];have hc:∀j,j<7→cell (.agg (eK 7 (T.map Rs.pv))) (i*7+j)=cell x.pv j:=fun j hj=>by show(eK 7 (T.map Rs.pv)).getD (i*7+j) .bad=_;rw[List.getD_eq_getElem?_getD,Ba T i j x hx hj];rfl
  show PV.agg [cell _ (i*7),cell _ (i*7+1),cell _ (i*7+2),cell _ (i*7+3),cell _ (i*7+4),cell _ (i*7+5),cell _ (i*7+6)]=_;have h0:=hc 0 (by omega);rw[Nat.add_zero]at h0;rw[h0,hc 1 (by omega),hc 2 (by omega),hc 3 (by omega),hc 4 (by omega),hc 5 (by omega),hc 6 (by omega)];exact Fk x
 ·rw[List.getElem?_eq_none (by simp;omega),List.getElem?_eq_none (by omega)];rfl
theorem Sz(hP:∀p∈P,VC p)(QS:P.length≤16)(hn:rs.length≤8)(ho:∀y∈rs,A8 y):∃T,A9 P rs 0 T∧kY [df P d w c,.rs 4 (rs.map Rd.pv)]=some (.agg (eK 7 (T.map Rs.pv))):=by
 have ow:ah (rs.length:Int) 9∧0<7:=by unfold ah;omega
 have hz:((List.replicate 9 Zz).map Rs.pv)[rs.length]?=some Zz.pv:=by rw[List.getElem?_map,List.getElem?_replicate,if_pos (by omega)];rfl
 have h0:A9 P rs rs.length ((List.replicate 9 Zz).set rs.length {Zz with ok:=true}):=by
  refine⟨by simp,fun j x h1 h2 hx=>?_,fun j x h1 hx=>?_⟩
  ·have:j=rs.length:=by omega
   subst this;rw[List.getElem?_set_self (by simp;omega)]at hx;cases hx;exact⟨⟨fun _=>.fin,fun _=>rfl⟩,fun _ h=>by omega⟩
  ·rw[List.getElem?_set_ne (by omega),List.getElem?_replicate]at hx;split at hx
   ·cases hx;rfl
   ·cases hx
 obtain⟨T',h1,h2⟩:=w8 (R:=PV) (Z:=Unit) (body:=fun _=>mJ bC) (fun m(T:List Rs)=>((rs.length:Int),(rs.length:Int)-1-(m:Int),P.map aH.pv,d,w,c,(List.replicate 9 Zz).map Rs.pv,T.map Rs.pv,rs.map Rd.pv,())) (fun _ T=>some (PV.agg (eK 7 (T.map Rs.pv)))) (fun m T=>A9 P rs (rs.length-m) T) rs.length (fun m hm T hI=>by
   obtain⟨T',h1,h2⟩:=OA (d:=d) (w:=w) (c:=c) hP QS hn ho (show rs.length-(m+1)<rs.length by omega) ((List.replicate 9 Zz).map Rs.pv) T (by rw[show rs.length-(m+1)+1=rs.length-m by omega];exact hI);refine⟨T',h1,fun z rec=>?_⟩;unfold mJ;dsimp only;have hi:(rs.length:Int)-1-(m:Int)=((rs.length-(m+1):Nat):Int):=by omega
   rw[if_pos (by simp;omega),hi,h2 rec,bF (by omega) (by omega),show((rs.length-(m+1):Nat):Int)-1=(rs.length:Int)-1-((m+1:Nat):Int) by omega])
  (fun z T rec hI=>by
   have hl:=hI.len;unfold mJ;dsimp only;have h63:(T.map Rs.pv).length*7=63:=by rw[List.length_map,hl]
   have LI:asAgg 63 (PV.agg (eK 7 (T.map Rs.pv)))=some ():=by
    have:(eK 7 (T.map Rs.pv)).length=63:=by rw[EJ,hl]
    simp only[asAgg];rw[if_pos this]
   rw[if_neg (by simp;omega),if_pos h63,LI];simp only[U];have hlr:((List.replicate 9 Zz).map Rs.pv).length=9:=by simp
   rw[hlr,if_pos (by decide),EK T 9 hl,if_pos h63])
  (by unfold rounds;omega) _ (by rw[Nat.sub_zero];exact h0) rfl
 refine⟨T',by rw[Nat.sub_self]at h1;exact h1,?_⟩;simp only[kY,vX,xJ,xK,xM,xO,xR,aS,U,List.length_map];rw[if_pos ow,afQ,Int.toNat_natCast,Nat.add_zero,hz];simp only[U,over];refine Eq.trans ?_ (h2 ());congr 1;rw[bF (by omega) (by omega),List.map_set,show(rs.length:Int)-1-((0:Nat):Int)=(rs.length:Int)-1 by omega];rfl
end
end Go.Ab.Tt
namespace Go.Ab.Tt
set_option maxRecDepth 100000
set_option linter.unusedVariables false
set_option linter.unusedSimpArgs false
theorem OB(l:List aH)(d w c s:Int):∃v,kZ [df l d w c,.int .i64 s]=some (.int .i64 v):=by
 simp only[kZ,vW,xJ,xK,xM,xO,xR,aI,U,aZ];by_cases h:(decide (c>0)&&decide (s>c))=true
 ·exact⟨_,if_pos h⟩
 ·exact⟨_,if_neg h⟩
section
variable {P:List aH} {rs:List Rd} {d w c:Int}
theorem Kp(ZA:P.length≤maxLen∧∀y∈P,y.Ok)(hf:(dd P d w c).2=0)(hn:rs.length≤8):iZ [df P d w c,.rs 4 (rs.map Rd.pv)]=some (.int .i64 0):=by simp only[iZ,uv,xJ,xK,xM,xO,xR,aS,U,EI,yP P d w c ZA,List.length_map,hf];simp only[res,cP,List.length_cons,List.length_nil,if_true,U,List.getD_cons_zero,List.getD_cons_succ,aI];rw[if_neg (by decide),if_neg (by simp;omega)]
theorem Ib(hn:rs.length≤8)(T:List Rs)(hT:A9 P rs 0 T):∀(m i N:Nat)(out:List PV),rs.length-i≤m→i≤rs.length→zO P rs i→out.length≤i→m<N→∃v ts,c7 (jr bC) N (rs.map Rd.pv,(i:Int),P.map aH.pv,d,w,c,T.map Rs.pv,out,())=some (.bt [.int .i64 v,.rs 4 ts,.int .i64 0]):=by
 have hl:=hT.len;have nv:∀(out:List PV)rec,∃v ts,jr bC (rs.map Rd.pv,(rs.length:Int),P.map aH.pv,d,w,c,T.map Rs.pv,out,()) rec=some (.bt [.int .i64 v,.rs 4 ts,.int .i64 0]):=by
  intro out rec;obtain⟨x,hx⟩:∃x,T[0]?=some x:=⟨_,List.getElem?_eq_getElem (by omega)⟩;have WK:(T.map Rs.pv)[(0:Int).toNat+0]?=some x.pv:=by show(T.map Rs.pv)[0]?=_;rw[List.getElem?_map,hx];rfl
  obtain⟨v,hv⟩:=OB P d w c x.sum;refine⟨v,out,?_⟩;unfold jr;dsimp only;rw[if_neg (by simp),WK];simp only[U,rs1,EI,hv,aI]
 intro m;induction m with
 |zero=>
  intro i N out h1 h2 h3 h4 hN;have:i=rs.length:=by omega
  subst this;cases N with
  |zero=>omega
  |succ N=>simp only[c7];exact nv out _
 |succ m ih=>
  intro i N out h1 h2 h3 h4 hN;cases N with
  |zero=>omega
  |succ N=>
   simp only[c7];by_cases hi:i<rs.length
   ·obtain⟨x,hx⟩:∃x,T[i]?=some x:=⟨_,List.getElem?_eq_getElem (by omega)⟩;obtain⟨ho,hnx⟩:=hT.hi i x (by omega) (by omega) hx;obtain⟨k,k1,k2,k3,k4⟩:=hnx (ho.2 h3) hi;have WK:(T.map Rs.pv)[(i:Int).toNat+0]?=some x.pv:=by rw[Int.toNat_natCast,Nat.add_zero,List.getElem?_map,hx];rfl
    have ow:ah (i:Int) 9∧0<7:=by unfold ah;omega
    unfold jr;dsimp only;rw[if_pos (by simp;omega),if_pos ow,WK];simp only[U,rs5];rw[if_pos (by simp only[List.length_append,List.length_singleton];unfold an;omega),if_pos ow,k1,ai (by omega)];exact ih (k+1) N _ (by omega) (by omega) k4 (by simp;omega) (by omega)
   ·have:i=rs.length:=by omega
    subst this;exact nv out _
theorem VH(ZA:P.length≤maxLen∧∀y∈P,y.Ok)(hf:(dd P d w c).2=0)(hP:∀p∈P,VC p)(QS:P.length≤16)(hn:rs.length≤8)(ho:∀y∈rs,A8 y):(zO P rs 0→∃v ts,fp [df P d w c,.rs 4 (rs.map Rd.pv)]=some (.bt [.int .i64 v,.rs 4 ts,.int .i64 0]))∧(¬zO P rs 0→fp [df P d w c,.rs 4 (rs.map Rd.pv)]=some (.bt [.int .i64 0,.rs 4 [],.int .i64 34])):=by
 obtain⟨T,hT,hdiv⟩:=Sz (d:=d) (w:=w) (c:=c) hP QS hn ho;have hl:=hT.len;obtain⟨x,hx⟩:∃x,T[0]?=some x:=⟨_,List.getElem?_eq_getElem (by omega)⟩;obtain⟨hxo,_⟩:=hT.hi 0 x (by omega) (by omega) hx;have Y2:cell (PV.agg (eK 7 (T.map Rs.pv))) 0=.bool x.ok:=by have:=Ba T 0 0 x hx (by omega);show(eK 7 (T.map Rs.pv)).getD 0 .bad=_;rw[List.getD_eq_getElem?_getD,show(0:Nat)=0*7+0 by rfl,this];rfl
 have LI:asAgg 63 (PV.agg (eK 7 (T.map Rs.pv)))=some ():=by
  have:(eK 7 (T.map Rs.pv)).length=63:=by rw[EJ,hl]
  simp only[asAgg];rw[if_pos this]
 have VI:fl 7 9 (PV.agg (aC 63 (PV.agg (eK 7 (T.map Rs.pv)))))=T.map Rs.pv:=by rw[dQ (show(PV.agg (eK 7 (T.map Rs.pv))).cells.length=63 by show(eK 7 (T.map Rs.pv)).length=63;rw[EJ,hl])];exact EK T 9 hl
 have main:fp [df P d w c,.rs 4 (rs.map Rd.pv)]=if(!x.ok)=true then some (.bt [.int .i64 0,.rs 4 [],.int .i64 34])else bC.run (jr bC) (rs.map Rd.pv,0,P.map aH.pv,d,w,c,T.map Rs.pv,[],()):=by
  have hb:Ab.asBool (cell (PV.agg (eK 7 (T.map Rs.pv))) 0)=some x.ok:=by rw[Y2];rfl
  generalize PV.agg (eK 7 (T.map Rs.pv))=r at hdiv LI VI hb;have X0:fl 7 9 (PV.agg [cell r 0,cell r 1,cell r 2,cell r 3,cell r 4,cell r 5,cell r 6,cell r 7,cell r 8,cell r 9,cell r 10,cell r 11,cell r 12,cell r 13,cell r 14,cell r 15,cell r 16,cell r 17,cell r 18,cell r 19,cell r 20,cell r 21,cell r 22,cell r 23,cell r 24,cell r 25,cell r 26,cell r 27,cell r 28,cell r 29,cell r 30,cell r 31,cell r 32,cell r 33,cell r 34,cell r 35,cell r 36,cell r 37,cell r 38,cell r 39,cell r 40,cell r 41,cell r 42,cell r 43,cell r 44,cell r 45,cell r 46,cell r 47,cell r 48,cell r 49,cell r 50,cell r 51,cell r 52,cell r 53,cell r 54,cell r 55,cell r 56,cell r 57,cell r 58,cell r 59,cell r 60,cell r 61,cell r 62])=T.map Rs.pv:=VI;simp only[fp,uA,xJ,xK,xM,xO,xR,aS,U,EI,Kp ZA hf hn,aI,hdiv,LI,hb,X0];rw[if_neg (by decide)]
 refine⟨fun h=>?_,fun h=>?_⟩
 ·rw[main,if_neg (by rw[hxo.2 h];decide),mf];exact Ib hn T hT rs.length 0 rounds [] (by omega) (by omega) h (by simp) (by unfold rounds;omega)
 ·have:x.ok=false:=by
   cases hb:x.ok with
   |false=>rfl
   |true=>exact absurd (hxo.1 hb) h
  rw[main,if_pos (by rw[this];rfl)]
end
end Go.Ab.Tt
namespace Go.Ab.Tt
set_option maxRecDepth 100000
set_option linter.unusedVariables false
set_option linter.unusedSimpArgs false
structure Bs where
 ok:Bool
 sum:Int
 lp:PV
def Bs.pv(x:Bs):PV:=.agg [.bool x.ok,.int .i64 x.sum,x.lp]
section
variable {P:List aH} {rs:List Rd} {d w c:Int}
end
end Go.Ab.Tt
namespace Go.Ab.Tt
set_option maxRecDepth 100000
set_option linter.unusedVariables false
set_option linter.unusedSimpArgs false
section
variable {P:List aH} {rs:List Rd} {d w c:Int}
end
end Go.Ab.Tt
