import Derived.Test.YtmbihgjlollbeaaGreatFbP1
namespace Go.Ab.Tt
set_option maxRecDepth 100000
set_option linter.all false
variable{a:Nat}
theorem ahg(h:a<18446744073709551616):(BitVec.ofInt 64 (a:Int)).toNat=a:=by simp_all
theorem OE(h:a<18446744073709551616):IntKind.u64.wrap (a:Int)=(a:Int):=by grind [IntKind.wrap,IntKind.signed,IntKind.bits]
theorem JC(h:a<9223372036854775808):IntKind.i64.wrap (a:Int)=(a:Int):=aZ (by omega) (by omega)
theorem Dc{b:Nat}(ha:a<65536)(hb:b<65536):a|||b<65536:=Nat.or_lt_two_pow (n:=16) ha hb
theorem orI{b:Nat}(ha:a<65536)(hb:b<65536):IntKind.i64.wrap ((BitVec.ofInt IntKind.i64.bits (a:Int)|||BitVec.ofInt IntKind.i64.bits (b:Int)).toNat:Int)=((a|||b:Nat):Int):=by show IntKind.i64.wrap (((BitVec.ofInt 64 (a:Int)|||BitVec.ofInt 64 (b:Int)).toNat:Nat):Int)=_;grind [BitVec.toNat_or,ahg,JC,Dc]
theorem orU{b:Nat}(ha:a<65536)(hb:b<65536):IntKind.u64.wrap ((BitVec.ofInt IntKind.u64.bits (a:Int)|||BitVec.ofInt IntKind.u64.bits (b:Int)).toNat:Int)=((a|||b:Nat):Int):=by show IntKind.u64.wrap (((BitVec.ofInt 64 (a:Int)|||BitVec.ofInt 64 (b:Int)).toNat:Nat):Int)=_;grind [BitVec.toNat_or,ahg,OE,Dc]
theorem qt{z:Nat}(h:z<16):2^z<65536:=(Nat.pow_lt_pow_right (a:=2) (by omega) h:2^z<2^16)
variable{z:Int}
theorem shI(h0:0≤z)(h:z<16):IntKind.i64.wrap (1*2^min z.toNat IntKind.i64.bits)=((2^z.toNat:Nat):Int):=by
 have h1:min z.toNat IntKind.i64.bits=z.toNat:=asU (by show z.toNat≤64;omega);have h2:z.toNat<16:=by omega
 rw[h1,Int.one_mul];have:=qt h2;grind [JC]
theorem shU(h0:0≤z)(h:z<16):IntKind.u64.wrap (1*2^min z.toNat IntKind.u64.bits)=((2^z.toNat:Nat):Int):=by
 have h1:min z.toNat IntKind.u64.bits=z.toNat:=asU (by show z.toNat≤64;omega);have h2:z.toNat<16:=by omega
 rw[h1,Int.one_mul];have:=qt h2;grind [OE]
theorem aU(n:Int):Ab.asInt .u64 (.int .u64 n)=some n:=rfl
theorem L8(h0:0≤z)(h:z<16):qu [.int .i64 z]=some (.int .u64 ((2^z.toNat:Nat):Int)):=by simp only[qu,F7,aI,U,ay];rw[IT (by simp;omega),IT (by omega),shU h0 h]
theorem ahh{s:Nat}(hs:s<65536)(h0:0≤z)(h:z<16):lP [.int .u64 (s:Int),.int .i64 z]=some (.int .u64 ((s|||2^z.toNat:Nat):Int)):=by simp only[lP,uf,aU,aI,U,L8 h0 h];rw[orU hs (qt (by omega))]
theorem W3(h0:0≤z)(h:z<16):yD [.rs 1 [.int .i64 z]]=some (.int .u64 ((2^z.toNat:Nat):Int)):=by
 simp only[yD,Ix,aS,U,asH];refine bf (fun k=>(((if k=0 then 0 else 2^z.toNat:Nat):Int),[PV.int .i64 z],1,(k:Int),())) 1 (fun k hk rec=>?_) (fun rec=>?_) (by decide) rfl
 ·have:k=0:=by omega
  subst this;unfold Hm;dsimp only;have hc:cell (PV.int .i64 z) 0=PV.int .i64 z:=rfl;have hi:dA [PV.int .i64 z] ((0:Nat):Int)=some (PV.int .i64 z):=rfl;rw[IN (by simp),hi];simp only[U,hc,aI,L8 h0 h,aU,BY];rw[orU (by omega) (qt (by omega)),Nat.zero_or];rfl
 rfl
def P3(N:an)(c:aY):Nat:=match N.stops[c.stop.toNat]? with|some s=>s.ua.toNat|none=>0
def L9(N:an):List aY→Nat→Nat
 |[],s=>s
 |c::r,s=>L9 N r (s|||2^P3 N c)
def uN(N:an)(x:bx):List aY:=match tW N x with|some r=>(r.calls.take (x.bC.toNat+1)).drop x.ca.toNat|none=>[]
def Iy(N:an)(x:bx):Nat:=L9 N (uN N x) 0
theorem adH{N:an}(cs:List aY)(h:∀c∈cs,P3 N c<16):∀s,s<65536→L9 N cs s<65536:=by
 induction cs with
 |nil=>intro s hs;exact hs
 |cons c r ih=>intro s hs;exact ih (fun c hc=>h c (by simp[hc])) _ (Dc hs (qt (h c (by simp))))
theorem adI(x:Stop):Ab.asInt .i64 (cell x.pv 1)=some x.ua:=rfl
section
variable {N:an} {q:iJ}
variable{r:cy}
theorem Iz(h:vN N)(hr:r∈N.runs){c:aY}(hc:c∈r.calls):∃s,N.stops[c.stop.toNat]?=some s∧0≤c.stop∧0≤s.ua∧s.ua<16∧P3 N c=s.ua.toNat:=by obtain⟨s,h1,h2,h3⟩:=h.call r hr c hc;obtain⟨a,b,_⟩:=h.stop s h3;simp_all[P3]
variable{x:bx}{t:ax}{a b:aY}
theorem Dd(hx:ub N x r t a b):uN N x=(r.calls.take (x.bC.toNat+1)).drop x.ca.toNat:=by unfold uN tW;rw[IN hx.pB,hx.run]
theorem IA(hx:ub N x r t a b):∀c∈uN N x,c∈r.calls:=by grind [Dd,List.mem_of_mem_take,List.mem_of_mem_drop]
theorem IB(h:vN N)(hx:ub N x r t a b):Iy N x<65536:=adH _ (fun c hc=>by obtain⟨s,_,_,_,_,e⟩:=Iz h hx.mem (IA hx c hc);omega) 0 (by omega)
theorem Sd(h:vN N)(hx:ub N x r t a b):oh [N.pv,x.pv]=some (.int .u64 (Iy N x:Int)):=by
 have AN:=Da h.res r hx.mem;have hlen:=(JD AN).2;have N6:x.bC.toNat<r.calls.length:=(Qs.1 hx.bC).1;have ha0:=hx.Hh;have hb0:=hx.Is;have cd:=hx.lt;have hw:IntKind.i64.wrap (x.bC+1)=x.bC+1:=aZ (by omega) (by omega);simp only[oh,zt,lj,ll,lq,lr,lu,lv,lx,ly,lz,lA,mq,jK,kS,kR,mj,kQ,mi,kj,kn,iW,U,aV cy.pv hx.pB hx.run,CZ,aS,hw,AI];rw[IN (by grind)];have NY:List.drop x.ca.toNat (List.take (x.bC+1).toNat (r.calls.map aY.pv))=(uN N x).map aY.pv:=by grind [Dd,List.map_drop,List.map_take]
 rw[NY,AI];have aqt:(uN N x).length≤32:=by rw[Dd hx];simp;omega
 refine nT (fun k(s:Nat)=>((s:Int),(uN N x).map aY.pv,((uN N x).length:Int),(k:Int),N.stops.map Stop.pv,N.aj.map ax.pv,N.runs.map cy.pv,N.aH.map bq.pv,N.paths.map Path.pv,N.aK.map aM.pv,N.bn,N.within,N.cap,())) (fun k s=>some (PV.int .u64 (L9 N ((uN N x).drop k) s:Int))) (fun k s=>s<65536) (uN N x).length (fun k hk s rec hi iV=>?_) (fun s rec hi=>?_) (by unfold rounds;omega) 0 (by omega) rfl
 ·obtain⟨st,s1,s2,s3,s4,s5⟩:=Iz h hx.mem (IA hx _ (ar9 hk));unfold sd;dsimp only;rw[IN (by simp;omega),bp aY.pv _ k hk];simp only[U,LQ,aV Stop.pv s2 s1,adI,ahh hi s3 s4,aU,ab (show k<9223372036854775807 by omega)];grind [Dc,qt,mW,L9]
 ·unfold sd;dsimp only;rw[IT (by simp),as3];rfl
theorem OG(h:vN N)(hx:ub N x r t a b):nU [N.pv,x.pv]=some (.int .i64 (Iy N x:Int)):=by
 have AN:=Da h.res r hx.mem;have hlen:=(JD AN).2;have N6:x.bC.toNat<r.calls.length:=(Qs.1 hx.bC).1;have ha0:=hx.Hh;have hb0:=hx.Is;have cd:=hx.lt;simp only[nU,De,lj,ll,lq,lr,lu,lv,lx,ly,lz,lA,mq,jK,kS,kR,mj,kQ,mi,kj,kn,iW,U,aV cy.pv hx.pB hx.run,CZ,aS];have aqt:(uN N x).length=x.bC.toNat+1-x.ca.toNat:=by rw[Dd hx];simp;omega
 refine nT (fun k(s:Nat)=>((s:Int),r.calls.map aY.pv,x.ca+(k:Int),N.stops.map Stop.pv,N.aj.map ax.pv,N.runs.map cy.pv,N.aH.map bq.pv,N.paths.map Path.pv,N.aK.map aM.pv,N.bn,N.within,N.cap,x.cr,x.run,x.ca,x.bC,x.src,x.dst,x.dep,x.arr,x.stay,())) (fun k s=>some (PV.int .i64 (L9 N ((uN N x).drop k) s:Int))) (fun k s=>s<65536) (uN N x).length (fun k hk s rec hi iV=>?_) (fun s rec hi=>?_) (by unfold rounds;omega) 0 (by omega) (by simp)
 ·obtain⟨st,s1,s2,s3,s4,s5⟩:=Iz h hx.mem (IA hx _ (ar9 hk));have eQ:r.calls[(x.ca+(k:Int)).toNat]?=some (uN N x)[k]:=by
   have e1:(uN N x)[k]?=some (uN N x)[k]:=cN hk;rw[←e1];conv=>rhs;rw[Dd hx]
   rw[List.getElem?_drop,List.getElem?_take,IN (by omega)];congr 1;omega
  unfold wN;dsimp only;rw[IN (by simp;omega),aV aY.pv (by omega) eQ];simp only[U,LQ,aV Stop.pv s2 s1,adI,shI s3 s4];rw[IT (by omega),orI hi (qt (by omega)),aZ (by omega) (by omega),show x.ca+(k:Int)+1=x.ca+((k+1:Nat):Int) by omega,iV _ (Dc hi (qt (by omega))),mW hk];simp only[L9,s5]
 ·unfold wN;dsimp only;rw[IT (by simp;omega),as3];rfl
end
structure Rd where
 dep:Int
 arr:Int
 j3:Nat
 bP:Nat
def Rd.pv(x:Rd):PV:=.agg [.int .i64 x.dep,.int .i64 x.arr,.int .i64 (x.j3:Int),.int .i64 (x.bP:Int)]
def Ma(N:an)(x:bx):Nat:=match tW N x with
 |some r=>(match N.aj[r.dF.toNat]? with|some t=>2^t.mode.toNat|none=>0)
 |none=>0
def rdStep(N:an)(out:List Rd)(x:bx):List Rd:=
 if x.cr=true then(if x.stay=true then(match out.getLast? with
  |some y=>out.dropLast++[⟨y.dep,x.arr,y.j3|||Iy N x,y.bP|||Ma N x⟩]
  |none=>out)
  else out++[⟨x.dep,x.arr,Iy N x,Ma N x⟩])
 else out
def dS(N:an):List bx→List Rd→List Rd
 |[],out=>out
 |x::r,out=>dS N r (rdStep N out x)
structure As(N:an)(l:List bx):Prop where
 WK:∀k(h:k<l.length),QQ N l[k]=false
 mom:∀k(h:k<l.length),Nr l[k]=false
 stay:∀k(h:k<l.length),l[k].stay=true→∃j,∃h:j<l.length,k=j+1∧l[j].cr=true
def OH(l:List bx):Nat→Bool
 |0=>false
 |k+1=>match l[k]? with|some x=>x.cr|none=>false
theorem se{l:List bx}{k:Nat}(h:k<l.length):OH l (k+1)=l[k].cr:=by show(match l[k]? with|some x=>x.cr|none=>false)=_;simp_all
structure IC(x:Rd):Prop where
 z:x.j3<65536
 m:x.bP<65536
 d:0≤x.dep∧x.dep≤3155932800
theorem ahi{x:bx}(h:Nr x=false):0≤x.dep∧x.dep≤3155932800:=by simp_all[Nr,FV,asE,as0,ao9,cT]
structure Se(l:List bx)(k:Nat)(out:List Rd):Prop where
 len:out.length≤k
 ok:∀y∈out,IC y
 ne:OH l k=true→out≠[]
section
variable {N:an} {q:iJ} {l:List bx} {k:Nat}
theorem Mb(h:vN N){x:bx}{r:cy}{t:ax}{a b:aY}(hx:ub N x r t a b):Ma N x=2^t.mode.toNat∧0≤t.mode∧t.mode<16∧Ma N x<65536:=by
 have ht:=h.dF t hx.tm;have e:Ma N x=2^t.mode.toNat:=by unfold Ma tW;rw[IN hx.pB,hx.run];simp only[hx.dF]
 grind [qt]
theorem F8(h:vN N)(hg:As N l)(hk:k<l.length){out:List Rd}(hi:Se l k out):Se l (k+1) (rdStep N out l[k]):=by
 obtain⟨_,_,hx,uJ⟩:=lh (hg.WK k hk);have ait:OH l (k+1)=l[k].cr:=se hk;unfold rdStep;cases hr:l[k].cr with
 |false=>exact⟨by simpa using auQ hi.len,hi.ok,fun hh=>by simp_all⟩
 |true=>
  obtain⟨r,t,a,b,kO⟩:=wG h (hx hr);have hz:=IB h kO;have hm:=(Mb h kO).2.2.2;rw[IN rfl];cases hs:l[k].stay with
  |true=>
   obtain⟨j,hj,rfl,hjr⟩:=hg.stay k hk hs;have cU:out≠[]:=hi.ne (by rw[se hj];omega);rw[IN rfl,aum cU];simp only;have hy:=hi.ok _ (List.getLast_mem cU);have hl:=hi.len;have eR:0<out.length:=List.length_pos_iff.2 cU;refine⟨by simp;omega,fun y U8=>?_,fun _=>by simp⟩;rcases asB.1 U8 with U8|U8
   ·exact hi.ok _ ((List.dropLast_sublist _).subset U8)
   ·simp only[List.mem_singleton]at U8;subst U8;exact⟨Dc hy.z hz,Dc hy.m hm,hy.d⟩
  |false=>
   rw[IT (by simp)];refine⟨by simpa using hi.len,fun y U8=>?_,fun _=>by simp⟩;rcases asB.1 U8 with U8|U8
   ·exact hi.ok _ U8
   ·simp only[List.mem_singleton]at U8;subst U8;exact⟨hz,hm,ahi (hg.mom k hk)⟩
theorem U9(x:bx):mY [N.pv,x.pv]=some (.bool (exB N x)):=by
 simp only[mY,wO,lj,ll,lq,lr,lu,lv,lx,ly,lz,lA,mq,jK,kS,kR,mj,kQ,mi,kj,kn,iW,U,AI,aJ];unfold exB tW;by_cases h0:0≤x.run
 ·by_cases h1:x.run.toNat<N.runs.length
  ·rw[IN h0,cN h1,aV cy.pv h0 (cN h1),atD h0,atD (show x.run<(N.runs.length:Int) by omega)];simp only[U,CZ,aS,AI,asX];grind
  grind
 grind
theorem Sf(init:List PV)(y v:PV):(init++[y]).set init.length v=init++[v]:=by simp
theorem Hn(init:List PV)(y:PV):(init++[y])[init.length]?=some y:=by simp
theorem rd0(x:Rd):cell x.pv 0=.int .i64 x.dep:=rfl
theorem rd1(x:Rd):cell x.pv 1=.int .i64 x.arr:=rfl
theorem rd2(x:Rd):cell x.pv 2=.int .i64 (x.j3:Int):=rfl
theorem rd3(x:Rd):cell x.pv 3=.int .i64 (x.bP:Int):=rfl
theorem aiu(l:List PV)(j:Nat):cell (.agg l) j=l.getD j .bad:=rfl
theorem adJ(h:vN N)(hg:As N l)(hl:l.length≤1000000):ic [N.pv,Kh l]=some (.aG [.rs 4 ((dS N l []).map Rd.pv),.int .i64 0]):=by
 simp only[ic,sM,lj,ll,lq,lr,lu,lv,lx,ly,lz,lA,jA,j0,U,pU,F1 N h.ok h.paths,AI];simp only[iT,cg,aqP,ase,BY,U,abm,ahH,aI,h.res];rw[IT (by simp)];refine nT (fun j(out:List Rd)=>(OH l j,l.map bx.pv,(l.length:Int),(j:Int),N.stops.map Stop.pv,N.aj.map ax.pv,N.runs.map cy.pv,N.aH.map bq.pv,N.paths.map Path.pv,N.aK.map aM.pv,N.bn,N.within,N.cap,out.map Rd.pv,())) (fun j out=>some (PV.aG [.rs 4 ((dS N (l.drop j) out).map Rd.pv),.int .i64 0])) (Se l) l.length (fun j hj out rec hi iV=>?_) (fun out rec hi=>?_) (by unfold rounds;omega) [] ⟨by simp,by simp,fun hh=>by cases hh⟩ rfl
 ·obtain⟨_,_,hx,uJ⟩:=lh (hg.WK j hj);have JE:=iV _ (F8 h hg hj hi);have ait:OH l (j+1)=l[j].cr:=se hj;rw[mW hj];show _=some (PV.aG [.rs 4 ((dS N (l.drop (j+1)) (rdStep N out l[j])).map Rd.pv),.int .i64 0]);rw[←JE,ait];unfold sf;dsimp only;rw[IN (by simp;omega),bp bx.pv l j hj];simp only[U,mq,jK,kS,kR,mj,kQ,mi,kj,kn,iW,aaF,pU,U9,aB,aJ,ay,ab (show j<9223372036854775807 by omega)];cases hr:l[j].cr with
  |false=>simp_all[IT,rdStep]
  |true=>
   obtain⟨r,t,a,b,kO⟩:=wG h (hx hr);have hz:=IB h kO;obtain⟨m1,m2,m3,m4⟩:=Mb h kO;rw[IT (by simp[hx hr])];cases hs:l[j].stay with
   |false=>rw[IT (by simp),IN rfl];simp only[Sd h kO,U,aU,aV cy.pv kO.pB kO.run,JX,aI,aV ax.pv kO.Iv kO.dF,ED,W3 m2 m3,asr,BY];rw[IN (by simp only[asi,AI,asH];have:=hi.len;unfold ah;omega),JC (by omega),←m1,JC (by omega)];unfold rdStep;rw[hr,hs,IN rfl,IT (by simp),asM];rfl
   |true=>
    obtain⟨i,T2,rfl,hir⟩:=hg.stay j hj hs;have cU:out≠[]:=hi.ne (by rw[se T2];omega);obtain⟨init,y,rfl⟩:∃init y,out=init++[y]:=⟨out.dropLast,out.getLast cU,(aur cU).symm⟩;have hy:=hi.ok y (by simp);have ajD:OH l (i+1)=true:=by rw[se T2];omega
    have JS:=hi.len;simp only[asi,asH]at JS;rw[ajD,IT (by simp),IN rfl];simp only[Sd h kO,U,aU,aV cy.pv kO.pB kO.run,JX,aI,aV ax.pv kO.Iv kO.dF,ED,W3 m2 m3,aiI,cQ,IS];have hlen:(((init++[y]).map Rd.pv).length:Int)-1=((init.map Rd.pv).length:Int):=by simp
    have hmp:(init++[y]).map Rd.pv=init.map Rd.pv++[y.pv]:=by simp
    rw[hlen,aZ (by omega) (by grind),asc,hmp];rw[IN (by unfold al;simp;omega),Hn];simp only[U,Sf,Hn,rd0,rd1,rd2,rd3,aiu,abm,ahH,over,aI];rw[JC (show Iy N l[i+1]<9223372036854775808 by omega),←m1,JC (show Ma N l[i+1]<9223372036854775808 by omega),orI hy.z hz,orI hy.m m4];unfold rdStep;rw[hr,hs,IN rfl,IN rfl,ave,auT];simp only[Option.some_or,avf,asM,asn,at3];rfl
 ·unfold sf;dsimp only;rw[IT (by simp),as3];rfl
end
section
variable {N:an} {q:iJ} {l:List bx} {k:Nat}
theorem aaL(h:vN N)(hg:As N l)(hl:l.length≤1000000):sO [N.pv,Kh l]=some (.aG [.rs 4 ((dS N l []).map Rd.pv),.int .i64 0]):=by
 simp only[sO,Df,lj,ll,lq,lr,lu,lv,lx,ly,lz,lA,jA,j0,U,pU,RZ N h.ok h.paths,aB,h.res,asq,aiI,cQ,IS];refine nT (fun j(out:List Rd)=>((j:Int),N.stops.map Stop.pv,N.aj.map ax.pv,N.runs.map cy.pv,N.aH.map bq.pv,N.paths.map Path.pv,N.aK.map aM.pv,N.bn,N.within,N.cap,l.map bx.pv,out.map Rd.pv,())) (fun j out=>some (PV.aG [.rs 4 ((dS N (l.drop j) out).map Rd.pv),.int .i64 0])) (Se l) l.length (fun j hj out rec hi iV=>?_) (fun out rec hi=>?_) (by unfold rounds;omega) [] ⟨by simp,by simp,fun hh=>by cases hh⟩ rfl
 ·obtain⟨_,_,hx,uJ⟩:=lh (hg.WK j hj);have JE:=iV _ (F8 h hg hj hi);rw[mW hj];show _=some (PV.aG [.rs 4 ((dS N (l.drop (j+1)) (rdStep N out l[j])).map Rd.pv),.int .i64 0]);rw[←JE];unfold wP;dsimp only;rw[IN (by simp;omega),bp bx.pv l j hj];simp only[U,mq,jK,kS,kR,mj,kQ,mi,kj,kn,iW,aaF,pU,L3,aB,aJ,ay,ab (show j<9223372036854775807 by omega)];cases hr:l[j].cr with
  |false=>have hs:=uJ hr;rw[hs,IT (by simp)];simp only[cond_false,U,cQ,IS,asr,BY];simp_all[rdStep,IT]
  |true=>
   obtain⟨r,t,a,b,kO⟩:=wG h (hx hr);have hz:=IB h kO;obtain⟨m1,m2,m3,m4⟩:=Mb h kO;rw[IT (by simp[hx hr])];cases hs:l[j].stay with
   |false=>simp only[cond_false,U,cQ,IS,aiI,OG h kO,aI,aV cy.pv kO.pB kO.run,JX,aV ax.pv kO.Iv kO.dF,ED,shI m2 m3];rw[IT (by omega),IN (by simp only[asi,AI,asH];have:=hi.len;unfold ah;omega),←m1];unfold rdStep;rw[hr,hs,IN rfl,IT (by simp),asM];rfl
   |true=>
    obtain⟨i,T2,rfl,hir⟩:=hg.stay j hj hs;have cU:out≠[]:=hi.ne (by rw[se T2];omega);obtain⟨init,y,rfl⟩:∃init y,out=init++[y]:=⟨out.dropLast,out.getLast cU,(aur cU).symm⟩;have hy:=hi.ok y (by simp);have JS:=hi.len;simp only[asi,asH]at JS;have h0:(((i+1:Nat):Int)==0)=false:=by rfl
    rw[h0,hZ i (by omega),bp bx.pv l i T2];simp only[U,jK,hir,cond_true,cond_false,aiI,as5,as4,cQ,IS,BY,OG h kO,aI,aV cy.pv kO.pB kO.run,JX,aV ax.pv kO.Iv kO.dF,ED,shI m2 m3];have hlen:(((init++[y]).map Rd.pv).length:Int)-1=((init.map Rd.pv).length:Int):=by simp
    have hmp:(init++[y]).map Rd.pv=init.map Rd.pv++[y.pv]:=by simp
    rw[IT (by omega),hlen,aZ (by omega) (by grind),asc,hmp];have kM:∀v:PV,al ((init.map Rd.pv).length:Int) (init.map Rd.pv++[v]).length:=fun v=>by unfold al;simp;omega
    rw[IN (kM _),Hn];simp only[U,Sf,Hn,rd0,rd1,rd2,rd3,aiu,abm,ahH,over,aI,kM,BY];rw[←m1,orI hy.z hz,orI hy.m m4];unfold rdStep;rw[hr,hs,IN rfl,IN rfl,ave,auT];simp only[Option.some_or,avf,asM,asn,at3];rfl
 ·unfold wP;dsimp only;rw[IT (by simp),as3];rfl
end
def orS(f:Rd→Nat):List Rd→Nat→Nat
 |[],s=>s
 |x::r,s=>orS f r (s|||f x)
def Ns(m pm:Nat):Nat:=(BitVec.ofInt 64 (m:Int)&&& ~~~BitVec.ofInt 64 (pm:Int)).toNat
theorem W4{m pm:Nat}(h:m<65536):Ns m pm<65536:=by grind [Ns,BitVec.toNat_and,ahg,Nat.lt_of_le_of_lt,Nat.and_le_left]
def W5:Option Rd→Int
 |some x=>x.dep
 |none=>0
def Sg(p:aM)(rs:List Rd):Bool:=decide ((rs.length:Int)≤p.b9)&&decide (W5 rs.getLast? -W5 rs.head?≤p.fq)&&decide ((pc (orS Rd.j3 rs 0):Int)≤p.j3)&&decide (Ns (orS Rd.bP rs 0) p.bP.toNat=0)
structure POk(p:aM):Prop where
 b9:1≤p.b9∧p.b9≤8
 fq:0≤p.fq∧p.fq≤86400
 bP:1≤p.bP∧p.bP≤255
theorem Bv{n:Int}(h0:0≤n)(h:n<18446744073709551616):IntKind.u64.wrap n=n:=by obtain⟨m,rfl⟩:∃m:Nat,n=m:=⟨n.toNat,by omega⟩;exact OE (by omega)
theorem adK{a b d:Int}(ha:0≤a∧a≤3155932800)(hb:0≤b∧b≤3155932800)(hd:0≤d∧d≤86400):oi [.int .i64 a,.int .i64 b,.int .i64 d]=some (.bool (decide (b-a>d))):=by
 simp only[oi,zu,aI,U,ay,aJ];by_cases h:b≥a
 ·rw[IN (by simpa using h),Bv (n:=a) (by omega) (by omega),Bv (n:=b) (by omega) (by omega),Bv (n:=d) (by omega) (by omega),Bv (n:=b-a) (by omega) (by omega),atq (show¬d<0 by omega)];rfl
 ·rw[IT (by simpa using h),atq (show¬d<0 by omega),atq (show¬b-a>d by omega)];rfl
theorem Va{a b d:Int}(ha:0≤a∧a≤3155932800)(hb:0≤b∧b≤3155932800)(hd:0≤d∧d≤86400):gF [.int .i64 a,.int .i64 b,.int .i64 d]=some (.bool (decide (b-a≤d))):=by
 simp only[gF,vl,aI,U];by_cases h:b≤a
 ·rw[IN (by simpa using h),atD (show b-a≤d by omega)]
 ·rw[IT (by simpa using h),Bv (n:=a) (by omega) (by omega),Bv (n:=b) (by omega) (by omega),Bv (n:=d) (by omega) (by omega),Bv (n:=b-a) (by omega) (by omega)]
theorem ahj{z:Nat}(hz:z<65536):vn [.int .i64 (z:Int)]=some (.int .i64 (pc z:Int)):=by
 simp only[vn,F9,aI,U];refine(nT (fun k(s:Nat)=>((z:Int),(s:Int),(k:Int),())) (fun k s=>some (PV.int .i64 ((s+pcF (64-k) (z/2^k):Nat):Int))) (fun k s=>s≤k) 62 (fun k hk s rec hi iV=>?_) (fun s rec hi=>?_) (by decide) 0 (by omega) rfl).trans (by simp[pc])
 ·unfold zw;dsimp only;have ab6:min ((k:Int).toNat) IntKind.i64.bits=k:=by rw[asc];exact asU (by show k≤64;omega)
  have hdiv:(z:Int).fdiv (2^min ((k:Int).toNat) IntKind.i64.bits)=((z/2^k:Nat):Int):=by grind
  have cd:z/2^k<65536:=Nat.lt_of_le_of_lt (Nat.div_le_self _ _) hz;have hand:IntKind.i64.wrap ((BitVec.ofInt IntKind.i64.bits ((z/2^k:Nat):Int)&&&BitVec.ofInt IntKind.i64.bits 1).toNat:Int)=((z/2^k%2:Nat):Int):=by show IntKind.i64.wrap (((BitVec.ofInt 64 ((z/2^k:Nat):Int)&&&BitVec.ofInt 64 ((1:Nat):Int)).toNat:Nat):Int)=_;grind [BitVec.toNat_and,ahg,JC]
  have Uh:pcF (64-k) (z/2^k)=z/2^k%2+pcF (64-(k+1)) (z/2^(k+1)):=by
   have e1:64-k=(64-(k+1))+1:=by omega
   rw[e1,pcF,Nat.pow_succ,Nat.div_div_eq_div_mul]
  rw[IN (by simp;omega),IT (by omega),hdiv,hand,Uh,ab (by omega),ab (by omega)];rcases auC (z/2^k)with h2|h2
  ·rw[h2,IT (by simp),iV s (by omega),asZ]
  ·rw[h2,IN (by rfl),iV (s+1) (by omega),asQ]
 ·unfold zw;dsimp only;have h0:z/2^62=0:=auY (by omega);rw[IT (by simp),h0,LH];rfl
theorem ahk(x:Rd):Ab.asInt .i64 (cell x.pv 0)=some x.dep:=rfl
theorem anc(x:Rd):Ab.asInt .i64 (cell x.pv 1)=some x.arr:=rfl
theorem ane(x:Rd):Ab.asInt .i64 (cell x.pv 2)=some (x.j3:Int):=rfl
theorem anf(x:Rd):Ab.asInt .i64 (cell x.pv 3)=some (x.bP:Int):=rfl
theorem ahl(x:aM):asAgg 6 x.pv=some ():=rfl
theorem ang(x:aM):PV.agg [cell x.pv 0,cell x.pv 1,cell x.pv 2,cell x.pv 3,cell x.pv 4,cell x.pv 5]=x.pv:=rfl
theorem W6(x:aM):Ab.aO (cell x.pv 0)=some x.id:=rfl
theorem W7(x:aM):Ab.asInt .i64 (cell x.pv 1)=some x.jL:=rfl
theorem W8(x:aM):Ab.asInt .i64 (cell x.pv 2)=some x.b9:=rfl
theorem W9(x:aM):Ab.asInt .i64 (cell x.pv 3)=some x.j3:=rfl
theorem Xa(x:aM):Ab.asInt .i64 (cell x.pv 4)=some x.fq:=rfl
theorem Xb(x:aM):Ab.asInt .i64 (cell x.pv 5)=some x.bP:=rfl
theorem Si{a b:Nat}(ha:a<65536)(hb:b<65536):gG [.int .u64 (a:Int),.int .u64 (b:Int)]=some (.int .u64 ((a|||b:Nat):Int)):=by grind [gG,sg,aU,U,orU]
theorem Vb{a b:Nat}(ha:a<65536):jd [.int .u64 (a:Int),.int .u64 (b:Int)]=some (.bool (decide (Ns a b=0))):=by simp only[jd,qv,aU,U];show some (PV.bool (IntKind.u64.wrap (((Ns a b:Nat)):Int)==0))=_;have:=W4 (pm:=b) ha;rw[OE (by omega),bX];simp
theorem ajE{z:Nat}:RH [.int .u64 (z:Int)]=some (.int .i64 (pc z:Int)):=by rfl
theorem aaM{p:aM}(hp:POk p)(x:Rd)(xs:List Rd)(hn:xs.length≤7)(ho:∀y∈x::xs,IC y):jS [p.pv,.rs 4 ((x::xs).map Rd.pv)]=some (.bool (Sg p (x::xs))):=by
 obtain⟨hr,hs,hm⟩:=hp;have JB:∃y,(x::xs).getLast? =some y∧y∈x::xs∧(x::xs)[xs.length]?=some y:=by refine⟨(x::xs).getLast (by simp),aum (by simp),List.getLast_mem _,?_⟩;grind
 obtain⟨y,y1,y2,y3⟩:=JB;simp only[jS,wQ,ahl,W6,W7,W8,W9,Xa,Xb,aS,U,AI,aqP,ay];have h0:((((xs.length+1:Nat):Int))==0)=false:=by rfl
 have hi0:dA ((x::xs).map Rd.pv) 0=some x.pv:=rfl;have hiL:dA ((x::xs).map Rd.pv) ((xs.length:Nat):Int)=some y.pv:=aV Rd.pv (by omega) (by simpa using y3);rw[h0,hZ xs.length (by omega),hi0,hiL];simp only[as5,U,ahk,adK (ho x (by simp)).d (ho y y2).d hs,aB];unfold Sg;rw[y1,List.head?_cons];show _=some (PV.bool (decide (((xs.length+1:Nat):Int)≤p.b9)&&decide (y.dep-x.dep≤p.fq)&&decide ((pc (orS Rd.j3 (x::xs) 0):Int)≤p.j3)&&decide (Ns (orS Rd.bP (x::xs) 0) p.bP.toNat=0)));by_cases hc:((xs.length+1:Nat):Int)≤p.b9
 ·rw[atq (show¬((xs.length+1:Nat):Int)>p.b9 by omega),atD hc];simp only[asX,cond_false,U];by_cases hd:y.dep-x.dep≤p.fq
  ·rw[atq (show¬y.dep-x.dep>p.fq by omega),atD hd];rw[IT (by simp),asX];refine nT (fun k(zm:Nat×Nat)=>((x::xs).map Rd.pv,((xs.length+1:Nat):Int),(k:Int),p.id,p.jL,p.b9,p.j3,p.fq,p.bP,(zm.1:Int),(zm.2:Int),())) (fun k zm=>some (PV.bool (decide ((pc (orS Rd.j3 ((x::xs).drop k) zm.1):Int)≤p.j3)&&decide (Ns (orS Rd.bP ((x::xs).drop k) zm.2) p.bP.toNat=0)))) (fun k zm=>zm.1<65536∧zm.2<65536) (x::xs).length (fun k hk zm rec hi iV=>?_) (fun zm rec hi=>?_) (by unfold rounds;simp;omega) (0,0) (by simp) rfl
   ·have hx:=ho _ (ar9 hk);unfold qw;dsimp only;rw[IN (by simp at hk⊢;omega),bp Rd.pv _ k hk];simp only[U,ane,anf,OE (show((x::xs)[k]).j3<18446744073709551616 by have:=hx.z;omega),OE (show((x::xs)[k]).bP<18446744073709551616 by have:=hx.m;omega),Si hi.1 hx.z,Si hi.2 hx.m,aU,ab (show k<9223372036854775807 by simp at hk;omega)];rw[iV (_,_) ⟨Dc hi.1 hx.z,Dc hi.2 hx.m⟩,mW hk];rfl
   ·unfold qw;dsimp only;rw[IT (by simp),as3,Bv (n:=p.bP) (by omega) (by omega)];have hpm:p.bP=((p.bP.toNat:Nat):Int):=by omega
    rw[hpm];simp only[ajE,U,aI,Vb hi.2,aB,aJ,orS,asc];rfl
  grind
 grind
def cut(rs:List Rd)(i k:Nat):List Rd:=(rs.take (k+1)).drop i
variable{rs:List Rd}{i k:Nat}
theorem Xc(hk:k<rs.length):(cut rs i k).length=k+1-i:=by unfold cut;simp;omega
theorem Xd{j:Nat}(hj:i+j≤k):(cut rs i k)[j]?=rs[i+j]?:=by unfold cut;grind
theorem Xe{x:Rd}(h:x∈cut rs i k):x∈rs:=atl (att h)
theorem Vc{p:aM}(hp:POk p)(hik:i≤k)(hk:k<rs.length)(hn:rs.length≤8)(ho:∀y∈rs,IC y):qx [p.pv,.rs 4 (rs.map Rd.pv),.int .i64 (i:Int),.int .i64 (k:Int)]=some (.bool (Sg p (cut rs i k))):=by
 obtain⟨hr,hs,hm⟩:=hp;have hlen:=Xc (i:=i) hk;have hx:∀j(h:j<(cut rs i k).length),rs[i+j]?=some (cut rs i k)[j]:=fun j h=>by rw[←Xd (k:=k) (by omega)];simp
 have ajF:(cut rs i k).head? =some rs[i]:=by simp_all[atP,Xd,ato,cN]
 have JB:(cut rs i k).getLast? =some rs[k]:=by grind
 simp only[qx,Bw,ahl,W6,W7,W8,W9,Xa,Xb,aS,aI,U];refine(nT (fun j(zm:Nat×Nat)=>(rs.map Rd.pv,(i:Int),(k:Int),(zm.1:Int),(zm.2:Int),((i+j:Nat):Int),p.id,p.jL,p.b9,p.j3,p.fq,p.bP,())) (fun j zm=>some (PV.bool (decide (((cut rs i k).length:Int)≤p.b9)&&decide ((pc (orS Rd.j3 ((cut rs i k).drop j) zm.1):Int)≤p.j3)&&decide (W5 (some rs[k])-W5 (some rs[i])≤p.fq)&&decide (Ns (orS Rd.bP ((cut rs i k).drop j) zm.2) p.bP.toNat=0)))) (fun j zm=>zm.1<65536∧zm.2<65536) (cut rs i k).length (fun j hj zm rec hi iV=>?_) (fun zm rec hi=>?_) (by rw[hlen];unfold rounds;omega) (0,0) (by simp) rfl).trans ?_
 ·have hy:=ho _ (Xe (ar9 hj));unfold ug;dsimp only;rw[IN (by simp;omega),aV Rd.pv (by omega) (show rs[((i+j:Nat):Int).toNat]?=some (cut rs i k)[j] by grind)];simp only[U,ane,anf,orI hi.1 hy.z,orI hi.2 hy.m,ab (show i+j<9223372036854775807 by omega)];rw[show i+j+1=i+(j+1) by omega,iV (_,_) ⟨Dc hi.1 hy.z,Dc hi.2 hy.m⟩,mW hj];rfl
 ·unfold ug;dsimp only;rw[IT (by simp;omega),as3];have aqu:IntKind.i64.wrap (IntKind.i64.wrap ((k:Int)-(i:Int))+1)=((cut rs i k).length:Int):=by grind [aZ]
  have hd1:=(ho _ (ar9 (show i<rs.length by omega))).d;have hd2:=(ho _ (ar9 hk)).d;have Ug:(IntKind.i64.wrap ((BitVec.ofInt IntKind.i64.bits (zm.2:Int)&&& ~~~BitVec.ofInt IntKind.i64.bits p.bP).toNat:Int)==0)=decide (Ns zm.2 p.bP.toNat=0):=by
   have hpm:p.bP=((p.bP.toNat:Nat):Int):=by omega
   have:=W4 (pm:=p.bP.toNat) hi.2;rw[hpm];show(IntKind.i64.wrap ((Ns zm.2 p.bP.toNat:Nat):Int)==0)=_;rw[JC (by omega),bX,asc];simp
  rw[aqu];simp only[ahj hi.1,U,aI,aJ,bp Rd.pv rs i (by omega),bp Rd.pv rs k hk,ahk,Va hd1 hd2 hs,aB,Ug];rfl
 ·unfold Sg;rw[ajF,JB];grind
theorem Vd{p:aM}(hp:POk p)(hik:i≤k)(hk:k<rs.length)(hn:rs.length≤8)(ho:∀y∈rs,IC y):jS [p.pv,.rs 4 ((cut rs i k).map Rd.pv)]=some (.bool (Sg p (cut rs i k))):=by
 have hlen:=Xc (i:=i) hk;cases hc:cut rs i k with
 |nil=>grind
 |cons x xs=>grind [List.length_cons,aaM,Xe]
theorem Fi(l:List aM)(d w c:Int):asAgg 4 (dp l d w c)=some ():=rfl
theorem Fj(l:List aM)(d w c:Int):ao 6 (cell (dp l d w c) 0)=some (l.map aM.pv):=rfl
theorem Fk(l:List aM)(d w c:Int):Ab.asInt .i64 (cell (dp l d w c) 1)=some d:=rfl
theorem Fl(l:List aM)(d w c:Int):Ab.asInt .i64 (cell (dp l d w c) 2)=some w:=rfl
theorem Fm(l:List aM)(d w c:Int):Ab.asInt .i64 (cell (dp l d w c) 3)=some c:=rfl
theorem Mc(l:List aM)(d w c:Int):PV.agg [.rs 6 (l.map aM.pv),.int .i64 d,.int .i64 w,.int .i64 c]=dp l d w c:=rfl
end Go.Ab.Tt
