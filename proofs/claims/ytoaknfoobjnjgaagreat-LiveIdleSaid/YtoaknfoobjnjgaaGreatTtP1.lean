import Derived.Test.YtoaknfoobjnjgaaGreatNkP2
import Derived.Test.YtoaknfoobjnjgaaGreatSh4
set_option linter.all false
namespace Go.Ab.Tt
set_option maxRecDepth 100000
def dv(n:Int):Bool:=decide (0≤n)&&decide (n≤36524)
theorem Ur(n:Int):cg [.int .i64 n]=some (.bool (dv n)):=by simp only[cg,ud,asInt,IS,U,bL];rfl
def acm(l:List wb)(k:Nat):Int:=match l[k]? with
 |none=>0
 |some x=>if dV x.id=false then 12 else if x.id∈(l.map wb.id).take k then 6 else if(!dv x.IF|| !dv x.IG||decide (x.IF>x.IG))=true then 11 else 0
def I0(l:List wb):Int×Int:=if l.length>64 then(0,5)else bM (acm l) l.length
theorem amN(x:wb):cell x.pv 0=.str x.id:=rfl
theorem agR(x:wb):cell x.pv 8=.int .i64 x.IF:=rfl
theorem agS(x:wb):cell x.pv 9=.int .i64 x.IG:=rfl
theorem acn(l:List wb)(hl:l.length≤maxLen∧∀y∈l,y.Ok):lP [.rs 10 (l.map wb.pv)]=some (res (I0 l).1 (I0 l).2):=by
 have hm:=aL;simp only[lP,uh,ak,IS,U,By];unfold I0;by_cases pU:l.length>64
 ·rw[BY (by simp;omega),BY pU];rfl
 ·rw[IT (by simp;omega),IT pU,←gT];refine aO (fun k=>(l.map wb.pv,(l.length:Int),(k:Int),seen PV.str ((l.map wb.id).take k),())) l.length _ (fun k hk rec=>?_) (fun rec=>?_) ?_ rfl
  ·have h1:(k:Int)<(l.length:Int):=by omega
   have hid:=tL l[k].id (hl.2 _ (agZ hk)).id;have mW:=fK qJ l[k].id ((l.map wb.id).take k);have kx:=eQ qJ l[k].id ((l.map wb.id).take k);simp only[pP,te,h1,IS,af,AT,ta hk,No,U,amN,agR,agS,bt,asInt,asBool,hid,mW,kx,Ur,ah (show k<9223372036854775807 by omega),jU wb.id l k hk];unfold acm;rw[ta hk];simp only;cases dV l[k].id with
   |false=>rfl
   |true=>
    by_cases bu:l[k].id∈(l.map wb.id).take k
    ·simp only[bu,IS,ag0,tc,anE,PS];rfl
    ·simp only[bu,IS,ag0,tc,anE,PS];by_cases hgt:l[k].IF>l[k].IG
     ·simp only[hgt,anR,aqS,IS];cases dv l[k].IF<;>cases dv l[k].IG<;>rfl
     ·simp only[hgt,anJ,aoL,PS];cases dv l[k].IF<;>cases dv l[k].IG<;>rfl
  ·simp only[pP,te,anN,PS];rfl
  ·have:=aN;omega
def sg(x:yE):Int×Int:=(x.AX,x.day)
def aco(l:List yE)(n:Int)(k:Nat):Int:=match l[k]? with
 |none=>0
 |some x=>if(decide (x.AX<0)||decide (x.AX≥n))=true then 9 else if dv x.day=false then 11 else if sg x∈(l.map sg).take k then 6 else 0
def I1(l:List yE)(n:Int):Int×Int:=if l.length>256 then(0,5)else bM (aco l n) l.length
def EL(x:Int×Int):PV:=.agg [.int .i64 x.1,.int .i64 x.2]
theorem P7(a b:Int×Int):bR (EL a).cells (EL b).cells=decide (a=b):=by obtain⟨a1,a2⟩:=a;obtain⟨b1,b2⟩:=b;rw[anS];simp[EL,PV.cells,bR,peq]
theorem ake(x:yE):cell x.pv 0=.int .i64 x.AX:=rfl
theorem akf(x:yE):cell x.pv 1=.int .i64 x.day:=rfl
theorem acp(l:List yE)(n:Int)(hl:l.length≤maxLen∧∀y∈l,y.Ok):eg [.rs 3 (l.map yE.pv),.int .i64 n]=some (res (I1 l n).1 (I1 l n).2):=by
 have hm:=aL;simp only[eg,iq,ak,asInt,IS,U,By];unfold I1;by_cases pU:l.length>256
 ·rw[BY (by simp;omega),BY pU];rfl
 ·rw[IT (by simp;omega),IT pU,←gT];refine aO (fun k=>(n,l.map yE.pv,(l.length:Int),(k:Int),seen EL ((l.map sg).take k),())) l.length _ (fun k hk rec=>?_) (fun rec=>?_) ?_ rfl
  ·have h1:(k:Int)<(l.length:Int):=by omega
   have mW:dr (.agg [.int .i64 l[k].AX,.int .i64 l[k].day]) (.bool true) (seen EL ((l.map sg).take k))=_:=fK P7 (sg l[k]) ((l.map sg).take k);have kx:bT (.agg [.int .i64 l[k].AX,.int .i64 l[k].day]) (.bool false) (seen EL ((l.map sg).take k))=_:=eQ P7 (sg l[k]) ((l.map sg).take k);simp only[fR,te,h1,IS,af,AT,ta hk,No,U,ake,akf,asInt,asBool,mW,kx,Ur,aT,ah (show k<9223372036854775807 by omega),jU sg l k hk];unfold aco;rw[ta hk];simp only;generalize (decide (l[k].AX<0)||decide (l[k].AX≥n))=c;by_cases bu:sg l[k]∈(l.map sg).take k
   ·simp only[bu,IS];cases c<;>cases dv l[k].day<;>rfl
   ·simp only[bu,PS];cases c<;>cases dv l[k].day<;>rfl
  ·simp only[fR,te,anN,PS];rfl
  ·have:=aN;omega
theorem Bp(x:bY):cell x.pv 0=.str x.id:=rfl
theorem Bq(x:bY):cell x.pv 1=.int .i64 x.aY:=rfl
theorem Br(x:bY):cell x.pv 2=.int .i64 x.AX:=rfl
theorem yA(x:bY):cell x.pv 4=.rs 5 (x.calls.map ai.pv):=rfl
def Gc(l:List bY)(stops ae gR:Int)(k:Nat):Int:=match l[k]? with
 |none=>0
 |some x=>if dV x.id=false then 12 else if x.id∈(l.map bY.id).take k then 6 else if(decide (x.aY<0)||decide (x.aY≥ae)||decide (x.AX<0)||decide (x.AX≥gR))=true then 9 else(bD x.calls stops 0 172800).2
def sA(l:List bY)(stops ae gR:Int):Int×Int:=if l.length>256 then(0,5)else bM (Gc l stops ae gR) l.length
theorem WB(l:List bY)(stops ae gR:Int)(hl:l.length≤maxLen∧∀y∈l,y.Ok):sK [.rs 5 (l.map bY.pv),.int .i64 stops,.int .i64 ae,.int .i64 gR]=some (res (sA l stops ae gR).1 (sA l stops ae gR).2):=by
 have hm:=aL;simp only[sK,Cj,ak,asInt,IS,U,By];unfold sA;by_cases pU:l.length>256
 ·rw[BY (by simp;omega),BY pU];rfl
 ·rw[IT (by simp;omega),IT pU,←gT];refine aO (fun k=>(stops,ae,gR,l.map bY.pv,(l.length:Int),(k:Int),seen PV.str ((l.map bY.id).take k),())) l.length _ (fun k hk rec=>?_) (fun rec=>?_) ?_ rfl
  ·have h1:(k:Int)<(l.length:Int):=by omega
   have hid:=tL l[k].id (hl.2 _ (agZ hk)).id;have mW:=fK qJ l[k].id ((l.map bY.id).take k);have kx:=eQ qJ l[k].id ((l.map bY.id).take k);have iW:=wN l[k].calls stops 0 172800 (hl.2 _ (agZ hk)).calls.1;simp only[res]at iW;simp only[wa,te,h1,IS,af,AT,ta hk,No,U,Bp,Bq,Br,yA,bt,asInt,asBool,ak,hid,mW,kx,iW,cz,alx,anx,Nat.reduceAdd,aki,amr,aT,ah (show k<9223372036854775807 by omega),jU bY.id l k hk,gd];unfold Gc;rw[ta hk];simp only;generalize (bD l[k].calls stops 0 172800).2=e;cases dV l[k].id with
   |false=>rfl
   |true=>
    by_cases bu:l[k].id∈(l.map bY.id).take k
    ·simp only[bu,IS,ag0,tc,anE,PS];rfl
    ·simp only[bu,IS,ag0,tc,anE,PS];cases decide (l[k].aY<0)<;>cases decide (l[k].aY≥ae)<;>cases decide (l[k].AX<0)<;>cases decide (l[k].AX≥gR)<;>(try rfl);grind [Ik,bP,res]
  ·simp only[wa,te,anN,PS];rfl
  ·have:=aN;omega
def qH(l:List Path)(n:Int):Int×Int:=if l.length>512 then(0,5)else bM (dp l n) l.length
theorem Kw(l:List Path)(n:Int)(hl:l.length≤maxLen):jm [.rs 4 (l.map Path.pv),.int .i64 n]=some (res (qH l n).1 (qH l n).2):=by
 have h:=Il l n hl;simp only[res]at h;simp only[jm,uf,ak,asInt,IS,U,By,h,cz,alx,anx,Nat.reduceAdd,aki,amr,te];unfold qH;by_cases pU:l.length>512
 ·rw[BY (by omega),BY pU];rfl
 ·rw[IT (by omega),IT pU];rfl
def Cq(t first start:Int):Bool:=decide (0≤t-first+start)&&decide (t-first+start≤172800)
theorem Sk(n:Int):((BitVec.ofInt 64 n&&&BitVec.ofInt 64 4294967295).toNat:Int)=n%4294967296:=by
 have h:(BitVec.ofInt 64 4294967295).toNat=2^32-1:=by rfl
 rw[BitVec.toNat_and,h,Nat.and_two_pow_sub_one_eq_mod,BitVec.toNat_ofInt];omega
theorem acq(n:Int):((BitVec.ofInt IntKind.i64.bits n&&&BitVec.ofInt IntKind.i64.bits 4294967295).toNat:Int)=n%4294967296:=Sk n
theorem WC(n:Int):ez [.int .i64 n]=some (.bool (decide (n< -2305843009213693952)||decide (n>2305843009213693952))):=by simp[ez,pF,asInt,IS,U,aT]
theorem eY(a:Int):mc a↔-9223372036854775808≤a∧a≤9223372036854775807:=by
 have h1:IntKind.i64.min= -9223372036854775808:=by rfl
 have h2:IntKind.i64.max=9223372036854775807:=by rfl
 unfold mc Lit.wf;simp[h1,h2]
theorem two32:((2:Int)^min (Int.toNat 32) IntKind.i64.bits)=4294967296:=by rfl
theorem amO(a:Int):a.fdiv 4294967296=a/4294967296:=ap4 _ (by omega)
theorem aed(a b c:Int)(ha:mc a)(hb:mc b)(hc:mc c):∃n,lO [.int .i64 a,.int .i64 b,.int .i64 c]=some (.aV [.int .i64 n,.bool (Cq a b c)])∧(Cq a b c=true→n=a-b+c):=by
 obtain⟨YZ,ha2⟩:=(eY _).1 ha;obtain⟨SB,td⟩:=(eY _).1 hb;obtain⟨hc1,Na⟩:=(eY _).1 hc;simp only[lO,ug,asInt,IS,U,two32,amO,acq];have w0:∀x:Int,IntKind.i64.wrap (x%4294967296)=x%4294967296:=fun x=>bp (by omega) (by omega);have w1:IntKind.i64.wrap (a/4294967296-b/4294967296)=a/4294967296-b/4294967296:=bp (by omega) (by omega);have w2:IntKind.i64.wrap (a/4294967296-b/4294967296+c/4294967296)=a/4294967296-b/4294967296+c/4294967296:=bp (by omega) (by omega);have w3:IntKind.i64.wrap (a%4294967296-b%4294967296)=a%4294967296-b%4294967296:=bp (by omega) (by omega);have w4:IntKind.i64.wrap (a%4294967296-b%4294967296+c%4294967296)=a%4294967296-b%4294967296+c%4294967296:=bp (by omega) (by omega);have w5:IntKind.i64.wrap (a/4294967296-b/4294967296+c/4294967296+(a%4294967296-b%4294967296+c%4294967296)/4294967296)=a/4294967296-b/4294967296+c/4294967296+(a%4294967296-b%4294967296+c%4294967296)/4294967296:=bp (by omega) (by omega);simp only[w0,w1,w2,w3,w4,w5];generalize hH:a/4294967296-b/4294967296+c/4294967296+(a%4294967296-b%4294967296+c%4294967296)/4294967296=H;generalize hL:(a%4294967296-b%4294967296+c%4294967296)%4294967296=Lo;have hs:a-b+c=H*4294967296+Lo:=by omega
 have hLo:0≤Lo∧Lo<4294967296:=by omega
 unfold Cq;by_cases h0:H=0
 ·have e0:(BitVec.ofInt 64 (IntKind.i64.wrap (H*4294967296))|||BitVec.ofInt 64 Lo).toNat=Lo.toNat:=by grind
  have e1:IntKind.i64.wrap ((BitVec.ofInt IntKind.i64.bits (IntKind.i64.wrap (H*4294967296))|||BitVec.ofInt IntKind.i64.bits Lo).toNat:Int)=Lo:=by have e2:(BitVec.ofInt IntKind.i64.bits (IntKind.i64.wrap (H*4294967296))|||BitVec.ofInt IntKind.i64.bits Lo).toNat=Lo.toNat:=e0;rw[e2];rw[bp (by omega) (by omega)];omega
  simp_all
 ·have hb:(H==0)=false:=by simp[h0]
  simp only[hb,cond_false,U];have h1:(decide (0≤a-b+c)&&decide (a-b+c≤172800))=false:=by grind
  rw[h1];simp
theorem Dy(a b c:Int)(ha:mc a)(hb:mc b)(hc:mc c):∃n,ic [.int .i64 a,.int .i64 b,.int .i64 c]=some (.aV [.int .i64 n,.bool (Cq a b c)])∧(Cq a b c=true→n=a-b+c):=by
 obtain⟨n,hn,hnn⟩:=aed a b c ha hb hc;simp only[ic,rV,asInt,IS,U,WC,asBool,aT,hn,cz,alx,anx,Nat.reduceAdd,aki,amr,bL];split
 ·exact⟨n,rfl,hnn⟩
 ·rename_i h;simp only[anH,te,ap8]at h;have w1:IntKind.i64.wrap (a-b)=a-b:=bp (by omega) (by omega);have w2:IntKind.i64.wrap (a-b+c)=a-b+c:=bp (by omega) (by omega);simp only[w1,w2];exact⟨_,rfl,fun _=>rfl⟩
theorem qW{S R:Type}{body:S→(S→Option R)→Option R}(st:Nat→S)(n:Nat)(bad:Nat→Option (Option R)){fin:Option R}(h:∀k,k<n→(∀j,j<k→bad j=none)→∀rec,body (st k) rec=bP (bad k) (rec (st (k+1))))(lZ:(∀j,j<n→bad j=none)→∀rec,body (st n) rec=fin)(hn:n<rounds){s0:S}(h0:st 0=s0):bd.run body s0=bP ((List.range n).findSome? bad) fin:=by
 have key:∀(m j N:Nat),j+m=n→m<N→(∀i,i<j→bad i=none)→bX body N (st j)=bP ((List.range' j m).findSome? bad) fin:=by
  intro m;induction m with
  |zero=>
   intro j N hj hN hq;cases N with
   |zero=>omega
   |succ N=>
    have:j=n:=by omega
    subst this;simp only[bX,List.range'_zero,ap7];exact lZ hq _
  |succ m ih=>
   intro j N hj hN hq;cases N with
   |zero=>omega
   |succ N=>
    simp only[bX,apA,aou];rw[h j (by omega) hq];cases hb:bad j with
    |some r=>rfl
    |none=>refine ih (j+1) N (by omega) (by omega) fun i hi=>?_;grind
 grind [lv,rounds,List.range_eq_range']
theorem Uk(x:ai):cell x.pv 3=.bool x.FE:=rfl
theorem Ul(x:ai):cell x.pv 4=.bool x.zU:=rfl
theorem Dw(x:bY):cell x.pv 3=.bool x.free:=rfl
theorem Uj(x:bY):asAgg 5 x.pv=some ():=rfl
theorem PJ(cs:List PV)(k:Nat):cell (.agg cs) k=cs.getD k .bad:=rfl
def Ni(x:ai)(first start:Int):ai:={x with arr:=x.arr-first+start,dep:=x.dep-first+start}
def kOk(x:ai)(first start:Int):Bool:=Cq x.arr first start&&Cq x.dep first start
def pN(l:List ai)(first start:Int)(k:Nat):Bool:=match l[k]? with|some x=>kOk x first start|none=>true
def se(l:List ai)(start:Int):Int:=match l with
 |[]=>16
 |c::_=>if(List.range l.length).all (pN l c.dep start)=true then 0 else 10
theorem zY{B:Type}(p:Nat→Bool)(r:B):∀l:List Nat,l.findSome? (fun k=>if p k=true then none else some r)=if l.all p=true then none else some r:=by
 intro l;induction l with
 |nil=>rfl
 |cons a l ih=>grind
def Dx(l:List ai)(f:ai→ai)(k:Nat):List PV:=((l.take k).map fun x=>(f x).pv)++(l.drop k).map ai.pv
theorem PG(l:List ai)(f:ai→ai)(k:Nat)(h:k≤l.length):(Dx l f k).length=l.length:=by simp[Dx];omega
theorem PH(l:List ai)(f:ai→ai)(k:Nat)(h:k<l.length):(Dx l f k)[k]?=some l[k].pv:=by grind [Dx,List.getElem?_append_right,Nat.min_eq_left,Nat.le_of_lt]
theorem PI(l:List ai)(f:ai→ai)(k:Nat)(h:k<l.length):(Dx l f k).set k (f l[k]).pv=Dx l f (k+1):=by unfold Dx;rw[aqE _ _ (by simp;omega)];have h1:l.drop k=l[k]::l.drop (k+1):=(aoj h);have h2:l.take (k+1)=l.take k++[l[k]]:=(ao6 h).symm;rw[h1,h2];simp only[By,an9,aoM (apR h),aqQ,anB,List.set_cons_zero,anU,apo,an1,List.singleton_append]
theorem k8(k n:Nat)(h:k<n):aC (k:Int) n:=by unfold aC;omega
theorem K7(x:bY)(hx:x.Ok)(start:Int)(hs:mc start)(MV:x.calls.length≤40):∃es,cw [x.pv,.int .i64 start]=some (.aV [.rs 5 es,.int .i64 (se x.calls start)]):=by
 have hm:=aL;have Dv:∀y∈x.calls,y.Ok:=hx.calls.2;simp only[cw,mM,Uj,Bp,Bq,Br,Dw,yA,bt,ak,asInt,asBool,IS,U,By];generalize x.calls=l at MV Dv⊢;cases l with
 |nil=>exact⟨[],rfl⟩
 |cons c l=>
  generalize hl:c::l=cs at MV Dv⊢;have hc0:cs[0]?=some c:=by rw[←hl];rfl
  have eO:0<cs.length:=by rw[←hl];simp
  have hcE:se cs start=if(List.range cs.length).all (pN cs c.dep start)=true then 0 else 10:=by rw[←hl];rfl
  have abM:c.Ok:=Dv c (by rw[←hl];simp);have cy:((cs.length:Int)==0)=false:=by grind
  have hix:yB (cs.map ai.pv) 0=some c.pv:=by have:=af (cs.map ai.pv) 0;simp_all
  have cr:0≤(cs.length:Int)∧(cs.length:Int)≤(cs.length:Int)∧(cs.length:Int).toNat*32≤aa∧0<32∧0<5:=by grind [decide,aa]
  rw[cy,hix];simp only[tc,PS,U,uW,asInt,IS,BY cr,aoc,agY,anZ (aqT (By _)),By];rw[aqs (by simp),aof,By];have R5:0≤(cs.length:Int)∧(cs.length:Int)≤(cs.length:Int)∧cs.length*32≤aa∧0<32∧0<5:=cr;have abN:bd.run dM (start,c.dep,(cs.length:Int),0,cs.map ai.pv,())=bP ((List.range cs.length).findSome? fun k=>if pN cs c.dep start k=true then none else some (some (.aV [.rs 5 [],.int .i64 10]))) (some (.aV [.rs 5 (Dx cs (fun x=>Ni x c.dep start) cs.length),.int .i64 0])):=by
   refine aO (fun k=>(start,c.dep,(cs.length:Int),(k:Int),Dx cs (fun x=>Ni x c.dep start) k,())) cs.length _ (fun k hk rec=>?_) (fun rec=>?_) ?_ ?_
   ·have h1:(k:Int)<(cs.length:Int):=by omega
    have yJ:cs[k].Ok:=Dv _ (agZ hk);obtain⟨n1,e1,q1⟩:=Dy cs[k].arr c.dep start yJ.arr abM.dep hs;obtain⟨n2,e2,q2⟩:=Dy cs[k].dep c.dep start yJ.dep abM.dep hs;have hlen:=PG cs (fun x=>Ni x c.dep start) k (by omega);have eE:=PH cs (fun x=>Ni x c.dep start) k hk;have uy:=PI cs (fun x=>Ni x c.dep start) k hk;have hr:aC (k:Int) cs.length:=k8 k _ hk;have amn:pN cs c.dep start k=(Cq cs[k].arr c.dep start&&Cq cs[k].dep c.dep start):=by unfold pN;rw[ta hk];rfl
    have Lz:∀X,((Dx cs (fun x=>Ni x c.dep start) k).set k X)[k]?=some X:=fun X=>by simp_all
    simp only[dM,te,h1,IS,hlen,BY hr,agY,eE,U,zu,zw,uW,Uk,Ul,asInt,e1,e2,cz,asBool,alx,anx,Nat.reduceAdd,aki,amr,aoA,Lz,PJ,over,aoS,ah (show k<9223372036854775807 by omega)];grind [Cq,start,bP,Ni,ai.pv]
   ·simp[dM,te,anN,PS]
   ·grind [rounds,decide]
   rfl
  rw[BY R5,abN,zY,hcE];by_cases uz:(List.range cs.length).all (pN cs c.dep start)=true
  ·rw[BY uz,BY uz];exact⟨_,rfl⟩
  ·rw[IT uz,IT uz];exact⟨_,rfl⟩
theorem Bo(x:bC):cell x.pv 0=.int .i64 x.aZ:=rfl
theorem Dr(x:bC):cell x.pv 1=.int .i64 x.t0:=rfl
theorem Dt(x:bC):cell x.pv 2=.int .i64 x.t1:=rfl
theorem Du(x:bC):cell x.pv 3=.int .i64 x.every:=rfl
theorem P8(x:bC):asAgg 4 x.pv=some ():=rfl
theorem K2(x:bC):PV.agg [.int .i64 x.aZ,.int .i64 x.t0,.int .i64 x.t1,.int .i64 x.every]=x.pv:=rfl
theorem acr(x:bY):PV.agg [.str x.id,.int .i64 x.aY,.int .i64 x.AX,.bool x.free,.rs 5 (x.calls.map ai.pv)]=x.pv:=rfl
def fG(x:bC):Bool:=decide (x.t0≥0)&&decide (x.t0<x.t1)&&decide (x.t1≤172800)&&decide (x.every≥1)&&decide (x.every≤86400)
theorem jl(x:bC):fG x=true↔0≤x.t0∧x.t0<x.t1∧x.t1≤172800∧1≤x.every∧x.every≤86400:=by simp[fG,apP]
theorem FL(x:bC):ig [x.pv]=some (.bool (fG x)):=by simp only[ig,rW,P8,Bo,Dr,Dt,Du,asInt,IS,U,bL];rfl
theorem R8(x:bC):qY [x.pv]=some (.bool (fG x)):=by
 simp only[qY,zR,P8,Bo,Dr,Dt,Du,asInt,IS,U,bL];have:∀a b:Bool,a=b→some (PV.bool a)=some (PV.bool b):=fun a b h=>by rw[h]
 apply this;rw[anS,jl];grind
def ir(x:bC):Int:=(x.t1-x.t0-1)/x.every+1
theorem xY(x:bC)(h:fG x=true):1≤ir x∧ir x≤172800:=by obtain⟨h1,h2,h3,h4,h5⟩:=(jl x).1 h;unfold ir;have a:=aqy (show 0≤x.t1-x.t0-1 by omega) (show 0≤x.every by omega);have b:=Int.ediv_le_self (b:=x.every) (show 0≤x.t1-x.t0-1 by omega);omega
theorem I2(x:bC)(h:fG x=true):fy [x.pv]=some (.int .i64 (ir x)):=by
 have hc:=xY x h;obtain⟨h1,h2,h3,h4,h5⟩:=(jl x).1 h;have w1:IntKind.i64.wrap (x.t1-x.t0)=x.t1-x.t0:=bp (by omega) (by omega);have w2:IntKind.i64.wrap (x.t1-x.t0+x.every)=x.t1-x.t0+x.every:=bp (by omega) (by omega);have w3:IntKind.i64.wrap (x.t1-x.t0+x.every-1)=x.t1-x.t0+x.every-1:=bp (by omega) (by omega);have e:(x.t1-x.t0+x.every-1).tdiv x.every=ir x:=by
  rw[Int.tdiv_eq_ediv_of_nonneg (by omega)];unfold ir;have:x.t1-x.t0+x.every-1=(x.t1-x.t0-1)+1*x.every:=by omega
  rw[this,Int.add_mul_ediv_right _ _ (by omega)]
 simp only[fy,rX,P8,Bo,Dr,Dt,Du,asInt,IS,U,w1,w2,w3,e,IT (show¬x.every=0 by omega)];rw[bp (by omega) (by omega)]
def Bu(x:bC):Int:=x.t0+(ir x-1)*x.every
theorem MU(x:bC)(h:fG x=true):0≤(ir x-1)*x.every∧(ir x-1)*x.every≤x.t1-x.t0-1∧x.t1-x.t0≤ir x*x.every:=by
 obtain⟨h1,h2,h3,h4,h5⟩:=(jl x).1 h;have e:ir x-1=(x.t1-x.t0-1)/x.every:=by unfold ir;omega
 have e2:ir x*x.every=(ir x-1)*x.every+x.every:=by rw[Int.sub_mul];omega
 rw[e2,e];have a:=Int.mul_ediv_add_emod (x.t1-x.t0-1) x.every;have b:=Int.emod_lt_of_pos (x.t1-x.t0-1) (show 0<x.every by omega);have c:=Int.emod_nonneg (x.t1-x.t0-1) (show x.every≠0 by omega);have d:=aqb (aqy (show 0≤x.t1-x.t0-1 by omega) (show 0≤x.every by omega)) (show 0≤x.every by omega);grind
theorem WD(x:bC)(h:fG x=true):lQ [x.pv]=some (.int .i64 (Bu x)):=by have hc:=xY x h;have Oh:=MU x h;obtain⟨h1,h2,h3,h4,h5⟩:=(jl x).1 h;have w1:IntKind.i64.wrap (ir x-1)=ir x-1:=bp (by omega) (by omega);have w2:IntKind.i64.wrap ((ir x-1)*x.every)=(ir x-1)*x.every:=bp (by omega) (by omega);have w3:IntKind.i64.wrap (x.t0+(ir x-1)*x.every)=Bu x:=bp (by omega) (by omega);simp only[lQ,ui,P8,Bo,Dr,Dt,Du,asInt,IS,U,K2,I2 x h,w1,w2,w3]
def IM(x:bY)(f:bC):Bool:=decide (se x.calls f.t0≠10)&&decide (se x.calls (Bu f)≠10)
theorem yg(c:ai)(l:List ai)(s:Int):se (c::l) s=0∨se (c::l) s=10:=by show(if(List.range (c::l).length).all (pN (c::l) c.dep s)=true then(0:Int)else 10)=0∨(if(List.range (c::l).length).all (pN (c::l) c.dep s)=true then(0:Int)else 10)=10;omega
theorem aee(x:bC)(h:fG x=true):0≤Bu x∧Bu x≤172800:=by have Oh:=MU x h;grind [jl,Bu]
theorem WE(x:bY)(hx:x.Ok)(MV:x.calls.length≤40)(f:bC)(hf:fG f=true):lR [x.pv,f.pv]=some (.bool (IM x f)):=by
 obtain⟨h1,h2,h3,h4,h5⟩:=(jl f).1 hf;have hl:=aee f hf;obtain⟨es1,e1⟩:=K7 x hx f.t0 ((eY _).2 (by omega)) MV;obtain⟨es2,e2⟩:=K7 x hx (Bu f) ((eY _).2 (by omega)) MV;simp only[lR,uj,Uj,Bp,Bq,Br,Dw,yA,P8,Bo,Dr,Dt,Du,bt,ak,asInt,asBool,IS,U,By,K2,acr,WD f hf,e1,e2,cz,alx,anx,Nat.reduceAdd,aki,amr,bL];unfold IM;cases Jk:x.calls with
 |nil=>rfl
 |cons c l=>
  have cy:(((c::l).length:Int)==0)=false:=by rfl
  rw[cy];simp only[tc,PS];rcases yg c l f.t0 with h|h<;>rcases yg c l (Bu f)with h'|h'<;>rw[h,h']<;>rfl
def fitsAt(aj:List bY)(f:bC):Bool:=match aj[f.aZ.toNat]? with|some x=>IM x f|none=>true
def F3(l:List bC)(f:bC)(k:Nat):Int:=((l.take k).map fun g=>if g.aZ=f.aZ then ir g else 0).sum
def Us(f g:bC):Bool:=decide (g.aZ=f.aZ)&&(decide (g.t0<f.t1)&&decide (f.t0<g.t1))
def anyM(l:List bC)(f:bC)(k:Nat):Bool:=(l.take k).any (Us f)
def AH(l:List bC)(aj:List bY)(k:Nat):Int:=match l[k]? with
 |none=>0
 |some f=>if(decide (f.aZ<0)||decide (f.aZ≥(aj.length:Int)))=true then 9 else if(!fG f|| !fitsAt aj f)=true then 10 else if ir f+F3 l f k>256 then 17 else if anyM l f k=true then 8 else 0
def yf(l:List bC)(aj:List bY):Int×Int:=if l.length>64 then(0,5)else bM (AH l aj) l.length
theorem K8(l:List bC)(f:bC)(k:Nat)(h:k<l.length):F3 l f (k+1)=F3 l f k+if l[k].aZ=f.aZ then ir l[k]else 0:=by unfold F3;have h2:l.take (k+1)=l.take k++[l[k]]:=(ao6 h).symm;grind
theorem WG(l:List bC)(f:bC)(k:Nat)(h:k<l.length):anyM l f (k+1)=(anyM l f k||Us f l[k]):=by unfold anyM;have h2:l.take (k+1)=l.take k++[l[k]]:=(ao6 h).symm;grind
theorem Sl(l:List bC)(f:bC):∀k,k≤l.length→(∀j(h:j<l.length),j<k→fG l[j]=true)→0≤F3 l f k∧F3 l f k≤172800*(k:Int):=by
 intro k;induction k with
 |zero=>intro _ _;simp[F3]
 |succ k ih=>intro hk hq;have:=ih (by omega) fun j h hj=>hq j h (by omega);rw[K8 l f k (by omega)];have hc:=xY l[k] (hq k (by omega) (by omega));omega
theorem JD(l:List bC)(aj:List bY)(k:Nat)(h:k<l.length)(he:AH l aj k=0):fG l[k]=true:=by unfold AH at he;grind
theorem WH(l:List bC)(aj:List bY)(ht:aj.length≤maxLen∧∀y∈aj,y.Ok)(MV:∀y∈aj,y.calls.length≤40)(hl:l.length≤maxLen):kG [.rs 4 (l.map bC.pv),.rs 5 (aj.map bY.pv)]=some (res (yf l aj).1 (yf l aj).2):=by
 have hm:=aL;simp only[kG,rY,ak,IS,U,By];unfold yf;by_cases pU:l.length>64
 ·rw[BY (by simp;omega),BY pU];rfl
 ·rw[IT (by simp;omega),IT pU,←gT];refine qW (fun k=>(l.map bC.pv,aj.map bY.pv,l.map bC.pv,(l.length:Int),(k:Int),())) l.length _ (fun k hk hq rec=>?_) (fun _ rec=>?_) ?_ rfl
  ·have h1:(k:Int)<(l.length:Int):=by omega
   have akW:∀j(h:j<l.length),j<k→fG l[j]=true:=fun j h hj=>by have hqj:=hq j hj;refine JD l aj j h ?_;simp_all[Ik,AH,IT]
   simp only[nH,te,h1,IS,af,AT,ta hk,No,U,Bo,Dr,Dt,Du,asInt,asBool,K2,By,aT,FL];unfold AH;rw[ta hk];simp only;generalize hf:l[k]=f;by_cases hr:f.aZ<0∨f.aZ≥(aj.length:Int)
   ·have:(decide (f.aZ<0)||decide (f.aZ≥(aj.length:Int)))=true:=by simpa using hr
    rw[this];rfl
   ·have UY:(decide (f.aZ<0)||decide (f.aZ≥(aj.length:Int)))=false:=by simpa using hr
    simp only[UY,tc,PS];obtain⟨t,htt⟩:=apH (show 0≤f.aZ by omega);have htl:t<aj.length:=by omega
    cases hs:fG f with
    |false=>rfl
    |true=>
     have hfa:fitsAt aj f=IM aj[t] f:=by simp_all[fitsAt,agY,ta]
     have hfp:=WE aj[t] (ht.2 _ (agZ htl)) (MV _ (agZ htl)) f hs;have abG:yB (aj.map bY.pv) f.aZ=some aj[t].pv:=by rw[htt,af,AT,ta htl];rfl
     simp only[abG,ag0,cond_false,U,Bp,Bq,Br,Dw,yA,acr,hfp,asBool,hfa,apr];cases hfb:IM aj[t] f with
     |false=>rfl
     |true=>
      have hc:(0:Int)≤0∧(0:Int)≤(k:Int)∧(k:Int)≤(l.length:Int)∧True∧4≠0:=⟨by omega,by omega,by omega,trivial,by omega⟩;have hcf:=xY f hs;have bK:(List.map bC.pv l).take k=(l.take k).map bC.pv:=by simp
      simp only[ag0,tc,PS,I2 f hs,U,asInt,IS,agY,aqL,ap9,bK,By,an9,aoM (apR hk)];rw[BY hc];refine bh (fun j=>(l.map bC.pv,aj.map bY.pv,(k:Int),ir f+F3 l f j,anyM l f j,l.map bC.pv,(l.length:Int),(k:Int),(l.take k).map bC.pv,(k:Int),(j:Int),PV.int .i64 f.aZ,PV.int .i64 f.t0,PV.int .i64 f.t1,PV.int .i64 f.every,())) k (fun j hj rc=>?_) (fun rc=>?_) ?_ ?_
      ·have hj1:(j:Int)<(k:Int):=by omega
       have yD:j<l.length:=by omega
       have hgl:(l.take k)[j]?=some l[j]:=by simp_all
       have hsj:=akW j yD hj;have hcj:=xY l[j] hsj;have hb:=Sl l f j (by omega) fun i h hi=>akW i h (by omega);simp only[nG,te,hj1,IS,af,AT,hgl,No,U,Bo,Dr,Dt,Du,asInt,K2,dY,ah (show j<9223372036854775807 by omega),bL,aT];rw[K8 l f j yD,WG l f j yD];by_cases he:l[j].aZ=f.aZ
       ·rw[BY he,BY he,I2 l[j] hsj];have hw:IntKind.i64.wrap (ir f+F3 l f j+ir l[j])=ir f+(F3 l f j+ir l[j]):=by grind [bp]
        simp_all[U,Us,anR,aoB,asInt,IS]
       simp_all[IT,Us,anJ,apw,aoL,Int.add_zero]
      ·simp only[nG,te,anN,PS,ah (show k<9223372036854775807 by omega)];by_cases aef:ir f+F3 l f k>256
       ·rw[BY aef,BY aef];rfl
       ·rw[IT aef,IT aef];cases anyM l f k<;>rfl
      ·grind [rounds,decide]
      ·simp[F3,anyM]
  ·simp only[nH,te,anN,PS];rfl
  ·have:=aN;omega
theorem akX(x:kN):cell x.pv 0=.int .i64 x.a:=rfl
theorem akY(x:kN):cell x.pv 1=.int .i64 x.b:=rfl
theorem aeg(n:Int):cell (.int .i64 n) 0=.int .i64 n:=rfl
def iv(n:Int):PV:=.int .i64 n
def gx(l:List kN)(t:Int):Option Int:=(l.find? fun x=>decide (x.a=t)).map kN.b
def Aa(o:Option Int):PV:=match o with|some b=>.aV [.int .i64 b,.bool true]|none=>.aV [.int .i64 0,.bool false]
theorem KY{A B:Type}(p:A→Bool)(g:A→B)(l:List A):(List.range l.length).findSome? (fun k=>(l[k]?).bind fun x=>if p x=true then some (g x)else none)=(l.find? p).map g:=by
 rw[GJ];induction l with
 |nil=>rfl
 |cons x l ih=>grind
theorem EK(l:List kN)(hl:l.length≤maxLen)(t:Int):jn [.rs 2 (l.map kN.pv),.int .i64 t]=some (Aa (gx l t)):=by
 have hm:=aL;simp only[jn,xT,ak,asInt,IS,U,By];refine(aO (fun k=>(t,l.map kN.pv,(l.length:Int),(k:Int),())) l.length (fun k=>(l[k]?).bind fun x=>if decide (x.a=t)=true then some (some (Aa (some x.b)))else none) (fin:=some (Aa none)) (fun k hk rec=>?_) (fun rec=>?_) ?_ rfl).trans ?_
 ·have h1:(k:Int)<(l.length:Int):=by omega
  simp only[sf,te,h1,IS,af,AT,ta hk,No,U,anC,akX,akY,asInt,ah (show k<9223372036854775807 by omega),dY];by_cases he:l[k].a=t
  ·simp only[he,IS];rfl
  ·simp only[he,PS];rfl
 ·simp only[sf,te,anN,PS];rfl
 ·have:=aN;omega
 ·rw[KY (fun x:kN=>decide (x.a=t)) (fun x=>some (Aa (some x.b))) l];unfold gx;cases l.find? fun x=>decide (x.a=t)<;>rfl
theorem Sn(l:List Int)(hl:l.length≤maxLen)(t:Int):bd.run lT (t,l.map iv,(l.length:Int),0,())=some (.bool (decide (t∈l))):=by
 have hm:=aL;refine(jV (fun k=>(t,l.map iv,(l.length:Int),(k:Int),())) l.length (fun k=>decide (l[k]?=some t)) (no:=some (.bool true)) (fin:=some (.bool false)) (fun k hk rec=>?_) (fun rec=>?_) ?_ rfl).trans ?_
 ·have h1:(k:Int)<(l.length:Int):=by omega
  simp only[lT,te,h1,IS,af,AT,ta hk,No,U,iv,aeg,asInt,ah (show k<9223372036854775807 by omega),dY,tb]
 ·simp[lT,te,anN,PS]
 ·have:=aN;omega
 ·rw[Az l l.length (anz _) t,aoe];grind
def grow(l:List kN):Nat→List Int→Int→List Int
 |0,pre,last=>pre++[last]
 |n+1,pre,last=>match gx l last with
  |none=>pre++[last]
  |some m=>if m∈pre++[last]then pre++[last]else grow l n (pre++[last]) m
theorem acs(l:List kN):∀n pre last,(grow l n pre last).length≤pre.length+1+n:=by
 intro n;induction n with
 |zero=>intro pre last;simp[grow]
 |succ n ih=>grind [grow,Nat.le_trans]
theorem aeh:∀(a b:List Int),a.Nodup→(∀x∈a,x∈b)→a.length≤b.length:=by
 intro a;induction a with
 |nil=>simp
 |cons x a ih=>
  intro b hn hs;rw[aoU]at hn;have hx:x∈b:=hs x (by simp);have:=ih (b.erase x) hn.2 fun y hy=>by grind
  grind
theorem P9(l:List kN)(t m:Int)(h:gx l t=some m):t∈l.map kN.a:=by
 unfold gx at h;cases hf:l.find? (fun x=>decide (x.a=t))with
 |none=>rw[hf]at h;cases h
 |some x=>grind
theorem Qa(pre:List Int)(last:Int)(hl:pre.length<maxLen):(pre++[last]).map iv=pre.map iv++[iv last]∧aC (IntKind.i64.wrap ((((pre++[last]).map iv).length:Int)-1)) ((pre++[last]).map iv).length∧((pre++[last]).map iv)[(IntKind.i64.wrap ((((pre++[last]).map iv).length:Int)-1)).toNat]?=some (iv last):=by
 have hm:=aL;have h1:(((pre++[last]).map iv).length:Int)=((pre.length+1:Nat):Int):=by simp
 have h2:IntKind.i64.wrap (((pre.length+1:Nat):Int)-1)=(pre.length:Int):=AA _ (by omega);simp_all[iv,k8,agY]
theorem uu(a b:Int):bR (iv a).cells (iv b).cells=decide (a=b):=AB a b
theorem Sq(l:List kN)(hl:l.length≤1000)(t:Int):mO [.rs 2 (l.map kN.pv),.int .i64 t]=some (.rs 1 ((grow l l.length [] t).map iv)):=by
 have Oh:(2000:Nat)≤maxLen:=by decide
 have h0:dr (PV.int .i64 t) (.bool true) []=seen iv ([]++[t]):=fK uu t [];simp only[mO,vT,ak,asInt,IS,U,h0];have key:∀(n N:Nat)(pre:List Int)(last:Int),pre.length+n=l.length→n<N→(pre++[last]).Nodup→(∀x∈pre,x∈l.map kN.a)→bX (lS bd) N (l.map kN.pv,(pre++[last]).map iv,seen iv (pre++[last]),())=some (.rs 1 ((grow l n pre last).map iv)):=by
  intro n;induction n with
  |zero=>
   intro N pre last hp hN SL LA;cases N with
   |zero=>omega
   |succ N=>
    obtain⟨g1,g2,g3⟩:=Qa pre last (by omega);have Bg:gx l last=none:=by
     cases hx:gx l last with
     |none=>rfl
     |some m=>
      have h1:=P9 l last m hx;have:=aeh (pre++[last]) (l.map kN.a) SL fun y hy=>by
       rw[anO]at hy;rcases hy with hy|hy
       ·exact LA y hy
       simp_all
      simp at this;omega
    simp only[bX,lS,BY g2,g3,U,iv,aeg,asInt,IS,EK l (by omega),Bg,Aa,cz,alx,anx,Nat.reduceAdd,aki,amr,asBool,anM,cond_true];rfl
  |succ n ih=>
   intro N pre last hp hN SL LA;cases N with
   |zero=>omega
   |succ N=>
    obtain⟨g1,g2,g3⟩:=Qa pre last (by omega);have hb:∀X:PV,((pre++[last]).map iv++[X]).length*8≤aa∧0<8:=fun X=>by refine⟨?_,by omega⟩;simp only[anD,By,alx,anx];unfold aa;omega
    simp only[bX,lS,BY g2,g3,U,aeg,asInt,IS];simp only[iv,aeg,asInt,IS,U,EK l (by omega)];unfold grow;cases hx:gx l last with
    |none=>rfl
    |some m=>
     have kx:bT (PV.int .i64 m) (.bool false) (seen iv (pre++[last]))=.bool (decide (m∈pre++[last])):=eQ uu m _;have mW:dr (PV.int .i64 m) (.bool true) (seen iv (pre++[last]))=seen iv (pre++[last]++[m]):=fK uu m _;simp only[Aa,cz,alx,anx,Nat.reduceAdd,IS,aki,amr,asBool,asInt,U,ag0,cond_false];simp only[kx,asBool,U];by_cases bu:m∈pre++[last]
     ·simp_all
     ·simp only[bu,anJ,tc,PS];rw[BY (hb _),mW];have gw:(pre++[last]).map iv++[PV.int .i64 m]=(pre++[last]++[m]).map iv:=by simp[iv]
      rw[gw];refine ih N (pre++[last]) m (by simp;omega) (by omega) ?_ ?_
      ·rw[List.nodup_append];refine⟨SL,by simp,fun a ha b hb=>?_⟩;simp at hb;grind
      ·intro x Lr;rw[anO]at Lr;rcases Lr with h|h
       ·exact LA x h
       simp_all[P9]
 exact key l.length rounds [] t (by simp) (by grind [rounds,decide]) (by simp) (by simp)
theorem Qb(l:List kN)(hl:l.length≤1000)(a b:Int):mP [.rs 2 (l.map kN.pv),.int .i64 a,.int .i64 b]=some (.bool (decide (b∈grow l l.length [] a))):=by
 have Oh:(2000:Nat)≤maxLen:=by decide
 have hg:=acs l l.length [] a;simp only[anx]at hg;simp only[mP,vU,ak,asInt,IS,U,Sq l hl,By];exact Sn _ (by omega) b
def B5(fs:List bC)(t:Int):Bool:=decide (t∈fs.map bC.aZ)
theorem IK(fs:List bC)(hl:fs.length≤maxLen)(t:Int):df [.rs 4 (fs.map bC.pv),.int .i64 t]=some (.bool (B5 fs t)):=by
 have hm:=aL;simp only[df,nD,ak,asInt,IS,U,By];refine(jV (fun k=>(t,fs.map bC.pv,(fs.length:Int),(k:Int),())) fs.length (fun k=>decide ((fs.map bC.aZ)[k]?=some t)) (no:=some (.bool true)) (fin:=some (.bool false)) (fun k hk rec=>?_) (fun rec=>?_) ?_ rfl).trans ?_
 ·have h1:(k:Int)<(fs.length:Int):=by omega
  simp only[j9,te,h1,IS,af,AT,ta hk,No,U,Bo,asInt,ah (show k<9223372036854775807 by omega),dY,tb]
 ·simp[j9,te,anN,PS]
 ·have:=aN;omega
 ·have h:=Az (fs.map bC.aZ) fs.length (by simp) t;rw[h,anZ (by simp)];unfold B5;grind
def Jz(n m:Int):Bool:=decide (n≥0)&&decide (n<m)
theorem aei(n:Int)(ts:List PV):fW [.int .i64 n,.rp [.rs 5 ts]]=some (.bool (Jz n ts.length)):=by simp only[fW,tF,asInt,ak,IS,U,bL];rfl
def sk(a b:Int)(n:Nat):Bool:= !Jz a n|| !Jz b n||decide (a=b)
def mE(fs:List bC)(a b:Int):Bool:=B5 fs a||B5 fs b
theorem K9(a b:Int)(aj:List bY)(fs:List bC)(hl:fs.length≤maxLen):lh [.int .i64 a,.int .i64 b,.rs 5 (aj.map bY.pv),.rs 4 (fs.map bC.pv)]=some (.aV [.int .i64 (if sk a b aj.length=true then 9 else 0),.int .i64 (if(!sk a b aj.length&&mE fs a b)=true then 17 else 0)]):=by simp only[lh,xU,asInt,ak,asBool,IS,U,aei,IK fs hl,By,aT,dY];unfold sk mE;grind
def ur(a b:bY):Int:=if(!decide (a.AX=b.AX))=true then 15 else match a.calls[a.calls.length-1]?,b.calls[0]? with
 |some p,some q=>if(!decide (p.stop=q.stop))=true then 13 else if q.dep<p.arr then 10 else 0
 |_,_=>13
theorem acu(l:List ai)(h:0<l.length)(hl:l.length≤maxLen):IntKind.i64.wrap ((l.length:Int)-1)=((l.length-1:Nat):Int):=by grind [aL,bp]
theorem amP(l:List ai)(h:0<l.length):yB (l.map ai.pv) 0=some l[0].pv:=by rw[show(0:Int)=((0:Nat):Int)from rfl,af,AT,ta h];rfl
theorem M6(a b:bY)(ha:a.Ok)(hb:b.Ok):kH [a.pv,b.pv]=some (.int .i64 (ur a b)):=by
 have hm:=aL;have YZ:=ha.calls.1;simp only[kH,rZ,Uj,Bp,Bq,Br,Dw,yA,bt,ak,asInt,asBool,IS,U,By,aT,gd];unfold ur;cases decide (a.AX=b.AX)with
 |false=>rfl
 |true=>
  simp only[ag0,tc,PS];by_cases h1:a.calls.length=0
  ·simp_all
  ·by_cases h2:b.calls.length=0
   ·simp_all
   ·have n1:((a.calls.length:Int)==0)=false:=by simp_all
    have n2:((b.calls.length:Int)==0)=false:=by simp_all
    have hk:a.calls.length-1<a.calls.length:=by omega
    have h0:0<b.calls.length:=by omega
    rw[n1,n2,acu a.calls (by omega) YZ,amP b.calls h0];simp only[aoL,tc,PS,af,AT,ta hk,ta h0,No,U,zu,zw,uW,asInt,IS];grind
def H6(l:List kN)(aj:List bY)(fs:List bC)(k:Nat):Int:=match l[k]? with
 |none=>0
 |some x=>if sk x.a x.b aj.length=true then 9 else if mE fs x.a x.b=true then 17 else match aj[x.a.toNat]?,aj[x.b.toNat]? with
  |some p,some q=>if ur p q=0 then(if(decide (x.a∈(l.map kN.a).take k)||decide (x.b∈(l.map kN.b).take k))=true then 6 else if x.a∈grow (l.take k) k [] x.b then 19 else 0)else ur p q
  |_,_=>0
def tK(l:List kN)(aj:List bY)(fs:List bC):Int×Int:=if l.length>128 then(0,5)else bM (H6 l aj fs) l.length
theorem C9(a b:Int)(aj:List bY)(h:sk a b aj.length=false):∃(i j:Nat),a=i∧b=j∧i<aj.length∧j<aj.length:=by unfold sk Jz at h;simp only[anL,aop,OF,te]at h;exact⟨a.toNat,b.toNat,by omega,by omega,by omega,by omega⟩
theorem acv(l:List kN)(aj:List bY)(fs:List bC)(ht:aj.length≤maxLen∧∀y∈aj,y.Ok)(hf:fs.length≤maxLen):mQ [.rs 2 (l.map kN.pv),.rs 5 (aj.map bY.pv),.rs 4 (fs.map bC.pv)]=some (res (tK l aj fs).1 (tK l aj fs).2):=by
 have hm:=aL;simp only[mQ,vV,ak,IS,U,By];unfold tK;by_cases pU:l.length>128
 ·rw[BY (by simp;omega),BY pU];rfl
 ·rw[IT (by simp;omega),IT pU,←gT];refine aO (fun k=>(l.map kN.pv,aj.map bY.pv,fs.map bC.pv,l.map kN.pv,(l.length:Int),(k:Int),seen iv ((l.map kN.a).take k),seen iv ((l.map kN.b).take k),())) l.length _ (fun k hk rec=>?_) (fun rec=>?_) ?_ rfl
  ·have h1:(k:Int)<(l.length:Int):=by omega
   simp only[qy,te,h1,IS,af,AT,ta hk,No,U,akX,akY,asInt,K9 _ _ aj fs hf,cz,alx,anx,Nat.reduceAdd,aki,amr,gd,ah (show k<9223372036854775807 by omega),jU kN.a l k hk,jU kN.b l k hk,By];unfold H6;rw[ta hk];simp only;generalize l[k]=x;cases hp:sk x.a x.b aj.length with
   |true=>rfl
   |false=>
    cases hr:mE fs x.a x.b with
    |true=>rfl
    |false=>
     obtain⟨i,j,hi,hj,I7,yD⟩:=C9 x.a x.b aj hp;have xi:yB (aj.map bY.pv) x.a=some aj[i].pv:=by rw[hi,af,AT,ta I7];rfl
     have xj:yB (aj.map bY.pv) x.b=some aj[j].pv:=by rw[hj,af,AT,ta yD];rfl
     have ti:aj[x.a.toNat]?=some aj[i]:=by simp_all
     have tj:aj[x.b.toNat]?=some aj[j]:=by simp_all
     have hfo:=M6 aj[i] aj[j] (ht.2 _ (agZ I7)) (ht.2 _ (agZ yD));have la:bT (PV.int .i64 x.a) (.bool false) (seen iv ((l.map kN.a).take k))=.bool (decide (x.a∈(l.map kN.a).take k)):=eQ uu x.a _;have lb:bT (PV.int .i64 x.b) (.bool false) (seen iv ((l.map kN.b).take k))=.bool (decide (x.b∈(l.map kN.b).take k)):=eQ uu x.b _;have pa:dr (PV.int .i64 x.a) (.bool true) (seen iv ((l.map kN.a).take k))=seen iv ((l.map kN.a).take k++[x.a]):=fK uu x.a _;have pb:dr (PV.int .i64 x.b) (.bool true) (seen iv ((l.map kN.b).take k))=seen iv ((l.map kN.b).take k++[x.b]):=fK uu x.b _;have hc:(0:Int)≤0∧(0:Int)≤(k:Int)∧(k:Int)≤(l.length:Int)∧True∧2≠0:=⟨by omega,by omega,by omega,trivial,by omega⟩;have htk:(l.map kN.pv).take k=(l.take k).map kN.pv:=by simp
     have hle:=Qb (l.take k) (by simp;omega) x.b x.a;have QQ:(l.take k).length=k:=by simp;omega
     rw[QQ]at hle;simp only[anM,aoB,tc,PS,anR,ag0,xi,xj,ti,tj,U,Bp,Bq,Br,Dw,yA,acr,hfo,asInt,IS,la,lb,asBool,aT,pa,pb,htk,agY,aqL,ap9,hle,BY hc];by_cases hfe:ur aj[i] aj[j]=0
     ·simp only[hfe,anR,ag0,tc,PS,IS];cases(decide (x.a∈(l.map kN.a).take k)||decide (x.b∈(l.map kN.b).take k))with
      |true=>rfl
      |false=>
       by_cases bu:x.a∈grow (l.take k) k [] x.b
       ·simp only[bu,anR,IS];rfl
       ·simp only[bu,anJ,tc,PS];rfl
     ·simp only[hfe,anJ,anM,IS,PS,Ik,bP];rfl
  ·simp only[qy,te,anN,PS];rfl
  grind [rounds,decide]
def F0(l:List ai)(s:Int)(k:Nat):Bool:=decide (0<k)&&(match l[k]? with|some x=>decide (x.stop=s)&&x.zU|none=>false)
def F1(l:List ai)(s:Int)(k:Nat):Bool:=decide (k+1<l.length)&&(match l[k]? with|some x=>decide (x.stop=s)&&x.FE|none=>false)
def La(o:Option Nat):Int:=match o with|some k=>k|none=> -1
theorem Qc(i:Nat):decide (La (some i)<0)=false:=by rfl
theorem acw(l:List ai)(hl:l.length≤maxLen)(s:Int):iN [.rs 5 (l.map ai.pv),.int .i64 s]=some (.int .i64 (La ((List.range l.length).find? (F0 l s)))):=by
 have hm:=aL;simp only[iN,pG,ak,asInt,IS,U,By];refine(aO (fun k=>(s,l.map ai.pv,(l.length:Int),(k:Int),())) l.length (fun k=>if F0 l s k=true then some (some (.int .i64 (k:Int)))else none) (fin:=some (.int .i64 (-1))) (fun k hk rec=>?_) (fun rec=>?_) ?_ rfl).trans ?_
 ·have h1:(k:Int)<(l.length:Int):=by omega
  have h2:decide ((k:Int)>0)=decide (0<k):=by simp
  simp only[lf,te,h1,IS,af,AT,ta hk,No,U,zu,Ul,asInt,asBool,ah (show k<9223372036854775807 by omega),dY,bL,F0,h2];cases decide (0<k)<;>cases decide (l[k].stop=s)<;>cases l[k].zU<;>rfl
 ·simp[lf,te,anN,PS]
 ·have:=aN;omega
 ·rw[nT];cases(List.range l.length).find? (F0 l s)<;>rfl
theorem acx(l:List ai)(hl:l.length<maxLen)(s:Int):jQ [.rs 5 (l.map ai.pv),.int .i64 s]=some (.int .i64 (La ((List.range l.length).find? (F1 l s)))):=by
 have hm:=aL;simp only[jQ,qv,ak,asInt,IS,U,By];refine(aO (fun k=>(l.map ai.pv,s,l.map ai.pv,(l.length:Int),(k:Int),())) l.length (fun k=>if F1 l s k=true then some (some (.int .i64 (k:Int)))else none) (fin:=some (.int .i64 (-1))) (fun k hk rec=>?_) (fun rec=>?_) ?_ rfl).trans ?_
 ·have h1:(k:Int)<(l.length:Int):=by omega
  have h2:decide (((k+1:Nat):Int)<(l.length:Int))=decide (k+1<l.length):=by grind
  simp only[mb,te,h1,IS,af,AT,ta hk,No,U,zu,Uk,asInt,asBool,ah (show k<9223372036854775807 by omega),dY,bL,F1,By,h2];cases decide (k+1<l.length)<;>cases decide (l[k].stop=s)<;>cases l[k].FE<;>rfl
 ·simp[mb,te,anN,PS]
 ·have:=aN;omega
 ·rw[nT];cases(List.range l.length).find? (F1 l s)<;>rfl
def mtB(a b:List ai)(i k:Nat):Bool:=match a[i]?,b[k]? with|some p,some q=> !decide (q.dep<p.arr)|_,_=>false
def adR(i k:Nat)(m:Bool):PV:=if m=true then .aV [.int .i64 i,.int .i64 k,.bool true]else .aV [.int .i64 0,.int .i64 0,.bool false]
def akZ:PV:=.aV [.int .i64 0,.int .i64 0,.bool false]
def AJ(a b:List ai)(s:Int):PV:=match(List.range a.length).find? (F0 a s)with
 |none=>akZ
 |some i=>match(List.range b.length).find? (F1 b s)with
  |none=>akZ
  |some k=>adR i k (mtB a b i k)
def qx(a b:List ai)(s:Int):Bool:=match(List.range a.length).find? (F0 a s)with
 |none=>false
 |some i=>match(List.range b.length).find? (F1 b s)with
  |none=>false
  |some k=>mtB a b i k
theorem WI(a b:List ai)(s:Int):∃n m,AJ a b s=.aV [.int .i64 n,.int .i64 m,.bool (qx a b s)]:=by
 unfold AJ qx;cases(List.range a.length).find? (F0 a s)with
 |none=>exact⟨0,0,rfl⟩
 |some i=>
  cases(List.range b.length).find? (F1 b s)with
  |none=>exact⟨0,0,rfl⟩
  |some k=>
   simp only[adR];cases mtB a b i k
   ·simp
   simp
theorem Ut(p:Nat→Bool)(n i:Nat)(h:(List.range n).find? p=some i):i<n:=by simp_all
theorem IW(a b:List ai)(ha:a.length≤maxLen)(hb:b.length<maxLen)(s:Int):gG [.rs 5 (a.map ai.pv),.rs 5 (b.map ai.pv),.int .i64 s]=some (AJ a b s):=by
 simp only[gG,vS,ak,asInt,IS,U,acw a ha s,acx b hb s,aT];unfold AJ;cases hi:(List.range a.length).find? (F0 a s)with
 |none=>rfl
 |some i=>
  have I7:=Ut _ _ _ hi;cases hk:(List.range b.length).find? (F1 b s)with
  |none=>rfl
  |some k=>have kh:=Ut _ _ _ hk;have h1:decide (La (some i)<0)=false:=Qc i;have h2:decide (La (some k)<0)=false:=Qc k;rw[h1,h2];simp only[La,aoL,cond_false,af,AT,ta I7,ta kh,No,U,zw,uW,asInt,IS,te,adR,mtB];grind
theorem aeX(x:jT):cell x.pv 0=.int .i64 x.a:=rfl
theorem aeY(x:jT):cell x.pv 1=.int .i64 x.b:=rfl
theorem aeZ(x:jT):cell x.pv 2=.int .i64 x.stop:=rfl
theorem ak0(x:jT):PV.agg [.int .i64 x.a,.int .i64 x.b,.int .i64 x.stop]=x.pv:=rfl
theorem acy(a b c:Int):ju (Kd.int .i64::[].append (Kd.int .i64::[].append (Kd.int .i64::[].append []))) [.int .i64 a,.int .i64 b,.int .i64 c]=true:=rfl
theorem Qd(x y:jT):bR x.pv.cells y.pv.cells=decide (x=y):=by show bR [.int .i64 x.a,.int .i64 x.b,.int .i64 x.stop] [.int .i64 y.a,.int .i64 y.b,.int .i64 y.stop]=_;simp only[bR,peq,apd,dY];rw[anS];simp only[OF,te];cases x;cases y;simp
def DC(l:List jT)(aj:List bY)(fs:List bC)(stops:Int)(k:Nat):Int:=match l[k]? with
 |none=>0
 |some x=>if(sk x.a x.b aj.length|| !Jz x.stop stops)=true then 9 else if mE fs x.a x.b=true then 17 else match aj[x.a.toNat]?,aj[x.b.toNat]? with
  |some p,some q=>if qx p.calls q.calls x.stop=false then 19 else if x∈l.take k then 6 else 0
  |_,_=>0
def pO(l:List jT)(aj:List bY)(fs:List bC)(stops:Int):Int×Int:=if l.length>128 then(0,5)else bM (DC l aj fs stops) l.length
theorem WJ(l:List jT)(aj:List bY)(fs:List bC)(stops:Int)(ht:aj.length≤maxLen∧∀y∈aj,y.Ok)(MV:∀y∈aj,y.calls.length≤40)(hf:fs.length≤maxLen):eK [.rs 3 (l.map jT.pv),.rs 5 (aj.map bY.pv),.rs 4 (fs.map bC.pv),.int .i64 stops]=some (res (pO l aj fs stops).1 (pO l aj fs stops).2):=by
 have hm:=aL;have cQ:1000≤maxLen:=by decide
 simp only[eK,jj,ak,asInt,IS,U,By];unfold pO;by_cases pU:l.length>128
 ·rw[BY (by simp;omega),BY pU];rfl
 ·rw[IT (by simp;omega),IT pU,←gT];refine aO (fun k=>(aj.map bY.pv,fs.map bC.pv,stops,l.map jT.pv,(l.length:Int),(k:Int),seen jT.pv (l.take k),())) l.length _ (fun k hk rec=>?_) (fun rec=>?_) ?_ rfl
  ·have h1:(k:Int)<(l.length:Int):=by omega
   have gw:l.take (k+1)=l.take k++[l[k]]:=(ao6 hk).symm;simp only[gk,te,h1,IS,af,AT,ta hk,No,U,aeX,aeY,aeZ,asInt,K9 _ _ aj fs hf,cz,alx,anx,Nat.reduceAdd,aki,amr,gd,aT,ah (show k<9223372036854775807 by omega),gw,By];unfold DC;rw[ta hk];simp only;generalize l[k]=x;have ob:(!Jz x.stop stops)=(decide (x.stop<0)||decide (x.stop≥stops)):=by unfold Jz;grind
   rw[ob];cases hp:sk x.a x.b aj.length with
   |true=>rfl
   |false=>
    simp only[anM,aoB,apr,tc,PS,anR,ag0];cases(decide (x.stop<0)||decide (x.stop≥stops))with
    |true=>rfl
    |false=>
     cases hr:mE fs x.a x.b with
     |true=>rfl
     |false=>
      obtain⟨i,j,hi,hj,I7,yD⟩:=C9 x.a x.b aj hp;have xi:yB (aj.map bY.pv) x.a=some aj[i].pv:=by rw[hi,af,AT,ta I7];rfl
      have xj:yB (aj.map bY.pv) x.b=some aj[j].pv:=by rw[hj,af,AT,ta yD];rfl
      have ti:aj[x.a.toNat]?=some aj[i]:=by simp_all
      have tj:aj[x.b.toNat]?=some aj[j]:=by simp_all
      have hci:=MV _ (agZ I7);have hcj:=MV _ (agZ yD);have hmt:=IW aj[i].calls aj[j].calls (by omega) (by omega) x.stop;obtain⟨n1,n2,hmp⟩:=WI aj[i].calls aj[j].calls x.stop;have kx:bT x.pv (.bool false) (seen jT.pv (l.take k))=.bool (decide (x∈l.take k)):=eQ Qd x _;have mW:dr x.pv (.bool true) (seen jT.pv (l.take k))=seen jT.pv (l.take k++[x]):=fK Qd x _;simp only[tc,PS,anR,ag0,xi,xj,ti,tj,U,yA,ak,asInt,asBool,IS,hmt,hmp,cz,alx,anx,Nat.reduceAdd,aki,amr,acy,ak0,kx,mW];cases qx aj[i].calls aj[j].calls x.stop with
      |false=>rfl
      |true=>
       by_cases bu:x∈l.take k
       ·simp only[bu,anR,IS,ag0,tc,anE,PS];rfl
       ·simp only[bu,anJ,ag0,tc,anE,PS];rfl
  ·simp only[gk,te,anN,PS];rfl
  grind [rounds,decide]
def DB(T:ao):Nat→Int×Int
 |0=>fP T.stops
 |1=>ec T.ae
 |2=>I0 T.gR
 |3=>I1 T.ru T.gR.length
 |4=>sA T.aj T.stops.length T.ae.length T.gR.length
 |5=>yf T.bm T.aj
 |6=>tK T.dn T.aj T.bm
 |7=>pO T.cH T.aj T.bm T.stops.length
 |8=>qH T.paths T.stops.length
 |_=>cX T.av T.aQ T.within T.cap
def vC(p i e:Int):PV:=.aV [.int .i64 p,.int .i64 i,.int .i64 e]
def AG(T:ao)(p:Nat):Option (Option PV):=if(DB T p).2=0 then none else some (some (vC p (DB T p).1 (DB T p).2))
theorem Y0(T:ao):asAgg 13 T.pv=some ():=rfl
theorem Y1(T:ao):cell T.pv 0=.rs 4 (T.stops.map Stop.pv):=rfl
theorem Y2(T:ao):cell T.pv 1=.rs 3 (T.ae.map az.pv):=rfl
theorem Y3(T:ao):cell T.pv 2=.rs 10 (T.gR.map wb.pv):=rfl
theorem Y4(T:ao):cell T.pv 3=.rs 3 (T.ru.map yE.pv):=rfl
theorem Y5(T:ao):cell T.pv 4=.rs 5 (T.aj.map bY.pv):=rfl
theorem Y6(T:ao):cell T.pv 5=.rs 4 (T.bm.map bC.pv):=rfl
theorem Y7(T:ao):cell T.pv 6=.rs 2 (T.dn.map kN.pv):=rfl
theorem Y8(T:ao):cell T.pv 7=.rs 3 (T.cH.map jT.pv):=rfl
theorem Y9(T:ao):cell T.pv 8=.rs 4 (T.paths.map Path.pv):=rfl
theorem Za(T:ao):cell T.pv 9=.rs 6 (T.av.map aS.pv):=rfl
theorem HY(T:ao):cell T.pv 10=.int .i64 T.aQ:=rfl
theorem HZ(T:ao):cell T.pv 11=.int .i64 T.within:=rfl
theorem H3(T:ao):cell T.pv 12=.int .i64 T.cap:=rfl
theorem ttF(l:List aS)(a b c:Int):PV.agg [.rs 6 (l.map aS.pv),.int .i64 a,.int .i64 b,.int .i64 c]=xL l a b c:=rfl
theorem ttE(T:ao):PV.agg [.rs 4 (T.stops.map Stop.pv),.rs 3 (T.ae.map az.pv),.rs 10 (T.gR.map wb.pv),.rs 3 (T.ru.map yE.pv),.rs 5 (T.aj.map bY.pv),.rs 4 (T.bm.map bC.pv),.rs 2 (T.dn.map kN.pv),.rs 3 (T.cH.map jT.pv),.rs 4 (T.paths.map Path.pv),.rs 6 (T.av.map aS.pv),.int .i64 T.aQ,.int .i64 T.within,.int .i64 T.cap]=T.pv:=rfl
def Small(T:ao):Prop:=∀y∈T.aj,y.calls.length≤40
theorem HX(T:ao)(hT:T.Ok)(hs:Small T):ef [T.pv]=bP ((List.range 10).findSome? (AG T)) (some (vC 0 0 0)):=by
 have h0:=KB T.stops hT.stops;have h1:=Ih T.ae hT.ae;have h2:=acn T.gR hT.gR;have h3:=acp T.ru T.gR.length hT.ru;have h4:=WB T.aj T.stops.length T.ae.length T.gR.length hT.aj;have h5:=WH T.bm T.aj hT.aj hs hT.bm.1;have h6:=acv T.dn T.aj T.bm hT.aj hT.bm.1;have h7:=WJ T.cH T.aj T.bm T.stops.length hT.aj hs hT.bm.1;have h8:=Kw T.paths T.stops.length hT.paths.1;have h9:=Ii T.av T.aQ T.within T.cap hT.av;simp only[res]at h0 h1 h2 h3 h4 h5 h6 h7 h8 h9;have w1:IntKind.i64.wrap (0+1)=1:=by rfl
 have w2:IntKind.i64.wrap (1+1)=2:=by rfl
 have w3:IntKind.i64.wrap (2+1)=3:=by rfl
 have w4:IntKind.i64.wrap (3+1)=4:=by rfl
 have w5:IntKind.i64.wrap (4+1)=5:=by rfl
 have w6:IntKind.i64.wrap (5+1)=6:=by rfl
 have w7:IntKind.i64.wrap (6+1)=7:=by rfl
 have w8:IntKind.i64.wrap (7+1)=8:=by rfl
 have w9:IntKind.i64.wrap (8+1)=9:=by rfl
 simp only[ef,sd,iE,oJ,iF,oO,iG,oK,iH,oP,iI,oL,iJ,oN,iK,oM,iL,oQ,iM,oG,gY,nc,Y0,Y1,Y2,Y3,Y4,Y5,Y6,Y7,Y8,Y9,Za,HY,HZ,H3,ak,asInt,IS,U,By,ttF,h0,h1,h2,h3,h4,h5,h6,h7,h8,h9,cz,alx,anx,Nat.reduceAdd,aki,amr,w1,w2,w3,w4,w5,w6,w7,w8,w9,gd];have hr:List.range 10=[0,1,2,3,4,5,6,7,8,9]:=by rfl
 rw[hr];simp only[aou,ap7,AG,DB,vC];generalize fP T.stops=r0;generalize ec T.ae=r1;generalize I0 T.gR=r2;generalize I1 T.ru T.gR.length=r3;generalize sA T.aj T.stops.length T.ae.length T.gR.length=r4;generalize yf T.bm T.aj=r5;generalize tK T.dn T.aj T.bm=r6;generalize pO T.cH T.aj T.bm T.stops.length=r7;generalize qH T.paths T.stops.length=r8;generalize cX T.av T.aQ T.within T.cap=r9;by_cases e0:r0.2=0;rotate_left
 ·simp[e0,bP]
 by_cases e1:r1.2=0;rotate_left
 ·simp[e0,e1,bP]
 by_cases e2:r2.2=0;rotate_left
 ·simp[e0,e1,e2,bP]
 by_cases e3:r3.2=0;rotate_left
 ·simp[e0,e1,e2,e3,bP]
 by_cases e4:r4.2=0;rotate_left
 ·simp[e0,e1,e2,e3,e4,bP]
 by_cases e5:r5.2=0;rotate_left
 ·simp[e0,e1,e2,e3,e4,e5,bP]
 by_cases e6:r6.2=0;rotate_left
 ·simp_all[bP]
 by_cases e7:r7.2=0;rotate_left
 ·simp_all[bP]
 by_cases e8:r8.2=0;rotate_left
 ·simp_all[bP]
 by_cases e9:r9.2=0;rotate_left
 ·simp_all[bP]
 simp_all[bP]
end Go.Ab.Tt
