import Derived.Test.YtmbihgjlollbeaaGreatFbP3
import Derived.Test.YtmbihgjlollbeaaGreatSh6
namespace Go.Ab.Tt
set_option maxRecDepth 100000
set_option linter.unusedVariables false
def dv(n:Int):Bool:=decide (0≤n)&&decide (n≤36524)
theorem Q2(n:Int):ez [.int .i64 n]=some (.bool (dv n)):=by simp only[ez,vI,asInt,IS,aa,bE];rfl
def X3(l:List pL)(k:Nat):Int:=match l[k]? with
 |none=>0
 |some x=>if nM x.id=false then 12 else if x.id∈(l.map pL.id).take k then 6 else if(!dv x.F9|| !dv x.Ga||decide (x.F9>x.Ga))=true then 11 else 0
def Gk(l:List pL):Int×Int:=if l.length>64 then(0,5)else cW (X3 l) l.length
theorem aiI(x:pL):cell x.pv 0=.str x.id:=rfl
theorem adn(x:pL):cell x.pv 8=.int .i64 x.F9:=rfl
theorem ado(x:pL):cell x.pv 9=.int .i64 x.Ga:=rfl
theorem X4(l:List pL)(hl:l.length≤maxLen∧∀y∈l,y.Ok):lj [.rs 10 (l.map pL.pv)]=some (res (Gk l).1 (Gk l).2):=by
 have hm:=aQ;simp only[lj,sw,aw,IS,aa,BY];unfold Gk;by_cases vV:l.length>64
 ·rw[GW (by simp;omega),GW vV];rfl
 ·rw[No (by simp;omega),No vV,←kz];refine br (fun k=>(l.map pL.pv,(l.length:Int),(k:Int),seen PV.str ((l.map pL.id).take k),())) l.length _ (fun k hk rec=>?_) (fun rec=>?_) ?_ rfl
  ·have h1:(k:Int)<(l.length:Int):=by omega
   have hid:=uJ l[k].id (hl.2 _ (ajm hk)).id;have mr:=fi kR l[k].id ((l.map pL.id).take k);have kA:=eh kR l[k].id ((l.map pL.id).take k);simp only[oi,AT,h1,IS,aN,IN,cO hk,ajg,aa,aiI,adn,ado,bG,asInt,asBool,hid,mr,kA,Q2,al (show k<9223372036854775807 by omega),jz pL.id l k hk];unfold X3;rw[cO hk];simp only;cases nM l[k].id with
   |false=>rfl
   |true=>
    by_cases bX:l[k].id∈(l.map pL.id).take k
    ·simp only[bX,IS,aji,cQ,ajI,S3];rfl
    ·simp only[bX,IS,aji,cQ,ajI,S3];by_cases hgt:l[k].F9>l[k].Ga
     ·simp only[hgt,ajx,al1,IS];cases dv l[k].F9<;>cases dv l[k].Ga<;>rfl
     ·simp only[hgt,ajz,akM,S3];cases dv l[k].F9<;>cases dv l[k].Ga<;>rfl
  ·simp only[oi,AT,ajG,S3];rfl
  ·have:=bu;omega
def qw(x:sG):Int×Int:=(x.xo,x.day)
def X5(l:List sG)(n:Int)(k:Nat):Int:=match l[k]? with
 |none=>0
 |some x=>if(decide (x.xo<0)||decide (x.xo≥n))=true then 9 else if dv x.day=false then 11 else if qw x∈(l.map qw).take k then 6 else 0
def Gl(l:List sG)(n:Int):Int×Int:=if l.length>256 then(0,5)else cW (X5 l n) l.length
def CC(x:Int×Int):PV:=.agg [.int .i64 x.1,.int .i64 x.2]
theorem Mo(a b:Int×Int):cz (CC a).cells (CC b).cells=decide (a=b):=by obtain⟨a1,a2⟩:=a;obtain⟨b1,b2⟩:=b;rw[akh];simp[CC,PV.cells,cz,peq]
theorem agu(x:sG):cell x.pv 0=.int .i64 x.xo:=rfl
theorem agv(x:sG):cell x.pv 1=.int .i64 x.day:=rfl
theorem X6(l:List sG)(n:Int)(hl:l.length≤maxLen∧∀y∈l,y.Ok):dN [.rs 3 (l.map sG.pv),.int .i64 n]=some (res (Gl l n).1 (Gl l n).2):=by
 have hm:=aQ;simp only[dN,gM,aw,asInt,IS,aa,BY];unfold Gl;by_cases vV:l.length>256
 ·rw[GW (by simp;omega),GW vV];rfl
 ·rw[No (by simp;omega),No vV,←kz];refine br (fun k=>(n,l.map sG.pv,(l.length:Int),(k:Int),seen CC ((l.map qw).take k),())) l.length _ (fun k hk rec=>?_) (fun rec=>?_) ?_ rfl
  ·have h1:(k:Int)<(l.length:Int):=by omega
   have mr:df (.agg [.int .i64 l[k].xo,.int .i64 l[k].day]) (.bool true) (seen CC ((l.map qw).take k))=_:=fi Mo (qw l[k]) ((l.map qw).take k);have kA:b9 (.agg [.int .i64 l[k].xo,.int .i64 l[k].day]) (.bool false) (seen CC ((l.map qw).take k))=_:=eh Mo (qw l[k]) ((l.map qw).take k);simp only[fA,AT,h1,IS,aN,IN,cO hk,ajg,aa,agu,agv,asInt,asBool,mr,kA,Q2,bh,al (show k<9223372036854775807 by omega),jz qw l k hk];unfold X5;rw[cO hk];simp only;generalize (decide (l[k].xo<0)||decide (l[k].xo≥n))=c;by_cases bX:qw l[k]∈(l.map qw).take k
   ·simp only[bX,IS];cases c<;>cases dv l[k].day<;>rfl
   ·simp only[bX,S3];cases c<;>cases dv l[k].day<;>rfl
  ·simp only[fA,AT,ajG,S3];rfl
  ·have:=bu;omega
theorem Gd(x:bL):cell x.pv 0=.str x.id:=rfl
theorem Ge(x:bL):cell x.pv 1=.int .i64 x.fh:=rfl
theorem Gf(x:bL):cell x.pv 2=.int .i64 x.xo:=rfl
theorem Dr(x:bL):cell x.pv 4=.rs 5 (x.calls.map aR.pv):=rfl
def JL(l:List bL)(stops ar eM:Int)(k:Nat):Int:=match l[k]? with
 |none=>0
 |some x=>if nM x.id=false then 12 else if x.id∈(l.map bL.id).take k then 6 else if(decide (x.fh<0)||decide (x.fh≥ar)||decide (x.xo<0)||decide (x.xo≥eM))=true then 9 else(jT x.calls stops 0 172800).2
def vM(l:List bL)(stops ar eM:Int):Int×Int:=if l.length>256 then(0,5)else cW (JL l stops ar eM) l.length
theorem Tc(l:List bL)(stops ar eM:Int)(hl:l.length≤maxLen∧∀y∈l,y.Ok):qS [.rs 5 (l.map bL.pv),.int .i64 stops,.int .i64 ar,.int .i64 eM]=some (res (vM l stops ar eM).1 (vM l stops ar eM).2):=by
 have hm:=aQ;simp only[qS,An,aw,asInt,IS,aa,BY];unfold vM;by_cases vV:l.length>256
 ·rw[GW (by simp;omega),GW vV];rfl
 ·rw[No (by simp;omega),No vV,←kz];refine br (fun k=>(stops,ar,eM,l.map bL.pv,(l.length:Int),(k:Int),seen PV.str ((l.map bL.id).take k),())) l.length _ (fun k hk rec=>?_) (fun rec=>?_) ?_ rfl
  ·have h1:(k:Int)<(l.length:Int):=by omega
   have hid:=uJ l[k].id (hl.2 _ (ajm hk)).id;have mr:=fi kR l[k].id ((l.map bL.id).take k);have kA:=eh kR l[k].id ((l.map bL.id).take k);have zq:=HZ l[k].calls stops 0 172800 (hl.2 _ (ajm hk)).calls.1;simp only[res]at zq;simp only[ud,AT,h1,IS,aN,IN,cO hk,ajg,aa,Gd,Ge,Gf,Dr,bG,asInt,asBool,aw,hid,mr,kA,zq,dq,ajj,ajs,Nat.reduceAdd,ajf,ajh,bh,al (show k<9223372036854775807 by omega),jz bL.id l k hk,pI];unfold JL;rw[cO hk];simp only;generalize (jT l[k].calls stops 0 172800).2=e;cases nM l[k].id with
   |false=>rfl
   |true=>
    by_cases bX:l[k].id∈(l.map bL.id).take k
    ·simp only[bX,IS,aji,cQ,ajI,S3];rfl
    ·simp only[bX,IS,aji,cQ,ajI,S3];cases decide (l[k].fh<0)<;>cases decide (l[k].fh≥ar)<;>cases decide (l[k].xo<0)<;>cases decide (l[k].xo≥eM)<;>(try rfl);grind [FY,ca,res]
  ·simp only[ud,AT,ajG,S3];rfl
  ·have:=bu;omega
def BM(l:List Path)(n:Int):Int×Int:=if l.length>512 then(0,5)else cW (gw l n) l.length
theorem Td(l:List Path)(n:Int)(hl:l.length≤maxLen):lv [.rs 4 (l.map Path.pv),.int .i64 n]=some (res (BM l n).1 (BM l n).2):=by
 have h:=FZ l n hl;simp only[res]at h;simp only[lv,sA,aw,asInt,IS,aa,BY,h,dq,ajj,ajs,Nat.reduceAdd,ajf,ajh,AT];unfold BM;by_cases vV:l.length>512
 ·rw[GW (by omega),GW vV];rfl
 ·rw[No (by omega),No vV];rfl
def Ap(t first start:Int):Bool:=decide (0≤t-first+start)&&decide (t-first+start≤172800)
theorem OQ(n:Int):((BitVec.ofInt 64 n&&&BitVec.ofInt 64 4294967295).toNat:Int)=n%4294967296:=by
 have h:(BitVec.ofInt 64 4294967295).toNat=2^32-1:=by rfl
 rw[BitVec.toNat_and,h,Nat.and_two_pow_sub_one_eq_mod,BitVec.toNat_ofInt];omega
theorem X7(n:Int):((BitVec.ofInt IntKind.i64.bits n&&&BitVec.ofInt IntKind.i64.bits 4294967295).toNat:Int)=n%4294967296:=OQ n
theorem Te(n:Int):dS [.int .i64 n]=some (.bool (decide (n< -2305843009213693952)||decide (n>2305843009213693952))):=by simp[dS,n9,asInt,IS,aa,bh]
theorem yK(a:Int):iQ a↔-9223372036854775808≤a∧a≤9223372036854775807:=by
 have h1:IntKind.i64.min= -9223372036854775808:=by rfl
 have h2:IntKind.i64.max=9223372036854775807:=by rfl
 unfold iQ Lit.wf;simp[h1,h2]
theorem two32:((2:Int)^min (Int.toNat 32) IntKind.i64.bits)=4294967296:=by rfl
theorem aiJ(a:Int):a.fdiv 4294967296=a/4294967296:=aly _ (by omega)
theorem aan(a b c:Int)(ha:iQ a)(hb:iQ b)(hc:iQ c):∃n,lh [.int .i64 a,.int .i64 b,.int .i64 c]=some (.aP [.int .i64 n,.bool (Ap a b c)])∧(Ap a b c=true→n=a-b+c):=by
 obtain⟨ha1,ha2⟩:=(yK _).1 ha;obtain⟨TW,ux⟩:=(yK _).1 hb;obtain⟨hc1,Tm⟩:=(yK _).1 hc;simp only[lh,su,asInt,IS,aa,two32,aiJ,X7];have w0:∀x:Int,IntKind.i64.wrap (x%4294967296)=x%4294967296:=fun x=>aY (by omega) (by omega);have w1:IntKind.i64.wrap (a/4294967296-b/4294967296)=a/4294967296-b/4294967296:=aY (by omega) (by omega);have w2:IntKind.i64.wrap (a/4294967296-b/4294967296+c/4294967296)=a/4294967296-b/4294967296+c/4294967296:=aY (by omega) (by omega);have w3:IntKind.i64.wrap (a%4294967296-b%4294967296)=a%4294967296-b%4294967296:=aY (by omega) (by omega);have w4:IntKind.i64.wrap (a%4294967296-b%4294967296+c%4294967296)=a%4294967296-b%4294967296+c%4294967296:=aY (by omega) (by omega);have w5:IntKind.i64.wrap (a/4294967296-b/4294967296+c/4294967296+(a%4294967296-b%4294967296+c%4294967296)/4294967296)=a/4294967296-b/4294967296+c/4294967296+(a%4294967296-b%4294967296+c%4294967296)/4294967296:=aY (by omega) (by omega);simp only[w0,w1,w2,w3,w4,w5];generalize hH:a/4294967296-b/4294967296+c/4294967296+(a%4294967296-b%4294967296+c%4294967296)/4294967296=H;generalize hL:(a%4294967296-b%4294967296+c%4294967296)%4294967296=Lo;have hs:a-b+c=H*4294967296+Lo:=by omega
 have hLo:0≤Lo∧Lo<4294967296:=by omega
 unfold Ap;by_cases h0:H=0
 ·have e0:(BitVec.ofInt 64 (IntKind.i64.wrap (H*4294967296))|||BitVec.ofInt 64 Lo).toNat=Lo.toNat:=by grind
  have e1:IntKind.i64.wrap ((BitVec.ofInt IntKind.i64.bits (IntKind.i64.wrap (H*4294967296))|||BitVec.ofInt IntKind.i64.bits Lo).toNat:Int)=Lo:=by have e2:(BitVec.ofInt IntKind.i64.bits (IntKind.i64.wrap (H*4294967296))|||BitVec.ofInt IntKind.i64.bits Lo).toNat=Lo.toNat:=e0;rw[e2];rw[aY (by omega) (by omega)];omega
  simp_all
 ·have hb:(H==0)=false:=by simp[h0]
  simp only[hb,cond_false,aa];have h1:(decide (0≤a-b+c)&&decide (a-b+c≤172800))=false:=by grind
  rw[h1];simp
theorem BH(a b c:Int)(ha:iQ a)(hb:iQ b)(hc:iQ c):∃n,gE [.int .i64 a,.int .i64 b,.int .i64 c]=some (.aP [.int .i64 n,.bool (Ap a b c)])∧(Ap a b c=true→n=a-b+c):=by
 obtain⟨n,hn,hnn⟩:=aan a b c ha hb hc;simp only[gE,qk,asInt,IS,aa,Te,asBool,bh,hn,dq,ajj,ajs,Nat.reduceAdd,ajf,ajh,bE];split
 ·exact⟨n,rfl,hnn⟩
 ·rename_i h;simp only[ajt,AT,ami]at h;have w1:IntKind.i64.wrap (a-b)=a-b:=aY (by omega) (by omega);have w2:IntKind.i64.wrap (a-b+c)=a-b+c:=aY (by omega) (by omega);simp only[w1,w2];exact⟨_,rfl,fun _=>rfl⟩
theorem G1{S R:Type}{body:S→(S→Option R)→Option R}(st:Nat→S)(n:Nat)(bad:Nat→Option (Option R)){fin:Option R}(h:∀k,k<n→(∀j,j<k→bad j=none)→∀rec,body (st k) rec=ca (bad k) (rec (st (k+1))))(rr:(∀j,j<n→bad j=none)→∀rec,body (st n) rec=fin)(hn:n<rounds){s0:S}(h0:st 0=s0):bn.run body s0=ca ((List.range n).findSome? bad) fin:=by
 have key:∀(m j N:Nat),j+m=n→m<N→(∀i,i<j→bad i=none)→cA body N (st j)=ca ((List.range' j m).findSome? bad) fin:=by
  intro m;induction m with
  |zero=>
   intro j N hj hN hq;cases N with
   |zero=>omega
   |succ N=>
    have:j=n:=by omega
    subst this;simp only[cA,List.range'_zero,alz];exact rr hq _
  |succ m ih=>
   intro j N hj hN hq;cases N with
   |zero=>omega
   |succ N=>
    simp only[cA,ak4,ajY];rw[h j (by omega) hq];cases hb:bad j with
    |some r=>rfl
    |none=>refine ih (j+1) N (by omega) (by omega) fun i hi=>?_;grind
 grind [nd,rounds,List.range_eq_range']
theorem XP(x:aR):cell x.pv 3=.bool x.ea:=rfl
theorem XQ(x:aR):cell x.pv 4=.bool x.bV:=rfl
theorem Ih(x:bL):cell x.pv 3=.bool x.free:=rfl
theorem QX(x:bL):asAgg 5 x.pv=some ():=rfl
theorem Mg(cs:List PV)(k:Nat):cell (.agg cs) k=cs.getD k .bad:=rfl
def ME(x:aR)(first start:Int):aR:={x with arr:=x.arr-first+start,dep:=x.dep-first+start}
def kOk(x:aR)(first start:Int):Bool:=Ap x.arr first start&&Ap x.dep first start
def oc(l:List aR)(first start:Int)(k:Nat):Bool:=match l[k]? with|some x=>kOk x first start|none=>true
def qu(l:List aR)(start:Int):Int:=match l with
 |[]=>16
 |c::_=>if(List.range l.length).all (oc l c.dep start)=true then 0 else 10
theorem ye{B:Type}(p:Nat→Bool)(r:B):∀l:List Nat,l.findSome? (fun k=>if p k=true then none else some r)=if l.all p=true then none else some r:=by
 intro l;induction l with
 |nil=>rfl
 |cons a l ih=>grind
def BG(l:List aR)(f:aR→aR)(k:Nat):List PV:=((l.take k).map fun x=>(f x).pv)++(l.drop k).map aR.pv
theorem Md(l:List aR)(f:aR→aR)(k:Nat)(h:k≤l.length):(BG l f k).length=l.length:=by simp[BG];omega
theorem Me(l:List aR)(f:aR→aR)(k:Nat)(h:k<l.length):(BG l f k)[k]?=some l[k].pv:=by grind [BG,List.getElem?_append_right,Nat.min_eq_left,Nat.le_of_lt]
theorem Mf(l:List aR)(f:aR→aR)(k:Nat)(h:k<l.length):(BG l f k).set k (f l[k]).pv=BG l f (k+1):=by unfold BG;rw[List.set_append_right _ _ (by simp;omega)];have h1:l.drop k=l[k]::l.drop (k+1):=(aj8 h);have h2:l.take (k+1)=l.take k++[l[k]]:=(akG h).symm;rw[h1,h2];simp only[BY,ajP,aki (Nat.le_of_lt h),alE,ajr,List.set_cons_zero,aku,amd,ajD,List.singleton_append]
theorem kC(k n:Nat)(h:k<n):au (k:Int) n:=by unfold au;omega
theorem Il(x:bL)(hx:x.Ok)(start:Int)(hs:iQ start)(S2:x.calls.length≤40):∃es,dd [x.pv,.int .i64 start]=some (.aP [.rs 5 es,.int .i64 (qu x.calls start)]):=by
 have hm:=aQ;have BF:∀y∈x.calls,y.Ok:=hx.calls.2;simp only[dd,me,QX,Gd,Ge,Gf,Ih,Dr,bG,aw,asInt,asBool,IS,aa,BY];generalize x.calls=l at S2 BF⊢;cases l with
 |nil=>exact⟨[],rfl⟩
 |cons c l=>
  generalize hl:c::l=cs at S2 BF⊢;have Kv:cs[0]?=some c:=by rw[←hl];rfl
  have ff:0<cs.length:=by rw[←hl];simp
  have hcE:qu cs start=if(List.range cs.length).all (oc cs c.dep start)=true then 0 else 10:=by rw[←hl];rfl
  have XN:c.Ok:=BF c (by rw[←hl];simp);have cJ:((cs.length:Int)==0)=false:=by grind
  have Zn:fM (cs.map aR.pv) 0=some c.pv:=by have:=aN (cs.map aR.pv) 0;simp_all
  have fg:0≤(cs.length:Int)∧(cs.length:Int)≤(cs.length:Int)∧(cs.length:Int).toNat*32≤ah∧0<32∧0<5:=by grind [decide,ah]
  rw[cJ,Zn];simp only[cQ,S3,aa,Di,asInt,IS,GW fg,aj1,ajk,ajM (amh (BY _)),BY];rw[alT (by simp),akl,BY];have OI:0≤(cs.length:Int)∧(cs.length:Int)≤(cs.length:Int)∧cs.length*32≤ah∧0<32∧0<5:=fg;have XO:bn.run dw (start,c.dep,(cs.length:Int),0,cs.map aR.pv,())=ca ((List.range cs.length).findSome? fun k=>if oc cs c.dep start k=true then none else some (some (.aP [.rs 5 [],.int .i64 10]))) (some (.aP [.rs 5 (BG cs (fun x=>ME x c.dep start) cs.length),.int .i64 0])):=by
   refine br (fun k=>(start,c.dep,(cs.length:Int),(k:Int),BG cs (fun x=>ME x c.dep start) k,())) cs.length _ (fun k hk rec=>?_) (fun rec=>?_) ?_ ?_
   ·have h1:(k:Int)<(cs.length:Int):=by omega
    have Aq:cs[k].Ok:=BF _ (ajm hk);obtain⟨n1,e1,q1⟩:=BH cs[k].arr c.dep start Aq.arr XN.dep hs;obtain⟨n2,e2,q2⟩:=BH cs[k].dep c.dep start Aq.dep XN.dep hs;have hlen:=Md cs (fun x=>ME x c.dep start) k (by omega);have eX:=Me cs (fun x=>ME x c.dep start) k hk;have sL:=Mf cs (fun x=>ME x c.dep start) k hk;have hr:au (k:Int) cs.length:=kC k _ hk;have aif:oc cs c.dep start k=(Ap cs[k].arr c.dep start&&Ap cs[k].dep c.dep start):=by unfold oc;rw[cO hk];rfl
    have IM:∀X,((BG cs (fun x=>ME x c.dep start) k).set k X)[k]?=some X:=fun X=>by simp_all
    simp only[dw,AT,h1,IS,hlen,GW hr,ajk,eX,aa,FW,LB,Di,XP,XQ,asInt,e1,e2,dq,asBool,ajj,ajs,Nat.reduceAdd,ajf,ajh,akX,IM,Mg,over,alY,al (show k<9223372036854775807 by omega)];grind [Ap,start,ca,ME,aR.pv]
   ·simp[dw,AT,ajG,S3]
   ·grind [rounds,decide]
   rfl
  rw[GW OI,XO,ye,hcE];by_cases wa:(List.range cs.length).all (oc cs c.dep start)=true
  ·rw[GW wa,GW wa];exact⟨_,rfl⟩
  ·rw[No wa,No wa];exact⟨_,rfl⟩
theorem zy(x:bf):cell x.pv 0=.int .i64 x.bR:=rfl
theorem BC(x:bf):cell x.pv 1=.int .i64 x.t0:=rfl
theorem BD(x:bf):cell x.pv 2=.int .i64 x.t1:=rfl
theorem BE(x:bf):cell x.pv 3=.int .i64 x.every:=rfl
theorem Im(x:bf):asAgg 4 x.pv=some ():=rfl
theorem Mc(x:bf):PV.agg [.int .i64 x.bR,.int .i64 x.t0,.int .i64 x.t1,.int .i64 x.every]=x.pv:=rfl
theorem X8(x:bL):PV.agg [.str x.id,.int .i64 x.fh,.int .i64 x.xo,.bool x.free,.rs 5 (x.calls.map aR.pv)]=x.pv:=rfl
def eF(x:bf):Bool:=decide (x.t0≥0)&&decide (x.t0<x.t1)&&decide (x.t1≤172800)&&decide (x.every≥1)&&decide (x.every≤86400)
theorem iL(x:bf):eF x=true↔0≤x.t0∧x.t0<x.t1∧x.t1≤172800∧1≤x.every∧x.every≤86400:=by simp[eF,and_assoc]
theorem Dq(x:bf):gF [x.pv]=some (.bool (eF x)):=by simp only[gF,qm,Im,zy,BC,BD,BE,asInt,IS,aa,bE];rfl
theorem NN(x:bf):pw [x.pv]=some (.bool (eF x)):=by
 simp only[pw,xY,Im,zy,BC,BD,BE,asInt,IS,aa,bE];have:∀a b:Bool,a=b→some (PV.bool a)=some (PV.bool b):=fun a b h=>by rw[h]
 apply this;rw[akh,iL];grind
def fH(x:bf):Int:=(x.t1-x.t0-1)/x.every+1
theorem ub(x:bf)(h:eF x=true):1≤fH x∧fH x≤172800:=by obtain⟨h1,h2,h3,h4,h5⟩:=(iL x).1 h;unfold fH;have a:=alZ (show 0≤x.t1-x.t0-1 by omega) (show 0≤x.every by omega);have b:=Int.ediv_le_self (b:=x.every) (show 0≤x.t1-x.t0-1 by omega);omega
theorem Gm(x:bf)(h:eF x=true):eU [x.pv]=some (.int .i64 (fH x)):=by
 have hc:=ub x h;obtain⟨h1,h2,h3,h4,h5⟩:=(iL x).1 h;have w1:IntKind.i64.wrap (x.t1-x.t0)=x.t1-x.t0:=aY (by omega) (by omega);have w2:IntKind.i64.wrap (x.t1-x.t0+x.every)=x.t1-x.t0+x.every:=aY (by omega) (by omega);have w3:IntKind.i64.wrap (x.t1-x.t0+x.every-1)=x.t1-x.t0+x.every-1:=aY (by omega) (by omega);have e:(x.t1-x.t0+x.every-1).tdiv x.every=fH x:=by
  rw[Int.tdiv_eq_ediv_of_nonneg (by omega)];unfold fH;have:x.t1-x.t0+x.every-1=(x.t1-x.t0-1)+1*x.every:=by omega
  rw[this,Int.add_mul_ediv_right _ _ (by omega)]
 simp only[eU,qn,Im,zy,BC,BD,BE,asInt,IS,aa,w1,w2,w3,e,No (show¬x.every=0 by omega)];rw[aY (by omega) (by omega)]
theorem Zy(x:bf)(h:eF x=true):px [x.pv]=some (.int .i64 (fH x)):=by
 have hc:=ub x h;obtain⟨h1,h2,h3,h4,h5⟩:=(iL x).1 h;have w1:IntKind.i64.wrap (x.t1-x.t0)=x.t1-x.t0:=aY (by omega) (by omega);have w2:IntKind.i64.wrap (x.t1-x.t0-1)=x.t1-x.t0-1:=aY (by omega) (by omega);have e:(x.t1-x.t0-1).tdiv x.every=fH x-1:=by grind [Int.tdiv_eq_ediv_of_nonneg,fH]
 simp only[px,xZ,Im,zy,BC,BD,BE,asInt,IS,aa,w1,w2,e,No (show¬x.every=0 by omega)];rw[aY (x:=fH x-1) (by omega) (by omega),aY (by omega) (by omega)];simp
def zz(x:bf):Int:=x.t0+(fH x-1)*x.every
theorem JJ(x:bf)(h:eF x=true):0≤(fH x-1)*x.every∧(fH x-1)*x.every≤x.t1-x.t0-1∧x.t1-x.t0≤fH x*x.every:=by
 obtain⟨h1,h2,h3,h4,h5⟩:=(iL x).1 h;have e:fH x-1=(x.t1-x.t0-1)/x.every:=by unfold fH;omega
 have e2:fH x*x.every=(fH x-1)*x.every+x.every:=by rw[Int.sub_mul];omega
 rw[e2,e];have a:=Int.mul_ediv_add_emod (x.t1-x.t0-1) x.every;have b:=Int.emod_lt_of_pos (x.t1-x.t0-1) (show 0<x.every by omega);have c:=Int.emod_nonneg (x.t1-x.t0-1) (show x.every≠0 by omega);have d:=alG (alZ (show 0≤x.t1-x.t0-1 by omega) (show 0≤x.every by omega)) (show 0≤x.every by omega);grind
theorem Tf(x:bf)(h:eF x=true):ll [x.pv]=some (.int .i64 (zz x)):=by have hc:=ub x h;have Tu:=JJ x h;obtain⟨h1,h2,h3,h4,h5⟩:=(iL x).1 h;have w1:IntKind.i64.wrap (fH x-1)=fH x-1:=aY (by omega) (by omega);have w2:IntKind.i64.wrap ((fH x-1)*x.every)=(fH x-1)*x.every:=aY (by omega) (by omega);have w3:IntKind.i64.wrap (x.t0+(fH x-1)*x.every)=zz x:=aY (by omega) (by omega);simp only[ll,sx,Im,zy,BC,BD,BE,asInt,IS,aa,Mc,Gm x h,w1,w2,w3]
def Gh(x:bL)(f:bf):Bool:=decide (qu x.calls f.t0≠10)&&decide (qu x.calls (zz f)≠10)
theorem vO(c:aR)(l:List aR)(s:Int):qu (c::l) s=0∨qu (c::l) s=10:=by show(if(List.range (c::l).length).all (oc (c::l) c.dep s)=true then(0:Int)else 10)=0∨(if(List.range (c::l).length).all (oc (c::l) c.dep s)=true then(0:Int)else 10)=10;omega
theorem aao(x:bf)(h:eF x=true):0≤zz x∧zz x≤172800:=by have Tu:=JJ x h;grind [iL,zz]
theorem Tg(x:bL)(hx:x.Ok)(S2:x.calls.length≤40)(f:bf)(hf:eF f=true):lq [x.pv,f.pv]=some (.bool (Gh x f)):=by
 obtain⟨h1,h2,h3,h4,h5⟩:=(iL f).1 hf;have hl:=aao f hf;obtain⟨es1,e1⟩:=Il x hx f.t0 ((yK _).2 (by omega)) S2;obtain⟨es2,e2⟩:=Il x hx (zz f) ((yK _).2 (by omega)) S2;simp only[lq,sy,QX,Gd,Ge,Gf,Ih,Dr,Im,zy,BC,BD,BE,bG,aw,asInt,asBool,IS,aa,BY,Mc,X8,Tf f hf,e1,e2,dq,ajj,ajs,Nat.reduceAdd,ajf,ajh,bE];unfold Gh;cases Nb:x.calls with
 |nil=>rfl
 |cons c l=>
  have cJ:(((c::l).length:Int)==0)=false:=by rfl
  rw[cJ];simp only[cQ,S3];rcases vO c l f.t0 with h|h<;>rcases vO c l (zz f)with h'|h'<;>rw[h,h']<;>rfl
def fitsAt(ag:List bL)(f:bf):Bool:=match ag[f.bR.toNat]? with|some x=>Gh x f|none=>true
def DH(l:List bf)(f:bf)(k:Nat):Int:=((l.take k).map fun g=>if g.bR=f.bR then fH g else 0).sum
def Q3(f g:bf):Bool:=decide (g.bR=f.bR)&&(decide (g.t0<f.t1)&&decide (f.t0<g.t1))
def anyM(l:List bf)(f:bf)(k:Nat):Bool:=(l.take k).any (Q3 f)
def yT(l:List bf)(ag:List bL)(k:Nat):Int:=match l[k]? with
 |none=>0
 |some f=>if(decide (f.bR<0)||decide (f.bR≥(ag.length:Int)))=true then 9 else if(!eF f|| !fitsAt ag f)=true then 10 else if fH f+DH l f k>256 then 17 else if anyM l f k=true then 8 else 0
def vN(l:List bf)(ag:List bL):Int×Int:=if l.length>64 then(0,5)else cW (yT l ag) l.length
theorem Io(l:List bf)(f:bf)(k:Nat)(h:k<l.length):DH l f (k+1)=DH l f k+if l[k].bR=f.bR then fH l[k]else 0:=by unfold DH;have h2:l.take (k+1)=l.take k++[l[k]]:=(akG h).symm;grind
theorem Th(l:List bf)(f:bf)(k:Nat)(h:k<l.length):anyM l f (k+1)=(anyM l f k||Q3 f l[k]):=by unfold anyM;have h2:l.take (k+1)=l.take k++[l[k]]:=(akG h).symm;grind
theorem OR(l:List bf)(f:bf):∀k,k≤l.length→(∀j(h:j<l.length),j<k→eF l[j]=true)→0≤DH l f k∧DH l f k≤172800*(k:Int):=by
 intro k;induction k with
 |zero=>intro _ _;simp[DH]
 |succ k ih=>intro hk hq;have:=ih (by omega) fun j h hj=>hq j h (by omega);rw[Io l f k (by omega)];have hc:=ub l[k] (hq k (by omega) (by omega));omega
theorem G2(l:List bf)(ag:List bL)(k:Nat)(h:k<l.length)(he:yT l ag k=0):eF l[k]=true:=by unfold yT at he;grind
theorem Ti(l:List bf)(ag:List bL)(ht:ag.length≤maxLen∧∀y∈ag,y.Ok)(S2:∀y∈ag,y.calls.length≤40)(hl:l.length≤maxLen):j2 [.rs 4 (l.map bf.pv),.rs 5 (ag.map bL.pv)]=some (res (vN l ag).1 (vN l ag).2):=by
 have hm:=aQ;simp only[j2,qo,aw,IS,aa,BY];unfold vN;by_cases vV:l.length>64
 ·rw[GW (by simp;omega),GW vV];rfl
 ·rw[No (by simp;omega),No vV,←kz];refine G1 (fun k=>(l.map bf.pv,ag.map bL.pv,l.map bf.pv,(l.length:Int),(k:Int),())) l.length _ (fun k hk hq rec=>?_) (fun _ rec=>?_) ?_ rfl
  ·have h1:(k:Int)<(l.length:Int):=by omega
   have agN:∀j(h:j<l.length),j<k→eF l[j]=true:=fun j h hj=>by have hqj:=hq j hj;refine G2 l ag j h ?_;simp_all[FY,yT,No]
   simp only[mK,AT,h1,IS,aN,IN,cO hk,ajg,aa,zy,BC,BD,BE,asInt,asBool,Mc,BY,bh,Dq];unfold yT;rw[cO hk];simp only;generalize hf:l[k]=f;by_cases hr:f.bR<0∨f.bR≥(ag.length:Int)
   ·have:(decide (f.bR<0)||decide (f.bR≥(ag.length:Int)))=true:=by simpa using hr
    rw[this];rfl
   ·have RA:(decide (f.bR<0)||decide (f.bR≥(ag.length:Int)))=false:=by simpa using hr
    simp only[RA,cQ,S3];obtain⟨t,htt⟩:=ala (show 0≤f.bR by omega);have htl:t<ag.length:=by omega
    cases hs:eF f with
    |false=>rfl
    |true=>
     have hfa:fitsAt ag f=Gh ag[t] f:=by simp_all[fitsAt,ajk,cO]
     have hfp:=Tg ag[t] (ht.2 _ (ajm htl)) (S2 _ (ajm htl)) f hs;have aiK:fM (ag.map bL.pv) f.bR=some ag[t].pv:=by rw[htt,aN,IN,cO htl];rfl
     simp only[aiK,aji,cond_false,aa,Gd,Ge,Gf,Ih,Dr,X8,hfp,asBool,hfa,akr];cases hfb:Gh ag[t] f with
     |false=>rfl
     |true=>
      have hc:(0:Int)≤0∧(0:Int)≤(k:Int)∧(k:Int)≤(l.length:Int)∧True∧4≠0:=⟨by omega,by omega,by omega,trivial,by omega⟩;have hcf:=ub f hs;have bT:(List.map bf.pv l).take k=(l.take k).map bf.pv:=by simp
      simp only[aji,cQ,S3,Gm f hs,aa,asInt,IS,ajk,Int.toNat_zero,al8,bT,BY,ajP,aki (Nat.le_of_lt hk)];rw[GW hc];refine aZ (fun j=>(l.map bf.pv,ag.map bL.pv,(k:Int),fH f+DH l f j,anyM l f j,l.map bf.pv,(l.length:Int),(k:Int),(l.take k).map bf.pv,(k:Int),(j:Int),PV.int .i64 f.bR,PV.int .i64 f.t0,PV.int .i64 f.t1,PV.int .i64 f.every,())) k (fun j hj rc=>?_) (fun rc=>?_) ?_ ?_
      ·have hj1:(j:Int)<(k:Int):=by omega
       have zK:j<l.length:=by omega
       have Yy:(l.take k)[j]?=some l[j]:=by simp_all
       have hsj:=agN j zK hj;have hcj:=ub l[j] hsj;have hb:=OR l f j (by omega) fun i h hi=>agN i h (by omega);simp only[mJ,AT,hj1,IS,aN,IN,Yy,ajg,aa,zy,BC,BD,BE,asInt,Mc,jw,al (show j<9223372036854775807 by omega),bE,bh];rw[Io l f j zK,Th l f j zK];by_cases he:l[j].bR=f.bR
       ·rw[GW he,GW he,Gm l[j] hsj];have hw:IntKind.i64.wrap (fH f+DH l f j+fH l[j])=fH f+(DH l f j+fH l[j]):=by grind [aY]
        simp_all[aa,Q3,ajx,aj3,asInt,IS]
       simp_all[No,Q3,ajz,akQ,akM,Int.add_zero]
      ·simp only[mJ,AT,ajG,S3,al (show k<9223372036854775807 by omega)];by_cases aap:fH f+DH l f k>256
       ·rw[GW aap,GW aap];rfl
       ·rw[No aap,No aap];cases anyM l f k<;>rfl
      ·grind [rounds,decide]
      ·simp[DH,anyM]
  ·simp only[mK,AT,ajG,S3];rfl
  ·have:=bu;omega
theorem agO(x:kS):cell x.pv 0=.int .i64 x.a:=rfl
theorem agP(x:kS):cell x.pv 1=.int .i64 x.b:=rfl
theorem Vi(n:Int):cell (.int .i64 n) 0=.int .i64 n:=rfl
def iv(n:Int):PV:=.int .i64 n
def Dw(l:List kS)(t:Int):Option Int:=(l.find? fun x=>decide (x.a=t)).map kS.b
def CD(o:Option Int):PV:=match o with|some b=>.aP [.int .i64 b,.bool true]|none=>.aP [.int .i64 0,.bool false]
theorem Cl{A B:Type}(p:A→Bool)(g:A→B)(l:List A):(List.range l.length).findSome? (fun k=>(l[k]?).bind fun x=>if p x=true then some (g x)else none)=(l.find? p).map g:=by
 rw[El];induction l with
 |nil=>rfl
 |cons x l ih=>grind
theorem Ip(l:List kS)(hl:l.length≤maxLen)(t:Int):oq [.rs 2 (l.map kS.pv),.int .i64 t]=some (CD (Dw l t)):=by
 have hm:=aQ;simp only[oq,vK,aw,asInt,IS,aa,BY];refine(br (fun k=>(t,l.map kS.pv,(l.length:Int),(k:Int),())) l.length (fun k=>(l[k]?).bind fun x=>if decide (x.a=t)=true then some (some (CD (some x.b)))else none) (fin:=some (CD none)) (fun k hk rec=>?_) (fun rec=>?_) ?_ rfl).trans ?_
 ·have h1:(k:Int)<(l.length:Int):=by omega
  simp only[qv,AT,h1,IS,aN,IN,cO hk,ajg,aa,ajn,agO,agP,asInt,al (show k<9223372036854775807 by omega),jw];by_cases he:l[k].a=t
  ·simp only[he,IS];rfl
  ·simp only[he,S3];rfl
 ·simp only[qv,AT,ajG,S3];rfl
 ·have:=bu;omega
 ·rw[Cl (fun x:kS=>decide (x.a=t)) (fun x=>some (CD (some x.b))) l];unfold Dw;cases l.find? fun x=>decide (x.a=t)<;>rfl
theorem OS(l:List Int)(hl:l.length≤maxLen)(t:Int):bn.run lu (t,l.map iv,(l.length:Int),0,())=some (.bool (decide (t∈l))):=by
 have hm:=aQ;refine(xr (fun k=>(t,l.map iv,(l.length:Int),(k:Int),())) l.length (fun k=>decide (l[k]?=some t)) (no:=some (.bool true)) (fin:=some (.bool false)) (fun k hk rec=>?_) (fun rec=>?_) ?_ rfl).trans ?_
 ·have h1:(k:Int)<(l.length:Int):=by omega
  simp only[lu,AT,h1,IS,aN,IN,cO hk,ajg,aa,iv,Vi,asInt,al (show k<9223372036854775807 by omega),jw,cN]
 ·simp[lu,AT,ajG,S3]
 ·have:=bu;omega
 ·rw[Q1 l l.length (ajo _) t,ajZ];grind
def grow(l:List kS):Nat→List Int→Int→List Int
 |0,pre,last=>pre++[last]
 |n+1,pre,last=>match Dw l last with
  |none=>pre++[last]
  |some m=>if m∈pre++[last]then pre++[last]else grow l n (pre++[last]) m
theorem X9(l:List kS):∀n pre last,(grow l n pre last).length≤pre.length+1+n:=by
 intro n;induction n with
 |zero=>intro pre last;simp[grow]
 |succ n ih=>grind [grow,Nat.le_trans]
theorem aaq:∀(a b:List Int),a.Nodup→(∀x∈a,x∈b)→a.length≤b.length:=by
 intro a;induction a with
 |nil=>simp
 |cons x a ih=>
  intro b hn hs;rw[alq]at hn;have hx:x∈b:=hs x (by simp);have:=ih (b.erase x) hn.2 fun y hy=>by grind
  grind
theorem Mp(l:List kS)(t m:Int)(h:Dw l t=some m):t∈l.map kS.a:=by
 unfold Dw at h;cases hf:l.find? (fun x=>decide (x.a=t))with
 |none=>rw[hf]at h;cases h
 |some x=>grind
theorem Mq(pre:List Int)(last:Int)(hl:pre.length<maxLen):(pre++[last]).map iv=pre.map iv++[iv last]∧au (IntKind.i64.wrap ((((pre++[last]).map iv).length:Int)-1)) ((pre++[last]).map iv).length∧((pre++[last]).map iv)[(IntKind.i64.wrap ((((pre++[last]).map iv).length:Int)-1)).toNat]?=some (iv last):=by
 have hm:=aQ;have h1:(((pre++[last]).map iv).length:Int)=((pre.length+1:Nat):Int):=by simp
 have h2:IntKind.i64.wrap (((pre.length+1:Nat):Int)-1)=(pre.length:Int):=oG _ (by omega);simp_all[iv,kC,ajk]
theorem sF(a b:Int):cz (iv a).cells (iv b).cells=decide (a=b):=yR a b
theorem OT(l:List kS)(hl:l.length≤1000)(t:Int):mf [.rs 2 (l.map kS.pv),.int .i64 t]=some (.rs 1 ((grow l l.length [] t).map iv)):=by
 have Tu:(2000:Nat)≤maxLen:=by decide
 have h0:df (PV.int .i64 t) (.bool true) []=seen iv ([]++[t]):=fi sF t [];simp only[mf,tX,aw,asInt,IS,aa,h0];have key:∀(n N:Nat)(pre:List Int)(last:Int),pre.length+n=l.length→n<N→(pre++[last]).Nodup→(∀x∈pre,x∈l.map kS.a)→cA (lr bn) N (l.map kS.pv,(pre++[last]).map iv,seen iv (pre++[last]),())=some (.rs 1 ((grow l n pre last).map iv)):=by
  intro n;induction n with
  |zero=>
   intro N pre last hp hN hnd Uf;cases N with
   |zero=>omega
   |succ N=>
    obtain⟨g1,g2,g3⟩:=Mq pre last (by omega);have UL:Dw l last=none:=by
     cases hx:Dw l last with
     |none=>rfl
     |some m=>
      have h1:=Mp l last m hx;have:=aaq (pre++[last]) (l.map kS.a) hnd fun y hy=>by
       rw[ajA]at hy;rcases hy with hy|hy
       ·exact Uf y hy
       simp_all
      simp at this;omega
    simp only[cA,lr,GW g2,g3,aa,iv,Vi,asInt,IS,Ip l (by omega),UL,CD,dq,ajj,ajs,Nat.reduceAdd,ajf,ajh,asBool,ajC,cond_true];rfl
  |succ n ih=>
   intro N pre last hp hN hnd Uf;cases N with
   |zero=>omega
   |succ N=>
    obtain⟨g1,g2,g3⟩:=Mq pre last (by omega);have hb:∀X:PV,((pre++[last]).map iv++[X]).length*8≤ah∧0<8:=fun X=>by refine⟨?_,by omega⟩;simp only[aju,BY,ajj,ajs];unfold ah;omega
    simp only[cA,lr,GW g2,g3,aa,Vi,asInt,IS];simp only[iv,Vi,asInt,IS,aa,Ip l (by omega)];unfold grow;cases hx:Dw l last with
    |none=>rfl
    |some m=>
     have kA:b9 (PV.int .i64 m) (.bool false) (seen iv (pre++[last]))=.bool (decide (m∈pre++[last])):=eh sF m _;have mr:df (PV.int .i64 m) (.bool true) (seen iv (pre++[last]))=seen iv (pre++[last]++[m]):=fi sF m _;simp only[CD,dq,ajj,ajs,Nat.reduceAdd,IS,ajf,ajh,asBool,asInt,aa,aji,cond_false];simp only[kA,asBool,aa];by_cases bX:m∈pre++[last]
     ·simp_all
     ·simp only[bX,ajz,cQ,S3];rw[GW (hb _),mr];have uf:(pre++[last]).map iv++[PV.int .i64 m]=(pre++[last]++[m]).map iv:=by simp[iv]
      rw[uf];refine ih N (pre++[last]) m (by simp;omega) (by omega) ?_ ?_
      ·rw[List.nodup_append];refine⟨hnd,by simp,fun a ha b hb=>?_⟩;simp at hb;grind
      ·intro x IG;rw[ajA]at IG;rcases IG with h|h
       ·exact Uf x h
       simp_all[Mp]
 exact key l.length rounds [] t (by simp) (by grind [rounds,decide]) (by simp) (by simp)
theorem Mr(l:List kS)(hl:l.length≤1000)(a b:Int):mh [.rs 2 (l.map kS.pv),.int .i64 a,.int .i64 b]=some (.bool (decide (b∈grow l l.length [] a))):=by
 have Tu:(2000:Nat)≤maxLen:=by decide
 have hg:=X9 l l.length [] a;simp only[ajs]at hg;simp only[mh,tY,aw,asInt,IS,aa,OT l hl,BY];exact OS _ (by omega) b
def Nv(fs:List bf)(t:Int):Bool:=decide (t∈fs.map bf.bR)
theorem K5(fs:List bf)(hl:fs.length≤maxLen)(t:Int):dE [.rs 4 (fs.map bf.pv),.int .i64 t]=some (.bool (Nv fs t)):=by
 have hm:=aQ;simp only[dE,mG,aw,asInt,IS,aa,BY];refine(xr (fun k=>(t,fs.map bf.pv,(fs.length:Int),(k:Int),())) fs.length (fun k=>decide ((fs.map bf.bR)[k]?=some t)) (no:=some (.bool true)) (fin:=some (.bool false)) (fun k hk rec=>?_) (fun rec=>?_) ?_ rfl).trans ?_
 ·have h1:(k:Int)<(fs.length:Int):=by omega
  simp only[jM,AT,h1,IS,aN,IN,cO hk,ajg,aa,zy,asInt,al (show k<9223372036854775807 by omega),jw,cN]
 ·simp[jM,AT,ajG,S3]
 ·have:=bu;omega
 ·have h:=Q1 (fs.map bf.bR) fs.length (by simp) t;rw[h,ajM (by simp)];unfold Nv;grind
def OU(n m:Int):Bool:=decide (n≥0)&&decide (n<m)
theorem aar(n:Int)(ts:List PV):fK [.int .i64 n,.rp [.rs 5 ts]]=some (.bool (OU n ts.length)):=by simp only[fK,sc,asInt,aw,IS,aa,bE];rfl
def BN(a b:Int)(n:Nat):Bool:= !OU a n|| !OU b n||decide (a=b)
def yW(fs:List bf)(a b:Int):Bool:=Nv fs a||Nv fs b
theorem Iq(a b:Int)(ag:List bL)(fs:List bf)(hl:fs.length≤maxLen):kF [.int .i64 a,.int .i64 b,.rs 5 (ag.map bL.pv),.rs 4 (fs.map bf.pv)]=some (.aP [.int .i64 (if BN a b ag.length=true then 9 else 0),.int .i64 (if(!BN a b ag.length&&yW fs a b)=true then 17 else 0)]):=by simp only[kF,vL,asInt,aw,asBool,IS,aa,aar,K5 fs hl,BY,bh,jw];unfold BN yW;grind
def yg(a b:bL):Int:=if(!decide (a.xo=b.xo))=true then 15 else match a.calls[a.calls.length-1]?,b.calls[0]? with
 |some p,some q=>if(!decide (p.stop=q.stop))=true then 13 else if q.dep<p.arr then 10 else 0
 |_,_=>13
theorem Ya(l:List aR)(h:0<l.length)(hl:l.length≤maxLen):IntKind.i64.wrap ((l.length:Int)-1)=((l.length-1:Nat):Int):=by grind [aQ,aY]
theorem aiL(l:List aR)(h:0<l.length):fM (l.map aR.pv) 0=some l[0].pv:=by rw[show(0:Int)=((0:Nat):Int)from rfl,aN,IN,cO h];rfl
theorem JN(a b:bL)(ha:a.Ok)(hb:b.Ok):j3 [a.pv,b.pv]=some (.int .i64 (yg a b)):=by
 have hm:=aQ;have ha1:=ha.calls.1;simp only[j3,qp,QX,Gd,Ge,Gf,Ih,Dr,bG,aw,asInt,asBool,IS,aa,BY,bh,pI];unfold yg;cases decide (a.xo=b.xo)with
 |false=>rfl
 |true=>
  simp only[aji,cQ,S3];by_cases h1:a.calls.length=0
  ·simp_all
  ·by_cases h2:b.calls.length=0
   ·simp_all
   ·have n1:((a.calls.length:Int)==0)=false:=by simp_all
    have n2:((b.calls.length:Int)==0)=false:=by simp_all
    have hk:a.calls.length-1<a.calls.length:=by omega
    have h0:0<b.calls.length:=by omega
    rw[n1,n2,Ya a.calls (by omega) ha1,aiL b.calls h0];simp only[akM,cQ,S3,aN,IN,cO hk,cO h0,ajg,aa,FW,LB,Di,asInt,IS];grind
def Yb(l:List kS)(ag:List bL)(fs:List bf)(k:Nat):Int:=match l[k]? with
 |none=>0
 |some x=>if BN x.a x.b ag.length=true then 9 else if yW fs x.a x.b=true then 17 else match ag[x.a.toNat]?,ag[x.b.toNat]? with
  |some p,some q=>if yg p q=0 then(if(decide (x.a∈(l.map kS.a).take k)||decide (x.b∈(l.map kS.b).take k))=true then 6 else if x.a∈grow (l.take k) k [] x.b then 19 else 0)else yg p q
  |_,_=>0
def Gn(l:List kS)(ag:List bL)(fs:List bf):Int×Int:=if l.length>128 then(0,5)else cW (Yb l ag fs) l.length
theorem Q4(a b:Int)(ag:List bL)(h:BN a b ag.length=false):∃(i j:Nat),a=i∧b=j∧i<ag.length∧j<ag.length:=by unfold BN OU at h;simp only[ajT,akg,OF,AT]at h;exact⟨a.toNat,b.toNat,by omega,by omega,by omega,by omega⟩
theorem Yc(l:List kS)(ag:List bL)(fs:List bf)(ht:ag.length≤maxLen∧∀y∈ag,y.Ok)(hf:fs.length≤maxLen):mi [.rs 2 (l.map kS.pv),.rs 5 (ag.map bL.pv),.rs 4 (fs.map bf.pv)]=some (res (Gn l ag fs).1 (Gn l ag fs).2):=by
 have hm:=aQ;simp only[mi,tZ,aw,IS,aa,BY];unfold Gn;by_cases vV:l.length>128
 ·rw[GW (by simp;omega),GW vV];rfl
 ·rw[No (by simp;omega),No vV,←kz];refine br (fun k=>(l.map kS.pv,ag.map bL.pv,fs.map bf.pv,l.map kS.pv,(l.length:Int),(k:Int),seen iv ((l.map kS.a).take k),seen iv ((l.map kS.b).take k),())) l.length _ (fun k hk rec=>?_) (fun rec=>?_) ?_ rfl
  ·have h1:(k:Int)<(l.length:Int):=by omega
   simp only[oU,AT,h1,IS,aN,IN,cO hk,ajg,aa,agO,agP,asInt,Iq _ _ ag fs hf,dq,ajj,ajs,Nat.reduceAdd,ajf,ajh,pI,al (show k<9223372036854775807 by omega),jz kS.a l k hk,jz kS.b l k hk,BY];unfold Yb;rw[cO hk];simp only;generalize l[k]=x;cases hp:BN x.a x.b ag.length with
   |true=>rfl
   |false=>
    cases hr:yW fs x.a x.b with
    |true=>rfl
    |false=>
     obtain⟨i,j,hi,hj,Tp,zK⟩:=Q4 x.a x.b ag hp;have xi:fM (ag.map bL.pv) x.a=some ag[i].pv:=by rw[hi,aN,IN,cO Tp];rfl
     have xj:fM (ag.map bL.pv) x.b=some ag[j].pv:=by rw[hj,aN,IN,cO zK];rfl
     have ti:ag[x.a.toNat]?=some ag[i]:=by simp_all
     have tj:ag[x.b.toNat]?=some ag[j]:=by simp_all
     have hfo:=JN ag[i] ag[j] (ht.2 _ (ajm Tp)) (ht.2 _ (ajm zK));have la:b9 (PV.int .i64 x.a) (.bool false) (seen iv ((l.map kS.a).take k))=.bool (decide (x.a∈(l.map kS.a).take k)):=eh sF x.a _;have lb:b9 (PV.int .i64 x.b) (.bool false) (seen iv ((l.map kS.b).take k))=.bool (decide (x.b∈(l.map kS.b).take k)):=eh sF x.b _;have pa:df (PV.int .i64 x.a) (.bool true) (seen iv ((l.map kS.a).take k))=seen iv ((l.map kS.a).take k++[x.a]):=fi sF x.a _;have pb:df (PV.int .i64 x.b) (.bool true) (seen iv ((l.map kS.b).take k))=seen iv ((l.map kS.b).take k++[x.b]):=fi sF x.b _;have hc:(0:Int)≤0∧(0:Int)≤(k:Int)∧(k:Int)≤(l.length:Int)∧True∧2≠0:=⟨by omega,by omega,by omega,trivial,by omega⟩;have ZA:(l.map kS.pv).take k=(l.take k).map kS.pv:=by simp
     have hle:=Mr (l.take k) (by simp;omega) x.b x.a;have RB:(l.take k).length=k:=by simp;omega
     rw[RB]at hle;simp only[ajC,aj3,cQ,S3,ajx,aji,xi,xj,ti,tj,aa,Gd,Ge,Gf,Ih,Dr,X8,hfo,asInt,IS,la,lb,asBool,bh,pa,pb,ZA,ajk,Int.toNat_zero,al8,hle,GW hc];by_cases hfe:yg ag[i] ag[j]=0
     ·simp only[hfe,ajx,aji,cQ,S3,IS];cases(decide (x.a∈(l.map kS.a).take k)||decide (x.b∈(l.map kS.b).take k))with
      |true=>rfl
      |false=>
       by_cases bX:x.a∈grow (l.take k) k [] x.b
       ·simp only[bX,ajx,IS];rfl
       ·simp only[bX,ajz,cQ,S3];rfl
     ·simp only[hfe,ajz,ajC,IS,S3,FY,ca];rfl
  ·simp only[oU,AT,ajG,S3];rfl
  grind [rounds,decide]
def Ms(l:List aR)(s:Int)(k:Nat):Bool:=decide (0<k)&&(match l[k]? with|some x=>decide (x.stop=s)&&x.bV|none=>false)
def Mt(l:List aR)(s:Int)(k:Nat):Bool:=decide (k+1<l.length)&&(match l[k]? with|some x=>decide (x.stop=s)&&x.ea|none=>false)
def Ir(o:Option Nat):Int:=match o with|some k=>k|none=> -1
theorem Mu(i:Nat):decide (Ir (some i)<0)=false:=by rfl
theorem Yd(l:List aR)(hl:l.length≤maxLen)(s:Int):im [.rs 5 (l.map aR.pv),.int .i64 s]=some (.int .i64 (Ir ((List.range l.length).find? (Ms l s)))):=by
 have hm:=aQ;simp only[im,oa,aw,asInt,IS,aa,BY];refine(br (fun k=>(s,l.map aR.pv,(l.length:Int),(k:Int),())) l.length (fun k=>if Ms l s k=true then some (some (.int .i64 (k:Int)))else none) (fin:=some (.int .i64 (-1))) (fun k hk rec=>?_) (fun rec=>?_) ?_ rfl).trans ?_
 ·have h1:(k:Int)<(l.length:Int):=by omega
  have h2:decide ((k:Int)>0)=decide (0<k):=by simp
  simp only[kG,AT,h1,IS,aN,IN,cO hk,ajg,aa,FW,XQ,asInt,asBool,al (show k<9223372036854775807 by omega),jw,bE,Ms,h2];cases decide (0<k)<;>cases decide (l[k].stop=s)<;>cases l[k].bV<;>rfl
 ·simp[kG,AT,ajG,S3]
 ·have:=bu;omega
 ·rw[yf];cases(List.range l.length).find? (Ms l s)<;>rfl
theorem Ye(l:List aR)(hl:l.length<maxLen)(s:Int):jr [.rs 5 (l.map aR.pv),.int .i64 s]=some (.int .i64 (Ir ((List.range l.length).find? (Mt l s)))):=by
 have hm:=aQ;simp only[jr,oT,aw,asInt,IS,aa,BY];refine(br (fun k=>(l.map aR.pv,s,l.map aR.pv,(l.length:Int),(k:Int),())) l.length (fun k=>if Mt l s k=true then some (some (.int .i64 (k:Int)))else none) (fin:=some (.int .i64 (-1))) (fun k hk rec=>?_) (fun rec=>?_) ?_ rfl).trans ?_
 ·have h1:(k:Int)<(l.length:Int):=by omega
  have h2:decide (((k+1:Nat):Int)<(l.length:Int))=decide (k+1<l.length):=by grind
  simp only[lM,AT,h1,IS,aN,IN,cO hk,ajg,aa,FW,XP,asInt,asBool,al (show k<9223372036854775807 by omega),jw,bE,Mt,BY,h2];cases decide (k+1<l.length)<;>cases decide (l[k].stop=s)<;>cases l[k].ea<;>rfl
 ·simp[lM,AT,ajG,S3]
 ·have:=bu;omega
 ·rw[yf];cases(List.range l.length).find? (Mt l s)<;>rfl
def mtB(a b:List aR)(i k:Nat):Bool:=match a[i]?,b[k]? with|some p,some q=> !decide (q.dep<p.arr)|_,_=>false
def adx(i k:Nat)(m:Bool):PV:=if m=true then .aP [.int .i64 i,.int .i64 k,.bool true]else .aP [.int .i64 0,.int .i64 0,.bool false]
def agQ:PV:=.aP [.int .i64 0,.int .i64 0,.bool false]
def D2(a b:List aR)(s:Int):PV:=match(List.range a.length).find? (Ms a s)with
 |none=>agQ
 |some i=>match(List.range b.length).find? (Mt b s)with
  |none=>agQ
  |some k=>adx i k (mtB a b i k)
def JO(a b:List aR)(s:Int):Bool:=match(List.range a.length).find? (Ms a s)with
 |none=>false
 |some i=>match(List.range b.length).find? (Mt b s)with
  |none=>false
  |some k=>mtB a b i k
theorem Tj(a b:List aR)(s:Int):∃n m,D2 a b s=.aP [.int .i64 n,.int .i64 m,.bool (JO a b s)]:=by
 unfold D2 JO;cases(List.range a.length).find? (Ms a s)with
 |none=>exact⟨0,0,rfl⟩
 |some i=>
  cases(List.range b.length).find? (Mt b s)with
  |none=>exact⟨0,0,rfl⟩
  |some k=>
   simp only[adx];cases mtB a b i k
   ·simp
   simp
theorem Q5(p:Nat→Bool)(n i:Nat)(h:(List.range n).find? p=some i):i<n:=by simp_all
theorem OV(a b:List aR)(ha:a.length≤maxLen)(hb:b.length<maxLen)(s:Int):mj [.rs 5 (a.map aR.pv),.rs 5 (b.map aR.pv),.int .i64 s]=some (D2 a b s):=by
 simp only[mj,ua,aw,asInt,IS,aa,Yd a ha s,Ye b hb s,bh];unfold D2;cases hi:(List.range a.length).find? (Ms a s)with
 |none=>rfl
 |some i=>
  have Tp:=Q5 _ _ _ hi;cases hk:(List.range b.length).find? (Mt b s)with
  |none=>rfl
  |some k=>have Nk:=Q5 _ _ _ hk;have h1:decide (Ir (some i)<0)=false:=Mu i;have h2:decide (Ir (some k)<0)=false:=Mu k;rw[h1,h2];simp only[Ir,akM,cond_false,aN,IN,cO Tp,cO Nk,ajg,aa,LB,Di,asInt,IS,AT,adx,mtB];grind
theorem agR(x:iP):cell x.pv 0=.int .i64 x.a:=rfl
theorem agS(x:iP):cell x.pv 1=.int .i64 x.b:=rfl
theorem agT(x:iP):cell x.pv 2=.int .i64 x.stop:=rfl
theorem agU(x:iP):PV.agg [.int .i64 x.a,.int .i64 x.b,.int .i64 x.stop]=x.pv:=rfl
theorem Yf(a b c:Int):lN (Kd.int .i64::[].append (Kd.int .i64::[].append (Kd.int .i64::[].append []))) [.int .i64 a,.int .i64 b,.int .i64 c]=true:=rfl
theorem Mv(x y:iP):cz x.pv.cells y.pv.cells=decide (x=y):=by show cz [.int .i64 x.a,.int .i64 x.b,.int .i64 x.stop] [.int .i64 y.a,.int .i64 y.b,.int .i64 y.stop]=_;simp only[cz,peq,akw,jw];rw[akh];simp only[OF,AT];cases x;cases y;simp
def Q6(l:List iP)(ag:List bL)(fs:List bf)(stops:Int)(k:Nat):Int:=match l[k]? with
 |none=>0
 |some x=>if(BN x.a x.b ag.length|| !OU x.stop stops)=true then 9 else if yW fs x.a x.b=true then 17 else match ag[x.a.toNat]?,ag[x.b.toNat]? with
  |some p,some q=>if JO p.calls q.calls x.stop=false then 19 else if x∈l.take k then 6 else 0
  |_,_=>0
def BO(l:List iP)(ag:List bL)(fs:List bf)(stops:Int):Int×Int:=if l.length>128 then(0,5)else cW (Q6 l ag fs stops) l.length
theorem Tk(l:List iP)(ag:List bL)(fs:List bf)(stops:Int)(ht:ag.length≤maxLen∧∀y∈ag,y.Ok)(S2:∀y∈ag,y.calls.length≤40)(hf:fs.length≤maxLen):dY [.rs 3 (l.map iP.pv),.rs 5 (ag.map bL.pv),.rs 4 (fs.map bf.pv),.int .i64 stops]=some (res (BO l ag fs stops).1 (BO l ag fs stops).2):=by
 have hm:=aQ;have cK:1000≤maxLen:=by decide
 simp only[dY,iK,aw,asInt,IS,aa,BY];unfold BO;by_cases vV:l.length>128
 ·rw[GW (by simp;omega),GW vV];rfl
 ·rw[No (by simp;omega),No vV,←kz];refine br (fun k=>(ag.map bL.pv,fs.map bf.pv,stops,l.map iP.pv,(l.length:Int),(k:Int),seen iP.pv (l.take k),())) l.length _ (fun k hk rec=>?_) (fun rec=>?_) ?_ rfl
  ·have h1:(k:Int)<(l.length:Int):=by omega
   have uf:l.take (k+1)=l.take k++[l[k]]:=(akG hk).symm;simp only[fW,AT,h1,IS,aN,IN,cO hk,ajg,aa,agR,agS,agT,asInt,Iq _ _ ag fs hf,dq,ajj,ajs,Nat.reduceAdd,ajf,ajh,pI,bh,al (show k<9223372036854775807 by omega),uf,BY];unfold Q6;rw[cO hk];simp only;generalize l[k]=x;have pR:(!OU x.stop stops)=(decide (x.stop<0)||decide (x.stop≥stops)):=by unfold OU;grind
   rw[pR];cases hp:BN x.a x.b ag.length with
   |true=>rfl
   |false=>
    simp only[ajC,aj3,akr,cQ,S3,ajx,aji];cases(decide (x.stop<0)||decide (x.stop≥stops))with
    |true=>rfl
    |false=>
     cases hr:yW fs x.a x.b with
     |true=>rfl
     |false=>
      obtain⟨i,j,hi,hj,Tp,zK⟩:=Q4 x.a x.b ag hp;have xi:fM (ag.map bL.pv) x.a=some ag[i].pv:=by rw[hi,aN,IN,cO Tp];rfl
      have xj:fM (ag.map bL.pv) x.b=some ag[j].pv:=by rw[hj,aN,IN,cO zK];rfl
      have ti:ag[x.a.toNat]?=some ag[i]:=by simp_all
      have tj:ag[x.b.toNat]?=some ag[j]:=by simp_all
      have hci:=S2 _ (ajm Tp);have hcj:=S2 _ (ajm zK);have hmt:=OV ag[i].calls ag[j].calls (by omega) (by omega) x.stop;obtain⟨n1,n2,hmp⟩:=Tj ag[i].calls ag[j].calls x.stop;have kA:b9 x.pv (.bool false) (seen iP.pv (l.take k))=.bool (decide (x∈l.take k)):=eh Mv x _;have mr:df x.pv (.bool true) (seen iP.pv (l.take k))=seen iP.pv (l.take k++[x]):=fi Mv x _;simp only[cQ,S3,ajx,aji,xi,xj,ti,tj,aa,Dr,aw,asInt,asBool,IS,hmt,hmp,dq,ajj,ajs,Nat.reduceAdd,ajf,ajh,Yf,agU,kA,mr];cases JO ag[i].calls ag[j].calls x.stop with
      |false=>rfl
      |true=>
       by_cases bX:x∈l.take k
       ·simp only[bX,ajx,IS,aji,cQ,ajI,S3];rfl
       ·simp only[bX,ajz,aji,cQ,ajI,S3];rfl
  ·simp only[fW,AT,ajG,S3];rfl
  grind [rounds,decide]
def BI(T:ak):Nat→Int×Int
 |0=>kU T.stops
 |1=>kv T.ar
 |2=>Gk T.eM
 |3=>Gl T.kQ T.eM.length
 |4=>vM T.ag T.stops.length T.ar.length T.eM.length
 |5=>vN T.cj T.ag
 |6=>Gn T.sN T.ag T.cj
 |7=>BO T.lB T.ag T.cj T.stops.length
 |8=>BM T.paths T.stops.length
 |_=>kV T.ba T.bY T.within T.cap
def vr(p i e:Int):PV:=.aP [.int .i64 p,.int .i64 i,.int .i64 e]
def s8(T:ak)(p:Nat):Option (Option PV):=if(BI T p).2=0 then none else some (some (vr p (BI T p).1 (BI T p).2))
theorem ttA(T:ak):asAgg 13 T.pv=some ():=rfl
theorem tt0(T:ak):cell T.pv 0=.rs 4 (T.stops.map Stop.pv):=rfl
theorem tt1(T:ak):cell T.pv 1=.rs 3 (T.ar.map aT.pv):=rfl
theorem tt2(T:ak):cell T.pv 2=.rs 10 (T.eM.map pL.pv):=rfl
theorem tt3(T:ak):cell T.pv 3=.rs 3 (T.kQ.map sG.pv):=rfl
theorem tt4(T:ak):cell T.pv 4=.rs 5 (T.ag.map bL.pv):=rfl
theorem tt5(T:ak):cell T.pv 5=.rs 4 (T.cj.map bf.pv):=rfl
theorem tt6(T:ak):cell T.pv 6=.rs 2 (T.sN.map kS.pv):=rfl
theorem tt7(T:ak):cell T.pv 7=.rs 3 (T.lB.map iP.pv):=rfl
theorem tt8(T:ak):cell T.pv 8=.rs 4 (T.paths.map Path.pv):=rfl
theorem tt9(T:ak):cell T.pv 9=.rs 6 (T.ba.map aV.pv):=rfl
theorem U3(T:ak):cell T.pv 10=.int .i64 T.bY:=rfl
theorem U4(T:ak):cell T.pv 11=.int .i64 T.within:=rfl
theorem U5(T:ak):cell T.pv 12=.int .i64 T.cap:=rfl
theorem ttF(l:List aV)(a b c:Int):PV.agg [.rs 6 (l.map aV.pv),.int .i64 a,.int .i64 b,.int .i64 c]=fx l a b c:=rfl
theorem ttE(T:ak):PV.agg [.rs 4 (T.stops.map Stop.pv),.rs 3 (T.ar.map aT.pv),.rs 10 (T.eM.map pL.pv),.rs 3 (T.kQ.map sG.pv),.rs 5 (T.ag.map bL.pv),.rs 4 (T.cj.map bf.pv),.rs 2 (T.sN.map kS.pv),.rs 3 (T.lB.map iP.pv),.rs 4 (T.paths.map Path.pv),.rs 6 (T.ba.map aV.pv),.int .i64 T.bY,.int .i64 T.within,.int .i64 T.cap]=T.pv:=rfl
def Small(T:ak):Prop:=∀y∈T.ag,y.calls.length≤40
theorem NL(T:ak)(hT:T.Ok)(hs:Small T):gv [T.pv]=ca ((List.range 10).findSome? (s8 T)) (some (vr 0 0 0)):=by
 have h0:=HY T.stops hT.stops;have h1:=FV T.ar hT.ar;have h2:=X4 T.eM hT.eM;have h3:=X6 T.kQ T.eM.length hT.kQ;have h4:=Tc T.ag T.stops.length T.ar.length T.eM.length hT.ag;have h5:=Ti T.cj T.ag hT.ag hs hT.cj.1;have h6:=Yc T.sN T.ag T.cj hT.ag hT.cj.1;have h7:=Tk T.lB T.ag T.cj T.stops.length hT.ag hs hT.cj.1;have h8:=Td T.paths T.stops.length hT.paths.1;have h9:=vB T.ba T.bY T.within T.cap hT.ba;simp only[res]at h0 h1 h2 h3 h4 h5 h6 h7 h8 h9;have w1:IntKind.i64.wrap (0+1)=1:=by rfl
 have w2:IntKind.i64.wrap (1+1)=2:=by rfl
 have w3:IntKind.i64.wrap (2+1)=3:=by rfl
 have w4:IntKind.i64.wrap (3+1)=4:=by rfl
 have w5:IntKind.i64.wrap (4+1)=5:=by rfl
 have w6:IntKind.i64.wrap (5+1)=6:=by rfl
 have w7:IntKind.i64.wrap (6+1)=7:=by rfl
 have w8:IntKind.i64.wrap (7+1)=8:=by rfl
 have w9:IntKind.i64.wrap (8+1)=9:=by rfl
 simp only[gv,qq,gX,nv,gY,nE,gZ,ny,hU,nF,hZ,nA,ic,nC,ig,nD,ij,nG,il,nB,gA,mz,ttA,tt0,tt1,tt2,tt3,tt4,tt5,tt6,tt7,tt8,tt9,U3,U4,U5,aw,asInt,IS,aa,BY,ttF,h0,h1,h2,h3,h4,h5,h6,h7,h8,h9,dq,ajj,ajs,Nat.reduceAdd,ajf,ajh,w1,w2,w3,w4,w5,w6,w7,w8,w9,pI];have hr:List.range 10=[0,1,2,3,4,5,6,7,8,9]:=by rfl
 rw[hr];simp only[ajY,alz,s8,BI,vr];generalize kU T.stops=r0;generalize kv T.ar=r1;generalize Gk T.eM=r2;generalize Gl T.kQ T.eM.length=r3;generalize vM T.ag T.stops.length T.ar.length T.eM.length=r4;generalize vN T.cj T.ag=r5;generalize Gn T.sN T.ag T.cj=r6;generalize BO T.lB T.ag T.cj T.stops.length=r7;generalize BM T.paths T.stops.length=r8;generalize kV T.ba T.bY T.within T.cap=r9;by_cases e0:r0.2=0;rotate_left
 ·simp[e0,ca]
 by_cases e1:r1.2=0;rotate_left
 ·simp[e0,e1,ca]
 by_cases e2:r2.2=0;rotate_left
 ·simp[e0,e1,e2,ca]
 by_cases e3:r3.2=0;rotate_left
 ·simp[e0,e1,e2,e3,ca]
 by_cases e4:r4.2=0;rotate_left
 ·simp[e0,e1,e2,e3,e4,ca]
 by_cases e5:r5.2=0;rotate_left
 ·simp[e0,e1,e2,e3,e4,e5,ca]
 by_cases e6:r6.2=0;rotate_left
 ·simp_all[ca]
 by_cases e7:r7.2=0;rotate_left
 ·simp_all[ca]
 by_cases e8:r8.2=0;rotate_left
 ·simp_all[ca]
 by_cases e9:r9.2=0;rotate_left
 ·simp_all[ca]
 simp_all[ca]
end Go.Ab.Tt
