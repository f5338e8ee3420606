import Derived.Test.YtmbihgjlollbeaaGreatFbP3
import Derived.Test.YtmbihgjlollbeaaGreatSh6
namespace Go.Ab.Tt
set_option maxRecDepth 100000
set_option linter.all false
def dv(n:Int):Bool:=decide (0≤n)&&decide (n≤36524)
theorem R7(n:Int):eD [.int .i64 n]=some (.bool (dv n)):=by simp only[eD,wg,asInt,Ko,U,bF];rfl
def Y7(l:List qd)(k:Nat):Int:=match l[k]? with
 |none=>0
 |some x=>if lR x.id=false then 12 else if x.id∈(l.map qd.id).take k then 6 else if(!dv x.GI|| !dv x.GJ||decide (x.GI>x.GJ))=true then 11 else 0
def GR(l:List qd):Int×Int:=if l.length>64 then(0,5)else cX (Y7 l) l.length
theorem ajD(x:qd):cell x.pv 0=.str x.id:=rfl
theorem aex(x:qd):cell x.pv 8=.int .i64 x.GI:=rfl
theorem aey(x:qd):cell x.pv 9=.int .i64 x.GJ:=rfl
theorem Y8(l:List qd)(hl:l.length≤maxLen∧∀y∈l,y.Ok):lz [.rs 10 (l.map qd.pv)]=some (res (GR l).1 (GR l).2):=by
 have hm:=aT;simp only[lz,s9,aw,Ko,U,BY];unfold GR;by_cases vP:l.length>64
 ·rw[AI (by simp;omega),AI vP];rfl
 ·rw[IS (by simp;omega),IS vP,←kH];refine br (fun k=>(l.map qd.pv,(l.length:Int),(k:Int),seen PV.str ((l.map qd.id).take k),())) l.length _ (fun k hk rec=>?_) (fun rec=>?_) ?_ rfl
  ·have h1:(k:Int)<(l.length:Int):=by omega
   have hid:=vf l[k].id (hl.2 _ (aki hk)).id;have mJ:=fp k8 l[k].id ((l.map qd.id).take k);have kJ:=ep k8 l[k].id ((l.map qd.id).take k);simp only[oD,AT,h1,Ko,aM,IT,cN hk,akb,U,ajD,aex,aey,bu,asInt,asBool,hid,mJ,kJ,R7,aj (show k<9223372036854775807 by omega),jE qd.id l k hk];unfold Y7;rw[cN hk];simp only;cases lR l[k].id with
   |false=>rfl
   |true=>
    by_cases bW:l[k].id∈(l.map qd.id).take k
    ·simp only[bW,Ko,akf,cQ,akD,abp];rfl
    ·simp only[bW,Ko,akf,cQ,akD,abp];by_cases hgt:l[k].GI>l[k].GJ
     ·simp only[hgt,akv,amS,Ko];cases dv l[k].GI<;>cases dv l[k].GJ<;>rfl
     ·simp only[hgt,akw,alJ,abp];cases dv l[k].GI<;>cases dv l[k].GJ<;>rfl
  ·simp only[oD,AT,akB,abp];rfl
  ·have:=bw;omega
def qK(x:tg):Int×Int:=(x.xX,x.day)
def Y9(l:List tg)(n:Int)(k:Nat):Int:=match l[k]? with
 |none=>0
 |some x=>if(decide (x.xX<0)||decide (x.xX≥n))=true then 9 else if dv x.day=false then 11 else if qK x∈(l.map qK).take k then 6 else 0
def GS(l:List tg)(n:Int):Int×Int:=if l.length>256 then(0,5)else cX (Y9 l n) l.length
def CU(x:Int×Int):PV:=.agg [.int .i64 x.1,.int .i64 x.2]
theorem MZ(a b:Int×Int):cu (CU a).cells (CU b).cells=decide (a=b):=by obtain⟨a1,a2⟩:=a;obtain⟨b1,b2⟩:=b;rw[ak9];simp[CU,PV.cells,cu,peq]
theorem ahu(x:tg):cell x.pv 0=.int .i64 x.xX:=rfl
theorem ahv(x:tg):cell x.pv 1=.int .i64 x.day:=rfl
theorem Za(l:List tg)(n:Int)(hl:l.length≤maxLen∧∀y∈l,y.Ok):dR [.rs 3 (l.map tg.pv),.int .i64 n]=some (res (GS l n).1 (GS l n).2):=by
 have hm:=aT;simp only[dR,gR,aw,asInt,Ko,U,BY];unfold GS;by_cases vP:l.length>256
 ·rw[AI (by simp;omega),AI vP];rfl
 ·rw[IS (by simp;omega),IS vP,←kH];refine br (fun k=>(n,l.map tg.pv,(l.length:Int),(k:Int),seen CU ((l.map qK).take k),())) l.length _ (fun k hk rec=>?_) (fun rec=>?_) ?_ rfl
  ·have h1:(k:Int)<(l.length:Int):=by omega
   have mJ:dh (.agg [.int .i64 l[k].xX,.int .i64 l[k].day]) (.bool true) (seen CU ((l.map qK).take k))=_:=fp MZ (qK l[k]) ((l.map qK).take k);have kJ:b9 (.agg [.int .i64 l[k].xX,.int .i64 l[k].day]) (.bool false) (seen CU ((l.map qK).take k))=_:=ep MZ (qK l[k]) ((l.map qK).take k);simp only[fH,AT,h1,Ko,aM,IT,cN hk,akb,U,ahu,ahv,asInt,asBool,mJ,kJ,R7,bf,aj (show k<9223372036854775807 by omega),jE qK l k hk];unfold Y9;rw[cN hk];simp only;generalize (decide (l[k].xX<0)||decide (l[k].xX≥n))=c;by_cases bW:qK l[k]∈(l.map qK).take k
   ·simp only[bW,Ko];cases c<;>cases dv l[k].day<;>rfl
   ·simp only[bW,abp];cases c<;>cases dv l[k].day<;>rfl
  ·simp only[fH,AT,akB,abp];rfl
  ·have:=bw;omega
theorem GM(x:bK):cell x.pv 0=.str x.id:=rfl
theorem GN(x:bK):cell x.pv 1=.int .i64 x.fo:=rfl
theorem GO(x:bK):cell x.pv 2=.int .i64 x.xX:=rfl
theorem DJ(x:bK):cell x.pv 4=.rs 5 (x.calls.map aQ.pv):=rfl
def Kn(l:List bK)(stops au eR:Int)(k:Nat):Int:=match l[k]? with
 |none=>0
 |some x=>if lR x.id=false then 12 else if x.id∈(l.map bK.id).take k then 6 else if(decide (x.fo<0)||decide (x.fo≥au)||decide (x.xX<0)||decide (x.xX≥eR))=true then 9 else(j3 x.calls stops 0 172800).2
def wo(l:List bK)(stops au eR:Int):Int×Int:=if l.length>256 then(0,5)else cX (Kn l stops au eR) l.length
theorem Ui(l:List bK)(stops au eR:Int)(hl:l.length≤maxLen∧∀y∈l,y.Ok):rC [.rs 5 (l.map bK.pv),.int .i64 stops,.int .i64 au,.int .i64 eR]=some (res (wo l stops au eR).1 (wo l stops au eR).2):=by
 have hm:=aT;simp only[rC,AR,aw,asInt,Ko,U,BY];unfold wo;by_cases vP:l.length>256
 ·rw[AI (by simp;omega),AI vP];rfl
 ·rw[IS (by simp;omega),IS vP,←kH];refine br (fun k=>(stops,au,eR,l.map bK.pv,(l.length:Int),(k:Int),seen PV.str ((l.map bK.id).take k),())) l.length _ (fun k hk rec=>?_) (fun rec=>?_) ?_ rfl
  ·have h1:(k:Int)<(l.length:Int):=by omega
   have hid:=vf l[k].id (hl.2 _ (aki hk)).id;have mJ:=fp k8 l[k].id ((l.map bK.id).take k);have kJ:=ep k8 l[k].id ((l.map bK.id).take k);have zT:=Ix l[k].calls stops 0 172800 (hl.2 _ (aki hk)).calls.1;simp only[res]at zT;simp only[uC,AT,h1,Ko,aM,IT,cN hk,akb,U,GM,GN,GO,DJ,bu,asInt,asBool,aw,hid,mJ,kJ,zT,dn,akd,akm,Nat.reduceAdd,ajc,aka,bf,aj (show k<9223372036854775807 by omega),jE bK.id l k hk,pW];unfold Kn;rw[cN hk];simp only;generalize (j3 l[k].calls stops 0 172800).2=e;cases lR l[k].id with
   |false=>rfl
   |true=>
    by_cases bW:l[k].id∈(l.map bK.id).take k
    ·simp only[bW,Ko,akf,cQ,akD,abp];rfl
    ·simp only[bW,Ko,akf,cQ,akD,abp];cases decide (l[k].fo<0)<;>cases decide (l[k].fo≥au)<;>cases decide (l[k].xX<0)<;>cases decide (l[k].xX≥eR)<;>(try rfl);grind [Gw,ca,res]
  ·simp only[uC,AT,akB,abp];rfl
  ·have:=bw;omega
def B3(l:List Path)(n:Int):Int×Int:=if l.length>512 then(0,5)else cX (gC l n) l.length
theorem Uj(l:List Path)(n:Int)(hl:l.length≤maxLen):lE [.rs 4 (l.map Path.pv),.int .i64 n]=some (res (B3 l n).1 (B3 l n).2):=by
 have h:=Gx l n hl;simp only[res]at h;simp only[lE,tc,aw,asInt,Ko,U,BY,h,dn,akd,akm,Nat.reduceAdd,ajc,aka,AT];unfold B3;by_cases vP:l.length>512
 ·rw[AI (by omega),AI vP];rfl
 ·rw[IS (by omega),IS vP];rfl
def AU(t first start:Int):Bool:=decide (0≤t-first+start)&&decide (t-first+start≤172800)
theorem PK(n:Int):((BitVec.ofInt 64 n&&&BitVec.ofInt 64 4294967295).toNat:Int)=n%4294967296:=by
 have h:(BitVec.ofInt 64 4294967295).toNat=2^32-1:=by rfl
 rw[BitVec.toNat_and,h,Nat.and_two_pow_sub_one_eq_mod,amu];omega
theorem Zb(n:Int):((BitVec.ofInt IntKind.i64.bits n&&&BitVec.ofInt IntKind.i64.bits 4294967295).toNat:Int)=n%4294967296:=PK n
theorem Uk(n:Int):dX [.int .i64 n]=some (.bool (decide (n< -2305843009213693952)||decide (n>2305843009213693952))):=by simp[dX,ov,asInt,Ko,U,bf]
theorem zh(a:Int):eP a↔-9223372036854775808≤a∧a≤9223372036854775807:=by
 have h1:IntKind.i64.min= -9223372036854775808:=by rfl
 have h2:IntKind.i64.max=9223372036854775807:=by rfl
 unfold eP Lit.wf;simp[h1,h2]
theorem two32:((2:Int)^min (Int.toNat 32) IntKind.i64.bits)=4294967296:=by rfl
theorem ajE(a:Int):a.fdiv 4294967296=a/4294967296:=amq _ (by omega)
theorem abE(a b c:Int)(ha:eP a)(hb:eP b)(hc:eP c):∃n,ly [.int .i64 a,.int .i64 b,.int .i64 c]=some (.aO [.int .i64 n,.bool (AU a b c)])∧(AU a b c=true→n=a-b+c):=by
 obtain⟨ha1,ha2⟩:=(zh _).1 ha;obtain⟨U4,uQ⟩:=(zh _).1 hb;obtain⟨hc1,Us⟩:=(zh _).1 hc;simp only[ly,s8,asInt,Ko,U,two32,ajE,Zb];have w0:∀x:Int,IntKind.i64.wrap (x%4294967296)=x%4294967296:=fun x=>aY (by omega) (by omega);have w1:IntKind.i64.wrap (a/4294967296-b/4294967296)=a/4294967296-b/4294967296:=aY (by omega) (by omega);have w2:IntKind.i64.wrap (a/4294967296-b/4294967296+c/4294967296)=a/4294967296-b/4294967296+c/4294967296:=aY (by omega) (by omega);have w3:IntKind.i64.wrap (a%4294967296-b%4294967296)=a%4294967296-b%4294967296:=aY (by omega) (by omega);have w4:IntKind.i64.wrap (a%4294967296-b%4294967296+c%4294967296)=a%4294967296-b%4294967296+c%4294967296:=aY (by omega) (by omega);have w5:IntKind.i64.wrap (a/4294967296-b/4294967296+c/4294967296+(a%4294967296-b%4294967296+c%4294967296)/4294967296)=a/4294967296-b/4294967296+c/4294967296+(a%4294967296-b%4294967296+c%4294967296)/4294967296:=aY (by omega) (by omega);simp only[w0,w1,w2,w3,w4,w5];generalize hH:a/4294967296-b/4294967296+c/4294967296+(a%4294967296-b%4294967296+c%4294967296)/4294967296=H;generalize hL:(a%4294967296-b%4294967296+c%4294967296)%4294967296=Lo;have hs:a-b+c=H*4294967296+Lo:=by omega
 have hLo:0≤Lo∧Lo<4294967296:=by omega
 unfold AU;by_cases h0:H=0
 ·have e0:(BitVec.ofInt 64 (IntKind.i64.wrap (H*4294967296))|||BitVec.ofInt 64 Lo).toNat=Lo.toNat:=by grind
  have e1:IntKind.i64.wrap ((BitVec.ofInt IntKind.i64.bits (IntKind.i64.wrap (H*4294967296))|||BitVec.ofInt IntKind.i64.bits Lo).toNat:Int)=Lo:=by have e2:(BitVec.ofInt IntKind.i64.bits (IntKind.i64.wrap (H*4294967296))|||BitVec.ofInt IntKind.i64.bits Lo).toNat=Lo.toNat:=e0;rw[e2];rw[aY (by omega) (by omega)];omega
  simp_all
 ·have hb:(H==0)=false:=by simp[h0]
  simp only[hb,cond_false,U];have h1:(decide (0≤a-b+c)&&decide (a-b+c≤172800))=false:=by grind
  rw[h1];simp
theorem B0(a b c:Int)(ha:eP a)(hb:eP b)(hc:eP c):∃n,gJ [.int .i64 a,.int .i64 b,.int .i64 c]=some (.aO [.int .i64 n,.bool (AU a b c)])∧(AU a b c=true→n=a-b+c):=by
 obtain⟨n,hn,hnn⟩:=abE a b c ha hb hc;simp only[gJ,qB,asInt,Ko,U,Uk,asBool,bf,hn,dn,akd,akm,Nat.reduceAdd,ajc,aka,bF];split
 ·exact⟨n,rfl,hnn⟩
 ·rename_i h;simp only[akp,AT,ana]at h;have w1:IntKind.i64.wrap (a-b)=a-b:=aY (by omega) (by omega);have w2:IntKind.i64.wrap (a-b+c)=a-b+c:=aY (by omega) (by omega);simp only[w1,w2];exact⟨_,rfl,fun _=>rfl⟩
theorem Ho{S R:Type}{body:S→(S→Option R)→Option R}(st:Nat→S)(n:Nat)(bad:Nat→Option (Option R)){fin:Option R}(h:∀k,k<n→(∀j,j<k→bad j=none)→∀rec,body (st k) rec=ca (bad k) (rec (st (k+1))))(rZ:(∀j,j<n→bad j=none)→∀rec,body (st n) rec=fin)(hn:n<rounds){s0:S}(h0:st 0=s0):bk.run body s0=ca ((List.range n).findSome? bad) fin:=by
 have key:∀(m j N:Nat),j+m=n→m<N→(∀i,i<j→bad i=none)→cg body N (st j)=ca ((List.range' j m).findSome? bad) fin:=by
  intro m;induction m with
  |zero=>
   intro j N hj hN hq;cases N with
   |zero=>omega
   |succ N=>
    have:j=n:=by omega
    subst this;simp only[cg,List.range'_zero,amx];exact rZ hq _
  |succ m ih=>
   intro j N hj hN hq;cases N with
   |zero=>omega
   |succ N=>
    simp only[cg,al0,akU];rw[h j (by omega) hq];cases hb:bad j with
    |some r=>rfl
    |none=>refine ih (j+1) N (by omega) (by omega) fun i hi=>?_;grind
 grind [mb,rounds,List.range_eq_range']
theorem YV(x:aQ):cell x.pv 3=.bool x.dY:=rfl
theorem YW(x:aQ):cell x.pv 4=.bool x.bQ:=rfl
theorem IM(x:bK):cell x.pv 3=.bool x.free:=rfl
theorem R3(x:bK):asAgg 5 x.pv=some ():=rfl
theorem MS(cs:List PV)(k:Nat):cell (.agg cs) k=cs.getD k .bad:=rfl
def Nj(x:aQ)(first start:Int):aQ:={x with arr:=x.arr-first+start,dep:=x.dep-first+start}
def kOk(x:aQ)(first start:Int):Bool:=AU x.arr first start&&AU x.dep first start
def oA(l:List aQ)(first start:Int)(k:Nat):Bool:=match l[k]? with|some x=>kOk x first start|none=>true
def qI(l:List aQ)(start:Int):Int:=match l with
 |[]=>16
 |c::_=>if(List.range l.length).all (oA l c.dep start)=true then 0 else 10
theorem yL{B:Type}(p:Nat→Bool)(r:B):∀l:List Nat,l.findSome? (fun k=>if p k=true then none else some r)=if l.all p=true then none else some r:=by
 intro l;induction l with
 |nil=>rfl
 |cons a l ih=>grind
def BZ(l:List aQ)(f:aQ→aQ)(k:Nat):List PV:=((l.take k).map fun x=>(f x).pv)++(l.drop k).map aQ.pv
theorem MP(l:List aQ)(f:aQ→aQ)(k:Nat)(h:k≤l.length):(BZ l f k).length=l.length:=by simp[BZ];omega
theorem MQ(l:List aQ)(f:aQ→aQ)(k:Nat)(h:k<l.length):(BZ l f k)[k]?=some l[k].pv:=by grind [BZ,List.getElem?_append_right,Nat.min_eq_left,Nat.le_of_lt]
theorem MR(l:List aQ)(f:aQ→aQ)(k:Nat)(h:k<l.length):(BZ l f k).set k (f l[k]).pv=BZ l f (k+1):=by unfold BZ;rw[List.set_append_right _ _ (by simp;omega)];have h1:l.drop k=l[k]::l.drop (k+1):=(ak0 h);have h2:l.take (k+1)=l.take k++[l[k]]:=(alE h).symm;rw[h1,h2];simp only[BY,akI,ald (Nat.le_of_lt h),amt,akn,List.set_cons_zero,akZ,am8,akh,List.singleton_append]
theorem kL(k n:Nat)(h:k<n):an (k:Int) n:=by unfold an;omega
theorem IU(x:bK)(hx:x.Ok)(start:Int)(hs:eP start)(T9:x.calls.length≤40):∃es,df [x.pv,.int .i64 start]=some (.aO [.rs 5 es,.int .i64 (qI x.calls start)]):=by
 have hm:=aT;have BX:∀y∈x.calls,y.Ok:=hx.calls.2;simp only[df,mA,R3,GM,GN,GO,IM,DJ,bu,aw,asInt,asBool,Ko,U,BY];generalize x.calls=l at T9 BX⊢;cases l with
 |nil=>exact⟨[],rfl⟩
 |cons c l=>
  generalize hl:c::l=cs at T9 BX⊢;have K7:cs[0]?=some c:=by rw[←hl];rfl
  have fl:0<cs.length:=by rw[←hl];simp
  have hcE:qI cs start=if(List.range cs.length).all (oA cs c.dep start)=true then 0 else 10:=by rw[←hl];rfl
  have YT:c.Ok:=BX c (by rw[←hl];simp);have cK:((cs.length:Int)==0)=false:=by grind
  have hix:fj (cs.map aQ.pv) 0=some c.pv:=by have:=aM (cs.map aQ.pv) 0;simp_all
  have fm:0≤(cs.length:Int)∧(cs.length:Int)≤(cs.length:Int)∧(cs.length:Int).toNat*32≤ae∧0<32∧0<5:=by grind [decide,ae]
  rw[cK,hix];simp only[cQ,abp,U,DA,asInt,Ko,AI fm,akW,akc,akE (anc (BY _)),BY];rw[amO (by simp),akP,BY];have PB:0≤(cs.length:Int)∧(cs.length:Int)≤(cs.length:Int)∧cs.length*32≤ae∧0<32∧0<5:=fm;have YU:bk.run dx (start,c.dep,(cs.length:Int),0,cs.map aQ.pv,())=ca ((List.range cs.length).findSome? fun k=>if oA cs c.dep start k=true then none else some (some (.aO [.rs 5 [],.int .i64 10]))) (some (.aO [.rs 5 (BZ cs (fun x=>Nj x c.dep start) cs.length),.int .i64 0])):=by
   refine br (fun k=>(start,c.dep,(cs.length:Int),(k:Int),BZ cs (fun x=>Nj x c.dep start) k,())) cs.length _ (fun k hk rec=>?_) (fun rec=>?_) ?_ ?_
   ·have h1:(k:Int)<(cs.length:Int):=by omega
    have AV:cs[k].Ok:=BX _ (aki hk);obtain⟨n1,e1,q1⟩:=B0 cs[k].arr c.dep start AV.arr YT.dep hs;obtain⟨n2,e2,q2⟩:=B0 cs[k].dep c.dep start AV.dep YT.dep hs;have hlen:=MP cs (fun x=>Nj x c.dep start) k (by omega);have fe:=MQ cs (fun x=>Nj x c.dep start) k hk;have qY:=MR cs (fun x=>Nj x c.dep start) k hk;have hr:an (k:Int) cs.length:=kL k _ hk;have ajb:oA cs c.dep start k=(AU cs[k].arr c.dep start&&AU cs[k].dep c.dep start):=by unfold oA;rw[cN hk];rfl
    have Jl:∀X,((BZ cs (fun x=>Nj x c.dep start) k).set k X)[k]?=some X:=fun X=>by simp_all
    simp only[dx,AT,h1,Ko,hlen,AI hr,akc,fe,U,Gu,Mh,DA,YV,YW,asInt,e1,e2,dn,asBool,akd,akm,Nat.reduceAdd,ajc,aka,alS,Jl,MS,over,amX,aj (show k<9223372036854775807 by omega)];grind [AU,start,ca,Nj,aQ.pv]
   ·simp[dx,AT,akB,abp]
   ·grind [rounds,decide]
   rfl
  rw[AI PB,YU,yL,hcE];by_cases zu:(List.range cs.length).all (oA cs c.dep start)=true
  ·rw[AI zu,AI zu];exact⟨_,rfl⟩
  ·rw[IS zu,IS zu];exact⟨_,rfl⟩
theorem Aa(x:bg):cell x.pv 0=.int .i64 x.bO:=rfl
theorem BU(x:bg):cell x.pv 1=.int .i64 x.t0:=rfl
theorem BV(x:bg):cell x.pv 2=.int .i64 x.t1:=rfl
theorem BW(x:bg):cell x.pv 3=.int .i64 x.every:=rfl
theorem IV(x:bg):asAgg 4 x.pv=some ():=rfl
theorem MO(x:bg):PV.agg [.int .i64 x.bO,.int .i64 x.t0,.int .i64 x.t1,.int .i64 x.every]=x.pv:=rfl
theorem Zc(x:bK):PV.agg [.str x.id,.int .i64 x.fo,.int .i64 x.xX,.bool x.free,.rs 5 (x.calls.map aQ.pv)]=x.pv:=rfl
def eI(x:bg):Bool:=decide (x.t0≥0)&&decide (x.t0<x.t1)&&decide (x.t1≤172800)&&decide (x.every≥1)&&decide (x.every≤86400)
theorem iR(x:bg):eI x=true↔0≤x.t0∧x.t0<x.t1∧x.t1≤172800∧1≤x.every∧x.every≤86400:=by simp[eI,and_assoc]
theorem DH(x:bg):gK [x.pv]=some (.bool (eI x)):=by simp only[gK,qC,IV,Aa,BU,BV,BW,asInt,Ko,U,bF];rfl
theorem OD(x:bg):pK [x.pv]=some (.bool (eI x)):=by
 simp only[pK,yI,IV,Aa,BU,BV,BW,asInt,Ko,U,bF];have:∀a b:Bool,a=b→some (PV.bool a)=some (PV.bool b):=fun a b h=>by rw[h]
 apply this;rw[ak9,iR];grind
def fO(x:bg):Int:=(x.t1-x.t0-1)/x.every+1
theorem uB(x:bg)(h:eI x=true):1≤fO x∧fO x≤172800:=by obtain⟨h1,h2,h3,h4,h5⟩:=(iR x).1 h;unfold fO;have a:=amT (show 0≤x.t1-x.t0-1 by omega) (show 0≤x.every by omega);have b:=Int.ediv_le_self (b:=x.every) (show 0≤x.t1-x.t0-1 by omega);omega
theorem GU(x:bg)(h:eI x=true):eZ [x.pv]=some (.int .i64 (fO x)):=by
 have hc:=uB x h;obtain⟨h1,h2,h3,h4,h5⟩:=(iR x).1 h;have w1:IntKind.i64.wrap (x.t1-x.t0)=x.t1-x.t0:=aY (by omega) (by omega);have w2:IntKind.i64.wrap (x.t1-x.t0+x.every)=x.t1-x.t0+x.every:=aY (by omega) (by omega);have w3:IntKind.i64.wrap (x.t1-x.t0+x.every-1)=x.t1-x.t0+x.every-1:=aY (by omega) (by omega);have e:(x.t1-x.t0+x.every-1).tdiv x.every=fO x:=by
  rw[alU (by omega)];unfold fO;have:x.t1-x.t0+x.every-1=(x.t1-x.t0-1)+1*x.every:=by omega
  rw[this,Int.add_mul_ediv_right _ _ (by omega)]
 simp only[eZ,qD,IV,Aa,BU,BV,BW,asInt,Ko,U,w1,w2,w3,e,IS (show¬x.every=0 by omega)];rw[aY (by omega) (by omega)]
theorem aaI(x:bg)(h:eI x=true):pL [x.pv]=some (.int .i64 (fO x)):=by
 have hc:=uB x h;obtain⟨h1,h2,h3,h4,h5⟩:=(iR x).1 h;have w1:IntKind.i64.wrap (x.t1-x.t0)=x.t1-x.t0:=aY (by omega) (by omega);have w2:IntKind.i64.wrap (x.t1-x.t0-1)=x.t1-x.t0-1:=aY (by omega) (by omega);have e:(x.t1-x.t0-1).tdiv x.every=fO x-1:=by grind [Int.tdiv_eq_ediv_of_nonneg,fO]
 simp only[pL,yJ,IV,Aa,BU,BV,BW,asInt,Ko,U,w1,w2,e,IS (show¬x.every=0 by omega)];rw[aY (x:=fO x-1) (by omega) (by omega),aY (by omega) (by omega)];simp
def Ac(x:bg):Int:=x.t0+(fO x-1)*x.every
theorem Kk(x:bg)(h:eI x=true):0≤(fO x-1)*x.every∧(fO x-1)*x.every≤x.t1-x.t0-1∧x.t1-x.t0≤fO x*x.every:=by
 obtain⟨h1,h2,h3,h4,h5⟩:=(iR x).1 h;have e:fO x-1=(x.t1-x.t0-1)/x.every:=by unfold fO;omega
 have e2:fO x*x.every=(fO x-1)*x.every+x.every:=by rw[Int.sub_mul];omega
 rw[e2,e];have a:=Int.mul_ediv_add_emod (x.t1-x.t0-1) x.every;have b:=Int.emod_lt_of_pos (x.t1-x.t0-1) (show 0<x.every by omega);have c:=Int.emod_nonneg (x.t1-x.t0-1) (show x.every≠0 by omega);have d:=amz (amT (show 0≤x.t1-x.t0-1 by omega) (show 0≤x.every by omega)) (show 0≤x.every by omega);grind
theorem Ul(x:bg)(h:eI x=true):lA [x.pv]=some (.int .i64 (Ac x)):=by have hc:=uB x h;have Uy:=Kk x h;obtain⟨h1,h2,h3,h4,h5⟩:=(iR x).1 h;have w1:IntKind.i64.wrap (fO x-1)=fO x-1:=aY (by omega) (by omega);have w2:IntKind.i64.wrap ((fO x-1)*x.every)=(fO x-1)*x.every:=aY (by omega) (by omega);have w3:IntKind.i64.wrap (x.t0+(fO x-1)*x.every)=Ac x:=aY (by omega) (by omega);simp only[lA,ta,IV,Aa,BU,BV,BW,asInt,Ko,U,MO,GU x h,w1,w2,w3]
def GQ(x:bK)(f:bg):Bool:=decide (qI x.calls f.t0≠10)&&decide (qI x.calls (Ac f)≠10)
theorem wu(c:aQ)(l:List aQ)(s:Int):qI (c::l) s=0∨qI (c::l) s=10:=by show(if(List.range (c::l).length).all (oA (c::l) c.dep s)=true then(0:Int)else 10)=0∨(if(List.range (c::l).length).all (oA (c::l) c.dep s)=true then(0:Int)else 10)=10;omega
theorem abF(x:bg)(h:eI x=true):0≤Ac x∧Ac x≤172800:=by have Uy:=Kk x h;grind [iR,Ac]
theorem Um(x:bK)(hx:x.Ok)(T9:x.calls.length≤40)(f:bg)(hf:eI f=true):lB [x.pv,f.pv]=some (.bool (GQ x f)):=by
 obtain⟨h1,h2,h3,h4,h5⟩:=(iR f).1 hf;have hl:=abF f hf;obtain⟨es1,e1⟩:=IU x hx f.t0 ((zh _).2 (by omega)) T9;obtain⟨es2,e2⟩:=IU x hx (Ac f) ((zh _).2 (by omega)) T9;simp only[lB,tb,R3,GM,GN,GO,IM,DJ,IV,Aa,BU,BV,BW,bu,aw,asInt,asBool,Ko,U,BY,MO,Zc,Ul f hf,e1,e2,dn,akd,akm,Nat.reduceAdd,ajc,aka,bF];unfold GQ;cases NT:x.calls with
 |nil=>rfl
 |cons c l=>
  have cK:(((c::l).length:Int)==0)=false:=by rfl
  rw[cK];simp only[cQ,abp];rcases wu c l f.t0 with h|h<;>rcases wu c l (Ac f)with h'|h'<;>rw[h,h']<;>rfl
def fitsAt(ag:List bK)(f:bg):Bool:=match ag[f.bO.toNat]? with|some x=>GQ x f|none=>true
def D5(l:List bg)(f:bg)(k:Nat):Int:=((l.take k).map fun g=>if g.bO=f.bO then fO g else 0).sum
def R8(f g:bg):Bool:=decide (g.bO=f.bO)&&(decide (g.t0<f.t1)&&decide (f.t0<g.t1))
def anyM(l:List bg)(f:bg)(k:Nat):Bool:=(l.take k).any (R8 f)
def zr(l:List bg)(ag:List bK)(k:Nat):Int:=match l[k]? with
 |none=>0
 |some f=>if(decide (f.bO<0)||decide (f.bO≥(ag.length:Int)))=true then 9 else if(!eI f|| !fitsAt ag f)=true then 10 else if fO f+D5 l f k>256 then 17 else if anyM l f k=true then 8 else 0
def wq(l:List bg)(ag:List bK):Int×Int:=if l.length>64 then(0,5)else cX (zr l ag) l.length
theorem IW(l:List bg)(f:bg)(k:Nat)(h:k<l.length):D5 l f (k+1)=D5 l f k+if l[k].bO=f.bO then fO l[k]else 0:=by unfold D5;have h2:l.take (k+1)=l.take k++[l[k]]:=(alE h).symm;grind
theorem Un(l:List bg)(f:bg)(k:Nat)(h:k<l.length):anyM l f (k+1)=(anyM l f k||R8 f l[k]):=by unfold anyM;have h2:l.take (k+1)=l.take k++[l[k]]:=(alE h).symm;grind
theorem PL(l:List bg)(f:bg):∀k,k≤l.length→(∀j(h:j<l.length),j<k→eI l[j]=true)→0≤D5 l f k∧D5 l f k≤172800*(k:Int):=by
 intro k;induction k with
 |zero=>intro _ _;simp[D5]
 |succ k ih=>intro hk hq;have:=ih (by omega) fun j h hj=>hq j h (by omega);rw[IW l f k (by omega)];have hc:=uB l[k] (hq k (by omega) (by omega));omega
theorem Hq(l:List bg)(ag:List bK)(k:Nat)(h:k<l.length)(he:zr l ag k=0):eI l[k]=true:=by unfold zr at he;grind
theorem Uo(l:List bg)(ag:List bK)(ht:ag.length≤maxLen∧∀y∈ag,y.Ok)(T9:∀y∈ag,y.calls.length≤40)(hl:l.length≤maxLen):ke [.rs 4 (l.map bg.pv),.rs 5 (ag.map bK.pv)]=some (res (wq l ag).1 (wq l ag).2):=by
 have hm:=aT;simp only[ke,qE,aw,Ko,U,BY];unfold wq;by_cases vP:l.length>64
 ·rw[AI (by simp;omega),AI vP];rfl
 ·rw[IS (by simp;omega),IS vP,←kH];refine Ho (fun k=>(l.map bg.pv,ag.map bK.pv,l.map bg.pv,(l.length:Int),(k:Int),())) l.length _ (fun k hk hq rec=>?_) (fun _ rec=>?_) ?_ rfl
  ·have h1:(k:Int)<(l.length:Int):=by omega
   have ahL:∀j(h:j<l.length),j<k→eI l[j]=true:=fun j h hj=>by have hqj:=hq j hj;refine Hq l ag j h ?_;simp_all[Gw,zr,IS]
   simp only[mX,AT,h1,Ko,aM,IT,cN hk,akb,U,Aa,BU,BV,BW,asInt,asBool,MO,BY,bf,DH];unfold zr;rw[cN hk];simp only;generalize hf:l[k]=f;by_cases hr:f.bO<0∨f.bO≥(ag.length:Int)
   ·have:(decide (f.bO<0)||decide (f.bO≥(ag.length:Int)))=true:=by simpa using hr
    rw[this];rfl
   ·have NP:(decide (f.bO<0)||decide (f.bO≥(ag.length:Int)))=false:=by simpa using hr
    simp only[NP,cQ,abp];obtain⟨t,htt⟩:=alK (show 0≤f.bO by omega);have htl:t<ag.length:=by omega
    cases hs:eI f with
    |false=>rfl
    |true=>
     have hfa:fitsAt ag f=GQ ag[t] f:=by simp_all[fitsAt,akc,cN]
     have hfp:=Um ag[t] (ht.2 _ (aki htl)) (T9 _ (aki htl)) f hs;have ajF:fj (ag.map bK.pv) f.bO=some ag[t].pv:=by rw[htt,aM,IT,cN htl];rfl
     simp only[ajF,akf,cond_false,U,GM,GN,GO,IM,DJ,Zc,hfp,asBool,hfa,alj];cases hfb:GQ ag[t] f with
     |false=>rfl
     |true=>
      have hc:(0:Int)≤0∧(0:Int)≤(k:Int)∧(k:Int)≤(l.length:Int)∧True∧4≠0:=⟨by omega,by omega,by omega,trivial,by omega⟩;have hcf:=uB f hs;have bZ:(List.map bg.pv l).take k=(l.take k).map bg.pv:=by simp
      simp only[akf,cQ,abp,GU f hs,U,asInt,Ko,akc,Int.toNat_zero,am2,bZ,BY,akI,ald (Nat.le_of_lt hk)];rw[AI hc];refine ba (fun j=>(l.map bg.pv,ag.map bK.pv,(k:Int),fO f+D5 l f j,anyM l f j,l.map bg.pv,(l.length:Int),(k:Int),(l.take k).map bg.pv,(k:Int),(j:Int),PV.int .i64 f.bO,PV.int .i64 f.t0,PV.int .i64 f.t1,PV.int .i64 f.every,())) k (fun j hj rc=>?_) (fun rc=>?_) ?_ ?_
      ·have hj1:(j:Int)<(k:Int):=by omega
       have Am:j<l.length:=by omega
       have ZD:(l.take k)[j]?=some l[j]:=by simp_all
       have hsj:=ahL j Am hj;have hcj:=uB l[j] hsj;have hb:=PL l f j (by omega) fun i h hi=>ahL i h (by omega);simp only[mW,AT,hj1,Ko,aM,IT,ZD,akb,U,Aa,BU,BV,BW,asInt,MO,iG,aj (show j<9223372036854775807 by omega),bF,bf];rw[IW l f j Am,Un l f j Am];by_cases he:l[j].bO=f.bO
       ·rw[AI he,AI he,GU l[j] hsj];have hw:IntKind.i64.wrap (fO f+D5 l f j+fO l[j])=fO f+(D5 l f j+fO l[j]):=by grind [aY]
        simp_all[U,R8,akv,ak4,asInt,Ko]
       simp_all[IS,R8,akw,amc,alJ,Int.add_zero]
      ·simp only[mW,AT,akB,abp,aj (show k<9223372036854775807 by omega)];by_cases abG:fO f+D5 l f k>256
       ·rw[AI abG,AI abG];rfl
       ·rw[IS abG,IS abG];cases anyM l f k<;>rfl
      ·grind [rounds,decide]
      ·simp[D5,anyM]
  ·simp only[mX,AT,akB,abp];rfl
  ·have:=bw;omega
theorem ahM(x:k9):cell x.pv 0=.int .i64 x.a:=rfl
theorem ahN(x:k9):cell x.pv 1=.int .i64 x.b:=rfl
theorem Wo(n:Int):cell (.int .i64 n) 0=.int .i64 n:=rfl
def iv(n:Int):PV:=.int .i64 n
def DM(l:List k9)(t:Int):Option Int:=(l.find? fun x=>decide (x.a=t)).map k9.b
def CV(o:Option Int):PV:=match o with|some b=>.aO [.int .i64 b,.bool true]|none=>.aO [.int .i64 0,.bool false]
theorem CB{A B:Type}(p:A→Bool)(g:A→B)(l:List A):(List.range l.length).findSome? (fun k=>(l[k]?).bind fun x=>if p x=true then some (g x)else none)=(l.find? p).map g:=by
 rw[EL];induction l with
 |nil=>rfl
 |cons x l ih=>grind
theorem IX(l:List k9)(hl:l.length≤maxLen)(t:Int):oE [.rs 2 (l.map k9.pv),.int .i64 t]=some (CV (DM l t)):=by
 have hm:=aT;simp only[oE,wj,aw,asInt,Ko,U,BY];refine(br (fun k=>(t,l.map k9.pv,(l.length:Int),(k:Int),())) l.length (fun k=>(l[k]?).bind fun x=>if decide (x.a=t)=true then some (some (CV (some x.b)))else none) (fin:=some (CV none)) (fun k hk rec=>?_) (fun rec=>?_) ?_ rfl).trans ?_
 ·have h1:(k:Int)<(l.length:Int):=by omega
  simp only[qJ,AT,h1,Ko,aM,IT,cN hk,akb,U,akj,ahM,ahN,asInt,aj (show k<9223372036854775807 by omega),iG];by_cases he:l[k].a=t
  ·simp only[he,Ko];rfl
  ·simp only[he,abp];rfl
 ·simp only[qJ,AT,akB,abp];rfl
 ·have:=bw;omega
 ·rw[CB (fun x:k9=>decide (x.a=t)) (fun x=>some (CV (some x.b))) l];unfold DM;cases l.find? fun x=>decide (x.a=t)<;>rfl
theorem PM(l:List Int)(hl:l.length≤maxLen)(t:Int):bk.run lD (t,l.map iv,(l.length:Int),0,())=some (.bool (decide (t∈l))):=by
 have hm:=aT;refine(sG (fun k=>(t,l.map iv,(l.length:Int),(k:Int),())) l.length (fun k=>decide (l[k]?=some t)) (no:=some (.bool true)) (fin:=some (.bool false)) (fun k hk rec=>?_) (fun rec=>?_) ?_ rfl).trans ?_
 ·have h1:(k:Int)<(l.length:Int):=by omega
  simp only[lD,AT,h1,Ko,aM,IT,cN hk,akb,U,iv,Wo,asInt,aj (show k<9223372036854775807 by omega),iG,cO]
 ·simp[lD,AT,akB,abp]
 ·have:=bw;omega
 ·rw[R6 l l.length (akk _) t,alg];grind
def grow(l:List k9):Nat→List Int→Int→List Int
 |0,pre,last=>pre++[last]
 |n+1,pre,last=>match DM l last with
  |none=>pre++[last]
  |some m=>if m∈pre++[last]then pre++[last]else grow l n (pre++[last]) m
theorem Zd(l:List k9):∀n pre last,(grow l n pre last).length≤pre.length+1+n:=by
 intro n;induction n with
 |zero=>intro pre last;simp[grow]
 |succ n ih=>grind [grow,Nat.le_trans]
theorem abH:∀(a b:List Int),a.Nodup→(∀x∈a,x∈b)→a.length≤b.length:=by
 intro a;induction a with
 |nil=>simp
 |cons x a ih=>
  intro b hn hs;rw[amm]at hn;have hx:x∈b:=hs x (by simp);have:=ih (b.erase x) hn.2 fun y hy=>by grind
  grind
theorem M0(l:List k9)(t m:Int)(h:DM l t=some m):t∈l.map k9.a:=by
 unfold DM at h;cases hf:l.find? (fun x=>decide (x.a=t))with
 |none=>rw[hf]at h;cases h
 |some x=>grind
theorem M1(pre:List Int)(last:Int)(hl:pre.length<maxLen):(pre++[last]).map iv=pre.map iv++[iv last]∧an (IntKind.i64.wrap ((((pre++[last]).map iv).length:Int)-1)) ((pre++[last]).map iv).length∧((pre++[last]).map iv)[(IntKind.i64.wrap ((((pre++[last]).map iv).length:Int)-1)).toNat]?=some (iv last):=by
 have hm:=aT;have h1:(((pre++[last]).map iv).length:Int)=((pre.length+1:Nat):Int):=by simp
 have h2:IntKind.i64.wrap (((pre.length+1:Nat):Int)-1)=(pre.length:Int):=rM _ (by omega);simp_all[iv,kL,akc]
theorem tf(a b:Int):cu (iv a).cells (iv b).cells=decide (a=b):=zp a b
theorem PN(l:List k9)(hl:l.length≤1000)(t:Int):mB [.rs 2 (l.map k9.pv),.int .i64 t]=some (.rs 1 ((grow l l.length [] t).map iv)):=by
 have Uy:(2000:Nat)≤maxLen:=by decide
 have h0:dh (PV.int .i64 t) (.bool true) []=seen iv ([]++[t]):=fp tf t [];simp only[mB,ux,aw,asInt,Ko,U,h0];have key:∀(n N:Nat)(pre:List Int)(last:Int),pre.length+n=l.length→n<N→(pre++[last]).Nodup→(∀x∈pre,x∈l.map k9.a)→cg (lC bk) N (l.map k9.pv,(pre++[last]).map iv,seen iv (pre++[last]),())=some (.rs 1 ((grow l n pre last).map iv)):=by
  intro n;induction n with
  |zero=>
   intro N pre last hp hN hnd Vn;cases N with
   |zero=>omega
   |succ N=>
    obtain⟨g1,g2,g3⟩:=M1 pre last (by omega);have VU:DM l last=none:=by
     cases hx:DM l last with
     |none=>rfl
     |some m=>
      have h1:=M0 l last m hx;have:=abH (pre++[last]) (l.map k9.a) hnd fun y hy=>by
       rw[aku]at hy;rcases hy with hy|hy
       ·exact Vn y hy
       simp_all
      simp at this;omega
    simp only[cg,lC,AI g2,g3,U,iv,Wo,asInt,Ko,IX l (by omega),VU,CV,dn,akd,akm,Nat.reduceAdd,ajc,aka,asBool,akz,cond_true];rfl
  |succ n ih=>
   intro N pre last hp hN hnd Vn;cases N with
   |zero=>omega
   |succ N=>
    obtain⟨g1,g2,g3⟩:=M1 pre last (by omega);have hb:∀X:PV,((pre++[last]).map iv++[X]).length*8≤ae∧0<8:=fun X=>by refine⟨?_,by omega⟩;simp only[ako,BY,akd,akm];unfold ae;omega
    simp only[cg,lC,AI g2,g3,U,Wo,asInt,Ko];simp only[iv,Wo,asInt,Ko,U,IX l (by omega)];unfold grow;cases hx:DM l last with
    |none=>rfl
    |some m=>
     have kJ:b9 (PV.int .i64 m) (.bool false) (seen iv (pre++[last]))=.bool (decide (m∈pre++[last])):=ep tf m _;have mJ:dh (PV.int .i64 m) (.bool true) (seen iv (pre++[last]))=seen iv (pre++[last]++[m]):=fp tf m _;simp only[CV,dn,akd,akm,Nat.reduceAdd,Ko,ajc,aka,asBool,asInt,U,akf,cond_false];simp only[kJ,asBool,U];by_cases bW:m∈pre++[last]
     ·simp_all
     ·simp only[bW,akw,cQ,abp];rw[AI (hb _),mJ];have vp:(pre++[last]).map iv++[PV.int .i64 m]=(pre++[last]++[m]).map iv:=by simp[iv]
      rw[vp];refine ih N (pre++[last]) m (by simp;omega) (by omega) ?_ ?_
      ·rw[List.nodup_append];refine⟨hnd,by simp,fun a ha b hb=>?_⟩;simp at hb;grind
      ·intro x Jf;rw[aku]at Jf;rcases Jf with h|h
       ·exact Vn x h
       simp_all[M0]
 exact key l.length rounds [] t (by simp) (by grind [rounds,decide]) (by simp) (by simp)
theorem M3(l:List k9)(hl:l.length≤1000)(a b:Int):mC [.rs 2 (l.map k9.pv),.int .i64 a,.int .i64 b]=some (.bool (decide (b∈grow l l.length [] a))):=by
 have Uy:(2000:Nat)≤maxLen:=by decide
 have hg:=Zd l l.length [] a;simp only[akm]at hg;simp only[mC,uy,aw,asInt,Ko,U,PN l hl,BY];exact PM _ (by omega) b
def N8(fs:List bg)(t:Int):Bool:=decide (t∈fs.map bg.bO)
theorem LK(fs:List bg)(hl:fs.length≤maxLen)(t:Int):dG [.rs 4 (fs.map bg.pv),.int .i64 t]=some (.bool (N8 fs t)):=by
 have hm:=aT;simp only[dG,mT,aw,asInt,Ko,U,BY];refine(sG (fun k=>(t,fs.map bg.pv,(fs.length:Int),(k:Int),())) fs.length (fun k=>decide ((fs.map bg.bO)[k]?=some t)) (no:=some (.bool true)) (fin:=some (.bool false)) (fun k hk rec=>?_) (fun rec=>?_) ?_ rfl).trans ?_
 ·have h1:(k:Int)<(fs.length:Int):=by omega
  simp only[jP,AT,h1,Ko,aM,IT,cN hk,akb,U,Aa,asInt,aj (show k<9223372036854775807 by omega),iG,cO]
 ·simp[jP,AT,akB,abp]
 ·have:=bw;omega
 ·have h:=R6 (fs.map bg.bO) fs.length (by simp) t;rw[h,akE (by simp)];unfold N8;grind
def PO(n m:Int):Bool:=decide (n≥0)&&decide (n<m)
theorem abI(n:Int)(ts:List PV):fQ [.int .i64 n,.rp [.rs 5 ts]]=some (.bool (PO n ts.length)):=by simp only[fQ,sN,asInt,aw,Ko,U,bF];rfl
def B4(a b:Int)(n:Nat):Bool:= !PO a n|| !PO b n||decide (a=b)
def zt(fs:List bg)(a b:Int):Bool:=N8 fs a||N8 fs b
theorem IY(a b:Int)(ag:List bK)(fs:List bg)(hl:fs.length≤maxLen):kP [.int .i64 a,.int .i64 b,.rs 5 (ag.map bK.pv),.rs 4 (fs.map bg.pv)]=some (.aO [.int .i64 (if B4 a b ag.length=true then 9 else 0),.int .i64 (if(!B4 a b ag.length&&zt fs a b)=true then 17 else 0)]):=by simp only[kP,wm,asInt,aw,asBool,Ko,U,abI,LK fs hl,BY,bf,iG];unfold B4 zt;grind
def yN(a b:bK):Int:=if(!decide (a.xX=b.xX))=true then 15 else match a.calls[a.calls.length-1]?,b.calls[0]? with
 |some p,some q=>if(!decide (p.stop=q.stop))=true then 13 else if q.dep<p.arr then 10 else 0
 |_,_=>13
theorem Ze(l:List aQ)(h:0<l.length)(hl:l.length≤maxLen):IntKind.i64.wrap ((l.length:Int)-1)=((l.length-1:Nat):Int):=by grind [aT,aY]
theorem ajG(l:List aQ)(h:0<l.length):fj (l.map aQ.pv) 0=some l[0].pv:=by rw[show(0:Int)=((0:Nat):Int)from rfl,aM,IT,cN h];rfl
theorem Kq(a b:bK)(ha:a.Ok)(hb:b.Ok):kg [a.pv,b.pv]=some (.int .i64 (yN a b)):=by
 have hm:=aT;have ha1:=ha.calls.1;simp only[kg,qF,R3,GM,GN,GO,IM,DJ,bu,aw,asInt,asBool,Ko,U,BY,bf,pW];unfold yN;cases decide (a.xX=b.xX)with
 |false=>rfl
 |true=>
  simp only[akf,cQ,abp];by_cases h1:a.calls.length=0
  ·simp_all
  ·by_cases h2:b.calls.length=0
   ·simp_all
   ·have n1:((a.calls.length:Int)==0)=false:=by simp_all
    have n2:((b.calls.length:Int)==0)=false:=by simp_all
    have hk:a.calls.length-1<a.calls.length:=by omega
    have h0:0<b.calls.length:=by omega
    rw[n1,n2,Ze a.calls (by omega) ha1,ajG b.calls h0];simp only[alJ,cQ,abp,aM,IT,cN hk,cN h0,akb,U,Gu,Mh,DA,asInt,Ko];grind
def Zf(l:List k9)(ag:List bK)(fs:List bg)(k:Nat):Int:=match l[k]? with
 |none=>0
 |some x=>if B4 x.a x.b ag.length=true then 9 else if zt fs x.a x.b=true then 17 else match ag[x.a.toNat]?,ag[x.b.toNat]? with
  |some p,some q=>if yN p q=0 then(if(decide (x.a∈(l.map k9.a).take k)||decide (x.b∈(l.map k9.b).take k))=true then 6 else if x.a∈grow (l.take k) k [] x.b then 19 else 0)else yN p q
  |_,_=>0
def GV(l:List k9)(ag:List bK)(fs:List bg):Int×Int:=if l.length>128 then(0,5)else cX (Zf l ag fs) l.length
theorem R9(a b:Int)(ag:List bK)(h:B4 a b ag.length=false):∃(i j:Nat),a=i∧b=j∧i<ag.length∧j<ag.length:=by unfold B4 PO at h;simp only[akN,ala,No,AT]at h;exact⟨a.toNat,b.toNat,by omega,by omega,by omega,by omega⟩
theorem Zg(l:List k9)(ag:List bK)(fs:List bg)(ht:ag.length≤maxLen∧∀y∈ag,y.Ok)(hf:fs.length≤maxLen):mD [.rs 2 (l.map k9.pv),.rs 5 (ag.map bK.pv),.rs 4 (fs.map bg.pv)]=some (res (GV l ag fs).1 (GV l ag fs).2):=by
 have hm:=aT;simp only[mD,uz,aw,Ko,U,BY];unfold GV;by_cases vP:l.length>128
 ·rw[AI (by simp;omega),AI vP];rfl
 ·rw[IS (by simp;omega),IS vP,←kH];refine br (fun k=>(l.map k9.pv,ag.map bK.pv,fs.map bg.pv,l.map k9.pv,(l.length:Int),(k:Int),seen iv ((l.map k9.a).take k),seen iv ((l.map k9.b).take k),())) l.length _ (fun k hk rec=>?_) (fun rec=>?_) ?_ rfl
  ·have h1:(k:Int)<(l.length:Int):=by omega
   simp only[pq,AT,h1,Ko,aM,IT,cN hk,akb,U,ahM,ahN,asInt,IY _ _ ag fs hf,dn,akd,akm,Nat.reduceAdd,ajc,aka,pW,aj (show k<9223372036854775807 by omega),jE k9.a l k hk,jE k9.b l k hk,BY];unfold Zf;rw[cN hk];simp only;generalize l[k]=x;cases hp:B4 x.a x.b ag.length with
   |true=>rfl
   |false=>
    cases hr:zt fs x.a x.b with
    |true=>rfl
    |false=>
     obtain⟨i,j,hi,hj,Uv,Am⟩:=R9 x.a x.b ag hp;have xi:fj (ag.map bK.pv) x.a=some ag[i].pv:=by rw[hi,aM,IT,cN Uv];rfl
     have xj:fj (ag.map bK.pv) x.b=some ag[j].pv:=by rw[hj,aM,IT,cN Am];rfl
     have ti:ag[x.a.toNat]?=some ag[i]:=by simp_all
     have tj:ag[x.b.toNat]?=some ag[j]:=by simp_all
     have hfo:=Kq ag[i] ag[j] (ht.2 _ (aki Uv)) (ht.2 _ (aki Am));have la:b9 (PV.int .i64 x.a) (.bool false) (seen iv ((l.map k9.a).take k))=.bool (decide (x.a∈(l.map k9.a).take k)):=ep tf x.a _;have lb:b9 (PV.int .i64 x.b) (.bool false) (seen iv ((l.map k9.b).take k))=.bool (decide (x.b∈(l.map k9.b).take k)):=ep tf x.b _;have pa:dh (PV.int .i64 x.a) (.bool true) (seen iv ((l.map k9.a).take k))=seen iv ((l.map k9.a).take k++[x.a]):=fp tf x.a _;have pb:dh (PV.int .i64 x.b) (.bool true) (seen iv ((l.map k9.b).take k))=seen iv ((l.map k9.b).take k++[x.b]):=fp tf x.b _;have hc:(0:Int)≤0∧(0:Int)≤(k:Int)∧(k:Int)≤(l.length:Int)∧True∧2≠0:=⟨by omega,by omega,by omega,trivial,by omega⟩;have htk:(l.map k9.pv).take k=(l.take k).map k9.pv:=by simp
     have hle:=M3 (l.take k) (by simp;omega) x.b x.a;have SG:(l.take k).length=k:=by simp;omega
     rw[SG]at hle;simp only[akz,ak4,cQ,abp,akv,akf,xi,xj,ti,tj,U,GM,GN,GO,IM,DJ,Zc,hfo,asInt,Ko,la,lb,asBool,bf,pa,pb,htk,akc,Int.toNat_zero,am2,hle,AI hc];by_cases hfe:yN ag[i] ag[j]=0
     ·simp only[hfe,akv,akf,cQ,abp,Ko];cases(decide (x.a∈(l.map k9.a).take k)||decide (x.b∈(l.map k9.b).take k))with
      |true=>rfl
      |false=>
       by_cases bW:x.a∈grow (l.take k) k [] x.b
       ·simp only[bW,akv,Ko];rfl
       ·simp only[bW,akw,cQ,abp];rfl
     ·simp only[hfe,akw,akz,Ko,abp,Gw,ca];rfl
  ·simp only[pq,AT,akB,abp];rfl
  grind [rounds,decide]
def M4(l:List aQ)(s:Int)(k:Nat):Bool:=decide (0<k)&&(match l[k]? with|some x=>decide (x.stop=s)&&x.bQ|none=>false)
def M5(l:List aQ)(s:Int)(k:Nat):Bool:=decide (k+1<l.length)&&(match l[k]? with|some x=>decide (x.stop=s)&&x.dY|none=>false)
def IZ(o:Option Nat):Int:=match o with|some k=>k|none=> -1
theorem M6(i:Nat):decide (IZ (some i)<0)=false:=by rfl
theorem Zh(l:List aQ)(hl:l.length≤maxLen)(s:Int):iw [.rs 5 (l.map aQ.pv),.int .i64 s]=some (.int .i64 (IZ ((List.range l.length).find? (M4 l s)))):=by
 have hm:=aT;simp only[iw,ow,aw,asInt,Ko,U,BY];refine(br (fun k=>(s,l.map aQ.pv,(l.length:Int),(k:Int),())) l.length (fun k=>if M4 l s k=true then some (some (.int .i64 (k:Int)))else none) (fin:=some (.int .i64 (-1))) (fun k hk rec=>?_) (fun rec=>?_) ?_ rfl).trans ?_
 ·have h1:(k:Int)<(l.length:Int):=by omega
  have h2:decide ((k:Int)>0)=decide (0<k):=by simp
  simp only[kQ,AT,h1,Ko,aM,IT,cN hk,akb,U,Gu,YW,asInt,asBool,aj (show k<9223372036854775807 by omega),iG,bF,M4,h2];cases decide (0<k)<;>cases decide (l[k].stop=s)<;>cases l[k].bQ<;>rfl
 ·simp[kQ,AT,akB,abp]
 ·have:=bw;omega
 ·rw[yM];cases(List.range l.length).find? (M4 l s)<;>rfl
theorem Zi(l:List aQ)(hl:l.length<maxLen)(s:Int):jz [.rs 5 (l.map aQ.pv),.int .i64 s]=some (.int .i64 (IZ ((List.range l.length).find? (M5 l s)))):=by
 have hm:=aT;simp only[jz,po,aw,asInt,Ko,U,BY];refine(br (fun k=>(l.map aQ.pv,s,l.map aQ.pv,(l.length:Int),(k:Int),())) l.length (fun k=>if M5 l s k=true then some (some (.int .i64 (k:Int)))else none) (fin:=some (.int .i64 (-1))) (fun k hk rec=>?_) (fun rec=>?_) ?_ rfl).trans ?_
 ·have h1:(k:Int)<(l.length:Int):=by omega
  have h2:decide (((k+1:Nat):Int)<(l.length:Int))=decide (k+1<l.length):=by grind
  simp only[lW,AT,h1,Ko,aM,IT,cN hk,akb,U,Gu,YV,asInt,asBool,aj (show k<9223372036854775807 by omega),iG,bF,M5,BY,h2];cases decide (k+1<l.length)<;>cases decide (l[k].stop=s)<;>cases l[k].dY<;>rfl
 ·simp[lW,AT,akB,abp]
 ·have:=bw;omega
 ·rw[yM];cases(List.range l.length).find? (M5 l s)<;>rfl
def mtB(a b:List aQ)(i k:Nat):Bool:=match a[i]?,b[k]? with|some p,some q=> !decide (q.dep<p.arr)|_,_=>false
def aeF(i k:Nat)(m:Bool):PV:=if m=true then .aO [.int .i64 i,.int .i64 k,.bool true]else .aO [.int .i64 0,.int .i64 0,.bool false]
def ahO:PV:=.aO [.int .i64 0,.int .i64 0,.bool false]
def Es(a b:List aQ)(s:Int):PV:=match(List.range a.length).find? (M4 a s)with
 |none=>ahO
 |some i=>match(List.range b.length).find? (M5 b s)with
  |none=>ahO
  |some k=>aeF i k (mtB a b i k)
def Kr(a b:List aQ)(s:Int):Bool:=match(List.range a.length).find? (M4 a s)with
 |none=>false
 |some i=>match(List.range b.length).find? (M5 b s)with
  |none=>false
  |some k=>mtB a b i k
theorem Up(a b:List aQ)(s:Int):∃n m,Es a b s=.aO [.int .i64 n,.int .i64 m,.bool (Kr a b s)]:=by
 unfold Es Kr;cases(List.range a.length).find? (M4 a s)with
 |none=>exact⟨0,0,rfl⟩
 |some i=>
  cases(List.range b.length).find? (M5 b s)with
  |none=>exact⟨0,0,rfl⟩
  |some k=>
   simp only[aeF];cases mtB a b i k
   ·simp
   simp
theorem Sa(p:Nat→Bool)(n i:Nat)(h:(List.range n).find? p=some i):i<n:=by simp_all
theorem PQ(a b:List aQ)(ha:a.length≤maxLen)(hb:b.length<maxLen)(s:Int):mE [.rs 5 (a.map aQ.pv),.rs 5 (b.map aQ.pv),.int .i64 s]=some (Es a b s):=by
 simp only[mE,uA,aw,asInt,Ko,U,Zh a ha s,Zi b hb s,bf];unfold Es;cases hi:(List.range a.length).find? (M4 a s)with
 |none=>rfl
 |some i=>
  have Uv:=Sa _ _ _ hi;cases hk:(List.range b.length).find? (M5 b s)with
  |none=>rfl
  |some k=>have N0:=Sa _ _ _ hk;have h1:decide (IZ (some i)<0)=false:=M6 i;have h2:decide (IZ (some k)<0)=false:=M6 k;rw[h1,h2];simp only[IZ,alJ,cond_false,aM,IT,cN Uv,cN N0,akb,U,Mh,DA,asInt,Ko,AT,aeF,mtB];grind
theorem ahP(x:iS):cell x.pv 0=.int .i64 x.a:=rfl
theorem ahQ(x:iS):cell x.pv 1=.int .i64 x.b:=rfl
theorem ahR(x:iS):cell x.pv 2=.int .i64 x.stop:=rfl
theorem ahS(x:iS):PV.agg [.int .i64 x.a,.int .i64 x.b,.int .i64 x.stop]=x.pv:=rfl
theorem Zj(a b c:Int):lK (Kd.int .i64::[].append (Kd.int .i64::[].append (Kd.int .i64::[].append []))) [.int .i64 a,.int .i64 b,.int .i64 c]=true:=rfl
theorem M7(x y:iS):cu x.pv.cells y.pv.cells=decide (x=y):=by show cu [.int .i64 x.a,.int .i64 x.b,.int .i64 x.stop] [.int .i64 y.a,.int .i64 y.b,.int .i64 y.stop]=_;simp only[cu,peq,aln,iG];rw[ak9];simp only[No,AT];cases x;cases y;simp
def Sb(l:List iS)(ag:List bK)(fs:List bg)(stops:Int)(k:Nat):Int:=match l[k]? with
 |none=>0
 |some x=>if(B4 x.a x.b ag.length|| !PO x.stop stops)=true then 9 else if zt fs x.a x.b=true then 17 else match ag[x.a.toNat]?,ag[x.b.toNat]? with
  |some p,some q=>if Kr p.calls q.calls x.stop=false then 19 else if x∈l.take k then 6 else 0
  |_,_=>0
def B5(l:List iS)(ag:List bK)(fs:List bg)(stops:Int):Int×Int:=if l.length>128 then(0,5)else cX (Sb l ag fs stops) l.length
theorem Uq(l:List iS)(ag:List bK)(fs:List bg)(stops:Int)(ht:ag.length≤maxLen∧∀y∈ag,y.Ok)(T9:∀y∈ag,y.calls.length≤40)(hf:fs.length≤maxLen):ee [.rs 3 (l.map iS.pv),.rs 5 (ag.map bK.pv),.rs 4 (fs.map bg.pv),.int .i64 stops]=some (res (B5 l ag fs stops).1 (B5 l ag fs stops).2):=by
 have hm:=aT;have cL:1000≤maxLen:=by decide
 simp only[ee,iQ,aw,asInt,Ko,U,BY];unfold B5;by_cases vP:l.length>128
 ·rw[AI (by simp;omega),AI vP];rfl
 ·rw[IS (by simp;omega),IS vP,←kH];refine br (fun k=>(ag.map bK.pv,fs.map bg.pv,stops,l.map iS.pv,(l.length:Int),(k:Int),seen iS.pv (l.take k),())) l.length _ (fun k hk rec=>?_) (fun rec=>?_) ?_ rfl
  ·have h1:(k:Int)<(l.length:Int):=by omega
   have vp:l.take (k+1)=l.take k++[l[k]]:=(alE hk).symm;simp only[gb,AT,h1,Ko,aM,IT,cN hk,akb,U,ahP,ahQ,ahR,asInt,IY _ _ ag fs hf,dn,akd,akm,Nat.reduceAdd,ajc,aka,pW,bf,aj (show k<9223372036854775807 by omega),vp,BY];unfold Sb;rw[cN hk];simp only;generalize l[k]=x;have qk:(!PO x.stop stops)=(decide (x.stop<0)||decide (x.stop≥stops)):=by unfold PO;grind
   rw[qk];cases hp:B4 x.a x.b ag.length with
   |true=>rfl
   |false=>
    simp only[akz,ak4,alj,cQ,abp,akv,akf];cases(decide (x.stop<0)||decide (x.stop≥stops))with
    |true=>rfl
    |false=>
     cases hr:zt fs x.a x.b with
     |true=>rfl
     |false=>
      obtain⟨i,j,hi,hj,Uv,Am⟩:=R9 x.a x.b ag hp;have xi:fj (ag.map bK.pv) x.a=some ag[i].pv:=by rw[hi,aM,IT,cN Uv];rfl
      have xj:fj (ag.map bK.pv) x.b=some ag[j].pv:=by rw[hj,aM,IT,cN Am];rfl
      have ti:ag[x.a.toNat]?=some ag[i]:=by simp_all
      have tj:ag[x.b.toNat]?=some ag[j]:=by simp_all
      have hci:=T9 _ (aki Uv);have hcj:=T9 _ (aki Am);have hmt:=PQ ag[i].calls ag[j].calls (by omega) (by omega) x.stop;obtain⟨n1,n2,hmp⟩:=Up ag[i].calls ag[j].calls x.stop;have kJ:b9 x.pv (.bool false) (seen iS.pv (l.take k))=.bool (decide (x∈l.take k)):=ep M7 x _;have mJ:dh x.pv (.bool true) (seen iS.pv (l.take k))=seen iS.pv (l.take k++[x]):=fp M7 x _;simp only[cQ,abp,akv,akf,xi,xj,ti,tj,U,DJ,aw,asInt,asBool,Ko,hmt,hmp,dn,akd,akm,Nat.reduceAdd,ajc,aka,Zj,ahS,kJ,mJ];cases Kr ag[i].calls ag[j].calls x.stop with
      |false=>rfl
      |true=>
       by_cases bW:x∈l.take k
       ·simp only[bW,akv,Ko,akf,cQ,akD,abp];rfl
       ·simp only[bW,akw,akf,cQ,akD,abp];rfl
  ·simp only[gb,AT,akB,abp];rfl
  grind [rounds,decide]
def B1(T:ak):Nat→Int×Int
 |0=>jX T.stops
 |1=>kE T.au
 |2=>GR T.eR
 |3=>GS T.kZ T.eR.length
 |4=>wo T.ag T.stops.length T.au.length T.eR.length
 |5=>wq T.ck T.ag
 |6=>GV T.tv T.ag T.ck
 |7=>B5 T.lJ T.ag T.ck T.stops.length
 |8=>B3 T.paths T.stops.length
 |_=>jY T.aP T.bX T.within T.cap
def vO(p i e:Int):PV:=.aO [.int .i64 p,.int .i64 i,.int .i64 e]
def tG(T:ak)(p:Nat):Option (Option PV):=if(B1 T p).2=0 then none else some (some (vO p (B1 T p).1 (B1 T p).2))
theorem ttA(T:ak):asAgg 13 T.pv=some ():=rfl
theorem tt0(T:ak):cell T.pv 0=.rs 4 (T.stops.map Stop.pv):=rfl
theorem tt1(T:ak):cell T.pv 1=.rs 3 (T.au.map aV.pv):=rfl
theorem tt2(T:ak):cell T.pv 2=.rs 10 (T.eR.map qd.pv):=rfl
theorem tt3(T:ak):cell T.pv 3=.rs 3 (T.kZ.map tg.pv):=rfl
theorem tt4(T:ak):cell T.pv 4=.rs 5 (T.ag.map bK.pv):=rfl
theorem tt5(T:ak):cell T.pv 5=.rs 4 (T.ck.map bg.pv):=rfl
theorem tt6(T:ak):cell T.pv 6=.rs 2 (T.tv.map k9.pv):=rfl
theorem tt7(T:ak):cell T.pv 7=.rs 3 (T.lJ.map iS.pv):=rfl
theorem tt8(T:ak):cell T.pv 8=.rs 4 (T.paths.map Path.pv):=rfl
theorem tt9(T:ak):cell T.pv 9=.rs 6 (T.aP.map aR.pv):=rfl
theorem S6(T:ak):cell T.pv 10=.int .i64 T.bX:=rfl
theorem S7(T:ak):cell T.pv 11=.int .i64 T.within:=rfl
theorem S8(T:ak):cell T.pv 12=.int .i64 T.cap:=rfl
theorem ttF(l:List aR)(a b c:Int):PV.agg [.rs 6 (l.map aR.pv),.int .i64 a,.int .i64 b,.int .i64 c]=fE l a b c:=rfl
theorem ttE(T:ak):PV.agg [.rs 4 (T.stops.map Stop.pv),.rs 3 (T.au.map aV.pv),.rs 10 (T.eR.map qd.pv),.rs 3 (T.kZ.map tg.pv),.rs 5 (T.ag.map bK.pv),.rs 4 (T.ck.map bg.pv),.rs 2 (T.tv.map k9.pv),.rs 3 (T.lJ.map iS.pv),.rs 4 (T.paths.map Path.pv),.rs 6 (T.aP.map aR.pv),.int .i64 T.bX,.int .i64 T.within,.int .i64 T.cap]=T.pv:=rfl
def Small(T:ak):Prop:=∀y∈T.ag,y.calls.length≤40
theorem On(T:ak)(hT:T.Ok)(hs:Small T):gB [T.pv]=ca ((List.range 10).findSome? (tG T)) (some (vO 0 0 0)):=by
 have h0:=Iw T.stops hT.stops;have h1:=Gt T.au hT.au;have h2:=Y8 T.eR hT.eR;have h3:=Za T.kZ T.eR.length hT.kZ;have h4:=Ui T.ag T.stops.length T.au.length T.eR.length hT.ag;have h5:=Uo T.ck T.ag hT.ag hs hT.ck.1;have h6:=Zg T.tv T.ag T.ck hT.ag hT.ck.1;have h7:=Uq T.lJ T.ag T.ck T.stops.length hT.ag hs hT.ck.1;have h8:=Uj T.paths T.stops.length hT.paths.1;have h9:=vW T.aP T.bX T.within T.cap hT.aP;simp only[res]at h0 h1 h2 h3 h4 h5 h6 h7 h8 h9;have w1:IntKind.i64.wrap (0+1)=1:=by rfl
 have w2:IntKind.i64.wrap (1+1)=2:=by rfl
 have w3:IntKind.i64.wrap (2+1)=3:=by rfl
 have w4:IntKind.i64.wrap (3+1)=4:=by rfl
 have w5:IntKind.i64.wrap (4+1)=5:=by rfl
 have w6:IntKind.i64.wrap (5+1)=6:=by rfl
 have w7:IntKind.i64.wrap (6+1)=7:=by rfl
 have w8:IntKind.i64.wrap (7+1)=8:=by rfl
 have w9:IntKind.i64.wrap (8+1)=9:=by rfl
 simp only[gB,qG,hZ,nK,ic,nQ,ig,nL,ij,nR,il,nM,im,nO,iq,nP,ir,nS,iu,nN,gG,mM,ttA,tt0,tt1,tt2,tt3,tt4,tt5,tt6,tt7,tt8,tt9,S6,S7,S8,aw,asInt,Ko,U,BY,ttF,h0,h1,h2,h3,h4,h5,h6,h7,h8,h9,dn,akd,akm,Nat.reduceAdd,ajc,aka,w1,w2,w3,w4,w5,w6,w7,w8,w9,pW];have hr:List.range 10=[0,1,2,3,4,5,6,7,8,9]:=by rfl
 rw[hr];simp only[akU,amx,tG,B1,vO];generalize jX T.stops=r0;generalize kE T.au=r1;generalize GR T.eR=r2;generalize GS T.kZ T.eR.length=r3;generalize wo T.ag T.stops.length T.au.length T.eR.length=r4;generalize wq T.ck T.ag=r5;generalize GV T.tv T.ag T.ck=r6;generalize B5 T.lJ T.ag T.ck T.stops.length=r7;generalize B3 T.paths T.stops.length=r8;generalize jY T.aP T.bX T.within T.cap=r9;by_cases e0:r0.2=0;rotate_left
 ·simp[e0,ca]
 by_cases e1:r1.2=0;rotate_left
 ·simp[e0,e1,ca]
 by_cases e2:r2.2=0;rotate_left
 ·simp[e0,e1,e2,ca]
 by_cases e3:r3.2=0;rotate_left
 ·simp[e0,e1,e2,e3,ca]
 by_cases e4:r4.2=0;rotate_left
 ·simp[e0,e1,e2,e3,e4,ca]
 by_cases e5:r5.2=0;rotate_left
 ·simp[e0,e1,e2,e3,e4,e5,ca]
 by_cases e6:r6.2=0;rotate_left
 ·simp_all[ca]
 by_cases e7:r7.2=0;rotate_left
 ·simp_all[ca]
 by_cases e8:r8.2=0;rotate_left
 ·simp_all[ca]
 by_cases e9:r9.2=0;rotate_left
 ·simp_all[ca]
 simp_all[ca]
end Go.Ab.Tt
