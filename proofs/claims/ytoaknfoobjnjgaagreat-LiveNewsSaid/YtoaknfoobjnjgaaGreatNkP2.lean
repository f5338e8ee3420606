import Derived.Test.YtoaknfoobjnjgaaGreatNkP1
import Derived.Test.YtoaknfoobjnjgaaGreatNwP2
namespace Go.Ab.Tt
set_option maxRecDepth 100000
set_option linter.all false
def bG(x:Path):Int×Int×Bool:=(x.a,x.b,x.free)
def Gg(x:Int×Int×Bool):PV:=.agg [.int .i64 x.1,.int .i64 x.2.1,.bool x.2.2]
theorem P7(a b:Int×Int×Bool):bO (Gg a).cells (Gg b).cells=decide (a=b):=by obtain⟨a1,a2,a3⟩:=a;obtain⟨b1,b2,b3⟩:=b;rw[aoy];simp[Gg,PV.cells,bO,peq]
def eB(l:List Path)(n:Int)(k:Nat):Int:=match l[k]? with
 |none=>0
 |some x=>if(decide (x.a<0)||decide (x.a≥n)||decide (x.b<0)||decide (x.b≥n)||decide (x.a=x.b))=true then 9 else if(decide (x.qi<1)||decide (x.qi>14400))=true then 2 else if bG x∈(l.map bG).take k then 6 else 0
theorem JW(l:List Path)(n:Int)(hl:l.length≤maxLen):jc [.rs 4 (l.map Path.pv),.int .i64 n]=some (res (cE (eB l n) l.length).1 (cE (eB l n) l.length).2):=by
 have hm:=ar;simp only[jc,uZ,ah,asInt,BY,U,te];rw[←dy];refine aB (fun k=>(n,l.map Path.pv,(l.length:Int),(k:Int),seen Gg ((l.map bG).take k),())) l.length _ (fun k hk rec=>?_) (fun rec=>?_) ?_ rfl
 ·have h1:(k:Int)<(l.length:Int):=by omega
  have nf:dd (.agg [.int .i64 l[k].a,.int .i64 l[k].b,.bool l[k].free]) (.bool true) (seen Gg ((l.map bG).take k))=_:=fJ P7 (bG l[k]) ((l.map bG).take k);have ko:bS (.agg [.int .i64 l[k].a,.int .i64 l[k].b,.bool l[k].free]) (.bool false) (seen Gg ((l.map bG).take k))=_:=eM P7 (bG l[k]) ((l.map bG).take k);simp only[pw,tc,h1,BY,af,AT,ta hk,IS,U,P3,P4,UF,P5,asInt,asBool,nf,ko,cZ,ag (show k<9223372036854775807 by omega),jR bG l k hk];unfold eB;rw[ta hk];simp only;by_cases bk:bG l[k]∈(l.map bG).take k
  ·simp only[bk,BY];by_cases e1:l[k].a<0<;>by_cases e2:l[k].a≥n<;>by_cases e3:l[k].b<0<;>by_cases e4:l[k].b≥n<;>by_cases e5:l[k].a=l[k].b<;>by_cases e6:l[k].qi<1<;>by_cases e7:l[k].qi>14400<;>simp only[e1,e2,e3,e4,e5,e6,e7,aot,aoo,ard,arc,ao5,BY,OF,AI]<;>rfl
  ·simp only[bk,OF,AI];by_cases e1:l[k].a<0<;>by_cases e2:l[k].a≥n<;>by_cases e3:l[k].b<0<;>by_cases e4:l[k].b≥n<;>by_cases e5:l[k].a=l[k].b<;>by_cases e6:l[k].qi<1<;>by_cases e7:l[k].qi>14400<;>simp only[e1,e2,e3,e4,e5,e6,e7,aot,aoo,ard,arc,ao5,BY,OF,AI]<;>rfl
 ·simp only[pw,tc,an6,OF];rfl
 ·have:=aF;omega
def toFp(p:Path):Nw.Fp:=⟨p.a.toNat,p.b.toNat,p.qi.toNat,p.free⟩
def Sound(l:List Path)(n:Nat):Prop:=∀p∈l,0≤p.a∧p.a<n∧0≤p.b∧p.b<n∧1≤p.qi∧p.qi≤14400
variable{l:List Path}{n:Nat}
theorem JD(h:(cE (eB l n) l.length).2=0):Sound l n:=by intro p hp;obtain⟨k,hk,rfl⟩:=aqv hp;have h0:=(uP _ _).1 h k hk;unfold eB at h0;grind
theorem toFp_pv{p:Path}(h1:0≤p.a)(h2:0≤p.b)(h3:1≤p.qi):(toFp p).pv=p.pv:=by grind [toFp,Nw.Fp.pv,Path.pv,Int.toNat_of_nonneg]
theorem PH(h:Sound l n):(l.map toFp).map Nw.Fp.pv=l.map Path.pv:=by rw[apL];apply aoB;intro p hp;exact toFp_pv (h p hp).1 (h p hp).2.2.1 (h p hp).2.2.2.2.1
def tI(e:List PV):Path:=match e with|[.int .i64 a,.int .i64 b,.int .i64 s,.bool f]=>⟨a,b,s,f⟩|_=>⟨0,0,0,false⟩
theorem DE:∀(L:List (List PV)),(∀e∈L,Nw.IsF e)→fu L=(L.map tI).map Path.pv
 |[],_=>rfl
 |e::L,h=>by obtain⟨i,k,s,b,rfl⟩:=h e (by simp);have:=DE L fun x hx=>h x (by simp[hx]);unfold fu at this⊢;rw[aog,aog,aog,this];rfl
def dS(l:List Path)(n:Nat):List Path:=(Nw.Bm n (Nw.fQ n (l.map toFp) false) (Nw.fQ n (l.map toFp) true)).map tI
theorem L7(hn:n≤64)(hl:l.length≤8192)(h:Sound l n):eN [.rs 4 (l.map Path.pv),.int .i64 n]=some (.rs 4 ((dS l n).map Path.pv)):=by have:=Nw.S3 (l.map toFp) n hn (by simpa using hl) (fun p hp=>by obtain⟨q,hq,rfl⟩:=aoi.1 hp;have:=h q hq;simp only[toFp];omega);rw[PH h,DE _ (Nw.JE n _ _)]at this;exact this
theorem JG(l:List Path)(n:Nat)(hn:n≤64):(dS l n).length≤8192:=by
 have h1:(dS l n).length=(fu (Nw.Bm n (Nw.fQ n (l.map toFp) false) (Nw.fQ n (l.map toFp) true))).length:=by simp[dS,fu]
 rw[h1,Nw.F6];have h2:=Nw.EZ (it:=fun i k=>Nw.HK (Nw.fQ n (l.map toFp) false i k) (Nw.fQ n (l.map toFp) true i k) i k) (fun i k=>Nw.NW _ _ i k) n n;have h3:2*n*n≤2*64*64:=apR (apy 2 hn) hn;omega
theorem aaL(x y:Path):bO [cell x.pv 0,cell x.pv 1,cell x.pv 2,cell x.pv 3] [cell y.pv 0,cell y.pv 1,cell y.pv 2,cell y.pv 3]=decide (x=y):=by rw[aoy];obtain⟨a,b,c,d⟩:=x;obtain⟨a',b',c',d'⟩:=y;simp[P3,P4,UF,P5,bO,peq]
theorem P8(x:Path):jo (Kd.int IntKind.i64::[].append (Kd.int IntKind.i64::[].append (Kd.int IntKind.i64::[].append (Kd.bool::[].append [])))) [cell x.pv 0,cell x.pv 1,cell x.pv 2,cell x.pv 3]=true:=rfl
def zx(l:List Path)(n:Nat):Bool:=decide (dS l n=l)
theorem P9(hn:n≤64)(hl:l.length≤8192)(h:(cE (eB l n) l.length).2=0):iB [.rs 4 (l.map Path.pv),.int .i64 n]=some (.bool (zx l n)):=by
 have hm:8192≤maxLen:=by decide
 have hs:=JW l n (by omega);have hf:=XI _ _ h;rw[h,hf]at hs;have hc:=L7 hn hl (JD h);have qn:=JG l n hn;have kH:¬decide ((n:Int)>64)=true:=by simp;omega
 have h0:¬(0:Int)>(n:Int):=by omega
 simp only[iB,pz,ah,asInt,BY,U];rw[QU kH,hs];simp only[res,bN,alx,an5,Nat.reduceAdd,BY,U,aev,ali,asInt,QU h0,hc,ah,te];rw[QU (by simp)];unfold zx;by_cases hlen:(dS l n).length=l.length
 ·rw[QU (by simp[fb,hlen])];have hr:=tG (dS l n) l hlen (some (PV.bool false)) (some (PV.bool true));have:some (PV.bool (decide (dS l n=l)))=if dS l n=l then some (PV.bool true)else some (PV.bool false):=by grind
  rw[this,←hr];refine aB (fun k=>(l.map Path.pv,(dS l n).map Path.pv,((dS l n).length:Int),(k:Int),())) (dS l n).length _ (fun k hk rec=>?_) (fun rec=>?_) ?_ rfl
  ·have h1:decide ((k:Int)<((dS l n).length:Int))=true:=by simp;omega
   have qo:k<l.length:=by omega
   unfold kU;dsimp only;rw[No h1,af,AT,ta hk,af,AT,ta qo];simp only[IS,U];rw[No ⟨P8 _,P8 _⟩,aaL,ag (by omega)];grind [dS,bC]
  ·simp[kU,QU]
  ·have:=aF;omega
 ·rw[No (by simp[fb];omega)];rw[aph (fun hc=>hlen (by rw[hc]))]
def rV(l:List Path)(n:Nat):Int×Int:=if(cE (eB l n) l.length).2=0 then(if zx l n=true then(0,0)else(0,18))else cE (eB l n) l.length
def xx(x:Int×Int×Bool):PV:=.agg [.int .i64 x.1,.int .i64 x.2.1,.int .i64 0,.bool x.2.2]
theorem ajo(a b:Int×Int×Bool):bO (xx a).cells (xx b).cells=decide (a=b):=by obtain⟨a1,a2,a3⟩:=a;obtain⟨b1,b2,b3⟩:=b;rw[aoy];simp[xx,PV.cells,bO,peq]
theorem Hq(N:aW)(l:List Path)(n:Nat)(hl:l.length≤8192)(hlen:(N.stops.map Stop.pv).length=n)(k:Nat)(hk:k<l.length)(rec:ad9→Option PV):cH (l.map Path.pv,(l.length:Int),(k:Int),N.stops.map Stop.pv,N.ao.map aQ.pv,N.runs.map bg.pv,N.br.map aR.pv,l.map Path.pv,N.aP.map bp.pv,N.bE,N.within,N.cap,0,0,0,seen xx ((l.map bG).take k),()) rec=bC (if eB l n k=0 then none else some (some (r3 4 k (eB l n k)))) (rec (l.map Path.pv,(l.length:Int),((k+1:Nat):Int),N.stops.map Stop.pv,N.ao.map aQ.pv,N.runs.map bg.pv,N.br.map aR.pv,l.map Path.pv,N.aP.map bp.pv,N.bE,N.within,N.cap,0,0,0,seen xx ((l.map bG).take (k+1)),())):=by
 have h1:decide ((k:Int)<(l.length:Int))=true:=by simp;omega
 have nf:dd (.agg [.int .i64 l[k].a,.int .i64 l[k].b,.int .i64 0,.bool l[k].free]) (.bool true) (seen xx ((l.map bG).take k))=_:=fJ ajo (bG l[k]) ((l.map bG).take k);have ko:bS (.agg [.int .i64 l[k].a,.int .i64 l[k].b,.int .i64 0,.bool l[k].free]) (.bool false) (seen xx ((l.map bG).take k))=_:=eM ajo (bG l[k]) ((l.map bG).take k);unfold cH;dsimp only;rw[No h1,af,AT,ta hk,hlen];simp only[IS,U,P3,P4,UF,P5,asInt,asBool,BY,DM,aT,cZ,nf,ko,P6,YQ,r30,r31,XH,jR bG l k hk,ag (show k<9223372036854775807 by omega)];have hA:(!(decide (l[k].a≥0)&&decide (l[k].a<(n:Int)))|| !(decide (l[k].b≥0)&&decide (l[k].b<(n:Int)))||decide (l[k].a=l[k].b))=(decide (l[k].a<0)||decide (l[k].a≥(n:Int))||decide (l[k].b<0)||decide (l[k].b≥(n:Int))||decide (l[k].a=l[k].b)):=by grind
 rw[hA];unfold eB;rw[ta hk];simp only;generalize (decide (l[k].a<0)||decide (l[k].a≥(n:Int))||decide (l[k].b<0)||decide (l[k].b≥(n:Int))||decide (l[k].a=l[k].b))=A;generalize (decide (l[k].qi<1)||decide (l[k].qi>14400))=B;by_cases bk:bG l[k]∈(l.map bG).take k
 ·simp only[bk,BY];cases A<;>cases B<;>rfl
 ·simp only[bk,OF];cases A<;>cases B<;>rfl
theorem K2(N:aW)(hn:N.stops.length≤64)(hl:N.paths.length≤8192):cR [N.pv]=some (prt 4 (rV N.paths N.stops.length)):=by
 have hm:8192≤maxLen:=by decide
 simp only[cR,ny,KO,KP,KQ,KS,KT,KU,KV,KW,KX,KY,U,te];generalize hl':N.paths=l at hl⊢;generalize T4:N.stops.length=n at hn⊢;have hlen:(N.stops.map Stop.pv).length=n:=by simpa using T4
 have hg:=CC (eB l n) l.length (fun i e=>r3 4 i e) (some (if zx l n=true then r3 0 0 0 else r3 4 0 18));have hR:some (prt 4 (rV l n))=if(cE (eB l n) l.length).2=0 then some (if zx l n=true then r3 0 0 0 else r3 4 0 18)else some (r3 4 (cE (eB l n) l.length).1 (cE (eB l n) l.length).2):=by unfold rV prt;grind
 rw[hR,←hg];by_cases hz:(cE (eB l n) l.length).2=0
 ·refine aB (fun k=>(l.map Path.pv,(l.length:Int),(k:Int),N.stops.map Stop.pv,N.ao.map aQ.pv,N.runs.map bg.pv,N.br.map aR.pv,l.map Path.pv,N.aP.map bp.pv,N.bE,N.within,N.cap,0,0,0,seen xx ((l.map bG).take k),())) l.length _ (fun k hk rec=>Hq N l n hl hlen k hk rec) (fun rec=>?_) ?_ rfl
  ·unfold cH;dsimp only;rw[QU (by simp),hlen,P9 hn hl hz];simp only[U,asBool,P6,YQ,r30,r31,XH];cases zx l n<;>rfl
  ·have:=aF;omega
 ·have fo:=aB (body:=cH) (fun k=>(l.map Path.pv,(l.length:Int),(k:Int),N.stops.map Stop.pv,N.ao.map aQ.pv,N.runs.map bg.pv,N.br.map aR.pv,l.map Path.pv,N.aP.map bp.pv,N.bE,N.within,N.cap,0,0,0,seen xx ((l.map bG).take k),())) l.length _ (fin:=cH (l.map Path.pv,(l.length:Int),(l.length:Int),N.stops.map Stop.pv,N.ao.map aQ.pv,N.runs.map bg.pv,N.br.map aR.pv,l.map Path.pv,N.aP.map bp.pv,N.bE,N.within,N.cap,0,0,0,seen xx ((l.map bG).take l.length),()) fun _=>none) (fun k hk rec=>Hq N l n hl hlen k hk rec) (fun rec=>?_) (by have:=aF;omega) (s0:=(l.map Path.pv,(l.length:Int),0,N.stops.map Stop.pv,N.ao.map aQ.pv,N.runs.map bg.pv,N.br.map aR.pv,l.map Path.pv,N.aP.map bp.pv,N.bE,N.within,N.cap,0,0,0,[],())) rfl
  ·simp_all[CC,QU]
  simp[cH,QU]
def kS(x:bg):Bytes×Int×Int:=(x.id,x.day,x.inst)
def Qa(x:Bytes×Int×Int):PV:=.agg [.str x.1,.int .i64 x.2.1,.int .i64 x.2.2]
theorem aaM(a b:Bytes×Int×Int):bO (Qa a).cells (Qa b).cells=decide (a=b):=by obtain⟨a1,a2,a3⟩:=a;obtain⟨b1,b2,b3⟩:=b;rw[aoy];simp[Qa,PV.cells,bO,peq]
def xo(l:List bg)(stops ao:Int)(k:Nat):Int:=match l[k]? with
 |none=>0
 |some x=>if fR x.id=false then 12 else if(decide (x.bn< -1)||decide (x.inst<0))=true then 2 else if(decide (x.day<0)||decide (x.day>36524))=true then 11 else if(decide (x.bX<0)||decide (x.bX≥ao))=true then 9 else if(lD x.calls stops 0 3155932800).2=0 then(if kS x∈(l.map kS).take k then 6 else 0)else(lD x.calls stops 0 3155932800).2
def zA(l:List bg)(stops ao:Int):Int×Int:=if l.length>1024 then(0,5)else cE (xo l stops ao) l.length
theorem S4(N:aW)(l:List bg)(hl:l.length≤maxLen∧∀y∈l,y.Ok)(k:Nat)(hk:k<l.length)(rec:ad9→Option PV):gT (l.map bg.pv,(l.length:Int),(k:Int),N.stops.map Stop.pv,N.ao.map aQ.pv,l.map bg.pv,N.br.map aR.pv,N.paths.map Path.pv,N.aP.map bp.pv,N.bE,N.within,N.cap,0,0,0,seen Qa ((l.map kS).take k),()) rec=bC (if xo l N.stops.length N.ao.length k=0 then none else some (some (r3 2 k (xo l N.stops.length N.ao.length k)))) (rec (l.map bg.pv,(l.length:Int),((k+1:Nat):Int),N.stops.map Stop.pv,N.ao.map aQ.pv,l.map bg.pv,N.br.map aR.pv,N.paths.map Path.pv,N.aP.map bp.pv,N.bE,N.within,N.cap,0,0,0,seen Qa ((l.map kS).take (k+1)),())):=by
 have hm:=ar;have h1:decide ((k:Int)<(l.length:Int))=true:=by simp;omega
 have hO:=hl.2 _ (an7 hk);have hid:=yF l[k].id hO.id;have qp:=Mn l[k].calls N.stops.length 0 3155932800 hO.calls.1;simp only[res]at qp;have nf:dd (.agg [.str l[k].id,.int .i64 l[k].day,.int .i64 l[k].inst]) (.bool true) (seen Qa ((l.map kS).take k))=_:=fJ aaM (kS l[k]) ((l.map kS).take k);have ko:bS (.agg [.str l[k].id,.int .i64 l[k].day,.int .i64 l[k].inst]) (.bool false) (seen Qa ((l.map kS).take k))=_:=eM aaM (kS l[k]) ((l.map kS).take k);unfold gT;dsimp only;rw[No h1,af,AT,ta hk];simp only[IS,U,ET,EU,NP,SJ,SK,EV,aZ,asInt,asBool,ah,BY,te,hid,qp,bN,alx,an5,Nat.reduceAdd,aev,ali,aT,fb,nf,ko,P6,YQ,r30,r31,XH,jR kS l k hk,ag (show k<9223372036854775807 by omega)];unfold xo;rw[ta hk];simp only;generalize (decide (l[k].bn< -1)||decide (l[k].inst<0))=A;generalize (decide (l[k].day<0)||decide (l[k].day>36524))=B;generalize (decide (l[k].bX<0)||decide (l[k].bX≥(N.ao.length:Int)))=C;generalize (lD l[k].calls N.stops.length 0 3155932800).2=e;cases fR l[k].id with
 |false=>rfl
 |true=>
  cases A with
  |true=>rfl
  |false=>
   cases B with
   |true=>rfl
   |false=>
    cases C with
    |true=>rfl
    |false=>
     simp only[alk,AI,aod,OF];by_cases he:e=0
     ·subst he;by_cases bk:kS l[k]∈(l.map kS).take k
      ·simp only[bk,BY,aot,alk,AI,OF];rfl
      ·simp only[bk,BY,aot,aoo,alk,AI,OF];rfl
     ·simp only[he,OF,BY,aoo,aoj];rfl
theorem N0(N:aW)(hl:N.runs.length≤maxLen∧∀y∈N.runs,y.Ok):iC [N.pv]=some (prt 2 (zA N.runs N.stops.length N.ao.length)):=by
 have hm:=ar;simp only[iC,pA,KO,KP,KQ,KS,KT,KU,KV,KW,KX,KY,U,te];generalize hl':N.runs=l at hl⊢;unfold zA;by_cases kH:l.length>1024
 ·rw[No (by simp;omega),No kH];rfl
 ·rw[QU (by simp;omega),QU kH];have hR:some (prt 2 (cE (xo l N.stops.length N.ao.length) l.length))=if(cE (xo l N.stops.length N.ao.length) l.length).2=0 then some (r3 0 0 0)else some (r3 2 (cE (xo l N.stops.length N.ao.length) l.length).1 (cE (xo l N.stops.length N.ao.length) l.length).2):=by unfold prt;grind
  rw[hR,←CC (xo l N.stops.length N.ao.length) l.length (fun i e=>r3 2 i e)];refine aB (fun k=>(l.map bg.pv,(l.length:Int),(k:Int),N.stops.map Stop.pv,N.ao.map aQ.pv,l.map bg.pv,N.br.map aR.pv,N.paths.map Path.pv,N.aP.map bp.pv,N.bE,N.within,N.cap,0,0,0,seen Qa ((l.map kS).take k),())) l.length _ (fun k hk rec=>S4 N l hl k hk rec) (fun rec=>?_) ?_ rfl
  ·unfold gT;dsimp only;rw[QU (by simp)];rfl
  ·have:=aF;omega
def nx(p:List aR)(v:Int):Option Int:=p.foldl (fun o x=>if(x.stay&&decide (x.a=v))=true then some x.b else o) none
theorem zC(p:List aR)(x:aR)(v:Int):nx (p++[x]) v=if(x.stay&&decide (x.a=v))=true then some x.b else nx p v:=by unfold nx;simp
def it(f:Int→Option Int):Nat→Int→Option Int
 |0,v=>some v
 |m+1,v=>(f v).bind (it f m)
theorem aea(f:Int→Option Int)(m:Nat)(v:Int):it f (m+1) v=(it f m v).bind f:=by
 induction m generalizing v with
 |zero=>show(f v).bind (it f 0)=f v;cases h:f v<;>rfl
 |succ m ih=>
  show(f v).bind (it f (m+1))=((f v).bind (it f m)).bind f;cases h:f v with
  |none=>rfl
  |some w=>exact ih w
def zD(p:List aR)(a b:Int)(n:Nat):Bool:=(List.range n).any fun t=>decide (it (nx p) (t+1) a=some b)
def Bo(f:Int→Option Int):Prop:=∃r:Int→Nat,∀v w,f v=some w→r w<r v
theorem JO:Bo (nx []):=⟨fun _=>0,fun v w h=>by cases h⟩
variable{p:List aR}
theorem SZ{v w:Int}(h:nx p v=some w):∃x∈p,x.stay=true∧x.a=v∧x.b=w:=by
 have key:∀n,n≤p.length→nx (p.take n) v=some w→∃x∈p,x.stay=true∧x.a=v∧x.b=w:=by
  intro n;induction n with
  |zero=>intro _ h;cases h
  |succ n ih=>
   intro hn h;have T4:n<p.length:=by omega
   rw[aom T4,zC]at h;grind
 exact key p.length (aoa _) (by simp_all)
theorem JP{f:Int→Option Int}(hf:Bo f)(S:List Int)(hS:∀v w,f v=some w→v∈S):∀m v,it f m v≠none→m≤S.length:=by
 obtain⟨r,hr⟩:=hf;induction hn:S.length generalizing S f r with
 |zero=>
  intro m v h;cases m with
  |zero=>omega
  |succ m=>
   exfalso;cases hfv:f v with
   |none=>exact h (by show(f v).bind _=none;rw[hfv];rfl)
   |some w=>simp_all
 |succ n ih=>
  intro m v h;cases m with
  |zero=>omega
  |succ m=>
   cases hfv:f v with
   |none=>exact absurd (by show(f v).bind _=none;rw[hfv];rfl) h
   |some w=>
    have hvS:=hS v w hfv;let g:Int→Option Int:=fun x=>if x=v then none else f x;have hg:∀x y,g x=some y→r y<r x:=fun x y hxy=>by grind
    have hgS:∀x y,g x=some y→x∈S.erase v:=fun x y hxy=>by grind
    have hlen:(S.erase v).length=n:=by simp_all
    have ae1:∀k x,r x<r v→it g k x=it f k x:=by
     intro k;induction k with
     |zero=>intros;rfl
     |succ k ihk=>
      intro x hx;have hxv:x≠v:=fun h=>by subst h;omega
      show(g x).bind (it g k)=(f x).bind (it f k);have:g x=f x:=by simp[g,hxv]
      rw[this];cases hfx:f x with
      |none=>rfl
      |some y=>grind
    have hw:it f m w≠none:=by simp_all[it]
    have:=ih (S.erase v) hgS r hg hlen m w (by simp_all);omega
theorem N1(hp:Bo (nx p)){m:Nat}(hm:p.length<m)(v:Int):it (nx p) m v=none:=by
 cases h:it (nx p) m v with
 |none=>rfl
 |some w=>have:=JP hp (p.map aR.a) (fun x y hxy=>by grind [SZ]) m v (by simp_all);grind
theorem Hl(hp:Bo (nx p))(x:aR)(h:x.stay=false∨(x.a≠x.b∧nx p x.a=none∧zD p x.b x.a (p.length+1)=false)):Bo (nx (p++[x])):=by
 cases hs:x.stay with
 |false=>obtain⟨r,hr⟩:=hp;refine⟨r,fun v w hvw=>hr v w ?_⟩;simp_all[zC,apF,QU]
 |true=>
  rw[hs]at h;rcases h with h|⟨sn,hna,anH⟩
  ·cases h
  have Oy:=hp;obtain⟨r,hr⟩:=hp;have A1:∀t,it (nx p) (t+1) x.b≠some x.a:=by grind [zD,List.any_eq_false,N1]
  let R:Int→Prop:=fun v=>∃t,it (nx p) t v=some x.a;have hRb:¬R x.b:=fun⟨t,ht⟩=>by
   cases t with
   |zero=>simp_all[it]
   |succ t=>exact A1 t ht
  refine⟨fun v=>open Classical in if R v then r v+r x.b+1 else r v,fun v w hvw=>?_⟩;rw[zC,hs,ao4]at hvw;by_cases hv:x.a=v
  ·rw[No (by simpa using hv)]at hvw;simp only[tb]at hvw;subst hvw;have hRv:R v:=⟨0,by show some v=some x.a;rw[hv]⟩;grind
  ·rw[QU (by simpa using hv)]at hvw;have bF:=hr v w hvw;show(open Classical in if R w then r w+r x.b+1 else r w)<(open Classical in if R v then r v+r x.b+1 else r v);by_cases hw:R w
   ·have hRv:R v:=by obtain⟨t,ht⟩:=hw;exact⟨t+1,by simp_all[nx,it]⟩
    simp_all
   ·rw[QU hw];by_cases hRv:R v
    ·rw[No hRv];omega
    simp_all
def wj(a:Int):PV:=.int .i64 a
def jE(x:aR):Int×Int×Int×Int:=(x.a,x.ac,x.b,x.bc)
def Qb(x:Int×Int×Int×Int):PV:=.agg [.int .i64 x.1,.int .i64 x.2.1,.int .i64 x.2.2.1,.int .i64 x.2.2.2]
theorem aaN(a b:Int×Int×Int×Int):bO (Qb a).cells (Qb b).cells=decide (a=b):=by obtain⟨a1,a2,a3,a4⟩:=a;obtain⟨b1,b2,b3,b4⟩:=b;rw[aoy];simp[Qb,PV.cells,bO,peq]
def Db(p:List aR):List (Int×PV):=p.foldl (fun m x=>if x.stay=true then E1 x.a (.int .i64 x.b) m else m) []
theorem DN(p:List aR)(x:aR):Db (p++[x])=if x.stay=true then E1 x.a (.int .i64 x.b) (Db p)else Db p:=by unfold Db;simp
def XJ(a:Int)(m:List (Int×PV)):Bool:=m.any fun x=>decide (a=x.1)
theorem UG(a:Int):∀m,ml (wj a) (An wj m)=XJ a m
 |[]=>rfl
 |(b,u)::r=>by have:=UG a r;simp only[An]at this;simp only[An,aog,ml,XJ,aqr];rw[this];have:bO (wj a).cells (wj b).cells=decide (a=b):=CD a b;rw[this];rfl
theorem Qc(a b:Int)(v:PV):∀m,XJ a (E1 b v m)=(decide (a=b)||XJ a m)
 |[]=>by rfl
 |(c,u)::r=>by
  have:=Qc a b v r;simp only[XJ]at this⊢;by_cases h:b=c
  ·subst h;simp[E1]
  ·simp only[E1,h,OF,aqr,this];grind
theorem JX{A:Type}{P:List A→Prop}(h0:P [])(h1:∀p x,P p→P (p++[x]))(l:List A):P l:=by
 have key:∀n,n≤l.length→P (l.take n):=by
  intro n;induction n with
  |zero=>simp_all
  |succ n ih=>grind [List.take_succ_eq_append_getElem]
 have:=key l.length (aoa _);simp_all
theorem XK(p:List aR)(v:Int):Bx v (.int .i64 0) (Db p)=.int .i64 ((nx p v).getD 0):=by
 induction p using JX with
 |h0=>rfl
 |h1 p x ih=>
  rw[DN,zC];cases hs:x.stay with
  |false=>simp_all
  |true=>rw[No rfl,Gh,ao4];grind
theorem aaO(p:List aR)(v:Int):XJ v (Db p)=(nx p v).isSome:=by
 induction p using JX with
 |h0=>rfl
 |h1 p x ih=>
  rw[DN,zC];cases hs:x.stay with
  |false=>simp_all
  |true=>rw[No rfl,Qc,ao4];grind
def rW(p:List aR):List (PV×PV):=An wj (Db p)
theorem DO(p:List aR)(v:Int):bS (.int .i64 v) (.int .i64 0) (rW p)=.int .i64 ((nx p v).getD 0):=by have:=JY (key:=wj) CD v (.int .i64 0) (Db p);rw[XK]at this;exact this
theorem Gi(p:List aR)(v:Int):ml (.int .i64 v) (rW p)=(nx p v).isSome:=by have:=UG v (Db p);rw[aaO]at this;exact this
theorem S5(p:List aR)(x:aR):rW (p++[x])=if x.stay=true then dd (.int .i64 x.a) (.int .i64 x.b) (rW p)else rW p:=by
 have:=N2 (key:=wj) CD x.a (.int .i64 x.b) (Db p);unfold rW;rw[DN];by_cases h:x.stay=true
 ·rw[No h,No h];exact this.symm
 simp_all
def tl(p:List aR):List Int:=(p.filter aR.stay).map aR.b
theorem S6(p:List aR)(x:aR):tl (p++[x])=if x.stay=true then tl p++[x.b]else tl p:=by grind [tl]
theorem XE(p:List aR)(v:Int):(nx p v).isSome=p.any fun y=>y.stay&&decide (y.a=v):=by
 induction p using JX with
 |h0=>rfl
 |h1 p x ih=>rw[zC,List.any_append,←ih];grind
theorem aaH(p:List aR)(v:Int):decide (v∈tl p)=p.any fun y=>y.stay&&decide (y.b=v):=by rw[aoy,tc];simp only[tl,tc,aoi,aok,ao7,aeu];grind
def agq(f:Int→Option Int)(a b:Int)(t:Nat):Option (Option PV):=(it f (t+1) a).elim (some (some (.bool false))) fun v=>if v=b then some (some (.bool true))else none
theorem S7(f:Int→Option Int)(b:Int)(n:Nat):∀a,it f (n+1) a=none→bC ((List.range n).findSome? (agq f a b)) (some (.bool false))=some (.bool ((List.range (n+1)).any fun t=>decide (it f (t+1) a=some b))):=by
 induction n with
 |zero=>intro a h;simp[bC,h]
 |succ n ih=>
  intro a h;rw[apB (n:=n+1),apB (n:=n),ao3,aqr];have h0:it f (0+1) a=f a:=by show(f a).bind (it f 0)=f a;cases hf:f a<;>rfl
  unfold agq;rw[h0];cases hf:f a with
  |none=>
   have hz:∀t,it f (t+1) a=none:=fun t=>by show(f a).bind _=none;rw[hf];rfl
   simp_all[Option.elim,bC,List.any_map,apH]
  |some v=>
   have hs:∀t,it f (t+1+1) a=it f (t+1) v:=fun t=>by show(f a).bind _=_;rw[hf];rfl
   by_cases hv:v=b
   ·simp_all[Option.elim,BY,bC,aot,arc]
   ·have hd:decide (some v=some b)=false:=by simpa using hv
    simp only[Option.elim,QU hv,hd,apO];have:=ih v (by rw[←hs];omega);rw[List.findSome?_map,List.any_map];simp only[apH,Nat.succ_eq_add_one,hs];rw[←apB];exact this
theorem S8(p:List aR)(hp:Bo (nx p))(hl:p.length≤maxLen)(a b:Int):mP [.rm 3 ((rW p).map fun x=>x.fst) ((rW p).map fun x=>x.snd),.int .i64 a,.int .i64 b]=some (.bool (zD p a b (p.length+1))):=by
 have hz:((rW p).map fun x=>x.fst).zip ((rW p).map fun x=>x.snd)=rW p:=by
  generalize rW p=m;induction m with
  |nil=>rfl
  |cons x m ih=>simp_all
 simp only[mP,xy,cJ,BY,asInt,U,hz,DO,Gi];unfold zD;rw[←S7 (nx p) b p.length a (N1 hp (by omega) a)];refine aB (fun t=>(PV.rm 3 ((rW p).map fun x=>x.fst) ((rW p).map fun x=>x.snd),b,(it (nx p) (t+1) a).getD 0,(it (nx p) (t+1) a).isSome,())) p.length _ (fun t ht rec=>?_) (fun rec=>?_) (by have:=aF;omega) ?_
 ·unfold lK agq;dsimp only;rw[aea (nx p) (t+1) a];cases hv:it (nx p) (t+1) a with
  |none=>rfl
  |some v=>
   simp only[aqa,aoD,BY,cZ,tc,Option.elim];by_cases hvb:v=b
   ·rw[No hvb,No hvb];rfl
   ·rw[QU hvb,QU hvb];simp only[cJ,BY,hz,DO,Gi,asInt,U,bC,aoe]
 ·unfold lK;dsimp only;rw[N1 hp (by omega)];rfl
 ·show(_,b,(it (nx p) 1 a).getD 0,(it (nx p) 1 a).isSome,())=_;have:it (nx p) 1 a=nx p a:=by show(nx p a).bind _=_;cases nx p a<;>rfl
  rw[this]
def db(runs:List bg)(a:Int):List aJ:=((runs[a.toNat]?).map bg.calls).getD []
def xp(cs:List aJ)(c:Int):Int:=((cs[c.toNat]?).map aJ.stop).getD 0
def PZ(x:aR)(R:Int):Bool:= !(decide (x.a≥0)&&decide (x.a<R))|| !(decide (x.b≥0)&&decide (x.b<R))||decide (x.a=x.b)
def Me(x:aR)(A B:Int):Bool:= !(decide (x.ac≥0)&&decide (x.ac<A))|| !(decide (x.bc≥0)&&decide (x.bc<B))
def Hm(p:List aR)(x:aR)(A:Int):Bool:=x.stay&&(!decide (x.ac+1=A)|| !decide (x.bc=0)||(nx p x.a).isSome||decide (x.b∈tl p)||zD p x.b x.a (p.length+1))
def lF(runs:List bg)(l:List aR)(k:Nat):Int:=match l[k]? with
 |none=>0
 |some x=>if PZ x runs.length=true then 9 else if Me x (db runs x.a).length (db runs x.b).length=true then 9 else if xp (db runs x.a) x.ac≠xp (db runs x.b) x.bc then 13 else if Hm (l.take k) x (db runs x.a).length=true then 19 else if jE x∈(l.map jE).take k then 6 else 0
def uR(runs:List bg)(l:List aR):Int×Int:=if l.length>1024 then(0,5)else cE (lF runs l) l.length
theorem S9(runs:List bg)(l:List aR)(k:Nat)(hk:k≤l.length)(h:∀j,j<k→lF runs l j=0):Bo (nx (l.take k))∧∀x∈l.take k,0≤x.a:=by
 induction k with
 |zero=>simp[ap4,JO]
 |succ k ih=>
  have qo:k<l.length:=by omega
  obtain⟨h1,h2⟩:=ih (by omega) fun j hj=>h j (by omega);have hz:=h k (by omega);unfold lF at hz;rw[ta qo]at hz;simp only at hz;have hr:PZ l[k] runs.length=false:=by grind
  have hs:Hm (l.take k) l[k] (db runs l[k].a).length=false:=by grind
  unfold PZ at hr;simp only[aoC,apE,aeu,tc,aoP]at hr;rw[aom qo];refine⟨Hl h1 l[k] ?_,fun x hx=>?_⟩
  ·unfold Hm at hs;cases fo:l[k].stay with
   |false=>simp
   |true=>simp_all
  grind
theorem Qd(runs:List bg)(a:Int)(h:0≤a∧a<(runs.length:Int)):∃r∈runs,og (runs.map bg.pv) a=some r.pv∧db runs a=r.calls:=by
 obtain⟨n,rfl⟩:=apN h.1;have hn:n<runs.length:=by omega
 refine⟨runs[n],an7 hn,?_,?_⟩
 ·rw[af,AT,ta hn];rfl
 ·unfold db;simp_all
theorem Mo(cs:List aJ)(c:Int)(h:0≤c∧c<(cs.length:Int)):∃r,og (cs.map aJ.pv) c=some r∧cell r 0=.int .i64 (xp cs c):=by
 obtain⟨n,rfl⟩:=apN h.1;have hn:n<cs.length:=by omega
 refine⟨cs[n].pv,?_,?_⟩
 ·rw[af,AT,ta hn];rfl
 ·unfold xp;rw[an9,ta hn];rfl
theorem Qe{runs:List bg}(h:∀y∈runs,y.Ok)(a:Int):(db runs a).length≤maxLen:=by
 unfold db;cases hr:runs[a.toNat]? with
 |none=>simp
 |some r=>exact(h r (an4 hr)).calls.1
theorem Qf(N:aW)(runs:List bg)(hr:∀y∈runs,y.Ok)(l:List aR)(hl:l.length≤maxLen)(k:Nat)(hk:k<l.length)(W3:∀j,j<k→lF runs l j=0)(rec:TY0→Option PV):gx (l.map aR.pv,(l.length:Int),(k:Int),N.stops.map Stop.pv,N.ao.map aQ.pv,runs.map bg.pv,l.map aR.pv,N.paths.map Path.pv,N.aP.map bp.pv,N.bE,N.within,N.cap,0,0,0,rW (l.take k),seen wj (tl (l.take k)),seen Qb ((l.map jE).take k),()) rec=bC (if lF runs l k=0 then none else some (some (r3 3 k (lF runs l k)))) (rec (l.map aR.pv,(l.length:Int),((k+1:Nat):Int),N.stops.map Stop.pv,N.ao.map aQ.pv,runs.map bg.pv,l.map aR.pv,N.paths.map Path.pv,N.aP.map bp.pv,N.bE,N.within,N.cap,0,0,0,rW (l.take (k+1)),seen wj (tl (l.take (k+1))),seen Qb ((l.map jE).take (k+1)),())):=by
 have hm:=ar;have h1:decide ((k:Int)<(l.length:Int))=true:=by simp;omega
 obtain⟨ajp,_⟩:=S9 runs l k (by omega) W3;have hlen:(l.take k).length=k:=by simp;omega
 have agr:=S8 (l.take k) ajp (by omega) l[k].b l[k].a;have nf:dd (.agg [.int .i64 l[k].a,.int .i64 l[k].ac,.int .i64 l[k].b,.int .i64 l[k].bc]) (.bool true) (seen Qb ((l.map jE).take k))=_:=fJ aaN (jE l[k]) ((l.map jE).take k);have ko:bS (.agg [.int .i64 l[k].a,.int .i64 l[k].ac,.int .i64 l[k].b,.int .i64 l[k].bc]) (.bool false) (seen Qb ((l.map jE).take k))=_:=eM aaN (jE l[k]) ((l.map jE).take k);have ajq:dd (.int .i64 l[k].b) (.bool true) (seen wj (tl (l.take k)))=_:=fJ (key:=wj) CD l[k].b (tl (l.take k));have ags:bS (.int .i64 l[k].b) (.bool false) (seen wj (tl (l.take k)))=_:=eM (key:=wj) CD l[k].b (tl (l.take k));have hsn:l.take (k+1)=l.take k++[l[k]]:=aom hk;unfold gx;dsimp only;rw[No h1,af,AT,ta hk,hsn,S5,S6,jR jE l k hk];simp only[IS,U,ajk,ajl,link2,ajm,ajn,asInt,asBool,BY,te,DM,aT,cZ];unfold lF;rw[ta hk];simp only;have hR:(!(decide (l[k].a≥0)&&decide (l[k].a<(runs.length:Int)))|| !(decide (l[k].b≥0)&&decide (l[k].b<(runs.length:Int)))||decide (l[k].a=l[k].b))=PZ l[k] runs.length:=rfl;rw[hR];cases hb:PZ l[k] runs.length with
 |true=>rfl
 |false=>
  unfold PZ at hb;simp only[aoC,apE,aeu,tc,aoP]at hb;obtain⟨ra,hra,hia,hca⟩:=Qd runs l[k].a ⟨hb.1.1.1,hb.1.1.2⟩;obtain⟨rb,hrb,hib,hcb⟩:=Qd runs l[k].b ⟨hb.1.2.1,hb.1.2.2⟩;have hA:=Qe hr l[k].a;rw[hia,hib];simp only[U,EV,ah,BY,te,←hca,←hcb,DM,asBool,aT];have hC:(!(decide (l[k].ac≥0)&&decide (l[k].ac<((db runs l[k].a).length:Int)))|| !(decide (l[k].bc≥0)&&decide (l[k].bc<((db runs l[k].b).length:Int))))=Me l[k] (db runs l[k].a).length (db runs l[k].b).length:=rfl;rw[hC];cases Xk:Me l[k] (db runs l[k].a).length (db runs l[k].b).length with
  |true=>rfl
  |false=>
   unfold Me at Xk;simp only[aoC,apE,aeu,tc]at Xk;obtain⟨ka,hka,hsa⟩:=Mo (db runs l[k].a) l[k].ac Xk.1;obtain⟨kb,hkb,hsb⟩:=Mo (db runs l[k].b) l[k].bc Xk.2;have hw:IntKind.i64.wrap (l[k].ac+1)=l[k].ac+1:=aY (by omega) (by omega);simp only[AI,OF,hka,hkb,U,hsa,hsb,DO,Gi,ko,ags,nf,ajq,asInt,asBool,BY,agr,hw,hlen,aT,bI,fb,P6,YQ,r30,r31,XH,ag (show k<9223372036854775807 by omega)];have hS:(l[k].stay&&(!decide (l[k].ac+1=((db runs l[k].a).length:Int))|| !decide (l[k].bc=0)||(nx (l.take k) l[k].a).isSome||decide (l[k].b∈tl (l.take k))||zD (l.take k) l[k].b l[k].a (k+1)))=Hm (l.take k) l[k] (db runs l[k].a).length:=by unfold Hm;rw[hlen]
   rw[hS];generalize Hm (l.take k) l[k] (db runs l[k].a).length=S;by_cases fo:xp (db runs l[k].a) l[k].ac=xp (db runs l[k].b) l[k].bc
   ·simp only[fo,aot,alk,AI,OF,arn,not_true];cases S with
    |true=>rfl
    |false=>
     by_cases bk:jE l[k]∈(l.map jE).take k
     ·simp only[bk,aot,BY,AI,OF];rfl
     ·simp only[bk,aoo,BY,AI,OF];cases l[k].stay<;>rfl
   ·simp only[fo,aoo,aoj,BY,arn,not_false_eq_true];rfl
theorem K3(N:aW)(hr:N.runs.length≤maxLen∧∀y∈N.runs,y.Ok)(hl:N.br.length≤maxLen):fg [N.pv]=some (prt 3 (uR N.runs N.br)):=by
 have hm:=ar;simp only[fg,nA,KO,KP,KQ,KS,KT,KU,KV,KW,KX,KY,U,te];generalize hl':N.br=l at hl⊢;generalize Fu:N.runs=runs at hr⊢;unfold uR;by_cases kH:l.length>1024
 ·rw[No (by simp;omega),No kH];rfl
 ·rw[QU (by simp;omega),QU kH];have hR:some (prt 3 (cE (lF runs l) l.length))=if(cE (lF runs l) l.length).2=0 then some (r3 0 0 0)else some (r3 3 (cE (lF runs l) l.length).1 (cE (lF runs l) l.length).2):=by unfold prt;grind
  rw[hR,←CC (lF runs l) l.length (fun i e=>r3 3 i e)];refine K1 (fun k=>(l.map aR.pv,(l.length:Int),(k:Int),N.stops.map Stop.pv,N.ao.map aQ.pv,runs.map bg.pv,l.map aR.pv,N.paths.map Path.pv,N.aP.map bp.pv,N.bE,N.within,N.cap,0,0,0,rW (l.take k),seen wj (tl (l.take k)),seen Qb ((l.map jE).take k),())) l.length _ (fun k hk W3 rec=>Qf N runs hr.2 l hl k hk (fun j hj=>?_) rec) (fun _ rec=>?_) (by have:=aF;omega) rfl
  ·simp_all
  ·unfold gx;dsimp only;rw[QU (by simp)];rfl
def zm(N:aW):Int×Int×Int:=
 if(jC N.stops).2=0 then
  if(gQ N.ao).2=0 then
   if(zA N.runs N.stops.length N.ao.length).2=0 then
    if(uR N.runs N.br).2=0 then
     if(rV N.paths N.stops.length).2=0 then if(kn N.aP N.bE N.within N.cap).2=0 then(0,0,0)else(5,kn N.aP N.bE N.within N.cap)
     else(4,rV N.paths N.stops.length)
    else(3,uR N.runs N.br)
   else(2,zA N.runs N.stops.length N.ao.length)
  else(1,gQ N.ao)
 else(0,jC N.stops)
def EW(x:Int×Int×Int):PV:=.aI [.int .i64 x.1,.int .i64 x.2.1,.int .i64 x.2.2]
theorem r3E(p i e:Int):PV.agg [cell (r3 p i e) 0,cell (r3 p i e) 1,cell (r3 p i e) 2]=r3 p i e:=rfl
theorem r3F(p i e:Int):PV.agg [.int .i64 p,.int .i64 i,.int .i64 e]=r3 p i e:=rfl
theorem Bz(p i e q j f:Int):eo [.rs 3 [r3 p i e,r3 q j f]]=some (if e=0 then(if f=0 then r3 0 0 0 else r3 q j f)else r3 p i e):=by
 simp only[eo,xz,ah,BY,U];have h0:=aB (body:=lL) (fun k=>([r3 p i e,r3 q j f],(2:Int),(k:Int),0,0,0,())) 2 (fun k=>if k=0 then(if e=0 then none else some (some (r3 p i e)))else(if f=0 then none else some (some (r3 q j f)))) (fin:=some (r3 0 0 0)) (fun k hk rec=>?_) (fun rec=>?_) (by decide) (s0:=([r3 p i e,r3 q j f],(2:Int),0,0,0,0,())) rfl
 ·refine h0.trans ?_;have:List.range 2=[0,1]:=rfl;grind [bC]
 ·have h2:k=0∨k=1:=by omega
  rcases h2 with rfl|rfl
  ·unfold lL;dsimp only;rw[No (by simp),af];simp only[aoR,U,XH,asInt,BY,fb,r3E,ag (show 0<9223372036854775807 by omega)];by_cases he:e=0
   ·simp only[he,aot,alk,AI,OF,BY];rfl
   ·simp only[he,aoo,aoj,OF,BY];rfl
  ·unfold lL;dsimp only;rw[No (by simp),af];simp only[apP,aoR,U,XH,asInt,BY,fb,r3E,ag (show 1<9223372036854775807 by omega)];by_cases he:f=0
   ·simp only[he,aot,alk,AI,OF,BY];rfl
   ·simp only[he,aoo,aoj,OF,BY];rfl
 rfl
theorem Ta(p:Int)(x:Int×Int):prt p x=if x.2=0 then r3 0 0 0 else r3 p x.1 x.2:=rfl
theorem L5{l:List Stop}(h:(jC l).2=0):l.length≤64:=by unfold jC at h;grind
theorem JZ(a b:Int):(a==b)=decide (a=b):=cZ a b
theorem SL(N:aW)(h:N.Ok)(hp:N.paths.length≤8192):mQ [N.pv]=some (EW (zm N)):=by
 have hs:=Mi N.stops h.stops;have hr:=JT N.ao h.ao;have hu:=N0 N h.runs;have hl:=K3 N h.runs h.br.1;have hf:=JU N.aP N.bE N.within N.cap h.aP;unfold CB at hf;simp only[mQ,xA,KO,KP,KQ,KS,KT,KU,KV,KW,KX,KY,U,agm];simp only[hs,hr,hf,hu,hl,U,res,bN,alx,an5,Nat.reduceAdd,BY,aev,ali,P6,YQ,r3F,Bz];unfold zm;by_cases h1:(jC N.stops).2=0
 ·have hpa:=K2 N (L5 h1) hp;simp only[hpa,U,h1,BY];by_cases h2:(gQ N.ao).2=0
  ·simp only[h2,BY];rw[Ta 2,Ta 3,Ta 4];by_cases h3:(zA N.runs N.stops.length N.ao.length).2=0
   ·simp only[h3,BY];by_cases h4:(uR N.runs N.br).2=0
    ·simp only[h4,BY];by_cases h5:(rV N.paths N.stops.length).2=0
     ·simp only[h5,BY];by_cases h6:(kn N.aP N.bE N.within N.cap).2=0
      ·simp only[h6,BY,YQ,r3F,r30,r31,XH,asInt,U,Bz,JZ,aot,aoo,AI,EW]
      ·simp only[h6,BY,OF,YQ,r3F,r30,r31,XH,asInt,U,Bz,JZ,aot,aoo,AI,EW]
     ·simp only[h5,BY,OF,YQ,r3F,r30,r31,XH,asInt,U,Bz,JZ,aot,aoo,AI,EW]
    ·simp only[h4,BY,OF,YQ,r3F,r30,r31,XH,asInt,U,Bz,JZ,aot,aoo,AI,EW]
   ·simp only[h3,BY,OF,YQ,r3F,r30,r31,XH,asInt,U,Bz,JZ,aot,aoo,AI,EW]
  ·simp only[h2,BY,OF,YQ,r3F,r30,r31,XH,asInt,U,Bz,JZ,aot,aoo,AI,EW]
 ·simp only[h1,BY,OF,YQ,r3F,r30,r31,XH,asInt,U,Bz,JZ,aot,aoo,AI,EW]
theorem Stop.peq(x y:Stop):bO [cell x.pv 0,cell x.pv 1,cell x.pv 2,cell x.pv 3] [cell y.pv 0,cell y.pv 1,cell y.pv 2,cell y.pv 3]=decide (x=y):=by cases x;cases y;rw[aoy];simp[cell,Stop.pv,PV.cells,bO,Ab.peq]
theorem aQ.peq(x y:aQ):bO [cell x.pv 0,cell x.pv 1,cell x.pv 2] [cell y.pv 0,cell y.pv 1,cell y.pv 2]=decide (x=y):=by cases x;cases y;rw[aoy];simp[cell,aQ.pv,PV.cells,bO,Ab.peq]
theorem aJ.peq(x y:aJ):bO [cell x.pv 0,cell x.pv 1,cell x.pv 2,cell x.pv 3,cell x.pv 4] [cell y.pv 0,cell y.pv 1,cell y.pv 2,cell y.pv 3,cell y.pv 4]=decide (x=y):=by cases x;cases y;rw[aoy];simp[cell,aJ.pv,PV.cells,bO,Ab.peq]
theorem aR.peq(x y:aR):bO [cell x.pv 0,cell x.pv 1,cell x.pv 2,cell x.pv 3,cell x.pv 4] [cell y.pv 0,cell y.pv 1,cell y.pv 2,cell y.pv 3,cell y.pv 4]=decide (x=y):=by cases x;cases y;rw[aoy];simp[cell,aR.pv,PV.cells,bO,Ab.peq]
theorem Path.peq(x y:Path):bO [cell x.pv 0,cell x.pv 1,cell x.pv 2,cell x.pv 3] [cell y.pv 0,cell y.pv 1,cell y.pv 2,cell y.pv 3]=decide (x=y):=by cases x;cases y;rw[aoy];simp[cell,Path.pv,PV.cells,bO,Ab.peq]
theorem bp.peq(x y:bp):bO [cell x.pv 0,cell x.pv 1,cell x.pv 2,cell x.pv 3,cell x.pv 4,cell x.pv 5] [cell y.pv 0,cell y.pv 1,cell y.pv 2,cell y.pv 3,cell y.pv 4,cell y.pv 5]=decide (x=y):=by cases x;cases y;rw[aoy];simp[cell,bp.pv,PV.cells,bO,Ab.peq]
theorem we{a b:Nat}:((a:Int) !=(b:Int))= !decide (a=b):=by grind
theorem NO{c:Prop}[Decidable c]:(if c then some (PV.bool true)else some (PV.bool false))=some (PV.bool (decide c)):=by grind
theorem N3(a b:List aJ)(ha:a.length≤maxLen):kq [.rs 5 (a.map aJ.pv),.rs 5 (b.map aJ.pv)]=some (.bool (decide (a=b))):=by
 have hm:=ar;simp only[kq,sG,ah,BY,U,te];by_cases h:a.length=b.length
 ·rw[QU (by rw[we];simp[h])];refine(aB (fun k=>(a.map aJ.pv,b.map aJ.pv,(k:Int),())) a.length (fun k=>if a[k]?=b[k]? then none else some (some (PV.bool false))) (fun k hk rec=>?_) (fin:=some (PV.bool true)) (fun rec=>?_) (by have:=aF;omega) rfl).trans ?_
  ·have h1:decide ((k:Int)<(a.length:Int))=true:=by simp;omega
   have qo:k<b.length:=by omega
   unfold nB;dsimp only;try rw[te]
   rw[No h1,af,af,AT,AT,ta hk,ta qo];simp only[IS,U];rw[No ⟨rfl,rfl⟩,aJ.peq,ag (by omega)];grind [bC]
  ·simp[nB,QU]
  ·exact(tG a b h (some (PV.bool false)) (some (PV.bool true))).trans NO
 ·rw[No (by rw[we];simp[h])];have:a≠b:=fun e=>h (by rw[e]);simp[this]
def BA(l:List bp)(d w c:Int):PV:=.agg [.rs 6 (l.map bp.pv),.int .i64 d,.int .i64 w,.int .i64 c]
theorem tJ(a b:List bp)(d1 w1 c1 d2 w2 c2:Int)(ha:a.length≤maxLen):kr [BA a d1 w1 c1,BA b d2 w2 c2]=some (.bool (decide (d1=d2)&&decide (w1=w2)&&decide (c1=c2)&&decide (a=b))):=by
 have hm:=ar;have f0:∀l d w c,asAgg 4 (BA l d w c)=some ():=fun _ _ _ _=>rfl;have f1:∀l d w c,cell (BA l d w c) 0=.rs 6 (l.map bp.pv):=fun _ _ _ _=>rfl;have f2:∀l d w c,cell (BA l d w c) 1=.int .i64 d:=fun _ _ _ _=>rfl;have f3:∀l d w c,cell (BA l d w c) 2=.int .i64 w:=fun _ _ _ _=>rfl;have f4:∀l d w c,cell (BA l d w c) 3=.int .i64 c:=fun _ _ _ _=>rfl;simp only[kr,sH,f0,f1,f2,f3,f4,ah,asInt,BY,U,te,we,fb,aT];by_cases h:a.length=b.length
 ·by_cases e1:d1=d2
  ·by_cases e2:w1=w2
   ·by_cases e3:c1=c2
    ·rw[QU (by simp[h,e1,e2,e3])];simp only[e1,e2,e3,aot,ao4];refine(aB (fun k=>((k:Int),a.map bp.pv,d2,w2,c2,b.map bp.pv,d2,w2,c2,())) a.length (fun k=>if a[k]?=b[k]? then none else some (some (PV.bool false))) (fun k hk rec=>?_) (fin:=some (PV.bool true)) (fun rec=>?_) (by have:=aF;omega) rfl).trans ?_
     ·have h1:decide ((k:Int)<(a.length:Int))=true:=by simp;omega
      have qo:k<b.length:=by omega
      unfold nC;dsimp only;try rw[te]
      rw[No h1,af,af,AT,AT,ta hk,ta qo];simp only[IS,U];rw[No ⟨rfl,rfl⟩,bp.peq,ag (by omega)];grind [bC]
     ·simp[nC,QU]
     ·exact(tG a b h (some (PV.bool false)) (some (PV.bool true))).trans NO
    simp_all
   simp_all
  simp_all
 ·rw[No (by grind)];have:a≠b:=fun e=>h (by rw[e]);simp[this]
theorem Uz(x y:bg):decide (x=y)=(decide (x.bn=y.bn)&&decide (x.day=y.day)&&decide (x.inst=y.inst)&&decide (x.id=y.id)&&decide (x.bX=y.bX)&&decide (x.free=y.free)&&decide (x.Bh=y.Bh)&&decide (x.calls=y.calls)):=by cases x;cases y;grind
theorem rS(a b:List bg)(ha:a.length≤maxLen)(hc:∀x∈a,x.calls.length≤maxLen):jd [.rs 8 (a.map bg.pv),.rs 8 (b.map bg.pv)]=some (.bool (decide (a=b))):=by
 have hm:=ar;simp only[jd,u7,ah,BY,U,te];by_cases h:a.length=b.length
 ·rw[QU (by rw[we];simp[h])];refine(aB (fun k=>(a.map bg.pv,b.map bg.pv,(k:Int),())) a.length (fun k=>if a[k]?=b[k]? then none else some (some (PV.bool false))) (fun k hk rec=>?_) (fin:=some (PV.bool true)) (fun rec=>?_) (by have:=aF;omega) rfl).trans ?_
  ·have h1:decide ((k:Int)<(a.length:Int))=true:=by simp;omega
   have qo:k<b.length:=by omega
   have qp:=N3 a[k].calls b[k].calls (hc _ (an7 hk));unfold pB;dsimp only;rw[te,No h1,af,af,AT,AT,ta hk,ta qo];simp only[IS,U,ET,EU,NP,SJ,SK,Xr,Xs,EV,asInt,aZ,asBool,ah,BY,qp,aT,fb,cZ,ag (show k<9223372036854775807 by omega)];have hd:=Uz a[k] b[k];by_cases he:a[k]=b[k]
   ·simp[he,bC]
   ·rw[No,QU (by simpa using he)]
    ·rfl
    grind
  ·simp[pB,QU]
  ·exact(tG a b h (some (PV.bool false)) (some (PV.bool true))).trans NO
 ·rw[No (by rw[we];simp[h])];have:a≠b:=fun e=>h (by rw[e]);simp[this]
def eqN(A B:aW):Bool:=decide (A.stops=B.stops)&&decide (A.ao=B.ao)&&decide (A.br=B.br)&&decide (A.paths=B.paths)&&decide (A.runs=B.runs)&&(decide (A.bE=B.bE)&&decide (A.within=B.within)&&decide (A.cap=B.cap)&&decide (A.aP=B.aP))
theorem aav(A:aW):eqN A A=true:=by simp[eqN]
def Tb(A B:aW):Bool:=decide (A.runs=B.runs)&&(decide (A.bE=B.bE)&&decide (A.within=B.within)&&decide (A.cap=B.cap)&&decide (A.aP=B.aP))
theorem XL(A B:aW)(hA:A.Ok)(h:A.paths.length=B.paths.length):aV.run (je) (0,A.stops.map Stop.pv,A.ao.map aQ.pv,A.runs.map bg.pv,A.br.map aR.pv,A.paths.map Path.pv,A.aP.map bp.pv,A.bE,A.within,A.cap,B.stops.map Stop.pv,B.ao.map aQ.pv,B.runs.map bg.pv,B.br.map aR.pv,B.paths.map Path.pv,B.aP.map bp.pv,B.bE,B.within,B.cap,())=if A.paths=B.paths then some (.bool (Tb A B))else some (.bool false):=by
 have hm:=ar;have hl:=hA.paths.1;have e1:=rS A.runs B.runs hA.runs.1 (fun x hx=>(hA.runs.2 x hx).calls.1);have e2:=tJ A.aP B.aP A.bE A.within A.cap B.bE B.within B.cap hA.aP.1;unfold BA at e2;generalize DC:(some (.bool (Tb A B)):Option PV)=fin;generalize ha:A.paths=a at h hl⊢;generalize hb:B.paths=b at h⊢;refine(aB (fun k=>((k:Int),A.stops.map Stop.pv,A.ao.map aQ.pv,A.runs.map bg.pv,A.br.map aR.pv,a.map Path.pv,A.aP.map bp.pv,A.bE,A.within,A.cap,B.stops.map Stop.pv,B.ao.map aQ.pv,B.runs.map bg.pv,B.br.map aR.pv,b.map Path.pv,B.aP.map bp.pv,B.bE,B.within,B.cap,())) a.length (fun k=>if a[k]?=b[k]? then none else some (some (PV.bool false))) (fun k hk rec=>?_) (fin:=fin) (fun rec=>?_) (by have:=aF;omega) rfl).trans ?_
 ·have h1:decide ((k:Int)<(a.length:Int))=true:=by simp;omega
  have qo:k<b.length:=by omega
  unfold je;dsimp only;try rw[te]
  rw[No h1,af,af,AT,AT,ta hk,ta qo];simp only[IS,U];rw[No ⟨rfl,rfl⟩,Path.peq,ag (by omega)];grind [bC]
 ·subst ha;subst hb;rw[←DC];unfold je;dsimp only;rw[QU (by simp)];simp only[e1,e2,U,asBool,bI];rfl
 ·exact tG a b h _ _
theorem XM(A B:aW)(hA:A.Ok)(h:A.br.length=B.br.length):aV.run (jf aV) (0,A.stops.map Stop.pv,A.ao.map aQ.pv,A.runs.map bg.pv,A.br.map aR.pv,A.paths.map Path.pv,A.aP.map bp.pv,A.bE,A.within,A.cap,B.stops.map Stop.pv,B.ao.map aQ.pv,B.runs.map bg.pv,B.br.map aR.pv,B.paths.map Path.pv,B.aP.map bp.pv,B.bE,B.within,B.cap,())=if A.br=B.br then aV.run (je) (0,A.stops.map Stop.pv,A.ao.map aQ.pv,A.runs.map bg.pv,A.br.map aR.pv,A.paths.map Path.pv,A.aP.map bp.pv,A.bE,A.within,A.cap,B.stops.map Stop.pv,B.ao.map aQ.pv,B.runs.map bg.pv,B.br.map aR.pv,B.paths.map Path.pv,B.aP.map bp.pv,B.bE,B.within,B.cap,())else some (.bool false):=by
 have hm:=ar;have hl:=hA.br.1;have e1:=rS A.runs B.runs hA.runs.1 (fun x hx=>(hA.runs.2 x hx).calls.1);have e2:=tJ A.aP B.aP A.bE A.within A.cap B.bE B.within B.cap hA.aP.1;unfold BA at e2;generalize DC:(aV.run (je) (0,A.stops.map Stop.pv,A.ao.map aQ.pv,A.runs.map bg.pv,A.br.map aR.pv,A.paths.map Path.pv,A.aP.map bp.pv,A.bE,A.within,A.cap,B.stops.map Stop.pv,B.ao.map aQ.pv,B.runs.map bg.pv,B.br.map aR.pv,B.paths.map Path.pv,B.aP.map bp.pv,B.bE,B.within,B.cap,()):Option PV)=fin;generalize ha:A.br=a at h hl⊢;generalize hb:B.br=b at h⊢;refine(aB (fun k=>((k:Int),A.stops.map Stop.pv,A.ao.map aQ.pv,A.runs.map bg.pv,a.map aR.pv,A.paths.map Path.pv,A.aP.map bp.pv,A.bE,A.within,A.cap,B.stops.map Stop.pv,B.ao.map aQ.pv,B.runs.map bg.pv,b.map aR.pv,B.paths.map Path.pv,B.aP.map bp.pv,B.bE,B.within,B.cap,())) a.length (fun k=>if a[k]?=b[k]? then none else some (some (PV.bool false))) (fun k hk rec=>?_) (fin:=fin) (fun rec=>?_) (by have:=aF;omega) rfl).trans ?_
 ·have h1:decide ((k:Int)<(a.length:Int))=true:=by simp;omega
  have qo:k<b.length:=by omega
  unfold jf;dsimp only;try rw[te]
  rw[No h1,af,af,AT,AT,ta hk,ta qo];simp only[IS,U];rw[No ⟨rfl,rfl⟩,aR.peq,ag (by omega)];grind [bC]
 ·simp_all[jf,QU]
 ·exact tG a b h _ _
theorem XN(A B:aW)(hA:A.Ok)(h:A.ao.length=B.ao.length):aV.run (jg aV) (0,A.stops.map Stop.pv,A.ao.map aQ.pv,A.runs.map bg.pv,A.br.map aR.pv,A.paths.map Path.pv,A.aP.map bp.pv,A.bE,A.within,A.cap,B.stops.map Stop.pv,B.ao.map aQ.pv,B.runs.map bg.pv,B.br.map aR.pv,B.paths.map Path.pv,B.aP.map bp.pv,B.bE,B.within,B.cap,())=if A.ao=B.ao then aV.run (jf aV) (0,A.stops.map Stop.pv,A.ao.map aQ.pv,A.runs.map bg.pv,A.br.map aR.pv,A.paths.map Path.pv,A.aP.map bp.pv,A.bE,A.within,A.cap,B.stops.map Stop.pv,B.ao.map aQ.pv,B.runs.map bg.pv,B.br.map aR.pv,B.paths.map Path.pv,B.aP.map bp.pv,B.bE,B.within,B.cap,())else some (.bool false):=by
 have hm:=ar;have hl:=hA.ao.1;have e1:=rS A.runs B.runs hA.runs.1 (fun x hx=>(hA.runs.2 x hx).calls.1);have e2:=tJ A.aP B.aP A.bE A.within A.cap B.bE B.within B.cap hA.aP.1;unfold BA at e2;generalize DC:(aV.run (jf aV) (0,A.stops.map Stop.pv,A.ao.map aQ.pv,A.runs.map bg.pv,A.br.map aR.pv,A.paths.map Path.pv,A.aP.map bp.pv,A.bE,A.within,A.cap,B.stops.map Stop.pv,B.ao.map aQ.pv,B.runs.map bg.pv,B.br.map aR.pv,B.paths.map Path.pv,B.aP.map bp.pv,B.bE,B.within,B.cap,()):Option PV)=fin;generalize ha:A.ao=a at h hl⊢;generalize hb:B.ao=b at h⊢;refine(aB (fun k=>((k:Int),A.stops.map Stop.pv,a.map aQ.pv,A.runs.map bg.pv,A.br.map aR.pv,A.paths.map Path.pv,A.aP.map bp.pv,A.bE,A.within,A.cap,B.stops.map Stop.pv,b.map aQ.pv,B.runs.map bg.pv,B.br.map aR.pv,B.paths.map Path.pv,B.aP.map bp.pv,B.bE,B.within,B.cap,())) a.length (fun k=>if a[k]?=b[k]? then none else some (some (PV.bool false))) (fun k hk rec=>?_) (fin:=fin) (fun rec=>?_) (by have:=aF;omega) rfl).trans ?_
 ·have h1:decide ((k:Int)<(a.length:Int))=true:=by simp;omega
  have qo:k<b.length:=by omega
  unfold jg;dsimp only;try rw[te]
  rw[No h1,af,af,AT,AT,ta hk,ta qo];simp only[IS,U];rw[No ⟨rfl,rfl⟩,aQ.peq,ag (by omega)];grind [bC]
 ·simp_all[jg,QU]
 ·exact tG a b h _ _
theorem XO(A B:aW)(hA:A.Ok)(h:A.stops.length=B.stops.length):aV.run (pC aV) (0,A.stops.map Stop.pv,A.ao.map aQ.pv,A.runs.map bg.pv,A.br.map aR.pv,A.paths.map Path.pv,A.aP.map bp.pv,A.bE,A.within,A.cap,B.stops.map Stop.pv,B.ao.map aQ.pv,B.runs.map bg.pv,B.br.map aR.pv,B.paths.map Path.pv,B.aP.map bp.pv,B.bE,B.within,B.cap,())=if A.stops=B.stops then aV.run (jg aV) (0,A.stops.map Stop.pv,A.ao.map aQ.pv,A.runs.map bg.pv,A.br.map aR.pv,A.paths.map Path.pv,A.aP.map bp.pv,A.bE,A.within,A.cap,B.stops.map Stop.pv,B.ao.map aQ.pv,B.runs.map bg.pv,B.br.map aR.pv,B.paths.map Path.pv,B.aP.map bp.pv,B.bE,B.within,B.cap,())else some (.bool false):=by
 have hm:=ar;have hl:=hA.stops.1;have e1:=rS A.runs B.runs hA.runs.1 (fun x hx=>(hA.runs.2 x hx).calls.1);have e2:=tJ A.aP B.aP A.bE A.within A.cap B.bE B.within B.cap hA.aP.1;unfold BA at e2;generalize DC:(aV.run (jg aV) (0,A.stops.map Stop.pv,A.ao.map aQ.pv,A.runs.map bg.pv,A.br.map aR.pv,A.paths.map Path.pv,A.aP.map bp.pv,A.bE,A.within,A.cap,B.stops.map Stop.pv,B.ao.map aQ.pv,B.runs.map bg.pv,B.br.map aR.pv,B.paths.map Path.pv,B.aP.map bp.pv,B.bE,B.within,B.cap,()):Option PV)=fin;generalize ha:A.stops=a at h hl⊢;generalize hb:B.stops=b at h⊢;refine(aB (fun k=>((k:Int),a.map Stop.pv,A.ao.map aQ.pv,A.runs.map bg.pv,A.br.map aR.pv,A.paths.map Path.pv,A.aP.map bp.pv,A.bE,A.within,A.cap,b.map Stop.pv,B.ao.map aQ.pv,B.runs.map bg.pv,B.br.map aR.pv,B.paths.map Path.pv,B.aP.map bp.pv,B.bE,B.within,B.cap,())) a.length (fun k=>if a[k]?=b[k]? then none else some (some (PV.bool false))) (fun k hk rec=>?_) (fin:=fin) (fun rec=>?_) (by have:=aF;omega) rfl).trans ?_
 ·have h1:decide ((k:Int)<(a.length:Int))=true:=by simp;omega
  have qo:k<b.length:=by omega
  unfold pC;dsimp only;try rw[te]
  rw[No h1,af,af,AT,AT,ta hk,ta qo];simp only[IS,U];rw[No ⟨rfl,rfl⟩,Stop.peq,ag (by omega)];grind [bC]
 ·simp_all[pC,QU]
 ·exact tG a b h _ _
theorem Xt(A B:aW)(hA:A.Ok):eS [A.pv,B.pv]=some (.bool (eqN A B)):=by
 simp only[eS,BB,KO,KP,KQ,KS,KT,KU,KV,KW,KX,KY,U,aT,te,we];unfold eqN;by_cases h1:A.stops.length=B.stops.length
 ·by_cases h2:A.ao.length=B.ao.length
  ·by_cases h3:A.br.length=B.br.length
   ·by_cases h4:A.paths.length=B.paths.length
    ·rw[QU (by simp[h1,h2,h3,h4]),XO A B hA h1,XN A B hA h2,XM A B hA h3,XL A B hA h4];unfold Tb;grind
    ·rw[No (by simp[h4])];have:A.paths≠B.paths:=fun e=>h4 (by rw[e]);simp[this]
   ·rw[No (by simp[h3])];have:A.br≠B.br:=fun e=>h3 (by rw[e]);simp[this]
  ·rw[No (by simp[h2])];have:A.ao≠B.ao:=fun e=>h2 (by rw[e]);simp[this]
 ·rw[No (by simp[h1])];have:A.stops≠B.stops:=fun e=>h1 (by rw[e]);simp[this]
theorem cj(es:List PV)(n:Nat)(h:es.length≤10000)(hn:0<n)(hn2:n≤1000):(([]:List PV)++es).length*n≤ab∧0<n:=by refine⟨?_,hn⟩;rw[apA];have:es.length*n≤10000*1000:=apR h hn2;unfold ab;omega
theorem nD(es:List PV):List.take (((([]:List PV)++es).length:Int).toNat) (([]:List PV)++es)=es:=by simp
theorem Sz(es:List PV)(h:es.length≤10000):fh [.rs 4 es]=some (.rs 4 es):=by simp only[fh,nm,ah,BY,U];rw[No (cj es 40 h (by omega) (by omega)),No ⟨by omega,by omega,by omega,trivial⟩,nD]
theorem PF(es:List PV)(h:es.length≤10000):eF [.rs 3 es]=some (.rs 3 es):=by simp only[eF,ma,ah,BY,U];rw[No (cj es 32 h (by omega) (by omega)),No ⟨by omega,by omega,by omega,trivial⟩,nD]
theorem Xn(es:List PV)(h:es.length≤10000):fK [.rs 8 es]=some (.rs 8 es):=by simp only[fK,oQ,ah,BY,U];rw[No (cj es 80 h (by omega) (by omega)),No ⟨by omega,by omega,by omega,trivial⟩,nD]
theorem SA(es:List PV)(h:es.length≤10000):fi [.rs 5 es]=some (.rs 5 es):=by simp only[fi,nk,ah,BY,U];rw[No (cj es 40 h (by omega) (by omega)),No ⟨by omega,by omega,by omega,trivial⟩,nD]
theorem JC(es:List PV)(h:es.length≤10000):dz [.rs 4 es]=some (.rs 4 es):=by simp only[dz,jB,ah,BY,U];rw[No (cj es 32 h (by omega) (by omega)),No ⟨by omega,by omega,by omega,trivial⟩,nD]
theorem SB(es:List PV)(h:es.length≤10000):fj [.rs 5 es]=some (.rs 5 es):=by simp only[fj,nj,ah,BY,U];rw[No (cj es 32 h (by omega) (by omega)),No ⟨by omega,by omega,by omega,trivial⟩,nD]
theorem KZ(es:List PV)(h:es.length≤10000):dL [.rs 6 es]=some (.rs 6 es):=by simp only[dL,j5,ah,BY,U];rw[No (cj es 56 h (by omega) (by omega)),No ⟨by omega,by omega,by omega,trivial⟩,nD]
variable{A:Type}
def mix(f g:A→PV)(l:List A)(k:Nat):List PV:=(l.take k).map f++(l.drop k).map g
theorem ad1(f g:A→PV)(l:List A):mix f g l l.length=l.map f:=by simp[mix]
theorem UH(f g:A→PV)(l:List A)(k:Nat):(mix f g l k).length=l.length:=by simp[mix];omega
theorem ad0(f g:A→PV)(l:List A)(k:Nat)(h:k<l.length):(mix f g l k)[k]?=some (g l[k]):=by unfold mix;grind
theorem adZ(f g:A→PV)(l:List A)(k:Nat)(h:k<l.length):(mix f g l k).set k (f l[k])=mix f g l (k+1):=by
 apply aox;intro j;rw[aoO];unfold mix;by_cases hj:k=j
 ·grind
 grind
theorem eQ(f g:A→PV)(l:List A)(k:Nat)(h:k<l.length)(p:PV):((mix f g l k).set k p)[k]?=some p:=by rw[aoO,No rfl,No (by rw[UH];omega)]
theorem aap(f g:A→PV)(l:List A)(k:Nat)(h:k<l.length):ax (k:Int) (mix f g l k).length:=by rw[UH];exact⟨by omega,by omega⟩
def bg.TO(x:bg):PV:=.agg [.int .i64 x.bn,.int .i64 x.day,.int .i64 x.inst,.str x.id,.int .i64 x.bX,.bool x.free,.bool x.Bh,.qg 5 (x.calls.map aJ.pv)]
theorem SC(l:List bg):(l.map bg.TO).map PV.strip=l.map bg.pv:=by rw[apL];rfl
end Go.Ab.Tt
