import Derived.Test.YtanikidijjaohaaGreatNkP1
import Derived.Test.YtanikidijjaohaaGreatNwP2
namespace Go.Ab.Tt
set_option maxRecDepth 100000
set_option linter.unusedVariables false
set_option linter.unusedSimpArgs false
def bF(x:Path):Int×Int×Bool:=(x.a,x.b,x.free)
def CN(x:Int×Int×Bool):PV:=.agg [.int .i64 x.1,.int .i64 x.2.1,.bool x.2.2]
theorem MF(a b:Int×Int×Bool):dW (CN a).cells (CN b).cells=decide (a=b):=by obtain⟨a1,a2,a3⟩:=a;obtain⟨b1,b2,b3⟩:=b;rw[ajO];simp[CN,PV.cells,dW,peq]
def cX(l:List Path)(n:Int)(k:Nat):Int:=match l[k]? with
 |none=>0
 |some x=>if(decide (x.a<0)||decide (x.a≥n)||decide (x.b<0)||decide (x.b≥n)||decide (x.a=x.b))=true then 9 else if(decide (x.ez<1)||decide (x.ez>14400))=true then 2 else if bF x∈(l.map bF).take k then 6 else 0
theorem QZ(l:List Path)(n:Int)(hl:l.length≤maxLen):jd [.rs 4 (l.map Path.pv),.int .i64 n]=some (res (bY (cX l n) l.length).1 (bY (cX l n) l.length).2):=by
 have hm:=bg;simp only[jd,sk,aP,asInt,aaV,U,OF];rw[←pS];refine bX (fun k=>(n,l.map Path.pv,(l.length:Int),(k:Int),seen CN ((l.map bF).take k),())) l.length _ (fun k hk rec=>?_) (fun rec=>?_) ?_ rfl
 ·have h1:(k:Int)<(l.length:Int):=by omega
  have tL:fg (.agg [.int .i64 l[k].a,.int .i64 l[k].b,.bool l[k].free]) (.bool true) (seen CN ((l.map bF).take k))=_:=pT MF (bF l[k]) ((l.map bF).take k);have uW:dS (.agg [.int .i64 l[k].a,.int .i64 l[k].b,.bool l[k].free]) (.bool false) (seen CN ((l.map bF).take k))=_:=mW MF (bF l[k]) ((l.map bF).take k);simp only[nR,I5,h1,aaV,aW,IT,AI hk,ah5,U,DE,DF,F9,Ga,asInt,asBool,tL,uW,fa,ag (show k<9223372036854775807 by omega),sK bF l k hk];unfold cX;rw[AI hk];simp only;by_cases cg:bF l[k]∈(l.map bF).take k
  ·simp only[cg,aaV];by_cases e1:l[k].a<0<;>by_cases e2:l[k].a≥n<;>by_cases e3:l[k].b<0<;>by_cases e4:l[k].b≥n<;>by_cases e5:l[k].a=l[k].b<;>by_cases e6:l[k].ez<1<;>by_cases e7:l[k].ez>14400<;>simp only[e1,e2,e3,e4,e5,e6,e7,ajW,ajU,Bool.or_true,am6,aln,aaV,abG,By]<;>rfl
  ·simp only[cg,abG,By];by_cases e1:l[k].a<0<;>by_cases e2:l[k].a≥n<;>by_cases e3:l[k].b<0<;>by_cases e4:l[k].b≥n<;>by_cases e5:l[k].a=l[k].b<;>by_cases e6:l[k].ez<1<;>by_cases e7:l[k].ez>14400<;>simp only[e1,e2,e3,e4,e5,e6,e7,ajW,ajU,Bool.or_true,am6,aln,aaV,abG,By]<;>rfl
 ·simp only[nR,I5,ak9,abG];rfl
 ·have:=bp;omega
def toFp(p:Path):Nw.Fp:=⟨p.a.toNat,p.b.toNat,p.ez.toNat,p.free⟩
def Sound(l:List Path)(n:Nat):Prop:=∀p∈l,0≤p.a∧p.a<n∧0≤p.b∧p.b<n∧1≤p.ez∧p.ez≤14400
variable{l:List Path}{n:Nat}
theorem MG(h:(bY (cX l n) l.length).2=0):Sound l n:=by
 intro p hp;obtain⟨k,hk,rfl⟩:=akn hp;have h0:=(kH _ _).1 h k hk;unfold cX at h0;rw[AI hk]at h0;simp only at h0;by_cases c1:(decide (l[k].a<0)||decide (l[k].a≥n)||decide (l[k].b<0)||decide (l[k].b≥n)||decide (l[k].a=l[k].b))=true
 ·rw[BK c1]at h0;omega
 ·rw[IN c1]at h0;by_cases c2:(decide (l[k].ez<1)||decide (l[k].ez>14400))=true
  ·rw[BK c2]at h0;omega
  ·simp only[ajA,I5]at c1 c2;omega
theorem toFp_pv{p:Path}(h1:0≤p.a)(h2:0≤p.b)(h3:1≤p.ez):(toFp p).pv=p.pv:=by simp only[toFp,Nw.Fp.pv,Path.pv];rw[alH h1,alH h2,alH (by omega)]
theorem Yp(h:Sound l n):(l.map toFp).map Nw.Fp.pv=l.map Path.pv:=by rw[alQ];apply aj9;intro p hp;exact toFp_pv (h p hp).1 (h p hp).2.2.1 (h p hp).2.2.2.2.1
def To(e:List PV):Path:=match e with|[.int .i64 a,.int .i64 b,.int .i64 s,.bool f]=>⟨a,b,s,f⟩|_=>⟨0,0,0,false⟩
theorem GJ:∀(L:List (List PV)),(∀e∈L,Nw.IsF e)→eQ L=(L.map To).map Path.pv
 |[],_=>rfl
 |e::L,h=>by obtain⟨i,k,s,b,rfl⟩:=h e (by simp);have:=GJ L fun x hx=>h x (by simp[hx]);unfold eQ at this⊢;rw[ajy,ajy,ajy,this];rfl
def jR(l:List Path)(n:Nat):List Path:=(Nw.Hn n (Nw.td n (l.map toFp) false) (Nw.td n (l.map toFp) true)).map To
theorem IP(hn:n≤64)(hl:l.length≤4096)(h:Sound l n):eP [.rs 4 (l.map Path.pv),.int .i64 n]=some (.rs 4 ((jR l n).map Path.pv))∧gk [.rs 4 (l.map Path.pv),.int .i64 n]=some (.rs 4 ((jR l n).map Path.pv)):=by have:=Nw.Q0 (l.map toFp) n hn (by simpa using hl) (fun p hp=>by obtain⟨q,hq,rfl⟩:=ajJ.1 hp;have:=h q hq;simp only[toFp];omega);rw[Yp h,GJ _ (Nw.MH n _ _)]at this;exact this
theorem MI(l:List Path)(n:Nat)(hn:n≤64):(jR l n).length≤8192:=by
 have h1:(jR l n).length=(eQ (Nw.Hn n (Nw.td n (l.map toFp) false) (Nw.td n (l.map toFp) true))).length:=by simp[jR,eQ]
 rw[h1,Nw.CO];have h2:=Nw.Bw (it:=fun i k=>Nw.D6 (Nw.td n (l.map toFp) false i k) (Nw.td n (l.map toFp) true i k) i k) (fun i k=>Nw.Km _ _ i k) n n;have h3:2*n*n≤2*64*64:=alO (akx 2 hn) hn;omega
theorem MJ(x y:Path):dW [cell x.pv 0,cell x.pv 1,cell x.pv 2,cell x.pv 3] [cell y.pv 0,cell y.pv 1,cell y.pv 2,cell y.pv 3]=decide (x=y):=by rw[ajO];obtain⟨a,b,c,d⟩:=x;obtain⟨a',b',c',d'⟩:=y;simp[DE,DF,F9,Ga,dW,peq]
theorem Bx(x:Path):mP (Kd.int IntKind.i64::[].append (Kd.int IntKind.i64::[].append (Kd.int IntKind.i64::[].append (Kd.bool::[].append [])))) [cell x.pv 0,cell x.pv 1,cell x.pv 2,cell x.pv 3]=true:=rfl
def nS(l:List Path)(n:Nat):Bool:=decide (jR l n=l)
theorem MK(hn:n≤64)(hl:l.length≤4096)(h:(bY (cX l n) l.length).2=0):fD [.rs 4 (l.map Path.pv),.int .i64 n]=some (.bool (nS l n)):=by
 have hm:4096≤maxLen:=by decide
 have hs:=QZ l n (by omega);have hf:=Vb _ _ h;rw[h,hf]at hs;have hc:=(IP hn hl (MG h)).1;have ux:=MI l n hn;have y8:¬decide ((n:Int)>64)=true:=by simp;omega
 have h0:¬(0:Int)>(n:Int):=by omega
 simp only[fD,nu,aP,asInt,aaV,U];rw[IN y8,hs];simp only[res,cZ,ajv,ajQ,Nat.reduceAdd,aaV,U,ajE,ajD,asInt,IN h0,hc,aP,OF];rw[IN (by decide)];unfold nS;by_cases hlen:(jR l n).length=l.length
 ·rw[IN (by simp[nJ,hlen])];have hr:=Tn (jR l n) l hlen (some (PV.bool false)) (some (PV.bool true));have:some (PV.bool (decide (jR l n=l)))=if jR l n=l then some (PV.bool true)else some (PV.bool false):=by by_cases hc:jR l n=l<;>simp[hc]
  rw[this,←hr];refine bX (fun k=>(l.map Path.pv,(jR l n).map Path.pv,((jR l n).length:Int),(k:Int),())) (jR l n).length _ (fun k hk rec=>?_) (fun rec=>?_) ?_ rfl
  ·have h1:decide ((k:Int)<((jR l n).length:Int))=true:=by simp;omega
   have qg:k<l.length:=by omega
   unfold kS;dsimp only;rw[BK h1,aW,IT,AI hk,aW,IT,AI qg];simp only[ah5,U];rw[BK ⟨Bx _,Bx _⟩,MJ,ag (by omega)];by_cases he:(jR l n)[k]=l[k]
   ·simp[he,gG]
   ·simp[he,gG]
  ·unfold kS;dsimp only;rw[IN (by simp)]
  ·have:=bp;omega
 ·rw[BK (by simp[nJ];omega)];rw[akd (fun hc=>hlen (by rw[hc]))]
def cM(l:List Path)(n:Nat):Int×Int:=if(bY (cX l n) l.length).2=0 then(if nS l n=true then(0,0)else(0,18))else bY (cX l n) l.length
def ue(x:Int×Int×Bool):PV:=.agg [.int .i64 x.1,.int .i64 x.2.1,.int .i64 0,.bool x.2.2]
theorem aeG(a b:Int×Int×Bool):dW (ue a).cells (ue b).cells=decide (a=b):=by obtain⟨a1,a2,a3⟩:=a;obtain⟨b1,b2,b3⟩:=b;rw[ajO];simp[ue,PV.cells,dW,peq]
theorem DO(N:ab)(l:List Path)(n:Nat)(hl:l.length≤4096)(hlen:(N.stops.map Stop.pv).length=n)(k:Nat)(hk:k<l.length)(rec:aaJ→Option PV):cV (l.map Path.pv,(l.length:Int),(k:Int),N.stops.map Stop.pv,N.aj.map ay.pv,N.runs.map da.pv,N.au.map ba.pv,l.map Path.pv,N.aL.map aA.pv,N.bk,N.within,N.cap,0,0,0,seen ue ((l.map bF).take k),()) rec=gG (if cX l n k=0 then none else some (some (r3 4 k (cX l n k)))) (rec (l.map Path.pv,(l.length:Int),((k+1:Nat):Int),N.stops.map Stop.pv,N.aj.map ay.pv,N.runs.map da.pv,N.au.map ba.pv,l.map Path.pv,N.aL.map aA.pv,N.bk,N.within,N.cap,0,0,0,seen ue ((l.map bF).take (k+1)),())):=by
 have h1:decide ((k:Int)<(l.length:Int))=true:=by simp;omega
 have tL:fg (.agg [.int .i64 l[k].a,.int .i64 l[k].b,.int .i64 0,.bool l[k].free]) (.bool true) (seen ue ((l.map bF).take k))=_:=pT aeG (bF l[k]) ((l.map bF).take k);have uW:dS (.agg [.int .i64 l[k].a,.int .i64 l[k].b,.int .i64 0,.bool l[k].free]) (.bool false) (seen ue ((l.map bF).take k))=_:=mW aeG (bF l[k]) ((l.map bF).take k);unfold cV;dsimp only;rw[BK h1,aW,IT,AI hk,hlen];simp only[ah5,U,DE,DF,F9,Ga,asInt,asBool,aaV,AA,aY,fa,tL,uW,GI,Tm,uY,BP,CM,sK bF l k hk,ag (show k<9223372036854775807 by omega)];have hA:(!(decide (l[k].a≥0)&&decide (l[k].a<(n:Int)))|| !(decide (l[k].b≥0)&&decide (l[k].b<(n:Int)))||decide (l[k].a=l[k].b))=(decide (l[k].a<0)||decide (l[k].a≥(n:Int))||decide (l[k].b<0)||decide (l[k].b≥(n:Int))||decide (l[k].a=l[k].b)):=by rw[ajO];simp only[ajA,ajF,akj,I5,ajK];omega
 rw[hA];unfold cX;rw[AI hk];simp only;generalize (decide (l[k].a<0)||decide (l[k].a≥(n:Int))||decide (l[k].b<0)||decide (l[k].b≥(n:Int))||decide (l[k].a=l[k].b))=A;generalize (decide (l[k].ez<1)||decide (l[k].ez>14400))=B;by_cases cg:bF l[k]∈(l.map bF).take k
 ·simp only[cg,aaV];cases A<;>cases B<;>rfl
 ·simp only[cg,abG];cases A<;>cases B<;>rfl
theorem Ho(N:ab)(hn:N.stops.length≤64)(hl:N.paths.length≤4096):cF [N.pv]=some (prt 4 (cM N.paths N.stops.length)):=by
 have hm:4096≤maxLen:=by decide
 simp only[cF,mG,gw,gx,gy,gz,gA,gB,gC,gD,gE,gF,U,OF];generalize N4:N.paths=l at hl⊢;generalize TY:N.stops.length=n at hn⊢;have hlen:(N.stops.map Stop.pv).length=n:=by simpa using TY
 have hg:=jY (cX l n) l.length (fun i e=>r3 4 i e) (some (if nS l n=true then r3 0 0 0 else r3 4 0 18));have hR:some (prt 4 (cM l n))=if(bY (cX l n) l.length).2=0 then some (if nS l n=true then r3 0 0 0 else r3 4 0 18)else some (r3 4 (bY (cX l n) l.length).1 (bY (cX l n) l.length).2):=by
  unfold cM prt;by_cases h:(bY (cX l n) l.length).2=0
  ·rw[BK h,BK h];cases nS l n<;>rfl
  ·rw[IN h,IN h,IN h]
 rw[hR,←hg];by_cases hz:(bY (cX l n) l.length).2=0
 ·refine bX (fun k=>(l.map Path.pv,(l.length:Int),(k:Int),N.stops.map Stop.pv,N.aj.map ay.pv,N.runs.map da.pv,N.au.map ba.pv,l.map Path.pv,N.aL.map aA.pv,N.bk,N.within,N.cap,0,0,0,seen ue ((l.map bF).take k),())) l.length _ (fun k hk rec=>DO N l n hl hlen k hk rec) (fun rec=>?_) ?_ rfl
  ·unfold cV;dsimp only;rw[IN (by simp),hlen,MK hn hl hz];simp only[U,asBool,GI,Tm,uY,BP,CM];cases nS l n<;>rfl
  ·have:=bp;omega
 ·have ov:=bX (body:=cV) (fun k=>(l.map Path.pv,(l.length:Int),(k:Int),N.stops.map Stop.pv,N.aj.map ay.pv,N.runs.map da.pv,N.au.map ba.pv,l.map Path.pv,N.aL.map aA.pv,N.bk,N.within,N.cap,0,0,0,seen ue ((l.map bF).take k),())) l.length _ (fin:=cV (l.map Path.pv,(l.length:Int),(l.length:Int),N.stops.map Stop.pv,N.aj.map ay.pv,N.runs.map da.pv,N.au.map ba.pv,l.map Path.pv,N.aL.map aA.pv,N.bk,N.within,N.cap,0,0,0,seen ue ((l.map bF).take l.length),()) fun _=>none) (fun k hk rec=>DO N l n hl hlen k hk rec) (fun rec=>?_) (by have:=bp;omega) (s0:=(l.map Path.pv,(l.length:Int),0,N.stops.map Stop.pv,N.aj.map ay.pv,N.runs.map da.pv,N.au.map ba.pv,l.map Path.pv,N.aL.map aA.pv,N.bk,N.within,N.cap,0,0,0,[],())) rfl
  ·rw[ov,jY,jY,IN hz,IN hz]
  ·unfold cV;dsimp only;rw[IN (by simp),IN (by simp)]
theorem Kn(N:ab)(l:List Path)(hl:l.length≤4096)(i:Nat)(hi:i<l.length)(fu:Vc→Option PV):bn.run (nT fu) ((i:Int),0,N.stops.map Stop.pv,N.aj.map ay.pv,N.runs.map da.pv,N.au.map ba.pv,l.map Path.pv,N.aL.map aA.pv,N.bk,N.within,N.cap,.int .i64 l[i].a,.int .i64 l[i].b,.int .i64 l[i].ez,.bool l[i].free,())=if bF l[i]∈(l.map bF).take i then some (res i 6)else fu (IntKind.i64.wrap ((i:Int)+1),N.stops.map Stop.pv,N.aj.map ay.pv,N.runs.map da.pv,N.au.map ba.pv,l.map Path.pv,N.aL.map aA.pv,N.bk,N.within,N.cap,()):=by
 have hm:4096≤maxLen:=by decide
 refine(uX (fun k=>((i:Int),(k:Int),N.stops.map Stop.pv,N.aj.map ay.pv,N.runs.map da.pv,N.au.map ba.pv,l.map Path.pv,N.aL.map aA.pv,N.bk,N.within,N.cap,PV.int .i64 l[i].a,PV.int .i64 l[i].b,PV.int .i64 l[i].ez,PV.bool l[i].free,())) i (fun k=>decide ((l.map bF)[k]?=some (bF l[i]))) (no:=some (res i 6)) (fin:=fu (IntKind.i64.wrap ((i:Int)+1),N.stops.map Stop.pv,N.aj.map ay.pv,N.runs.map da.pv,N.au.map ba.pv,l.map Path.pv,N.aL.map aA.pv,N.bk,N.within,N.cap,())) (fun k hk rec=>?_) (fun rec=>?_) ?_ rfl).trans ?_
 ·have h1:decide ((k:Int)<(i:Int))=true:=by simp;omega
  have qg:k<l.length:=by omega
  have hd:decide ((l.map bF)[k]?=some (bF l[i]))=(decide (l[k].a=l[i].a)&&decide (l[k].b=l[i].b)&&decide (l[k].free=l[i].free)):=by rw[ajO];simp[AI qg,bF,am3]
  rw[hd];unfold nT;dsimp only;rw[BK h1,aW,IT,AI qg];simp only[ah5,U,DE,DF,Ga,asInt,asBool,aaV,ag (show k<9223372036854775807 by omega),fa,bf];rfl
 ·unfold nT;dsimp only;rw[IN (by simp)]
 ·have:=bp;omega
 ·rw[Et _ _ (by simp;omega)];simp only[I5]
theorem Vd(N:ab)(hn:N.stops.length≤64)(hl:N.paths.length≤4096):ma [N.pv]=some (res (cM N.paths N.stops.length).1 (cM N.paths N.stops.length).2):=by
 have hm:4096≤maxLen:=by decide
 simp only[ma,xH,gw,gx,gy,gz,gA,gB,gC,gD,gE,gF,U];generalize N4:N.paths=l at hl⊢;generalize TY:N.stops.length=n at hn⊢;have hlen:(N.stops.map Stop.pv).length=n:=by simpa using TY
 have hw:IntKind.i64.wrap ((n:Int)-1)=(n:Int)-1:=bE (by omega) (by omega);have Yq:∀k,(hk:k<l.length)→∀rec,gm bn ((k:Int),N.stops.map Stop.pv,N.aj.map ay.pv,N.runs.map da.pv,N.au.map ba.pv,l.map Path.pv,N.aL.map aA.pv,N.bk,N.within,N.cap,()) rec=gG (if cX l n k=0 then none else some (some (res k (cX l n k)))) (rec (((k+1:Nat):Int),N.stops.map Stop.pv,N.aj.map ay.pv,N.runs.map da.pv,N.au.map ba.pv,l.map Path.pv,N.aL.map aA.pv,N.bk,N.within,N.cap,())):=by
  intro k hk rec;have h1:decide ((k:Int)<((l.map Path.pv).length:Int))=true:=by simp;omega
  have oq:=Kn N l hl k hk rec;unfold gm;dsimp only;rw[BK h1,aW,IT,AI hk,hlen,hw];simp only[ah5,U,DE,DF,F9,Ga,asInt,asBool,aaV,GG,aY,fa,oq,ag (show k<9223372036854775807 by omega)];have hA:(!(decide (l[k].a≥0)&&decide (l[k].a≤(n:Int)-1))|| !(decide (l[k].b≥0)&&decide (l[k].b≤(n:Int)-1))||decide (l[k].a=l[k].b))=(decide (l[k].a<0)||decide (l[k].a≥(n:Int))||decide (l[k].b<0)||decide (l[k].b≥(n:Int))||decide (l[k].a=l[k].b)):=by rw[ajO];simp only[ajA,ajF,akj,I5,ajK];omega
  have hB:(!(decide (l[k].ez≥1)&&decide (l[k].ez≤14400)))=(decide (l[k].ez<1)||decide (l[k].ez>14400)):=by rw[ajO];simp only[ajA,ajF,akj,I5,ajK];omega
  rw[hA,hB];unfold cX;rw[AI hk];simp only;generalize (decide (l[k].a<0)||decide (l[k].a≥(n:Int))||decide (l[k].b<0)||decide (l[k].b≥(n:Int))||decide (l[k].a=l[k].b))=A;generalize (decide (l[k].ez<1)||decide (l[k].ez>14400))=B;by_cases cg:bF l[k]∈(l.map bF).take k
  ·simp only[cg,aaV];cases A<;>cases B<;>rfl
  ·simp only[cg,abG];cases A<;>cases B<;>rfl
 have hg:=jY (cX l n) l.length (fun i e=>res i e) (some (if nS l n=true then res 0 0 else res 0 18));have hR:some (res (cM l n).1 (cM l n).2)=if(bY (cX l n) l.length).2=0 then some (if nS l n=true then res 0 0 else res 0 18)else some (res (bY (cX l n) l.length).1 (bY (cX l n) l.length).2):=by
  unfold cM;by_cases h:(bY (cX l n) l.length).2=0
  ·rw[BK h,BK h];cases nS l n<;>rfl
  ·rw[IN h,IN h]
 rw[hR,←hg];by_cases hz:(bY (cX l n) l.length).2=0
 ·refine bX (fun k=>((k:Int),N.stops.map Stop.pv,N.aj.map ay.pv,N.runs.map da.pv,N.au.map ba.pv,l.map Path.pv,N.aL.map aA.pv,N.bk,N.within,N.cap,())) l.length _ Yq (fun rec=>?_) ?_ rfl
  ·have hc:=(IP hn hl (MG hz)).2;have ux:=MI l n hn;unfold gm;dsimp only;rw[IN (by simp),hlen,hc];simp only[U,aP,aaV,OF];unfold nS;by_cases Yr:(jR l n).length=l.length
   ·rw[IN (by simp[nJ,Yr])];have hr:=Tn (jR l n) l Yr (some (res 0 18)) (some (res 0 0));have:some (if decide (jR l n=l)=true then res 0 0 else res 0 18)=if jR l n=l then some (res 0 0)else some (res 0 18):=by by_cases hc:jR l n=l<;>simp[hc]
    rw[this,←hr];refine bX (fun k=>((jR l n).map Path.pv,(k:Int),N.stops.map Stop.pv,N.aj.map ay.pv,N.runs.map da.pv,N.au.map ba.pv,l.map Path.pv,N.aL.map aA.pv,N.bk,N.within,N.cap,())) (jR l n).length _ (fun k hk rec=>?_) (fun rec=>?_) ?_ rfl
    ·have h1:decide ((k:Int)<(((jR l n).map Path.pv).length:Int))=true:=by simp;omega
     have qg:k<l.length:=by omega
     unfold sQ;dsimp only;rw[BK h1,aW,IT,AI hk,aW,IT,AI qg];simp only[ah5,U];rw[BK ⟨Bx _,Bx _⟩,MJ,ag (by omega)];by_cases he:(jR l n)[k]=l[k]
     ·simp[he,gG]
     ·simp[he,gG,res]
    ·unfold sQ;dsimp only;rw[IN (by simp)];rfl
    ·have:=bp;omega
   ·rw[BK (by simp[nJ];omega)];rw[akd (fun hc=>Yr (by rw[hc]))];rfl
  ·have:=bp;omega
 ·have ov:=bX (body:=gm bn) (fun k=>((k:Int),N.stops.map Stop.pv,N.aj.map ay.pv,N.runs.map da.pv,N.au.map ba.pv,l.map Path.pv,N.aL.map aA.pv,N.bk,N.within,N.cap,())) l.length _ (fin:=gm bn ((l.length:Int),N.stops.map Stop.pv,N.aj.map ay.pv,N.runs.map da.pv,N.au.map ba.pv,l.map Path.pv,N.aL.map aA.pv,N.bk,N.within,N.cap,()) fun _=>none) Yq (fun rec=>?_) (by have:=bp;omega) (s0:=(0,N.stops.map Stop.pv,N.aj.map ay.pv,N.runs.map da.pv,N.au.map ba.pv,l.map Path.pv,N.aL.map aA.pv,N.bk,N.within,N.cap,())) rfl
  ·rw[ov,jY,jY,IN hz,IN hz]
  ·unfold gm;dsimp only;rw[IN (by simp),IN (by simp)]
def gn(x:da):Bytes×Int×Int:=(x.id,x.day,x.inst)
def ML(x:Bytes×Int×Int):PV:=.agg [.str x.1,.int .i64 x.2.1,.int .i64 x.2.2]
theorem Ys(a b:Bytes×Int×Int):dW (ML a).cells (ML b).cells=decide (a=b):=by obtain⟨a1,a2,a3⟩:=a;obtain⟨b1,b2,b3⟩:=b;rw[ajO];simp[ML,PV.cells,dW,peq]
def lF(l:List da)(stops aj:Int)(k:Nat):Int:=match l[k]? with
 |none=>0
 |some x=>if kQ x.id=false then 12 else if(decide (x.CL< -1)||decide (x.inst<0))=true then 2 else if(decide (x.day<0)||decide (x.day>36524))=true then 11 else if(decide (x.eR<0)||decide (x.eR≥aj))=true then 9 else if(jG x.calls stops 0 3155932800).2=0 then(if gn x∈(l.map gn).take k then 6 else 0)else(jG x.calls stops 0 3155932800).2
def q7(l:List da)(stops aj:Int):Int×Int:=if l.length>1024 then(0,5)else bY (lF l stops aj) l.length
theorem Q1(N:ab)(l:List da)(hl:l.length≤maxLen∧∀y∈l,y.Ok)(k:Nat)(hk:k<l.length)(rec:aaJ→Option PV):gY (l.map da.pv,(l.length:Int),(k:Int),N.stops.map Stop.pv,N.aj.map ay.pv,l.map da.pv,N.au.map ba.pv,N.paths.map Path.pv,N.aL.map aA.pv,N.bk,N.within,N.cap,0,0,0,seen ML ((l.map gn).take k),()) rec=gG (if lF l N.stops.length N.aj.length k=0 then none else some (some (r3 2 k (lF l N.stops.length N.aj.length k)))) (rec (l.map da.pv,(l.length:Int),((k+1:Nat):Int),N.stops.map Stop.pv,N.aj.map ay.pv,l.map da.pv,N.au.map ba.pv,N.paths.map Path.pv,N.aL.map aA.pv,N.bk,N.within,N.cap,0,0,0,seen ML ((l.map gn).take (k+1)),())):=by
 have hm:=bg;have h1:decide ((k:Int)<(l.length:Int))=true:=by simp;omega
 have hO:=hl.2 _ (ajz hk);have av:=Bv l[k].id hO.id;have Bf:=U9 l[k].calls N.stops.length 0 3155932800 hO.calls.1;simp only[res]at Bf;have tL:fg (.agg [.str l[k].id,.int .i64 l[k].day,.int .i64 l[k].inst]) (.bool true) (seen ML ((l.map gn).take k))=_:=pT Ys (gn l[k]) ((l.map gn).take k);have uW:dS (.agg [.str l[k].id,.int .i64 l[k].day,.int .i64 l[k].inst]) (.bool false) (seen ML ((l.map gn).take k))=_:=mW Ys (gn l[k]) ((l.map gn).take k);unfold gY;dsimp only;rw[BK h1,aW,IT,AI hk];simp only[ah5,U,vZ,acE,acF,acG,L3,Ar,dg,asInt,asBool,aP,aaV,OF,av,Bf,cZ,ajv,ajQ,Nat.reduceAdd,ajE,ajD,aY,nJ,tL,uW,GI,Tm,uY,BP,CM,sK gn l k hk,ag (show k<9223372036854775807 by omega)];unfold lF;rw[AI hk];simp only;generalize (decide (l[k].CL< -1)||decide (l[k].inst<0))=A;generalize (decide (l[k].day<0)||decide (l[k].day>36524))=B;generalize (decide (l[k].eR<0)||decide (l[k].eR≥(N.aj.length:Int)))=C;generalize (jG l[k].calls N.stops.length 0 3155932800).2=e;cases kQ l[k].id with
 |false=>rfl
 |true=>
  cases A with
  |true=>rfl
  |false=>
   cases B with
   |true=>rfl
   |false=>
    cases C with
    |true=>rfl
    |false=>
     simp only[ajx,By,aj3,abG];by_cases he:e=0
     ·subst he;by_cases cg:gn l[k]∈(l.map gn).take k
      ·simp only[cg,aaV,ajW,ajx,By,abG];rfl
      ·simp only[cg,aaV,ajW,ajU,ajx,By,abG];rfl
     ·simp only[he,abG,aaV,ajU,ajT];rfl
theorem Ko(N:ab)(hl:N.runs.length≤maxLen∧∀y∈N.runs,y.Ok):fE [N.pv]=some (prt 2 (q7 N.runs N.stops.length N.aj.length)):=by
 have hm:=bg;simp only[fE,np,gw,gx,gy,gz,gA,gB,gC,gD,gE,gF,U,OF];generalize N4:N.runs=l at hl⊢;unfold q7;by_cases y8:l.length>1024
 ·rw[BK (by simp;omega),BK y8];rfl
 ·rw[IN (by simp;omega),IN y8];have hR:some (prt 2 (bY (lF l N.stops.length N.aj.length) l.length))=if(bY (lF l N.stops.length N.aj.length) l.length).2=0 then some (r3 0 0 0)else some (r3 2 (bY (lF l N.stops.length N.aj.length) l.length).1 (bY (lF l N.stops.length N.aj.length) l.length).2):=by
   unfold prt;by_cases h:(bY (lF l N.stops.length N.aj.length) l.length).2=0
   ·rw[BK h,BK h]
   ·rw[IN h,IN h]
  rw[hR,←jY (lF l N.stops.length N.aj.length) l.length (fun i e=>r3 2 i e)];refine bX (fun k=>(l.map da.pv,(l.length:Int),(k:Int),N.stops.map Stop.pv,N.aj.map ay.pv,l.map da.pv,N.au.map ba.pv,N.paths.map Path.pv,N.aL.map aA.pv,N.bk,N.within,N.cap,0,0,0,seen ML ((l.map gn).take k),())) l.length _ (fun k hk rec=>Q1 N l hl k hk rec) (fun rec=>?_) ?_ rfl
  ·unfold gY;dsimp only;rw[IN (by simp)];rfl
  ·have:=bp;omega
theorem Q2(N:ab)(l:List da)(hl:l.length≤maxLen)(i:Nat)(hi:i<l.length):bn.run rf ((i:Int),0,N.stops.map Stop.pv,N.aj.map ay.pv,l.map da.pv,N.au.map ba.pv,N.paths.map Path.pv,N.aL.map aA.pv,N.bk,N.within,N.cap,.int .i64 l[i].CL,.int .i64 l[i].day,.int .i64 l[i].inst,.str l[i].id,.int .i64 l[i].eR,.bool l[i].free,.bool l[i].XE,.rs 5 (l[i].calls.map bV.pv),())=if gn l[i]∈(l.map gn).take i then some (.int .i64 6)else some (.int .i64 0):=by
 have hm:=bg;refine(uX (fun k=>((i:Int),(k:Int),N.stops.map Stop.pv,N.aj.map ay.pv,l.map da.pv,N.au.map ba.pv,N.paths.map Path.pv,N.aL.map aA.pv,N.bk,N.within,N.cap,PV.int .i64 l[i].CL,PV.int .i64 l[i].day,PV.int .i64 l[i].inst,PV.str l[i].id,PV.int .i64 l[i].eR,PV.bool l[i].free,PV.bool l[i].XE,PV.rs 5 (l[i].calls.map bV.pv),())) i (fun k=>decide ((l.map gn)[k]?=some (gn l[i]))) (no:=some (.int .i64 6)) (fin:=some (.int .i64 0)) (fun k hk rec=>?_) (fun rec=>?_) ?_ rfl).trans ?_
 ·have h1:decide ((k:Int)<(i:Int))=true:=by simp;omega
  have qg:k<l.length:=by omega
  have hd:decide ((l.map gn)[k]?=some (gn l[i]))=(decide (l[k].id=l[i].id)&&decide (l[k].day=l[i].day)&&decide (l[k].inst=l[i].inst)):=by rw[ajO];simp[AI qg,gn,am3]
  rw[hd];unfold rf;dsimp only;rw[BK h1,aW,IT,AI qg];simp only[ah5,U,acE,acF,acG,asInt,dg,aaV,ag (show k<9223372036854775807 by omega),fa,bf]
 ·unfold rf;dsimp only;rw[IN (by simp)]
 ·have:=bp;omega
 ·rw[Et _ _ (by simp;omega)];simp only[I5]
theorem aaK(N:ab)(hl:N.runs.length≤maxLen∧∀y∈N.runs,y.Ok)(k:Nat)(hk:k<N.runs.length):pU [N.pv,.int .i64 k]=some (.int .i64 (lF N.runs N.stops.length N.aj.length k)):=by
 have hm:=bg;have hO:=hl.2 _ (ajz hk);simp only[pU,Cn,gw,gx,gy,gz,gA,gB,gC,gD,gE,gF,U];generalize N4:N.runs=l at hl hk hO⊢;have hO':l[k].Ok:=by subst N4;exact hO
 have av:=wq l[k].id hO'.id;have Bf:=Va l[k].calls N.stops.length 0 3155932800 hO'.calls.1;have oq:=Q2 N l hl.1 k hk;simp only[asInt,aaV,U,aW,IT,AI hk,ah5,vZ,acE,acF,acG,L3,acn,aco,Ar,dg,asBool,aP,OF,av,Bf,GG,aY,nJ,oq];unfold lF;rw[AI hk];simp only;have hB:(!(decide (l[k].day≥0)&&decide (l[k].day≤36524)))=(decide (l[k].day<0)||decide (l[k].day>36524)):=by rw[ajO];simp only[ajA,ajF,akj,I5,ajK];omega
 rw[hB];generalize (decide (l[k].CL< -1)||decide (l[k].inst<0))=A;generalize (decide (l[k].day<0)||decide (l[k].day>36524))=B;generalize (decide (l[k].eR<0)||decide (l[k].eR≥(N.aj.length:Int)))=C;generalize (jG l[k].calls N.stops.length 0 3155932800).2=e;cases kQ l[k].id with
 |false=>rfl
 |true=>
  cases A with
  |true=>rfl
  |false=>
   cases B with
   |true=>rfl
   |false=>
    cases C with
    |true=>rfl
    |false=>
     simp only[ajx,By,aj3,abG];by_cases he:e=0
     ·subst he;by_cases cg:gn l[k]∈(l.map gn).take k
      ·simp only[cg,aaV,ajW,ajx,By,abG]
      ·simp only[cg,aaV,ajW,ajx,By,abG]
     ·simp only[he,abG,aaV,ajU,ajT]
def nx(p:List ba)(v:Int):Option Int:=p.foldl (fun o x=>if(x.stay&&decide (x.a=v))=true then some x.b else o) none
theorem acH(v:Int):nx [] v=none:=rfl
theorem wu(p:List ba)(x:ba)(v:Int):nx (p++[x]) v=if(x.stay&&decide (x.a=v))=true then some x.b else nx p v:=by unfold nx;rw[List.foldl_append];rfl
def it(f:Int→Option Int):Nat→Int→Option Int
 |0,v=>some v
 |m+1,v=>(f v).bind (it f m)
theorem Tp(f:Int→Option Int)(m:Nat)(v:Int):it f (m+1) v=(it f m v).bind f:=by
 induction m generalizing v with
 |zero=>show(f v).bind (it f 0)=f v;cases h:f v<;>rfl
 |succ m ih=>
  show(f v).bind (it f (m+1))=((f v).bind (it f m)).bind f;cases h:f v with
  |none=>rfl
  |some w=>exact ih w
def sR(p:List ba)(a b:Int)(n:Nat):Bool:=(List.range n).any fun t=>decide (it (nx p) (t+1) a=some b)
def AB(f:Int→Option Int):Prop:=∃r:Int→Nat,∀v w,f v=some w→r w<r v
theorem Q3:AB (nx []):=⟨fun _=>0,fun v w h=>by cases h⟩
variable{p:List ba}
theorem Yt{v w:Int}(h:nx p v=some w):∃x∈p,x.stay=true∧x.a=v∧x.b=w:=by
 have key:∀n,n≤p.length→nx (p.take n) v=some w→∃x∈p,x.stay=true∧x.a=v∧x.b=w:=by
  intro n;induction n with
  |zero=>intro _ h;cases h
  |succ n ih=>
   intro hn h;have TY:n<p.length:=by omega
   rw[ajM TY,wu]at h;by_cases hc:(p[n].stay&&decide (p[n].a=v))=true
   ·rw[BK hc]at h;simp only[T1,I5]at hc;exact⟨p[n],ajz TY,hc.1,hc.2,by simpa using h⟩
   ·rw[IN hc]at h;exact ih (by omega) h
 exact key p.length (ajC _) (by rw[akh];exact h)
theorem Q4{f:Int→Option Int}(hf:AB f)(S:List Int)(hS:∀v w,f v=some w→v∈S):∀m v,it f m v≠none→m≤S.length:=by
 obtain⟨r,hr⟩:=hf;induction hn:S.length generalizing S f r with
 |zero=>
  intro m v h;cases m with
  |zero=>omega
  |succ m=>
   exfalso;cases hfv:f v with
   |none=>exact h (by show(f v).bind _=none;rw[hfv];rfl)
   |some w=>have:=hS v w hfv;rw[List.length_eq_zero_iff.1 hn]at this;cases this
 |succ n ih=>
  intro m v h;cases m with
  |zero=>omega
  |succ m=>
   cases hfv:f v with
   |none=>exact absurd (by show(f v).bind _=none;rw[hfv];rfl) h
   |some w=>
    have hvS:=hS v w hfv;let g:Int→Option Int:=fun x=>if x=v then none else f x;have hg:∀x y,g x=some y→r y<r x:=fun x y hxy=>by
     by_cases hx:x=v
     ·simp[g,hx]at hxy
     ·simp only[g,hx,abG]at hxy;exact hr x y hxy
    have hgS:∀x y,g x=some y→x∈S.erase v:=fun x y hxy=>by
     by_cases hx:x=v
     ·simp[g,hx]at hxy
     ·simp only[g,hx,abG]at hxy;exact(List.mem_erase_of_ne hx).2 (hS x y hxy)
    have hlen:(S.erase v).length=n:=by rw[ams hvS];omega
    have WS:∀k x,r x<r v→it g k x=it f k x:=by
     intro k;induction k with
     |zero=>intros;rfl
     |succ k ihk=>
      intro x hx;have hxv:x≠v:=fun h=>by subst h;omega
      show(g x).bind (it g k)=(f x).bind (it f k);have:g x=f x:=by simp[g,hxv]
      rw[this];cases hfx:f x with
      |none=>rfl
      |some y=>exact ihk y (by have:=hr x y hfx;omega)
    have hw:it f m w≠none:=by intro hc;apply h;show(f v).bind (it f m)=none;rw[hfv];exact hc
    have:=ih (S.erase v) hgS r hg hlen m w (by rw[WS m w (hr v w hfv)];exact hw);omega
theorem Kp(hp:AB (nx p)){m:Nat}(hm:p.length<m)(v:Int):it (nx p) m v=none:=by
 cases h:it (nx p) m v with
 |none=>rfl
 |some w=>have:=Q4 hp (p.map ba.a) (fun x y hxy=>by obtain⟨l,h1,h2,h3,h4⟩:=Yt hxy;exact ajJ.2 ⟨l,h1,h3⟩) m v (by rw[h];exact fun h=>nomatch h);rw[OF]at this;omega
theorem MM(hp:AB (nx p))(x:ba)(h:x.stay=false∨(x.a≠x.b∧nx p x.a=none∧sR p x.b x.a (p.length+1)=false)):AB (nx (p++[x])):=by
 cases hs:x.stay with
 |false=>obtain⟨r,hr⟩:=hp;refine⟨r,fun v w Zk=>hr v w ?_⟩;rw[wu,hs,als,IN (by simp)]at Zk;exact Zk
 |true=>
  rw[hs]at h;rcases h with h|⟨uh,hna,Yu⟩
  ·cases h
  have HL:=hp;obtain⟨r,hr⟩:=hp;have Dt:∀t,it (nx p) (t+1) x.b≠some x.a:=by
   intro t ht;by_cases cd:t<p.length+1
   ·unfold sR at Yu;rw[List.any_eq_false]at Yu;exact Yu t (by simpa using cd) (by simpa using ht)
   ·rw[Kp HL (by omega)]at ht;cases ht
  let R:Int→Prop:=fun v=>∃t,it (nx p) t v=some x.a;have hRb:¬R x.b:=fun⟨t,ht⟩=>by
   cases t with
   |zero=>exact uh (by simpa[it]using ht.symm)
   |succ t=>exact Dt t ht
  refine⟨fun v=>open Classical in if R v then r v+r x.b+1 else r v,fun v w Zk=>?_⟩;rw[wu,hs,akp]at Zk;by_cases hv:x.a=v
  ·rw[BK (by simpa using hv)]at Zk;simp only[AT]at Zk;subst Zk;have hRv:R v:=⟨0,by show some v=some x.a;rw[hv]⟩;show(open Classical in if R x.b then r x.b+r x.b+1 else r x.b)<(open Classical in if R v then r v+r x.b+1 else r v);rw[IN hRb,BK hRv];omega
  ·rw[IN (by simpa using hv)]at Zk;have cd:=hr v w Zk;show(open Classical in if R w then r w+r x.b+1 else r w)<(open Classical in if R v then r v+r x.b+1 else r v);by_cases hw:R w
   ·have hRv:R v:=by obtain⟨t,ht⟩:=hw;exact⟨t+1,by show(nx p v).bind (it (nx p) t)=some x.a;rw[Zk];exact ht⟩
    rw[BK hw,BK hRv];omega
   ·rw[IN hw];by_cases hRv:R v
    ·rw[BK hRv];omega
    ·rw[IN hRv];exact cd
def tu(a:Int):PV:=.int .i64 a
def dm(x:ba):Int×Int×Int×Int:=(x.a,x.ac,x.b,x.bc)
def MN(x:Int×Int×Int×Int):PV:=.agg [.int .i64 x.1,.int .i64 x.2.1,.int .i64 x.2.2.1,.int .i64 x.2.2.2]
theorem Yv(a b:Int×Int×Int×Int):dW (MN a).cells (MN b).cells=decide (a=b):=by obtain⟨a1,a2,a3,a4⟩:=a;obtain⟨b1,b2,b3,b4⟩:=b;rw[ajO];simp[MN,PV.cells,dW,peq]
def zH(p:List ba):List (Int×PV):=p.foldl (fun m x=>if x.stay=true then AD x.a (.int .i64 x.b) m else m) []
theorem AE(p:List ba)(x:ba):zH (p++[x])=if x.stay=true then AD x.a (.int .i64 x.b) (zH p)else zH p:=by unfold zH;rw[List.foldl_append];rfl
def Q5(a:Int)(m:List (Int×PV)):Bool:=m.any fun x=>decide (a=x.1)
theorem Tr(a:Int):∀m,wK (tu a) (wE tu m)=Q5 a m
 |[]=>rfl
 |(b,u)::r=>by have:=Tr a r;simp only[wE]at this;simp only[wE,ajy,wK,Q5,akM];rw[this];have:dW (tu a).cells (tu b).cells=decide (a=b):=Bz a b;rw[this];rfl
theorem MO(a b:Int)(v:PV):∀m,Q5 a (AD b v m)=(decide (a=b)||Q5 a m)
 |[]=>by simp[Q5,AD]
 |(c,u)::r=>by
  have:=MO a b v r;simp only[Q5]at this⊢;by_cases h:b=c
  ·subst h;simp[AD]
  ·simp only[AD,h,abG,akM,this];cases decide (a=c)<;>simp
theorem GK{A:Type}{P:List A→Prop}(h0:P [])(h1:∀p x,P p→P (p++[x]))(l:List A):P l:=by
 have key:∀n,n≤l.length→P (l.take n):=by
  intro n;induction n with
  |zero=>intro _;rw[alh];exact h0
  |succ n ih=>intro hn;rw[ajM (show n<l.length by omega)];exact h1 _ _ (ih (by omega))
 have:=key l.length (ajC _);rw[akh]at this;exact this
theorem Ve(p:List ba)(v:Int):yo v (.int .i64 0) (zH p)=.int .i64 ((nx p v).getD 0):=by
 induction p using GK with
 |h0=>rfl
 |h1 p x ih=>
  rw[AE,wu];cases hs:x.stay with
  |false=>rw[IN (by simp),als,IN (by simp)];exact ih
  |true=>
   rw[BK rfl,CP,akp];by_cases h:x.a=v
   ·rw[BK h.symm,BK (by simpa using h)];rfl
   ·rw[IN (fun hc=>h hc.symm),IN (by simpa using h)];exact ih
theorem Yw(p:List ba)(v:Int):Q5 v (zH p)=(nx p v).isSome:=by
 induction p using GK with
 |h0=>rfl
 |h1 p x ih=>
  rw[AE,wu];cases hs:x.stay with
  |false=>rw[IN (by simp),als,IN (by simp)];exact ih
  |true=>
   rw[BK rfl,MO,akp];by_cases h:x.a=v
   ·rw[BK (by simpa using h)];simp[h]
   ·rw[IN (by simpa using h),ih];have:decide (v=x.a)=false:=by simpa using fun hc=>h hc.symm
    rw[this,akz]
def pV(p:List ba):List (PV×PV):=wE tu (zH p)
theorem AF(p:List ba)(v:Int):dS (.int .i64 v) (.int .i64 0) (pV p)=.int .i64 ((nx p v).getD 0):=by have:=GL (key:=tu) Bz v (.int .i64 0) (zH p);rw[Ve]at this;exact this
theorem CQ(p:List ba)(v:Int):wK (.int .i64 v) (pV p)=(nx p v).isSome:=by have:=Tr v (zH p);rw[Yw]at this;exact this
theorem Q6(p:List ba)(x:ba):pV (p++[x])=if x.stay=true then fg (.int .i64 x.a) (.int .i64 x.b) (pV p)else pV p:=by
 have:=Kq (key:=tu) Bz x.a (.int .i64 x.b) (zH p);unfold pV;rw[AE];by_cases h:x.stay=true
 ·rw[BK h,BK h];exact this.symm
 ·rw[IN h,IN h]
def oB(p:List ba):List Int:=(p.filter ba.stay).map ba.b
theorem Q7(p:List ba)(x:ba):oB (p++[x])=if x.stay=true then oB p++[x.b]else oB p:=by unfold oB;by_cases h:x.stay=true<;>simp[alw,akc,h]
theorem IJ(p:List ba)(v:Int):(nx p v).isSome=p.any fun y=>y.stay&&decide (y.a=v):=by
 induction p using GK with
 |h0=>rfl
 |h1 p x ih=>
  rw[wu,alk,←ih];by_cases h:(x.stay&&decide (x.a=v))=true
  ·rw[BK h];simp only[akM,alT,h];simp
  ·rw[IN h];simp only[akM,alT,h];simp
theorem Yx(p:List ba)(v:Int):decide (v∈oB p)=p.any fun y=>y.stay&&decide (y.b=v):=by
 rw[ajO,I5];simp only[oB,I5,ajJ,aka,ak4,T1];constructor
 ·rintro⟨x,⟨h1,h2⟩,h3⟩;exact⟨x,h1,h2,h3⟩
 ·rintro⟨x,h1,h2,h3⟩;exact⟨x,⟨h1,h2⟩,h3⟩
def acI(f:Int→Option Int)(a b:Int)(t:Nat):Option (Option PV):=(it f (t+1) a).elim (some (some (.bool false))) fun v=>if v=b then some (some (.bool true))else none
theorem Q8(f:Int→Option Int)(b:Int)(n:Nat):∀a,it f (n+1) a=none→gG ((List.range n).findSome? (acI f a b)) (some (.bool false))=some (.bool ((List.range (n+1)).any fun t=>decide (it f (t+1) a=some b))):=by
 induction n with
 |zero=>intro a h;simp[gG,h]
 |succ n ih=>
  intro a h;rw[alv (n:=n+1),alv (n:=n),akV,akM];have h0:it f (0+1) a=f a:=by show(f a).bind (it f 0)=f a;cases hf:f a<;>rfl
  unfold acI;rw[h0];cases hf:f a with
  |none=>
   have hz:∀t,it f (t+1) a=none:=fun t=>by show(f a).bind _=none;rw[hf];rfl
   simp only[Option.elim,gG,List.any_map,amt,hz];simp
  |some v=>
   have hs:∀t,it f (t+1+1) a=it f (t+1) v:=fun t=>by show(f a).bind _=_;rw[hf];rfl
   by_cases hv:v=b
   ·subst hv;simp only[Option.elim,aaV,gG,ajW,am6]
   ·have hd:decide (some v=some b)=false:=by simpa using hv
    simp only[Option.elim,IN hv,hd,akz];have:=ih v (by rw[←hs];exact h);rw[List.findSome?_map,List.any_map];simp only[amt,Nat.succ_eq_add_one,hs];rw[←alv];exact this
theorem Q9(p:List ba)(hp:AB (nx p))(hl:p.length≤maxLen)(a b:Int):jS [.rm 3 ((pV p).map fun x=>x.fst) ((pV p).map fun x=>x.snd),.int .i64 a,.int .i64 b]=some (.bool (sR p a b (p.length+1))):=by
 have hz:((pV p).map fun x=>x.fst).zip ((pV p).map fun x=>x.snd)=pV p:=by
  generalize pV p=m;induction m with
  |nil=>rfl
  |cons x m ih=>simp only[ajy,amd,ih]
 simp only[jS,tN,dZ,aaV,asInt,U,hz,AF,CQ];unfold sR;rw[←Q8 (nx p) b p.length a (Kp hp (by omega) a)];refine bX (fun t=>(PV.rm 3 ((pV p).map fun x=>x.fst) ((pV p).map fun x=>x.snd),b,(it (nx p) (t+1) a).getD 0,(it (nx p) (t+1) a).isSome,())) p.length _ (fun t ht rec=>?_) (fun rec=>?_) (by have:=bp;omega) ?_
 ·unfold lf acI;dsimp only;rw[Tp (nx p) (t+1) a];cases hv:it (nx p) (t+1) a with
  |none=>rfl
  |some v=>
   simp only[Option.isSome_some,akG,aaV,fa,I5,Option.elim];by_cases hvb:v=b
   ·rw[BK hvb,BK hvb];rfl
   ·rw[IN hvb,IN hvb];simp only[dZ,aaV,hz,AF,CQ,asInt,U,gG,ajH]
 ·unfold lf;dsimp only;rw[Kp hp (by omega)];rfl
 ·show(_,b,(it (nx p) 1 a).getD 0,(it (nx p) 1 a).isSome,())=_;have:it (nx p) 1 a=nx p a:=by show(nx p a).bind _=_;cases nx p a<;>rfl
  rw[this]
def bt(runs:List da)(a:Int):List bV:=((runs[a.toNat]?).map da.calls).getD []
def yp(cs:List bV)(c:Int):Int:=((cs[c.toNat]?).map bV.stop).getD 0
def D4(x:ba)(R:Int):Bool:= !(decide (x.a≥0)&&decide (x.a<R))|| !(decide (x.b≥0)&&decide (x.b<R))||decide (x.a=x.b)
def DP(x:ba)(A B:Int):Bool:= !(decide (x.ac≥0)&&decide (x.ac<A))|| !(decide (x.bc≥0)&&decide (x.bc<B))
def Bt(p:List ba)(x:ba)(A:Int):Bool:=x.stay&&(!decide (x.ac+1=A)|| !decide (x.bc=0)||(nx p x.a).isSome||decide (x.b∈oB p)||sR p x.b x.a (p.length+1))
def cJ(runs:List da)(l:List ba)(k:Nat):Int:=match l[k]? with
 |none=>0
 |some x=>if D4 x runs.length=true then 9 else if DP x (bt runs x.a).length (bt runs x.b).length=true then 9 else if yp (bt runs x.a) x.ac≠yp (bt runs x.b) x.bc then 13 else if Bt (l.take k) x (bt runs x.a).length=true then 19 else if dm x∈(l.map dm).take k then 6 else 0
def kG(runs:List da)(l:List ba):Int×Int:=if l.length>1024 then(0,5)else bY (cJ runs l) l.length
theorem GM(runs:List da)(l:List ba)(k:Nat)(hk:k≤l.length)(h:∀j,j<k→cJ runs l j=0):AB (nx (l.take k))∧∀x∈l.take k,0≤x.a:=by
 induction k with
 |zero=>rw[alh];exact⟨Q3,fun x hx=>by cases hx⟩
 |succ k ih=>
  have qg:k<l.length:=by omega
  obtain⟨h1,h2⟩:=ih (by omega) fun j hj=>h j (by omega);have hz:=h k (by omega);unfold cJ at hz;rw[AI qg]at hz;simp only at hz;have hr:D4 l[k] runs.length=false:=by
   cases hr:D4 l[k] runs.length with
   |false=>rfl
   |true=>rw[hr,BK rfl]at hz;cases hz
  have hs:Bt (l.take k) l[k] (bt runs l[k].a).length=false:=by
   cases hs:Bt (l.take k) l[k] (bt runs l[k].a).length with
   |false=>rfl
   |true=>
    rw[hs]at hz;split at hz
    ·cases hz
    ·split at hz
     ·cases hz
     ·split at hz
      ·cases hz
      ·rw[BK rfl]at hz;cases hz
  unfold D4 at hr;simp only[akg,akL,T1,I5,ajK]at hr;rw[ajM qg];refine⟨MM h1 l[k] ?_,fun x hx=>?_⟩
  ·unfold Bt at hs;cases ov:l[k].stay with
   |false=>exact Or.inl rfl
   |true=>
    rw[ov,akp]at hs;simp only[akg]at hs;refine Or.inr ⟨hr.2,?_,hs.2⟩;have:=hs.1.1.2;cases hn:nx (l.take k) l[k].a with
    |none=>rfl
    |some w=>rw[hn]at this;cases this
  ·rcases ajI.1 hx with hx|hx
   ·exact h2 x hx
   ·rw[aj4]at hx;subst hx;exact hr.1.1.1
theorem BA(runs:List da)(a:Int)(h:0≤a∧a<(runs.length:Int)):∃r∈runs,aD (runs.map da.pv) a=some r.pv∧bt runs a=r.calls:=by
 obtain⟨n,rfl⟩:=amB h.1;have hn:n<runs.length:=by omega
 refine⟨runs[n],ajz hn,?_,?_⟩
 ·rw[aW,IT,AI hn];rfl
 ·unfold bt;rw[ajw,AI hn];rfl
theorem yX(cs:List bV)(c:Int)(h:0≤c∧c<(cs.length:Int)):∃r,aD (cs.map bV.pv) c=some r∧cell r 0=.int .i64 (yp cs c):=by
 obtain⟨n,rfl⟩:=amB h.1;have hn:n<cs.length:=by omega
 refine⟨cs[n].pv,?_,?_⟩
 ·rw[aW,IT,AI hn];rfl
 ·unfold yp;rw[ajw,AI hn];rfl
theorem yq{runs:List da}(h:∀y∈runs,y.Ok)(a:Int):(bt runs a).length≤maxLen:=by
 unfold bt;cases hr:runs[a.toNat]? with
 |none=>simp
 |some r=>exact(h r (ah3 hr)).calls.1
theorem MP(N:ab)(runs:List da)(hr:∀y∈runs,y.Ok)(l:List ba)(hl:l.length≤maxLen)(k:Nat)(hk:k<l.length)(Hj:∀j,j<k→cJ runs l j=0)(rec:TY0→Option PV):gv (l.map ba.pv,(l.length:Int),(k:Int),N.stops.map Stop.pv,N.aj.map ay.pv,runs.map da.pv,l.map ba.pv,N.paths.map Path.pv,N.aL.map aA.pv,N.bk,N.within,N.cap,0,0,0,pV (l.take k),seen tu (oB (l.take k)),seen MN ((l.map dm).take k),()) rec=gG (if cJ runs l k=0 then none else some (some (r3 3 k (cJ runs l k)))) (rec (l.map ba.pv,(l.length:Int),((k+1:Nat):Int),N.stops.map Stop.pv,N.aj.map ay.pv,runs.map da.pv,l.map ba.pv,N.paths.map Path.pv,N.aL.map aA.pv,N.bk,N.within,N.cap,0,0,0,pV (l.take (k+1)),seen tu (oB (l.take (k+1))),seen MN ((l.map dm).take (k+1)),())):=by
 have hm:=bg;have h1:decide ((k:Int)<(l.length:Int))=true:=by simp;omega
 obtain⟨aeH,_⟩:=GM runs l k (by omega) Hj;have hlen:(l.take k).length=k:=by simp;omega
 have CR:=Q9 (l.take k) aeH (by omega) l[k].b l[k].a;have tL:fg (.agg [.int .i64 l[k].a,.int .i64 l[k].ac,.int .i64 l[k].b,.int .i64 l[k].bc]) (.bool true) (seen MN ((l.map dm).take k))=_:=pT Yv (dm l[k]) ((l.map dm).take k);have uW:dS (.agg [.int .i64 l[k].a,.int .i64 l[k].ac,.int .i64 l[k].b,.int .i64 l[k].bc]) (.bool false) (seen MN ((l.map dm).take k))=_:=mW Yv (dm l[k]) ((l.map dm).take k);have aeI:fg (.int .i64 l[k].b) (.bool true) (seen tu (oB (l.take k)))=_:=pT (key:=tu) Bz l[k].b (oB (l.take k));have acJ:dS (.int .i64 l[k].b) (.bool false) (seen tu (oB (l.take k)))=_:=mW (key:=tu) Bz l[k].b (oB (l.take k));have hsn:l.take (k+1)=l.take k++[l[k]]:=ajM hk;unfold gv;dsimp only;rw[BK h1,aW,IT,AI hk,hsn,Q6,Q7,sK dm l k hk];simp only[ah5,U,Gd,L4,link2,L5,IA,asInt,asBool,aaV,OF,AA,aY,fa];unfold cJ;rw[AI hk];simp only;have hR:(!(decide (l[k].a≥0)&&decide (l[k].a<(runs.length:Int)))|| !(decide (l[k].b≥0)&&decide (l[k].b<(runs.length:Int)))||decide (l[k].a=l[k].b))=D4 l[k] runs.length:=rfl;rw[hR];cases hb:D4 l[k] runs.length with
 |true=>simp only[aaV,GI,U,Tm,uY,BP,CM];rfl
 |false=>
  unfold D4 at hb;simp only[akg,akL,T1,I5,ajK]at hb;obtain⟨ra,hra,hia,hca⟩:=BA runs l[k].a ⟨hb.1.1.1,hb.1.1.2⟩;obtain⟨rb,WV,hib,QM⟩:=BA runs l[k].b ⟨hb.1.2.1,hb.1.2.2⟩;have hA:=yq hr l[k].a;rw[hia,hib];simp only[U,Ar,aP,aaV,OF,←hca,←QM,AA,asBool,aY];have hC:(!(decide (l[k].ac≥0)&&decide (l[k].ac<((bt runs l[k].a).length:Int)))|| !(decide (l[k].bc≥0)&&decide (l[k].bc<((bt runs l[k].b).length:Int))))=DP l[k] (bt runs l[k].a).length (bt runs l[k].b).length:=rfl;rw[hC];cases FY:DP l[k] (bt runs l[k].a).length (bt runs l[k].b).length with
  |true=>simp only[aaV,GI,U,Tm,uY,BP,CM];rfl
  |false=>
   unfold DP at FY;simp only[akg,akL,T1,I5]at FY;obtain⟨ka,hka,hsa⟩:=yX (bt runs l[k].a) l[k].ac FY.1;obtain⟨kb,hkb,hsb⟩:=yX (bt runs l[k].b) l[k].bc FY.2;have hw:IntKind.i64.wrap (l[k].ac+1)=l[k].ac+1:=bE (by omega) (by omega);simp only[By,abG,hka,hkb,U,hsa,hsb,AF,CQ,uW,acJ,tL,aeI,asInt,asBool,aaV,CR,hw,hlen,aY,bf,nJ,GI,Tm,uY,BP,CM,ag (show k<9223372036854775807 by omega)];have hS:(l[k].stay&&(!decide (l[k].ac+1=((bt runs l[k].a).length:Int))|| !decide (l[k].bc=0)||(nx (l.take k) l[k].a).isSome||decide (l[k].b∈oB (l.take k))||sR (l.take k) l[k].b l[k].a (k+1)))=Bt (l.take k) l[k] (bt runs l[k].a).length:=by unfold Bt;rw[hlen]
   rw[hS];generalize Bt (l.take k) l[k] (bt runs l[k].a).length=S;by_cases ov:yp (bt runs l[k].a) l[k].ac=yp (bt runs l[k].b) l[k].bc
   ·simp only[ov,ajW,ajx,By,abG,am9,not_true];cases S with
    |true=>rfl
    |false=>
     by_cases cg:dm l[k]∈(l.map dm).take k
     ·simp only[cg,ajW,aaV,By,abG];rfl
     ·simp only[cg,ajU,aaV,By,abG];cases l[k].stay<;>rfl
   ·simp only[ov,ajU,ajT,aaV,am9,alN];rfl
theorem Hq(N:ab)(hr:N.runs.length≤maxLen∧∀y∈N.runs,y.Ok)(hl:N.au.length≤maxLen):dP [N.pv]=some (prt 3 (kG N.runs N.au)):=by
 have hm:=bg;simp only[dP,mK,gw,gx,gy,gz,gA,gB,gC,gD,gE,gF,U,OF];generalize N4:N.au=l at hl⊢;generalize AL:N.runs=runs at hr⊢;unfold kG;by_cases y8:l.length>1024
 ·rw[BK (by simp;omega),BK y8];rfl
 ·rw[IN (by simp;omega),IN y8];have hR:some (prt 3 (bY (cJ runs l) l.length))=if(bY (cJ runs l) l.length).2=0 then some (r3 0 0 0)else some (r3 3 (bY (cJ runs l) l.length).1 (bY (cJ runs l) l.length).2):=by
   unfold prt;by_cases h:(bY (cJ runs l) l.length).2=0
   ·rw[BK h,BK h]
   ·rw[IN h,IN h]
  rw[hR,←jY (cJ runs l) l.length (fun i e=>r3 3 i e)];refine zG (fun k=>(l.map ba.pv,(l.length:Int),(k:Int),N.stops.map Stop.pv,N.aj.map ay.pv,runs.map da.pv,l.map ba.pv,N.paths.map Path.pv,N.aL.map aA.pv,N.bk,N.within,N.cap,0,0,0,pV (l.take k),seen tu (oB (l.take k)),seen MN ((l.map dm).take k),())) l.length _ (fun k hk Hj rec=>MP N runs hr.2 l hl k hk (fun j hj=>?_) rec) (fun _ rec=>?_) (by have:=bp;omega) rfl
  ·have:=Hj j hj;by_cases h0:cJ runs l j=0
   ·exact h0
   ·rw[IN h0]at this;cases this
  ·unfold gv;dsimp only;rw[IN (by simp)];rfl
theorem Vf(N:ab)(i:Nat)(hi:i<N.au.length)(hl:N.au.length≤maxLen)(hp:∀x∈N.au.take i,0≤x.a)(a b:Int)(hb:0≤b):mb [N.pv,.int .i64 i,.int .i64 a,.int .i64 b]=some (.bool (sR (N.au.take i) a b (i+1))):=by
 have hm:=bg;simp only[mb,xG,gw,gx,gy,gz,gA,gB,gC,gD,gE,gF,U];simp only[asInt,aaV,U];generalize N4:N.au=l at hl hi hp⊢;have aaw:nx (l.take i) (-1)=none:=by
  cases hn:nx (l.take i) (-1)with
  |none=>rfl
  |some w=>obtain⟨x,hx,_,hxa,_⟩:=Yt hn;have:=hp x hx;omega
 have ET:∀t,(nx (l.take i) ((it (nx (l.take i)) t a).getD (-1))).getD (-1)=(it (nx (l.take i)) (t+1) a).getD (-1):=by
  intro t;rw[Tp];cases it (nx (l.take i)) t a with
  |none=>simp only[Option.getD_none,Option.bind_none,aaw]
  |some v=>rfl
 have oq:∀(c:Int)(t:Nat)fu,bn.run (nU fu) ((i:Int),c,b,(t:Int),-1,0,N.stops.map Stop.pv,N.aj.map ay.pv,N.runs.map da.pv,l.map ba.pv,N.paths.map Path.pv,N.aL.map aA.pv,N.bk,N.within,N.cap,())=if(nx (l.take i) c).getD (-1)=b then some (.bool true)else fu ((i:Int),(nx (l.take i) c).getD (-1),b,IntKind.i64.wrap ((t:Int)+1),N.stops.map Stop.pv,N.aj.map ay.pv,N.runs.map da.pv,l.map ba.pv,N.paths.map Path.pv,N.aL.map aA.pv,N.bk,N.within,N.cap,()):=by
  intro c t fu;refine cj (fun k=>((i:Int),c,b,(t:Int),(nx (l.take k) c).getD (-1),(k:Int),N.stops.map Stop.pv,N.aj.map ay.pv,N.runs.map da.pv,l.map ba.pv,N.paths.map Path.pv,N.aL.map aA.pv,N.bk,N.within,N.cap,())) i (fun k hk rec=>?_) (fun rec=>?_) (by have:=bp;omega) (by rw[alh,acH];rfl)
  ·have h1:decide ((k:Int)<(i:Int))=true:=by simp;omega
   have qg:k<l.length:=by omega
   unfold nU;dsimp only;rw[BK h1,aW,IT,AI qg,ajM qg,wu];simp only[ah5,U,Gd,link2,IA,asInt,asBool,aaV,bf,fa,ag (show k<9223372036854775807 by omega)];by_cases hc:(l[k].stay&&decide (l[k].a=c))=true
   ·rw[BK hc,BK hc];rfl
   ·rw[IN hc,IN hc]
  ·unfold nU;dsimp only;rw[IN (by simp)];simp only[fa,I5]
 unfold sR;have pZ:bn.run (nV bn) ((i:Int),a,b,0,N.stops.map Stop.pv,N.aj.map ay.pv,N.runs.map da.pv,l.map ba.pv,N.paths.map Path.pv,N.aL.map aA.pv,N.bk,N.within,N.cap,())=if((List.range (i+1)).any fun t=>decide (it (nx (l.take i)) (t+1) a=some b))=true then some (PV.bool true)else some (PV.bool false):=by
  refine uX (fun t:Nat=>((i:Int),(it (nx (l.take i)) t a).getD (-1),b,(t:Int),N.stops.map Stop.pv,N.aj.map ay.pv,N.runs.map da.pv,l.map ba.pv,N.paths.map Path.pv,N.aL.map aA.pv,N.bk,N.within,N.cap,())) (i+1) (fun t=>decide (it (nx (l.take i)) (t+1) a=some b)) (no:=some (PV.bool true)) (fin:=some (PV.bool false)) (fun t ht rec=>?_) (fun rec=>?_) (by have:=bp;omega) rfl
  ·have h1:decide ((t:Int)≤(i:Int))=true:=by simp;omega
   unfold nV;dsimp only;rw[BK h1,oq,ET,ag (by omega)];cases hv:it (nx (l.take i)) (t+1) a with
   |none=>rw[IN (by simp only[Option.getD_none];omega),IN (by simp)]
   |some v=>
    by_cases hvb:v=b
    ·rw[BK (by simpa using hvb),BK (by simpa using hvb)]
    ·rw[IN (by simpa using hvb),IN (by simpa using hvb)]
  ·unfold nV;dsimp only;rw[IN (by simp;omega)]
 rw[pZ];cases(List.range (i+1)).any fun t=>decide (it (nx (l.take i)) (t+1) a=some b)<;>rfl
theorem Vg(l:List ba)(P:ba→Bool)(k:Nat)(hk:k≤l.length):((List.range k).any fun j=>(l[j]?).elim false P)=(l.take k).any P:=by
 induction k with
 |zero=>rfl
 |succ k ih=>
  have qg:k<l.length:=by omega
  rw[alK,alk,ih (by omega),ajM qg,alk];simp only[akM,alT,AI qg,Option.elim]
theorem Yy(N:ab)(hr:N.runs.length≤maxLen∧∀y∈N.runs,y.Ok)(hl:N.au.length≤maxLen)(k:Nat)(hk:k<N.au.length)(Hj:∀j,j<k→cJ N.runs N.au j=0):nW [N.pv,.int .i64 k]=some (.int .i64 (cJ N.runs N.au k)):=by
 have hm:=bg;obtain⟨_,eF⟩:=GM N.runs N.au k (by omega) Hj;have CR:=fun a b hb=>Vf N k hk hl eF a b hb;have hE:=jj N;simp only[nW,Ak,gw,gx,gy,gz,gA,gB,gC,gD,gE,gF,U];rw[←jj N]at CR;generalize N4:N.au=l at hl hk eF CR⊢;generalize AL:N.runs=runs at hr CR⊢;have hw0:IntKind.i64.wrap ((runs.length:Int)-1)=(runs.length:Int)-1:=bE (by omega) (by omega);simp only[asInt,aaV,U,aW,IT,AI hk,ah5,Gd,L4,link2,L5,IA,asBool,OF,hw0,GG,aY,fa];unfold cJ;rw[AI hk];simp only;have hR:(!(decide (l[k].a≥0)&&decide (l[k].a≤(runs.length:Int)-1))|| !(decide (l[k].b≥0)&&decide (l[k].b≤(runs.length:Int)-1))||decide (l[k].a=l[k].b))=D4 l[k] runs.length:=by unfold D4;rw[ajO];simp only[ajA,ajF,akj,I5,ajK];omega
 rw[hR];cases hb:D4 l[k] runs.length with
 |true=>simp only[aaV]
 |false=>
  unfold D4 at hb;simp only[akg,akL,T1,I5,ajK]at hb;obtain⟨ra,hra,hia,hca⟩:=BA runs l[k].a ⟨hb.1.1.1,hb.1.1.2⟩;obtain⟨rb,WV,hib,QM⟩:=BA runs l[k].b ⟨hb.1.2.1,hb.1.2.2⟩;have hA:=yq hr.2 l[k].a;have hB:=yq hr.2 l[k].b;rw[hia,hib];simp only[U,Ar,aP,aaV,OF,←hca,←QM];have hwA:IntKind.i64.wrap (((bt runs l[k].a).length:Int)-1)=((bt runs l[k].a).length:Int)-1:=bE (by omega) (by omega);have hwB:IntKind.i64.wrap (((bt runs l[k].b).length:Int)-1)=((bt runs l[k].b).length:Int)-1:=bE (by omega) (by omega);simp only[hwA,hwB,GG,asBool,U,aY];have hC:(!(decide (l[k].ac≥0)&&decide (l[k].ac≤((bt runs l[k].a).length:Int)-1))|| !(decide (l[k].bc≥0)&&decide (l[k].bc≤((bt runs l[k].b).length:Int)-1)))=DP l[k] (bt runs l[k].a).length (bt runs l[k].b).length:=by unfold DP;rw[ajO];simp only[ajA,ajF,akj,I5,ajK];omega
  rw[hC];cases FY:DP l[k] (bt runs l[k].a).length (bt runs l[k].b).length with
  |true=>simp only[aaV,By,abG]
  |false=>
   unfold DP at FY;simp only[akg,akL,T1,I5]at FY;obtain⟨ka,hka,hsa⟩:=yX (bt runs l[k].a) l[k].ac FY.1;obtain⟨kb,hkb,hsb⟩:=yX (bt runs l[k].b) l[k].bc FY.2;simp only[By,abG,hka,hkb,U,hsa,hsb,asInt,asBool,aaV,aY,bf,nJ];by_cases ov:yp (bt runs l[k].a) l[k].ac=yp (bt runs l[k].b) l[k].bc
   ·simp only[ov,ajW,ajx,By,abG,am9,not_true];have uS:bn.run pt ((k:Int),0,N.stops.map Stop.pv,N.aj.map ay.pv,runs.map da.pv,l.map ba.pv,N.paths.map Path.pv,N.aL.map aA.pv,N.bk,N.within,N.cap,.int .i64 l[k].a,.int .i64 l[k].ac,.int .i64 l[k].b,.int .i64 l[k].bc,.bool l[k].stay,())=if dm l[k]∈(l.map dm).take k then some (.int .i64 6)else some (.int .i64 0):=by
     refine(uX (fun j=>((k:Int),(j:Int),N.stops.map Stop.pv,N.aj.map ay.pv,runs.map da.pv,l.map ba.pv,N.paths.map Path.pv,N.aL.map aA.pv,N.bk,N.within,N.cap,PV.int .i64 l[k].a,PV.int .i64 l[k].ac,PV.int .i64 l[k].b,PV.int .i64 l[k].bc,PV.bool l[k].stay,())) k (fun j=>decide ((l.map dm)[j]?=some (dm l[k]))) (no:=some (.int .i64 6)) (fin:=some (.int .i64 0)) (fun j hj rec=>?_) (fun rec=>?_) (by have:=bp;omega) rfl).trans ?_
     ·have h1:decide ((j:Int)<(k:Int))=true:=by simp;omega
      have KX:j<l.length:=by omega
      have hd:decide ((l.map dm)[j]?=some (dm l[k]))=(decide (l[j].a=l[k].a)&&decide (l[j].ac=l[k].ac)&&decide (l[j].b=l[k].b)&&decide (l[j].bc=l[k].bc)):=by rw[ajO];simp[AI KX,dm,am3]
      rw[hd];unfold pt;dsimp only;rw[BK h1,aW,IT,AI KX];simp only[ah5,U,Gd,L4,link2,L5,asInt,aaV,ag (show j<9223372036854775807 by omega),fa,bf]
     ·unfold pt;dsimp only;rw[IN (by simp)]
     ·rw[Et _ _ (by simp;omega)];simp only[I5]
    have ahR:bn.run (pw bn) ((k:Int),0,N.stops.map Stop.pv,N.aj.map ay.pv,runs.map da.pv,l.map ba.pv,N.paths.map Path.pv,N.aL.map aA.pv,N.bk,N.within,N.cap,.int .i64 l[k].a,.int .i64 l[k].ac,.int .i64 l[k].b,.int .i64 l[k].bc,.bool l[k].stay,())=if(l[k].stay&&((nx (l.take k) l[k].a).isSome||decide (l[k].b∈oB (l.take k))))=true then some (.int .i64 19)else if(l[k].stay&&sR (l.take k) l[k].b l[k].a (k+1))=true then some (.int .i64 19)else if dm l[k]∈(l.map dm).take k then some (.int .i64 6)else some (.int .i64 0):=by
     refine(uX (fun j=>((k:Int),(j:Int),N.stops.map Stop.pv,N.aj.map ay.pv,runs.map da.pv,l.map ba.pv,N.paths.map Path.pv,N.aL.map aA.pv,N.bk,N.within,N.cap,PV.int .i64 l[k].a,PV.int .i64 l[k].ac,PV.int .i64 l[k].b,PV.int .i64 l[k].bc,PV.bool l[k].stay,())) k (fun j=>(l[j]?).elim false fun y=>l[k].stay&&y.stay&&(decide (y.a=l[k].a)||decide (y.b=l[k].b))) (no:=some (.int .i64 19)) (fin:=if(l[k].stay&&sR (l.take k) l[k].b l[k].a (k+1))=true then some (.int .i64 19)else if dm l[k]∈(l.map dm).take k then some (.int .i64 6)else some (.int .i64 0)) (fun j hj rec=>?_) (fun rec=>?_) (by have:=bp;omega) rfl).trans ?_
     ·have h1:decide ((j:Int)<(k:Int))=true:=by simp;omega
      have KX:j<l.length:=by omega
      rw[AI KX];unfold pw;dsimp only;rw[BK h1,aW,IT,AI KX];simp only[ah5,U,Gd,link2,IA,asInt,asBool,aaV,ag (show j<9223372036854775807 by omega),fa,bf,aY,Option.elim];rfl
     ·unfold pw;dsimp only;rw[IN (by simp),uS];have:=CR l[k].b l[k].a (by have:=hb.1.1.1;omega);simp only[asBool,asInt,aaV,U,this,bf]
     ·rw[Vg l _ k (by omega)];have acb:((l.take k).any fun y=>l[k].stay&&y.stay&&(decide (y.a=l[k].a)||decide (y.b=l[k].b)))=(l[k].stay&&((nx (l.take k) l[k].a).isSome||decide (l[k].b∈oB (l.take k)))):=by
       rw[IJ,Yx];cases l[k].stay with
       |false=>simp
       |true=>
        rw[ajO];simp only[akp,ajA,ak4,T1,I5];constructor
        ·rintro⟨x,h1,h2,h3|h3⟩
         ·exact Or.inl ⟨x,h1,h2,h3⟩
         ·exact Or.inr ⟨x,h1,h2,h3⟩
        ·rintro(⟨x,h1,h2,h3⟩|⟨x,h1,h2,h3⟩)
         ·exact⟨x,h1,h2,Or.inl h3⟩
         ·exact⟨x,h1,h2,Or.inr h3⟩
      rw[acb]
    rw[ahR];have hlen:(l.take k).length=k:=by simp;omega
    have hac:decide (l[k].ac=((bt runs l[k].a).length:Int)-1)=decide (l[k].ac+1=((bt runs l[k].a).length:Int)):=by rw[ajO];simp only[I5];omega
    rw[hac];unfold Bt;rw[hlen];generalize (!decide (l[k].ac+1=((bt runs l[k].a).length:Int)))=X1;generalize (!decide (l[k].bc=0))=X2;generalize (nx (l.take k) l[k].a).isSome=X3;generalize decide (l[k].b∈oB (l.take k))=X4;generalize sR (l.take k) l[k].b l[k].a (k+1)=X5;by_cases cg:dm l[k]∈(l.map dm).take k
    ·simp only[cg,aaV];cases l[k].stay<;>cases X1<;>cases X2<;>cases X3<;>cases X4<;>cases X5<;>rfl
    ·simp only[cg,abG];cases l[k].stay<;>cases X1<;>cases X2<;>cases X3<;>cases X4<;>cases X5<;>rfl
   ·simp only[ov,ajU,ajT,aaV,am9,alN,By,abG]
def lE(N:ab):Int×Int×Int:=
 if(iF N.stops).2=0 then
  if(gV N.aj).2=0 then
   if(q7 N.runs N.stops.length N.aj.length).2=0 then
    if(kG N.runs N.au).2=0 then
     if(cM N.paths N.stops.length).2=0 then if(du N.aL N.bk N.within N.cap).2=0 then(0,0,0)else(5,du N.aL N.bk N.within N.cap)
     else(4,cM N.paths N.stops.length)
    else(3,kG N.runs N.au)
   else(2,q7 N.runs N.stops.length N.aj.length)
  else(1,gV N.aj)
 else(0,iF N.stops)
def iw(x:Int×Int×Int):PV:=.bu [.int .i64 x.1,.int .i64 x.2.1,.int .i64 x.2.2]
theorem r3E(p i e:Int):PV.agg [cell (r3 p i e) 0,cell (r3 p i e) 1,cell (r3 p i e) 2]=r3 p i e:=rfl
theorem r3F(p i e:Int):PV.agg [.int .i64 p,.int .i64 i,.int .i64 e]=r3 p i e:=rfl
theorem yr(p i e q j f:Int):dD [.rs 3 [r3 p i e,r3 q j f]]=some (if e=0 then(if f=0 then r3 0 0 0 else r3 q j f)else r3 p i e):=by
 simp only[dD,tP,aP,aaV,U];have h0:=bX (body:=je) (fun k=>([r3 p i e,r3 q j f],(2:Int),(k:Int),0,0,0,())) 2 (fun k=>if k=0 then(if e=0 then none else some (some (r3 p i e)))else(if f=0 then none else some (some (r3 q j f)))) (fin:=some (r3 0 0 0)) (fun k hk rec=>?_) (fun rec=>?_) (by decide) (s0:=([r3 p i e,r3 q j f],(2:Int),0,0,0,0,())) rfl
 ·refine h0.trans ?_;have:List.range 2=[0,1]:=rfl;rw[this];by_cases he:e=0
  ·by_cases hf:f=0<;>simp[he,hf,gG]
  ·simp[he,gG]
 ·have h2:k=0∨k=1:=by omega
  rcases h2 with rfl|rfl
  ·unfold je;dsimp only;rw[BK (by simp),aW];simp only[akb,U,CM,asInt,aaV,nJ,r3E,ag (show 0<9223372036854775807 by omega)];by_cases he:e=0
   ·simp only[he,ajW,ajx,By,abG,aaV];rfl
   ·simp only[he,ajU,ajT,abG,aaV];rfl
  ·unfold je;dsimp only;rw[BK (by simp),aW];simp only[alo,akb,U,CM,asInt,aaV,nJ,r3E,ag (show 1<9223372036854775807 by omega)];by_cases he:f=0
   ·simp only[he,ajW,ajx,By,abG,aaV];rfl
   ·simp only[he,ajU,ajT,abG,aaV];rfl
 ·unfold je;dsimp only;rw[IN (by simp)];rfl
theorem Ra(p:Int)(x:Int×Int):prt p x=if x.2=0 then r3 0 0 0 else r3 p x.1 x.2:=rfl
theorem Cs{l:List Stop}(h:(iF l).2=0):l.length≤64:=by
 unfold iF at h;by_cases y8:l.length>64
 ·rw[BK y8]at h;cases h
 ·omega
theorem GN(a b:Int):(a==b)=decide (a=b):=fa a b
theorem F4(N:ab)(h:N.Ok)(hp:N.paths.length≤4096):gM [N.pv]=some (iw (lE N)):=by
 have hs:=U6 N.stops h.stops;have hr:=QW N.aj h.aj;have hu:=Ko N h.runs;have hl:=Hq N h.runs h.au.1;have hf:=Aw N.aL N.bk N.within N.cap h.aL;unfold dw at hf;simp only[gM,tW,gw,gx,gy,gz,gA,gB,gC,gD,gE,gF,U,jj];simp only[hs,hr,hf,hu,hl,U,res,cZ,ajv,ajQ,Nat.reduceAdd,aaV,ajE,ajD,GI,Tm,r3F,yr];unfold lE;by_cases h1:(iF N.stops).2=0
 ·have hpa:=Ho N (Cs h1) hp;simp only[hpa,U,h1,aaV];by_cases h2:(gV N.aj).2=0
  ·simp only[h2,aaV];rw[Ra 2,Ra 3,Ra 4];by_cases h3:(q7 N.runs N.stops.length N.aj.length).2=0
   ·simp only[h3,aaV];by_cases h4:(kG N.runs N.au).2=0
    ·simp only[h4,aaV];by_cases h5:(cM N.paths N.stops.length).2=0
     ·simp only[h5,aaV];by_cases h6:(du N.aL N.bk N.within N.cap).2=0
      ·simp only[h6,aaV,Tm,r3F,uY,BP,CM,asInt,U,yr,GN,ajW,ajU,By,iw]
      ·simp only[h6,aaV,abG,Tm,r3F,uY,BP,CM,asInt,U,yr,GN,ajW,ajU,By,iw]
     ·simp only[h5,aaV,abG,Tm,r3F,uY,BP,CM,asInt,U,yr,GN,ajW,ajU,By,iw]
    ·simp only[h4,aaV,abG,Tm,r3F,uY,BP,CM,asInt,U,yr,GN,ajW,ajU,By,iw]
   ·simp only[h3,aaV,abG,Tm,r3F,uY,BP,CM,asInt,U,yr,GN,ajW,ajU,By,iw]
  ·simp only[h2,aaV,abG,Tm,r3F,uY,BP,CM,asInt,U,yr,GN,ajW,ajU,By,iw]
 ·simp only[h1,aaV,abG,Tm,r3F,uY,BP,CM,asInt,U,yr,GN,ajW,ajU,By,iw]
theorem Kr(N:ab)(h:N.Ok)(hn:N.stops.length≤64)(hp:N.paths.length≤4096):bn.run nX (0,N.stops.map Stop.pv,N.aj.map ay.pv,N.runs.map da.pv,N.au.map ba.pv,N.paths.map Path.pv,N.aL.map aA.pv,N.bk,N.within,N.cap,())=some (iw (if(bY (cJ N.runs N.au) N.au.length).2=0 then
  if(cM N.paths N.stops.length).2=0 then if(du N.aL N.bk N.within N.cap).2=0 then(0,0,0)else(5,du N.aL N.bk N.within N.cap)
  else(4,cM N.paths N.stops.length)
 else(3,bY (cJ N.runs N.au) N.au.length))):=by
 have hm:=bg
 have WA:=h.au.1
 have hpa:=Vd N hn hp
 have hf:=U8 N.aL N.bk N.within N.cap h.aL
 unfold dw at hf
 have hg:=jY (cJ N.runs N.au) N.au.length (fun i e=>iw (3,i,e)) (some (iw (if(cM N.paths N.stops.length).2=0 then if(du N.aL N.bk N.within N.cap).2=0 then(0,0,0)else(5,du N.aL N.bk N.within N.cap)else(4,cM N.paths N.stops.length))))
 have hR:(if(bY (cJ N.runs N.au) N.au.length).2=0 then(some (iw (if(cM N.paths N.stops.length).2=0 then if(du N.aL N.bk N.within N.cap).2=0 then(0,0,0)else(5,du N.aL N.bk N.within N.cap)else(4,cM N.paths N.stops.length))))else some (iw (3,(bY (cJ N.runs N.au) N.au.length).1,(bY (cJ N.runs N.au) N.au.length).2)))=some (iw (if(bY (cJ N.runs N.au) N.au.length).2=0 then
   if(cM N.paths N.stops.length).2=0 then if(du N.aL N.bk N.within N.cap).2=0 then(0,0,0)else(5,du N.aL N.bk N.within N.cap)
   else(4,cM N.paths N.stops.length)
  else(3,bY (cJ N.runs N.au) N.au.length))):=by
  by_cases hz:(bY (cJ N.runs N.au) N.au.length).2=0
  ·rw[BK hz,BK hz]
  ·rw[IN hz,IN hz]
 rw[←hR,←hg]
 refine zG (fun k=>((k:Int),N.stops.map Stop.pv,N.aj.map ay.pv,N.runs.map da.pv,N.au.map ba.pv,N.paths.map Path.pv,N.aL.map aA.pv,N.bk,N.within,N.cap,())) N.au.length _ (fun k hk Hj rec=>?_) (fun _ rec=>?_) (by have:=bp;omega) rfl
 ·have aeJ:∀j,j<k→cJ N.runs N.au j=0:=fun j hj=>by
   have:=Hj j hj;by_cases h0:cJ N.runs N.au j=0
   ·exact h0
   ·rw[IN h0]at this;cases this
  have Z4:=Yy N h.runs WA k hk aeJ;have h1:decide ((k:Int)<((N.au.map ba.pv).length:Int))=true:=by simp;omega
  unfold nX;dsimp only;rw[BK h1,jj,Z4];simp only[U,asInt,aaV,nJ,ag (show k<9223372036854775807 by omega)];by_cases he:cJ N.runs N.au k=0
  ·simp only[he,ajW,ajx,By,abG,aaV];rfl
  ·simp only[he,ajU,ajT,abG,aaV];rfl
 ·unfold nX;dsimp only;rw[IN (by simp),jj,hpa];simp only[U,res,cZ,ajv,ajQ,Nat.reduceAdd,aaV,ajE,ajD,asInt,nJ,hf];by_cases h5:(cM N.paths N.stops.length).2=0
  ·simp only[h5,ajW,ajx,By,abG,aaV];by_cases h6:(du N.aL N.bk N.within N.cap).2=0
   ·simp only[h6,ajW,ajx,By,abG,aaV,iw]
   ·simp only[h6,ajU,ajT,By,abG,aaV,iw]
  ·simp only[h5,ajU,ajT,By,abG,aaV,iw]
theorem UG(N:ab)(h:N.Ok)(hp:N.paths.length≤4096):mc [N.pv]=some (iw (lE N)):=by
 have hm:=bg;have c9:4096≤maxLen:=by decide
 have hs:=U7 N.stops h.stops;have hr:=QX N.aj h.aj;simp only[mc,xM,gw,gx,gy,gz,gA,gB,gC,gD,gE,gF,U];simp only[hs,hr,U,res,cZ,ajv,ajQ,Nat.reduceAdd,aaV,ajE,ajD,asInt,nJ];unfold lE;by_cases h1:(iF N.stops).2=0
 ·have ux:=Kr N h (Cs h1) hp;simp only[h1,ajW,ajx,By,abG,aaV];by_cases h2:(gV N.aj).2=0
  ·simp only[h2,ajW,ajx,By,abG,aaV];unfold q7;by_cases y8:N.runs.length>1024
   ·rw[BK (by simp;omega),BK y8];rfl
   ·rw[IN (by simp;omega),IN y8];generalize hE:lF N.runs N.stops.length N.aj.length=E;generalize hF:(if(kG N.runs N.au).2=0 then
     if(cM N.paths N.stops.length).2=0 then if(du N.aL N.bk N.within N.cap).2=0 then((0:Int),(0:Int),(0:Int))else(5,du N.aL N.bk N.within N.cap)
     else(4,cM N.paths N.stops.length)
    else(3,kG N.runs N.au))=F
    have hg:=jY E N.runs.length (fun i e=>iw (2,i,e)) (some (iw F));have hR:(if(bY E N.runs.length).2=0 then some (iw F)else some (iw (2,(bY E N.runs.length).1,(bY E N.runs.length).2)))=some (iw (if(bY E N.runs.length).2=0 then F else(2,bY E N.runs.length))):=by
     by_cases hz:(bY E N.runs.length).2=0
     ·rw[BK hz,BK hz]
     ·rw[IN hz,IN hz]
    rw[←hR,←hg];refine bX (fun k=>((k:Int),N.stops.map Stop.pv,N.aj.map ay.pv,N.runs.map da.pv,N.au.map ba.pv,N.paths.map Path.pv,N.aL.map aA.pv,N.bk,N.within,N.cap,())) N.runs.length _ (fun k hk rec=>?_) (fun rec=>?_) (by have:=bp;omega) rfl
    ·have N3:=aaK N h.runs k hk;rw[hE]at N3;have h1:decide ((k:Int)<((N.runs.map da.pv).length:Int))=true:=by simp;omega
     unfold sS;dsimp only;rw[BK h1,jj,N3];simp only[U,asInt,aaV,nJ,ag (show k<9223372036854775807 by omega)];by_cases he:E k=0
     ·simp only[he,ajW,ajx,By,abG,aaV];rfl
     ·simp only[he,ajU,ajT,abG,aaV];rfl
    ·unfold sS;dsimp only;rw[IN (by simp),←hF];unfold kG;by_cases Zb:N.au.length>1024
     ·rw[BK (by simp;omega),BK Zb];rfl
     ·rw[IN (by simp;omega),IN Zb,ux]
  ·simp only[h2,ajU,ajT,By,abG,aaV,iw]
 ·simp only[h1,ajU,ajT,By,abG,aaV,iw]
theorem F6{N:ab}(h:(lE N).2.2=0):∀k,k<N.runs.length→lF N.runs N.stops.length N.aj.length k=0:=by
 unfold lE at h;by_cases h1:(iF N.stops).2=0
 ·rw[BK h1]at h;by_cases h2:(gV N.aj).2=0
  ·rw[BK h2]at h;by_cases h3:(q7 N.runs N.stops.length N.aj.length).2=0
   ·unfold q7 at h3;by_cases y8:N.runs.length>1024
    ·rw[BK y8]at h3;cases h3
    ·rw[IN y8]at h3;exact(kH _ _).1 h3
   ·rw[IN h3]at h;exact absurd h h3
  ·rw[IN h2]at h;exact absurd h h2
 ·rw[IN h1]at h;exact absurd h h1
theorem xY{N:ab}(h:(lE N).2.2=0):∀r∈N.runs,(jG r.calls N.stops.length 0 3155932800).2=0:=by
 intro r hr;obtain⟨k,hk,rfl⟩:=akn hr;have:=F6 h k hk;unfold lF at this;rw[AI hk]at this;simp only at this;by_cases hc:(jG N.runs[k].calls N.stops.length 0 3155932800).2=0
 ·exact hc
 ·rw[IN hc]at this;split at this
  ·cases this
  ·split at this
   ·cases this
   ·split at this
    ·cases this
    ·split at this
     ·cases this
     ·exact absurd this hc
theorem DH{l:List bV}{n a b:Int}(h:(jG l n a b).2=0):2≤l.length∧l.length≤32:=by
 unfold jG at h;by_cases hc:(decide ((l.length:Int)<2)||decide ((l.length:Int)>32))=true
 ·rw[BK hc]at h;cases h
 ·simp only[ajA,I5,amD]at hc;omega
theorem LW{l:List bV}{n a b:Int}(h:(jG l n a b).2=0):∀k,k<l.length→vY l n a b k=0:=by
 unfold jG at h;by_cases hc:(decide ((l.length:Int)<2)||decide ((l.length:Int)>32))=true
 ·rw[BK hc]at h;cases h
 ·rw[IN hc]at h;exact(kH _ _).1 h
end Go.Ab.Tt
