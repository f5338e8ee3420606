import Derived.Test.YteddgaennnfacaaGreatNkP1
import Derived.Test.YteddgaennnfacaaGreatNwP2
namespace Go.Ab.Tt
set_option maxRecDepth 100000
set_option linter.all false
def br(x:Path):Int×Int×Bool:=(x.a,x.b,x.free)
def FB(x:Int×Int×Bool):PV:=.agg [.int .i64 x.1,.int .i64 x.2.1,.bool x.2.2]
theorem OE(a b:Int×Int×Bool):bM (FB a).cells (FB b).cells=decide (a=b):=by obtain⟨a1,a2,a3⟩:=a;obtain⟨b1,b2,b3⟩:=b;rw[alE];simp[FB,PV.cells,bM,peq]
def cD(l:List Path)(n:Int)(k:Nat):Int:=match l[k]? with
 |none=>0
 |some x=>if(decide (x.a<0)||decide (x.a≥n)||decide (x.b<0)||decide (x.b≥n)||decide (x.a=x.b))=true then 9 else if(decide (x.jA<1)||decide (x.jA>14400))=true then 2 else if br x∈(l.map br).take k then 6 else 0
theorem I9(l:List Path)(n:Int)(hl:l.length≤maxLen):iK [.rs 4 (l.map Path.pv),.int .i64 n]=some (res (bJ (cD l n) l.length).1 (bJ (cD l n) l.length).2):=by
 have hm:=al;simp only[iK,uF,ah,asInt,IT,U,BY];rw[←cP];refine au (fun k=>(n,l.map Path.pv,(l.length:Int),(k:Int),seen FB ((l.map br).take k),())) l.length _ (fun k hk rec=>?_) (fun rec=>?_) ?_ rfl
 ·have h1:(k:Int)<(l.length:Int):=by omega
  have mJ:dm (.agg [.int .i64 l[k].a,.int .i64 l[k].b,.bool l[k].free]) (.bool true) (seen FB ((l.map br).take k))=_:=fy OE (br l[k]) ((l.map br).take k);have jY:bS (.agg [.int .i64 l[k].a,.int .i64 l[k].b,.bool l[k].free]) (.bool false) (seen FB ((l.map br).take k))=_:=eF OE (br l[k]) ((l.map br).take k);simp only[oG,AT,h1,IT,ab,IS,AI hk,No,U,I6,I7,OB,I8,asInt,asBool,mJ,jY,cd,af (show k<9223372036854775807 by omega),jC br l k hk];unfold cD;rw[AI hk];simp only;by_cases bk:br l[k]∈(l.map br).take k
  ·simp only[bk,IT];by_cases e1:l[k].a<0<;>by_cases e2:l[k].a≥n<;>by_cases e3:l[k].b<0<;>by_cases e4:l[k].b≥n<;>by_cases e5:l[k].a=l[k].b<;>by_cases e6:l[k].jA<1<;>by_cases e7:l[k].jA>14400<;>simp only[e1,e2,e3,e4,e5,e6,e7,alB,alw,aou,aoa,amg,IT,Wi,IN]<;>rfl
  ·simp only[bk,Wi,IN];by_cases e1:l[k].a<0<;>by_cases e2:l[k].a≥n<;>by_cases e3:l[k].b<0<;>by_cases e4:l[k].b≥n<;>by_cases e5:l[k].a=l[k].b<;>by_cases e6:l[k].jA<1<;>by_cases e7:l[k].jA>14400<;>simp only[e1,e2,e3,e4,e5,e6,e7,alB,alw,aou,aoa,amg,IT,Wi,IN]<;>rfl
 ·simp only[oG,AT,alk,Wi];rfl
 ·have:=aq;omega
def toFp(p:Path):Nw.Fp:=⟨p.a.toNat,p.b.toNat,p.jA.toNat,p.free⟩
def Sound(l:List Path)(n:Nat):Prop:=∀p∈l,0≤p.a∧p.a<n∧0≤p.b∧p.b<n∧1≤p.jA∧p.jA≤14400
variable{l:List Path}{n:Nat}
theorem En(h:(bJ (cD l n) l.length).2=0):Sound l n:=by intro p hp;obtain⟨k,hk,rfl⟩:=anm hp;have h0:=(pX _ _).1 h k hk;unfold cD at h0;grind
theorem toFp_pv{p:Path}(h1:0≤p.a)(h2:0≤p.b)(h3:1≤p.jA):(toFp p).pv=p.pv:=by grind [toFp,Nw.Fp.pv,Path.pv,Int.toNat_of_nonneg]
theorem Oo(h:Sound l n):(l.map toFp).map Nw.Fp.pv=l.map Path.pv:=by rw[am0];apply alQ;intro p hp;exact toFp_pv (h p hp).1 (h p hp).2.2.1 (h p hp).2.2.2.2.1
def sZ(e:List PV):Path:=match e with|[.int .i64 a,.int .i64 b,.int .i64 s,.bool f]=>⟨a,b,s,f⟩|_=>⟨0,0,0,false⟩
theorem C9:∀(L:List (List PV)),(∀e∈L,Nw.IsF e)→eS L=(L.map sZ).map Path.pv
 |[],_=>rfl
 |e::L,h=>by obtain⟨i,k,s,b,rfl⟩:=h e (by simp);have:=C9 L fun x hx=>h x (by simp[hx]);unfold eS at this⊢;rw[alu,alu,alu,this];rfl
def cR(l:List Path)(n:Nat):List Path:=(Nw.zJ n (Nw.eE n (l.map toFp) false) (Nw.eE n (l.map toFp) true)).map sZ
theorem Fz(hn:n≤64)(hl:l.length≤8192)(h:Sound l n):eG [.rs 4 (l.map Path.pv),.int .i64 n]=some (.rs 4 ((cR l n).map Path.pv))∧iL [.rs 4 (l.map Path.pv),.int .i64 n]=some (.rs 4 ((cR l n).map Path.pv)):=by have:=Nw.Ri (l.map toFp) n hn (by simpa using hl) (fun p hp=>by obtain⟨q,hq,rfl⟩:=alC.1 hp;have:=h q hq;simp only[toFp];omega);rw[Oo h,C9 _ (Nw.IV n _ _)]at this;exact this
theorem Et(l:List Path)(n:Nat)(hn:n≤64):(cR l n).length≤8192:=by
 have h1:(cR l n).length=(eS (Nw.zJ n (Nw.eE n (l.map toFp) false) (Nw.eE n (l.map toFp) true))).length:=by simp[cR,eS]
 rw[h1,Nw.B2];have h2:=Nw.AJ (it:=fun i k=>Nw.xU (Nw.eE n (l.map toFp) false i k) (Nw.eE n (l.map toFp) true i k) i k) (fun i k=>Nw.Es _ _ i k) n n;have h3:2*n*n≤2*64*64:=amR (amL 2 hn) hn;omega
theorem OG(x y:Path):bM [cell x.pv 0,cell x.pv 1,cell x.pv 2,cell x.pv 3] [cell y.pv 0,cell y.pv 1,cell y.pv 2,cell y.pv 3]=decide (x=y):=by rw[alE];obtain⟨a,b,c,d⟩:=x;obtain⟨a',b',c',d'⟩:=y;simp[I6,I7,OB,I8,bM,peq]
theorem Ew(x:Path):iV (Kd.int IntKind.i64::[].append (Kd.int IntKind.i64::[].append (Kd.int IntKind.i64::[].append (Kd.bool::[].append [])))) [cell x.pv 0,cell x.pv 1,cell x.pv 2,cell x.pv 3]=true:=rfl
def qB(l:List Path)(n:Nat):Bool:=decide (cR l n=l)
theorem OH(hn:n≤64)(hl:l.length≤8192)(h:(bJ (cD l n) l.length).2=0):gY [.rs 4 (l.map Path.pv),.int .i64 n]=some (.bool (qB l n)):=by
 have hm:8192≤maxLen:=by decide
 have hs:=I9 l n (by omega);have hf:=VD _ _ h;rw[h,hf]at hs;have hc:=(Fz hn hl (En h)).1;have xJ:=Et l n hn;have gW:¬decide ((n:Int)>64)=true:=by simp;omega
 have h0:¬(0:Int)>(n:Int):=by omega
 simp only[gY,oH,ah,asInt,IT,U];rw[acB gW,hs];simp only[res,bR,aiK,alh,Nat.reduceAdd,IT,U,adz,aiJ,asInt,acB h0,hc,ah,BY];rw[acB (by simp)];unfold qB;by_cases hlen:(cR l n).length=l.length
 ·rw[acB (by simp[dy,hlen])];have hr:=s8 (cR l n) l hlen (some (PV.bool false)) (some (PV.bool true));have:some (PV.bool (decide (cR l n=l)))=if cR l n=l then some (PV.bool true)else some (PV.bool false):=by grind
  rw[this,←hr];refine au (fun k=>(l.map Path.pv,(cR l n).map Path.pv,((cR l n).length:Int),(k:Int),())) (cR l n).length _ (fun k hk rec=>?_) (fun rec=>?_) ?_ rfl
  ·have h1:decide ((k:Int)<((cR l n).length:Int))=true:=by simp;omega
   have ko:k<l.length:=by omega
   unfold kB;dsimp only;rw[T0 h1,ab,IS,AI hk,ab,IS,AI ko];simp only[No,U];rw[T0 ⟨Ew _,Ew _⟩,OG,af (by omega)];grind [cR,bu]
  ·simp[kB,acB]
  ·have:=aq;omega
 ·rw[T0 (by simp[dy];omega)];rw[amX (fun hc=>hlen (by rw[hc]))]
def cO(l:List Path)(n:Nat):Int×Int:=if(bJ (cD l n) l.length).2=0 then(if qB l n=true then(0,0)else(0,18))else bJ (cD l n) l.length
def wU(x:Int×Int×Bool):PV:=.agg [.int .i64 x.1,.int .i64 x.2.1,.int .i64 0,.bool x.2.2]
theorem agL(a b:Int×Int×Bool):bM (wU a).cells (wU b).cells=decide (a=b):=by obtain⟨a1,a2,a3⟩:=a;obtain⟨b1,b2,b3⟩:=b;rw[alE];simp[wU,PV.cells,bM,peq]
theorem GM(N:bm)(l:List Path)(n:Nat)(hl:l.length≤8192)(hlen:(N.stops.map Stop.pv).length=n)(k:Nat)(hk:k<l.length)(rec:ab9→Option PV):cK (l.map Path.pv,(l.length:Int),(k:Int),N.stops.map Stop.pv,N.ai.map az.pv,N.runs.map aY.pv,N.aO.map aP.pv,l.map Path.pv,N.aB.map ba.pv,N.aZ,N.within,N.cap,0,0,0,seen wU ((l.map br).take k),()) rec=bu (if cD l n k=0 then none else some (some (r3 4 k (cD l n k)))) (rec (l.map Path.pv,(l.length:Int),((k+1:Nat):Int),N.stops.map Stop.pv,N.ai.map az.pv,N.runs.map aY.pv,N.aO.map aP.pv,l.map Path.pv,N.aB.map ba.pv,N.aZ,N.within,N.cap,0,0,0,seen wU ((l.map br).take (k+1)),())):=by
 have h1:decide ((k:Int)<(l.length:Int))=true:=by simp;omega
 have mJ:dm (.agg [.int .i64 l[k].a,.int .i64 l[k].b,.int .i64 0,.bool l[k].free]) (.bool true) (seen wU ((l.map br).take k))=_:=fy agL (br l[k]) ((l.map br).take k);have jY:bS (.agg [.int .i64 l[k].a,.int .i64 l[k].b,.int .i64 0,.bool l[k].free]) (.bool false) (seen wU ((l.map br).take k))=_:=eF agL (br l[k]) ((l.map br).take k);unfold cK;dsimp only;rw[T0 h1,ab,IS,AI hk,hlen];simp only[No,U,I6,I7,OB,I8,asInt,asBool,IT,Df,aL,cd,mJ,jY,OD,WQ,YJ,YK,VC,jC br l k hk,af (show k<9223372036854775807 by omega)];have hA:(!(decide (l[k].a≥0)&&decide (l[k].a<(n:Int)))|| !(decide (l[k].b≥0)&&decide (l[k].b<(n:Int)))||decide (l[k].a=l[k].b))=(decide (l[k].a<0)||decide (l[k].a≥(n:Int))||decide (l[k].b<0)||decide (l[k].b≥(n:Int))||decide (l[k].a=l[k].b)):=by grind
 rw[hA];unfold cD;rw[AI hk];simp only;generalize (decide (l[k].a<0)||decide (l[k].a≥(n:Int))||decide (l[k].b<0)||decide (l[k].b≥(n:Int))||decide (l[k].a=l[k].b))=A;generalize (decide (l[k].jA<1)||decide (l[k].jA>14400))=B;by_cases bk:br l[k]∈(l.map br).take k
 ·simp only[bk,IT];cases A<;>cases B<;>rfl
 ·simp only[bk,Wi];cases A<;>cases B<;>rfl
theorem J5(N:bm)(hn:N.stops.length≤64)(hl:N.paths.length≤8192):cW [N.pv]=some (prt 4 (cO N.paths N.stops.length)):=by
 have hm:8192≤maxLen:=by decide
 simp only[cW,mS,Cd,C0,C1,C2,C3,C4,C5,C6,C7,C8,U,BY];generalize Xc:N.paths=l at hl⊢;generalize Nc:N.stops.length=n at hn⊢;have hlen:(N.stops.map Stop.pv).length=n:=by simpa using Nc
 have hg:=nA (cD l n) l.length (fun i e=>r3 4 i e) (some (if qB l n=true then r3 0 0 0 else r3 4 0 18));have hR:some (prt 4 (cO l n))=if(bJ (cD l n) l.length).2=0 then some (if qB l n=true then r3 0 0 0 else r3 4 0 18)else some (r3 4 (bJ (cD l n) l.length).1 (bJ (cD l n) l.length).2):=by unfold cO prt;grind
 rw[hR,←hg];by_cases hz:(bJ (cD l n) l.length).2=0
 ·refine au (fun k=>(l.map Path.pv,(l.length:Int),(k:Int),N.stops.map Stop.pv,N.ai.map az.pv,N.runs.map aY.pv,N.aO.map aP.pv,l.map Path.pv,N.aB.map ba.pv,N.aZ,N.within,N.cap,0,0,0,seen wU ((l.map br).take k),())) l.length _ (fun k hk rec=>GM N l n hl hlen k hk rec) (fun rec=>?_) ?_ rfl
  ·unfold cK;dsimp only;rw[acB (by simp),hlen,OH hn hl hz];simp only[U,asBool,OD,WQ,YJ,YK,VC];cases qB l n<;>rfl
  ·have:=aq;omega
 ·have nO:=au (body:=cK) (fun k=>(l.map Path.pv,(l.length:Int),(k:Int),N.stops.map Stop.pv,N.ai.map az.pv,N.runs.map aY.pv,N.aO.map aP.pv,l.map Path.pv,N.aB.map ba.pv,N.aZ,N.within,N.cap,0,0,0,seen wU ((l.map br).take k),())) l.length _ (fin:=cK (l.map Path.pv,(l.length:Int),(l.length:Int),N.stops.map Stop.pv,N.ai.map az.pv,N.runs.map aY.pv,N.aO.map aP.pv,l.map Path.pv,N.aB.map ba.pv,N.aZ,N.within,N.cap,0,0,0,seen wU ((l.map br).take l.length),()) fun _=>none) (fun k hk rec=>GM N l n hl hlen k hk rec) (fun rec=>?_) (by have:=aq;omega) (s0:=(l.map Path.pv,(l.length:Int),0,N.stops.map Stop.pv,N.ai.map az.pv,N.runs.map aY.pv,N.aO.map aP.pv,l.map Path.pv,N.aB.map ba.pv,N.aZ,N.within,N.cap,0,0,0,[],())) rfl
  ·simp_all[nA,acB]
  simp[cK,acB]
theorem MB(N:bm)(l:List Path)(hl:l.length≤8192)(i:Nat)(hi:i<l.length)(gm:YM→Option PV):aX.run (oI gm) ((i:Int),0,N.stops.map Stop.pv,N.ai.map az.pv,N.runs.map aY.pv,N.aO.map aP.pv,l.map Path.pv,N.aB.map ba.pv,N.aZ,N.within,N.cap,.int .i64 l[i].a,.int .i64 l[i].b,.int .i64 l[i].jA,.bool l[i].free,())=if br l[i]∈(l.map br).take i then some (res i 6)else gm (IntKind.i64.wrap ((i:Int)+1),N.stops.map Stop.pv,N.ai.map az.pv,N.runs.map aY.pv,N.aO.map aP.pv,l.map Path.pv,N.aB.map ba.pv,N.aZ,N.within,N.cap,()):=by
 have hm:8192≤maxLen:=by decide
 refine(cQ (fun k=>((i:Int),(k:Int),N.stops.map Stop.pv,N.ai.map az.pv,N.runs.map aY.pv,N.aO.map aP.pv,l.map Path.pv,N.aB.map ba.pv,N.aZ,N.within,N.cap,PV.int .i64 l[i].a,PV.int .i64 l[i].b,PV.int .i64 l[i].jA,PV.bool l[i].free,())) i (fun k=>decide ((l.map br)[k]?=some (br l[i]))) (no:=some (res i 6)) (fin:=gm (IntKind.i64.wrap ((i:Int)+1),N.stops.map Stop.pv,N.ai.map az.pv,N.runs.map aY.pv,N.aO.map aP.pv,l.map Path.pv,N.aB.map ba.pv,N.aZ,N.within,N.cap,())) (fun k hk rec=>?_) (fun rec=>?_) ?_ rfl).trans ?_
 ·have h1:decide ((k:Int)<(i:Int))=true:=by simp;omega
  have ko:k<l.length:=by omega
  have hd:decide ((l.map br)[k]?=some (br l[i]))=(decide (l[k].a=l[i].a)&&decide (l[k].b=l[i].b)&&decide (l[k].free=l[i].free)):=by rw[alE];simp[AI ko,br,ani]
  rw[hd];unfold oI;dsimp only;rw[T0 h1,ab,IS,AI ko];simp only[No,U,I6,I7,I8,asInt,asBool,IT,af (show k<9223372036854775807 by omega),cd,bt];rfl
 ·simp[oI,acB]
 ·have:=aq;omega
 ·rw[gB _ _ (by simp;omega)];simp_all
theorem VE(N:bm)(hn:N.stops.length≤64)(hl:N.paths.length≤8192):qI [N.pv]=some (res (cO N.paths N.stops.length).1 (cO N.paths N.stops.length).2):=by
 have hm:8192≤maxLen:=by decide
 simp only[qI,AW,Cd,C0,C1,C2,C3,C4,C5,C6,C7,C8,U];generalize Xc:N.paths=l at hl⊢;generalize Nc:N.stops.length=n at hn⊢;have hlen:(N.stops.map Stop.pv).length=n:=by simpa using Nc
 have hw:IntKind.i64.wrap ((n:Int)-1)=(n:Int)-1:=aW (by omega) (by omega);have YN:∀k,(hk:k<l.length)→∀rec,fY aX ((k:Int),N.stops.map Stop.pv,N.ai.map az.pv,N.runs.map aY.pv,N.aO.map aP.pv,l.map Path.pv,N.aB.map ba.pv,N.aZ,N.within,N.cap,()) rec=bu (if cD l n k=0 then none else some (some (res k (cD l n k)))) (rec (((k+1:Nat):Int),N.stops.map Stop.pv,N.ai.map az.pv,N.runs.map aY.pv,N.aO.map aP.pv,l.map Path.pv,N.aB.map ba.pv,N.aZ,N.within,N.cap,())):=by
  intro k hk rec;have h1:decide ((k:Int)<((l.map Path.pv).length:Int))=true:=by simp;omega
  have pV:=MB N l hl k hk rec;unfold fY;dsimp only;rw[T0 h1,ab,IS,AI hk,hlen,hw];simp only[No,U,I6,I7,OB,I8,asInt,asBool,IT,IZ,aL,cd,pV,af (show k<9223372036854775807 by omega)];have hA:(!(decide (l[k].a≥0)&&decide (l[k].a≤(n:Int)-1))|| !(decide (l[k].b≥0)&&decide (l[k].b≤(n:Int)-1))||decide (l[k].a=l[k].b))=(decide (l[k].a<0)||decide (l[k].a≥(n:Int))||decide (l[k].b<0)||decide (l[k].b≥(n:Int))||decide (l[k].a=l[k].b)):=by grind
  have hB:(!(decide (l[k].jA≥1)&&decide (l[k].jA≤14400)))=(decide (l[k].jA<1)||decide (l[k].jA>14400)):=by grind
  rw[hA,hB];unfold cD;rw[AI hk];simp only;generalize (decide (l[k].a<0)||decide (l[k].a≥(n:Int))||decide (l[k].b<0)||decide (l[k].b≥(n:Int))||decide (l[k].a=l[k].b))=A;generalize (decide (l[k].jA<1)||decide (l[k].jA>14400))=B;by_cases bk:br l[k]∈(l.map br).take k
  ·simp only[bk,IT];cases A<;>cases B<;>rfl
  ·simp only[bk,Wi];cases A<;>cases B<;>rfl
 have hg:=nA (cD l n) l.length (fun i e=>res i e) (some (if qB l n=true then res 0 0 else res 0 18));have hR:some (res (cO l n).1 (cO l n).2)=if(bJ (cD l n) l.length).2=0 then some (if qB l n=true then res 0 0 else res 0 18)else some (res (bJ (cD l n) l.length).1 (bJ (cD l n) l.length).2):=by unfold cO;grind
 rw[hR,←hg];by_cases hz:(bJ (cD l n) l.length).2=0
 ·refine au (fun k=>((k:Int),N.stops.map Stop.pv,N.ai.map az.pv,N.runs.map aY.pv,N.aO.map aP.pv,l.map Path.pv,N.aB.map ba.pv,N.aZ,N.within,N.cap,())) l.length _ YN (fun rec=>?_) ?_ rfl
  ·have hc:=(Fz hn hl (En hz)).2;have xJ:=Et l n hn;unfold fY;dsimp only;rw[acB (by simp),hlen,hc];simp only[U,ah,IT,BY];unfold qB;by_cases YO:(cR l n).length=l.length
   ·rw[acB (by simp[dy,YO])];have hr:=s8 (cR l n) l YO (some (res 0 18)) (some (res 0 0));have:some (if decide (cR l n=l)=true then res 0 0 else res 0 18)=if cR l n=l then some (res 0 0)else some (res 0 18):=by grind
    rw[this,←hr];refine au (fun k=>((cR l n).map Path.pv,(k:Int),N.stops.map Stop.pv,N.ai.map az.pv,N.runs.map aY.pv,N.aO.map aP.pv,l.map Path.pv,N.aB.map ba.pv,N.aZ,N.within,N.cap,())) (cR l n).length _ (fun k hk rec=>?_) (fun rec=>?_) ?_ rfl
    ·have h1:decide ((k:Int)<(((cR l n).map Path.pv).length:Int))=true:=by simp;omega
     have ko:k<l.length:=by omega
     unfold uG;dsimp only;rw[T0 h1,ab,IS,AI hk,ab,IS,AI ko];simp only[No,U];rw[T0 ⟨Ew _,Ew _⟩,OG,af (by omega)];grind [cR,bu,res]
    ·unfold uG;dsimp only;rw[acB (by simp)];rfl
    ·have:=aq;omega
   ·rw[T0 (by simp[dy];omega)];rw[amX (fun hc=>YO (by rw[hc]))];rfl
  ·have:=aq;omega
 ·have nO:=au (body:=fY aX) (fun k=>((k:Int),N.stops.map Stop.pv,N.ai.map az.pv,N.runs.map aY.pv,N.aO.map aP.pv,l.map Path.pv,N.aB.map ba.pv,N.aZ,N.within,N.cap,())) l.length _ (fin:=fY aX ((l.length:Int),N.stops.map Stop.pv,N.ai.map az.pv,N.runs.map aY.pv,N.aO.map aP.pv,l.map Path.pv,N.aB.map ba.pv,N.aZ,N.within,N.cap,()) fun _=>none) YN (fun rec=>?_) (by have:=aq;omega) (s0:=(0,N.stops.map Stop.pv,N.ai.map az.pv,N.runs.map aY.pv,N.aO.map aP.pv,l.map Path.pv,N.aB.map ba.pv,N.aZ,N.within,N.cap,())) rfl
  ·simp_all[nA,acB]
  simp[fY,acB]
def fF(x:aY):Bytes×Int×Int:=(x.id,x.day,x.inst)
def OI(x:Bytes×Int×Int):PV:=.agg [.str x.1,.int .i64 x.2.1,.int .i64 x.2.2]
theorem YP(a b:Bytes×Int×Int):bM (OI a).cells (OI b).cells=decide (a=b):=by obtain⟨a1,a2,a3⟩:=a;obtain⟨b1,b2,b3⟩:=b;rw[alE];simp[OI,PV.cells,bM,peq]
def mQ(l:List aY)(stops ai:Int)(k:Nat):Int:=match l[k]? with
 |none=>0
 |some x=>if eo x.id=false then 12 else if(decide (x.bp< -1)||decide (x.inst<0))=true then 2 else if(decide (x.day<0)||decide (x.day>36524))=true then 11 else if(decide (x.bV<0)||decide (x.bV≥ai))=true then 9 else if(gf x.calls stops 0 3155932800).2=0 then(if fF x∈(l.map fF).take k then 6 else 0)else(gf x.calls stops 0 3155932800).2
def qC(l:List aY)(stops ai:Int):Int×Int:=if l.length>1024 then(0,5)else bJ (mQ l stops ai) l.length
theorem Rj(N:bm)(l:List aY)(hl:l.length≤maxLen∧∀y∈l,y.Ok)(k:Nat)(hk:k<l.length)(rec:ab9→Option PV):gC (l.map aY.pv,(l.length:Int),(k:Int),N.stops.map Stop.pv,N.ai.map az.pv,l.map aY.pv,N.aO.map aP.pv,N.paths.map Path.pv,N.aB.map ba.pv,N.aZ,N.within,N.cap,0,0,0,seen OI ((l.map fF).take k),()) rec=bu (if mQ l N.stops.length N.ai.length k=0 then none else some (some (r3 2 k (mQ l N.stops.length N.ai.length k)))) (rec (l.map aY.pv,(l.length:Int),((k+1:Nat):Int),N.stops.map Stop.pv,N.ai.map az.pv,l.map aY.pv,N.aO.map aP.pv,N.paths.map Path.pv,N.aB.map ba.pv,N.aZ,N.within,N.cap,0,0,0,seen OI ((l.map fF).take (k+1)),())):=by
 have hm:=al;have h1:decide ((k:Int)<(l.length:Int))=true:=by simp;omega
 have hO:=hl.2 _ (alj hk);have hid:=xV l[k].id hO.id;have sM:=Lh l[k].calls N.stops.length 0 3155932800 hO.calls.1;simp only[res]at sM;have mJ:dm (.agg [.str l[k].id,.int .i64 l[k].day,.int .i64 l[k].inst]) (.bool true) (seen OI ((l.map fF).take k))=_:=fy YP (fF l[k]) ((l.map fF).take k);have jY:bS (.agg [.str l[k].id,.int .i64 l[k].day,.int .i64 l[k].inst]) (.bool false) (seen OI ((l.map fF).take k))=_:=eF YP (fF l[k]) ((l.map fF).take k);unfold gC;dsimp only;rw[T0 h1,ab,IS,AI hk];simp only[No,U,Ev,De,J4,Oz,Rg,Ce,aT,asInt,asBool,ah,IT,BY,hid,sM,bR,aiK,alh,Nat.reduceAdd,adz,aiJ,aL,dy,mJ,jY,OD,WQ,YJ,YK,VC,jC fF l k hk,af (show k<9223372036854775807 by omega)];unfold mQ;rw[AI hk];simp only;generalize (decide (l[k].bp< -1)||decide (l[k].inst<0))=A;generalize (decide (l[k].day<0)||decide (l[k].day>36524))=B;generalize (decide (l[k].bV<0)||decide (l[k].bV≥(N.ai.length:Int)))=C;generalize (gf l[k].calls N.stops.length 0 3155932800).2=e;cases eo l[k].id with
 |false=>rfl
 |true=>
  cases A with
  |true=>rfl
  |false=>
   cases B with
   |true=>rfl
   |false=>
    cases C with
    |true=>rfl
    |false=>
     simp only[alc,IN,alp,Wi];by_cases he:e=0
     ·subst he;by_cases bk:fF l[k]∈(l.map fF).take k
      ·simp only[bk,IT,alB,alc,IN,Wi];rfl
      ·simp only[bk,IT,alB,alw,alc,IN,Wi];rfl
     ·simp only[he,Wi,IT,alw,alA];rfl
theorem MC(N:bm)(hl:N.runs.length≤maxLen∧∀y∈N.runs,y.Ok):gZ [N.pv]=some (prt 2 (qC N.runs N.stops.length N.ai.length)):=by
 have hm:=al;simp only[gZ,oJ,Cd,C0,C1,C2,C3,C4,C5,C6,C7,C8,U,BY];generalize Xc:N.runs=l at hl⊢;unfold qC;by_cases gW:l.length>1024
 ·rw[T0 (by simp;omega),T0 gW];rfl
 ·rw[acB (by simp;omega),acB gW];have hR:some (prt 2 (bJ (mQ l N.stops.length N.ai.length) l.length))=if(bJ (mQ l N.stops.length N.ai.length) l.length).2=0 then some (r3 0 0 0)else some (r3 2 (bJ (mQ l N.stops.length N.ai.length) l.length).1 (bJ (mQ l N.stops.length N.ai.length) l.length).2):=by unfold prt;grind
  rw[hR,←nA (mQ l N.stops.length N.ai.length) l.length (fun i e=>r3 2 i e)];refine au (fun k=>(l.map aY.pv,(l.length:Int),(k:Int),N.stops.map Stop.pv,N.ai.map az.pv,l.map aY.pv,N.aO.map aP.pv,N.paths.map Path.pv,N.aB.map ba.pv,N.aZ,N.within,N.cap,0,0,0,seen OI ((l.map fF).take k),())) l.length _ (fun k hk rec=>Rj N l hl k hk rec) (fun rec=>?_) ?_ rfl
  ·unfold gC;dsimp only;rw[acB (by simp)];rfl
  ·have:=aq;omega
theorem Rk(N:bm)(l:List aY)(hl:l.length≤maxLen)(i:Nat)(hi:i<l.length):aX.run s9 ((i:Int),0,N.stops.map Stop.pv,N.ai.map az.pv,l.map aY.pv,N.aO.map aP.pv,N.paths.map Path.pv,N.aB.map ba.pv,N.aZ,N.within,N.cap,.int .i64 l[i].bp,.int .i64 l[i].day,.int .i64 l[i].inst,.str l[i].id,.int .i64 l[i].bV,.bool l[i].free,.bool l[i].wS,.rs 5 (l[i].calls.map aF.pv),())=if fF l[i]∈(l.map fF).take i then some (.int .i64 6)else some (.int .i64 0):=by
 have hm:=al;refine(cQ (fun k=>((i:Int),(k:Int),N.stops.map Stop.pv,N.ai.map az.pv,l.map aY.pv,N.aO.map aP.pv,N.paths.map Path.pv,N.aB.map ba.pv,N.aZ,N.within,N.cap,PV.int .i64 l[i].bp,PV.int .i64 l[i].day,PV.int .i64 l[i].inst,PV.str l[i].id,PV.int .i64 l[i].bV,PV.bool l[i].free,PV.bool l[i].wS,PV.rs 5 (l[i].calls.map aF.pv),())) i (fun k=>decide ((l.map fF)[k]?=some (fF l[i]))) (no:=some (.int .i64 6)) (fin:=some (.int .i64 0)) (fun k hk rec=>?_) (fun rec=>?_) ?_ rfl).trans ?_
 ·have h1:decide ((k:Int)<(i:Int))=true:=by simp;omega
  have ko:k<l.length:=by omega
  have hd:decide ((l.map fF)[k]?=some (fF l[i]))=(decide (l[k].id=l[i].id)&&decide (l[k].day=l[i].day)&&decide (l[k].inst=l[i].inst)):=by rw[alE];simp[AI ko,fF,ani]
  rw[hd];unfold s9;dsimp only;rw[T0 h1,ab,IS,AI ko];simp only[No,U,De,J4,Oz,asInt,aT,IT,af (show k<9223372036854775807 by omega),cd,bt]
 ·simp[s9,acB]
 ·have:=aq;omega
 ·rw[gB _ _ (by simp;omega)];simp_all
theorem aca(N:bm)(hl:N.runs.length≤maxLen∧∀y∈N.runs,y.Ok)(k:Nat)(hk:k<N.runs.length):vL [N.pv,.int .i64 k]=some (.int .i64 (mQ N.runs N.stops.length N.ai.length k)):=by
 have hm:=al;have hO:=hl.2 _ (alj hk);simp only[vL,FC,Cd,C0,C1,C2,C3,C4,C5,C6,C7,C8,U];generalize Xc:N.runs=l at hl hk hO⊢;have hO':l[k].Ok:=by omega
 have hid:=yR l[k].id hO'.id;have sM:=Vz l[k].calls N.stops.length 0 3155932800 hO'.calls.1;have pV:=Rk N l hl.1 k hk;simp only[asInt,IT,U,ab,IS,AI hk,No,Ev,De,J4,Oz,Rg,VB,Rh,Ce,aT,asBool,ah,BY,hid,sM,IZ,aL,dy,pV];unfold mQ;grind
def nx(p:List aP)(v:Int):Option Int:=p.foldl (fun o x=>if(x.stay&&decide (x.a=v))=true then some x.b else o) none
theorem vI(p:List aP)(x:aP)(v:Int):nx (p++[x]) v=if(x.stay&&decide (x.a=v))=true then some x.b else nx p v:=by unfold nx;simp
def it(f:Int→Option Int):Nat→Int→Option Int
 |0,v=>some v
 |m+1,v=>(f v).bind (it f m)
theorem SY(f:Int→Option Int)(m:Nat)(v:Int):it f (m+1) v=(it f m v).bind f:=by
 induction m generalizing v with
 |zero=>show(f v).bind (it f 0)=f v;cases h:f v<;>rfl
 |succ m ih=>
  show(f v).bind (it f (m+1))=((f v).bind (it f m)).bind f;cases h:f v with
  |none=>rfl
  |some w=>exact ih w
def pY(p:List aP)(a b:Int)(n:Nat):Bool:=(List.range n).any fun t=>decide (it (nx p) (t+1) a=some b)
def AF(f:Int→Option Int):Prop:=∃r:Int→Nat,∀v w,f v=some w→r w<r v
theorem IM:AF (nx []):=⟨fun _=>0,fun v w h=>by cases h⟩
variable{p:List aP}
theorem Mk{v w:Int}(h:nx p v=some w):∃x∈p,x.stay=true∧x.a=v∧x.b=w:=by
 have key:∀n,n≤p.length→nx (p.take n) v=some w→∃x∈p,x.stay=true∧x.a=v∧x.b=w:=by
  intro n;induction n with
  |zero=>intro _ h;cases h
  |succ n ih=>
   intro hn h;have Nc:n<p.length:=by omega
   rw[alx Nc,vI]at h;grind
 exact key p.length (alz _) (by simp_all)
theorem IP{f:Int→Option Int}(hf:AF f)(S:List Int)(hS:∀v w,f v=some w→v∈S):∀m v,it f m v≠none→m≤S.length:=by
 obtain⟨r,hr⟩:=hf;induction hn:S.length generalizing S f r with
 |zero=>
  intro m v h;cases m with
  |zero=>omega
  |succ m=>
   exfalso;cases hfv:f v with
   |none=>exact h (by show(f v).bind _=none;rw[hfv];rfl)
   |some w=>simp_all
 |succ n ih=>
  intro m v h;cases m with
  |zero=>omega
  |succ m=>
   cases hfv:f v with
   |none=>exact absurd (by show(f v).bind _=none;rw[hfv];rfl) h
   |some w=>
    have hvS:=hS v w hfv;let g:Int→Option Int:=fun x=>if x=v then none else f x;have hg:∀x y,g x=some y→r y<r x:=fun x y hxy=>by grind
    have hgS:∀x y,g x=some y→x∈S.erase v:=fun x y hxy=>by grind
    have hlen:(S.erase v).length=n:=by simp_all
    have ac4:∀k x,r x<r v→it g k x=it f k x:=by
     intro k;induction k with
     |zero=>intros;rfl
     |succ k ihk=>
      intro x hx;have hxv:x≠v:=fun h=>by subst h;omega
      show(g x).bind (it g k)=(f x).bind (it f k);have:g x=f x:=by simp[g,hxv]
      rw[this];cases hfx:f x with
      |none=>rfl
      |some y=>grind
    have hw:it f m w≠none:=by simp_all[it]
    have:=ih (S.erase v) hgS r hg hlen m w (by simp_all);omega
theorem MD(hp:AF (nx p)){m:Nat}(hm:p.length<m)(v:Int):it (nx p) m v=none:=by
 cases h:it (nx p) m v with
 |none=>rfl
 |some w=>have:=IP hp (p.map aP.a) (fun x y hxy=>by grind [Mk]) m v (by simp_all);grind
theorem GD(hp:AF (nx p))(x:aP)(h:x.stay=false∨(x.a≠x.b∧nx p x.a=none∧pY p x.b x.a (p.length+1)=false)):AF (nx (p++[x])):=by
 cases hs:x.stay with
 |false=>obtain⟨r,hr⟩:=hp;refine⟨r,fun v w Yu=>hr v w ?_⟩;simp_all[vI,amS,acB]
 |true=>
  rw[hs]at h;rcases h with h|⟨sX,hna,akT⟩
  ·cases h
  have Na:=hp;obtain⟨r,hr⟩:=hp;have zT:∀t,it (nx p) (t+1) x.b≠some x.a:=by grind [pY,List.any_eq_false,MD]
  let R:Int→Prop:=fun v=>∃t,it (nx p) t v=some x.a;have hRb:¬R x.b:=fun⟨t,ht⟩=>by
   cases t with
   |zero=>simp_all[it]
   |succ t=>exact zT t ht
  refine⟨fun v=>open Classical in if R v then r v+r x.b+1 else r v,fun v w Yu=>?_⟩;rw[vI,hs,ama]at Yu;by_cases hv:x.a=v
  ·rw[T0 (by simpa using hv)]at Yu;simp only[By]at Yu;subst Yu;have hRv:R v:=⟨0,by show some v=some x.a;rw[hv]⟩;grind
  ·rw[acB (by simpa using hv)]at Yu;have bQ:=hr v w Yu;show(open Classical in if R w then r w+r x.b+1 else r w)<(open Classical in if R v then r v+r x.b+1 else r v);by_cases hw:R w
   ·have hRv:R v:=by obtain⟨t,ht⟩:=hw;exact⟨t+1,by simp_all[nx,it]⟩
    simp_all
   ·rw[acB hw];by_cases hRv:R v
    ·rw[T0 hRv];omega
    simp_all
def vM(a:Int):PV:=.int .i64 a
def dx(x:aP):Int×Int×Int×Int:=(x.a,x.ac,x.b,x.bc)
def OJ(x:Int×Int×Int×Int):PV:=.agg [.int .i64 x.1,.int .i64 x.2.1,.int .i64 x.2.2.1,.int .i64 x.2.2.2]
theorem YQ(a b:Int×Int×Int×Int):bM (OJ a).cells (OJ b).cells=decide (a=b):=by obtain⟨a1,a2,a3,a4⟩:=a;obtain⟨b1,b2,b3,b4⟩:=b;rw[alE];simp[OJ,PV.cells,bM,peq]
def CB(p:List aP):List (Int×PV):=p.foldl (fun m x=>if x.stay=true then Ey x.a (.int .i64 x.b) m else m) []
theorem Dg(p:List aP)(x:aP):CB (p++[x])=if x.stay=true then Ey x.a (.int .i64 x.b) (CB p)else CB p:=by unfold CB;simp
def VF(a:Int)(m:List (Int×PV)):Bool:=m.any fun x=>decide (a=x.1)
theorem SZ(a:Int):∀m,lM (vM a) (zy vM m)=VF a m
 |[]=>rfl
 |(b,u)::r=>by have:=SZ a r;simp only[zy]at this;simp only[zy,alu,lM,VF,an4];rw[this];have:bM (vM a).cells (vM b).cells=decide (a=b):=B5 a b;rw[this];rfl
theorem OK(a b:Int)(v:PV):∀m,VF a (Ey b v m)=(decide (a=b)||VF a m)
 |[]=>by rfl
 |(c,u)::r=>by
  have:=OK a b v r;simp only[VF]at this⊢;by_cases h:b=c
  ·subst h;simp[Ey]
  ·simp only[Ey,h,Wi,an4,this];grind
theorem Ja{A:Type}{P:List A→Prop}(h0:P [])(h1:∀p x,P p→P (p++[x]))(l:List A):P l:=by
 have key:∀n,n≤l.length→P (l.take n):=by
  intro n;induction n with
  |zero=>simp_all
  |succ n ih=>grind [List.take_succ_eq_append_getElem]
 have:=key l.length (alz _);simp_all
theorem VG(p:List aP)(v:Int):AX v (.int .i64 0) (CB p)=.int .i64 ((nx p v).getD 0):=by
 induction p using Ja with
 |h0=>rfl
 |h1 p x ih=>
  rw[Dg,vI];cases hs:x.stay with
  |false=>simp_all
  |true=>rw[T0 rfl,FD,ama];grind
theorem YR(p:List aP)(v:Int):VF v (CB p)=(nx p v).isSome:=by
 induction p using Ja with
 |h0=>rfl
 |h1 p x ih=>
  rw[Dg,vI];cases hs:x.stay with
  |false=>simp_all
  |true=>rw[T0 rfl,OK,ama];grind
def rL(p:List aP):List (PV×PV):=zy vM (CB p)
theorem Dh(p:List aP)(v:Int):bS (.int .i64 v) (.int .i64 0) (rL p)=.int .i64 ((nx p v).getD 0):=by have:=Jb (key:=vM) B5 v (.int .i64 0) (CB p);rw[VG]at this;exact this
theorem FE(p:List aP)(v:Int):lM (.int .i64 v) (rL p)=(nx p v).isSome:=by have:=SZ v (CB p);rw[YR]at this;exact this
theorem Rl(p:List aP)(x:aP):rL (p++[x])=if x.stay=true then dm (.int .i64 x.a) (.int .i64 x.b) (rL p)else rL p:=by
 have:=ME (key:=vM) B5 x.a (.int .i64 x.b) (CB p);unfold rL;rw[Dg];by_cases h:x.stay=true
 ·rw[T0 h,T0 h];exact this.symm
 simp_all
def pJ(p:List aP):List Int:=(p.filter aP.stay).map aP.b
theorem Rm(p:List aP)(x:aP):pJ (p++[x])=if x.stay=true then pJ p++[x.b]else pJ p:=by grind [pJ]
theorem K9(p:List aP)(v:Int):(nx p v).isSome=p.any fun y=>y.stay&&decide (y.a=v):=by
 induction p using Ja with
 |h0=>rfl
 |h1 p x ih=>rw[vI,aog,←ih];grind
theorem Oj(p:List aP)(v:Int):decide (v∈pJ p)=p.any fun y=>y.stay&&decide (y.b=v):=by rw[alE,AT];simp only[pJ,AT,alC,amM,amx,ale];grind
def aem(f:Int→Option Int)(a b:Int)(t:Nat):Option (Option PV):=(it f (t+1) a).elim (some (some (.bool false))) fun v=>if v=b then some (some (.bool true))else none
theorem Rn(f:Int→Option Int)(b:Int)(n:Nat):∀a,it f (n+1) a=none→bu ((List.range n).findSome? (aem f a b)) (some (.bool false))=some (.bool ((List.range (n+1)).any fun t=>decide (it f (t+1) a=some b))):=by
 induction n with
 |zero=>intro a h;simp[bu,h]
 |succ n ih=>
  intro a h;rw[amO (n:=n+1),amO (n:=n),al8,an4];have h0:it f (0+1) a=f a:=by show(f a).bind (it f 0)=f a;cases hf:f a<;>rfl
  unfold aem;rw[h0];cases hf:f a with
  |none=>
   have hz:∀t,it f (t+1) a=none:=fun t=>by show(f a).bind _=none;rw[hf];rfl
   simp_all[Option.elim,bu,List.any_map,amW]
  |some v=>
   have hs:∀t,it f (t+1+1) a=it f (t+1) v:=fun t=>by show(f a).bind _=_;rw[hf];rfl
   by_cases hv:v=b
   ·simp_all[Option.elim,IT,bu,alB,aoa]
   ·have hd:decide (some v=some b)=false:=by simpa using hv
    simp only[Option.elim,acB hv,hd,ana];have:=ih v (by rw[←hs];omega);rw[List.findSome?_map,List.any_map];simp only[amW,Nat.succ_eq_add_one,hs];rw[←amO];exact this
theorem Rp(p:List aP)(hp:AF (nx p))(hl:p.length≤maxLen)(a b:Int):ml [.rm 3 ((rL p).map fun x=>x.fst) ((rL p).map fun x=>x.snd),.int .i64 a,.int .i64 b]=some (.bool (pY p a b (p.length+1))):=by
 have hz:((rL p).map fun x=>x.fst).zip ((rL p).map fun x=>x.snd)=rL p:=by
  generalize rL p=m;induction m with
  |nil=>rfl
  |cons x m ih=>simp_all
 simp only[ml,wV,cM,IT,asInt,U,hz,Dh,FE];unfold pY;rw[←Rn (nx p) b p.length a (MD hp (by omega) a)];refine au (fun t=>(PV.rm 3 ((rL p).map fun x=>x.fst) ((rL p).map fun x=>x.snd),b,(it (nx p) (t+1) a).getD 0,(it (nx p) (t+1) a).isSome,())) p.length _ (fun t ht rec=>?_) (fun rec=>?_) (by have:=aq;omega) ?_
 ·unfold kW aem;dsimp only;rw[SY (nx p) (t+1) a];cases hv:it (nx p) (t+1) a with
  |none=>rfl
  |some v=>
   simp only[anq,amo,IT,cd,AT,Option.elim];by_cases hvb:v=b
   ·rw[T0 hvb,T0 hvb];rfl
   ·rw[acB hvb,acB hvb];simp only[cM,IT,hz,Dh,FE,asInt,U,bu,alr]
 ·unfold kW;dsimp only;rw[MD hp (by omega)];rfl
 ·show(_,b,(it (nx p) 1 a).getD 0,(it (nx p) 1 a).isSome,())=_;have:it (nx p) 1 a=nx p a:=by show(nx p a).bind _=_;cases nx p a<;>rfl
  rw[this]
def bC(runs:List aY)(a:Int):List aF:=((runs[a.toNat]?).map aY.calls).getD []
def sd(cs:List aF)(c:Int):Int:=((cs[c.toNat]?).map aF.stop).getD 0
def G5(x:aP)(R:Int):Bool:= !(decide (x.a≥0)&&decide (x.a<R))|| !(decide (x.b≥0)&&decide (x.b<R))||decide (x.a=x.b)
def Cy(x:aP)(A B:Int):Bool:= !(decide (x.ac≥0)&&decide (x.ac<A))|| !(decide (x.bc≥0)&&decide (x.bc<B))
def Em(p:List aP)(x:aP)(A:Int):Bool:=x.stay&&(!decide (x.ac+1=A)|| !decide (x.bc=0)||(nx p x.a).isSome||decide (x.b∈pJ p)||pY p x.b x.a (p.length+1))
def dw(runs:List aY)(l:List aP)(k:Nat):Int:=match l[k]? with
 |none=>0
 |some x=>if G5 x runs.length=true then 9 else if Cy x (bC runs x.a).length (bC runs x.b).length=true then 9 else if sd (bC runs x.a) x.ac≠sd (bC runs x.b) x.bc then 13 else if Em (l.take k) x (bC runs x.a).length=true then 19 else if dx x∈(l.map dx).take k then 6 else 0
def lT(runs:List aY)(l:List aP):Int×Int:=if l.length>1024 then(0,5)else bJ (dw runs l) l.length
theorem Jc(runs:List aY)(l:List aP)(k:Nat)(hk:k≤l.length)(h:∀j,j<k→dw runs l j=0):AF (nx (l.take k))∧∀x∈l.take k,0≤x.a:=by
 induction k with
 |zero=>simp[ang,IM]
 |succ k ih=>
  have ko:k<l.length:=by omega
  obtain⟨h1,h2⟩:=ih (by omega) fun j hj=>h j (by omega);have hz:=h k (by omega);unfold dw at hz;rw[AI ko]at hz;simp only at hz;have hr:G5 l[k] runs.length=false:=by grind
  have hs:Em (l.take k) l[k] (bC runs l[k].a).length=false:=by grind
  unfold G5 at hr;simp only[alG,amh,ale,AT,alN]at hr;rw[alx ko];refine⟨GD h1 l[k] ?_,fun x hx=>?_⟩
  ·unfold Em at hs;cases nO:l[k].stay with
   |false=>simp
   |true=>simp_all
  grind
theorem Ez(runs:List aY)(a:Int)(h:0≤a∧a<(runs.length:Int)):∃r∈runs,pG (runs.map aY.pv) a=some r.pv∧bC runs a=r.calls:=by
 obtain⟨n,rfl⟩:=am4 h.1;have hn:n<runs.length:=by omega
 refine⟨runs[n],alj hn,?_,?_⟩
 ·rw[ab,IS,AI hn];rfl
 ·unfold bC;simp_all
theorem B6(cs:List aF)(c:Int)(h:0≤c∧c<(cs.length:Int)):∃r,pG (cs.map aF.pv) c=some r∧cell r 0=.int .i64 (sd cs c):=by
 obtain⟨n,rfl⟩:=am4 h.1;have hn:n<cs.length:=by omega
 refine⟨cs[n].pv,?_,?_⟩
 ·rw[ab,IS,AI hn];rfl
 ·unfold sd;rw[ali,AI hn];rfl
theorem AY{runs:List aY}(h:∀y∈runs,y.Ok)(a:Int):(bC runs a).length≤maxLen:=by
 unfold bC;cases hr:runs[a.toNat]? with
 |none=>simp
 |some r=>exact(h r (alf hr)).calls.1
theorem OL(N:bm)(runs:List aY)(hr:∀y∈runs,y.Ok)(l:List aP)(hl:l.length≤maxLen)(k:Nat)(hk:k<l.length)(Iw:∀j,j<k→dw runs l j=0)(rec:TY0→Option PV):gh (l.map aP.pv,(l.length:Int),(k:Int),N.stops.map Stop.pv,N.ai.map az.pv,runs.map aY.pv,l.map aP.pv,N.paths.map Path.pv,N.aB.map ba.pv,N.aZ,N.within,N.cap,0,0,0,rL (l.take k),seen vM (pJ (l.take k)),seen OJ ((l.map dx).take k),()) rec=bu (if dw runs l k=0 then none else some (some (r3 3 k (dw runs l k)))) (rec (l.map aP.pv,(l.length:Int),((k+1:Nat):Int),N.stops.map Stop.pv,N.ai.map az.pv,runs.map aY.pv,l.map aP.pv,N.paths.map Path.pv,N.aB.map ba.pv,N.aZ,N.within,N.cap,0,0,0,rL (l.take (k+1)),seen vM (pJ (l.take (k+1))),seen OJ ((l.map dx).take (k+1)),())):=by
 have hm:=al;have h1:decide ((k:Int)<(l.length:Int))=true:=by simp;omega
 obtain⟨agM,_⟩:=Jc runs l k (by omega) Iw;have hlen:(l.take k).length=k:=by simp;omega
 have Jd:=Rp (l.take k) agM (by omega) l[k].b l[k].a;have mJ:dm (.agg [.int .i64 l[k].a,.int .i64 l[k].ac,.int .i64 l[k].b,.int .i64 l[k].bc]) (.bool true) (seen OJ ((l.map dx).take k))=_:=fy YQ (dx l[k]) ((l.map dx).take k);have jY:bS (.agg [.int .i64 l[k].a,.int .i64 l[k].ac,.int .i64 l[k].b,.int .i64 l[k].bc]) (.bool false) (seen OJ ((l.map dx).take k))=_:=eF YQ (dx l[k]) ((l.map dx).take k);have agN:dm (.int .i64 l[k].b) (.bool true) (seen vM (pJ (l.take k)))=_:=fy (key:=vM) B5 l[k].b (pJ (l.take k));have aen:bS (.int .i64 l[k].b) (.bool false) (seen vM (pJ (l.take k)))=_:=eF (key:=vM) B5 l[k].b (pJ (l.take k));have hsn:l.take (k+1)=l.take k++[l[k]]:=alx hk;unfold gh;dsimp only;rw[T0 h1,ab,IS,AI hk,hsn,Rl,Rm,jC dx l k hk];simp only[No,U,OA,YH,link2,YI,SX,asInt,asBool,IT,BY,Df,aL,cd];unfold dw;rw[AI hk];simp only;have hR:(!(decide (l[k].a≥0)&&decide (l[k].a<(runs.length:Int)))|| !(decide (l[k].b≥0)&&decide (l[k].b<(runs.length:Int)))||decide (l[k].a=l[k].b))=G5 l[k] runs.length:=rfl;rw[hR];cases hb:G5 l[k] runs.length with
 |true=>rfl
 |false=>
  unfold G5 at hb;simp only[alG,amh,ale,AT,alN]at hb;obtain⟨ra,hra,hia,hca⟩:=Ez runs l[k].a ⟨hb.1.1.1,hb.1.1.2⟩;obtain⟨rb,hrb,hib,hcb⟩:=Ez runs l[k].b ⟨hb.1.2.1,hb.1.2.2⟩;have hA:=AY hr l[k].a;rw[hia,hib];simp only[U,Ce,ah,IT,BY,←hca,←hcb,Df,asBool,aL];have hC:(!(decide (l[k].ac≥0)&&decide (l[k].ac<((bC runs l[k].a).length:Int)))|| !(decide (l[k].bc≥0)&&decide (l[k].bc<((bC runs l[k].b).length:Int))))=Cy l[k] (bC runs l[k].a).length (bC runs l[k].b).length:=rfl;rw[hC];cases II:Cy l[k] (bC runs l[k].a).length (bC runs l[k].b).length with
  |true=>rfl
  |false=>
   unfold Cy at II;simp only[alG,amh,ale,AT]at II;obtain⟨ka,hka,hsa⟩:=B6 (bC runs l[k].a) l[k].ac II.1;obtain⟨kb,hkb,hsb⟩:=B6 (bC runs l[k].b) l[k].bc II.2;have hw:IntKind.i64.wrap (l[k].ac+1)=l[k].ac+1:=aW (by omega) (by omega);simp only[IN,Wi,hka,hkb,U,hsa,hsb,Dh,FE,jY,aen,mJ,agN,asInt,asBool,IT,Jd,hw,hlen,aL,bt,dy,OD,WQ,YJ,YK,VC,af (show k<9223372036854775807 by omega)];have hS:(l[k].stay&&(!decide (l[k].ac+1=((bC runs l[k].a).length:Int))|| !decide (l[k].bc=0)||(nx (l.take k) l[k].a).isSome||decide (l[k].b∈pJ (l.take k))||pY (l.take k) l[k].b l[k].a (k+1)))=Em (l.take k) l[k] (bC runs l[k].a).length:=by unfold Em;rw[hlen]
   rw[hS];generalize Em (l.take k) l[k] (bC runs l[k].a).length=S;by_cases nO:sd (bC runs l[k].a) l[k].ac=sd (bC runs l[k].b) l[k].bc
   ·simp only[nO,alB,alc,IN,Wi,aoA,not_true];cases S with
    |true=>rfl
    |false=>
     by_cases bk:dx l[k]∈(l.map dx).take k
     ·simp only[bk,alB,IT,IN,Wi];rfl
     ·simp only[bk,alw,IT,IN,Wi];cases l[k].stay<;>rfl
   ·simp only[nO,alw,alA,IT,aoA,not_false_eq_true];rfl
theorem J6(N:bm)(hr:N.runs.length≤maxLen∧∀y∈N.runs,y.Ok)(hl:N.aO.length≤maxLen):eU [N.pv]=some (prt 3 (lT N.runs N.aO)):=by
 have hm:=al;simp only[eU,mT,Cd,C0,C1,C2,C3,C4,C5,C6,C7,C8,U,BY];generalize Xc:N.aO=l at hl⊢;generalize DY:N.runs=runs at hr⊢;unfold lT;by_cases gW:l.length>1024
 ·rw[T0 (by simp;omega),T0 gW];rfl
 ·rw[acB (by simp;omega),acB gW];have hR:some (prt 3 (bJ (dw runs l) l.length))=if(bJ (dw runs l) l.length).2=0 then some (r3 0 0 0)else some (r3 3 (bJ (dw runs l) l.length).1 (bJ (dw runs l) l.length).2):=by unfold prt;grind
  rw[hR,←nA (dw runs l) l.length (fun i e=>r3 3 i e)];refine CA (fun k=>(l.map aP.pv,(l.length:Int),(k:Int),N.stops.map Stop.pv,N.ai.map az.pv,runs.map aY.pv,l.map aP.pv,N.paths.map Path.pv,N.aB.map ba.pv,N.aZ,N.within,N.cap,0,0,0,rL (l.take k),seen vM (pJ (l.take k)),seen OJ ((l.map dx).take k),())) l.length _ (fun k hk Iw rec=>OL N runs hr.2 l hl k hk (fun j hj=>?_) rec) (fun _ rec=>?_) (by have:=aq;omega) rfl
  ·simp_all
  ·unfold gh;dsimp only;rw[acB (by simp)];rfl
theorem VH(N:bm)(i:Nat)(hi:i<N.aO.length)(hl:N.aO.length≤maxLen)(hp:∀x∈N.aO.take i,0≤x.a)(a b:Int)(hb:0≤b):qJ [N.pv,.int .i64 i,.int .i64 a,.int .i64 b]=some (.bool (pY (N.aO.take i) a b (i+1))):=by
 have hm:=al;simp only[qJ,AZ,Cd,C0,C1,C2,C3,C4,C5,C6,C7,C8,U];simp only[asInt,IT,U];generalize Xc:N.aO=l at hl hi hp⊢;have VI:nx (l.take i) (-1)=none:=by
  cases hn:nx (l.take i) (-1)with
  |none=>rfl
  |some w=>grind [Mk]
 have zx:∀t,(nx (l.take i) ((it (nx (l.take i)) t a).getD (-1))).getD (-1)=(it (nx (l.take i)) (t+1) a).getD (-1):=by
  intro t;rw[SY];cases it (nx (l.take i)) t a with
  |none=>simp_all
  |some v=>rfl
 have pV:∀(c:Int)(t:Nat)gm,aX.run (oK gm) ((i:Int),c,b,(t:Int),-1,0,N.stops.map Stop.pv,N.ai.map az.pv,N.runs.map aY.pv,l.map aP.pv,N.paths.map Path.pv,N.aB.map ba.pv,N.aZ,N.within,N.cap,())=if(nx (l.take i) c).getD (-1)=b then some (.bool true)else gm ((i:Int),(nx (l.take i) c).getD (-1),b,IntKind.i64.wrap ((t:Int)+1),N.stops.map Stop.pv,N.ai.map az.pv,N.runs.map aY.pv,l.map aP.pv,N.paths.map Path.pv,N.aB.map ba.pv,N.aZ,N.within,N.cap,()):=by
  intro c t gm;refine aK (fun k=>((i:Int),c,b,(t:Int),(nx (l.take k) c).getD (-1),(k:Int),N.stops.map Stop.pv,N.ai.map az.pv,N.runs.map aY.pv,l.map aP.pv,N.paths.map Path.pv,N.aB.map ba.pv,N.aZ,N.within,N.cap,())) i (fun k hk rec=>?_) (fun rec=>?_) (by have:=aq;omega) (by rfl)
  ·have h1:decide ((k:Int)<(i:Int))=true:=by simp;omega
   have ko:k<l.length:=by omega
   unfold oK;dsimp only;rw[T0 h1,ab,IS,AI ko,alx ko,vI];simp only[No,U,OA,link2,SX,asInt,asBool,IT,bt,cd,af (show k<9223372036854775807 by omega)];grind
  simp[oK,acB,cd,AT]
 unfold pY;have wu:aX.run (oL aX) ((i:Int),a,b,0,N.stops.map Stop.pv,N.ai.map az.pv,N.runs.map aY.pv,l.map aP.pv,N.paths.map Path.pv,N.aB.map ba.pv,N.aZ,N.within,N.cap,())=if((List.range (i+1)).any fun t=>decide (it (nx (l.take i)) (t+1) a=some b))=true then some (PV.bool true)else some (PV.bool false):=by
  refine cQ (fun t:Nat=>((i:Int),(it (nx (l.take i)) t a).getD (-1),b,(t:Int),N.stops.map Stop.pv,N.ai.map az.pv,N.runs.map aY.pv,l.map aP.pv,N.paths.map Path.pv,N.aB.map ba.pv,N.aZ,N.within,N.cap,())) (i+1) (fun t=>decide (it (nx (l.take i)) (t+1) a=some b)) (no:=some (PV.bool true)) (fin:=some (PV.bool false)) (fun t ht rec=>?_) (fun rec=>?_) (by have:=aq;omega) rfl
  ·have h1:decide ((t:Int)≤(i:Int))=true:=by simp;omega
   unfold oL;dsimp only;rw[T0 h1,pV,zx,af (by omega)];cases hv:it (nx (l.take i)) (t+1) a with
   |none=>grind
   |some v=>simp
  ·unfold oL;grind
 grind
theorem VJ(l:List aP)(P:aP→Bool)(k:Nat)(hk:k≤l.length):((List.range k).any fun j=>(l[j]?).elim false P)=(l.take k).any P:=by
 induction k with
 |zero=>rfl
 |succ k ih=>
  have ko:k<l.length:=by omega
  rw[amc,aog,ih (by omega),alx ko,aog];simp_all
theorem YS(N:bm)(hr:N.runs.length≤maxLen∧∀y∈N.runs,y.Ok)(hl:N.aO.length≤maxLen)(k:Nat)(hk:k<N.aO.length)(Iw:∀j,j<k→dw N.runs N.aO j=0):ta [N.pv,.int .i64 k]=some (.int .i64 (dw N.runs N.aO k)):=by
 have hm:=al;obtain⟨_,ez⟩:=Jc N.runs N.aO k (by omega) Iw;have Jd:=fun a b hb=>VH N k hk hl ez a b hb;have hE:=OC N;simp only[ta,Di,Cd,C0,C1,C2,C3,C4,C5,C6,C7,C8,U];rw[←OC N]at Jd;generalize Xc:N.aO=l at hl hk ez Jd⊢;generalize DY:N.runs=runs at hr Jd⊢;have hw0:IntKind.i64.wrap ((runs.length:Int)-1)=(runs.length:Int)-1:=aW (by omega) (by omega);simp only[asInt,IT,U,ab,IS,AI hk,No,OA,YH,link2,YI,SX,asBool,BY,hw0,IZ,aL,cd];unfold dw;rw[AI hk];simp only;have hR:(!(decide (l[k].a≥0)&&decide (l[k].a≤(runs.length:Int)-1))|| !(decide (l[k].b≥0)&&decide (l[k].b≤(runs.length:Int)-1))||decide (l[k].a=l[k].b))=G5 l[k] runs.length:=by unfold G5;grind
 rw[hR];cases hb:G5 l[k] runs.length with
 |true=>rfl
 |false=>
  unfold G5 at hb;simp only[alG,amh,ale,AT,alN]at hb;obtain⟨ra,hra,hia,hca⟩:=Ez runs l[k].a ⟨hb.1.1.1,hb.1.1.2⟩;obtain⟨rb,hrb,hib,hcb⟩:=Ez runs l[k].b ⟨hb.1.2.1,hb.1.2.2⟩;have hA:=AY hr.2 l[k].a;have hB:=AY hr.2 l[k].b;rw[hia,hib];simp only[U,Ce,ah,IT,BY,←hca,←hcb];have hwA:IntKind.i64.wrap (((bC runs l[k].a).length:Int)-1)=((bC runs l[k].a).length:Int)-1:=aW (by omega) (by omega);have hwB:IntKind.i64.wrap (((bC runs l[k].b).length:Int)-1)=((bC runs l[k].b).length:Int)-1:=aW (by omega) (by omega);simp only[hwA,hwB,IZ,asBool,U,aL];have hC:(!(decide (l[k].ac≥0)&&decide (l[k].ac≤((bC runs l[k].a).length:Int)-1))|| !(decide (l[k].bc≥0)&&decide (l[k].bc≤((bC runs l[k].b).length:Int)-1)))=Cy l[k] (bC runs l[k].a).length (bC runs l[k].b).length:=by unfold Cy;grind
  rw[hC];cases II:Cy l[k] (bC runs l[k].a).length (bC runs l[k].b).length with
  |true=>rfl
  |false=>
   unfold Cy at II;simp only[alG,amh,ale,AT]at II;obtain⟨ka,hka,hsa⟩:=B6 (bC runs l[k].a) l[k].ac II.1;obtain⟨kb,hkb,hsb⟩:=B6 (bC runs l[k].b) l[k].bc II.2;simp only[IN,Wi,hka,hkb,U,hsa,hsb,asInt,asBool,IT,aL,bt,dy];by_cases nO:sd (bC runs l[k].a) l[k].ac=sd (bC runs l[k].b) l[k].bc
   ·simp only[nO,alB,alc,IN,Wi,aoA,not_true];have adm:aX.run qK ((k:Int),0,N.stops.map Stop.pv,N.ai.map az.pv,runs.map aY.pv,l.map aP.pv,N.paths.map Path.pv,N.aB.map ba.pv,N.aZ,N.within,N.cap,.int .i64 l[k].a,.int .i64 l[k].ac,.int .i64 l[k].b,.int .i64 l[k].bc,.bool l[k].stay,())=if dx l[k]∈(l.map dx).take k then some (.int .i64 6)else some (.int .i64 0):=by
     refine(cQ (fun j=>((k:Int),(j:Int),N.stops.map Stop.pv,N.ai.map az.pv,runs.map aY.pv,l.map aP.pv,N.paths.map Path.pv,N.aB.map ba.pv,N.aZ,N.within,N.cap,PV.int .i64 l[k].a,PV.int .i64 l[k].ac,PV.int .i64 l[k].b,PV.int .i64 l[k].bc,PV.bool l[k].stay,())) k (fun j=>decide ((l.map dx)[j]?=some (dx l[k]))) (no:=some (.int .i64 6)) (fin:=some (.int .i64 0)) (fun j hj rec=>?_) (fun rec=>?_) (by have:=aq;omega) rfl).trans ?_
     ·have h1:decide ((j:Int)<(k:Int))=true:=by simp;omega
      have PT:j<l.length:=by omega
      have hd:decide ((l.map dx)[j]?=some (dx l[k]))=(decide (l[j].a=l[k].a)&&decide (l[j].ac=l[k].ac)&&decide (l[j].b=l[k].b)&&decide (l[j].bc=l[k].bc)):=by rw[alE];simp[AI PT,dx,ani]
      rw[hd];unfold qK;dsimp only;rw[T0 h1,ab,IS,AI PT];simp only[No,U,OA,YH,link2,YI,asInt,IT,af (show j<9223372036854775807 by omega),cd,bt]
     ·simp[qK,acB]
     ·rw[gB _ _ (by simp;omega)];simp_all
    have ajY:aX.run (qL aX) ((k:Int),0,N.stops.map Stop.pv,N.ai.map az.pv,runs.map aY.pv,l.map aP.pv,N.paths.map Path.pv,N.aB.map ba.pv,N.aZ,N.within,N.cap,.int .i64 l[k].a,.int .i64 l[k].ac,.int .i64 l[k].b,.int .i64 l[k].bc,.bool l[k].stay,())=if(l[k].stay&&((nx (l.take k) l[k].a).isSome||decide (l[k].b∈pJ (l.take k))))=true then some (.int .i64 19)else if(l[k].stay&&pY (l.take k) l[k].b l[k].a (k+1))=true then some (.int .i64 19)else if dx l[k]∈(l.map dx).take k then some (.int .i64 6)else some (.int .i64 0):=by
     refine(cQ (fun j=>((k:Int),(j:Int),N.stops.map Stop.pv,N.ai.map az.pv,runs.map aY.pv,l.map aP.pv,N.paths.map Path.pv,N.aB.map ba.pv,N.aZ,N.within,N.cap,PV.int .i64 l[k].a,PV.int .i64 l[k].ac,PV.int .i64 l[k].b,PV.int .i64 l[k].bc,PV.bool l[k].stay,())) k (fun j=>(l[j]?).elim false fun y=>l[k].stay&&y.stay&&(decide (y.a=l[k].a)||decide (y.b=l[k].b))) (no:=some (.int .i64 19)) (fin:=if(l[k].stay&&pY (l.take k) l[k].b l[k].a (k+1))=true then some (.int .i64 19)else if dx l[k]∈(l.map dx).take k then some (.int .i64 6)else some (.int .i64 0)) (fun j hj rec=>?_) (fun rec=>?_) (by have:=aq;omega) rfl).trans ?_
     ·have h1:decide ((j:Int)<(k:Int))=true:=by simp;omega
      have PT:j<l.length:=by omega
      rw[AI PT];unfold qL;dsimp only;rw[T0 h1,ab,IS,AI PT];simp only[No,U,OA,link2,SX,asInt,asBool,IT,af (show j<9223372036854775807 by omega),cd,bt,aL,Option.elim];rfl
     ·unfold qL;simp_all[acB,asBool,asInt,IT,U,bt]
     ·rw[VJ l _ k (by omega)];have ad1:((l.take k).any fun y=>l[k].stay&&y.stay&&(decide (y.a=l[k].a)||decide (y.b=l[k].b)))=(l[k].stay&&((nx (l.take k) l[k].a).isSome||decide (l[k].b∈pJ (l.take k)))):=by
       rw[K9,Oj];cases l[k].stay with
       |false=>simp
       |true=>rw[alE];simp only[ama,aly,amx,ale,AT];grind
      rw[ad1]
    rw[ajY];have hlen:(l.take k).length=k:=by simp;omega
    have hac:decide (l[k].ac=((bC runs l[k].a).length:Int)-1)=decide (l[k].ac+1=((bC runs l[k].a).length:Int)):=by grind
    rw[hac];unfold Em;grind
   simp_all
def oh(N:bm):Int×Int×Int:=
 if(fb N.stops).2=0 then
  if(dR N.ai).2=0 then
   if(qC N.runs N.stops.length N.ai.length).2=0 then
    if(lT N.runs N.aO).2=0 then
     if(cO N.paths N.stops.length).2=0 then if(cT N.aB N.aZ N.within N.cap).2=0 then(0,0,0)else(5,cT N.aB N.aZ N.within N.cap)
     else(4,cO N.paths N.stops.length)
    else(3,lT N.runs N.aO)
   else(2,qC N.runs N.stops.length N.ai.length)
  else(1,dR N.ai)
 else(0,fb N.stops)
def gU(x:Int×Int×Int):PV:=.aG [.int .i64 x.1,.int .i64 x.2.1,.int .i64 x.2.2]
theorem r3E(p i e:Int):PV.agg [cell (r3 p i e) 0,cell (r3 p i e) 1,cell (r3 p i e) 2]=r3 p i e:=rfl
theorem r3F(p i e:Int):PV.agg [.int .i64 p,.int .i64 i,.int .i64 e]=r3 p i e:=rfl
theorem A0(p i e q j f:Int):eg [.rs 3 [r3 p i e,r3 q j f]]=some (if e=0 then(if f=0 then r3 0 0 0 else r3 q j f)else r3 p i e):=by
 simp only[eg,wW,ah,IT,U];have h0:=au (body:=kX) (fun k=>([r3 p i e,r3 q j f],(2:Int),(k:Int),0,0,0,())) 2 (fun k=>if k=0 then(if e=0 then none else some (some (r3 p i e)))else(if f=0 then none else some (some (r3 q j f)))) (fin:=some (r3 0 0 0)) (fun k hk rec=>?_) (fun rec=>?_) (by decide) (s0:=([r3 p i e,r3 q j f],(2:Int),0,0,0,0,())) rfl
 ·refine h0.trans ?_;have:List.range 2=[0,1]:=rfl;grind [bu]
 ·have h2:k=0∨k=1:=by omega
  rcases h2 with rfl|rfl
  ·unfold kX;dsimp only;rw[T0 (by simp),ab];simp only[al4,U,VC,asInt,IT,dy,r3E,af (show 0<9223372036854775807 by omega)];by_cases he:e=0
   ·simp only[he,alB,alc,IN,Wi,IT];rfl
   ·simp only[he,alw,alA,Wi,IT];rfl
  ·unfold kX;dsimp only;rw[T0 (by simp),ab];simp only[am2,al4,U,VC,asInt,IT,dy,r3E,af (show 1<9223372036854775807 by omega)];by_cases he:f=0
   ·simp only[he,alB,alc,IN,Wi,IT];rfl
   ·simp only[he,alw,alA,Wi,IT];rfl
 rfl
theorem Rq(p:Int)(x:Int×Int):prt p x=if x.2=0 then r3 0 0 0 else r3 p x.1 x.2:=rfl
theorem Fy{l:List Stop}(h:(fb l).2=0):l.length≤64:=by unfold fb at h;grind
theorem GN(a b:Int):(a==b)=decide (a=b):=cd a b
theorem Dj(N:bm)(h:N.Ok)(hp:N.paths.length≤8192):dE [N.pv]=some (gU (oh N)):=by
 have hs:=Lg N.stops h.stops;have hr:=I2 N.ai h.ai;have hu:=MC N h.runs;have hl:=J6 N h.runs h.aO.1;have hf:=I3 N.aB N.aZ N.within N.cap h.aB;unfold s7 at hf;simp only[dE,qM,Cd,C0,C1,C2,C3,C4,C5,C6,C7,C8,U,OC];simp only[hs,hr,hf,hu,hl,U,res,bR,aiK,alh,Nat.reduceAdd,IT,adz,aiJ,OD,WQ,r3F,A0];unfold oh;by_cases h1:(fb N.stops).2=0
 ·have hpa:=J5 N (Fy h1) hp;simp only[hpa,U,h1,IT];by_cases h2:(dR N.ai).2=0
  ·simp only[h2,IT];rw[Rq 2,Rq 3,Rq 4];by_cases h3:(qC N.runs N.stops.length N.ai.length).2=0
   ·simp only[h3,IT];by_cases h4:(lT N.runs N.aO).2=0
    ·simp only[h4,IT];by_cases h5:(cO N.paths N.stops.length).2=0
     ·simp only[h5,IT];by_cases h6:(cT N.aB N.aZ N.within N.cap).2=0
      ·simp only[h6,IT,WQ,r3F,YJ,YK,VC,asInt,U,A0,GN,alB,alw,IN,gU]
      ·simp only[h6,IT,Wi,WQ,r3F,YJ,YK,VC,asInt,U,A0,GN,alB,alw,IN,gU]
     ·simp only[h5,IT,Wi,WQ,r3F,YJ,YK,VC,asInt,U,A0,GN,alB,alw,IN,gU]
    ·simp only[h4,IT,Wi,WQ,r3F,YJ,YK,VC,asInt,U,A0,GN,alB,alw,IN,gU]
   ·simp only[h3,IT,Wi,WQ,r3F,YJ,YK,VC,asInt,U,A0,GN,alB,alw,IN,gU]
  ·simp only[h2,IT,Wi,WQ,r3F,YJ,YK,VC,asInt,U,A0,GN,alB,alw,IN,gU]
 ·simp only[h1,IT,Wi,WQ,r3F,YJ,YK,VC,asInt,U,A0,GN,alB,alw,IN,gU]
theorem MF(N:bm)(h:N.Ok)(hn:N.stops.length≤64)(hp:N.paths.length≤8192):aX.run oM (0,N.stops.map Stop.pv,N.ai.map az.pv,N.runs.map aY.pv,N.aO.map aP.pv,N.paths.map Path.pv,N.aB.map ba.pv,N.aZ,N.within,N.cap,())=some (gU (if(bJ (dw N.runs N.aO) N.aO.length).2=0 then
  if(cO N.paths N.stops.length).2=0 then if(cT N.aB N.aZ N.within N.cap).2=0 then(0,0,0)else(5,cT N.aB N.aZ N.within N.cap)
  else(4,cO N.paths N.stops.length)
 else(3,bJ (dw N.runs N.aO) N.aO.length))):=by
 have hm:=al
 have KQ:=h.aO.1
 have hpa:=VE N hn hp
 have hf:=Vy N.aB N.aZ N.within N.cap h.aB
 unfold s7 at hf
 have hg:=nA (dw N.runs N.aO) N.aO.length (fun i e=>gU (3,i,e)) (some (gU (if(cO N.paths N.stops.length).2=0 then if(cT N.aB N.aZ N.within N.cap).2=0 then(0,0,0)else(5,cT N.aB N.aZ N.within N.cap)else(4,cO N.paths N.stops.length))))
 have hR:(if(bJ (dw N.runs N.aO) N.aO.length).2=0 then(some (gU (if(cO N.paths N.stops.length).2=0 then if(cT N.aB N.aZ N.within N.cap).2=0 then(0,0,0)else(5,cT N.aB N.aZ N.within N.cap)else(4,cO N.paths N.stops.length))))else some (gU (3,(bJ (dw N.runs N.aO) N.aO.length).1,(bJ (dw N.runs N.aO) N.aO.length).2)))=some (gU (if(bJ (dw N.runs N.aO) N.aO.length).2=0 then
   if(cO N.paths N.stops.length).2=0 then if(cT N.aB N.aZ N.within N.cap).2=0 then(0,0,0)else(5,cT N.aB N.aZ N.within N.cap)
   else(4,cO N.paths N.stops.length)
  else(3,bJ (dw N.runs N.aO) N.aO.length))):=by
  grind
 rw[←hR,←hg]
 refine CA (fun k=>((k:Int),N.stops.map Stop.pv,N.ai.map az.pv,N.runs.map aY.pv,N.aO.map aP.pv,N.paths.map Path.pv,N.aB.map ba.pv,N.aZ,N.within,N.cap,())) N.aO.length _ (fun k hk Iw rec=>?_) (fun _ rec=>?_) (by have:=aq;omega) rfl
 ·have agO:∀j,j<k→dw N.runs N.aO j=0:=fun j hj=>by simp_all
  have hrl:=YS N h.runs KQ k hk agO;have h1:decide ((k:Int)<((N.aO.map aP.pv).length:Int))=true:=by simp;omega
  unfold oM;dsimp only;rw[T0 h1,OC,hrl];simp only[U,asInt,IT,dy,af (show k<9223372036854775807 by omega)];by_cases he:dw N.runs N.aO k=0
  ·simp only[he,alB,alc,IN,Wi,IT];rfl
  ·simp only[he,alw,alA,Wi,IT];rfl
 ·unfold oM;dsimp only;rw[acB (by simp),OC,hpa];simp only[U,res,bR,aiK,alh,Nat.reduceAdd,IT,adz,aiJ,asInt,dy,hf];by_cases h5:(cO N.paths N.stops.length).2=0
  ·simp only[h5,alB,alc,IN,Wi,IT];by_cases h6:(cT N.aB N.aZ N.within N.cap).2=0
   ·simp_all[alB,alc,IN,Wi,IT,gU]
   simp_all[alw,alA,IN,Wi,IT,gU]
  simp_all[alw,alA,IN,Wi,IT,gU]
theorem VK(N:bm)(h:N.Ok)(hp:N.paths.length≤8192):qN [N.pv]=some (gU (oh N)):=by
 have hm:=al;have cS:8192≤maxLen:=by decide
 have hs:=Vw N.stops h.stops;have hr:=Rf N.ai h.ai;simp only[qN,A1,Cd,C0,C1,C2,C3,C4,C5,C6,C7,C8,U];simp only[hs,hr,U,res,bR,aiK,alh,Nat.reduceAdd,IT,adz,aiJ,asInt,dy];unfold oh;by_cases h1:(fb N.stops).2=0
 ·have xJ:=MF N h (Fy h1) hp;simp only[h1,alB,alc,IN,Wi,IT];by_cases h2:(dR N.ai).2=0
  ·simp only[h2,alB,alc,IN,Wi,IT];unfold qC;by_cases gW:N.runs.length>1024
   ·rw[T0 (by simp;omega),T0 gW];rfl
   ·rw[acB (by simp;omega),acB gW];generalize hE:mQ N.runs N.stops.length N.ai.length=E;generalize hF:(if(lT N.runs N.aO).2=0 then
     if(cO N.paths N.stops.length).2=0 then if(cT N.aB N.aZ N.within N.cap).2=0 then((0:Int),(0:Int),(0:Int))else(5,cT N.aB N.aZ N.within N.cap)
     else(4,cO N.paths N.stops.length)
    else(3,lT N.runs N.aO))=F
    have hg:=nA E N.runs.length (fun i e=>gU (2,i,e)) (some (gU F));have hR:(if(bJ E N.runs.length).2=0 then some (gU F)else some (gU (2,(bJ E N.runs.length).1,(bJ E N.runs.length).2)))=some (gU (if(bJ E N.runs.length).2=0 then F else(2,bJ E N.runs.length))):=by grind
    rw[←hR,←hg];refine au (fun k=>((k:Int),N.stops.map Stop.pv,N.ai.map az.pv,N.runs.map aY.pv,N.aO.map aP.pv,N.paths.map Path.pv,N.aB.map ba.pv,N.aZ,N.within,N.cap,())) N.runs.length _ (fun k hk rec=>?_) (fun rec=>?_) (by have:=aq;omega) rfl
    ·have PK:=aca N h.runs k hk;rw[hE]at PK;have h1:decide ((k:Int)<((N.runs.map aY.pv).length:Int))=true:=by simp;omega
     unfold uH;dsimp only;rw[T0 h1,OC,PK];simp only[U,asInt,IT,dy,af (show k<9223372036854775807 by omega)];by_cases he:E k=0
     ·simp only[he,alB,alc,IN,Wi,IT];rfl
     ·simp only[he,alw,alA,Wi,IT];rfl
    ·unfold uH;dsimp only;rw[acB (by simp),←hF];unfold lT;by_cases h10:N.aO.length>1024
     ·rw[T0 (by simp;omega),T0 h10];rfl
     grind
  simp_all[alw,alA,IN,Wi,IT,gU]
 simp_all[alw,alA,IN,Wi,IT,gU]
theorem Rr{N:bm}(h:(oh N).2.2=0):∀k,k<N.runs.length→mQ N.runs N.stops.length N.ai.length k=0:=by
 unfold oh at h;by_cases h1:(fb N.stops).2=0
 ·rw[T0 h1]at h;by_cases h2:(dR N.ai).2=0
  ·rw[T0 h2]at h;by_cases h3:(qC N.runs N.stops.length N.ai.length).2=0
   ·unfold qC at h3;by_cases gW:N.runs.length>1024
    ·simp_all
    simp_all[acB,pX]
   simp_all
  simp_all
 simp_all
theorem OM{N:bm}(h:(oh N).2.2=0):∀r∈N.runs,(gf r.calls N.stops.length 0 3155932800).2=0:=by intro r hr;obtain⟨k,hk,rfl⟩:=anm hr;have:=Rr h k hk;unfold mQ at this;grind
theorem ON{l:List aF}{n a b:Int}(h:(gf l n a b).2=0):2≤l.length∧l.length≤32:=by unfold gf at h;grind
def Va(r:aY):Int:=((r.calls[0]?).map aF.arr).getD 0
def YT(r:aY):Int:=((r.calls[r.calls.length-1]?).map aF.dep).getD 0
def zx(st:Int×Int×Bool)(r:aY):Int×Int×Bool:=if r.wS=true then st else if st.2.2=false then(Va r,YT r,true)else(if Va r<st.1 then Va r else st.1,if YT r>st.2.1 then YT r else st.2.1,st.2.2)
def MG(N:bm):Int×Int×Bool:=if(oh N).2.2=0 then N.runs.foldl zx (0,0,false)else(0,0,false)
def adn(x:Int×Int×Bool):PV:=.aG [.int .i64 x.1,.int .i64 x.2.1,.bool x.2.2]
theorem Rs(N:bm)(h:N.Ok)(hp:N.paths.length≤8192):dU [N.pv]=some (adn (MG N)):=by
 have hm:=al;have hc:=Dj N h hp;simp only[dU,mn,Cd,C0,C1,C2,C3,C4,C5,C6,C7,C8,U,OC,hc,BY];simp only[gU,bR,aiK,alh,Nat.reduceAdd,IT,adz,aiJ,asInt,U,dy];unfold MG;by_cases hv:(oh N).2.2=0
 ·rw[acB (by simp[hv]),T0 hv];have hcv:=OM hv;have hl:=h.runs.1;generalize N.runs=l at hcv hl⊢;refine aK (fun k=>(((l.take k).foldl zx (0,0,false)).1,((l.take k).foldl zx (0,0,false)).2.1,((l.take k).foldl zx (0,0,false)).2.2,l.map aY.pv,(l.length:Int),(k:Int),())) l.length (fun k hk rec=>?_) (fun rec=>?_) (by have:=aq;omega) rfl
  ·have h1:decide ((k:Int)<(l.length:Int))=true:=by simp;omega
   have hlen:=ON (hcv _ (alj hk));have hw:IntKind.i64.wrap ((l[k].calls.length:Int)-1)=((l[k].calls.length-1:Nat):Int):=by rw[aW (by omega) (by omega)];omega
   have hA:pG (l[k].calls.map aF.pv) 0=some (l[k].calls[0]'(by omega)).pv:=by rw[show(0:Int)=((0:Nat):Int)from rfl,ab,IS,AI (by omega)];rfl
   have hD:pG (l[k].calls.map aF.pv) ((l[k].calls.length-1:Nat):Int)=some (l[k].calls[l[k].calls.length-1]'(by omega)).pv:=by rw[ab,IS,AI (by omega)];rfl
   have h0:Va l[k]=(l[k].calls[0]'(by omega)).arr:=by unfold Va;rw[AI (by omega)];rfl
   have h9:YT l[k]=(l[k].calls[l[k].calls.length-1]'(by omega)).dep:=by unfold YT;rw[AI (by omega)];rfl
   unfold mU;dsimp only;rw[T0 h1,ab,IS,AI hk,alx hk,List.foldl_append];generalize (l.take k).foldl zx (0,0,false)=st;simp only[No,U,Rh,Ce,asBool,ah,IT,BY,hw,hA,hD,vK,lY,asInt,af (show k<9223372036854775807 by omega),ans,List.foldl_nil,←h0,←h9,ite_self];unfold zx;obtain⟨a,b,f⟩:=st;cases l[k].wS with
   |true=>rfl
   |false=>cases f<;>rfl
  ·unfold mU;dsimp only;rw[acB (by simp),alT];rfl
 ·rw[T0 (by simp[hv]),acB hv];rfl
def WR:bm:=⟨[⟨[65],0,false,0⟩,⟨[66],0,false,0⟩],[⟨[82],0,false⟩],[⟨0,0,0,[116],0,false,false,[⟨0,100,160,true,false⟩,⟨1,200,200,false,true⟩]⟩],[],[],[],0,0,0⟩
def exM:bm:=⟨[⟨[65],0,false,0⟩,⟨[66],0,false,0⟩,⟨[67],0,false,0⟩],[],[],[],[⟨0,1,60,false⟩,⟨1,2,60,false⟩],[],0,0,0⟩
theorem Je(p:PV)(N:bm)(hA:asAgg 9 p=some ())(h0:ah 4 (cell p 0)=some (N.stops.map Stop.pv))(h1:ah 3 (cell p 1)=some (N.ai.map az.pv))(h2:ah 8 (cell p 2)=some (N.runs.map aY.pv))(h3:ah 5 (cell p 3)=some (N.aO.map aP.pv))(h4:ah 4 (cell p 4)=some (N.paths.map Path.pv))(h5:ah 6 (cell p 5)=some (N.aB.map ba.pv))(h6:asInt .i64 (cell p 6)=some N.aZ)(h7:asInt .i64 (cell p 7)=some N.within)(h8:asInt .i64 (cell p 8)=some N.cap):dE [p]=dE [N.pv]∧dU [p]=dU [N.pv]:=by
 constructor
 ·simp only[dE,qM,hA,h0,h1,h2,h3,h4,h5,h6,h7,h8,Cd,C0,C1,C2,C3,C4,C5,C6,C7,C8,U]
 ·simp only[dU,mn,hA,h0,h1,h2,h3,h4,h5,h6,h7,h8,Cd,C0,C1,C2,C3,C4,C5,C6,C7,C8,U]
theorem YU:WR.Ok where
 stops:=⟨by decide,fun y hy=>by simp only[WR,alq,amw,an3]at hy;rcases hy with rfl|rfl<;>exact⟨by decide,by decide,by decide⟩⟩
 ai:=⟨by decide,fun y hy=>by simp only[WR,alq,amw,an3]at hy;subst hy;exact⟨by decide,by decide⟩⟩
 runs:=⟨by decide,fun y hy=>by simp only[WR,alq,amw,an3]at hy;subst hy;refine⟨by decide,by decide,by decide,by decide,by decide,by decide,fun z hz=>?_⟩;simp only[alq,amw,an3]at hz;rcases hz with rfl|rfl<;>exact⟨by decide,by decide,by decide⟩⟩
 aO:=⟨by decide,fun y hy=>by simp[WR]at hy⟩
 paths:=⟨by decide,fun y hy=>by simp[WR]at hy⟩
 aB:=⟨by decide,fun y hy=>by simp[WR]at hy⟩
 aZ:=by decide
 within:=by decide
 cap:=by decide
theorem aeo:exM.Ok where
 stops:=⟨by decide,fun y hy=>by simp only[exM,alq,amw,an3]at hy;rcases hy with rfl|rfl|rfl<;>exact⟨by decide,by decide,by decide⟩⟩
 ai:=⟨by decide,fun y hy=>by simp[exM]at hy⟩
 runs:=⟨by decide,fun y hy=>by simp[exM]at hy⟩
 aO:=⟨by decide,fun y hy=>by simp[exM]at hy⟩
 paths:=⟨by decide,fun y hy=>by simp only[exM,alq,amw,an3]at hy;rcases hy with rfl|rfl<;>exact⟨by decide,by decide,by decide⟩⟩
 aB:=⟨by decide,fun y hy=>by simp[exM]at hy⟩
 aZ:=by decide
 within:=by decide
 cap:=by decide
theorem S1:oh WR=(0,0,0):=by decide+kernel
theorem acb:oh exM=(4,0,18):=by decide+kernel
theorem acd:MG WR=(100,200,true):=by unfold MG;rw[S1];rfl
def FF:PV:=.agg [.rs 4 [.agg [.str [65],.int .i64 0,.bool false,.int .i64 0],.agg [.str [66],.int .i64 0,.bool false,.int .i64 0]],.rs 3 [.agg [.str [82],.int .i64 0,.bool false]],.rs 8 [.agg [.int .i64 0,.int .i64 0,.int .i64 0,.str [116],.int .i64 0,.bool false,.bool false,.rs 5 [.agg [.int .i64 0,.int .i64 100,.int .i64 160,.bool true,.bool false],.agg [.int .i64 1,.int .i64 200,.int .i64 200,.bool false,.bool true]]]],.rs 0 [],.rs 0 [],.rs 0 [],.int .i64 0,.int .i64 0,.int .i64 0]
def agP:PV:=.agg [.rs 4 [.agg [.str [65],.int .i64 0,.bool false,.int .i64 0],.agg [.str [66],.int .i64 0,.bool false,.int .i64 0],.agg [.str [67],.int .i64 0,.bool false,.int .i64 0]],.rs 0 [],.rs 0 [],.rs 0 [],.rs 4 [.agg [.int .i64 0,.int .i64 1,.int .i64 60,.bool false],.agg [.int .i64 1,.int .i64 2,.int .i64 60,.bool false]],.rs 0 [],.int .i64 0,.int .i64 0,.int .i64 0]
theorem Rt:jD []=some FF:=rfl
theorem aep:asAgg 9 FF=some ():=rfl
theorem aeq:PV.agg [cell FF 0,cell FF 1,cell FF 2,cell FF 3,cell FF 4,cell FF 5,cell FF 6,cell FF 7,cell FF 8]=FF:=rfl
theorem J3:bX []=some (.bool true):=by have e1:=Je FF WR rfl rfl rfl rfl rfl rfl rfl rfl rfl rfl;have e2:=Je agP exM rfl rfl rfl rfl rfl rfl rfl rfl rfl rfl;have c1:=Dj WR YU (by decide);have c2:=Dj exM aeo (by decide);have c3:=Rs WR YU (by decide);rw[S1]at c1;rw[acb]at c2;rw[acd]at c3;rw[←e1.1]at c1;rw[←e1.2]at c3;rw[←e2.1]at c2;unfold agP at c2;simp only[bX,mM,Rt,U,aep,aeq,c1,c2,c3,gU,adn,bR,aiK,alh,Nat.reduceAdd,IT,adz,aiJ,asInt,asBool];rfl
theorem YE(N:bm)(h:N.Ok)(hp:N.paths.length≤8192):qO [N.pv]=some (.bool (decide ((oh N).2.2=0))):=by have hc:=VK N h hp;simp only[qO,A2,Cd,C0,C1,C2,C3,C4,C5,C6,C7,C8,U,OC,hc];simp only[gU,bR,aiK,alh,Nat.reduceAdd,IT,adz,aiJ,asInt,U,GN]
theorem Stop.peq(x y:Stop):bM [cell x.pv 0,cell x.pv 1,cell x.pv 2,cell x.pv 3] [cell y.pv 0,cell y.pv 1,cell y.pv 2,cell y.pv 3]=decide (x=y):=by cases x;cases y;rw[alE];simp[cell,Stop.pv,PV.cells,bM,Ab.peq]
theorem az.peq(x y:az):bM [cell x.pv 0,cell x.pv 1,cell x.pv 2] [cell y.pv 0,cell y.pv 1,cell y.pv 2]=decide (x=y):=by cases x;cases y;rw[alE];simp[cell,az.pv,PV.cells,bM,Ab.peq]
theorem aF.peq(x y:aF):bM [cell x.pv 0,cell x.pv 1,cell x.pv 2,cell x.pv 3,cell x.pv 4] [cell y.pv 0,cell y.pv 1,cell y.pv 2,cell y.pv 3,cell y.pv 4]=decide (x=y):=by cases x;cases y;rw[alE];simp[cell,aF.pv,PV.cells,bM,Ab.peq]
theorem aP.peq(x y:aP):bM [cell x.pv 0,cell x.pv 1,cell x.pv 2,cell x.pv 3,cell x.pv 4] [cell y.pv 0,cell y.pv 1,cell y.pv 2,cell y.pv 3,cell y.pv 4]=decide (x=y):=by cases x;cases y;rw[alE];simp[cell,aP.pv,PV.cells,bM,Ab.peq]
theorem Path.peq(x y:Path):bM [cell x.pv 0,cell x.pv 1,cell x.pv 2,cell x.pv 3] [cell y.pv 0,cell y.pv 1,cell y.pv 2,cell y.pv 3]=decide (x=y):=by cases x;cases y;rw[alE];simp[cell,Path.pv,PV.cells,bM,Ab.peq]
theorem ba.peq(x y:ba):bM [cell x.pv 0,cell x.pv 1,cell x.pv 2,cell x.pv 3,cell x.pv 4,cell x.pv 5] [cell y.pv 0,cell y.pv 1,cell y.pv 2,cell y.pv 3,cell y.pv 4,cell y.pv 5]=decide (x=y):=by cases x;cases y;rw[alE];simp[cell,ba.pv,PV.cells,bM,Ab.peq]
theorem B7{a b:Nat}:((a:Int) !=(b:Int))= !decide (a=b):=by rw[alE];simp;omega
theorem Ru{c:Prop}[Decidable c]:(if c then some (PV.bool true)else some (PV.bool false))=some (PV.bool (decide c)):=by by_cases h:c<;>simp[h]
theorem MH(a b:List aF)(ha:a.length≤maxLen):jZ [.rs 5 (a.map aF.pv),.rs 5 (b.map aF.pv)]=some (.bool (decide (a=b))):=by
 have hm:=al;simp only[jZ,sf,ah,IT,U,BY];by_cases h:a.length=b.length
 ·rw[acB (by rw[B7];simp[h])];refine(au (fun k=>(a.map aF.pv,b.map aF.pv,(k:Int),())) a.length (fun k=>if a[k]?=b[k]? then none else some (some (PV.bool false))) (fun k hk rec=>?_) (fin:=some (PV.bool true)) (fun rec=>?_) (by have:=aq;omega) rfl).trans ?_
  ·have h1:decide ((k:Int)<(a.length:Int))=true:=by simp;omega
   have ko:k<b.length:=by omega
   unfold mV;dsimp only;try rw[BY]
   rw[T0 h1,ab,ab,IS,IS,AI hk,AI ko];simp only[No,U];rw[T0 ⟨rfl,rfl⟩,aF.peq,af (by omega)];by_cases he:a[k]=b[k]
   ·simp[he,bu]
   ·simp[he,bu]
  ·unfold mV;dsimp only;rw[acB (by simp)]
  ·exact(s8 a b h (some (PV.bool false)) (some (PV.bool true))).trans Ru
 ·rw[T0 (by rw[B7];simp[h])];have:a≠b:=fun e=>h (by rw[e]);simp[this]
def A3(l:List ba)(d w c:Int):PV:=.agg [.rs 6 (l.map ba.pv),.int .i64 d,.int .i64 w,.int .i64 c]
theorem tb(a b:List ba)(d1 w1 c1 d2 w2 c2:Int)(ha:a.length≤maxLen):j1 [A3 a d1 w1 c1,A3 b d2 w2 c2]=some (.bool (decide (d1=d2)&&decide (w1=w2)&&decide (c1=c2)&&decide (a=b))):=by
 have hm:=al;have f0:∀l d w c,asAgg 4 (A3 l d w c)=some ():=fun _ _ _ _=>rfl;have f1:∀l d w c,cell (A3 l d w c) 0=.rs 6 (l.map ba.pv):=fun _ _ _ _=>rfl;have f2:∀l d w c,cell (A3 l d w c) 1=.int .i64 d:=fun _ _ _ _=>rfl;have f3:∀l d w c,cell (A3 l d w c) 2=.int .i64 w:=fun _ _ _ _=>rfl;have f4:∀l d w c,cell (A3 l d w c) 3=.int .i64 c:=fun _ _ _ _=>rfl;simp only[j1,sg,f0,f1,f2,f3,f4,ah,asInt,IT,U,BY,B7,dy,aL];by_cases h:a.length=b.length
 ·by_cases e1:d1=d2
  ·by_cases e2:w1=w2
   ·by_cases e3:c1=c2
    ·rw[acB (by simp[h,e1,e2,e3])];simp only[e1,e2,e3,alB,ama];refine(au (fun k=>((k:Int),a.map ba.pv,d2,w2,c2,b.map ba.pv,d2,w2,c2,())) a.length (fun k=>if a[k]?=b[k]? then none else some (some (PV.bool false))) (fun k hk rec=>?_) (fin:=some (PV.bool true)) (fun rec=>?_) (by have:=aq;omega) rfl).trans ?_
     ·have h1:decide ((k:Int)<(a.length:Int))=true:=by simp;omega
      have ko:k<b.length:=by omega
      unfold mW;dsimp only;try rw[BY]
      rw[T0 h1,ab,ab,IS,IS,AI hk,AI ko];simp only[No,U];rw[T0 ⟨rfl,rfl⟩,ba.peq,af (by omega)];by_cases he:a[k]=b[k]
      ·simp[he,bu]
      ·simp[he,bu]
     ·unfold mW;dsimp only;rw[acB (by simp)]
     ·exact(s8 a b h (some (PV.bool false)) (some (PV.bool true))).trans Ru
    ·rw[T0 (by simp[e3])];simp[e3]
   ·rw[T0 (by simp[e2])];simp[e2]
  ·rw[T0 (by simp[e1])];simp[e1]
 ·rw[T0 (by
   have h':¬((a.length:Int)=(b.length:Int)):=by omega
   simp[h'])]
  have:a≠b:=fun e=>h (by rw[e]);simp[this]
theorem ace(x y:aY):decide (x=y)=(decide (x.bp=y.bp)&&decide (x.day=y.day)&&decide (x.inst=y.inst)&&decide (x.id=y.id)&&decide (x.bV=y.bV)&&decide (x.free=y.free)&&decide (x.wS=y.wS)&&decide (x.calls=y.calls)):=by cases x;cases y;rw[alE];simp[ani]
theorem vN(a b:List aY)(ha:a.length≤maxLen)(hc:∀x∈a,x.calls.length≤maxLen):kY [.rs 8 (a.map aY.pv),.rs 8 (b.map aY.pv)]=some (.bool (decide (a=b))):=by
 have hm:=al;simp only[kY,uI,ah,IT,U,BY];by_cases h:a.length=b.length
 ·rw[acB (by rw[B7];simp[h])];refine(au (fun k=>(a.map aY.pv,b.map aY.pv,(k:Int),())) a.length (fun k=>if a[k]?=b[k]? then none else some (some (PV.bool false))) (fun k hk rec=>?_) (fin:=some (PV.bool true)) (fun rec=>?_) (by have:=aq;omega) rfl).trans ?_
  ·have h1:decide ((k:Int)<(a.length:Int))=true:=by simp;omega
   have ko:k<b.length:=by omega
   have sM:=MH a[k].calls b[k].calls (hc _ (alj hk));unfold oN;dsimp only;rw[BY,T0 h1,ab,ab,IS,IS,AI hk,AI ko];simp only[No,U,Ev,De,J4,Oz,Rg,VB,Rh,Ce,asInt,aT,asBool,ah,IT,sM,aL,dy,cd,af (show k<9223372036854775807 by omega)];have hd:=ace a[k] b[k];by_cases he:a[k]=b[k]
   ·simp[he,bu]
   ·rw[T0,acB (by simpa using he)]
    ·rfl
    ·rw[amX he]at hd;revert hd;generalize decide (a[k].bp=b[k].bp)=x1;generalize decide (a[k].day=b[k].day)=x2;generalize decide (a[k].inst=b[k].inst)=x3;generalize decide (a[k].id=b[k].id)=x4;generalize decide (a[k].bV=b[k].bV)=x5;generalize decide (a[k].free=b[k].free)=x6;generalize decide (a[k].wS=b[k].wS)=x7;generalize decide (a[k].calls=b[k].calls)=x8;revert x1 x2 x3 x4 x5 x6 x7 x8;decide
  ·unfold oN;dsimp only;rw[acB (by simp)]
  ·exact(s8 a b h (some (PV.bool false)) (some (PV.bool true))).trans Ru
 ·rw[T0 (by rw[B7];simp[h])];have:a≠b:=fun e=>h (by rw[e]);simp[this]
def eqN(A B:bm):Bool:=decide (A.stops=B.stops)&&decide (A.ai=B.ai)&&decide (A.aO=B.aO)&&decide (A.paths=B.paths)&&decide (A.runs=B.runs)&&(decide (A.aZ=B.aZ)&&decide (A.within=B.within)&&decide (A.cap=B.cap)&&decide (A.aB=B.aB))
theorem YF(A:bm):eqN A A=true:=by simp[eqN]
def Rv(A B:bm):Bool:=decide (A.runs=B.runs)&&(decide (A.aZ=B.aZ)&&decide (A.within=B.within)&&decide (A.cap=B.cap)&&decide (A.aB=B.aB))
theorem VL(A B:bm)(hA:A.Ok)(h:A.paths.length=B.paths.length):aX.run (iM) (0,A.stops.map Stop.pv,A.ai.map az.pv,A.runs.map aY.pv,A.aO.map aP.pv,A.paths.map Path.pv,A.aB.map ba.pv,A.aZ,A.within,A.cap,B.stops.map Stop.pv,B.ai.map az.pv,B.runs.map aY.pv,B.aO.map aP.pv,B.paths.map Path.pv,B.aB.map ba.pv,B.aZ,B.within,B.cap,())=if A.paths=B.paths then some (.bool (Rv A B))else some (.bool false):=by
 have hm:=al;have hl:=hA.paths.1;have e1:=vN A.runs B.runs hA.runs.1 (fun x hx=>(hA.runs.2 x hx).calls.1);have e2:=tb A.aB B.aB A.aZ A.within A.cap B.aZ B.within B.cap hA.aB.1;unfold A3 at e2;generalize zI:(some (.bool (Rv A B)):Option PV)=fin;generalize ha:A.paths=a at h hl⊢;generalize hb:B.paths=b at h⊢;refine(au (fun k=>((k:Int),A.stops.map Stop.pv,A.ai.map az.pv,A.runs.map aY.pv,A.aO.map aP.pv,a.map Path.pv,A.aB.map ba.pv,A.aZ,A.within,A.cap,B.stops.map Stop.pv,B.ai.map az.pv,B.runs.map aY.pv,B.aO.map aP.pv,b.map Path.pv,B.aB.map ba.pv,B.aZ,B.within,B.cap,())) a.length (fun k=>if a[k]?=b[k]? then none else some (some (PV.bool false))) (fun k hk rec=>?_) (fin:=fin) (fun rec=>?_) (by have:=aq;omega) rfl).trans ?_
 ·have h1:decide ((k:Int)<(a.length:Int))=true:=by simp;omega
  have ko:k<b.length:=by omega
  unfold iM;dsimp only;try rw[BY]
  rw[T0 h1,ab,ab,IS,IS,AI hk,AI ko];simp only[No,U];rw[T0 ⟨rfl,rfl⟩,Path.peq,af (by omega)];by_cases he:a[k]=b[k]
  ·simp[he,bu]
  ·simp[he,bu]
 ·subst ha;subst hb;rw[←zI];unfold iM;dsimp only;rw[acB (by simp)];simp only[e1,e2,U,asBool,bt];rfl
 ·exact s8 a b h _ _
theorem VM(A B:bm)(hA:A.Ok)(h:A.aO.length=B.aO.length):aX.run (iN aX) (0,A.stops.map Stop.pv,A.ai.map az.pv,A.runs.map aY.pv,A.aO.map aP.pv,A.paths.map Path.pv,A.aB.map ba.pv,A.aZ,A.within,A.cap,B.stops.map Stop.pv,B.ai.map az.pv,B.runs.map aY.pv,B.aO.map aP.pv,B.paths.map Path.pv,B.aB.map ba.pv,B.aZ,B.within,B.cap,())=if A.aO=B.aO then aX.run (iM) (0,A.stops.map Stop.pv,A.ai.map az.pv,A.runs.map aY.pv,A.aO.map aP.pv,A.paths.map Path.pv,A.aB.map ba.pv,A.aZ,A.within,A.cap,B.stops.map Stop.pv,B.ai.map az.pv,B.runs.map aY.pv,B.aO.map aP.pv,B.paths.map Path.pv,B.aB.map ba.pv,B.aZ,B.within,B.cap,())else some (.bool false):=by
 have hm:=al;have hl:=hA.aO.1;have e1:=vN A.runs B.runs hA.runs.1 (fun x hx=>(hA.runs.2 x hx).calls.1);have e2:=tb A.aB B.aB A.aZ A.within A.cap B.aZ B.within B.cap hA.aB.1;unfold A3 at e2;generalize zI:(aX.run (iM) (0,A.stops.map Stop.pv,A.ai.map az.pv,A.runs.map aY.pv,A.aO.map aP.pv,A.paths.map Path.pv,A.aB.map ba.pv,A.aZ,A.within,A.cap,B.stops.map Stop.pv,B.ai.map az.pv,B.runs.map aY.pv,B.aO.map aP.pv,B.paths.map Path.pv,B.aB.map ba.pv,B.aZ,B.within,B.cap,()):Option PV)=fin;generalize ha:A.aO=a at h hl⊢;generalize hb:B.aO=b at h⊢;refine(au (fun k=>((k:Int),A.stops.map Stop.pv,A.ai.map az.pv,A.runs.map aY.pv,a.map aP.pv,A.paths.map Path.pv,A.aB.map ba.pv,A.aZ,A.within,A.cap,B.stops.map Stop.pv,B.ai.map az.pv,B.runs.map aY.pv,b.map aP.pv,B.paths.map Path.pv,B.aB.map ba.pv,B.aZ,B.within,B.cap,())) a.length (fun k=>if a[k]?=b[k]? then none else some (some (PV.bool false))) (fun k hk rec=>?_) (fin:=fin) (fun rec=>?_) (by have:=aq;omega) rfl).trans ?_
 ·have h1:decide ((k:Int)<(a.length:Int))=true:=by simp;omega
  have ko:k<b.length:=by omega
  unfold iN;dsimp only;try rw[BY]
  rw[T0 h1,ab,ab,IS,IS,AI hk,AI ko];simp only[No,U];rw[T0 ⟨rfl,rfl⟩,aP.peq,af (by omega)];by_cases he:a[k]=b[k]
  ·simp[he,bu]
  ·simp[he,bu]
 ·subst ha;subst hb;rw[←zI];unfold iN;dsimp only;rw[acB (by simp)]
 ·exact s8 a b h _ _
theorem VN(A B:bm)(hA:A.Ok)(h:A.ai.length=B.ai.length):aX.run (iO aX) (0,A.stops.map Stop.pv,A.ai.map az.pv,A.runs.map aY.pv,A.aO.map aP.pv,A.paths.map Path.pv,A.aB.map ba.pv,A.aZ,A.within,A.cap,B.stops.map Stop.pv,B.ai.map az.pv,B.runs.map aY.pv,B.aO.map aP.pv,B.paths.map Path.pv,B.aB.map ba.pv,B.aZ,B.within,B.cap,())=if A.ai=B.ai then aX.run (iN aX) (0,A.stops.map Stop.pv,A.ai.map az.pv,A.runs.map aY.pv,A.aO.map aP.pv,A.paths.map Path.pv,A.aB.map ba.pv,A.aZ,A.within,A.cap,B.stops.map Stop.pv,B.ai.map az.pv,B.runs.map aY.pv,B.aO.map aP.pv,B.paths.map Path.pv,B.aB.map ba.pv,B.aZ,B.within,B.cap,())else some (.bool false):=by
 have hm:=al;have hl:=hA.ai.1;have e1:=vN A.runs B.runs hA.runs.1 (fun x hx=>(hA.runs.2 x hx).calls.1);have e2:=tb A.aB B.aB A.aZ A.within A.cap B.aZ B.within B.cap hA.aB.1;unfold A3 at e2;generalize zI:(aX.run (iN aX) (0,A.stops.map Stop.pv,A.ai.map az.pv,A.runs.map aY.pv,A.aO.map aP.pv,A.paths.map Path.pv,A.aB.map ba.pv,A.aZ,A.within,A.cap,B.stops.map Stop.pv,B.ai.map az.pv,B.runs.map aY.pv,B.aO.map aP.pv,B.paths.map Path.pv,B.aB.map ba.pv,B.aZ,B.within,B.cap,()):Option PV)=fin;generalize ha:A.ai=a at h hl⊢;generalize hb:B.ai=b at h⊢;refine(au (fun k=>((k:Int),A.stops.map Stop.pv,a.map az.pv,A.runs.map aY.pv,A.aO.map aP.pv,A.paths.map Path.pv,A.aB.map ba.pv,A.aZ,A.within,A.cap,B.stops.map Stop.pv,b.map az.pv,B.runs.map aY.pv,B.aO.map aP.pv,B.paths.map Path.pv,B.aB.map ba.pv,B.aZ,B.within,B.cap,())) a.length (fun k=>if a[k]?=b[k]? then none else some (some (PV.bool false))) (fun k hk rec=>?_) (fin:=fin) (fun rec=>?_) (by have:=aq;omega) rfl).trans ?_
 ·have h1:decide ((k:Int)<(a.length:Int))=true:=by simp;omega
  have ko:k<b.length:=by omega
  unfold iO;dsimp only;try rw[BY]
  rw[T0 h1,ab,ab,IS,IS,AI hk,AI ko];simp only[No,U];rw[T0 ⟨rfl,rfl⟩,az.peq,af (by omega)];by_cases he:a[k]=b[k]
  ·simp[he,bu]
  ·simp[he,bu]
 ·subst ha;subst hb;rw[←zI];unfold iO;dsimp only;rw[acB (by simp)]
 ·exact s8 a b h _ _
theorem VO(A B:bm)(hA:A.Ok)(h:A.stops.length=B.stops.length):aX.run (oO aX) (0,A.stops.map Stop.pv,A.ai.map az.pv,A.runs.map aY.pv,A.aO.map aP.pv,A.paths.map Path.pv,A.aB.map ba.pv,A.aZ,A.within,A.cap,B.stops.map Stop.pv,B.ai.map az.pv,B.runs.map aY.pv,B.aO.map aP.pv,B.paths.map Path.pv,B.aB.map ba.pv,B.aZ,B.within,B.cap,())=if A.stops=B.stops then aX.run (iO aX) (0,A.stops.map Stop.pv,A.ai.map az.pv,A.runs.map aY.pv,A.aO.map aP.pv,A.paths.map Path.pv,A.aB.map ba.pv,A.aZ,A.within,A.cap,B.stops.map Stop.pv,B.ai.map az.pv,B.runs.map aY.pv,B.aO.map aP.pv,B.paths.map Path.pv,B.aB.map ba.pv,B.aZ,B.within,B.cap,())else some (.bool false):=by
 have hm:=al;have hl:=hA.stops.1;have e1:=vN A.runs B.runs hA.runs.1 (fun x hx=>(hA.runs.2 x hx).calls.1);have e2:=tb A.aB B.aB A.aZ A.within A.cap B.aZ B.within B.cap hA.aB.1;unfold A3 at e2;generalize zI:(aX.run (iO aX) (0,A.stops.map Stop.pv,A.ai.map az.pv,A.runs.map aY.pv,A.aO.map aP.pv,A.paths.map Path.pv,A.aB.map ba.pv,A.aZ,A.within,A.cap,B.stops.map Stop.pv,B.ai.map az.pv,B.runs.map aY.pv,B.aO.map aP.pv,B.paths.map Path.pv,B.aB.map ba.pv,B.aZ,B.within,B.cap,()):Option PV)=fin;generalize ha:A.stops=a at h hl⊢;generalize hb:B.stops=b at h⊢;refine(au (fun k=>((k:Int),a.map Stop.pv,A.ai.map az.pv,A.runs.map aY.pv,A.aO.map aP.pv,A.paths.map Path.pv,A.aB.map ba.pv,A.aZ,A.within,A.cap,b.map Stop.pv,B.ai.map az.pv,B.runs.map aY.pv,B.aO.map aP.pv,B.paths.map Path.pv,B.aB.map ba.pv,B.aZ,B.within,B.cap,())) a.length (fun k=>if a[k]?=b[k]? then none else some (some (PV.bool false))) (fun k hk rec=>?_) (fin:=fin) (fun rec=>?_) (by have:=aq;omega) rfl).trans ?_
 ·have h1:decide ((k:Int)<(a.length:Int))=true:=by simp;omega
  have ko:k<b.length:=by omega
  unfold oO;dsimp only;try rw[BY]
  rw[T0 h1,ab,ab,IS,IS,AI hk,AI ko];simp only[No,U];rw[T0 ⟨rfl,rfl⟩,Stop.peq,af (by omega)];by_cases he:a[k]=b[k]
  ·simp[he,bu]
  ·simp[he,bu]
 ·subst ha;subst hb;rw[←zI];unfold oO;dsimp only;rw[acB (by simp)]
 ·exact s8 a b h _ _
theorem Vu(A B:bm)(hA:A.Ok):qP [A.pv,B.pv]=some (.bool (eqN A B)):=by
 simp only[qP,A4,Cd,C0,C1,C2,C3,C4,C5,C6,C7,C8,U,aL,BY,B7];unfold eqN;by_cases h1:A.stops.length=B.stops.length
 ·by_cases h2:A.ai.length=B.ai.length
  ·by_cases h3:A.aO.length=B.aO.length
   ·by_cases h4:A.paths.length=B.paths.length
    ·rw[acB (by simp[h1,h2,h3,h4]),VO A B hA h1,VN A B hA h2,VM A B hA h3,VL A B hA h4];unfold Rv;by_cases g1:A.stops=B.stops
     ·by_cases g2:A.ai=B.ai
      ·by_cases g3:A.aO=B.aO
       ·by_cases g4:A.paths=B.paths
        ·rw[T0 g1,T0 g2,T0 g3,T0 g4];simp[g1,g2,g3,g4]
        ·rw[T0 g1,T0 g2,T0 g3,acB g4];simp[g4]
       ·rw[T0 g1,T0 g2,acB g3];simp[g3]
      ·rw[T0 g1,acB g2];simp[g2]
     ·rw[acB g1];simp[g1]
    ·rw[T0 (by simp[h4])];have:A.paths≠B.paths:=fun e=>h4 (by rw[e]);simp[this]
   ·rw[T0 (by simp[h3])];have:A.aO≠B.aO:=fun e=>h3 (by rw[e]);simp[this]
  ·rw[T0 (by simp[h2])];have:A.ai≠B.ai:=fun e=>h2 (by rw[e]);simp[this]
 ·rw[T0 (by simp[h1])];have:A.stops≠B.stops:=fun e=>h1 (by rw[e]);simp[this]
theorem cv(es:List PV)(n:Nat)(h:es.length≤10000)(hn:0<n)(hn2:n≤1000):(([]:List PV)++es).length*n≤ag∧0<n:=by refine⟨?_,hn⟩;rw[amC];have:es.length*n≤10000*1000:=amR h hn2;unfold ag;omega
theorem mX(es:List PV):List.take (((([]:List PV)++es).length:Int).toNat) (([]:List PV)++es)=es:=by simp
theorem Q7(es:List PV)(h:es.length≤10000):eV [.rs 4 es]=some (.rs 4 es):=by simp only[eV,mO,ah,IT,U];rw[T0 (cv es 40 h (by decide) (by decide)),T0 ⟨by omega,by omega,by omega,trivial⟩,mX]
theorem Om(es:List PV)(h:es.length≤10000):eA [.rs 3 es]=some (.rs 3 es):=by simp only[eA,lE,ah,IT,U];rw[T0 (cv es 32 h (by decide) (by decide)),T0 ⟨by omega,by omega,by omega,trivial⟩,mX]
theorem Vp(es:List PV)(h:es.length≤10000):fA [.rs 8 es]=some (.rs 8 es):=by simp only[fA,nV,ah,IT,U];rw[T0 (cv es 80 h (by decide) (by decide)),T0 ⟨by omega,by omega,by omega,trivial⟩,mX]
theorem Q8(es:List PV)(h:es.length≤10000):eW [.rs 5 es]=some (.rs 5 es):=by simp only[eW,mN,ah,IT,U];rw[T0 (cv es 40 h (by decide) (by decide)),T0 ⟨by omega,by omega,by omega,trivial⟩,mX]
theorem IU(es:List PV)(h:es.length≤10000):dC [.rs 4 es]=some (.rs 4 es):=by simp only[dC,jm,ah,IT,U];rw[T0 (cv es 32 h (by decide) (by decide)),T0 ⟨by omega,by omega,by omega,trivial⟩,mX]
theorem Q9(es:List PV)(h:es.length≤10000):eX [.rs 5 es]=some (.rs 5 es):=by simp only[eX,mL,ah,IT,U];rw[T0 (cv es 32 h (by decide) (by decide)),T0 ⟨by omega,by omega,by omega,trivial⟩,mX]
theorem J2(es:List PV)(h:es.length≤10000):dN [.rs 6 es]=some (.rs 6 es):=by simp only[dN,jO,ah,IT,U];rw[T0 (cv es 56 h (by decide) (by decide)),T0 ⟨by omega,by omega,by omega,trivial⟩,mX]
variable{A:Type}
def mix(f g:A→PV)(l:List A)(k:Nat):List PV:=(l.take k).map f++(l.drop k).map g
theorem YB(f g:A→PV)(l:List A):mix f g l 0=l.map g:=by simp[mix]
theorem ab5(f g:A→PV)(l:List A):mix f g l l.length=l.map f:=by simp[mix]
theorem S2(f g:A→PV)(l:List A)(k:Nat):(mix f g l k).length=l.length:=by simp[mix];omega
theorem ab4(f g:A→PV)(l:List A)(k:Nat)(h:k<l.length):(mix f g l k)[k]?=some (g l[k]):=by unfold mix;rw[al0 (by simp;omega)];simp only[BY,alF,amd (ann h),Nat.sub_self,IS,List.getElem?_drop,am1,AI h,No]
theorem ab3(f g:A→PV)(l:List A)(k:Nat)(h:k<l.length):(mix f g l k).set k (f l[k])=mix f g l (k+1):=by
 apply alL;intro j;rw[al2];unfold mix;by_cases hj:k=j
 ·subst hj;rw[T0 rfl,T0 (by simp;omega),al6 (by simp;omega)];simp[h]
 ·rw[acB hj];by_cases bQ:j<k
  ·rw[al6 (by simp;omega),al6 (by simp;omega)];simp[bQ,Nat.lt_succ_of_lt bQ]
  ·rw[al0 (by simp;omega),al0 (by simp;omega)];simp only[BY,alF,IS,List.getElem?_drop];congr 2;omega
theorem eL(f g:A→PV)(l:List A)(k:Nat)(h:k<l.length)(p:PV):((mix f g l k).set k p)[k]?=some p:=by rw[al2,T0 rfl,T0 (by rw[S2];exact h)]
theorem YC(f g:A→PV)(l:List A)(k:Nat)(h:k<l.length):ar (k:Int) (mix f g l k).length:=by rw[S2];exact⟨by omega,by omega⟩
def aY.WE(x:aY):PV:=.agg [.int .i64 x.bp,.int .i64 x.day,.int .i64 x.inst,.str x.id,.int .i64 x.bV,.bool x.free,.bool x.wS,.mE 5 (x.calls.map aF.pv)]
theorem Ra(l:List aY):(l.map aY.WE).map PV.strip=l.map aY.pv:=by rw[am0];rfl
end Go.Ab.Tt
