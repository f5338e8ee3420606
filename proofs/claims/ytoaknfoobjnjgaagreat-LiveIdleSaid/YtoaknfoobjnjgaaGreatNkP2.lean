import Derived.Test.YtoaknfoobjnjgaaGreatNkP1
import Derived.Test.YtoaknfoobjnjgaaGreatNwP2
set_option linter.all false
namespace Go.Ab.Tt
set_option maxRecDepth 100000
def bE(x:Path):Int×Int×Bool:=(x.a,x.b,x.free)
def Er(x:Int×Int×Bool):PV:=.agg [.int .i64 x.1,.int .i64 x.2.1,.bool x.2.2]
theorem O2(a b:Int×Int×Bool):bR (Er a).cells (Er b).cells=decide (a=b):=by obtain⟨a1,a2,a3⟩:=a;obtain⟨b1,b2,b3⟩:=b;rw[anS];simp[Er,PV.cells,bR,peq]
def dp(l:List Path)(n:Int)(k:Nat):Int:=match l[k]? with
 |none=>0
 |some x=>if(decide (x.a<0)||decide (x.a≥n)||decide (x.b<0)||decide (x.b≥n)||decide (x.a=x.b))=true then 9 else if(decide (x.cA<1)||decide (x.cA>14400))=true then 2 else if bE x∈(l.map bE).take k then 6 else 0
theorem Il(l:List Path)(n:Int)(hl:l.length≤maxLen):iZ [.rs 4 (l.map Path.pv),.int .i64 n]=some (res (bM (dp l n) l.length).1 (bM (dp l n) l.length).2):=by
 have hm:=aL;simp only[iZ,tT,ak,asInt,IS,U,By];rw[←gT];refine aO (fun k=>(n,l.map Path.pv,(l.length:Int),(k:Int),seen Er ((l.map bE).take k),())) l.length _ (fun k hk rec=>?_) (fun rec=>?_) ?_ rfl
 ·have h1:(k:Int)<(l.length:Int):=by omega
  have mW:dr (.agg [.int .i64 l[k].a,.int .i64 l[k].b,.bool l[k].free]) (.bool true) (seen Er ((l.map bE).take k))=_:=fK O2 (bE l[k]) ((l.map bE).take k);have kx:bT (.agg [.int .i64 l[k].a,.int .i64 l[k].b,.bool l[k].free]) (.bool false) (seen Er ((l.map bE).take k))=_:=eQ O2 (bE l[k]) ((l.map bE).take k);simp only[pc,te,h1,IS,af,AT,ta hk,No,U,OY,OZ,Ty,O0,asInt,asBool,mW,kx,dY,ah (show k<9223372036854775807 by omega),jU bE l k hk];unfold dp;rw[ta hk];simp only;by_cases bu:bE l[k]∈(l.map bE).take k
  ·simp only[bu,IS];by_cases e1:l[k].a<0<;>by_cases e2:l[k].a≥n<;>by_cases e3:l[k].b<0<;>by_cases e4:l[k].b≥n<;>by_cases e5:l[k].a=l[k].b<;>by_cases e6:l[k].cA<1<;>by_cases e7:l[k].cA>14400<;>simp only[e1,e2,e3,e4,e5,e6,e7,anR,anJ,aqS,aqR,aoL,IS,PS,tc]<;>rfl
  ·simp only[bu,PS,tc];by_cases e1:l[k].a<0<;>by_cases e2:l[k].a≥n<;>by_cases e3:l[k].b<0<;>by_cases e4:l[k].b≥n<;>by_cases e5:l[k].a=l[k].b<;>by_cases e6:l[k].cA<1<;>by_cases e7:l[k].cA>14400<;>simp only[e1,e2,e3,e4,e5,e6,e7,anR,anJ,aqS,aqR,aoL,IS,PS,tc]<;>rfl
 ·simp only[pc,te,anN,PS];rfl
 ·have:=aN;omega
def toFp(p:Path):Nw.Fp:=⟨p.a.toNat,p.b.toNat,p.cA.toNat,p.free⟩
def Sound(l:List Path)(n:Nat):Prop:=∀p∈l,0≤p.a∧p.a<n∧0≤p.b∧p.b<n∧1≤p.cA∧p.cA≤14400
variable{l:List Path}{n:Nat}
theorem C6(h:(bM (dp l n) l.length).2=0):Sound l n:=by intro p hp;obtain⟨k,hk,rfl⟩:=apb hp;have h0:=(im _ _).1 h k hk;unfold dp at h0;grind
theorem toFp_pv{p:Path}(h1:0≤p.a)(h2:0≤p.b)(h3:1≤p.cA):(toFp p).pv=p.pv:=by grind [toFp,Nw.Fp.pv,Path.pv,Int.toNat_of_nonneg]
theorem Zn(h:Sound l n):(l.map toFp).map Nw.Fp.pv=l.map Path.pv:=by rw[ao8];apply an2;intro p hp;exact toFp_pv (h p hp).1 (h p hp).2.2.1 (h p hp).2.2.2.2.1
def sy(e:List PV):Path:=match e with|[.int .i64 a,.int .i64 b,.int .i64 s,.bool f]=>⟨a,b,s,f⟩|_=>⟨0,0,0,false⟩
theorem Im:∀(L:List (List PV)),(∀e∈L,Nw.IsF e)→fg L=(L.map sy).map Path.pv
 |[],_=>rfl
 |e::L,h=>by obtain⟨i,k,s,b,rfl⟩:=h e (by simp);have:=Im L fun x hx=>h x (by simp[hx]);unfold fg at this⊢;rw[anB,anB,anB,this];rfl
def dm(l:List Path)(n:Nat):List Path:=(Nw.yF n (Nw.fE n (l.map toFp) false) (Nw.fE n (l.map toFp) true)).map sy
theorem En(hn:n≤64)(hl:l.length≤8192)(h:Sound l n):eR [.rs 4 (l.map Path.pv),.int .i64 n]=some (.rs 4 ((dm l n).map Path.pv))∧jc [.rs 4 (l.map Path.pv),.int .i64 n]=some (.rs 4 ((dm l n).map Path.pv)):=by have:=Nw.Rz (l.map toFp) n hn (by simpa using hl) (fun p hp=>by obtain⟨q,hq,rfl⟩:=anG.1 hp;have:=h q hq;simp only[toFp];omega);rw[Zn h,Im _ (Nw.O3 n _ _)]at this;exact this
theorem C8(l:List Path)(n:Nat)(hn:n≤64):(dm l n).length≤8192:=by
 have h1:(dm l n).length=(fg (Nw.yF n (Nw.fE n (l.map toFp) false) (Nw.fE n (l.map toFp) true))).length:=by simp[dm,fg]
 rw[h1,Nw.Es];have h2:=Nw.Db (it:=fun i k=>Nw.FY (Nw.fE n (l.map toFp) false i k) (Nw.fE n (l.map toFp) true i k) i k) (fun i k=>Nw.Mp _ _ i k) n n;have h3:2*n*n≤2*64*64:=apf (aoV 2 hn) hn;omega
theorem O4(x y:Path):bR [cell x.pv 0,cell x.pv 1,cell x.pv 2,cell x.pv 3] [cell y.pv 0,cell y.pv 1,cell y.pv 2,cell y.pv 3]=decide (x=y):=by rw[anS];obtain⟨a,b,c,d⟩:=x;obtain⟨a',b',c',d'⟩:=y;simp[OY,OZ,Ty,O0,bR,peq]
theorem Dc(x:Path):ju (Kd.int IntKind.i64::[].append (Kd.int IntKind.i64::[].append (Kd.int IntKind.i64::[].append (Kd.bool::[].append [])))) [cell x.pv 0,cell x.pv 1,cell x.pv 2,cell x.pv 3]=true:=rfl
def qI(l:List Path)(n:Nat):Bool:=decide (dm l n=l)
theorem O5(hn:n≤64)(hl:l.length≤8192)(h:(bM (dp l n) l.length).2=0):iy [.rs 4 (l.map Path.pv),.int .i64 n]=some (.bool (qI l n)):=by
 have hm:8192≤maxLen:=by decide
 have hs:=Il l n (by omega);have hf:=VW _ _ h;rw[h,hf]at hs;have hc:=(En hn hl (C6 h)).1;have qB:=C8 l n hn;have pU:¬decide ((n:Int)>64)=true:=by simp;omega
 have h0:¬(0:Int)>(n:Int):=by omega
 simp only[iy,pd,ak,asInt,IS,U];rw[IT pU,hs];simp only[res,cz,alx,anx,Nat.reduceAdd,IS,U,aki,amr,asInt,IT h0,hc,ak,By];rw[IT (by simp)];unfold qI;by_cases hlen:(dm l n).length=l.length
 ·rw[IT (by simp[gd,hlen])];have hr:=qF (dm l n) l hlen (some (PV.bool false)) (some (PV.bool true));have:some (PV.bool (decide (dm l n=l)))=if dm l n=l then some (PV.bool true)else some (PV.bool false):=by grind
  rw[this,←hr];refine aO (fun k=>(l.map Path.pv,(dm l n).map Path.pv,((dm l n).length:Int),(k:Int),())) (dm l n).length _ (fun k hk rec=>?_) (fun rec=>?_) ?_ rfl
  ·have h1:decide ((k:Int)<((dm l n).length:Int))=true:=by simp;omega
   have nM:k<l.length:=by omega
   unfold kX;dsimp only;rw[BY h1,af,AT,ta hk,af,AT,ta nM];simp only[No,U];rw[BY ⟨Dc _,Dc _⟩,O4,ah (by omega)];grind [dm,bP]
  ·simp[kX,IT]
  ·have:=aN;omega
 ·rw[BY (by simp[gd];omega)];rw[apI (fun hc=>hlen (by rw[hc]))]
def cC(l:List Path)(n:Nat):Int×Int:=if(bM (dp l n) l.length).2=0 then(if qI l n=true then(0,0)else(0,18))else bM (dp l n) l.length
def vK(x:Int×Int×Bool):PV:=.agg [.int .i64 x.1,.int .i64 x.2.1,.int .i64 0,.bool x.2.2]
theorem ah8(a b:Int×Int×Bool):bR (vK a).cells (vK b).cells=decide (a=b):=by obtain⟨a1,a2,a3⟩:=a;obtain⟨b1,b2,b3⟩:=b;rw[anS];simp[vK,PV.cells,bR,peq]
theorem Fv(N:ay)(l:List Path)(n:Nat)(hl:l.length≤8192)(hlen:(N.stops.map Stop.pv).length=n)(k:Nat)(hk:k<l.length)(rec:ads→Option PV):cR (l.map Path.pv,(l.length:Int),(k:Int),N.stops.map Stop.pv,N.ae.map az.pv,N.runs.map aX.pv,N.ar.map aD.pv,l.map Path.pv,N.av.map aS.pv,N.aQ,N.within,N.cap,0,0,0,seen vK ((l.map bE).take k),()) rec=bP (if dp l n k=0 then none else some (some (r3 4 k (dp l n k)))) (rec (l.map Path.pv,(l.length:Int),((k+1:Nat):Int),N.stops.map Stop.pv,N.ae.map az.pv,N.runs.map aX.pv,N.ar.map aD.pv,l.map Path.pv,N.av.map aS.pv,N.aQ,N.within,N.cap,0,0,0,seen vK ((l.map bE).take (k+1)),())):=by
 have h1:decide ((k:Int)<(l.length:Int))=true:=by simp;omega
 have mW:dr (.agg [.int .i64 l[k].a,.int .i64 l[k].b,.int .i64 0,.bool l[k].free]) (.bool true) (seen vK ((l.map bE).take k))=_:=fK ah8 (bE l[k]) ((l.map bE).take k);have kx:bT (.agg [.int .i64 l[k].a,.int .i64 l[k].b,.int .i64 0,.bool l[k].free]) (.bool false) (seen vK ((l.map bE).take k))=_:=eQ ah8 (bE l[k]) ((l.map bE).take k);unfold cR;dsimp only;rw[BY h1,af,AT,ta hk,hlen];simp only[No,U,OY,OZ,Ty,O0,asInt,asBool,IS,B9,aT,dY,mW,kx,O1,WZ,Zl,Zm,VV,jU bE l k hk,ah (show k<9223372036854775807 by omega)];have hA:(!(decide (l[k].a≥0)&&decide (l[k].a<(n:Int)))|| !(decide (l[k].b≥0)&&decide (l[k].b<(n:Int)))||decide (l[k].a=l[k].b))=(decide (l[k].a<0)||decide (l[k].a≥(n:Int))||decide (l[k].b<0)||decide (l[k].b≥(n:Int))||decide (l[k].a=l[k].b)):=by grind
 rw[hA];unfold dp;rw[ta hk];simp only;generalize (decide (l[k].a<0)||decide (l[k].a≥(n:Int))||decide (l[k].b<0)||decide (l[k].b≥(n:Int))||decide (l[k].a=l[k].b))=A;generalize (decide (l[k].cA<1)||decide (l[k].cA>14400))=B;by_cases bu:bE l[k]∈(l.map bE).take k
 ·simp only[bu,IS];cases A<;>cases B<;>rfl
 ·simp only[bu,PS];cases A<;>cases B<;>rfl
theorem Jq(N:ay)(hn:N.stops.length≤64)(hl:N.paths.length≤8192):dc [N.pv]=some (prt 4 (cC N.paths N.stops.length)):=by
 have hm:8192≤maxLen:=by decide
 simp only[dc,nm,BQ,BR,BS,BT,BU,BV,BW,BX,BZ,B0,U,By];generalize Xp:N.paths=l at hl⊢;generalize Qg:N.stops.length=n at hn⊢;have hlen:(N.stops.map Stop.pv).length=n:=by simpa using Qg
 have hg:=nU (dp l n) l.length (fun i e=>r3 4 i e) (some (if qI l n=true then r3 0 0 0 else r3 4 0 18));have hR:some (prt 4 (cC l n))=if(bM (dp l n) l.length).2=0 then some (if qI l n=true then r3 0 0 0 else r3 4 0 18)else some (r3 4 (bM (dp l n) l.length).1 (bM (dp l n) l.length).2):=by unfold cC prt;grind
 rw[hR,←hg];by_cases hz:(bM (dp l n) l.length).2=0
 ·refine aO (fun k=>(l.map Path.pv,(l.length:Int),(k:Int),N.stops.map Stop.pv,N.ae.map az.pv,N.runs.map aX.pv,N.ar.map aD.pv,l.map Path.pv,N.av.map aS.pv,N.aQ,N.within,N.cap,0,0,0,seen vK ((l.map bE).take k),())) l.length _ (fun k hk rec=>Fv N l n hl hlen k hk rec) (fun rec=>?_) ?_ rfl
  ·unfold cR;dsimp only;rw[IT (by simp),hlen,O5 hn hl hz];simp only[U,asBool,O1,WZ,Zl,Zm,VV];cases qI l n<;>rfl
  ·have:=aN;omega
 ·have gw:=aO (body:=cR) (fun k=>(l.map Path.pv,(l.length:Int),(k:Int),N.stops.map Stop.pv,N.ae.map az.pv,N.runs.map aX.pv,N.ar.map aD.pv,l.map Path.pv,N.av.map aS.pv,N.aQ,N.within,N.cap,0,0,0,seen vK ((l.map bE).take k),())) l.length _ (fin:=cR (l.map Path.pv,(l.length:Int),(l.length:Int),N.stops.map Stop.pv,N.ae.map az.pv,N.runs.map aX.pv,N.ar.map aD.pv,l.map Path.pv,N.av.map aS.pv,N.aQ,N.within,N.cap,0,0,0,seen vK ((l.map bE).take l.length),()) fun _=>none) (fun k hk rec=>Fv N l n hl hlen k hk rec) (fun rec=>?_) (by have:=aN;omega) (s0:=(l.map Path.pv,(l.length:Int),0,N.stops.map Stop.pv,N.ae.map az.pv,N.runs.map aX.pv,N.ar.map aD.pv,l.map Path.pv,N.av.map aS.pv,N.aQ,N.within,N.cap,0,0,0,[],())) rfl
  ·simp_all[nU,IT]
  simp[cR,IT]
theorem Mq(N:ay)(l:List Path)(hl:l.length≤8192)(i:Nat)(hi:i<l.length)(rM:Zo→Option PV):bd.run (pe rM) ((i:Int),0,N.stops.map Stop.pv,N.ae.map az.pv,N.runs.map aX.pv,N.ar.map aD.pv,l.map Path.pv,N.av.map aS.pv,N.aQ,N.within,N.cap,.int .i64 l[i].a,.int .i64 l[i].b,.int .i64 l[i].cA,.bool l[i].free,())=if bE l[i]∈(l.map bE).take i then some (res i 6)else rM (IntKind.i64.wrap ((i:Int)+1),N.stops.map Stop.pv,N.ae.map az.pv,N.runs.map aX.pv,N.ar.map aD.pv,l.map Path.pv,N.av.map aS.pv,N.aQ,N.within,N.cap,()):=by
 have hm:8192≤maxLen:=by decide
 refine(jV (fun k=>((i:Int),(k:Int),N.stops.map Stop.pv,N.ae.map az.pv,N.runs.map aX.pv,N.ar.map aD.pv,l.map Path.pv,N.av.map aS.pv,N.aQ,N.within,N.cap,PV.int .i64 l[i].a,PV.int .i64 l[i].b,PV.int .i64 l[i].cA,PV.bool l[i].free,())) i (fun k=>decide ((l.map bE)[k]?=some (bE l[i]))) (no:=some (res i 6)) (fin:=rM (IntKind.i64.wrap ((i:Int)+1),N.stops.map Stop.pv,N.ae.map az.pv,N.runs.map aX.pv,N.ar.map aD.pv,l.map Path.pv,N.av.map aS.pv,N.aQ,N.within,N.cap,())) (fun k hk rec=>?_) (fun rec=>?_) ?_ rfl).trans ?_
 ·have h1:decide ((k:Int)<(i:Int))=true:=by simp;omega
  have nM:k<l.length:=by omega
  have hd:decide ((l.map bE)[k]?=some (bE l[i]))=(decide (l[k].a=l[i].a)&&decide (l[k].b=l[i].b)&&decide (l[k].free=l[i].free)):=by rw[anS];simp[ta nM,bE,apP]
  rw[hd];unfold pe;dsimp only;rw[BY h1,af,AT,ta nM];simp only[No,U,OY,OZ,O0,asInt,asBool,IS,ah (show k<9223372036854775807 by omega),dY,bL];rfl
 ·simp[pe,IT]
 ·have:=aN;omega
 ·rw[Az _ _ (by simp;omega)];simp_all
theorem VX(N:ay)(hn:N.stops.length≤64)(hl:N.paths.length≤8192):qN [N.pv]=some (res (cC N.paths N.stops.length).1 (cC N.paths N.stops.length).2):=by
 have hm:8192≤maxLen:=by decide
 simp only[qN,zy,BQ,BR,BS,BT,BU,BV,BW,BX,BZ,B0,U];generalize Xp:N.paths=l at hl⊢;generalize Qg:N.stops.length=n at hn⊢;have hlen:(N.stops.map Stop.pv).length=n:=by simpa using Qg
 have hw:IntKind.i64.wrap ((n:Int)-1)=(n:Int)-1:=bp (by omega) (by omega);have Zp:∀k,(hk:k<l.length)→∀rec,gg bd ((k:Int),N.stops.map Stop.pv,N.ae.map az.pv,N.runs.map aX.pv,N.ar.map aD.pv,l.map Path.pv,N.av.map aS.pv,N.aQ,N.within,N.cap,()) rec=bP (if dp l n k=0 then none else some (some (res k (dp l n k)))) (rec (((k+1:Nat):Int),N.stops.map Stop.pv,N.ae.map az.pv,N.runs.map aX.pv,N.ar.map aD.pv,l.map Path.pv,N.av.map aS.pv,N.aQ,N.within,N.cap,())):=by
  intro k hk rec;have h1:decide ((k:Int)<((l.map Path.pv).length:Int))=true:=by simp;omega
  have ob:=Mq N l hl k hk rec;unfold gg;dsimp only;rw[BY h1,af,AT,ta hk,hlen,hw];simp only[No,U,OY,OZ,Ty,O0,asInt,asBool,IS,Ib,aT,dY,ob,ah (show k<9223372036854775807 by omega)];have hA:(!(decide (l[k].a≥0)&&decide (l[k].a≤(n:Int)-1))|| !(decide (l[k].b≥0)&&decide (l[k].b≤(n:Int)-1))||decide (l[k].a=l[k].b))=(decide (l[k].a<0)||decide (l[k].a≥(n:Int))||decide (l[k].b<0)||decide (l[k].b≥(n:Int))||decide (l[k].a=l[k].b)):=by grind
  have hB:(!(decide (l[k].cA≥1)&&decide (l[k].cA≤14400)))=(decide (l[k].cA<1)||decide (l[k].cA>14400)):=by grind
  rw[hA,hB];unfold dp;rw[ta hk];simp only;generalize (decide (l[k].a<0)||decide (l[k].a≥(n:Int))||decide (l[k].b<0)||decide (l[k].b≥(n:Int))||decide (l[k].a=l[k].b))=A;generalize (decide (l[k].cA<1)||decide (l[k].cA>14400))=B;by_cases bu:bE l[k]∈(l.map bE).take k
  ·simp only[bu,IS];cases A<;>cases B<;>rfl
  ·simp only[bu,PS];cases A<;>cases B<;>rfl
 have hg:=nU (dp l n) l.length (fun i e=>res i e) (some (if qI l n=true then res 0 0 else res 0 18));have hR:some (res (cC l n).1 (cC l n).2)=if(bM (dp l n) l.length).2=0 then some (if qI l n=true then res 0 0 else res 0 18)else some (res (bM (dp l n) l.length).1 (bM (dp l n) l.length).2):=by unfold cC;grind
 rw[hR,←hg];by_cases hz:(bM (dp l n) l.length).2=0
 ·refine aO (fun k=>((k:Int),N.stops.map Stop.pv,N.ae.map az.pv,N.runs.map aX.pv,N.ar.map aD.pv,l.map Path.pv,N.av.map aS.pv,N.aQ,N.within,N.cap,())) l.length _ Zp (fun rec=>?_) ?_ rfl
  ·have hc:=(En hn hl (C6 hz)).2;have qB:=C8 l n hn;unfold gg;dsimp only;rw[IT (by simp),hlen,hc];simp only[U,ak,IS,By];unfold qI;by_cases Zq:(dm l n).length=l.length
   ·rw[IT (by simp[gd,Zq])];have hr:=qF (dm l n) l Zq (some (res 0 18)) (some (res 0 0));have:some (if decide (dm l n=l)=true then res 0 0 else res 0 18)=if dm l n=l then some (res 0 0)else some (res 0 18):=by grind
    rw[this,←hr];refine aO (fun k=>((dm l n).map Path.pv,(k:Int),N.stops.map Stop.pv,N.ae.map az.pv,N.runs.map aX.pv,N.ar.map aD.pv,l.map Path.pv,N.av.map aS.pv,N.aQ,N.within,N.cap,())) (dm l n).length _ (fun k hk rec=>?_) (fun rec=>?_) ?_ rfl
    ·have h1:decide ((k:Int)<(((dm l n).map Path.pv).length:Int))=true:=by simp;omega
     have nM:k<l.length:=by omega
     unfold tU;dsimp only;rw[BY h1,af,AT,ta hk,af,AT,ta nM];simp only[No,U];rw[BY ⟨Dc _,Dc _⟩,O4,ah (by omega)];grind [dm,bP,res]
    ·unfold tU;dsimp only;rw[IT (by simp)];rfl
    ·have:=aN;omega
   ·rw[BY (by simp[gd];omega)];rw[apI (fun hc=>Zq (by rw[hc]))];rfl
  ·have:=aN;omega
 ·have gw:=aO (body:=gg bd) (fun k=>((k:Int),N.stops.map Stop.pv,N.ae.map az.pv,N.runs.map aX.pv,N.ar.map aD.pv,l.map Path.pv,N.av.map aS.pv,N.aQ,N.within,N.cap,())) l.length _ (fin:=gg bd ((l.length:Int),N.stops.map Stop.pv,N.ae.map az.pv,N.runs.map aX.pv,N.ar.map aD.pv,l.map Path.pv,N.av.map aS.pv,N.aQ,N.within,N.cap,()) fun _=>none) Zp (fun rec=>?_) (by have:=aN;omega) (s0:=(0,N.stops.map Stop.pv,N.ae.map az.pv,N.runs.map aX.pv,N.ar.map aD.pv,l.map Path.pv,N.av.map aS.pv,N.aQ,N.within,N.cap,())) rfl
  ·simp_all[nU,IT]
  simp[gg,IT]
def bG(x:aX):Bytes×Int×Int:=(x.id,x.day,x.inst)
def O6(x:Bytes×Int×Int):PV:=.agg [.str x.1,.int .i64 x.2.1,.int .i64 x.2.2]
theorem Zr(a b:Bytes×Int×Int):bR (O6 a).cells (O6 b).cells=decide (a=b):=by obtain⟨a1,a2,a3⟩:=a;obtain⟨b1,b2,b3⟩:=b;rw[anS];simp[O6,PV.cells,bR,peq]
def kW(l:List aX)(stops ae:Int)(k:Nat):Int:=match l[k]? with
 |none=>0
 |some x=>if dV x.id=false then 12 else if(decide (x.aZ< -1)||decide (x.inst<0))=true then 2 else if(decide (x.day<0)||decide (x.day>36524))=true then 11 else if(decide (x.aY<0)||decide (x.aY≥ae))=true then 9 else if(bD x.calls stops 0 3155932800).2=0 then(if bG x∈(l.map bG).take k then 6 else 0)else(bD x.calls stops 0 3155932800).2
def gr(l:List aX)(stops ae:Int):Int×Int:=if l.length>1024 then(0,5)else bM (kW l stops ae) l.length
theorem RA(N:ay)(l:List aX)(hl:l.length≤maxLen∧∀y∈l,y.Ok)(k:Nat)(hk:k<l.length)(rec:ads→Option PV):gV (l.map aX.pv,(l.length:Int),(k:Int),N.stops.map Stop.pv,N.ae.map az.pv,l.map aX.pv,N.ar.map aD.pv,N.paths.map Path.pv,N.av.map aS.pv,N.aQ,N.within,N.cap,0,0,0,seen O6 ((l.map bG).take k),()) rec=bP (if kW l N.stops.length N.ae.length k=0 then none else some (some (r3 2 k (kW l N.stops.length N.ae.length k)))) (rec (l.map aX.pv,(l.length:Int),((k+1:Nat):Int),N.stops.map Stop.pv,N.ae.map az.pv,l.map aX.pv,N.ar.map aD.pv,N.paths.map Path.pv,N.av.map aS.pv,N.aQ,N.within,N.cap,0,0,0,seen O6 ((l.map bG).take (k+1)),())):=by
 have hm:=aL;have h1:decide ((k:Int)<(l.length:Int))=true:=by simp;omega
 have hO:=hl.2 _ (agZ hk);have hid:=tL l[k].id hO.id;have iW:=wN l[k].calls N.stops.length 0 3155932800 hO.calls.1;simp only[res]at iW;have mW:dr (.agg [.str l[k].id,.int .i64 l[k].day,.int .i64 l[k].inst]) (.bool true) (seen O6 ((l.map bG).take k))=_:=fK Zr (bG l[k]) ((l.map bG).take k);have kx:bT (.agg [.str l[k].id,.int .i64 l[k].day,.int .i64 l[k].inst]) (.bool false) (seen O6 ((l.map bG).take k))=_:=eQ Zr (bG l[k]) ((l.map bG).take k);unfold gV;dsimp only;rw[BY h1,af,AT,ta hk];simp only[No,U,L9,HS,Ma,OB,VB,FX,bt,asInt,asBool,ak,IS,By,hid,iW,cz,alx,anx,Nat.reduceAdd,aki,amr,aT,gd,mW,kx,O1,WZ,Zl,Zm,VV,jU bG l k hk,ah (show k<9223372036854775807 by omega)];unfold kW;rw[ta hk];simp only;generalize (decide (l[k].aZ< -1)||decide (l[k].inst<0))=A;generalize (decide (l[k].day<0)||decide (l[k].day>36524))=B;generalize (decide (l[k].aY<0)||decide (l[k].aY≥(N.ae.length:Int)))=C;generalize (bD l[k].calls N.stops.length 0 3155932800).2=e;cases dV l[k].id with
 |false=>rfl
 |true=>
  cases A with
  |true=>rfl
  |false=>
   cases B with
   |true=>rfl
   |false=>
    cases C with
    |true=>rfl
    |false=>
     simp only[ag0,tc,anE,PS];by_cases he:e=0
     ·subst he;by_cases bu:bG l[k]∈(l.map bG).take k
      ·simp only[bu,IS,anR,ag0,tc,PS];rfl
      ·simp only[bu,IS,anR,anJ,ag0,tc,PS];rfl
     ·simp only[he,PS,IS,anJ,anM];rfl
theorem Mr(N:ay)(hl:N.runs.length≤maxLen∧∀y∈N.runs,y.Ok):iA [N.pv]=some (prt 2 (gr N.runs N.stops.length N.ae.length)):=by
 have hm:=aL;simp only[iA,pf,BQ,BR,BS,BT,BU,BV,BW,BX,BZ,B0,U,By];generalize Xp:N.runs=l at hl⊢;unfold gr;by_cases pU:l.length>1024
 ·rw[BY (by simp;omega),BY pU];rfl
 ·rw[IT (by simp;omega),IT pU];have hR:some (prt 2 (bM (kW l N.stops.length N.ae.length) l.length))=if(bM (kW l N.stops.length N.ae.length) l.length).2=0 then some (r3 0 0 0)else some (r3 2 (bM (kW l N.stops.length N.ae.length) l.length).1 (bM (kW l N.stops.length N.ae.length) l.length).2):=by unfold prt;grind
  rw[hR,←nU (kW l N.stops.length N.ae.length) l.length (fun i e=>r3 2 i e)];refine aO (fun k=>(l.map aX.pv,(l.length:Int),(k:Int),N.stops.map Stop.pv,N.ae.map az.pv,l.map aX.pv,N.ar.map aD.pv,N.paths.map Path.pv,N.av.map aS.pv,N.aQ,N.within,N.cap,0,0,0,seen O6 ((l.map bG).take k),())) l.length _ (fun k hk rec=>RA N l hl k hk rec) (fun rec=>?_) ?_ rfl
  ·unfold gV;dsimp only;rw[IT (by simp)];rfl
  ·have:=aN;omega
theorem RB(N:ay)(l:List aX)(hl:l.length≤maxLen)(i:Nat)(hi:i<l.length):bd.run sC ((i:Int),0,N.stops.map Stop.pv,N.ae.map az.pv,l.map aX.pv,N.ar.map aD.pv,N.paths.map Path.pv,N.av.map aS.pv,N.aQ,N.within,N.cap,.int .i64 l[i].aZ,.int .i64 l[i].day,.int .i64 l[i].inst,.str l[i].id,.int .i64 l[i].aY,.bool l[i].free,.bool l[i].rr,.rs 5 (l[i].calls.map ai.pv),())=if bG l[i]∈(l.map bG).take i then some (.int .i64 6)else some (.int .i64 0):=by
 have hm:=aL;refine(jV (fun k=>((i:Int),(k:Int),N.stops.map Stop.pv,N.ae.map az.pv,l.map aX.pv,N.ar.map aD.pv,N.paths.map Path.pv,N.av.map aS.pv,N.aQ,N.within,N.cap,PV.int .i64 l[i].aZ,PV.int .i64 l[i].day,PV.int .i64 l[i].inst,PV.str l[i].id,PV.int .i64 l[i].aY,PV.bool l[i].free,PV.bool l[i].rr,PV.rs 5 (l[i].calls.map ai.pv),())) i (fun k=>decide ((l.map bG)[k]?=some (bG l[i]))) (no:=some (.int .i64 6)) (fin:=some (.int .i64 0)) (fun k hk rec=>?_) (fun rec=>?_) ?_ rfl).trans ?_
 ·have h1:decide ((k:Int)<(i:Int))=true:=by simp;omega
  have nM:k<l.length:=by omega
  have hd:decide ((l.map bG)[k]?=some (bG l[i]))=(decide (l[k].id=l[i].id)&&decide (l[k].day=l[i].day)&&decide (l[k].inst=l[i].inst)):=by rw[anS];simp[ta nM,bG,apP]
  rw[hd];unfold sC;dsimp only;rw[BY h1,af,AT,ta nM];simp only[No,U,HS,Ma,OB,asInt,bt,IS,ah (show k<9223372036854775807 by omega),dY,bL]
 ·simp[sC,IT]
 ·have:=aN;omega
 ·rw[Az _ _ (by simp;omega)];simp_all
theorem adt(N:ay)(hl:N.runs.length≤maxLen∧∀y∈N.runs,y.Ok)(k:Nat)(hk:k<N.runs.length):uX [N.pv,.int .i64 k]=some (.int .i64 (kW N.runs N.stops.length N.ae.length k)):=by
 have hm:=aL;have hO:=hl.2 _ (agZ hk);simp only[uX,Et,BQ,BR,BS,BT,BU,BV,BW,BX,BZ,B0,U];generalize Xp:N.runs=l at hl hk hO⊢;have hO':l[k].Ok:=by omega
 have hid:=xJ l[k].id hO'.id;have iW:=VU l[k].calls N.stops.length 0 3155932800 hO'.calls.1;have ob:=RB N l hl.1 k hk;simp only[asInt,IS,U,af,AT,ta hk,No,L9,HS,Ma,OB,VB,YN,YO,FX,bt,asBool,ak,By,hid,iW,Ib,aT,gd,ob];unfold kW;grind
def nx(p:List aD)(v:Int):Option Int:=p.foldl (fun o x=>if(x.stay&&decide (x.a=v))=true then some x.b else o) none
theorem sB(p:List aD)(x:aD)(v:Int):nx (p++[x]) v=if(x.stay&&decide (x.a=v))=true then some x.b else nx p v:=by unfold nx;simp
def it(f:Int→Option Int):Nat→Int→Option Int
 |0,v=>some v
 |m+1,v=>(f v).bind (it f m)
theorem Tz(f:Int→Option Int)(m:Nat)(v:Int):it f (m+1) v=(it f m v).bind f:=by
 induction m generalizing v with
 |zero=>show(f v).bind (it f 0)=f v;cases h:f v<;>rfl
 |succ m ih=>
  show(f v).bind (it f (m+1))=((f v).bind (it f m)).bind f;cases h:f v with
  |none=>rfl
  |some w=>exact ih w
def l7(p:List aD)(a b:Int)(n:Nat):Bool:=(List.range n).any fun t=>decide (it (nx p) (t+1) a=some b)
def zo(f:Int→Option Int):Prop:=∃r:Int→Nat,∀v w,f v=some w→r w<r v
theorem H7:zo (nx []):=⟨fun _=>0,fun v w h=>by cases h⟩
variable{p:List aD}
theorem H9{v w:Int}(h:nx p v=some w):∃x∈p,x.stay=true∧x.a=v∧x.b=w:=by
 have key:∀n,n≤p.length→nx (p.take n) v=some w→∃x∈p,x.stay=true∧x.a=v∧x.b=w:=by
  intro n;induction n with
  |zero=>intro _ h;cases h
  |succ n ih=>
   intro hn h;have Qg:n<p.length:=by omega
   rw[anw Qg,sB]at h;grind
 exact key p.length (anz _) (by simp_all)
theorem H8{f:Int→Option Int}(hf:zo f)(S:List Int)(hS:∀v w,f v=some w→v∈S):∀m v,it f m v≠none→m≤S.length:=by
 obtain⟨r,hr⟩:=hf;induction hn:S.length generalizing S f r with
 |zero=>
  intro m v h;cases m with
  |zero=>omega
  |succ m=>
   exfalso;cases hfv:f v with
   |none=>exact h (by show(f v).bind _=none;rw[hfv];rfl)
   |some w=>simp_all
 |succ n ih=>
  intro m v h;cases m with
  |zero=>omega
  |succ m=>
   cases hfv:f v with
   |none=>exact absurd (by show(f v).bind _=none;rw[hfv];rfl) h
   |some w=>
    have hvS:=hS v w hfv;let g:Int→Option Int:=fun x=>if x=v then none else f x;have hg:∀x y,g x=some y→r y<r x:=fun x y hxy=>by grind
    have hgS:∀x y,g x=some y→x∈S.erase v:=fun x y hxy=>by grind
    have hlen:(S.erase v).length=n:=by simp_all
    have aeu:∀k x,r x<r v→it g k x=it f k x:=by
     intro k;induction k with
     |zero=>intros;rfl
     |succ k ihk=>
      intro x hx;have hxv:x≠v:=fun h=>by subst h;omega
      show(g x).bind (it g k)=(f x).bind (it f k);have:g x=f x:=by simp[g,hxv]
      rw[this];cases hfx:f x with
      |none=>rfl
      |some y=>grind
    have hw:it f m w≠none:=by simp_all[it]
    have:=ih (S.erase v) hgS r hg hlen m w (by simp_all);omega
theorem Ms(hp:zo (nx p)){m:Nat}(hm:p.length<m)(v:Int):it (nx p) m v=none:=by
 cases h:it (nx p) m v with
 |none=>rfl
 |some w=>have:=H8 hp (p.map aD.a) (fun x y hxy=>by grind [H9]) m v (by simp_all);grind
theorem Fm(hp:zo (nx p))(x:aD)(h:x.stay=false∨(x.a≠x.b∧nx p x.a=none∧l7 p x.b x.a (p.length+1)=false)):zo (nx (p++[x])):=by
 cases hs:x.stay with
 |false=>obtain⟨r,hr⟩:=hp;refine⟨r,fun v w Tu=>hr v w ?_⟩;simp_all[sB,apw,IT]
 |true=>
  rw[hs]at h;rcases h with h|⟨tt,hna,am1⟩
  ·cases h
  have JT:=hp;obtain⟨r,hr⟩:=hp;have DN:∀t,it (nx p) (t+1) x.b≠some x.a:=by grind [l7,List.any_eq_false,Ms]
  let R:Int→Prop:=fun v=>∃t,it (nx p) t v=some x.a;have hRb:¬R x.b:=fun⟨t,ht⟩=>by
   cases t with
   |zero=>simp_all[it]
   |succ t=>exact DN t ht
  refine⟨fun v=>open Classical in if R v then r v+r x.b+1 else r v,fun v w Tu=>?_⟩;rw[sB,hs,aoB]at Tu;by_cases hv:x.a=v
  ·rw[BY (by simpa using hv)]at Tu;simp only[tb]at Tu;subst Tu;have hRv:R v:=⟨0,by show some v=some x.a;rw[hv]⟩;grind
  ·rw[IT (by simpa using hv)]at Tu;have bK:=hr v w Tu;show(open Classical in if R w then r w+r x.b+1 else r w)<(open Classical in if R v then r v+r x.b+1 else r v);by_cases hw:R w
   ·have hRv:R v:=by obtain⟨t,ht⟩:=hw;exact⟨t+1,by simp_all[nx,it]⟩
    simp_all
   ·rw[IT hw];by_cases hRv:R v
    ·rw[BY hRv];omega
    simp_all
def uY(a:Int):PV:=.int .i64 a
def cv(x:aD):Int×Int×Int×Int:=(x.a,x.ac,x.b,x.bc)
def O7(x:Int×Int×Int×Int):PV:=.agg [.int .i64 x.1,.int .i64 x.2.1,.int .i64 x.2.2.1,.int .i64 x.2.2.2]
theorem Zs(a b:Int×Int×Int×Int):bR (O7 a).cells (O7 b).cells=decide (a=b):=by obtain⟨a1,a2,a3,a4⟩:=a;obtain⟨b1,b2,b3,b4⟩:=b;rw[anS];simp[O7,PV.cells,bR,peq]
def Bl(p:List aD):List (Int×PV):=p.foldl (fun m x=>if x.stay=true then Dd x.a (.int .i64 x.b) m else m) []
theorem Ca(p:List aD)(x:aD):Bl (p++[x])=if x.stay=true then Dd x.a (.int .i64 x.b) (Bl p)else Bl p:=by unfold Bl;simp
def VY(a:Int)(m:List (Int×PV)):Bool:=m.any fun x=>decide (a=x.1)
theorem TA(a:Int):∀m,me (uY a) (yw uY m)=VY a m
 |[]=>rfl
 |(b,u)::r=>by have:=TA a r;simp only[yw]at this;simp only[yw,anB,me,VY,aqm];rw[this];have:bR (uY a).cells (uY b).cells=decide (a=b):=AB a b;rw[this];rfl
theorem O8(a b:Int)(v:PV):∀m,VY a (Dd b v m)=(decide (a=b)||VY a m)
 |[]=>by rfl
 |(c,u)::r=>by
  have:=O8 a b v r;simp only[VY]at this⊢;by_cases h:b=c
  ·subst h;simp[Dd]
  ·simp only[Dd,h,PS,aqm,this];grind
theorem zz{A:Type}{P:List A→Prop}(h0:P [])(h1:∀p x,P p→P (p++[x]))(l:List A):P l:=by
 have key:∀n,n≤l.length→P (l.take n):=by
  intro n;induction n with
  |zero=>simp_all
  |succ n ih=>grind [List.take_succ_eq_append_getElem]
 have:=key l.length (anz _);simp_all
theorem VZ(p:List aD)(v:Int):zA v (.int .i64 0) (Bl p)=.int .i64 ((nx p v).getD 0):=by
 induction p using zz with
 |h0=>rfl
 |h1 p x ih=>
  rw[Ca,sB];cases hs:x.stay with
  |false=>simp_all
  |true=>rw[BY rfl,Eu,aoB];grind
theorem Zt(p:List aD)(v:Int):VY v (Bl p)=(nx p v).isSome:=by
 induction p using zz with
 |h0=>rfl
 |h1 p x ih=>
  rw[Ca,sB];cases hs:x.stay with
  |false=>simp_all
  |true=>rw[BY rfl,O8,aoB];grind
def rB(p:List aD):List (PV×PV):=yw uY (Bl p)
theorem Cb(p:List aD)(v:Int):bT (.int .i64 v) (.int .i64 0) (rB p)=.int .i64 ((nx p v).getD 0):=by have:=Io (key:=uY) AB v (.int .i64 0) (Bl p);rw[VZ]at this;exact this
theorem Ev(p:List aD)(v:Int):me (.int .i64 v) (rB p)=(nx p v).isSome:=by have:=TA v (Bl p);rw[Zt]at this;exact this
theorem RC(p:List aD)(x:aD):rB (p++[x])=if x.stay=true then dr (.int .i64 x.a) (.int .i64 x.b) (rB p)else rB p:=by
 have:=Mt (key:=uY) AB x.a (.int .i64 x.b) (Bl p);unfold rB;rw[Ca];by_cases h:x.stay=true
 ·rw[BY h,BY h];exact this.symm
 simp_all
def mn(p:List aD):List Int:=(p.filter aD.stay).map aD.b
theorem RD(p:List aD)(x:aD):mn (p++[x])=if x.stay=true then mn p++[x.b]else mn p:=by grind [mn]
theorem KA(p:List aD)(v:Int):(nx p v).isSome=p.any fun y=>y.stay&&decide (y.a=v):=by
 induction p using zz with
 |h0=>rfl
 |h1 p x ih=>rw[sB,ap2,←ih];grind
theorem OR(p:List aD)(v:Int):decide (v∈mn p)=p.any fun y=>y.stay&&decide (y.b=v):=by rw[anS,te];simp only[mn,te,anG,anP,aoX,OF];grind
def afX(f:Int→Option Int)(a b:Int)(t:Nat):Option (Option PV):=(it f (t+1) a).elim (some (some (.bool false))) fun v=>if v=b then some (some (.bool true))else none
theorem RE(f:Int→Option Int)(b:Int)(n:Nat):∀a,it f (n+1) a=none→bP ((List.range n).findSome? (afX f a b)) (some (.bool false))=some (.bool ((List.range (n+1)).any fun t=>decide (it f (t+1) a=some b))):=by
 induction n with
 |zero=>intro a h;simp[bP,h]
 |succ n ih=>
  intro a h;rw[apg (n:=n+1),apg (n:=n),aou,aqm];have h0:it f (0+1) a=f a:=by show(f a).bind (it f 0)=f a;cases hf:f a<;>rfl
  unfold afX;rw[h0];cases hf:f a with
  |none=>
   have hz:∀t,it f (t+1) a=none:=fun t=>by show(f a).bind _=none;rw[hf];rfl
   simp_all[Option.elim,bP,List.any_map,apN]
  |some v=>
   have hs:∀t,it f (t+1+1) a=it f (t+1) v:=fun t=>by show(f a).bind _=_;rw[hf];rfl
   by_cases hv:v=b
   ·simp_all[Option.elim,IS,bP,anR,aqR]
   ·have hd:decide (some v=some b)=false:=by simpa using hv
    simp only[Option.elim,IT hv,hd,apr];have:=ih v (by rw[←hs];omega);rw[List.findSome?_map,List.any_map];simp only[apN,Nat.succ_eq_add_one,hs];rw[←apg];exact this
theorem RF(p:List aD)(hp:zo (nx p))(hl:p.length≤maxLen)(a b:Int):mG [.rm 3 ((rB p).map fun x=>x.fst) ((rB p).map fun x=>x.snd),.int .i64 a,.int .i64 b]=some (.bool (l7 p a b (p.length+1))):=by
 have hz:((rB p).map fun x=>x.fst).zip ((rB p).map fun x=>x.snd)=rB p:=by
  generalize rB p=m;induction m with
  |nil=>rfl
  |cons x m ih=>simp_all
 simp only[mG,vL,cS,IS,asInt,U,hz,Cb,Ev];unfold l7;rw[←RE (nx p) b p.length a (Ms hp (by omega) a)];refine aO (fun t=>(PV.rm 3 ((rB p).map fun x=>x.fst) ((rB p).map fun x=>x.snd),b,(it (nx p) (t+1) a).getD 0,(it (nx p) (t+1) a).isSome,())) p.length _ (fun t ht rec=>?_) (fun rec=>?_) (by have:=aN;omega) ?_
 ·unfold lH afX;dsimp only;rw[Tz (nx p) (t+1) a];cases hv:it (nx p) (t+1) a with
  |none=>rfl
  |some v=>
   simp only[apl,anY,IS,dY,te,Option.elim];by_cases hvb:v=b
   ·rw[BY hvb,BY hvb];rfl
   ·rw[IT hvb,IT hvb];simp only[cS,IS,hz,Cb,Ev,asInt,U,bP,anC]
 ·unfold lH;dsimp only;rw[Ms hp (by omega)];rfl
 ·show(_,b,(it (nx p) 1 a).getD 0,(it (nx p) 1 a).isSome,())=_;have:it (nx p) 1 a=nx p a:=by show(nx p a).bind _=_;cases nx p a<;>rfl
  rw[this]
def aI(runs:List aX)(a:Int):List ai:=((runs[a.toNat]?).map aX.calls).getD []
def eG(cs:List ai)(c:Int):Int:=((cs[c.toNat]?).map ai.stop).getD 0
def yG(x:aD)(R:Int):Bool:= !(decide (x.a≥0)&&decide (x.a<R))|| !(decide (x.b≥0)&&decide (x.b<R))||decide (x.a=x.b)
def wM(x:aD)(A B:Int):Bool:= !(decide (x.ac≥0)&&decide (x.ac<A))|| !(decide (x.bc≥0)&&decide (x.bc<B))
def sl(p:List aD)(x:aD)(A:Int):Bool:=x.stay&&(!decide (x.ac+1=A)|| !decide (x.bc=0)||(nx p x.a).isSome||decide (x.b∈mn p)||l7 p x.b x.a (p.length+1))
def cY(runs:List aX)(l:List aD)(k:Nat):Int:=match l[k]? with
 |none=>0
 |some x=>if yG x runs.length=true then 9 else if wM x (aI runs x.a).length (aI runs x.b).length=true then 9 else if eG (aI runs x.a) x.ac≠eG (aI runs x.b) x.bc then 13 else if sl (l.take k) x (aI runs x.a).length=true then 19 else if cv x∈(l.map cv).take k then 6 else 0
def gS(runs:List aX)(l:List aD):Int×Int:=if l.length>1024 then(0,5)else bM (cY runs l) l.length
theorem Ip(runs:List aX)(l:List aD)(k:Nat)(hk:k≤l.length)(h:∀j,j<k→cY runs l j=0):zo (nx (l.take k))∧∀x∈l.take k,0≤x.a:=by
 induction k with
 |zero=>simp[apy,H7]
 |succ k ih=>
  have nM:k<l.length:=by omega
  obtain⟨h1,h2⟩:=ih (by omega) fun j hj=>h j (by omega);have hz:=h k (by omega);unfold cY at hz;rw[ta nM]at hz;simp only at hz;have hr:yG l[k] runs.length=false:=by grind
  have hs:sl (l.take k) l[k] (aI runs l[k].a).length=false:=by grind
  unfold yG at hr;simp only[anL,aop,OF,te,anQ]at hr;rw[anw nM];refine⟨Fm h1 l[k] ?_,fun x hx=>?_⟩
  ·unfold sl at hs;cases gw:l[k].stay with
   |false=>simp
   |true=>simp_all
  grind
theorem De(runs:List aX)(a:Int)(h:0≤a∧a<(runs.length:Int)):∃r∈runs,yB (runs.map aX.pv) a=some r.pv∧aI runs a=r.calls:=by
 obtain⟨n,rfl⟩:=apH h.1;have hn:n<runs.length:=by omega
 refine⟨runs[n],agZ hn,?_,?_⟩
 ·rw[af,AT,ta hn];rfl
 ·unfold aI;simp_all
theorem AD(cs:List ai)(c:Int)(h:0≤c∧c<(cs.length:Int)):∃r,yB (cs.map ai.pv) c=some r∧cell r 0=.int .i64 (eG cs c):=by
 obtain⟨n,rfl⟩:=apH h.1;have hn:n<cs.length:=by omega
 refine⟨cs[n].pv,?_,?_⟩
 ·rw[af,AT,ta hn];rfl
 ·unfold eG;rw[agY,ta hn];rfl
theorem zB{runs:List aX}(h:∀y∈runs,y.Ok)(a:Int):(aI runs a).length≤maxLen:=by
 unfold aI;cases hr:runs[a.toNat]? with
 |none=>simp
 |some r=>exact(h r (amq hr)).calls.1
theorem O9(N:ay)(runs:List aX)(hr:∀y∈runs,y.Ok)(l:List aD)(hl:l.length≤maxLen)(k:Nat)(hk:k<l.length)(Hx:∀j,j<k→cY runs l j=0)(rec:TY0→Option PV):gu (l.map aD.pv,(l.length:Int),(k:Int),N.stops.map Stop.pv,N.ae.map az.pv,runs.map aX.pv,l.map aD.pv,N.paths.map Path.pv,N.av.map aS.pv,N.aQ,N.within,N.cap,0,0,0,rB (l.take k),seen uY (mn (l.take k)),seen O7 ((l.map cv).take k),()) rec=bP (if cY runs l k=0 then none else some (some (r3 3 k (cY runs l k)))) (rec (l.map aD.pv,(l.length:Int),((k+1:Nat):Int),N.stops.map Stop.pv,N.ae.map az.pv,runs.map aX.pv,l.map aD.pv,N.paths.map Path.pv,N.av.map aS.pv,N.aQ,N.within,N.cap,0,0,0,rB (l.take (k+1)),seen uY (mn (l.take (k+1))),seen O7 ((l.map cv).take (k+1)),())):=by
 have hm:=aL;have h1:decide ((k:Int)<(l.length:Int))=true:=by simp;omega
 obtain⟨ah9,_⟩:=Ip runs l k (by omega) Hx;have hlen:(l.take k).length=k:=by simp;omega
 have Iq:=RF (l.take k) ah9 (by omega) l[k].b l[k].a;have mW:dr (.agg [.int .i64 l[k].a,.int .i64 l[k].ac,.int .i64 l[k].b,.int .i64 l[k].bc]) (.bool true) (seen O7 ((l.map cv).take k))=_:=fK Zs (cv l[k]) ((l.map cv).take k);have kx:bT (.agg [.int .i64 l[k].a,.int .i64 l[k].ac,.int .i64 l[k].b,.int .i64 l[k].bc]) (.bool false) (seen O7 ((l.map cv).take k))=_:=eQ Zs (cv l[k]) ((l.map cv).take k);have aia:dr (.int .i64 l[k].b) (.bool true) (seen uY (mn (l.take k)))=_:=fK (key:=uY) AB l[k].b (mn (l.take k));have afY:bT (.int .i64 l[k].b) (.bool false) (seen uY (mn (l.take k)))=_:=eQ (key:=uY) AB l[k].b (mn (l.take k));have hsn:l.take (k+1)=l.take k++[l[k]]:=anw hk;unfold gu;dsimp only;rw[BY h1,af,AT,ta hk,hsn,RC,RD,jU cv l k hk];simp only[No,U,KC,Tw,link2,Tx,OX,asInt,asBool,IS,By,B9,aT,dY];unfold cY;rw[ta hk];simp only;have hR:(!(decide (l[k].a≥0)&&decide (l[k].a<(runs.length:Int)))|| !(decide (l[k].b≥0)&&decide (l[k].b<(runs.length:Int)))||decide (l[k].a=l[k].b))=yG l[k] runs.length:=rfl;rw[hR];cases hb:yG l[k] runs.length with
 |true=>rfl
 |false=>
  unfold yG at hb;simp only[anL,aop,OF,te,anQ]at hb;obtain⟨ra,hra,hia,hca⟩:=De runs l[k].a ⟨hb.1.1.1,hb.1.1.2⟩;obtain⟨rb,hrb,hib,hcb⟩:=De runs l[k].b ⟨hb.1.2.1,hb.1.2.2⟩;have hA:=zB hr l[k].a;rw[hia,hib];simp only[U,FX,ak,IS,By,←hca,←hcb,B9,asBool,aT];have hC:(!(decide (l[k].ac≥0)&&decide (l[k].ac<((aI runs l[k].a).length:Int)))|| !(decide (l[k].bc≥0)&&decide (l[k].bc<((aI runs l[k].b).length:Int))))=wM l[k] (aI runs l[k].a).length (aI runs l[k].b).length:=rfl;rw[hC];cases HM:wM l[k] (aI runs l[k].a).length (aI runs l[k].b).length with
  |true=>rfl
  |false=>
   unfold wM at HM;simp only[anL,aop,OF,te]at HM;obtain⟨ka,hka,hsa⟩:=AD (aI runs l[k].a) l[k].ac HM.1;obtain⟨kb,hkb,hsb⟩:=AD (aI runs l[k].b) l[k].bc HM.2;have hw:IntKind.i64.wrap (l[k].ac+1)=l[k].ac+1:=bp (by omega) (by omega);simp only[tc,PS,hka,hkb,U,hsa,hsb,Cb,Ev,kx,afY,mW,aia,asInt,asBool,IS,Iq,hw,hlen,aT,bL,gd,O1,WZ,Zl,Zm,VV,ah (show k<9223372036854775807 by omega)];have hS:(l[k].stay&&(!decide (l[k].ac+1=((aI runs l[k].a).length:Int))|| !decide (l[k].bc=0)||(nx (l.take k) l[k].a).isSome||decide (l[k].b∈mn (l.take k))||l7 (l.take k) l[k].b l[k].a (k+1)))=sl (l.take k) l[k] (aI runs l[k].a).length:=by unfold sl;rw[hlen]
   rw[hS];generalize sl (l.take k) l[k] (aI runs l[k].a).length=S;by_cases gw:eG (aI runs l[k].a) l[k].ac=eG (aI runs l[k].b) l[k].bc
   ·simp only[gw,anR,ag0,tc,PS,aqP,aqW];cases S with
    |true=>rfl
    |false=>
     by_cases bu:cv l[k]∈(l.map cv).take k
     ·simp only[bu,anR,IS,tc,PS];rfl
     ·simp only[bu,anJ,IS,tc,PS];cases l[k].stay<;>rfl
   ·simp only[gw,anJ,anM,IS,aqP,not_false_eq_true];rfl
theorem Jr(N:ay)(hr:N.runs.length≤maxLen∧∀y∈N.runs,y.Ok)(hl:N.ar.length≤maxLen):fj [N.pv]=some (prt 3 (gS N.runs N.ar)):=by
 have hm:=aL;simp only[fj,np,BQ,BR,BS,BT,BU,BV,BW,BX,BZ,B0,U,By];generalize Xp:N.ar=l at hl⊢;generalize yt:N.runs=runs at hr⊢;unfold gS;by_cases pU:l.length>1024
 ·rw[BY (by simp;omega),BY pU];rfl
 ·rw[IT (by simp;omega),IT pU];have hR:some (prt 3 (bM (cY runs l) l.length))=if(bM (cY runs l) l.length).2=0 then some (r3 0 0 0)else some (r3 3 (bM (cY runs l) l.length).1 (bM (cY runs l) l.length).2):=by unfold prt;grind
  rw[hR,←nU (cY runs l) l.length (fun i e=>r3 3 i e)];refine Bk (fun k=>(l.map aD.pv,(l.length:Int),(k:Int),N.stops.map Stop.pv,N.ae.map az.pv,runs.map aX.pv,l.map aD.pv,N.paths.map Path.pv,N.av.map aS.pv,N.aQ,N.within,N.cap,0,0,0,rB (l.take k),seen uY (mn (l.take k)),seen O7 ((l.map cv).take k),())) l.length _ (fun k hk Hx rec=>O9 N runs hr.2 l hl k hk (fun j hj=>?_) rec) (fun _ rec=>?_) (by have:=aN;omega) rfl
  ·simp_all
  ·unfold gu;dsimp only;rw[IT (by simp)];rfl
theorem V0(N:ay)(i:Nat)(hi:i<N.ar.length)(hl:N.ar.length≤maxLen)(hp:∀x∈N.ar.take i,0≤x.a)(a b:Int)(hb:0≤b):qO [N.pv,.int .i64 i,.int .i64 a,.int .i64 b]=some (.bool (l7 (N.ar.take i) a b (i+1))):=by
 have hm:=aL;simp only[qO,zC,BQ,BR,BS,BT,BU,BV,BW,BX,BZ,B0,U];simp only[asInt,IS,U];generalize Xp:N.ar=l at hl hi hp⊢;have ano:nx (l.take i) (-1)=none:=by
  cases hn:nx (l.take i) (-1)with
  |none=>rfl
  |some w=>grind [H9]
 have q7:∀t,(nx (l.take i) ((it (nx (l.take i)) t a).getD (-1))).getD (-1)=(it (nx (l.take i)) (t+1) a).getD (-1):=by
  intro t;rw[Tz];cases it (nx (l.take i)) t a with
  |none=>simp_all
  |some v=>rfl
 have ob:∀(c:Int)(t:Nat)rM,bd.run (pg rM) ((i:Int),c,b,(t:Int),-1,0,N.stops.map Stop.pv,N.ae.map az.pv,N.runs.map aX.pv,l.map aD.pv,N.paths.map Path.pv,N.av.map aS.pv,N.aQ,N.within,N.cap,())=if(nx (l.take i) c).getD (-1)=b then some (.bool true)else rM ((i:Int),(nx (l.take i) c).getD (-1),b,IntKind.i64.wrap ((t:Int)+1),N.stops.map Stop.pv,N.ae.map az.pv,N.runs.map aX.pv,l.map aD.pv,N.paths.map Path.pv,N.av.map aS.pv,N.aQ,N.within,N.cap,()):=by
  intro c t rM;refine bh (fun k=>((i:Int),c,b,(t:Int),(nx (l.take k) c).getD (-1),(k:Int),N.stops.map Stop.pv,N.ae.map az.pv,N.runs.map aX.pv,l.map aD.pv,N.paths.map Path.pv,N.av.map aS.pv,N.aQ,N.within,N.cap,())) i (fun k hk rec=>?_) (fun rec=>?_) (by have:=aN;omega) (by rfl)
  ·have h1:decide ((k:Int)<(i:Int))=true:=by simp;omega
   have nM:k<l.length:=by omega
   unfold pg;dsimp only;rw[BY h1,af,AT,ta nM,anw nM,sB];simp only[No,U,KC,link2,OX,asInt,asBool,IS,bL,dY,ah (show k<9223372036854775807 by omega)];grind
  simp[pg,IT,dY,te]
 unfold l7;have vk:bd.run (pj bd) ((i:Int),a,b,0,N.stops.map Stop.pv,N.ae.map az.pv,N.runs.map aX.pv,l.map aD.pv,N.paths.map Path.pv,N.av.map aS.pv,N.aQ,N.within,N.cap,())=if((List.range (i+1)).any fun t=>decide (it (nx (l.take i)) (t+1) a=some b))=true then some (PV.bool true)else some (PV.bool false):=by
  refine jV (fun t:Nat=>((i:Int),(it (nx (l.take i)) t a).getD (-1),b,(t:Int),N.stops.map Stop.pv,N.ae.map az.pv,N.runs.map aX.pv,l.map aD.pv,N.paths.map Path.pv,N.av.map aS.pv,N.aQ,N.within,N.cap,())) (i+1) (fun t=>decide (it (nx (l.take i)) (t+1) a=some b)) (no:=some (PV.bool true)) (fin:=some (PV.bool false)) (fun t ht rec=>?_) (fun rec=>?_) (by have:=aN;omega) rfl
  ·have h1:decide ((t:Int)≤(i:Int))=true:=by simp;omega
   unfold pj;dsimp only;rw[BY h1,ob,q7,ah (by omega)];cases hv:it (nx (l.take i)) (t+1) a with
   |none=>grind
   |some v=>simp
  ·unfold pj;grind
 grind
theorem V1(l:List aD)(P:aD→Bool)(k:Nat)(hk:k≤l.length):((List.range k).any fun j=>(l[j]?).elim false P)=(l.take k).any P:=by
 induction k with
 |zero=>rfl
 |succ k ih=>
  have nM:k<l.length:=by omega
  rw[aot,ap2,ih (by omega),anw nM,ap2];simp_all
theorem Zu(N:ay)(hr:N.runs.length≤maxLen∧∀y∈N.runs,y.Ok)(hl:N.ar.length≤maxLen)(k:Nat)(hk:k<N.ar.length)(Hx:∀j,j<k→cY N.runs N.ar j=0):sD [N.pv,.int .i64 k]=some (.int .i64 (cY N.runs N.ar k)):=by
 have hm:=aL;obtain⟨_,eO⟩:=Ip N.runs N.ar k (by omega) Hx;have Iq:=fun a b hb=>V0 N k hk hl eO a b hb;have hE:=Mo N;simp only[sD,Cc,BQ,BR,BS,BT,BU,BV,BW,BX,BZ,B0,U];rw[←Mo N]at Iq;generalize Xp:N.ar=l at hl hk eO Iq⊢;generalize yt:N.runs=runs at hr Iq⊢;have hw0:IntKind.i64.wrap ((runs.length:Int)-1)=(runs.length:Int)-1:=bp (by omega) (by omega);simp only[asInt,IS,U,af,AT,ta hk,No,KC,Tw,link2,Tx,OX,asBool,By,hw0,Ib,aT,dY];unfold cY;rw[ta hk];simp only;have hR:(!(decide (l[k].a≥0)&&decide (l[k].a≤(runs.length:Int)-1))|| !(decide (l[k].b≥0)&&decide (l[k].b≤(runs.length:Int)-1))||decide (l[k].a=l[k].b))=yG l[k] runs.length:=by unfold yG;grind
 rw[hR];cases hb:yG l[k] runs.length with
 |true=>rfl
 |false=>
  unfold yG at hb;simp only[anL,aop,OF,te,anQ]at hb;obtain⟨ra,hra,hia,hca⟩:=De runs l[k].a ⟨hb.1.1.1,hb.1.1.2⟩;obtain⟨rb,hrb,hib,hcb⟩:=De runs l[k].b ⟨hb.1.2.1,hb.1.2.2⟩;have hA:=zB hr.2 l[k].a;have hB:=zB hr.2 l[k].b;rw[hia,hib];simp only[U,FX,ak,IS,By,←hca,←hcb];have hwA:IntKind.i64.wrap (((aI runs l[k].a).length:Int)-1)=((aI runs l[k].a).length:Int)-1:=bp (by omega) (by omega);have hwB:IntKind.i64.wrap (((aI runs l[k].b).length:Int)-1)=((aI runs l[k].b).length:Int)-1:=bp (by omega) (by omega);simp only[hwA,hwB,Ib,asBool,U,aT];have hC:(!(decide (l[k].ac≥0)&&decide (l[k].ac≤((aI runs l[k].a).length:Int)-1))|| !(decide (l[k].bc≥0)&&decide (l[k].bc≤((aI runs l[k].b).length:Int)-1)))=wM l[k] (aI runs l[k].a).length (aI runs l[k].b).length:=by unfold wM;grind
  rw[hC];cases HM:wM l[k] (aI runs l[k].a).length (aI runs l[k].b).length with
  |true=>rfl
  |false=>
   unfold wM at HM;simp only[anL,aop,OF,te]at HM;obtain⟨ka,hka,hsa⟩:=AD (aI runs l[k].a) l[k].ac HM.1;obtain⟨kb,hkb,hsb⟩:=AD (aI runs l[k].b) l[k].bc HM.2;simp only[tc,PS,hka,hkb,U,hsa,hsb,asInt,asBool,IS,aT,bL,gd];by_cases gw:eG (aI runs l[k].a) l[k].ac=eG (aI runs l[k].b) l[k].bc
   ·simp only[gw,anR,ag0,tc,PS,aqP,aqW];have aib:bd.run qP ((k:Int),0,N.stops.map Stop.pv,N.ae.map az.pv,runs.map aX.pv,l.map aD.pv,N.paths.map Path.pv,N.av.map aS.pv,N.aQ,N.within,N.cap,.int .i64 l[k].a,.int .i64 l[k].ac,.int .i64 l[k].b,.int .i64 l[k].bc,.bool l[k].stay,())=if cv l[k]∈(l.map cv).take k then some (.int .i64 6)else some (.int .i64 0):=by
     refine(jV (fun j=>((k:Int),(j:Int),N.stops.map Stop.pv,N.ae.map az.pv,runs.map aX.pv,l.map aD.pv,N.paths.map Path.pv,N.av.map aS.pv,N.aQ,N.within,N.cap,PV.int .i64 l[k].a,PV.int .i64 l[k].ac,PV.int .i64 l[k].b,PV.int .i64 l[k].bc,PV.bool l[k].stay,())) k (fun j=>decide ((l.map cv)[j]?=some (cv l[k]))) (no:=some (.int .i64 6)) (fin:=some (.int .i64 0)) (fun j hj rec=>?_) (fun rec=>?_) (by have:=aN;omega) rfl).trans ?_
     ·have h1:decide ((j:Int)<(k:Int))=true:=by simp;omega
      have Nh:j<l.length:=by omega
      have hd:decide ((l.map cv)[j]?=some (cv l[k]))=(decide (l[j].a=l[k].a)&&decide (l[j].ac=l[k].ac)&&decide (l[j].b=l[k].b)&&decide (l[j].bc=l[k].bc)):=by rw[anS];simp[ta Nh,cv,apP]
      rw[hd];unfold qP;dsimp only;rw[BY h1,af,AT,ta Nh];simp only[No,U,KC,Tw,link2,Tx,asInt,IS,ah (show j<9223372036854775807 by omega),dY,bL]
     ·simp[qP,IT]
     ·rw[Az _ _ (by simp;omega)];simp_all
    have Q3:bd.run (qQ bd) ((k:Int),0,N.stops.map Stop.pv,N.ae.map az.pv,runs.map aX.pv,l.map aD.pv,N.paths.map Path.pv,N.av.map aS.pv,N.aQ,N.within,N.cap,.int .i64 l[k].a,.int .i64 l[k].ac,.int .i64 l[k].b,.int .i64 l[k].bc,.bool l[k].stay,())=if(l[k].stay&&((nx (l.take k) l[k].a).isSome||decide (l[k].b∈mn (l.take k))))=true then some (.int .i64 19)else if(l[k].stay&&l7 (l.take k) l[k].b l[k].a (k+1))=true then some (.int .i64 19)else if cv l[k]∈(l.map cv).take k then some (.int .i64 6)else some (.int .i64 0):=by
     refine(jV (fun j=>((k:Int),(j:Int),N.stops.map Stop.pv,N.ae.map az.pv,runs.map aX.pv,l.map aD.pv,N.paths.map Path.pv,N.av.map aS.pv,N.aQ,N.within,N.cap,PV.int .i64 l[k].a,PV.int .i64 l[k].ac,PV.int .i64 l[k].b,PV.int .i64 l[k].bc,PV.bool l[k].stay,())) k (fun j=>(l[j]?).elim false fun y=>l[k].stay&&y.stay&&(decide (y.a=l[k].a)||decide (y.b=l[k].b))) (no:=some (.int .i64 19)) (fin:=if(l[k].stay&&l7 (l.take k) l[k].b l[k].a (k+1))=true then some (.int .i64 19)else if cv l[k]∈(l.map cv).take k then some (.int .i64 6)else some (.int .i64 0)) (fun j hj rec=>?_) (fun rec=>?_) (by have:=aN;omega) rfl).trans ?_
     ·have h1:decide ((j:Int)<(k:Int))=true:=by simp;omega
      have Nh:j<l.length:=by omega
      rw[ta Nh];unfold qQ;dsimp only;rw[BY h1,af,AT,ta Nh];simp only[No,U,KC,link2,OX,asInt,asBool,IS,ah (show j<9223372036854775807 by omega),dY,bL,aT,Option.elim];rfl
     ·unfold qQ;simp_all[IT,asBool,asInt,IS,U,bL]
     ·rw[V1 l _ k (by omega)];have ac2:((l.take k).any fun y=>l[k].stay&&y.stay&&(decide (y.a=l[k].a)||decide (y.b=l[k].b)))=(l[k].stay&&((nx (l.take k) l[k].a).isSome||decide (l[k].b∈mn (l.take k)))):=by
       rw[KA,OR];cases l[k].stay with
       |false=>simp
       |true=>rw[anS];simp only[aoB,anH,aoX,OF,te];grind
      rw[ac2]
    rw[Q3];have hlen:(l.take k).length=k:=by simp;omega
    have hac:decide (l[k].ac=((aI runs l[k].a).length:Int)-1)=decide (l[k].ac+1=((aI runs l[k].a).length:Int)):=by grind
    rw[hac];unfold sl;grind
   simp_all
def dZ(N:ay):Int×Int×Int:=
 if(fP N.stops).2=0 then
  if(ec N.ae).2=0 then
   if(gr N.runs N.stops.length N.ae.length).2=0 then
    if(gS N.runs N.ar).2=0 then
     if(cC N.paths N.stops.length).2=0 then if(cX N.av N.aQ N.within N.cap).2=0 then(0,0,0)else(5,cX N.av N.aQ N.within N.cap)
     else(4,cC N.paths N.stops.length)
    else(3,gS N.runs N.ar)
   else(2,gr N.runs N.stops.length N.ae.length)
  else(1,ec N.ae)
 else(0,fP N.stops)
def jx(x:Int×Int×Int):PV:=.aV [.int .i64 x.1,.int .i64 x.2.1,.int .i64 x.2.2]
theorem r3E(p i e:Int):PV.agg [cell (r3 p i e) 0,cell (r3 p i e) 1,cell (r3 p i e) 2]=r3 p i e:=rfl
theorem r3F(p i e:Int):PV.agg [.int .i64 p,.int .i64 i,.int .i64 e]=r3 p i e:=rfl
theorem zD(p i e q j f:Int):eC [.rs 3 [r3 p i e,r3 q j f]]=some (if e=0 then(if f=0 then r3 0 0 0 else r3 q j f)else r3 p i e):=by
 simp only[eC,vM,ak,IS,U];have h0:=aO (body:=lI) (fun k=>([r3 p i e,r3 q j f],(2:Int),(k:Int),0,0,0,())) 2 (fun k=>if k=0 then(if e=0 then none else some (some (r3 p i e)))else(if f=0 then none else some (some (r3 q j f)))) (fin:=some (r3 0 0 0)) (fun k hk rec=>?_) (fun rec=>?_) (by decide) (s0:=([r3 p i e,r3 q j f],(2:Int),0,0,0,0,())) rfl
 ·refine h0.trans ?_;have:List.range 2=[0,1]:=rfl;grind [bP]
 ·have h2:k=0∨k=1:=by omega
  rcases h2 with rfl|rfl
  ·unfold lI;dsimp only;rw[BY (by simp),af];simp only[aoh,U,VV,asInt,IS,gd,r3E,ah (show 0<9223372036854775807 by omega)];by_cases he:e=0
   ·simp only[he,anR,ag0,tc,PS,IS];rfl
   ·simp only[he,anJ,anM,PS,IS];rfl
  ·unfold lI;dsimp only;rw[BY (by simp),af];simp only[apa,aoh,U,VV,asInt,IS,gd,r3E,ah (show 1<9223372036854775807 by omega)];by_cases he:f=0
   ·simp only[he,anR,ag0,tc,PS,IS];rfl
   ·simp only[he,anJ,anM,PS,IS];rfl
 rfl
theorem RG(p:Int)(x:Int×Int):prt p x=if x.2=0 then r3 0 0 0 else r3 p x.1 x.2:=rfl
theorem wK{l:List Stop}(h:(fP l).2=0):l.length≤64:=by unfold fP at h;grind
theorem Ir(a b:Int):(a==b)=decide (a=b):=dY a b
theorem RH(N:ay)(h:N.Ok)(hp:N.paths.length≤8192):mH [N.pv]=some (jx (dZ N)):=by
 have hs:=KB N.stops h.stops;have hr:=Ih N.ae h.ae;have hu:=Mr N h.runs;have hl:=Jr N h.runs h.ar.1;have hf:=Ii N.av N.aQ N.within N.cap h.av;unfold xL at hf;simp only[mH,vN,BQ,BR,BS,BT,BU,BV,BW,BX,BZ,B0,U,Mo];simp only[hs,hr,hf,hu,hl,U,res,cz,alx,anx,Nat.reduceAdd,IS,aki,amr,O1,WZ,r3F,zD];unfold dZ;by_cases h1:(fP N.stops).2=0
 ·have hpa:=Jq N (wK h1) hp;simp only[hpa,U,h1,IS];by_cases h2:(ec N.ae).2=0
  ·simp only[h2,IS];rw[RG 2,RG 3,RG 4];by_cases h3:(gr N.runs N.stops.length N.ae.length).2=0
   ·simp only[h3,IS];by_cases h4:(gS N.runs N.ar).2=0
    ·simp only[h4,IS];by_cases h5:(cC N.paths N.stops.length).2=0
     ·simp only[h5,IS];by_cases h6:(cX N.av N.aQ N.within N.cap).2=0
      ·simp only[h6,IS,WZ,r3F,Zl,Zm,VV,asInt,U,zD,Ir,anR,anJ,tc,jx]
      ·simp only[h6,IS,PS,WZ,r3F,Zl,Zm,VV,asInt,U,zD,Ir,anR,anJ,tc,jx]
     ·simp only[h5,IS,PS,WZ,r3F,Zl,Zm,VV,asInt,U,zD,Ir,anR,anJ,tc,jx]
    ·simp only[h4,IS,PS,WZ,r3F,Zl,Zm,VV,asInt,U,zD,Ir,anR,anJ,tc,jx]
   ·simp only[h3,IS,PS,WZ,r3F,Zl,Zm,VV,asInt,U,zD,Ir,anR,anJ,tc,jx]
  ·simp only[h2,IS,PS,WZ,r3F,Zl,Zm,VV,asInt,U,zD,Ir,anR,anJ,tc,jx]
 ·simp only[h1,IS,PS,WZ,r3F,Zl,Zm,VV,asInt,U,zD,Ir,anR,anJ,tc,jx]
theorem Mu(N:ay)(h:N.Ok)(hn:N.stops.length≤64)(hp:N.paths.length≤8192):bd.run pk (0,N.stops.map Stop.pv,N.ae.map az.pv,N.runs.map aX.pv,N.ar.map aD.pv,N.paths.map Path.pv,N.av.map aS.pv,N.aQ,N.within,N.cap,())=some (jx (if(bM (cY N.runs N.ar) N.ar.length).2=0 then
  if(cC N.paths N.stops.length).2=0 then if(cX N.av N.aQ N.within N.cap).2=0 then(0,0,0)else(5,cX N.av N.aQ N.within N.cap)
  else(4,cC N.paths N.stops.length)
 else(3,bM (cY N.runs N.ar) N.ar.length))):=by
 have hm:=aL
 have QQ:=h.ar.1
 have hpa:=VX N hn hp
 have hf:=VT N.av N.aQ N.within N.cap h.av
 unfold xL at hf
 have hg:=nU (cY N.runs N.ar) N.ar.length (fun i e=>jx (3,i,e)) (some (jx (if(cC N.paths N.stops.length).2=0 then if(cX N.av N.aQ N.within N.cap).2=0 then(0,0,0)else(5,cX N.av N.aQ N.within N.cap)else(4,cC N.paths N.stops.length))))
 have hR:(if(bM (cY N.runs N.ar) N.ar.length).2=0 then(some (jx (if(cC N.paths N.stops.length).2=0 then if(cX N.av N.aQ N.within N.cap).2=0 then(0,0,0)else(5,cX N.av N.aQ N.within N.cap)else(4,cC N.paths N.stops.length))))else some (jx (3,(bM (cY N.runs N.ar) N.ar.length).1,(bM (cY N.runs N.ar) N.ar.length).2)))=some (jx (if(bM (cY N.runs N.ar) N.ar.length).2=0 then
   if(cC N.paths N.stops.length).2=0 then if(cX N.av N.aQ N.within N.cap).2=0 then(0,0,0)else(5,cX N.av N.aQ N.within N.cap)
   else(4,cC N.paths N.stops.length)
  else(3,bM (cY N.runs N.ar) N.ar.length))):=by
  grind
 rw[←hR,←hg]
 refine Bk (fun k=>((k:Int),N.stops.map Stop.pv,N.ae.map az.pv,N.runs.map aX.pv,N.ar.map aD.pv,N.paths.map Path.pv,N.av.map aS.pv,N.aQ,N.within,N.cap,())) N.ar.length _ (fun k hk Hx rec=>?_) (fun _ rec=>?_) (by have:=aN;omega) rfl
 ·have aic:∀j,j<k→cY N.runs N.ar j=0:=fun j hj=>by simp_all
  have Od:=Zu N h.runs QQ k hk aic;have h1:decide ((k:Int)<((N.ar.map aD.pv).length:Int))=true:=by simp;omega
  unfold pk;dsimp only;rw[BY h1,Mo,Od];simp only[U,asInt,IS,gd,ah (show k<9223372036854775807 by omega)];by_cases he:cY N.runs N.ar k=0
  ·simp only[he,anR,ag0,tc,PS,IS];rfl
  ·simp only[he,anJ,anM,PS,IS];rfl
 ·unfold pk;dsimp only;rw[IT (by simp),Mo,hpa];simp only[U,res,cz,alx,anx,Nat.reduceAdd,IS,aki,amr,asInt,gd,hf];by_cases h5:(cC N.paths N.stops.length).2=0
  ·simp only[h5,anR,ag0,tc,PS,IS];by_cases h6:(cX N.av N.aQ N.within N.cap).2=0
   ·simp_all[anR,ag0,tc,PS,IS,jx]
   simp_all[anJ,anM,tc,PS,IS,jx]
  simp_all[anJ,anM,tc,PS,IS,jx]
theorem V2(N:ay)(h:N.Ok)(hp:N.paths.length≤8192):qR [N.pv]=some (jx (dZ N)):=by
 have hm:=aL;have cQ:8192≤maxLen:=by decide
 have hs:=VS N.stops h.stops;have hr:=Rx N.ae h.ae;simp only[qR,zF,BQ,BR,BS,BT,BU,BV,BW,BX,BZ,B0,U];simp only[hs,hr,U,res,cz,alx,anx,Nat.reduceAdd,IS,aki,amr,asInt,gd];unfold dZ;by_cases h1:(fP N.stops).2=0
 ·have qB:=Mu N h (wK h1) hp;simp only[h1,anR,ag0,tc,PS,IS];by_cases h2:(ec N.ae).2=0
  ·simp only[h2,anR,ag0,tc,PS,IS];unfold gr;by_cases pU:N.runs.length>1024
   ·rw[BY (by simp;omega),BY pU];rfl
   ·rw[IT (by simp;omega),IT pU];generalize hE:kW N.runs N.stops.length N.ae.length=E;generalize hF:(if(gS N.runs N.ar).2=0 then
     if(cC N.paths N.stops.length).2=0 then if(cX N.av N.aQ N.within N.cap).2=0 then((0:Int),(0:Int),(0:Int))else(5,cX N.av N.aQ N.within N.cap)
     else(4,cC N.paths N.stops.length)
    else(3,gS N.runs N.ar))=F
    have hg:=nU E N.runs.length (fun i e=>jx (2,i,e)) (some (jx F));have hR:(if(bM E N.runs.length).2=0 then some (jx F)else some (jx (2,(bM E N.runs.length).1,(bM E N.runs.length).2)))=some (jx (if(bM E N.runs.length).2=0 then F else(2,bM E N.runs.length))):=by grind
    rw[←hR,←hg];refine aO (fun k=>((k:Int),N.stops.map Stop.pv,N.ae.map az.pv,N.runs.map aX.pv,N.ar.map aD.pv,N.paths.map Path.pv,N.av.map aS.pv,N.aQ,N.within,N.cap,())) N.runs.length _ (fun k hk rec=>?_) (fun rec=>?_) (by have:=aN;omega) rfl
    ·have Ln:=adt N h.runs k hk;rw[hE]at Ln;have h1:decide ((k:Int)<((N.runs.map aX.pv).length:Int))=true:=by simp;omega
     unfold tV;dsimp only;rw[BY h1,Mo,Ln];simp only[U,asInt,IS,gd,ah (show k<9223372036854775807 by omega)];by_cases he:E k=0
     ·simp only[he,anR,ag0,tc,PS,IS];rfl
     ·simp only[he,anJ,anM,PS,IS];rfl
    ·unfold tV;dsimp only;rw[IT (by simp),←hF];unfold gS;by_cases UF:N.ar.length>1024
     ·rw[BY (by simp;omega),BY UF];rfl
     grind
  simp_all[anJ,anM,tc,PS,IS,jx]
 simp_all[anJ,anM,tc,PS,IS,jx]
theorem RI{N:ay}(h:(dZ N).2.2=0):∀k,k<N.runs.length→kW N.runs N.stops.length N.ae.length k=0:=by
 unfold dZ at h;by_cases h1:(fP N.stops).2=0
 ·rw[BY h1]at h;by_cases h2:(ec N.ae).2=0
  ·rw[BY h2]at h;by_cases h3:(gr N.runs N.stops.length N.ae.length).2=0
   ·unfold gr at h3;by_cases pU:N.runs.length>1024
    ·simp_all
    simp_all[IT,im]
   simp_all
  simp_all
 simp_all
theorem Fx{N:ay}(h:(dZ N).2.2=0):∀r∈N.runs,(bD r.calls N.stops.length 0 3155932800).2=0:=by intro r hr;obtain⟨k,hk,rfl⟩:=apb hr;have:=RI h k hk;unfold kW at this;grind
theorem zG{l:List ai}{n a b:Int}(h:(bD l n a b).2=0):2≤l.length∧l.length≤32:=by unfold bD at h;grind
theorem Fy{l:List ai}{n a b:Int}(h:(bD l n a b).2=0):∀k,k<l.length→mD l n a b k=0:=by
 unfold bD at h;by_cases hc:(decide ((l.length:Int)<2)||decide ((l.length:Int)>32))=true
 ·simp_all
 simp_all[IT,im]
theorem tW{c:ai}{p:Option ai}{n a b:Int}(h:kr c p n a b=0):c.arr≤c.dep∧a≤c.arr∧c.dep≤b∧∀q,p=some q→q.dep≤c.arr:=by unfold kr at h;grind
theorem OI(N:ay)(h:N.Ok)(hp:N.paths.length≤8192):mq [N.pv]=some (.bool (decide ((dZ N).2.2=0))):=by have hc:=V2 N h hp;simp only[mq,zH,BQ,BR,BS,BT,BU,BV,BW,BX,BZ,B0,U,Mo,hc];rfl
theorem Stop.peq(x y:Stop):bR [cell x.pv 0,cell x.pv 1,cell x.pv 2,cell x.pv 3] [cell y.pv 0,cell y.pv 1,cell y.pv 2,cell y.pv 3]=decide (x=y):=by cases x;cases y;rw[anS];simp[cell,Stop.pv,PV.cells,bR,Ab.peq]
theorem az.peq(x y:az):bR [cell x.pv 0,cell x.pv 1,cell x.pv 2] [cell y.pv 0,cell y.pv 1,cell y.pv 2]=decide (x=y):=by cases x;cases y;rw[anS];simp[cell,az.pv,PV.cells,bR,Ab.peq]
theorem ai.peq(x y:ai):bR [cell x.pv 0,cell x.pv 1,cell x.pv 2,cell x.pv 3,cell x.pv 4] [cell y.pv 0,cell y.pv 1,cell y.pv 2,cell y.pv 3,cell y.pv 4]=decide (x=y):=by cases x;cases y;rw[anS];simp[cell,ai.pv,PV.cells,bR,Ab.peq]
theorem aD.peq(x y:aD):bR [cell x.pv 0,cell x.pv 1,cell x.pv 2,cell x.pv 3,cell x.pv 4] [cell y.pv 0,cell y.pv 1,cell y.pv 2,cell y.pv 3,cell y.pv 4]=decide (x=y):=by cases x;cases y;rw[anS];simp[cell,aD.pv,PV.cells,bR,Ab.peq]
theorem Path.peq(x y:Path):bR [cell x.pv 0,cell x.pv 1,cell x.pv 2,cell x.pv 3] [cell y.pv 0,cell y.pv 1,cell y.pv 2,cell y.pv 3]=decide (x=y):=by cases x;cases y;rw[anS];simp[cell,Path.pv,PV.cells,bR,Ab.peq]
theorem aS.peq(x y:aS):bR [cell x.pv 0,cell x.pv 1,cell x.pv 2,cell x.pv 3,cell x.pv 4,cell x.pv 5] [cell y.pv 0,cell y.pv 1,cell y.pv 2,cell y.pv 3,cell y.pv 4,cell y.pv 5]=decide (x=y):=by cases x;cases y;rw[anS];simp[cell,aS.pv,PV.cells,bR,Ab.peq]
theorem uO{a b:Nat}:((a:Int) !=(b:Int))= !decide (a=b):=by grind
theorem L8{c:Prop}[Decidable c]:(if c then some (PV.bool true)else some (PV.bool false))=some (PV.bool (decide c)):=by grind
theorem Mv(a b:List ai)(ha:a.length≤maxLen):ky [.rs 5 (a.map ai.pv),.rs 5 (b.map ai.pv)]=some (.bool (decide (a=b))):=by
 have hm:=aL;simp only[ky,rO,ak,IS,U,By];by_cases h:a.length=b.length
 ·rw[IT (by rw[uO];simp[h])];refine(aO (fun k=>(a.map ai.pv,b.map ai.pv,(k:Int),())) a.length (fun k=>if a[k]?=b[k]? then none else some (some (PV.bool false))) (fun k hk rec=>?_) (fin:=some (PV.bool true)) (fun rec=>?_) (by have:=aN;omega) rfl).trans ?_
  ·have h1:decide ((k:Int)<(a.length:Int))=true:=by simp;omega
   have nM:k<b.length:=by omega
   unfold nq;dsimp only;try rw[By]
   rw[BY h1,af,af,AT,AT,ta hk,ta nM];simp only[No,U];rw[BY ⟨rfl,rfl⟩,ai.peq,ah (by omega)];grind [bP]
  ·simp[nq,IT]
  ·exact(qF a b h (some (PV.bool false)) (some (PV.bool true))).trans L8
 ·rw[BY (by rw[uO];simp[h])];have:a≠b:=fun e=>h (by rw[e]);simp[this]
def zI(l:List aS)(d w c:Int):PV:=.agg [.rs 6 (l.map aS.pv),.int .i64 d,.int .i64 w,.int .i64 c]
theorem sE(a b:List aS)(d1 w1 c1 d2 w2 c2:Int)(ha:a.length≤maxLen):kz [zI a d1 w1 c1,zI b d2 w2 c2]=some (.bool (decide (d1=d2)&&decide (w1=w2)&&decide (c1=c2)&&decide (a=b))):=by
 have hm:=aL;have f0:∀l d w c,asAgg 4 (zI l d w c)=some ():=fun _ _ _ _=>rfl;have f1:∀l d w c,cell (zI l d w c) 0=.rs 6 (l.map aS.pv):=fun _ _ _ _=>rfl;have f2:∀l d w c,cell (zI l d w c) 1=.int .i64 d:=fun _ _ _ _=>rfl;have f3:∀l d w c,cell (zI l d w c) 2=.int .i64 w:=fun _ _ _ _=>rfl;have f4:∀l d w c,cell (zI l d w c) 3=.int .i64 c:=fun _ _ _ _=>rfl;simp only[kz,rP,f0,f1,f2,f3,f4,ak,asInt,IS,U,By,uO,gd,aT];by_cases h:a.length=b.length
 ·by_cases e1:d1=d2
  ·by_cases e2:w1=w2
   ·by_cases e3:c1=c2
    ·rw[IT (by simp[h,e1,e2,e3])];simp only[e1,e2,e3,anR,aoB];refine(aO (fun k=>((k:Int),a.map aS.pv,d2,w2,c2,b.map aS.pv,d2,w2,c2,())) a.length (fun k=>if a[k]?=b[k]? then none else some (some (PV.bool false))) (fun k hk rec=>?_) (fin:=some (PV.bool true)) (fun rec=>?_) (by have:=aN;omega) rfl).trans ?_
     ·have h1:decide ((k:Int)<(a.length:Int))=true:=by simp;omega
      have nM:k<b.length:=by omega
      unfold nr;dsimp only;try rw[By]
      rw[BY h1,af,af,AT,AT,ta hk,ta nM];simp only[No,U];rw[BY ⟨rfl,rfl⟩,aS.peq,ah (by omega)];grind [bP]
     ·simp[nr,IT]
     ·exact(qF a b h (some (PV.bool false)) (some (PV.bool true))).trans L8
    simp_all
   simp_all
  simp_all
 ·rw[BY (by grind)];have:a≠b:=fun e=>h (by rw[e]);simp[this]
theorem Ti(x y:aX):decide (x=y)=(decide (x.aZ=y.aZ)&&decide (x.day=y.day)&&decide (x.inst=y.inst)&&decide (x.id=y.id)&&decide (x.aY=y.aY)&&decide (x.free=y.free)&&decide (x.rr=y.rr)&&decide (x.calls=y.calls)):=by cases x;cases y;grind
theorem uZ(a b:List aX)(ha:a.length≤maxLen)(hc:∀x∈a,x.calls.length≤maxLen):lJ [.rs 8 (a.map aX.pv),.rs 8 (b.map aX.pv)]=some (.bool (decide (a=b))):=by
 have hm:=aL;simp only[lJ,tX,ak,IS,U,By];by_cases h:a.length=b.length
 ·rw[IT (by rw[uO];simp[h])];refine(aO (fun k=>(a.map aX.pv,b.map aX.pv,(k:Int),())) a.length (fun k=>if a[k]?=b[k]? then none else some (some (PV.bool false))) (fun k hk rec=>?_) (fin:=some (PV.bool true)) (fun rec=>?_) (by have:=aN;omega) rfl).trans ?_
  ·have h1:decide ((k:Int)<(a.length:Int))=true:=by simp;omega
   have nM:k<b.length:=by omega
   have iW:=Mv a[k].calls b[k].calls (hc _ (agZ hk));unfold pn;dsimp only;rw[By,BY h1,af,af,AT,AT,ta hk,ta nM];simp only[No,U,L9,HS,Ma,OB,VB,YN,YO,FX,asInt,bt,asBool,ak,IS,iW,aT,gd,dY,ah (show k<9223372036854775807 by omega)];have hd:=Ti a[k] b[k];by_cases he:a[k]=b[k]
   ·simp[he,bP]
   ·rw[BY,IT (by simpa using he)]
    ·rfl
    grind
  ·simp[pn,IT]
  ·exact(qF a b h (some (PV.bool false)) (some (PV.bool true))).trans L8
 ·rw[BY (by rw[uO];simp[h])];have:a≠b:=fun e=>h (by rw[e]);simp[this]
def eqN(A B:ay):Bool:=decide (A.stops=B.stops)&&decide (A.ae=B.ae)&&decide (A.ar=B.ar)&&decide (A.paths=B.paths)&&decide (A.runs=B.runs)&&(decide (A.aQ=B.aQ)&&decide (A.within=B.within)&&decide (A.cap=B.cap)&&decide (A.av=B.av))
theorem YR(A:ay):eqN A A=true:=by simp[eqN]
def RJ(A B:ay):Bool:=decide (A.runs=B.runs)&&(decide (A.aQ=B.aQ)&&decide (A.within=B.within)&&decide (A.cap=B.cap)&&decide (A.av=B.av))
theorem V3(A B:ay)(hA:A.Ok)(h:A.paths.length=B.paths.length):bd.run (jd) (0,A.stops.map Stop.pv,A.ae.map az.pv,A.runs.map aX.pv,A.ar.map aD.pv,A.paths.map Path.pv,A.av.map aS.pv,A.aQ,A.within,A.cap,B.stops.map Stop.pv,B.ae.map az.pv,B.runs.map aX.pv,B.ar.map aD.pv,B.paths.map Path.pv,B.av.map aS.pv,B.aQ,B.within,B.cap,())=if A.paths=B.paths then some (.bool (RJ A B))else some (.bool false):=by
 have hm:=aL;have hl:=hA.paths.1;have e1:=uZ A.runs B.runs hA.runs.1 (fun x hx=>(hA.runs.2 x hx).calls.1);have e2:=sE A.av B.av A.aQ A.within A.cap B.aQ B.within B.cap hA.av.1;unfold zI at e2;generalize Ej:(some (.bool (RJ A B)):Option PV)=fin;generalize ha:A.paths=a at h hl⊢;generalize hb:B.paths=b at h⊢;refine(aO (fun k=>((k:Int),A.stops.map Stop.pv,A.ae.map az.pv,A.runs.map aX.pv,A.ar.map aD.pv,a.map Path.pv,A.av.map aS.pv,A.aQ,A.within,A.cap,B.stops.map Stop.pv,B.ae.map az.pv,B.runs.map aX.pv,B.ar.map aD.pv,b.map Path.pv,B.av.map aS.pv,B.aQ,B.within,B.cap,())) a.length (fun k=>if a[k]?=b[k]? then none else some (some (PV.bool false))) (fun k hk rec=>?_) (fin:=fin) (fun rec=>?_) (by have:=aN;omega) rfl).trans ?_
 ·have h1:decide ((k:Int)<(a.length:Int))=true:=by simp;omega
  have nM:k<b.length:=by omega
  unfold jd;dsimp only;try rw[By]
  rw[BY h1,af,af,AT,AT,ta hk,ta nM];simp only[No,U];rw[BY ⟨rfl,rfl⟩,Path.peq,ah (by omega)];grind [bP]
 ·subst ha;subst hb;rw[←Ej];unfold jd;dsimp only;rw[IT (by simp)];simp only[e1,e2,U,asBool,bL];rfl
 ·exact qF a b h _ _
theorem V4(A B:ay)(hA:A.Ok)(h:A.ar.length=B.ar.length):bd.run (je bd) (0,A.stops.map Stop.pv,A.ae.map az.pv,A.runs.map aX.pv,A.ar.map aD.pv,A.paths.map Path.pv,A.av.map aS.pv,A.aQ,A.within,A.cap,B.stops.map Stop.pv,B.ae.map az.pv,B.runs.map aX.pv,B.ar.map aD.pv,B.paths.map Path.pv,B.av.map aS.pv,B.aQ,B.within,B.cap,())=if A.ar=B.ar then bd.run (jd) (0,A.stops.map Stop.pv,A.ae.map az.pv,A.runs.map aX.pv,A.ar.map aD.pv,A.paths.map Path.pv,A.av.map aS.pv,A.aQ,A.within,A.cap,B.stops.map Stop.pv,B.ae.map az.pv,B.runs.map aX.pv,B.ar.map aD.pv,B.paths.map Path.pv,B.av.map aS.pv,B.aQ,B.within,B.cap,())else some (.bool false):=by
 have hm:=aL;have hl:=hA.ar.1;have e1:=uZ A.runs B.runs hA.runs.1 (fun x hx=>(hA.runs.2 x hx).calls.1);have e2:=sE A.av B.av A.aQ A.within A.cap B.aQ B.within B.cap hA.av.1;unfold zI at e2;generalize Ej:(bd.run (jd) (0,A.stops.map Stop.pv,A.ae.map az.pv,A.runs.map aX.pv,A.ar.map aD.pv,A.paths.map Path.pv,A.av.map aS.pv,A.aQ,A.within,A.cap,B.stops.map Stop.pv,B.ae.map az.pv,B.runs.map aX.pv,B.ar.map aD.pv,B.paths.map Path.pv,B.av.map aS.pv,B.aQ,B.within,B.cap,()):Option PV)=fin;generalize ha:A.ar=a at h hl⊢;generalize hb:B.ar=b at h⊢;refine(aO (fun k=>((k:Int),A.stops.map Stop.pv,A.ae.map az.pv,A.runs.map aX.pv,a.map aD.pv,A.paths.map Path.pv,A.av.map aS.pv,A.aQ,A.within,A.cap,B.stops.map Stop.pv,B.ae.map az.pv,B.runs.map aX.pv,b.map aD.pv,B.paths.map Path.pv,B.av.map aS.pv,B.aQ,B.within,B.cap,())) a.length (fun k=>if a[k]?=b[k]? then none else some (some (PV.bool false))) (fun k hk rec=>?_) (fin:=fin) (fun rec=>?_) (by have:=aN;omega) rfl).trans ?_
 ·have h1:decide ((k:Int)<(a.length:Int))=true:=by simp;omega
  have nM:k<b.length:=by omega
  unfold je;dsimp only;try rw[By]
  rw[BY h1,af,af,AT,AT,ta hk,ta nM];simp only[No,U];rw[BY ⟨rfl,rfl⟩,aD.peq,ah (by omega)];grind [bP]
 ·simp_all[je,IT]
 ·exact qF a b h _ _
theorem V5(A B:ay)(hA:A.Ok)(h:A.ae.length=B.ae.length):bd.run (jf bd) (0,A.stops.map Stop.pv,A.ae.map az.pv,A.runs.map aX.pv,A.ar.map aD.pv,A.paths.map Path.pv,A.av.map aS.pv,A.aQ,A.within,A.cap,B.stops.map Stop.pv,B.ae.map az.pv,B.runs.map aX.pv,B.ar.map aD.pv,B.paths.map Path.pv,B.av.map aS.pv,B.aQ,B.within,B.cap,())=if A.ae=B.ae then bd.run (je bd) (0,A.stops.map Stop.pv,A.ae.map az.pv,A.runs.map aX.pv,A.ar.map aD.pv,A.paths.map Path.pv,A.av.map aS.pv,A.aQ,A.within,A.cap,B.stops.map Stop.pv,B.ae.map az.pv,B.runs.map aX.pv,B.ar.map aD.pv,B.paths.map Path.pv,B.av.map aS.pv,B.aQ,B.within,B.cap,())else some (.bool false):=by
 have hm:=aL;have hl:=hA.ae.1;have e1:=uZ A.runs B.runs hA.runs.1 (fun x hx=>(hA.runs.2 x hx).calls.1);have e2:=sE A.av B.av A.aQ A.within A.cap B.aQ B.within B.cap hA.av.1;unfold zI at e2;generalize Ej:(bd.run (je bd) (0,A.stops.map Stop.pv,A.ae.map az.pv,A.runs.map aX.pv,A.ar.map aD.pv,A.paths.map Path.pv,A.av.map aS.pv,A.aQ,A.within,A.cap,B.stops.map Stop.pv,B.ae.map az.pv,B.runs.map aX.pv,B.ar.map aD.pv,B.paths.map Path.pv,B.av.map aS.pv,B.aQ,B.within,B.cap,()):Option PV)=fin;generalize ha:A.ae=a at h hl⊢;generalize hb:B.ae=b at h⊢;refine(aO (fun k=>((k:Int),A.stops.map Stop.pv,a.map az.pv,A.runs.map aX.pv,A.ar.map aD.pv,A.paths.map Path.pv,A.av.map aS.pv,A.aQ,A.within,A.cap,B.stops.map Stop.pv,b.map az.pv,B.runs.map aX.pv,B.ar.map aD.pv,B.paths.map Path.pv,B.av.map aS.pv,B.aQ,B.within,B.cap,())) a.length (fun k=>if a[k]?=b[k]? then none else some (some (PV.bool false))) (fun k hk rec=>?_) (fin:=fin) (fun rec=>?_) (by have:=aN;omega) rfl).trans ?_
 ·have h1:decide ((k:Int)<(a.length:Int))=true:=by simp;omega
  have nM:k<b.length:=by omega
  unfold jf;dsimp only;try rw[By]
  rw[BY h1,af,af,AT,AT,ta hk,ta nM];simp only[No,U];rw[BY ⟨rfl,rfl⟩,az.peq,ah (by omega)];grind [bP]
 ·simp_all[jf,IT]
 ·exact qF a b h _ _
theorem V6(A B:ay)(hA:A.Ok)(h:A.stops.length=B.stops.length):bd.run (po bd) (0,A.stops.map Stop.pv,A.ae.map az.pv,A.runs.map aX.pv,A.ar.map aD.pv,A.paths.map Path.pv,A.av.map aS.pv,A.aQ,A.within,A.cap,B.stops.map Stop.pv,B.ae.map az.pv,B.runs.map aX.pv,B.ar.map aD.pv,B.paths.map Path.pv,B.av.map aS.pv,B.aQ,B.within,B.cap,())=if A.stops=B.stops then bd.run (jf bd) (0,A.stops.map Stop.pv,A.ae.map az.pv,A.runs.map aX.pv,A.ar.map aD.pv,A.paths.map Path.pv,A.av.map aS.pv,A.aQ,A.within,A.cap,B.stops.map Stop.pv,B.ae.map az.pv,B.runs.map aX.pv,B.ar.map aD.pv,B.paths.map Path.pv,B.av.map aS.pv,B.aQ,B.within,B.cap,())else some (.bool false):=by
 have hm:=aL;have hl:=hA.stops.1;have e1:=uZ A.runs B.runs hA.runs.1 (fun x hx=>(hA.runs.2 x hx).calls.1);have e2:=sE A.av B.av A.aQ A.within A.cap B.aQ B.within B.cap hA.av.1;unfold zI at e2;generalize Ej:(bd.run (jf bd) (0,A.stops.map Stop.pv,A.ae.map az.pv,A.runs.map aX.pv,A.ar.map aD.pv,A.paths.map Path.pv,A.av.map aS.pv,A.aQ,A.within,A.cap,B.stops.map Stop.pv,B.ae.map az.pv,B.runs.map aX.pv,B.ar.map aD.pv,B.paths.map Path.pv,B.av.map aS.pv,B.aQ,B.within,B.cap,()):Option PV)=fin;generalize ha:A.stops=a at h hl⊢;generalize hb:B.stops=b at h⊢;refine(aO (fun k=>((k:Int),a.map Stop.pv,A.ae.map az.pv,A.runs.map aX.pv,A.ar.map aD.pv,A.paths.map Path.pv,A.av.map aS.pv,A.aQ,A.within,A.cap,b.map Stop.pv,B.ae.map az.pv,B.runs.map aX.pv,B.ar.map aD.pv,B.paths.map Path.pv,B.av.map aS.pv,B.aQ,B.within,B.cap,())) a.length (fun k=>if a[k]?=b[k]? then none else some (some (PV.bool false))) (fun k hk rec=>?_) (fin:=fin) (fun rec=>?_) (by have:=aN;omega) rfl).trans ?_
 ·have h1:decide ((k:Int)<(a.length:Int))=true:=by simp;omega
  have nM:k<b.length:=by omega
  unfold po;dsimp only;try rw[By]
  rw[BY h1,af,af,AT,AT,ta hk,ta nM];simp only[No,U];rw[BY ⟨rfl,rfl⟩,Stop.peq,ah (by omega)];grind [bP]
 ·simp_all[po,IT]
 ·exact qF a b h _ _
theorem VC(A B:ay)(hA:A.Ok):qS [A.pv,B.pv]=some (.bool (eqN A B)):=by
 simp only[qS,zJ,BQ,BR,BS,BT,BU,BV,BW,BX,BZ,B0,U,aT,By,uO];unfold eqN;by_cases h1:A.stops.length=B.stops.length
 ·by_cases h2:A.ae.length=B.ae.length
  ·by_cases h3:A.ar.length=B.ar.length
   ·by_cases h4:A.paths.length=B.paths.length
    ·rw[IT (by simp[h1,h2,h3,h4]),V6 A B hA h1,V5 A B hA h2,V4 A B hA h3,V3 A B hA h4];unfold RJ;grind
    ·rw[BY (by simp[h4])];have:A.paths≠B.paths:=fun e=>h4 (by rw[e]);simp[this]
   ·rw[BY (by simp[h3])];have:A.ar≠B.ar:=fun e=>h3 (by rw[e]);simp[this]
  ·rw[BY (by simp[h2])];have:A.ae≠B.ae:=fun e=>h2 (by rw[e]);simp[this]
 ·rw[BY (by simp[h1])];have:A.stops≠B.stops:=fun e=>h1 (by rw[e]);simp[this]
theorem ck(es:List PV)(n:Nat)(h:es.length≤10000)(hn:0<n)(hn2:n≤1000):(([]:List PV)++es).length*n≤aa∧0<n:=by refine⟨?_,hn⟩;rw[aoT];have:es.length*n≤10000*1000:=apf h hn2;unfold aa;omega
theorem nu(es:List PV):List.take (((([]:List PV)++es).length:Int).toNat) (([]:List PV)++es)=es:=by simp
theorem HU(es:List PV)(h:es.length≤10000):dR [.rs 4 es]=some (.rs 4 es):=by simp only[dR,nb,ak,IS,U];rw[BY (ck es 40 h (by omega) (by omega)),BY ⟨by omega,by omega,by omega,trivial⟩,nu]
theorem Fk(es:List PV)(h:es.length≤10000):dA [.rs 3 es]=some (.rs 3 es):=by simp only[dA,l5,ak,IS,U];rw[BY (ck es 32 h (by omega) (by omega)),BY ⟨by omega,by omega,by omega,trivial⟩,nu]
theorem Kv(es:List PV)(h:es.length≤10000):eo [.rs 8 es]=some (.rs 8 es):=by simp only[eo,oH,ak,IS,U];rw[BY (ck es 80 h (by omega) (by omega)),BY ⟨by omega,by omega,by omega,trivial⟩,nu]
theorem HV(es:List PV)(h:es.length≤10000):dS [.rs 5 es]=some (.rs 5 es):=by simp only[dS,na,ak,IS,U];rw[BY (ck es 40 h (by omega) (by omega)),BY ⟨by omega,by omega,by omega,trivial⟩,nu]
theorem zk(es:List PV)(h:es.length≤10000):cN [.rs 4 es]=some (.rs 4 es):=by simp only[cN,jH,ak,IS,U];rw[BY (ck es 32 h (by omega) (by omega)),BY ⟨by omega,by omega,by omega,trivial⟩,nu]
theorem HW(es:List PV)(h:es.length≤10000):dU [.rs 5 es]=some (.rs 5 es):=by simp only[dU,mZ,ak,IS,U];rw[BY (ck es 32 h (by omega) (by omega)),BY ⟨by omega,by omega,by omega,trivial⟩,nu]
theorem Bi(es:List PV)(h:es.length≤10000):cW [.rs 6 es]=some (.rs 6 es):=by simp only[cW,j6,ak,IS,U];rw[BY (ck es 56 h (by omega) (by omega)),BY ⟨by omega,by omega,by omega,trivial⟩,nu]
variable{A:Type}
def mix(f g:A→PV)(l:List A)(k:Nat):List PV:=(l.take k).map f++(l.drop k).map g
theorem Zv(f g:A→PV)(l:List A):mix f g l 0=l.map g:=by rfl
theorem Tp(f g:A→PV)(l:List A):mix f g l l.length=l.map f:=by simp[mix]
theorem TB(f g:A→PV)(l:List A)(k:Nat):(mix f g l k).length=l.length:=by simp[mix];omega
theorem To(f g:A→PV)(l:List A)(k:Nat)(h:k<l.length):(mix f g l k)[k]?=some (g l[k]):=by unfold mix;grind
theorem Tn(f g:A→PV)(l:List A)(k:Nat)(h:k<l.length):(mix f g l k).set k (f l[k])=mix f g l (k+1):=by
 apply anX;intro j;rw[aod];unfold mix;by_cases hj:k=j
 ·grind
 grind
theorem eV(f g:A→PV)(l:List A)(k:Nat)(h:k<l.length)(p:PV):((mix f g l k).set k p)[k]?=some p:=by rw[aod,BY rfl,BY (by rw[TB];omega)]
theorem Md(f g:A→PV)(l:List A)(k:Nat)(h:k<l.length):aC (k:Int) (mix f g l k).length:=by rw[TB];exact⟨by omega,by omega⟩
def aX.vi(x:aX):PV:=.agg [.int .i64 x.aZ,.int .i64 x.day,.int .i64 x.inst,.str x.id,.int .i64 x.aY,.bool x.free,.bool x.rr,.jr 5 (x.calls.map ai.pv)]
theorem xF(l:List aX):(l.map aX.vi).map PV.strip=l.map aX.pv:=by rw[ao8];rfl
end Go.Ab.Tt
